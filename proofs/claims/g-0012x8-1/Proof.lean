import JvmDerived
import JvmDerived.Pilot.@@N@@Statement
import JvmDerived.Pilot.@@N@@Code
set_option linter.unusedVariables false
set_option linter.unusedSimpArgs false
@@BLOCK:NumsL.lean.txt@@
@@BLOCK:Masks.lean.txt@@
namespace Jvm.OwnMini
open Jvm Jvm.ClassFile Sem Op Lib Jvm.Free Jvm.Stand Jvm.LawKit Jvm.RoadKit
/-! A small machine over plain integers. A value: an int, a long or a reference (a cell's number). -/
abbrev OV := Sum Int (Sum Int Nat)
abbrev vi (z : Int) : OV := .inl z
abbrev vl (z : Int) : OV := .inr (.inl z)
abbrev vr (k : Nat) : OV := .inr (.inr k)
/-- an object's memory: cell (0: its scalar fields; j: its j-th array), index -/
abbrev OMem := Nat → Int → Int
abbrev OLs := List (Option OV)
def w32 (z : Int) : Int := (z + 2147483648) % 4294967296 - 2147483648
def w64 (z : Int) : Int := (z + 9223372036854775808) % 18446744073709551616 - 9223372036854775808
def and32 (a b : Int) : Int := (Int32.ofInt a &&& Int32.ofInt b).toInt
def or32 (a b : Int) : Int := (Int32.ofInt a ||| Int32.ofInt b).toInt
def xor32 (a b : Int) : Int := (Int32.ofInt a ^^^ Int32.ofInt b).toInt
def shl32 (a b : Int) : Int := (Int32.ofInt a <<< (Int32.ofInt b &&& 31)).toInt
def shr32 (a b : Int) : Int := (Int32.ofInt a >>> (Int32.ofInt b &&& 31)).toInt
def ushr32 (a b : Int) : Int := (XT.ushr (Int32.ofInt a) (Int32.ofInt b)).toInt
def and64 (a b : Int) : Int := (Int64.ofInt a &&& Int64.ofInt b).toInt
def or64 (a b : Int) : Int := (Int64.ofInt a ||| Int64.ofInt b).toInt
def xor64 (a b : Int) : Int := (Int64.ofInt a ^^^ Int64.ofInt b).toInt
def shl64 (a b : Int) : Int := (Int64.ofInt a <<< ((Int32.ofInt b).toInt64 &&& 63)).toInt
def shr64 (a b : Int) : Int := (Int64.ofInt a >>> ((Int32.ofInt b).toInt64 &&& 63)).toInt
def ushr64 (a b : Int) : Int := (XT.ushrL (Int64.ofInt a) (Int32.ofInt b)).toInt
def div32 (a b : Int) : Int := w32 (Int.tdiv a b)
def rem32 (a b : Int) : Int := Int.tmod a b
def div64 (a b : Int) : Int := w64 (Int.tdiv a b)
def rem64 (a b : Int) : Int := Int.tmod a b
def b8 (a : Int) : Int := (a + 128) % 256 - 128
def lcm (a b : Int) : Int := if b < a then 1 else if a = b then 0 else -1
def sto (m : OMem) (k : Nat) (i z : Int) : OMem := fun k' i' => if k' = k ∧ i' = i then z else m k' i'
def lget : OLs → Nat → Option OV
  | [], _ => none
  | x :: _, 0 => x
  | _ :: xs, n + 1 => lget xs n
def lput : OLs → Nat → Option OV → OLs
  | [], _, _ => []
  | _ :: xs, 0, v => v :: xs
  | x :: xs, n + 1, v => x :: lput xs n v
def killPrev (L : OLs) : Nat → OLs
  | 0 => L
  | j + 1 => match lget L j with
    | some (.inr (.inl _)) => lput L j none
    | _ => L
def lst1 (L : OLs) (k : Nat) (v : OV) : OLs := lput (killPrev L k) k (some v)
def lst2 (L : OLs) (k : Nat) (v : OV) : OLs := lput (lput (killPrev L k) k (some v)) (k + 1) none
def mask : Option (List Bool) → OLs → OLs
  | some (true :: bs), x :: xs => x :: mask (some bs) xs
  | some (false :: bs), _ :: xs => none :: mask (some bs) xs
  | _, xs => xs
section Pop
variable {β : Type}
def pi1 (S : List OV) (f : Int → List OV → Option β) : Option β := match S with | .inl a :: S' => f a S' | _ => none
def pi2 (S : List OV) (f : Int → Int → List OV → Option β) : Option β := match S with | .inl b :: .inl a :: S' => f a b S' | _ => none
def pl1 (S : List OV) (f : Int → List OV → Option β) : Option β := match S with | .inr (.inl a) :: S' => f a S' | _ => none
def pl2 (S : List OV) (f : Int → Int → List OV → Option β) : Option β := match S with | .inr (.inl b) :: .inr (.inl a) :: S' => f a b S' | _ => none
def pli (S : List OV) (f : Int → Int → List OV → Option β) : Option β := match S with | .inl b :: .inr (.inl a) :: S' => f a b S' | _ => none
def pr1 (S : List OV) (f : Nat → List OV → Option β) : Option β := match S with | .inr (.inr a) :: S' => f a S' | _ => none
def gi (L : OLs) (k : Nat) (f : Int → Option β) : Option β := match lget L k with | some (.inl a) => f a | _ => none
def gl (L : OLs) (k : Nat) (f : Int → Option β) : Option β := match lget L k with | some (.inr (.inl a)) => f a | _ => none
def gr (L : OLs) (k : Nat) (f : Nat → Option β) : Option β := match lget L k with | some (.inr (.inr a)) => f a | _ => none
def inL (L : OLs) (k : Nat) (x : Option β) : Option β := if k < L.length then x else none
def br (c : ClassFile.Cond) (a b : Int) (x y : Option β) : Option β := match c with
  | .eq => if a = b then x else y
  | .ne => if a = b then y else x
  | .lt => if a < b then x else y
  | .ge => if a < b then y else x
  | .gt => if b < a then x else y
  | .le => if b < a then y else x
def tsw (a : Int) : Int → List Int → (Int → Option β) → Option β → Option β
  | _, [], _, d => d
  | lo, o :: os, f, d => if a = lo then f o else tsw a (lo + 1) os f d
end Pop
def tgt (pc : Nat) (o : Int) : Nat := ((pc : Int) + o).toNat
def mcat : OV → Nat
  | .inr (.inl _) => 2
  | _ => 1
/-- the steps that touch no heap -/
def pstep {β : Type} (cst : Nat → Option OV) (i : Instr) (pc len : Nat) (L : OLs) (S : List OV) (k : Nat → OLs → List OV → Option β) : Option β :=
  match i with
  | .iconst z => k (pc + len) L (vi z :: S)
  | .bipush z => k (pc + len) L (vi z :: S)
  | .sipush z => k (pc + len) L (vi z :: S)
  | .lconst z => k (pc + len) L (vl (Int.ofNat z.val) :: S)
  | .ldc x => match cst x with | some (.inl z) => k (pc + len) L (vi z :: S) | _ => none
  | .ldc_w x => match cst x with | some (.inl z) => k (pc + len) L (vi z :: S) | _ => none
  | .ldc2_w x => match cst x with | some (.inr (.inl z)) => k (pc + len) L (vl z :: S) | _ => none
  | .iload x => gi L x fun z => k (pc + len) L (vi z :: S)
  | .iload_n x => gi L x.val fun z => k (pc + len) L (vi z :: S)
  | .lload x => gl L x fun z => k (pc + len) L (vl z :: S)
  | .lload_n x => gl L x.val fun z => k (pc + len) L (vl z :: S)
  | .aload x => gr L x fun z => k (pc + len) L (vr z :: S)
  | .aload_n x => gr L x.val fun z => k (pc + len) L (vr z :: S)
  | .istore x => pi1 S fun z S => inL L x (k (pc + len) (lst1 L x (vi z)) S)
  | .istore_n x => pi1 S fun z S => inL L x.val (k (pc + len) (lst1 L x.val (vi z)) S)
  | .lstore x => pl1 S fun z S => inL L (x + 1) (k (pc + len) (lst2 L x (vl z)) S)
  | .lstore_n x => pl1 S fun z S => inL L (x.val + 1) (k (pc + len) (lst2 L x.val (vl z)) S)
  | .astore x => pr1 S fun z S => inL L x (k (pc + len) (lst1 L x (vr z)) S)
  | .astore_n x => pr1 S fun z S => inL L x.val (k (pc + len) (lst1 L x.val (vr z)) S)
  | .iinc x c => gi L x fun z => inL L x (k (pc + len) (lst1 L x (vi (w32 (z + c)))) S)
  | .iadd => pi2 S fun a b S => k (pc + len) L (vi (w32 (a + b)) :: S)
  | .isub => pi2 S fun a b S => k (pc + len) L (vi (w32 (a - b)) :: S)
  | .imul => pi2 S fun a b S => k (pc + len) L (vi (w32 (a * b)) :: S)
  | .idiv => pi2 S fun a b S => if b = 0 then none else k (pc + len) L (vi (div32 a b) :: S)
  | .irem => pi2 S fun a b S => if b = 0 then none else k (pc + len) L (vi (rem32 a b) :: S)
  | .ineg => pi1 S fun a S => k (pc + len) L (vi (w32 (-a)) :: S)
  | .iand => pi2 S fun a b S => k (pc + len) L (vi (and32 a b) :: S)
  | .ior => pi2 S fun a b S => k (pc + len) L (vi (or32 a b) :: S)
  | .ixor => pi2 S fun a b S => k (pc + len) L (vi (xor32 a b) :: S)
  | .ishl => pi2 S fun a b S => k (pc + len) L (vi (shl32 a b) :: S)
  | .ishr => pi2 S fun a b S => k (pc + len) L (vi (shr32 a b) :: S)
  | .iushr => pi2 S fun a b S => k (pc + len) L (vi (ushr32 a b) :: S)
  | .ladd => pl2 S fun a b S => k (pc + len) L (vl (w64 (a + b)) :: S)
  | .lsub => pl2 S fun a b S => k (pc + len) L (vl (w64 (a - b)) :: S)
  | .lmul => pl2 S fun a b S => k (pc + len) L (vl (w64 (a * b)) :: S)
  | .ldiv => pl2 S fun a b S => if b = 0 then none else k (pc + len) L (vl (div64 a b) :: S)
  | .lrem => pl2 S fun a b S => if b = 0 then none else k (pc + len) L (vl (rem64 a b) :: S)
  | .lneg => pl1 S fun a S => k (pc + len) L (vl (w64 (-a)) :: S)
  | .land => pl2 S fun a b S => k (pc + len) L (vl (and64 a b) :: S)
  | .lor => pl2 S fun a b S => k (pc + len) L (vl (or64 a b) :: S)
  | .lxor => pl2 S fun a b S => k (pc + len) L (vl (xor64 a b) :: S)
  | .lshl => pli S fun a b S => k (pc + len) L (vl (shl64 a b) :: S)
  | .lshr => pli S fun a b S => k (pc + len) L (vl (shr64 a b) :: S)
  | .lushr => pli S fun a b S => k (pc + len) L (vl (ushr64 a b) :: S)
  | .lcmp => pl2 S fun a b S => k (pc + len) L (vi (lcm a b) :: S)
  | .i2l => pi1 S fun a S => k (pc + len) L (vl a :: S)
  | .l2i => pl1 S fun a S => k (pc + len) L (vi (w32 a) :: S)
  | .i2b => pi1 S fun a S => k (pc + len) L (vi (b8 a) :: S)
  | .goto o => k (tgt pc o) L S
  | .if_icmp c o => pi2 S fun a b S => br c a b (k (tgt pc o) L S) (k (pc + len) L S)
  | .ifCond c o => pi1 S fun a S => br c a 0 (k (tgt pc o) L S) (k (pc + len) L S)
  | .tableswitch d lo _ os => pi1 S fun a S => tsw a lo os.toList (fun o => k (tgt pc o) L S) (k (tgt pc d) L S)
  | .dup => match S with
    | .inr (.inl _) :: _ => none
    | v :: S' => k (pc + len) L (v :: v :: S')
    | _ => none
  | .dup2 => match S with
    | .inr (.inl z) :: S' => k (pc + len) L (vl z :: vl z :: S')
    | _ :: .inr (.inl _) :: _ => none
    | u :: v :: S' => k (pc + len) L (u :: v :: u :: v :: S')
    | _ => none
  | .pop => match S with
    | .inr (.inl _) :: _ => none
    | _ :: S' => k (pc + len) L S'
    | _ => none
  | _ => none
def ilen : Instr → Nat
  | .bipush _ | .iload _ | .lload _ | .aload _ | .istore _ | .lstore _ | .astore _ | .ldc _ | .newarray _ => 2
  | .sipush _ | .iinc _ _ | .goto _ | .if_icmp _ _ | .ifCond _ _ | .ldc_w _ | .ldc2_w _ | .getfield _ | .putfield _ | .invokevirtual _ | .invokespecial _ | .invokestatic _ | .new _ => 3
  | _ => 1
/-- what of an instruction's figures the laws ask -/
def chk (pc : Nat) (i : Instr) (len : Nat) : Bool :=
  match i with
  | .iconst z => len == 1 && decide (-32768 ≤ z) && decide (z ≤ 32767)
  | .bipush z => len == 2 && decide (-128 ≤ z) && decide (z ≤ 127)
  | .sipush z => len == 3 && decide (-32768 ≤ z) && decide (z ≤ 32767)
  | .iinc _ z => len == 3 && decide (-32768 ≤ z) && decide (z ≤ 32767)
  | .goto o => len == 3 && decide (0 ≤ (pc : Int) + o)
  | .if_icmp _ o => len == 3 && decide (0 ≤ (pc : Int) + o)
  | .ifCond _ o => len == 3 && decide (0 ≤ (pc : Int) + o)
  | .tableswitch d lo hi os => decide (0 ≤ (pc : Int) + d) && os.toList.all (fun o => decide (0 ≤ (pc : Int) + o)) && decide (hi = lo + os.toList.length - 1) && decide (-2147483648 ≤ lo) && decide (hi ≤ 2147483647)
  | i => len == ilen i
end Jvm.OwnMini
namespace Jvm.OwnMini
open Jvm Jvm.ClassFile Sem Op Lib Jvm.Free Jvm.Stand Jvm.LawKit Jvm.RoadKit
/-! The project's own methods: one object, its scalar fields (cell 0) and its arrays (cells 1, 2, ..). t: how far its maker has come (2 j: the first j arrays are made and laid). -/
abbrev CodeT := Nat → Nat → Option (Instr × Nat)
/-- by the pool's index: the field's number, its kind (0: array, 1 int, 2 boolean, 3 byte, 4 long), its cell, is it final -/
abbrev FldT := Nat → Option (Int × Nat × Nat × Bool)
/-- by the cell: kind, length -/
abbrev LayT := Nat → Option (Nat × Int)
/-- by the method: its parameters from the last to the first (is it a long), locals, kind of the result (0 none, 1 int, 2 boolean, 4 long), frames and words that it asks -/
abbrev InfT := Nat → Option (List Bool × Nat × Nat × Nat × Nat)
abbrev LivT := Nat → Nat → Option (List Bool)
abbrev PT := CodeT × FldT × LayT × (Nat → Option OV) × (Nat → Option Nat) × InfT × (Nat → Bool) × LivT
abbrev pcode (P : PT) : CodeT := P.1
abbrev pfld (P : PT) : FldT := P.2.1
abbrev play (P : PT) : LayT := P.2.2.1
abbrev pcst (P : PT) : Nat → Option OV := P.2.2.2.1
abbrev pmth (P : PT) : Nat → Option Nat := P.2.2.2.2.1
abbrev pinf (P : PT) : InfT := P.2.2.2.2.2.1
abbrev pobi (P : PT) : Nat → Bool := P.2.2.2.2.2.2.1
abbrev pliv (P : PT) : LivT := P.2.2.2.2.2.2.2
abbrev RT := Option (Option OV × Nat × OMem)
def akind : ArrayType → Nat
  | .int => 1
  | .boolean => 2
  | .byte => 3
  | .long => 4
  | _ => 0
def popA : List Bool → List OV → List OV → Option (List OV × List OV)
  | [], S, acc => some (acc, S)
  | false :: ts, .inl z :: S, acc => popA ts S (vi z :: acc)
  | true :: ts, .inr (.inl z) :: S, acc => popA ts S (vl z :: acc)
  | _, _, _ => none
def laid : List OV → OLs
  | [] => []
  | .inr (.inl z) :: as => some (vl z) :: none :: laid as
  | .inl z :: as => some (vi z) :: laid as
  | .inr (.inr z) :: as => some (vr z) :: laid as
def initL (as : List OV) (n : Nat) : OLs := laid as ++ List.replicate (n - (laid as).length) none
def cats : List OV → Nat
  | [] => 0
  | v :: S => mcat v + cats S
def pushR : Option OV → List OV → List OV
  | none, S => S
  | some v, S => v :: S
def ald (P : PT) (kd : Nat → Bool) (S : List OV) (t : Nat) (f : Nat → Int → List OV → RT) : RT :=
  match S with
  | .inl i :: .inr (.inr j) :: S' =>
    match play P j with
    | some (k, n) => cond (kd k && Nat.ble j (t / 2)) (if 0 ≤ i ∧ i < n then f j i S' else none) none
    | none => none
  | _ => none
def asi (P : PT) (kd : Nat → Bool) (S : List OV) (t : Nat) (f : Nat → Nat → Int → Int → List OV → RT) : RT :=
  match S with
  | .inl z :: .inl i :: .inr (.inr j) :: S' =>
    match play P j with
    | some (k, n) => cond (kd k && Nat.ble j (t / 2)) (if 0 ≤ i ∧ i < n then f k j i z S' else none) none
    | none => none
  | _ => none
def asl (P : PT) (kd : Nat → Bool) (S : List OV) (t : Nat) (f : Nat → Int → Int → List OV → RT) : RT :=
  match S with
  | .inr (.inl z) :: .inl i :: .inr (.inr j) :: S' =>
    match play P j with
    | some (k, n) => cond (kd k && Nat.ble j (t / 2)) (if 0 ≤ i ∧ i < n then f j i z S' else none) none
    | none => none
  | _ => none
/-- the instructions that touch the object, call or return -/
def isSpec : Instr → Bool
  | .getfield _ | .putfield _ | .iaload | .baload | .laload | .iastore | .bastore | .lastore | .arraylength | .newarray _ | .invokespecial _ | .invokevirtual _ | .ireturn | .lreturn | .return_ => true
  | _ => false
def stepS (P : PT) (k : Nat → Nat → OLs → List OV → Nat → OMem → RT) (q pc : Nat) (L : OLs) (S : List OV) (t : Nat) (m : OMem) (i : Instr) (len : Nat) : RT :=
  match i with
  | .getfield x =>
    match S with
    | .inr (.inr 0) :: S' =>
      match pfld P x with
      | some (_, 0, j, _) => cond (Nat.ble j (t / 2)) (k q (pc + len) L (vr j :: S') t m) none
      | some (f, 1, _, _) => k q (pc + len) L (vi (m 0 f) :: S') t m
      | some (f, 2, _, _) => k q (pc + len) L (vi (m 0 f) :: S') t m
      | some (f, 4, _, _) => k q (pc + len) L (vl (m 0 f) :: S') t m
      | _ => none
    | _ => none
  | .putfield x =>
    match pfld P x with
    | some (_, 0, j, fin) =>
      match S with
      | .inr (.inr j') :: .inr (.inr 0) :: S' => cond (Nat.beq j' j && Nat.beq (t + 1) (2 * j) && Nat.beq q 0) (k q (pc + len) L S' (t + 1) m) none
      | _ => none
    | some (f, 1, _, fin) =>
      match S with
      | .inl z :: .inr (.inr 0) :: S' => cond (!fin || Nat.beq q 0) (k q (pc + len) L S' t (sto m 0 f z)) none
      | _ => none
    | some (f, 2, _, fin) =>
      match S with
      | .inl z :: .inr (.inr 0) :: S' => cond (!fin || Nat.beq q 0) (k q (pc + len) L S' t (sto m 0 f (z % 2))) none
      | _ => none
    | some (f, 4, _, fin) =>
      match S with
      | .inr (.inl z) :: .inr (.inr 0) :: S' => cond (!fin || Nat.beq q 0) (k q (pc + len) L S' t (sto m 0 f z)) none
      | _ => none
    | _ => none
  | .iaload => ald P (fun kd => Nat.beq kd 1) S t fun j i S' => k q (pc + len) L (vi (m j i) :: S') t m
  | .baload => ald P (fun kd => Nat.beq kd 2 || Nat.beq kd 3) S t fun j i S' => k q (pc + len) L (vi (m j i) :: S') t m
  | .laload => ald P (fun kd => Nat.beq kd 4) S t fun j i S' => k q (pc + len) L (vl (m j i) :: S') t m
  | .iastore => asi P (fun kd => Nat.beq kd 1) S t fun _ j i z S' => k q (pc + len) L S' t (sto m j i z)
  | .bastore => asi P (fun kd => Nat.beq kd 2 || Nat.beq kd 3) S t fun kd j i z S' => k q (pc + len) L S' t (sto m j i (cond (Nat.beq kd 2) (z % 2) (b8 z)))
  | .lastore => asl P (fun kd => Nat.beq kd 4) S t fun j i z S' => k q (pc + len) L S' t (sto m j i z)
  | .arraylength =>
    match S with
    | .inr (.inr j) :: S' =>
      match play P j with
      | some (_, n) => cond (Nat.ble j (t / 2)) (k q (pc + len) L (vi n :: S') t m) none
      | none => none
    | _ => none
  | .newarray a =>
    match S with
    | .inl z :: S' =>
      match play P (t / 2 + 1) with
      | some (kd, n) => cond (Nat.beq (t % 2) 0 && Nat.beq kd (akind a) && Nat.beq q 0) (if z = n then k q (pc + len) L (vr (t / 2 + 1) :: S') (t + 1) m else none) none
      | none => none
    | _ => none
  | .invokespecial x =>
    match S with
    | .inr (.inr 0) :: S' =>
      match pinf P q with
      | some (_, _, _, fr, lc) => cond (pobi P x && Nat.ble 1 fr && Nat.ble (cats S' + 12) lc) (k q (pc + len) L S' t m) none
      | none => none
    | _ => none
  | .invokevirtual x =>
    match pmth P x with
    | some q' =>
      match pinf P q', pinf P q with
      | some (ps, ml, _, fr', lc'), some (_, _, _, fr, lc) =>
        match popA ps S [] with
        | some (as, .inr (.inr 0) :: S') =>
          cond (Nat.ble (fr' + 1) fr && Nat.ble (cats S' + (ml + 11) + lc') lc && !(Nat.beq q' 0) && Nat.ble (initL (vr 0 :: as) ml).length ml)
            ((k q' 0 (initL (vr 0 :: as) ml) [] t m).bind fun y => k q (pc + len) L (pushR y.1 S') y.2.1 y.2.2) none
        | _ => none
      | _, _ => none
    | none => none
  | .ireturn =>
    match S with
    | .inl z :: _ =>
      match pinf P q with
      | some (_, _, 1, _) => some (some (vi z), t, m)
      | some (_, _, 2, _) => some (some (vi (z % 2)), t, m)
      | _ => none
    | _ => none
  | .lreturn =>
    match S with
    | .inr (.inl z) :: _ =>
      match pinf P q with
      | some (_, _, 4, _) => some (some (vl z), t, m)
      | _ => none
    | _ => none
  | .return_ =>
    match S with
    | [] =>
      match pinf P q with
      | some (_, _, 0, _) => some (none, t, m)
      | _ => none
    | _ => none
  | _ => none
def stepI (P : PT) (k : Nat → Nat → OLs → List OV → Nat → OMem → RT) (q pc : Nat) (L : OLs) (S : List OV) (t : Nat) (m : OMem) (i : Instr) (len : Nat) : RT :=
  cond (isSpec i) (stepS P k q pc L S t m i len) (pstep (pcst P) i pc len L S fun pc' L' S' => k q pc' L' S' t m)
def stepP (P : PT) (k : Nat → Nat → OLs → List OV → Nat → OMem → RT) (q pc : Nat) (L : OLs) (S : List OV) (t : Nat) (m : OMem) : RT :=
  match pcode P q pc with
  | some (i, len) => stepI P k q pc (mask (pliv P q pc) L) S t m i len
  | none => none
def runP (P : PT) : Nat → Nat → Nat → OLs → List OV → Nat → OMem → RT
  | 0 => fun _ _ _ _ _ _ => none
  | n + 1 => stepP P (runP P n)
end Jvm.OwnMini
namespace Jvm.OwnMini
/-- a local variable, written short -/
abbrev qi (z : Int) : Option OV := some (vi z)
abbrev qj (z : Int) : Option OV := some (vl z)
abbrev qr (k : Nat) : Option OV := some (vr k)
abbrev qn : Option OV := none
end Jvm.OwnMini
namespace Jvm.OwnMini
open Jvm Jvm.ClassFile Sem Op Lib Jvm.Free Jvm.Stand Jvm.LawKit Jvm.RoadKit
/-! How the small machine's values stand for the JVM's. -/
def VR (A : Nat → Addr) (b : Nat) : OV → Value → Prop
  | .inl z, v => ∃ x : Int32, v = .int x ∧ x.toInt = z
  | .inr (.inl z), v => ∃ x : Int64, v = .long x ∧ x.toInt = z
  | .inr (.inr k), v => k ≤ b ∧ v = .ref (A k)
def SR (A : Nat → Addr) (b : Nat) : List OV → List Value → Prop
  | [], [] => True
  | v :: S, x :: X => VR A b v x ∧ SR A b S X
  | _, _ => False
/-- the local variables are well laid: behind a long (or double) its second half, and nowhere else -/
def WF (l : Array Slot) : Prop := (∀ k, l[k]? = some .second → ∃ j v, k = j + 1 ∧ l[j]? = some (.val v) ∧ v.category = 2) ∧ (∀ k v, l[k]? = some (.val v) → v.category = 2 → l[k + 1]? = some .second)
def LR (A : Nat → Addr) (b : Nat) (L : OLs) (Ls : Array Slot) : Prop := L.length = Ls.size ∧ (∀ k v, lget L k = some v → ∃ x, Ls[k]? = some (.val x) ∧ VR A b v x) ∧ WF Ls
section Rel
variable {A A' : Nat → Addr} {b b' : Nat}
theorem VR.mono {v : OV} {x : Value} (h : VR A b v x) (hA : ∀ j, j ≤ b → A' j = A j) (hb : b ≤ b') : VR A' b' v x := by
  rcases v with z | z | k
  · exact h
  · exact h
  · obtain ⟨h1, h2⟩ := h
    exact ⟨Nat.le_trans h1 hb, by rw [h2, hA k h1]⟩
theorem SR.mono (hA : ∀ j, j ≤ b → A' j = A j) (hb : b ≤ b') : ∀ {S : List OV} {X : List Value}, SR A b S X → SR A' b' S X
  | [], [], _ => trivial
  | _ :: _, _ :: _, ⟨h1, h2⟩ => ⟨h1.mono hA hb, SR.mono hA hb h2⟩
theorem LR.mono {L : OLs} {Ls : Array Slot} (h : LR A b L Ls) (hA : ∀ j, j ≤ b → A' j = A j) (hb : b ≤ b') : LR A' b' L Ls :=
  ⟨h.1, fun k v hk => by obtain ⟨x, h1, h2⟩ := h.2.1 k v hk; exact ⟨x, h1, h2.mono hA hb⟩, h.2.2⟩
theorem VR.cat {v : OV} {x : Value} (h : VR A b v x) (hv : mcat v = 1) : x.category = 1 := by
  rcases v with z | z | k
  · obtain ⟨y, rfl, -⟩ := h; rfl
  · cases hv
  · obtain ⟨-, rfl⟩ := h; rfl
theorem VR.cats {v : OV} {x : Value} (h : VR A b v x) : x.category = mcat v := by
  rcases v with z | z | k
  · obtain ⟨y, rfl, -⟩ := h; rfl
  · obtain ⟨y, rfl, -⟩ := h; rfl
  · obtain ⟨-, rfl⟩ := h; rfl
theorem SR.catsum : ∀ {S : List OV} {X : List Value}, SR A b S X → (X.map fun v => v.category).sum = cats S
  | [], [], _ => rfl
  | v :: S, x :: X, ⟨h1, h2⟩ => by
    show ((x.category :: X.map fun v => v.category)).sum = mcat v + cats S
    rw [List.sum_cons, h1.cats, SR.catsum h2]
theorem SR.i1 {z : Int} {S : List OV} {X : List Value} (h : SR A b (.inl z :: S) X) : ∃ y X', X = .int y :: X' ∧ y.toInt = z ∧ SR A b S X' := by
  cases X with
  | nil => exact h.elim
  | cons x X' => obtain ⟨⟨y, rfl, e⟩, h2⟩ := h; exact ⟨y, X', rfl, e, h2⟩
theorem SR.l1 {z : Int} {S : List OV} {X : List Value} (h : SR A b (.inr (.inl z) :: S) X) : ∃ y X', X = .long y :: X' ∧ y.toInt = z ∧ SR A b S X' := by
  cases X with
  | nil => exact h.elim
  | cons x X' => obtain ⟨⟨y, rfl, e⟩, h2⟩ := h; exact ⟨y, X', rfl, e, h2⟩
theorem SR.r1 {k : Nat} {S : List OV} {X : List Value} (h : SR A b (.inr (.inr k) :: S) X) : k ≤ b ∧ ∃ X', X = .ref (A k) :: X' ∧ SR A b S X' := by
  cases X with
  | nil => exact h.elim
  | cons x X' => obtain ⟨⟨hb, rfl⟩, h2⟩ := h; exact ⟨hb, X', rfl, h2⟩
theorem SR.i2 {z w : Int} {S : List OV} {X : List Value} (h : SR A b (.inl w :: .inl z :: S) X) : ∃ y x X', X = .int y :: .int x :: X' ∧ y.toInt = w ∧ x.toInt = z ∧ SR A b S X' := by
  obtain ⟨y, X', rfl, e, h⟩ := SR.i1 h
  obtain ⟨x, X', rfl, e', h⟩ := SR.i1 h
  exact ⟨y, x, X', rfl, e, e', h⟩
theorem SR.l2 {z w : Int} {S : List OV} {X : List Value} (h : SR A b (.inr (.inl w) :: .inr (.inl z) :: S) X) : ∃ y x X', X = .long y :: .long x :: X' ∧ y.toInt = w ∧ x.toInt = z ∧ SR A b S X' := by
  obtain ⟨y, X', rfl, e, h⟩ := SR.l1 h
  obtain ⟨x, X', rfl, e', h⟩ := SR.l1 h
  exact ⟨y, x, X', rfl, e, e', h⟩
theorem SR.li {z w : Int} {S : List OV} {X : List Value} (h : SR A b (.inl w :: .inr (.inl z) :: S) X) : ∃ y x X', X = .int y :: .long x :: X' ∧ y.toInt = w ∧ x.toInt = z ∧ SR A b S X' := by
  obtain ⟨y, X', rfl, e, h⟩ := SR.i1 h
  obtain ⟨x, X', rfl, e', h⟩ := SR.l1 h
  exact ⟨y, x, X', rfl, e, e', h⟩
theorem SR.ci {z : Int} {y : Int32} {S : List OV} {X : List Value} (hy : y.toInt = z) (h : SR A b S X) : SR A b (vi z :: S) (.int y :: X) := ⟨⟨y, rfl, hy⟩, h⟩
theorem SR.cj {z : Int} {y : Int64} {S : List OV} {X : List Value} (hy : y.toInt = z) (h : SR A b S X) : SR A b (vl z :: S) (.long y :: X) := ⟨⟨y, rfl, hy⟩, h⟩
theorem SR.cr {k : Nat} {S : List OV} {X : List Value} (hb : k ≤ b) (h : SR A b S X) : SR A b (vr k :: S) (.ref (A k) :: X) := ⟨⟨hb, rfl⟩, h⟩
theorem SR.cv {v : OV} {x : Value} {S : List OV} {X : List Value} (h1 : VR A b v x) (h : SR A b S X) : SR A b (v :: S) (x :: X) := ⟨h1, h⟩
end Rel
section Pops
variable {β : Type} {S : List OV} {L : OLs} {b : β}
theorem pi1_some {f : Int → List OV → Option β} (h : pi1 S f = some b) : ∃ a S', S = .inl a :: S' ∧ f a S' = some b := by
  match S, h with
  | .inl a :: S', h => exact ⟨a, S', rfl, h⟩
theorem pl1_some {f : Int → List OV → Option β} (h : pl1 S f = some b) : ∃ a S', S = .inr (.inl a) :: S' ∧ f a S' = some b := by
  match S, h with
  | .inr (.inl a) :: S', h => exact ⟨a, S', rfl, h⟩
theorem pr1_some {f : Nat → List OV → Option β} (h : pr1 S f = some b) : ∃ a S', S = .inr (.inr a) :: S' ∧ f a S' = some b := by
  match S, h with
  | .inr (.inr a) :: S', h => exact ⟨a, S', rfl, h⟩
theorem pi2_some {f : Int → Int → List OV → Option β} (h : pi2 S f = some b) : ∃ x y S', S = .inl y :: .inl x :: S' ∧ f x y S' = some b := by
  match S, h with
  | .inl y :: .inl x :: S', h => exact ⟨x, y, S', rfl, h⟩
theorem pl2_some {f : Int → Int → List OV → Option β} (h : pl2 S f = some b) : ∃ x y S', S = .inr (.inl y) :: .inr (.inl x) :: S' ∧ f x y S' = some b := by
  match S, h with
  | .inr (.inl y) :: .inr (.inl x) :: S', h => exact ⟨x, y, S', rfl, h⟩
theorem pli_some {f : Int → Int → List OV → Option β} (h : pli S f = some b) : ∃ x y S', S = .inl y :: .inr (.inl x) :: S' ∧ f x y S' = some b := by
  match S, h with
  | .inl y :: .inr (.inl x) :: S', h => exact ⟨x, y, S', rfl, h⟩
theorem gi_some {k : Nat} {f : Int → Option β} (h : gi L k f = some b) : ∃ z, lget L k = some (.inl z) ∧ f z = some b := by
  unfold gi at h
  split at h
  · exact ⟨_, by assumption, h⟩
  · cases h
theorem gl_some {k : Nat} {f : Int → Option β} (h : gl L k f = some b) : ∃ z, lget L k = some (.inr (.inl z)) ∧ f z = some b := by
  unfold gl at h
  split at h
  · exact ⟨_, by assumption, h⟩
  · cases h
theorem gr_some {k : Nat} {f : Nat → Option β} (h : gr L k f = some b) : ∃ z, lget L k = some (.inr (.inr z)) ∧ f z = some b := by
  unfold gr at h
  split at h
  · exact ⟨_, by assumption, h⟩
  · cases h
theorem inL_some {k : Nat} {x : Option β} (h : inL L k x = some b) : k < L.length ∧ x = some b := by
  unfold inL at h
  split at h
  · exact ⟨by assumption, h⟩
  · cases h
def brP (c : ClassFile.Cond) (x y : Int) : Prop := match c with
  | .eq => x = y
  | .ne => ¬ x = y
  | .lt => x < y
  | .ge => ¬ x < y
  | .gt => y < x
  | .le => ¬ y < x
theorem br_some {c : ClassFile.Cond} {x y : Int} {u v : Option β} (h : br c x y u v = some b) : (brP c x y ∧ u = some b) ∨ (¬ brP c x y ∧ v = some b) := by
  cases c <;> simp only [br] at h <;> split at h <;> rename_i q <;> simp only [brP] <;> first | exact Or.inl ⟨q, h⟩ | exact Or.inr ⟨q, h⟩ | exact Or.inr ⟨fun r => r q, h⟩
theorem icmp_holds {c : ClassFile.Cond} {x y : Int32} (h : brP c x.toInt y.toInt) : if_icmp.holds c x y = true := by
  cases c <;> simp only [brP] at h
  · exact (teq (Int32.toInt_inj.mp h)).1
  · exact (feq (fun q => h (by rw [q]))).2
  · exact (tlt (Int32.lt_iff_toInt_lt.mpr h)).1
  · exact (flt (fun q => h (Int32.lt_iff_toInt_lt.mp q))).2.1
  · exact (tlt (Int32.lt_iff_toInt_lt.mpr h)).2.2.1
  · exact (flt (fun q => h (Int32.lt_iff_toInt_lt.mp q))).2.2.2
theorem icmp_fails {c : ClassFile.Cond} {x y : Int32} (h : ¬ brP c x.toInt y.toInt) : if_icmp.holds c x y = false := by
  cases c <;> simp only [brP] at h
  · exact (feq (fun q => h (by rw [q]))).1
  · exact (teq (Int32.toInt_inj.mp (Classical.not_not.mp h))).2
  · exact (flt (fun q => h (Int32.lt_iff_toInt_lt.mp q))).1
  · exact (tlt (Int32.lt_iff_toInt_lt.mpr (Classical.not_not.mp h))).2.1
  · exact (flt (fun q => h (Int32.lt_iff_toInt_lt.mp q))).2.2.1
  · exact (tlt (Int32.lt_iff_toInt_lt.mpr (Classical.not_not.mp h))).2.2.2
theorem tsw_some (a : Int) : ∀ (lo : Int) (os : List Int) {f : Int → Option β} {d : Option β}, tsw a lo os f d = some b → (∃ o n, a = lo + (n : Nat) ∧ os[n]? = some o ∧ f o = some b) ∨ ((a < lo ∨ lo + os.length - 1 < a) ∧ d = some b)
  | lo, [], f, d, h => by
    refine Or.inr ⟨?_, h⟩
    simp only [List.length_nil]; omega
  | lo, o :: os, f, d, h => by
    unfold tsw at h
    split at h
    · rename_i q
      exact Or.inl ⟨o, 0, by simpa using q, rfl, h⟩
    · rename_i q
      rcases tsw_some a (lo + 1) os h with ⟨o', n, h1, h2, h3⟩ | ⟨h1, h2⟩
      · exact Or.inl ⟨o', n + 1, by rw [h1]; simp only [Int.natCast_add]; omega, by simpa using h2, h3⟩
      · refine Or.inr ⟨?_, h2⟩
        simp only [List.length_cons]; omega
theorem dup_some {cst : Nat → Option OV} {pc len : Nat} {k : Nat → OLs → List OV → Option β} (h : pstep cst .dup pc len L S k = some b) : ∃ v S', S = v :: S' ∧ mcat v = 1 ∧ k (pc + len) L (v :: v :: S') = some b := by
  match S, h with
  | .inl z :: S', h => exact ⟨_, S', rfl, rfl, h⟩
  | .inr (.inr z) :: S', h => exact ⟨_, S', rfl, rfl, h⟩
theorem pop_some {cst : Nat → Option OV} {pc len : Nat} {k : Nat → OLs → List OV → Option β} (h : pstep cst .pop pc len L S k = some b) : ∃ v S', S = v :: S' ∧ mcat v = 1 ∧ k (pc + len) L S' = some b := by
  match S, h with
  | .inl z :: S', h => exact ⟨_, S', rfl, rfl, h⟩
  | .inr (.inr z) :: S', h => exact ⟨_, S', rfl, rfl, h⟩
theorem dup2_some {cst : Nat → Option OV} {pc len : Nat} {k : Nat → OLs → List OV → Option β} (h : pstep cst .dup2 pc len L S k = some b) : (∃ z S', S = .inr (.inl z) :: S' ∧ k (pc + len) L (vl z :: vl z :: S') = some b) ∨ ∃ u v S', S = u :: v :: S' ∧ mcat u = 1 ∧ mcat v = 1 ∧ k (pc + len) L (u :: v :: u :: v :: S') = some b := by
  match S, h with
  | .inr (.inl z) :: S', h => exact Or.inl ⟨z, S', rfl, h⟩
  | .inl y :: .inl z :: S', h => exact Or.inr ⟨_, _, S', rfl, rfl, rfl, h⟩
  | .inl y :: .inr (.inr z) :: S', h => exact Or.inr ⟨_, _, S', rfl, rfl, rfl, h⟩
  | .inr (.inr y) :: .inl z :: S', h => exact Or.inr ⟨_, _, S', rfl, rfl, rfl, h⟩
  | .inr (.inr y) :: .inr (.inr z) :: S', h => exact Or.inr ⟨_, _, S', rfl, rfl, rfl, h⟩
end Pops
/-! numbers -/
theorem w32_eq (z : Int) : w32 z = z.bmod (2 ^ 32) := by
  unfold w32
  rw [Int.bmod_def]
  split <;> omega
theorem w64_eq (z : Int) : w64 z = z.bmod (2 ^ 64) := by
  unfold w64
  rw [Int.bmod_def]
  split <;> omega
theorem b8_eq (x : Int32) : (x.toInt8.toInt32).toInt = b8 x.toInt := by
  obtain ⟨h1, h2, h3⟩ := c_i2b x
  unfold b8
  omega
theorem cmpL_toInt (x y : Int64) : (XT.cmpL x y).toInt = lcm x.toInt y.toInt := by
  unfold XT.cmpL lcm
  by_cases h : y < x
  · rw [if_pos h, if_pos (Int64.lt_iff_toInt_lt.mp h)]; rfl
  · rw [if_neg h, if_neg (fun q => h (Int64.lt_iff_toInt_lt.mpr q))]
    by_cases h2 : x = y
    · rw [if_pos h2, if_pos (by rw [h2])]; rfl
    · rw [if_neg h2, if_neg (fun q => h2 (Int64.toInt_inj.mp q))]; rfl
theorem and1_eq (x : Int32) : (x &&& 1).toInt = x.toInt % 2 := c_mask x 1 1 (by decide) (by decide)
/-! the local variables -/
theorem lget_lput : ∀ (L : OLs) (k j : Nat) (v : Option OV), lget (lput L k v) j = if j = k ∧ k < L.length then v else lget L j
  | [], k, j, v => by simp [lput, lget]
  | x :: xs, 0, 0, v => by simp [lput, lget]
  | x :: xs, 0, j + 1, v => by simp [lput, lget]
  | x :: xs, k + 1, 0, v => by simp [lput, lget]
  | x :: xs, k + 1, j + 1, v => by
    have := lget_lput xs k j v
    simp only [lput, lget, this, List.length_cons]
    by_cases h : j = k ∧ k < xs.length
    · rw [if_pos h, if_pos (by omega)]
    · rw [if_neg h, if_neg (by omega)]
theorem length_lput : ∀ (L : OLs) (k : Nat) (v : Option OV), (lput L k v).length = L.length
  | [], _, _ => rfl
  | _ :: _, 0, _ => rfl
  | x :: xs, k + 1, v => by simp [lput, length_lput xs k v]
theorem length_killPrev (L : OLs) (k : Nat) : (killPrev L k).length = L.length := by
  cases k with
  | zero => rfl
  | succ j =>
    simp only [killPrev]
    split
    · exact length_lput _ _ _
    · rfl
theorem lget_killPrev {L : OLs} {k j : Nat} {v : OV} (h : lget (killPrev L k) j = some v) : lget L j = some v ∧ (j + 1 = k → mcat v = 1) := by
  cases k with
  | zero => exact ⟨h, fun q => by omega⟩
  | succ i =>
    simp only [killPrev] at h
    split at h
    · rename_i z hz
      rw [lget_lput] at h
      split at h
      · cases h
      · rename_i hn
        refine ⟨h, fun q => ?_⟩
        have e : j = i := by omega
        subst e
        rw [hz] at h
        by_cases hl : j < L.length
        · exact absurd ⟨rfl, hl⟩ hn
        · exfalso
          have : lget L j = none := by
            clear h hz hn
            induction L generalizing j with
            | nil => rfl
            | cons x xs ih =>
              cases j with
              | zero => simp at hl
              | succ j => exact ih (by omega) (by simpa using hl)
          rw [this] at hz; cases hz
    · rename_i hn
      refine ⟨h, fun q => ?_⟩
      have e : j = i := by omega
      subst e
      rcases v with z | z | z
      · rfl
      · exact absurd h (hn z)
      · rfl
theorem lget_mask : ∀ (bs : Option (List Bool)) (L : OLs) (k : Nat) {v : OV}, lget (mask bs L) k = some v → lget L k = some v
  | none, L, k, v, h => by simpa [mask] using h
  | some [], L, k, v, h => by simpa [mask] using h
  | some (true :: bs), [], k, v, h => by simpa [mask] using h
  | some (false :: bs), [], k, v, h => by simpa [mask] using h
  | some (true :: bs), x :: xs, 0, v, h => h
  | some (true :: bs), x :: xs, k + 1, v, h => lget_mask (some bs) xs k h
  | some (false :: bs), x :: xs, 0, v, h => by cases h
  | some (false :: bs), x :: xs, k + 1, v, h => lget_mask (some bs) xs k h
theorem length_mask : ∀ (bs : Option (List Bool)) (L : OLs), (mask bs L).length = L.length
  | none, L => by simp [mask]
  | some [], L => by simp [mask]
  | some (true :: bs), [] => by simp [mask]
  | some (false :: bs), [] => by simp [mask]
  | some (true :: bs), x :: xs => by simp [mask, length_mask (some bs) xs]
  | some (false :: bs), x :: xs => by simp [mask, length_mask (some bs) xs]
theorem LR.mask {A : Nat → Addr} {b : Nat} {L : OLs} {Ls : Array Slot} (h : LR A b L Ls) (bs : Option (List Bool)) : LR A b (mask bs L) Ls :=
  ⟨by rw [length_mask]; exact h.1, fun k v hk => h.2.1 k v (lget_mask bs L k hk), h.2.2⟩
/-- what a store of one word makes of the slots, slot by slot -/
theorem store1_at {l : Array Slot} (hw : WF l) {k : Nat} (hk : k < l.size) {x : Value} (hc : x.category = 1) :
    ∃ l', storeLocals l k x = some l' ∧ l'.size = l.size ∧ l'[k]? = some (.val x) ∧
      (∀ j, j ≠ k → l'[j]? = l[j]? ∨ (l'[j]? = some .unset ∧ ((j + 1 = k ∧ l[k]? = some .second) ∨ (j = k + 1 ∧ l[j]? = some .second ∧ ∃ v, l[k]? = some (.val v) ∧ v.category = 2)))) ∧
      (l[k]? = some .second → ∀ j, j + 1 = k → l'[j]? = some .unset) ∧ (∀ v, l[k]? = some (.val v) → v.category = 2 → l'[k + 1]? = some .unset) := by
  have hx : l[k]? = some l[k] := Array.getElem?_eq_getElem hk
  have hc2 : ¬ x.category = 2 := by omega
  cases ho : l[k] with
  | unset =>
    rw [ho] at hx
    refine ⟨l.setIfInBounds k (.val x), by simp [storeLocals, storeSelf, setAt, ho, hk, hc2], by simp, by simp [hk], fun j hj => Or.inl (Array.getElem?_setIfInBounds_ne (Ne.symm hj)), (fun q => by rw [hx] at q; cases q), (fun v q => by rw [hx] at q; cases q)⟩
  | second =>
    rw [ho] at hx
    obtain ⟨j, v, rfl, hj, -⟩ := hw.1 k hx
    have hj' : j < l.size := by omega
    refine ⟨(l.setIfInBounds j .unset).setIfInBounds (j + 1) (.val x), by simp [storeLocals, storeSelf, setAt, ho, hk, hj', hc2], by simp, by simp [hk], fun i hi => ?_, fun _ i hi => ?_, (fun v q => by rw [hx] at q; cases q)⟩
    · rw [Array.getElem?_setIfInBounds_ne (Ne.symm hi)]
      by_cases e : i = j
      · subst e
        exact Or.inr ⟨by simp [hj'], Or.inl ⟨rfl, hx⟩⟩
      · exact Or.inl (Array.getElem?_setIfInBounds_ne (Ne.symm e))
    · have e : i = j := by omega
      subst e
      rw [Array.getElem?_setIfInBounds_ne (by omega)]
      simp [hj']
  | val old =>
    rw [ho] at hx
    by_cases h2 : old.category = 2
    · have hs := hw.2 k old hx h2
      have hk1 : k + 1 < l.size := (Array.getElem?_eq_some_iff.mp hs).1
      refine ⟨(l.setIfInBounds (k + 1) .unset).setIfInBounds k (.val x), by simp [storeLocals, storeSelf, setAt, ho, hk, hk1, hc2, h2], by simp, by simp [hk], fun i hi => ?_, (fun q => by rw [hx] at q; cases q), fun v _ _ => ?_⟩
      · rw [Array.getElem?_setIfInBounds_ne (Ne.symm hi)]
        by_cases e : i = k + 1
        · subst e
          exact Or.inr ⟨by simp [hk1], Or.inr ⟨rfl, hs, old, hx, h2⟩⟩
        · exact Or.inl (Array.getElem?_setIfInBounds_ne (Ne.symm e))
      · rw [Array.getElem?_setIfInBounds_ne (by omega)]
        simp [hk1]
    · refine ⟨l.setIfInBounds k (.val x), by simp [storeLocals, storeSelf, setAt, ho, hk, hc2, h2], by simp, by simp [hk], fun j hj => Or.inl (Array.getElem?_setIfInBounds_ne (Ne.symm hj)), (fun q => by rw [hx] at q; cases q), (fun v q qq => by rw [hx] at q; cases q; exact absurd qq h2)⟩
theorem LR.st1 {A : Nat → Addr} {b : Nat} {L : OLs} {Ls : Array Slot} (h : LR A b L Ls) {k : Nat} (hk : k < L.length) {v : OV} {x : Value} (hv : VR A b v x) (hc : x.category = 1) :
    ∃ Ls', storeLocals Ls k x = some Ls' ∧ LR A b (lst1 L k v) Ls' ∧ Ls'.size = Ls.size := by
  obtain ⟨l', h1, h2, h3, h4, h5, h6⟩ := store1_at h.2.2 (by rw [← h.1]; exact hk) hc
  refine ⟨l', h1, ⟨?_, ?_, ?_, ?_⟩, h2⟩
  · rw [lst1, length_lput, length_killPrev, h.1, h2]
  · intro j w hj
    rw [lst1, lget_lput, length_killPrev] at hj
    by_cases e : j = k ∧ k < L.length
    · rw [if_pos e] at hj
      cases hj
      obtain ⟨rfl, -⟩ := e
      exact ⟨x, h3, hv⟩
    · rw [if_neg e] at hj
      have hne : j ≠ k := fun q => e ⟨q, hk⟩
      obtain ⟨g1, g2⟩ := lget_killPrev hj
      obtain ⟨y, g3, g4⟩ := h.2.1 j w g1
      rcases h4 j hne with q | ⟨-, q | q⟩
      · exact ⟨y, q.trans g3, g4⟩
      · exfalso
        obtain ⟨i, u, q1, q2, q3⟩ := h.2.2.1 k q.2
        have : i = j := by omega
        subst this
        cases g3.symm.trans q2
        rw [g4.cat (g2 q.1)] at q3; cases q3
      · exfalso
        cases g3.symm.trans q.2.1
  · intro j hj
    by_cases e : j = k
    · subst e; rw [h3] at hj; cases hj
    · have hj0 : Ls[j]? = some .second := by
        rcases h4 j e with q | ⟨q, -⟩
        · exact q ▸ hj
        · rw [q] at hj; cases hj
      obtain ⟨i, u, rfl, q2, q3⟩ := h.2.2.1 j hj0
      refine ⟨i, u, rfl, ?_, q3⟩
      have hi : i ≠ k := fun q => by
        subst q
        rw [h6 u q2 q3] at hj; cases hj
      rcases h4 i hi with q | ⟨-, q | q⟩
      · rw [q]; exact q2
      · exact absurd q.1 e
      · rw [q2] at q; cases q.2.1
  · intro j u hj hu
    by_cases e : j = k
    · subst e; rw [h3] at hj; cases hj; omega
    · have hj0 : Ls[j]? = some (.val u) := by
        rcases h4 j e with q | ⟨q, -⟩
        · exact q ▸ hj
        · rw [q] at hj; cases hj
      have q2 := h.2.2.2 j u hj0 hu
      have hi : j + 1 ≠ k := fun q => by
        subst q
        rw [h5 q2 j rfl] at hj; cases hj
      rcases h4 (j + 1) hi with q | ⟨-, q | q⟩
      · rw [q]; exact q2
      · exfalso
        obtain ⟨i, w, r1, r2, r3⟩ := h.2.2.1 k q.2
        have : i = j + 1 := by omega
        subst this
        rw [q2] at r2; cases r2
      · exact absurd (by omega : j = k) e
/-- what a store of two words makes of the slots -/
theorem store2_at {l : Array Slot} (hw : WF l) {k : Nat} (hk : k + 1 < l.size) {x : Value} (hc : x.category = 2) :
    ∃ l', storeLocals l k x = some l' ∧ l'.size = l.size ∧ l'[k]? = some (.val x) ∧ l'[k + 1]? = some .second ∧
      (∀ j, j ≠ k → j ≠ k + 1 → l'[j]? = l[j]? ∨ (l'[j]? = some .unset ∧ ((j + 1 = k ∧ l[k]? = some .second) ∨ (j = k + 2 ∧ l[j]? = some .second ∧ ∃ v, l[k + 1]? = some (.val v) ∧ v.category = 2)))) ∧
      (l[k]? = some .second → ∀ j, j + 1 = k → l'[j]? = some .unset) ∧ (∀ v, l[k + 1]? = some (.val v) → v.category = 2 → l'[k + 2]? = some .unset) := by
  have hk0 : k < l.size := by omega
  have hx : l[k]? = some l[k] := Array.getElem?_eq_getElem hk0
  have hy : l[k + 1]? = some l[k + 1] := Array.getElem?_eq_getElem hk
  have key : ∀ l1 : Array Slot, l1.size = l.size → ∀ s1, l1[k + 1]? = some s1 → (∀ v, s1 = .val v → v.category = 2 → k + 2 < l.size) → ∃ l', storeSelf l1 k x = some l' ∧ l'.size = l.size ∧ l'[k]? = some (.val x) ∧ l'[k + 1]? = some .second ∧ (∀ j, j ≠ k → j ≠ k + 1 → l'[j]? = l1[j]? ∨ (j = k + 2 ∧ l'[j]? = some .unset ∧ ∃ v, s1 = .val v ∧ v.category = 2)) ∧ (∀ v, s1 = .val v → v.category = 2 → l'[k + 2]? = some .unset) := by
    intro l1 hs1 s1 hl1 h2
    have a1 : k < l1.size := by omega
    have a2 : k + 1 < l1.size := by omega
    have hg : (l1.setIfInBounds k (.val x))[k + 1]? = some s1 := by rw [Array.getElem?_setIfInBounds_ne (by omega)]; exact hl1
    have plain : (∀ v, s1 = .val v → v.category ≠ 2) → storeSelf l1 k x = some ((l1.setIfInBounds k (.val x)).setIfInBounds (k + 1) .second) := by
      intro q
      simp only [storeSelf, setAt, a1, if_true, Option.bind_eq_bind, Option.bind_some, hc]
      rw [hg]
      cases s1 with
      | unset => simp [a2]
      | second => simp [a2]
      | val v => simp [a2, q v rfl]
    have done : (∀ v, s1 = .val v → v.category ≠ 2) → ∃ l', storeSelf l1 k x = some l' ∧ l'.size = l.size ∧ l'[k]? = some (.val x) ∧ l'[k + 1]? = some .second ∧ (∀ j, j ≠ k → j ≠ k + 1 → l'[j]? = l1[j]? ∨ (j = k + 2 ∧ l'[j]? = some .unset ∧ ∃ v, s1 = .val v ∧ v.category = 2)) ∧ (∀ v, s1 = .val v → v.category = 2 → l'[k + 2]? = some .unset) := by
      intro q
      refine ⟨_, plain q, by simp [hs1], ?_, by simp [a2], fun j h1 h2 => Or.inl ?_, fun v e1 e2 => absurd e2 (q v e1)⟩
      · rw [Array.getElem?_setIfInBounds_ne (by omega)]; simp [a1]
      · rw [Array.getElem?_setIfInBounds_ne (Ne.symm h2), Array.getElem?_setIfInBounds_ne (Ne.symm h1)]
    cases s1 with
    | unset => exact done (fun v q => by cases q)
    | second => exact done (fun v q => by cases q)
    | val v =>
      by_cases hv : v.category = 2
      · have a3 : k + 2 < l1.size := by rw [hs1]; exact h2 v rfl hv
        refine ⟨((l1.setIfInBounds k (.val x)).setIfInBounds (k + 2) .unset).setIfInBounds (k + 1) .second, ?_, by simp [hs1], ?_, by simp [a2], fun j q1 q2 => ?_, fun _ _ _ => ?_⟩
        · simp only [storeSelf, setAt, a1, if_true, Option.bind_eq_bind, Option.bind_some, hc]
          rw [hg]
          simp [hv, a2, a3]
        · rw [Array.getElem?_setIfInBounds_ne (by omega), Array.getElem?_setIfInBounds_ne (by omega)]; simp [a1]
        · rw [Array.getElem?_setIfInBounds_ne (Ne.symm q2)]
          by_cases e : j = k + 2
          · subst e
            exact Or.inr ⟨rfl, by simp [a3], v, rfl, hv⟩
          · rw [Array.getElem?_setIfInBounds_ne (Ne.symm e), Array.getElem?_setIfInBounds_ne (Ne.symm q1)]
            exact Or.inl rfl
        · rw [Array.getElem?_setIfInBounds_ne (by omega)]; simp [a3]
      · exact done (fun v' q => by cases q; exact hv)
  have room2 : ∀ v, l[k + 1]? = some (.val v) → v.category = 2 → k + 2 < l.size := fun v q1 q2 => (Array.getElem?_eq_some_iff.mp (hw.2 (k + 1) v q1 q2)).1
  cases ho : l[k] with
  | unset =>
    rw [ho] at hx
    obtain ⟨l', g1, g2, g3, g4, g5, g6⟩ := key l rfl _ hy (fun v q1 q2 => room2 v (by rw [hy, q1]) q2)
    refine ⟨l', by simp [storeLocals, ho, hk0, g1], g2, g3, g4, fun j q1 q2 => ?_, (fun q => by rw [hx] at q; cases q), fun v q1 q2 => g6 v (by rw [hy] at q1; exact Option.some.inj q1) q2⟩
    rcases g5 j q1 q2 with q | ⟨rfl, q, v, r1, r2⟩
    · exact Or.inl q
    · exact Or.inr ⟨q, Or.inr ⟨rfl, hw.2 (k + 1) v (by rw [hy, r1]) r2, v, by rw [hy, r1], r2⟩⟩
  | second =>
    rw [ho] at hx
    obtain ⟨i, u, rfl, hi, -⟩ := hw.1 k hx
    have hi' : i < l.size := by omega
    obtain ⟨l', g1, g2, g3, g4, g5, g6⟩ := key (l.setIfInBounds i .unset) (by simp) _ (by rw [Array.getElem?_setIfInBounds_ne (by omega)]; exact hy) (fun v q1 q2 => room2 v (by rw [hy, q1]) q2)
    refine ⟨l', by simp [storeLocals, setAt, ho, hk0, hi', g1], g2, g3, g4, fun j q1 q2 => ?_, fun _ j hj => ?_, fun v q1 q2 => g6 v (by rw [hy] at q1; exact Option.some.inj q1) q2⟩
    · rcases g5 j q1 q2 with q | ⟨rfl, q, v, r1, r2⟩
      · by_cases e : j = i
        · subst e
          exact Or.inr ⟨by rw [q]; simp [hi'], Or.inl ⟨rfl, hx⟩⟩
        · exact Or.inl (by rw [q, Array.getElem?_setIfInBounds_ne (Ne.symm e)])
      · exact Or.inr ⟨q, Or.inr ⟨rfl, hw.2 (i + 1 + 1) v (by rw [hy, r1]) r2, v, by rw [hy, r1], r2⟩⟩
    · have e : j = i := by omega
      subst e
      rcases g5 j (by omega) (by omega) with q | ⟨q, -⟩
      · rw [q]; simp [hi']
      · omega
  | val old =>
    rw [ho] at hx
    by_cases h2 : old.category = 2
    · have hs := hw.2 k old hx h2
      have hy2 : l[k + 1] = .second := by rw [hy] at hs; exact Option.some.inj hs
      obtain ⟨l', g1, g2, g3, g4, g5, g6⟩ := key (l.setIfInBounds (k + 1) .unset) (by simp) .unset (by simp [hk]) (fun v q1 => by cases q1)
      refine ⟨l', by simp [storeLocals, setAt, ho, hk0, hk, h2, g1], g2, g3, g4, fun j q1 q2 => ?_, (fun q => by rw [hx] at q; cases q), fun v q1 q2 => by rw [hs] at q1; cases q1⟩
      rcases g5 j q1 q2 with q | ⟨_, _, v, r1, _⟩
      · exact Or.inl (by rw [q, Array.getElem?_setIfInBounds_ne (Ne.symm q2)])
      · cases r1
    · obtain ⟨l', g1, g2, g3, g4, g5, g6⟩ := key l rfl _ hy (fun v q1 q2 => room2 v (by rw [hy, q1]) q2)
      refine ⟨l', by simp [storeLocals, ho, hk0, h2, g1], g2, g3, g4, fun j q1 q2 => ?_, (fun q => by rw [hx] at q; cases q), fun v q1 q2 => g6 v (by rw [hy] at q1; exact Option.some.inj q1) q2⟩
      rcases g5 j q1 q2 with q | ⟨rfl, q, v, r1, r2⟩
      · exact Or.inl q
      · exact Or.inr ⟨q, Or.inr ⟨rfl, hw.2 (k + 1) v (by rw [hy, r1]) r2, v, by rw [hy, r1], r2⟩⟩
theorem LR.st2 {A : Nat → Addr} {b : Nat} {L : OLs} {Ls : Array Slot} (h : LR A b L Ls) {k : Nat} (hk : k + 1 < L.length) {v : OV} {x : Value} (hv : VR A b v x) (hc : x.category = 2) :
    ∃ Ls', storeLocals Ls k x = some Ls' ∧ LR A b (lst2 L k v) Ls' ∧ Ls'.size = Ls.size := by
  obtain ⟨l', h1, h2, h3, h3', h4, h5, h6⟩ := store2_at h.2.2 (by rw [← h.1]; exact hk) hc
  refine ⟨l', h1, ⟨?_, ?_, ?_, ?_⟩, h2⟩
  · rw [lst2, length_lput, length_lput, length_killPrev, h.1, h2]
  · intro j w hj
    rw [lst2, lget_lput, length_lput, length_killPrev, lget_lput, length_killPrev] at hj
    by_cases e1 : j = k + 1 ∧ k + 1 < L.length
    · rw [if_pos e1] at hj; cases hj
    rw [if_neg e1] at hj
    have hne1 : j ≠ k + 1 := fun q => e1 ⟨q, hk⟩
    by_cases e : j = k ∧ k < L.length
    · rw [if_pos e] at hj
      cases hj
      obtain ⟨rfl, -⟩ := e
      exact ⟨x, h3, hv⟩
    · rw [if_neg e] at hj
      have hne : j ≠ k := fun q => e ⟨q, by omega⟩
      obtain ⟨g1, g2⟩ := lget_killPrev hj
      obtain ⟨y, g3, g4⟩ := h.2.1 j w g1
      rcases h4 j hne hne1 with q | ⟨-, q | q⟩
      · exact ⟨y, q.trans g3, g4⟩
      · exfalso
        obtain ⟨i, u, q1, q2, q3⟩ := h.2.2.1 k q.2
        have : i = j := by omega
        subst this
        cases g3.symm.trans q2
        rw [g4.cat (g2 q.1)] at q3; cases q3
      · exfalso
        cases g3.symm.trans q.2.1
  · intro j hj
    by_cases e : j = k
    · subst e; rw [h3] at hj; cases hj
    by_cases e' : j = k + 1
    · exact ⟨k, x, e', h3, hc⟩
    · have hj0 : Ls[j]? = some .second := by
        rcases h4 j e e' with q | ⟨q, -⟩
        · exact q ▸ hj
        · rw [q] at hj; cases hj
      obtain ⟨i, u, rfl, q2, q3⟩ := h.2.2.1 j hj0
      refine ⟨i, u, rfl, ?_, q3⟩
      have hi : i ≠ k := fun q => e' (by omega)
      have hi' : i ≠ k + 1 := fun q => by
        subst q
        rw [h6 u q2 q3] at hj; cases hj
      rcases h4 i hi hi' with q | ⟨-, q | q⟩
      · rw [q]; exact q2
      · exact absurd q.1 e
      · rw [q2] at q; cases q.2.1
  · intro j u hj hu
    by_cases e : j = k
    · subst e; exact h3'
    by_cases e' : j = k + 1
    · subst e'; rw [h3'] at hj; cases hj
    · have hj0 : Ls[j]? = some (.val u) := by
        rcases h4 j e e' with q | ⟨q, -⟩
        · exact q ▸ hj
        · rw [q] at hj; cases hj
      have q2 := h.2.2.2 j u hj0 hu
      have hi : j + 1 ≠ k := fun q => by
        subst q
        rw [h5 q2 j rfl] at hj; cases hj
      rcases h4 (j + 1) hi (by omega) with q | ⟨-, q | q⟩
      · rw [q]; exact q2
      · exfalso
        obtain ⟨i, w, r1, r2, r3⟩ := h.2.2.1 k q.2
        have : i = j + 1 := by omega
        subst this
        rw [q2] at r2; cases r2
      · exact absurd (by omega : j = k + 1) e'
end Jvm.OwnMini
namespace Jvm.OwnMini
open Jvm Jvm.ClassFile Sem Op Lib Jvm.Free Jvm.Stand Jvm.LawKit Jvm.RoadKit
set_option maxHeartbeats 4000000 in
theorem pstep_sound {p : Program} {l : Launch} {e : Env} {R : Room} {s : State} {m : MethodId} {args : Array Value} {below : List Frame} {meth : Method} {c : Code} {T : State} {locs : List Loc} {cells slots : Nat}
    (X : Stand p l e R s m args below meth c T locs cells slots) (hx : p.tables.exec = Jvm.exec) {own : String} (hown : s.vm.findClass own = some m.cls) {cst : Nat → Option OV}
    (hcst : (∀ x z, cst x = some (.inl z) → ∃ v : Int32, (Jvm.Cond.constant own x v).before args s = true ∧ v.toInt = z) ∧ (∀ x z, cst x = some (.inr (.inl z)) → ∃ v : Int64, (Jvm.Cond.constantLong own x v).before args s = true ∧ v.toInt = z))
    {A : Nat → Addr} {b : Nat} {L : OLs} {Ls : Array Slot} {S : List OV} {St : List Value} (hL : LR A b L Ls) (hS : SR A b S St) {i : Instr} {pc len : Nat} (hd : decode c.code pc = .ok (i, len)) (hchk : chk pc i len = true)
    {β : Type} {k : Nat → OLs → List OV → Option β} {r : β} (h : pstep cst i pc len L S k = some r) :
    ∃ pc' L' S' Ls' St', k pc' L' S' = some r ∧ LR A b L' Ls' ∧ SR A b S' St' ∧ Ls'.size = Ls.size ∧ ∀ target, Steps p.tables e below (T.setTop (mkF m pc' Ls' St')) target → Steps p.tables e below (T.setTop (mkF m pc Ls St)) target := by
  cases i
  case iconst z =>
    have hc : (len = 1 ∧ -32768 ≤ z) ∧ z ≤ 32767 := by simpa [chk] using hchk
    obtain ⟨⟨rfl, h1⟩, h2⟩ := hc
    exact ⟨_, _, _, _, _, h, hL, SR.ci (Int32.toInt_ofInt_of_le (by omega) (by omega)) hS, rfl, fun target hr => XS.iconst X.here hx rfl hd hr⟩
  case bipush z =>
    have hc : (len = 2 ∧ -128 ≤ z) ∧ z ≤ 127 := by simpa [chk] using hchk
    obtain ⟨⟨rfl, h1⟩, h2⟩ := hc
    exact ⟨_, _, _, _, _, h, hL, SR.ci (by rw [Int8.toInt_toInt32, Int8.toInt_ofInt_of_le (by omega) (by omega)]) hS, rfl, fun target hr => XS.bipush X.here hx rfl hd hr⟩
  case sipush z =>
    have hc : (len = 3 ∧ -32768 ≤ z) ∧ z ≤ 32767 := by simpa [chk] using hchk
    obtain ⟨⟨rfl, h1⟩, h2⟩ := hc
    exact ⟨_, _, _, _, _, h, hL, SR.ci (by rw [Int16.toInt_toInt32, Int16.toInt_ofInt_of_le (by omega) (by omega)]) hS, rfl, fun target hr => XS.sipush X.here hx rfl hd hr⟩
  case lconst z =>
    obtain rfl : len = 1 := by simpa [chk, ilen] using hchk
    refine ⟨_, _, _, _, _, h, hL, SR.cj (y := Int64.ofNat z.val) ?_ hS, rfl, fun target hr => XT.lconst X.here hx rfl hd hr⟩
    match z with
    | ⟨0, _⟩ => rfl
    | ⟨1, _⟩ => rfl
  case ldc x =>
    obtain rfl : len = 2 := by simpa [chk, ilen] using hchk
    simp only [pstep] at h
    cases hq : cst x with
    | none => simp [hq] at h
    | some v =>
      cases v with
      | inr v => simp [hq] at h
      | inl z =>
        simp only [hq] at h
        obtain ⟨cv, hcv, rfl⟩ := hcst.1 x z hq
        exact ⟨_, _, _, _, _, h, hL, SR.ci rfl hS, rfl, fun target hr => X.ldcI hx hown hcv rfl hd hr⟩
  case ldc_w x =>
    obtain rfl : len = 3 := by simpa [chk, ilen] using hchk
    simp only [pstep] at h
    cases hq : cst x with
    | none => simp [hq] at h
    | some v =>
      cases v with
      | inr v => simp [hq] at h
      | inl z =>
        simp only [hq] at h
        obtain ⟨cv, hcv, rfl⟩ := hcst.1 x z hq
        exact ⟨_, _, _, _, _, h, hL, SR.ci rfl hS, rfl, fun target hr => X.ldcWI hx hown hcv rfl hd hr⟩
  case ldc2_w x =>
    obtain rfl : len = 3 := by simpa [chk, ilen] using hchk
    simp only [pstep] at h
    cases hq : cst x with
    | none => simp [hq] at h
    | some v =>
      cases v with
      | inl z => simp [hq] at h
      | inr v =>
        cases v with
        | inr z => simp [hq] at h
        | inl z =>
          simp only [hq] at h
          obtain ⟨cv, hcv, rfl⟩ := hcst.2 x z hq
          exact ⟨_, _, _, _, _, h, hL, SR.cj rfl hS, rfl, fun target hr => X.ldc2J hx hown hcv rfl hd hr⟩
  case iload x =>
    obtain rfl : len = 2 := by simpa [chk, ilen] using hchk
    obtain ⟨z, hg, h⟩ := gi_some h
    obtain ⟨w, hw, hv⟩ := hL.2.1 _ _ hg
    obtain ⟨y, rfl, rfl⟩ := hv
    exact ⟨_, _, _, _, _, h, hL, SR.ci rfl hS, rfl, fun target hr => XS.iload X.here hx rfl hd hw hr⟩
  case iload_n x =>
    obtain rfl : len = 1 := by simpa [chk, ilen] using hchk
    obtain ⟨z, hg, h⟩ := gi_some h
    obtain ⟨w, hw, hv⟩ := hL.2.1 _ _ hg
    obtain ⟨y, rfl, rfl⟩ := hv
    exact ⟨_, _, _, _, _, h, hL, SR.ci rfl hS, rfl, fun target hr => XS.iloadN X.here hx rfl hd hw hr⟩
  case lload x =>
    obtain rfl : len = 2 := by simpa [chk, ilen] using hchk
    obtain ⟨z, hg, h⟩ := gl_some h
    obtain ⟨w, hw, hv⟩ := hL.2.1 _ _ hg
    obtain ⟨y, rfl, rfl⟩ := hv
    exact ⟨_, _, _, _, _, h, hL, SR.cj rfl hS, rfl, fun target hr => XT.lload X.here hx rfl hd hw hr⟩
  case lload_n x =>
    obtain rfl : len = 1 := by simpa [chk, ilen] using hchk
    obtain ⟨z, hg, h⟩ := gl_some h
    obtain ⟨w, hw, hv⟩ := hL.2.1 _ _ hg
    obtain ⟨y, rfl, rfl⟩ := hv
    exact ⟨_, _, _, _, _, h, hL, SR.cj rfl hS, rfl, fun target hr => XT.lloadN X.here hx rfl hd hw hr⟩
  case aload x =>
    obtain rfl : len = 2 := by simpa [chk, ilen] using hchk
    obtain ⟨z, hg, h⟩ := gr_some h
    obtain ⟨w, hw, hv⟩ := hL.2.1 _ _ hg
    obtain ⟨hb, rfl⟩ := hv
    exact ⟨_, _, _, _, _, h, hL, SR.cr hb hS, rfl, fun target hr => XS.aload X.here hx rfl hd hw rfl hr⟩
  case aload_n x =>
    obtain rfl : len = 1 := by simpa [chk, ilen] using hchk
    obtain ⟨z, hg, h⟩ := gr_some h
    obtain ⟨w, hw, hv⟩ := hL.2.1 _ _ hg
    obtain ⟨hb, rfl⟩ := hv
    exact ⟨_, _, _, _, _, h, hL, SR.cr hb hS, rfl, fun target hr => XS.aloadN X.here hx rfl hd hw rfl hr⟩
  case istore x =>
    obtain rfl : len = 2 := by simpa [chk, ilen] using hchk
    obtain ⟨z, S', rfl, h⟩ := pi1_some h
    obtain ⟨hk, h⟩ := inL_some h
    obtain ⟨y, St', rfl, hy, hS'⟩ := SR.i1 hS
    obtain ⟨Ls', hst, hL', hsz⟩ := hL.st1 hk (v := vi z) (x := .int y) ⟨y, rfl, hy⟩ rfl
    exact ⟨_, _, _, _, _, h, hL', hS', hsz, fun target hr => XS.istore X.here hx rfl hd rfl hst hr⟩
  case istore_n x =>
    obtain rfl : len = 1 := by simpa [chk, ilen] using hchk
    obtain ⟨z, S', rfl, h⟩ := pi1_some h
    obtain ⟨hk, h⟩ := inL_some h
    obtain ⟨y, St', rfl, hy, hS'⟩ := SR.i1 hS
    obtain ⟨Ls', hst, hL', hsz⟩ := hL.st1 hk (v := vi z) (x := .int y) ⟨y, rfl, hy⟩ rfl
    exact ⟨_, _, _, _, _, h, hL', hS', hsz, fun target hr => XS.istoreN X.here hx rfl hd rfl hst hr⟩
  case lstore x =>
    obtain rfl : len = 2 := by simpa [chk, ilen] using hchk
    obtain ⟨z, S', rfl, h⟩ := pl1_some h
    obtain ⟨hk, h⟩ := inL_some h
    obtain ⟨y, St', rfl, hy, hS'⟩ := SR.l1 hS
    obtain ⟨Ls', hst, hL', hsz⟩ := hL.st2 hk (v := vl z) (x := .long y) ⟨y, rfl, hy⟩ rfl
    exact ⟨_, _, _, _, _, h, hL', hS', hsz, fun target hr => XT.lstore X.here hx rfl hd rfl hst hr⟩
  case lstore_n x =>
    obtain rfl : len = 1 := by simpa [chk, ilen] using hchk
    obtain ⟨z, S', rfl, h⟩ := pl1_some h
    obtain ⟨hk, h⟩ := inL_some h
    obtain ⟨y, St', rfl, hy, hS'⟩ := SR.l1 hS
    obtain ⟨Ls', hst, hL', hsz⟩ := hL.st2 hk (v := vl z) (x := .long y) ⟨y, rfl, hy⟩ rfl
    exact ⟨_, _, _, _, _, h, hL', hS', hsz, fun target hr => XT.lstoreN X.here hx rfl hd rfl hst hr⟩
  case astore x =>
    obtain rfl : len = 2 := by simpa [chk, ilen] using hchk
    obtain ⟨z, S', rfl, h⟩ := pr1_some h
    obtain ⟨hk, h⟩ := inL_some h
    obtain ⟨hb, St', rfl, hS'⟩ := SR.r1 hS
    obtain ⟨Ls', hst, hL', hsz⟩ := hL.st1 hk (v := vr z) (x := .ref (A z)) ⟨hb, rfl⟩ rfl
    exact ⟨_, _, _, _, _, h, hL', hS', hsz, fun target hr => XS.astore X.here hx rfl hd rfl rfl hst hr⟩
  case astore_n x =>
    obtain rfl : len = 1 := by simpa [chk, ilen] using hchk
    obtain ⟨z, S', rfl, h⟩ := pr1_some h
    obtain ⟨hk, h⟩ := inL_some h
    obtain ⟨hb, St', rfl, hS'⟩ := SR.r1 hS
    obtain ⟨Ls', hst, hL', hsz⟩ := hL.st1 hk (v := vr z) (x := .ref (A z)) ⟨hb, rfl⟩ rfl
    exact ⟨_, _, _, _, _, h, hL', hS', hsz, fun target hr => XS.astoreN X.here hx rfl hd rfl rfl hst hr⟩
  case iinc x z =>
    have hc : (len = 3 ∧ -32768 ≤ z) ∧ z ≤ 32767 := by simpa [chk] using hchk
    obtain ⟨⟨rfl, h1⟩, h2⟩ := hc
    obtain ⟨a, hg, h⟩ := gi_some h
    obtain ⟨hk, h⟩ := inL_some h
    obtain ⟨w, hw, y, rfl, rfl⟩ := hL.2.1 _ _ hg
    obtain ⟨Ls', hst, hL', hsz⟩ := hL.st1 hk (v := vi (w32 (y.toInt + z))) (x := .int (y + Int32.ofInt z)) ⟨_, rfl, by rw [Int32.toInt_add, Int32.toInt_ofInt_of_le (by omega) (by omega), w32_eq]⟩ rfl
    exact ⟨_, _, _, _, _, h, hL', hS, hsz, fun target hr => XS.iinc X.here hx rfl hd hw hst hr⟩
  case iadd =>
    obtain rfl : len = 1 := by simpa [chk, ilen] using hchk
    obtain ⟨a, b', S', rfl, h⟩ := pi2_some h
    obtain ⟨y, x, St', rfl, rfl, rfl, hS'⟩ := SR.i2 hS
    exact ⟨_, _, _, _, _, h, hL, SR.ci (by rw [Int32.toInt_add, w32_eq]) hS', rfl, fun target hr => XS.iadd X.here hx rfl hd rfl hr⟩
  case isub =>
    obtain rfl : len = 1 := by simpa [chk, ilen] using hchk
    obtain ⟨a, b', S', rfl, h⟩ := pi2_some h
    obtain ⟨y, x, St', rfl, rfl, rfl, hS'⟩ := SR.i2 hS
    exact ⟨_, _, _, _, _, h, hL, SR.ci (by rw [Int32.toInt_sub, w32_eq]) hS', rfl, fun target hr => XS.isub X.here hx rfl hd rfl hr⟩
  case imul =>
    obtain rfl : len = 1 := by simpa [chk, ilen] using hchk
    obtain ⟨a, b', S', rfl, h⟩ := pi2_some h
    obtain ⟨y, x, St', rfl, rfl, rfl, hS'⟩ := SR.i2 hS
    exact ⟨_, _, _, _, _, h, hL, SR.ci (by rw [Int32.toInt_mul, w32_eq]) hS', rfl, fun target hr => XS.imul X.here hx rfl hd rfl hr⟩
  case idiv =>
    obtain rfl : len = 1 := by simpa [chk, ilen] using hchk
    obtain ⟨a, b', S', rfl, h⟩ := pi2_some h
    obtain ⟨y, x, St', rfl, rfl, rfl, hS'⟩ := SR.i2 hS
    simp only [pstep, pi2] at h
    by_cases hz : y.toInt = 0
    · simp [hz] at h
    rw [if_neg hz] at h
    have hy : y ≠ 0 := fun q => hz (by rw [q]; rfl)
    exact ⟨_, _, _, _, _, h, hL, SR.ci (by rw [Int32.toInt_div, div32, w32_eq]) hS', rfl, fun target hr => XS.idiv X.here hx rfl hd rfl hy hr⟩
  case irem =>
    obtain rfl : len = 1 := by simpa [chk, ilen] using hchk
    obtain ⟨a, b', S', rfl, h⟩ := pi2_some h
    obtain ⟨y, x, St', rfl, rfl, rfl, hS'⟩ := SR.i2 hS
    simp only [pstep, pi2] at h
    by_cases hz : y.toInt = 0
    · simp [hz] at h
    rw [if_neg hz] at h
    have hy : y ≠ 0 := fun q => hz (by rw [q]; rfl)
    exact ⟨_, _, _, _, _, h, hL, SR.ci (by rw [Int32.toInt_mod, rem32]) hS', rfl, fun target hr => iremM X hx rfl hd rfl hy hr⟩
  case iand =>
    obtain rfl : len = 1 := by simpa [chk, ilen] using hchk
    obtain ⟨a, b', S', rfl, h⟩ := pi2_some h
    obtain ⟨y, x, St', rfl, rfl, rfl, hS'⟩ := SR.i2 hS
    exact ⟨_, _, _, _, _, h, hL, SR.ci (by simp only [and32, Int32.ofInt_toInt]) hS', rfl, fun target hr => XS.iand X.here hx rfl hd rfl hr⟩
  case ior =>
    obtain rfl : len = 1 := by simpa [chk, ilen] using hchk
    obtain ⟨a, b', S', rfl, h⟩ := pi2_some h
    obtain ⟨y, x, St', rfl, rfl, rfl, hS'⟩ := SR.i2 hS
    exact ⟨_, _, _, _, _, h, hL, SR.ci (by simp only [or32, Int32.ofInt_toInt]) hS', rfl, fun target hr => XT.ior X.here hx rfl hd rfl hr⟩
  case ixor =>
    obtain rfl : len = 1 := by simpa [chk, ilen] using hchk
    obtain ⟨a, b', S', rfl, h⟩ := pi2_some h
    obtain ⟨y, x, St', rfl, rfl, rfl, hS'⟩ := SR.i2 hS
    exact ⟨_, _, _, _, _, h, hL, SR.ci (by simp only [xor32, Int32.ofInt_toInt]) hS', rfl, fun target hr => XT.ixor X.here hx rfl hd rfl hr⟩
  case ishl =>
    obtain rfl : len = 1 := by simpa [chk, ilen] using hchk
    obtain ⟨a, b', S', rfl, h⟩ := pi2_some h
    obtain ⟨y, x, St', rfl, rfl, rfl, hS'⟩ := SR.i2 hS
    exact ⟨_, _, _, _, _, h, hL, SR.ci (by simp only [shl32, Int32.ofInt_toInt]) hS', rfl, fun target hr => XT.ishl X.here hx rfl hd rfl hr⟩
  case ishr =>
    obtain rfl : len = 1 := by simpa [chk, ilen] using hchk
    obtain ⟨a, b', S', rfl, h⟩ := pi2_some h
    obtain ⟨y, x, St', rfl, rfl, rfl, hS'⟩ := SR.i2 hS
    exact ⟨_, _, _, _, _, h, hL, SR.ci (by simp only [shr32, Int32.ofInt_toInt]) hS', rfl, fun target hr => XT.ishr X.here hx rfl hd rfl hr⟩
  case iushr =>
    obtain rfl : len = 1 := by simpa [chk, ilen] using hchk
    obtain ⟨a, b', S', rfl, h⟩ := pi2_some h
    obtain ⟨y, x, St', rfl, rfl, rfl, hS'⟩ := SR.i2 hS
    exact ⟨_, _, _, _, _, h, hL, SR.ci (by simp only [ushr32, Int32.ofInt_toInt]) hS', rfl, fun target hr => XT.iushr X.here hx rfl hd rfl hr⟩
  case ladd =>
    obtain rfl : len = 1 := by simpa [chk, ilen] using hchk
    obtain ⟨a, b', S', rfl, h⟩ := pl2_some h
    obtain ⟨y, x, St', rfl, rfl, rfl, hS'⟩ := SR.l2 hS
    exact ⟨_, _, _, _, _, h, hL, SR.cj (by rw [Int64.toInt_add, w64_eq]) hS', rfl, fun target hr => XT.ladd X.here hx rfl hd rfl hr⟩
  case lsub =>
    obtain rfl : len = 1 := by simpa [chk, ilen] using hchk
    obtain ⟨a, b', S', rfl, h⟩ := pl2_some h
    obtain ⟨y, x, St', rfl, rfl, rfl, hS'⟩ := SR.l2 hS
    exact ⟨_, _, _, _, _, h, hL, SR.cj (by rw [Int64.toInt_sub, w64_eq]) hS', rfl, fun target hr => XT.lsub X.here hx rfl hd rfl hr⟩
  case lmul =>
    obtain rfl : len = 1 := by simpa [chk, ilen] using hchk
    obtain ⟨a, b', S', rfl, h⟩ := pl2_some h
    obtain ⟨y, x, St', rfl, rfl, rfl, hS'⟩ := SR.l2 hS
    exact ⟨_, _, _, _, _, h, hL, SR.cj (by rw [Int64.toInt_mul, w64_eq]) hS', rfl, fun target hr => XT.lmul X.here hx rfl hd rfl hr⟩
  case ldiv =>
    obtain rfl : len = 1 := by simpa [chk, ilen] using hchk
    obtain ⟨a, b', S', rfl, h⟩ := pl2_some h
    obtain ⟨y, x, St', rfl, rfl, rfl, hS'⟩ := SR.l2 hS
    simp only [pstep, pl2] at h
    by_cases hz : y.toInt = 0
    · simp [hz] at h
    rw [if_neg hz] at h
    have hy : y ≠ 0 := fun q => hz (by rw [q]; rfl)
    exact ⟨_, _, _, _, _, h, hL, SR.cj (by rw [Int64.toInt_div, div64, w64_eq]) hS', rfl, fun target hr => XT.ldiv X.here hx rfl hd rfl hy hr⟩
  case lrem =>
    obtain rfl : len = 1 := by simpa [chk, ilen] using hchk
    obtain ⟨a, b', S', rfl, h⟩ := pl2_some h
    obtain ⟨y, x, St', rfl, rfl, rfl, hS'⟩ := SR.l2 hS
    simp only [pstep, pl2] at h
    by_cases hz : y.toInt = 0
    · simp [hz] at h
    rw [if_neg hz] at h
    have hy : y ≠ 0 := fun q => hz (by rw [q]; rfl)
    exact ⟨_, _, _, _, _, h, hL, SR.cj (by rw [lrem_mod, Int64.toInt_mod, rem64]) hS', rfl, fun target hr => XT.lrem X.here hx rfl hd rfl hy hr⟩
  case land =>
    obtain rfl : len = 1 := by simpa [chk, ilen] using hchk
    obtain ⟨a, b', S', rfl, h⟩ := pl2_some h
    obtain ⟨y, x, St', rfl, rfl, rfl, hS'⟩ := SR.l2 hS
    exact ⟨_, _, _, _, _, h, hL, SR.cj (by simp only [and64, Int64.ofInt_toInt]) hS', rfl, fun target hr => XT.land X.here hx rfl hd rfl hr⟩
  case lor =>
    obtain rfl : len = 1 := by simpa [chk, ilen] using hchk
    obtain ⟨a, b', S', rfl, h⟩ := pl2_some h
    obtain ⟨y, x, St', rfl, rfl, rfl, hS'⟩ := SR.l2 hS
    exact ⟨_, _, _, _, _, h, hL, SR.cj (by simp only [or64, Int64.ofInt_toInt]) hS', rfl, fun target hr => XT.lor X.here hx rfl hd rfl hr⟩
  case lxor =>
    obtain rfl : len = 1 := by simpa [chk, ilen] using hchk
    obtain ⟨a, b', S', rfl, h⟩ := pl2_some h
    obtain ⟨y, x, St', rfl, rfl, rfl, hS'⟩ := SR.l2 hS
    exact ⟨_, _, _, _, _, h, hL, SR.cj (by simp only [xor64, Int64.ofInt_toInt]) hS', rfl, fun target hr => XT.lxor X.here hx rfl hd rfl hr⟩
  case lshl =>
    obtain rfl : len = 1 := by simpa [chk, ilen] using hchk
    obtain ⟨a, b', S', rfl, h⟩ := pli_some h
    obtain ⟨y, x, St', rfl, rfl, rfl, hS'⟩ := SR.li hS
    exact ⟨_, _, _, _, _, h, hL, SR.cj (by simp only [shl64, Int64.ofInt_toInt, Int32.ofInt_toInt]) hS', rfl, fun target hr => XT.lshl X.here hx rfl hd rfl hr⟩
  case lshr =>
    obtain rfl : len = 1 := by simpa [chk, ilen] using hchk
    obtain ⟨a, b', S', rfl, h⟩ := pli_some h
    obtain ⟨y, x, St', rfl, rfl, rfl, hS'⟩ := SR.li hS
    exact ⟨_, _, _, _, _, h, hL, SR.cj (by simp only [shr64, Int64.ofInt_toInt, Int32.ofInt_toInt]) hS', rfl, fun target hr => XT.lshr X.here hx rfl hd rfl hr⟩
  case lushr =>
    obtain rfl : len = 1 := by simpa [chk, ilen] using hchk
    obtain ⟨a, b', S', rfl, h⟩ := pli_some h
    obtain ⟨y, x, St', rfl, rfl, rfl, hS'⟩ := SR.li hS
    exact ⟨_, _, _, _, _, h, hL, SR.cj (by simp only [ushr64, Int64.ofInt_toInt, Int32.ofInt_toInt]) hS', rfl, fun target hr => XT.lushr X.here hx rfl hd rfl hr⟩
  case lcmp =>
    obtain rfl : len = 1 := by simpa [chk, ilen] using hchk
    obtain ⟨a, b', S', rfl, h⟩ := pl2_some h
    obtain ⟨y, x, St', rfl, rfl, rfl, hS'⟩ := SR.l2 hS
    exact ⟨_, _, _, _, _, h, hL, SR.ci (cmpL_toInt _ _) hS', rfl, fun target hr => XT.lcmp X.here hx rfl hd rfl hr⟩
  case ineg =>
    obtain rfl : len = 1 := by simpa [chk, ilen] using hchk
    obtain ⟨a, S', rfl, h⟩ := pi1_some h
    obtain ⟨y, St', rfl, rfl, hS'⟩ := SR.i1 hS
    exact ⟨_, _, _, _, _, h, hL, SR.ci (by rw [Int32.toInt_neg, w32_eq]) hS', rfl, fun target hr => XS.ineg X.here hx rfl hd rfl hr⟩
  case lneg =>
    obtain rfl : len = 1 := by simpa [chk, ilen] using hchk
    obtain ⟨a, S', rfl, h⟩ := pl1_some h
    obtain ⟨y, St', rfl, rfl, hS'⟩ := SR.l1 hS
    exact ⟨_, _, _, _, _, h, hL, SR.cj (by rw [Int64.toInt_neg, w64_eq]) hS', rfl, fun target hr => XT.lneg X.here hx rfl hd rfl hr⟩
  case i2l =>
    obtain rfl : len = 1 := by simpa [chk, ilen] using hchk
    obtain ⟨a, S', rfl, h⟩ := pi1_some h
    obtain ⟨y, St', rfl, rfl, hS'⟩ := SR.i1 hS
    exact ⟨_, _, _, _, _, h, hL, SR.cj (Int32.toInt_toInt64 _) hS', rfl, fun target hr => XT.i2l X.here hx rfl hd rfl hr⟩
  case l2i =>
    obtain rfl : len = 1 := by simpa [chk, ilen] using hchk
    obtain ⟨a, S', rfl, h⟩ := pl1_some h
    obtain ⟨y, St', rfl, rfl, hS'⟩ := SR.l1 hS
    exact ⟨_, _, _, _, _, h, hL, SR.ci (by rw [Int64.toInt_toInt32, w32_eq]) hS', rfl, fun target hr => XT.l2i X.here hx rfl hd rfl hr⟩
  case i2b =>
    obtain rfl : len = 1 := by simpa [chk, ilen] using hchk
    obtain ⟨a, S', rfl, h⟩ := pi1_some h
    obtain ⟨y, St', rfl, rfl, hS'⟩ := SR.i1 hS
    exact ⟨_, _, _, _, _, h, hL, SR.ci (b8_eq _) hS', rfl, fun target hr => XT.i2b X.here hx rfl hd rfl hr⟩
  case goto o =>
    have hc : len = 3 ∧ 0 ≤ (pc : Int) + o := by simpa [chk] using hchk
    obtain ⟨rfl, h1⟩ := hc
    exact ⟨_, _, _, _, _, h, hL, hS, rfl, fun target hr => XS.goto X.here hx rfl rfl hd h1 rfl hr⟩
  case if_icmp c o =>
    have hc : len = 3 ∧ 0 ≤ (pc : Int) + o := by simpa [chk] using hchk
    obtain ⟨rfl, h1⟩ := hc
    obtain ⟨a, b', S', rfl, h⟩ := pi2_some h
    obtain ⟨y, x, St', rfl, rfl, rfl, hS'⟩ := SR.i2 hS
    rcases br_some h with ⟨hq, h⟩ | ⟨hq, h⟩
    · exact ⟨_, _, _, _, _, h, hL, hS', rfl, fun target hr => XS.icmpYes X.here hx rfl rfl hd rfl (icmp_holds hq) h1 rfl hr⟩
    · exact ⟨_, _, _, _, _, h, hL, hS', rfl, fun target hr => XS.icmpNo X.here hx rfl hd rfl (icmp_fails hq) hr⟩
  case ifCond c o =>
    have hc : len = 3 ∧ 0 ≤ (pc : Int) + o := by simpa [chk] using hchk
    obtain ⟨rfl, h1⟩ := hc
    obtain ⟨a, S', rfl, h⟩ := pi1_some h
    obtain ⟨x, St', rfl, rfl, hS'⟩ := SR.i1 hS
    rcases br_some h with ⟨hq, h⟩ | ⟨hq, h⟩
    · exact ⟨_, _, _, _, _, h, hL, hS', rfl, fun target hr => XS.ifYes X.here hx rfl rfl hd rfl (by rw [if0]; exact icmp_holds (y := 0) hq) h1 rfl hr⟩
    · exact ⟨_, _, _, _, _, h, hL, hS', rfl, fun target hr => XS.ifNo X.here hx rfl hd rfl (by rw [if0]; exact icmp_fails (y := 0) hq) hr⟩
  case tableswitch d lo hi os =>
    have hc : (((0 ≤ (pc : Int) + d ∧ ∀ o ∈ os.toList, 0 ≤ (pc : Int) + o) ∧ hi = lo + os.toList.length - 1) ∧ -2147483648 ≤ lo) ∧ hi ≤ 2147483647 := by simpa only [chk, Bool.and_eq_true, decide_eq_true_eq, List.all_eq_true] using hchk
    obtain ⟨⟨⟨⟨h1, h2⟩, h3⟩, h4⟩, h5⟩ := hc
    obtain ⟨a, S', rfl, h⟩ := pi1_some h
    obtain ⟨x, St', rfl, rfl, hS'⟩ := SR.i1 hS
    rcases tsw_some _ _ _ h with ⟨o, n, hn, ho, h⟩ | ⟨hout, h⟩
    · refine ⟨_, _, _, _, _, h, hL, hS', rfl, fun target hr => XS.tswIn X.here hx rfl rfl hd rfl (o := o) ?_ ?_ (h2 o (List.mem_of_getElem? ho)) rfl hr⟩
      · have := (List.getElem?_eq_some_iff.mp ho).1
        omega
      · have e : (x.toInt - lo).toNat = n := by omega
        rw [e, ← Array.getElem?_toList]; exact ho
    · refine ⟨_, _, _, _, _, h, hL, hS', rfl, fun target hr => XS.tswOut X.here hx rfl rfl hd rfl ?_ h1 rfl hr⟩
      omega
  case dup =>
    obtain rfl : len = 1 := by simpa [chk, ilen] using hchk
    obtain ⟨v, S', rfl, hv, h⟩ := dup_some h
    cases St with
    | nil => exact hS.elim
    | cons x St' =>
      obtain ⟨h1, h2⟩ := hS
      exact ⟨_, _, _, _, _, h, hL, SR.cv h1 (SR.cv h1 h2), rfl, fun target hr => XS.dup X.here hx rfl hd rfl (h1.cat hv) hr⟩
  case pop =>
    obtain rfl : len = 1 := by simpa [chk, ilen] using hchk
    obtain ⟨v, S', rfl, hv, h⟩ := pop_some h
    cases St with
    | nil => exact hS.elim
    | cons x St' =>
      obtain ⟨h1, h2⟩ := hS
      exact ⟨_, _, _, _, _, h, hL, h2, rfl, fun target hr => XT.pop X.here hx rfl hd rfl (h1.cat hv) hr⟩
  case dup2 =>
    obtain rfl : len = 1 := by simpa [chk, ilen] using hchk
    rcases dup2_some h with ⟨z, S', rfl, h⟩ | ⟨u, v, S', rfl, hu, hv, h⟩
    · obtain ⟨y, St', rfl, hy, hS'⟩ := SR.l1 hS
      exact ⟨_, _, _, _, _, h, hL, SR.cj hy (SR.cj hy hS'), rfl, fun target hr => XT.dup2L X.here hx rfl hd rfl hr⟩
    · match St, hS with
      | x :: y :: St', ⟨h1, h2, h3⟩ => exact ⟨_, _, _, _, _, h, hL, SR.cv h1 (SR.cv h2 (SR.cv h1 (SR.cv h2 h3))), rfl, fun target hr => XT.dup2 X.here hx rfl hd rfl (h1.cat hu) (h2.cat hv) hr⟩
  all_goals cases h
end Jvm.OwnMini
namespace Jvm.OwnMini
open Jvm Jvm.ClassFile Sem Op Lib Jvm.Free Jvm.Stand Jvm.LawKit Jvm.RoadKit
/-! How an object of the small machine lies in the JVM's heap. -/
def rty : Nat → Option FieldType
  | 1 => some .int
  | 2 => some .boolean
  | 4 => some .long
  | _ => none
def kty : Nat → FieldType
  | 2 => .boolean
  | 3 => .byte
  | 4 => .long
  | _ => .int
def EV (kd : Nat) (v : Value) (z : Int) : Prop := (kd = 4 ∧ ∃ x : Int64, v = .long x ∧ x.toInt = z) ∨ (kd ≠ 4 ∧ ∃ x : Int32, v = .int x ∧ x.toInt = z)
def AOK (Z : State) (h : Heap) (a : Addr) (kd : Nat) (n : Int) (f : Int → Int) : Prop := ∃ c : Cell, Arr Z h a c (kty kd) ∧ (c.slots.size : Int) = n ∧ ∀ i : Nat, i < c.slots.size → ∃ v, c.slots[i]? = some v ∧ EV kd v (f i)
abbrev FK := Int → Option (Nat × Nat × Bool)
abbrev FN := Int → String × String
def RepO (P : PT) (C : String) (fnm : FN) (fkd : FK) (Z : State) (h : Heap) (A : Nat → Addr) (n0 t : Nat) (m : OMem) : Prop :=
  Exa Z h (A 0) C ∧ n0 ≤ A 0 ∧
  (∀ f kd j fin, fkd f = some (kd, j, fin) → ∃ v, Fld Z h (A 0) C (fnm f).1 (fnm f).2 v ∧ (kd = 0 → j ≤ t / 2 → v = .ref (A j)) ∧ (kd ≠ 0 → EV kd v (m 0 f))) ∧
  (∀ j, 1 ≤ j → j ≤ (t + 1) / 2 → n0 ≤ A j ∧ ∃ kd n, play P j = some (kd, n) ∧ AOK Z h (A j) kd n (m j)) ∧
  (∀ j j', j ≤ (t + 1) / 2 → j' ≤ (t + 1) / 2 → A j = A j' → j = j') ∧
  (∀ j, (t + 1) / 2 < j → ∀ i, m j i = 0)
def psum (P : PT) : Nat → Nat
  | 0 => 0
  | j + 1 => psum P j + (match play P (j + 1) with | some (_, n) => n.toNat | none => 0)
def fty (P : PT) (kd j : Nat) : FieldType := match kd with
  | 0 => .array (match play P j with | some (k, _) => kty k | none => .int)
  | k => kty k
def TabP (P : PT) (C : String) (fnm : FN) (fkd : FK) (nm : Nat → MethodName) (bys : Nat → ByteArray) (nA nf : Nat) (a0 : Array Value) (Z : State) : Prop :=
  (∀ q pc i len, pcode P q pc = some (i, len) → decode (bys q) pc = .ok (i, len) ∧ chk pc i len = true) ∧
  (∀ x f kd j fin, pfld P x = some (f, kd, j, fin) → (Jvm.Cond.fieldLink C x C (fnm f).1 (fnm f).2).before a0 Z = true ∧ fkd f = some (kd, j, fin)) ∧
  (∀ f kd j fin, fkd f = some (kd, j, fin) → ((fin = false ∧ (Jvm.Cond.lays C C (fnm f).1 (fnm f).2).before a0 Z = true) ∨ (fin = true ∧ (Jvm.Cond.laysFinal C C (fnm f).1 (fnm f).2).before a0 Z = true)) ∧ parseFieldDescriptor (fnm f).2 = some (fty P kd j) ∧ (kd = 0 → 1 ≤ j) ∧ kd ≤ 4) ∧
  (∀ f f' x x', fkd f = some x → fkd f' = some x' → f ≠ f' → (fnm f).1 ≠ (fnm f').1) ∧
  (∀ f f' j fin fin', fkd f = some (0, j, fin) → fkd f' = some (0, j, fin') → f = f') ∧
  (∀ j kd n, play P j = some (kd, n) → 1 ≤ j ∧ j ≤ nA ∧ 0 ≤ n ∧ n ≤ 60000000 ∧ (kd = 1 ∨ kd = 2 ∨ kd = 3 ∨ kd = 4) ∧ (Jvm.Cond.arrayClass (kty kd)).before a0 Z = true) ∧
  ((∀ x z, pcst P x = some (.inl z) → ∃ v : Int32, (Jvm.Cond.constant C x v).before a0 Z = true ∧ v.toInt = z) ∧ (∀ x z, pcst P x = some (.inr (.inl z)) → ∃ v : Int64, (Jvm.Cond.constantLong C x v).before a0 Z = true ∧ v.toInt = z)) ∧
  (∀ x q, pmth P x = some q → (Jvm.Cond.methodLink C x (nm q)).before a0 Z = true) ∧
  (∀ q ps ml rk fr lc, pinf P q = some (ps, ml, rk, fr, lc) → (nm q).cls = C ∧ (Jvm.Cond.instanceMethod (nm q)).before a0 Z = true ∧ (Jvm.Cond.code (nm q) (bys q) ml (rty rk)).before a0 Z = true ∧
    (q ≠ 0 → (Jvm.Cond.privateMethod (nm q)).before a0 Z = true ∨ ((Jvm.Cond.declares (nm q)).before a0 Z = true ∧ (Jvm.Cond.selects C (nm q) (nm q)).before a0 Z = true)) ∧ ∃ params, parseMethodDescriptor (nm q).desc = some ⟨params, rty rk⟩ ∧ params.length = ps.length) ∧
  (∀ x, pobi P x = true → (Jvm.Cond.methodLink C x Lib.objectInit).before a0 Z = true) ∧
  ((Jvm.Cond.instanceMethod Lib.objectInit).before a0 Z = true ∧ (Jvm.Cond.code Lib.objectInit ⟨#[0xb1]⟩ 1 none).before a0 Z = true) ∧
  (Jvm.Cond.instantiable C nf).before a0 Z = true ∧ (Jvm.Cond.initialized C).before a0 Z = true ∧ plainName C = true ∧ (C ≠ "java/lang/invoke/MethodHandle" ∧ C ≠ "java/lang/invoke/VarHandle") ∧ (nm 0).name = "<init>" ∧
  (∀ ps ml rk fr lc, pinf P 0 = some (ps, ml, rk, fr, lc) → rk = 0)
section Rep
variable {P : PT} {C : String} {fnm : FN} {fkd : FK} {nm : Nat → MethodName} {bys : Nat → ByteArray} {nA nf : Nat} {a0 : Array Value} {Z : State} {h h' : Heap} {A : Nat → Addr} {n0 t : Nat} {m : OMem}
theorem TabP.laid (HT : TabP P C fnm fkd nm bys nA nf a0 Z) {f : Int} {kd j : Nat} {fin : Bool} (hf : fkd f = some (kd, j, fin)) : Laid Z a0 C C (fnm f).1 (fnm f).2 := by
  obtain ⟨-, -, h3, -⟩ := HT
  rcases (h3 f kd j fin hf).1 with q | q
  · exact Or.inl q.2
  · exact Or.inr q.2
theorem TabP.slot (HT : TabP P C fnm fkd nm bys nA nf a0 Z) {f f' : Int} {x x' : Nat × Nat × Bool} (hf : fkd f = some x) (hf' : fkd f' = some x') (hne : f ≠ f') : RoadKit.slotOf Z C (fnm f).1 (fnm f).2 ≠ RoadKit.slotOf Z C (fnm f').1 (fnm f').2 := by
  obtain ⟨kd, j, fin⟩ := x
  obtain ⟨kd', j', fin'⟩ := x'
  have L1 := HT.laid hf
  have L2 := HT.laid hf'
  obtain ⟨-, -, h3, h4, -⟩ := HT
  exact slot_ne L1 L2 (h4 f f' _ _ hf hf' hne) (h3 f _ _ _ hf).2.1 (h3 f' _ _ _ hf').2.1
theorem RepO.ext (hR : RepO P C fnm fkd Z h A n0 t m) (E : Ext h h') : RepO P C fnm fkd Z h' A n0 t m := by
  obtain ⟨r1, r2, r3, r4, r5, r6⟩ := hR
  refine ⟨r1.ext E, r2, fun f kd j fin hf => ?_, fun j h1 h2 => ?_, r5, r6⟩
  · obtain ⟨v, q1, q2⟩ := r3 f kd j fin hf
    exact ⟨v, q1.ext E, q2⟩
  · obtain ⟨g1, kd, n, g2, c, g3, g4⟩ := r4 j h1 h2
    exact ⟨g1, kd, n, g2, c, g3.ext E, g4⟩
/-- the heap may change where the object isn't -/
theorem RepO.keep (hR : RepO P C fnm fkd Z h A n0 t m) (hk : ∀ a c, h[a]? = some c → (∃ j, j ≤ (t + 1) / 2 ∧ a = A j) → h'[a]? = some c) : RepO P C fnm fkd Z h' A n0 t m := by
  obtain ⟨r1, r2, r3, r4, r5, r6⟩ := hR
  refine ⟨?_, r2, fun f kd j fin hf => ?_, fun j h1 h2 => ?_, r5, r6⟩
  · obtain ⟨cell, k, q, r⟩ := r1
    exact ⟨cell, k, hk _ _ q ⟨0, by omega, rfl⟩, r⟩
  · obtain ⟨v, ⟨cell, cf, k, i, ff, q, r⟩, q2⟩ := r3 f kd j fin hf
    exact ⟨v, ⟨cell, cf, k, i, ff, hk _ _ q ⟨0, by omega, rfl⟩, r⟩, q2⟩
  · obtain ⟨g1, kd, n, g2, c, g3, g4⟩ := r4 j h1 h2
    exact ⟨g1, kd, n, g2, c, ⟨hk _ _ g3.1 ⟨j, h2, rfl⟩, g3.2⟩, g4⟩
theorem sto_ne {k k' : Nat} {i z : Int} (hk : k' ≠ k) : sto m k i z k' = m k' := by
  funext i'
  unfold sto
  rw [if_neg (fun q => hk q.1)]
theorem RepO.wrF (HT : TabP P C fnm fkd nm bys nA nf a0 Z) (hR : RepO P C fnm fkd Z h A n0 t m) {f : Int} {kd j : Nat} {fin : Bool} (hf : fkd f = some (kd, j, fin)) (hkd : kd ≠ 0) {v : Value} {z : Int} (hv : EV kd v z)
    (W : Wr h h' (A 0) (RoadKit.slotOf Z C (fnm f).1 (fnm f).2) v) : RepO P C fnm fkd Z h' A n0 t (sto m 0 f z) := by
  obtain ⟨r1, r2, r3, r4, r5, r6⟩ := hR
  refine ⟨r1.wr W, r2, fun f' kd' j' fin' hf' => ?_, fun j' h1 h2 => ?_, r5, fun j' hj' i => ?_⟩
  · obtain ⟨v', q1, q2, q3⟩ := r3 f' kd' j' fin' hf'
    by_cases e : f' = f
    · subst e
      cases hf.symm.trans hf'
      exact ⟨v, q1.same W, fun q => absurd q hkd, fun _ => by simpa [sto] using hv⟩
    · refine ⟨v', q1.other W (Or.inr (HT.slot hf' hf e)), q2, fun q => ?_⟩
      have : sto m 0 f z 0 f' = m 0 f' := by unfold sto; rw [if_neg (fun q => e q.2)]
      rw [this]; exact q3 q
  · obtain ⟨g1, kd', n, g2, c, g3, g4⟩ := r4 j' h1 h2
    rw [sto_ne (by omega)]
    exact ⟨g1, kd', n, g2, c, g3.other W (fun q => by have := r5 j' 0 h2 (by omega) q; omega), g4⟩
  · rw [sto_ne (by omega)]; exact r6 j' hj' i
theorem RepO.wrP (HT : TabP P C fnm fkd nm bys nA nf a0 Z) (hR : RepO P C fnm fkd Z h A n0 t m) {f : Int} {j : Nat} {fin : Bool} (hf : fkd f = some (0, j, fin)) (ht : t + 1 = 2 * j)
    (W : Wr h h' (A 0) (RoadKit.slotOf Z C (fnm f).1 (fnm f).2) (.ref (A j))) : RepO P C fnm fkd Z h' A n0 (t + 1) m := by
  obtain ⟨r1, r2, r3, r4, r5, r6⟩ := hR
  have e1 : (t + 1 + 1) / 2 = (t + 1) / 2 := by omega
  refine ⟨r1.wr W, r2, fun f' kd' j' fin' hf' => ?_, fun j' h1 h2 => ?_, by rw [e1]; exact r5, by rw [e1]; exact r6⟩
  · obtain ⟨v', q1, q2, q3⟩ := r3 f' kd' j' fin' hf'
    by_cases e : f' = f
    · subst e
      cases hf.symm.trans hf'
      exact ⟨_, q1.same W, fun _ _ => rfl, fun q => absurd rfl q⟩
    · refine ⟨v', q1.other W (Or.inr (HT.slot hf' hf e)), fun q1 q2' => q2 q1 ?_, q3⟩
      have hne : j' ≠ j := fun q => by
        subst q1 q
        obtain ⟨-, -, -, -, h5, -⟩ := HT
        exact e (h5 f' f j' fin' fin hf' hf)
      omega
  · rw [e1] at h2
    obtain ⟨g1, kd', n, g2, c, g3, g4⟩ := r4 j' h1 h2
    exact ⟨g1, kd', n, g2, c, g3.other W (fun q => by have := r5 j' 0 h2 (by omega) q; omega), g4⟩
theorem RepO.wrA (hR : RepO P C fnm fkd Z h A n0 t m) {j : Nat} (h1 : 1 ≤ j) (h2 : j ≤ (t + 1) / 2) {i : Nat} {v : Value} {z : Int} {kd : Nat} {n : Int} (hl : play P j = some (kd, n)) (hv : EV kd v z)
    (W : Wr h h' (A j) i v) : RepO P C fnm fkd Z h' A n0 t (sto m j i z) := by
  obtain ⟨r1, r2, r3, r4, r5, r6⟩ := hR
  refine ⟨r1.wr W, r2, fun f' kd' j' fin' hf' => ?_, fun j' g1 g2 => ?_, r5, fun j' hj' i' => ?_⟩
  · obtain ⟨v', q1, q2, q3⟩ := r3 f' kd' j' fin' hf'
    refine ⟨v', q1.other W (Or.inl fun q => by have := r5 0 j (by omega) h2 q; omega), q2, fun q => ?_⟩
    rw [sto_ne (by omega)]; exact q3 q
  · obtain ⟨k1, kd', n', k2, c, k3, k4, k5⟩ := r4 j' g1 g2
    by_cases e : j' = j
    · subst e
      cases hl.symm.trans k2
      refine ⟨k1, kd, n, hl, c.setSlot i v, k3.same W, by rw [sz_set]; exact k4, fun i' hi' => ?_⟩
      rw [sz_set] at hi'
      by_cases ei : i' = i
      · subst ei
        exact ⟨v, by simp [Cell.setSlot, hi'], by simpa [sto] using hv⟩
      · obtain ⟨w, w1, w2⟩ := k5 i' hi'
        refine ⟨w, ?_, ?_⟩
        · show (c.slots.setIfInBounds i v)[i']? = _
          rw [Array.getElem?_setIfInBounds_ne (fun q => ei q.symm)]; exact w1
        · have : sto m j' i z j' i' = m j' i' := by unfold sto; rw [if_neg (fun q => ei (by have := q.2; omega))]
          rw [this]; exact w2
    · rw [sto_ne e]
      exact ⟨k1, kd', n', k2, c, k3.other W (fun q => e (r5 j' j g2 h2 q)), k4, k5⟩
  · rw [sto_ne (by omega)]; exact r6 j' hj' i'
theorem RepO.lt (hR : RepO P C fnm fkd Z h A n0 t m) {j : Nat} (hj : j ≤ (t + 1) / 2) : A j < h.size := by
  obtain ⟨r1, r2, r3, r4, r5, r6⟩ := hR
  by_cases e : j = 0
  · subst e; exact r1.lt
  · obtain ⟨k1, kd', n', k2, c, k3, -⟩ := r4 j (by omega) hj
    exact k3.lt
def updA (A : Nat → Addr) (j : Nat) (a : Addr) : Nat → Addr := fun i => if i = j then a else A i
theorem updA_ne {j i : Nat} {a : Addr} (h : i ≠ j) : updA A j a i = A i := by unfold updA; rw [if_neg h]
theorem updA_eq {j : Nat} {a : Addr} : updA A j a j = a := by unfold updA; rw [if_pos rfl]
theorem RepO.new (hR : RepO P C fnm fkd Z h A n0 t m) (ht : t % 2 = 0) (hn : n0 ≤ h.size) {kd : Nat} {n : Int} (hl : play P (t / 2 + 1) = some (kd, n)) (hkd : kd = 1 ∨ kd = 2 ∨ kd = 3 ∨ kd = 4) (E : Ext h h') {x : Int32} (hx : x.toInt = n) (hx0 : 0 ≤ n) {cA : ClassId}
    (hA : Arr Z h' h.size (newA cA (kty kd) x) (kty kd)) : RepO P C fnm fkd Z h' (updA A (t / 2 + 1) h.size) n0 (t + 1) m := by
  have hlt := fun j (hj : j ≤ (t + 1) / 2) => hR.lt hj
  obtain ⟨r1, r2, r3, r4, r5, r6⟩ := hR
  have e0 : updA A (t / 2 + 1) h.size 0 = A 0 := updA_ne (by omega)
  refine ⟨by rw [e0]; exact r1.ext E, by rw [e0]; exact r2, fun f kd j fin hf => ?_, fun j h1 h2 => ?_, fun j j' h1 h2 hq => ?_, fun j hj => r6 j (by omega)⟩
  · rw [e0]
    obtain ⟨v, q1, q2, q3⟩ := r3 f kd j fin hf
    refine ⟨v, q1.ext E, fun q4 q5 => ?_, q3⟩
    rw [q2 q4 (by omega), updA_ne (by omega)]
  · by_cases e : j = t / 2 + 1
    · subst e
      rw [updA_eq]
      have sz : (newA cA (kty kd) x).slots.size = x.toNatClampNeg := sz_new cA (kty kd) x
      have hc : (x.toNatClampNeg : Int) = n := by simp only [Int32.toNatClampNeg]; omega
      refine ⟨hn, kd, n, hl, _, hA, by rw [sz]; exact hc, fun i hi => ⟨defaultValue (kty kd), ?_, ?_⟩⟩
      · rw [sz] at hi
        show (Array.replicate x.toNatClampNeg (defaultValue (kty kd)))[i]? = _
        simp [hi]
      · rw [r6 (t / 2 + 1) (by omega)]
        rcases hkd with rfl | rfl | rfl | rfl
        · exact Or.inr ⟨by decide, 0, rfl, rfl⟩
        · exact Or.inr ⟨by decide, 0, rfl, rfl⟩
        · exact Or.inr ⟨by decide, 0, rfl, rfl⟩
        · exact Or.inl ⟨rfl, 0, rfl, rfl⟩
    · rw [updA_ne e]
      obtain ⟨g1, kd, n, g2, c, g3, g4⟩ := r4 j h1 (by omega)
      exact ⟨g1, kd, n, g2, c, g3.ext E, g4⟩
  · by_cases e : j = t / 2 + 1
    · by_cases e' : j' = t / 2 + 1
      · omega
      · subst e
        rw [updA_eq, updA_ne e'] at hq
        exact (Nat.ne_of_gt (hlt j' (by omega)) hq).elim
    · by_cases e' : j' = t / 2 + 1
      · subst e'
        rw [updA_eq, updA_ne e] at hq
        exact (Nat.ne_of_lt (hlt j (by omega)) hq).elim
      · rw [updA_ne e, updA_ne e'] at hq
        exact r5 j j' (by omega) (by omega) hq
/-- nothing but the object's own cells has changed -/
def Sam (h h' : Heap) (A : Nat → Addr) (b : Nat) : Prop := h.size ≤ h'.size ∧ ∀ (a : Addr) (c : Cell), h[a]? = some c → (∀ j, j ≤ b → a ≠ A j) → h'[a]? = some c
theorem Sam.refl (h : Heap) (A : Nat → Addr) (b : Nat) : Sam h h A b := ⟨Nat.le_refl _, fun _ _ q _ => q⟩
theorem Sam.ext (E : Ext h h') (b : Nat) : Sam h h' A b := ⟨E.1, fun a c q _ => E.2 a c q⟩
theorem Sam.wr {j i b : Nat} {v : Value} (W : Wr h h' (A j) i v) (hj : j ≤ b) : Sam h h' A b := by
  refine ⟨by rw [W.size]; exact Nat.le_refl _, fun a c q hq => ?_⟩
  obtain ⟨cell, -, -, -, rfl⟩ := W
  rw [Array.getElem?_setIfInBounds_ne (fun e => hq j hj e.symm)]; exact q
theorem Sam.trans {h1 : Heap} {A1 : Nat → Addr} {b b1 : Nat} (S1 : Sam h h1 A b) (S2 : Sam h1 h' A1 b1) (hA : ∀ j, j ≤ b → A1 j = A j) (hn : ∀ j, b < j → j ≤ b1 → h.size ≤ A1 j) : Sam h h' A b := by
  refine ⟨Nat.le_trans S1.1 S2.1, fun a c q hq => S2.2 a c (S1.2 a c q hq) fun j hj e => ?_⟩
  by_cases hb : j ≤ b
  · exact hq j hb (by rw [e, hA j hb])
  · have h1 := (Array.getElem?_eq_some_iff.mp q).1
    exact Nat.not_lt.mpr (hn j (by omega) hj) (e ▸ h1)
end Rep
/-! entering a method -/
theorem lget_append_none : ∀ (L : OLs) (n k : Nat) {v : OV}, lget (L ++ List.replicate n none) k = some v → lget L k = some v
  | [], n, k, v, h => by
    exfalso
    simp only [List.nil_append] at h
    induction n generalizing k with
    | zero => simp [lget] at h
    | succ n ih =>
      cases k with
      | zero => simp [List.replicate_succ, lget] at h
      | succ k => exact ih k (by simpa [List.replicate_succ, lget] using h)
  | x :: xs, n, 0, v, h => h
  | x :: xs, n, k + 1, v, h => lget_append_none xs n k h
theorem laid_rel {A : Nat → Addr} {b : Nat} : ∀ {as : List OV} {vs : List Value}, SR A b as vs → (laid as).length = (Jvm.Sym.laidSlots vs).length ∧ (∀ k v, lget (laid as) k = some v → ∃ x, (Jvm.Sym.laidSlots vs)[k]? = some (.val x) ∧ VR A b v x) ∧
    (∀ k, (Jvm.Sym.laidSlots vs)[k]? = some .second → ∃ j v, k = j + 1 ∧ (Jvm.Sym.laidSlots vs)[j]? = some (.val v) ∧ v.category = 2) ∧ (∀ k v, (Jvm.Sym.laidSlots vs)[k]? = some (.val v) → v.category = 2 → (Jvm.Sym.laidSlots vs)[k + 1]? = some .second)
  | [], [], _ => ⟨rfl, fun k v h => by simp [laid, lget] at h, fun k h => by simp [Jvm.Sym.laidSlots] at h, fun k v h => by simp [Jvm.Sym.laidSlots] at h⟩
  | a :: as, x :: xs, ⟨h1, h2⟩ => by
    obtain ⟨g1, g2, g3, g4⟩ := laid_rel h2
    by_cases hc : mcat a = 2
    · have hx : x.category = 2 := by rw [h1.cats]; exact hc
      have e1 : Jvm.Sym.laidSlots (x :: xs) = .val x :: .second :: Jvm.Sym.laidSlots xs := by simp [Jvm.Sym.laidSlots, hx]
      have e2 : laid (a :: as) = some a :: none :: laid as := by
        rcases a with z | z | z
        · cases hc
        · rfl
        · cases hc
      rw [e1, e2]
      refine ⟨by simp [g1], fun k v hk => ?_, fun k hk => ?_, fun k v hk hv => ?_⟩
      · match k, hk with
        | 0, hk => cases hk; exact ⟨x, rfl, h1⟩
        | 1, hk => cases hk
        | k + 2, hk => exact g2 k v hk
      · match k, hk with
        | 0, hk => cases hk
        | 1, hk => exact ⟨0, x, rfl, rfl, hx⟩
        | k + 2, hk =>
          obtain ⟨j, v, rfl, q1, q2⟩ := g3 k hk
          exact ⟨j + 2, v, rfl, q1, q2⟩
      · match k, hk with
        | 0, hk => rfl
        | 1, hk => cases hk
        | k + 2, hk => exact g4 k v hk hv
    · have hx : ¬ x.category = 2 := by rw [h1.cats]; exact hc
      have e1 : Jvm.Sym.laidSlots (x :: xs) = .val x :: Jvm.Sym.laidSlots xs := by simp [Jvm.Sym.laidSlots, hx]
      have e2 : laid (a :: as) = some a :: laid as := by
        rcases a with z | z | z
        · rfl
        · exact absurd rfl hc
        · rfl
      rw [e1, e2]
      refine ⟨by simp [g1], fun k v hk => ?_, fun k hk => ?_, fun k v hk hv => ?_⟩
      · match k, hk with
        | 0, hk => cases hk; exact ⟨x, rfl, h1⟩
        | k + 1, hk => exact g2 k v hk
      · match k, hk with
        | 0, hk => cases hk
        | k + 1, hk =>
          obtain ⟨j, v, rfl, q1, q2⟩ := g3 k hk
          exact ⟨j + 1, v, rfl, q1, q2⟩
      · match k, hk with
        | 0, hk => cases hk; exact absurd hv hx
        | k + 1, hk => exact g4 k v hk hv
theorem entry_rel {A : Nat → Addr} {b n : Nat} {as : List OV} {vs : List Value} (h : SR A b as vs) : LR A b (initL as n) (argsToLocals vs.toArray n) := by
  obtain ⟨g1, g2, g3, g4⟩ := laid_rel h
  have e : (argsToLocals vs.toArray n).toList = Jvm.Sym.laidSlots vs ++ List.replicate (n - (Jvm.Sym.laidSlots vs).length) Slot.unset := Jvm.Sym.argsToLocals_toList _ _
  have ge : ∀ k, (argsToLocals vs.toArray n)[k]? = (Jvm.Sym.laidSlots vs ++ List.replicate (n - (Jvm.Sym.laidSlots vs).length) Slot.unset)[k]? := fun k => by rw [← e, Array.getElem?_toList]
  have up : ∀ k s, (Jvm.Sym.laidSlots vs)[k]? = some s → (argsToLocals vs.toArray n)[k]? = some s := fun k s q => by
    rw [ge, List.getElem?_append_left (List.getElem?_eq_some_iff.mp q).1]; exact q
  have down : ∀ k s, (argsToLocals vs.toArray n)[k]? = some s → s ≠ Slot.unset → (Jvm.Sym.laidSlots vs)[k]? = some s := fun k s q hs => by
    rw [ge, List.getElem?_append] at q
    split at q
    · exact q
    · rw [List.getElem?_replicate] at q
      split at q
      · exact absurd (Option.some.inj q).symm hs
      · cases q
  refine ⟨?_, fun k v hk => ?_, fun k hk => ?_, fun k v hk hv => ?_⟩
  · rw [← Array.length_toList, e]
    simp [initL, g1]
  · obtain ⟨x, q1, q2⟩ := g2 k v (lget_append_none _ _ _ hk)
    exact ⟨x, up _ _ q1, q2⟩
  · obtain ⟨j, v, q1, q2, q3⟩ := g3 k (down k _ hk (by intro q; cases q))
    exact ⟨j, v, q1, up _ _ q2, q3⟩
  · exact up _ _ (g4 k v (down k _ hk (by intro q; cases q)) hv)
theorem popA_rel {A : Nat → Addr} {b : Nat} : ∀ {ts : List Bool} {S : List OV} {acc as : List OV} {S' : List OV} {St : List Value}, popA ts S acc = some (as, S') → SR A b S St →
    ∃ B St', (∀ A' b' X, SR A' b' acc X → SR A' b' as (B ++ X)) ∧ SR A b S' St' ∧ St = B.reverse ++ St' ∧ B.length = ts.length
  | [], S, acc, as, S', St, h, hS => by
    cases h
    exact ⟨[], St, fun _ _ _ hX => hX, hS, rfl, rfl⟩
  | false :: ts, .inl z :: S, acc, as, S', St, h, hS => by
    obtain ⟨y, St1, rfl, hy, hS1⟩ := SR.i1 hS
    obtain ⟨B, St', q1, q2, q3, q4⟩ := popA_rel (ts := ts) h hS1
    exact ⟨B ++ [.int y], St', fun A' b' X hX => by simpa using q1 A' b' (.int y :: X) ⟨⟨y, rfl, hy⟩, hX⟩, q2, by simp [q3], by simp [q4]⟩
  | true :: ts, .inr (.inl z) :: S, acc, as, S', St, h, hS => by
    obtain ⟨y, St1, rfl, hy, hS1⟩ := SR.l1 hS
    obtain ⟨B, St', q1, q2, q3, q4⟩ := popA_rel (ts := ts) h hS1
    exact ⟨B ++ [.long y], St', fun A' b' X hX => by simpa using q1 A' b' (.long y :: X) ⟨⟨y, rfl, hy⟩, hX⟩, q2, by simp [q3], by simp [q4]⟩
end Jvm.OwnMini
namespace Jvm.OwnMini
open Jvm Jvm.ClassFile Sem Op Lib Jvm.Free Jvm.Stand Jvm.LawKit Jvm.RoadKit
theorem retI' {p : Program} {l : Launch} {e : Env} {R : Room} {s : State} {m : MethodId} {args : Array Value} {below : List Frame} {meth : Method} {c : Code} {T : State} {locs : List Loc} {cells slots : Nat} (X : Stand p l e R s m args below meth c T locs cells slots) (hx : p.tables.exec = Jvm.exec) {pc : Nat} {Ls : Array Slot} {z : Int32} {rest : List Value} (hret : meth.sig.returnType = some .int) (hd : decode c.code pc = .ok (.ireturn, 1)) {fs : List Frame}
    (hl : ∀ (f : JFrame) (acts : List Action), f.method = m → f.locked = none → f.entered = [] → (doReturn e (T.setTop f) acts (some (.int z))).1 = T.setFrames fs) : Steps p.tables e below (T.setTop (mkF m pc Ls (.int z :: rest))) (T.setFrames fs) :=
  retOut X hx hret rfl (Or.inl ⟨rfl, Or.inl rfl, z, rfl⟩) hd hl
def RVl : Option OV → Option Value → Prop
  | none, v => v = none
  | some (.inl z), v => ∃ x : Int32, v = some (.int x) ∧ x.toInt = z
  | some (.inr (.inl z)), v => ∃ x : Int64, v = some (.long x) ∧ x.toInt = z
  | some (.inr (.inr _)), _ => False
theorem RVl.push {A : Nat → Addr} {b : Nat} {r : Option OV} {v : Option Value} (h : RVl r v) {S : List OV} {St : List Value} (hS : SR A b S St) : SR A b (pushR r S) (v.toList ++ St) := by
  rcases r with _ | z | z | z
  · cases h; exact hS
  · obtain ⟨x, rfl, e⟩ := h; exact ⟨⟨x, rfl, e⟩, hS⟩
  · obtain ⟨x, rfl, e⟩ := h; exact ⟨⟨x, rfl, e⟩, hS⟩
  · exact h.elim
/-- from where the walk stands it comes to its end -/
def EndP (P : PT) (C : String) (fnm : FN) (fkd : FK) (Z : State) (nA : Nat) (p : Program) (l : Launch) (e : Env) (R : Room) (s : State) (mi : MethodId) (args : Array Value) (below : List Frame) (meth : Method) (c : Code) (n0 q : Nat)
    (T : State) (A : Nat → Addr) (t : Nat) (locs : List Loc) (cells slots : Nat) (f0 : JFrame) (r : Option OV) (t' : Nat) (m' : OMem) : Prop :=
  ∃ (v : Option Value) (T' : State) (A' : Nat → Addr) (lw : List Loc) (cells' slots' : Nat),
    Stand p l e R s mi args below meth c T' (locs ++ lw) cells' slots' ∧ RepO P C fnm fkd Z T'.heap A' n0 t' m' ∧
    (∀ j, j ≤ (t + 1) / 2 → A' j = A j) ∧ t ≤ t' ∧ (∀ j, (t + 1) / 2 < j → j ≤ (t' + 1) / 2 → T.heap.size ≤ A' j) ∧ Fr n0 lw ∧
    cells' + (nA - (t' + 1) / 2) ≤ cells + (nA - (t + 1) / 2) ∧ slots' + (psum P nA - psum P ((t' + 1) / 2)) ≤ slots + (psum P nA - psum P ((t + 1) / 2)) ∧
    (q ≠ 0 → t' = t ∧ cells' = cells ∧ slots' = slots) ∧ Sam T.heap T'.heap A ((t + 1) / 2) ∧ RVl r v ∧ (meth.sig.returnType = none → v = none) ∧
    ∀ fs, (∀ (f : JFrame) (acts : List Action), f.method = mi → f.locked = none → f.entered = [] → (doReturn e (T'.setTop f) acts v).1 = T'.setFrames fs) → Steps p.tables e below (T.setTop f0) (T'.setFrames fs)
section Sound
variable {P : PT} {C : String} {fnm : FN} {fkd : FK} {nm : Nat → MethodName} {bys : Nat → ByteArray} {nA nf : Nat} {a0 : Array Value} {Z : State}
variable {p : Program} {l : Launch} {e : Env} {R : Room} {s : State} {mi : MethodId} {args : Array Value} {below : List Frame} {meth : Method} {c : Code} {n0 q : Nat}
theorem EndP.trans {T T1 : State} {A A1 : Nat → Addr} {t t1 : Nat} {locs l1 : List Loc} {cells slots cells1 slots1 : Nat} {f0 f1 : JFrame} {r : Option OV} {t' : Nat} {m' : OMem}
    (E : EndP P C fnm fkd Z nA p l e R s mi args below meth c n0 q T1 A1 t1 (locs ++ l1) cells1 slots1 f1 r t' m') (hA : ∀ j, j ≤ (t + 1) / 2 → A1 j = A j) (ht : t ≤ t1) (hn : ∀ j, (t + 1) / 2 < j → j ≤ (t1 + 1) / 2 → T.heap.size ≤ A1 j) (hF : Fr n0 l1)
    (hc : cells1 + (nA - (t1 + 1) / 2) ≤ cells + (nA - (t + 1) / 2)) (hs : slots1 + (psum P nA - psum P ((t1 + 1) / 2)) ≤ slots + (psum P nA - psum P ((t + 1) / 2))) (hq : q ≠ 0 → t1 = t ∧ cells1 = cells ∧ slots1 = slots) (hS : Sam T.heap T1.heap A ((t + 1) / 2))
    (st : ∀ target, Steps p.tables e below (T1.setTop f1) target → Steps p.tables e below (T.setTop f0) target) : EndP P C fnm fkd Z nA p l e R s mi args below meth c n0 q T A t locs cells slots f0 r t' m' := by
  obtain ⟨v, T', A', lw, cells', slots', h1, h2, h3, h4, h5, h6, h7, h8, h9, h10, h11, h12, h13⟩ := E
  refine ⟨v, T', A', l1 ++ lw, cells', slots', by rw [← List.append_assoc]; exact h1, h2, fun j hj => (h3 j (by omega)).trans (hA j hj), by omega, fun j g1 g2 => ?_, hF.app h6, by omega, by omega, fun hq' => ?_, hS.trans h10 hA hn, h11, h12, fun fs hfs => st _ (h13 fs hfs)⟩
  · by_cases hj : j ≤ (t1 + 1) / 2
    · rw [h3 j hj]; exact hn j g1 hj
    · exact Nat.le_trans hS.1 (h5 j (by omega) g2)
  · obtain ⟨a1, a2, a3⟩ := hq hq'
    obtain ⟨b1, b2, b3⟩ := h9 hq'
    exact ⟨b1.trans a1, b2.trans a2, b3.trans a3⟩
/-- a step that leaves the heap as it is -/
theorem EndP.still {T T1 : State} {A : Nat → Addr} {t : Nat} {locs : List Loc} {cells slots : Nat} {f0 f1 : JFrame} {r : Option OV} {t' : Nat} {m' : OMem}
    (E : EndP P C fnm fkd Z nA p l e R s mi args below meth c n0 q T1 A t locs cells slots f1 r t' m') (hh : T1.heap = T.heap) (st : ∀ target, Steps p.tables e below (T1.setTop f1) target → Steps p.tables e below (T.setTop f0) target) :
    EndP P C fnm fkd Z nA p l e R s mi args below meth c n0 q T A t locs cells slots f0 r t' m' :=
  EndP.trans (l1 := []) (by rw [List.append_nil]; exact E) (fun _ _ => rfl) (Nat.le_refl _) (fun j h1 h2 => by omega) (Fr.nil _) (Nat.le_refl _) (Nat.le_refl _) (fun _ => ⟨rfl, rfl, rfl⟩) (by rw [hh]; exact Sam.refl _ _ _) st
def SoundAt (P : PT) (C : String) (fnm : FN) (fkd : FK) (bys : Nat → ByteArray) (nA : Nat) (Z : State) (l : Launch) (n : Nat) : Prop :=
  ∀ q pc L S t m r t' m', runP P n q pc L S t m = some (r, t', m') → ∀ ps ml rk fr lc, pinf P q = some (ps, ml, rk, fr, lc) →
  ∀ (p : Program) (e : Env) (R : Room) (s : State) (mi : MethodId) (args : Array Value) (below : List Frame) (meth : Method) (c : Code) (T : State) (locs : List Loc) (cells slots : Nat) (A : Nat → Addr) (Ls : Array Slot) (St : List Value) (n0 : Nat),
    Stand p l e R s mi args below meth c T locs cells slots → p.tables.exec = Jvm.exec → Z.Warmed39 s.vm → s.vm.findClass C = some mi.cls → c.code = bys q → c.maxLocals = ml → meth.sig.returnType = rty rk → (q = 0 → meth.name = "<init>") →
    RepO P C fnm fkd Z T.heap A n0 t m → LR A ((t + 1) / 2) L Ls → SR A ((t + 1) / 2) S St → Ls.size = ml → n0 ≤ T.heap.size → fr ≤ R.frames → lc ≤ R.locals → cells ≤ R.cells → slots ≤ R.slots →
    (q = 0 → cells + (nA - (t + 1) / 2) ≤ R.cells ∧ slots + (psum P nA - psum P ((t + 1) / 2)) ≤ R.slots) →
    EndP P C fnm fkd Z nA p l e R s mi args below meth c n0 q T A t locs cells slots (mkF mi pc Ls St) r t' m'
/-- what a method of the object leaves -/
def QP (P : PT) (C : String) (fnm : FN) (fkd : FK) (Z : State) (n0 q t : Nat) (A : Nat → Addr) (h : Heap) (r : Option OV) (t' : Nat) (m' : OMem) (v : Option Value) (h' : Heap) (L : List Loc) : Prop :=
  ∃ A', RepO P C fnm fkd Z h' A' n0 t' m' ∧ (∀ j, j ≤ (t + 1) / 2 → A' j = A j) ∧ t ≤ t' ∧ (∀ j, (t + 1) / 2 < j → j ≤ (t' + 1) / 2 → h.size ≤ A' j) ∧ Fr n0 L ∧ Sam h h' A ((t + 1) / 2) ∧ RVl r v ∧ (q ≠ 0 → t' = t)
theorem metP (HT : TabP P C fnm fkd nm bys nA nf a0 Z) {n : Nat} (hS : SoundAt P C fnm fkd bys nA Z l n) {ps : List Bool} {ml rk fr lc : Nat} (hq : pinf P q = some (ps, ml, rk, fr, lc)) {as : List OV} {t : Nat} {m : OMem} {r : Option OV} {t' : Nat} {m' : OMem}
    (hrun : runP P n q 0 (initL as ml) [] t m = some (r, t', m')) (hsz : (initL as ml).length ≤ ml) {A : Nat → Addr} {h : Heap} (hn0 : n0 ≤ h.size) (hR : RepO P C fnm fkd Z h A n0 t m) {vals : List Value} (hv : SR A ((t + 1) / 2) as vals) {cl sl : Nat}
    (hcl : q = 0 → nA - (t + 1) / 2 ≤ cl ∧ psum P nA - psum P ((t + 1) / 2) ≤ sl) :
    MetFree l (nm q) (head1 [Jvm.Cond.code (nm q) (bys q) ml (rty rk)] ({ frames := fr, cells := cl, slots := sl, locals := lc } : Room)) (fun a U => a = vals.toArray ∧ Z.Warmed39 U.vm ∧ U.heap = h) (fun _ _ _ _ _ => True)
      (fun _ U o U' => ∃ v L, o = .returned v ∧ QP P C fnm fkd Z n0 q t A h r t' m' v U'.heap L ∧ FrameEnd U o U' L cl sl) := by
  have HT' := HT
  obtain ⟨-, -, -, -, -, -, -, -, hinf, -, -, -, -, hpn, -, hin, -⟩ := HT'
  obtain ⟨hcls, -⟩ := hinf q ps ml rk fr lc hq
  refine MetFree.of_bodySF (plainFor_of_name (by rw [hcls]; exact hpn)) hisR ?_
  intro p e s m' args below meth c s₁ Bd hml0 hP hK
  obtain ⟨rfl, hZ, hh⟩ := hP
  have X0 := Stand.of_body Bd
  have e0 : s₁.heap = h := by rw [← hh, Bd.state]; rfl
  have hown : s.vm.findClass C = some m'.cls := by rw [← hcls]; exact findClass_of_methodNamed Bd.named
  have hnm := (name_of_methodNamed Bd.named Bd.method).1
  have hL := entry_rel (n := ml) hv
  have hz : (argsToLocals vals.toArray ml).size = ml := by
    rw [← hL.1]
    refine Nat.le_antisymm hsz ?_
    simp only [initL, List.length_append, List.length_replicate]; omega
  obtain ⟨v, T', A', lw, cells', slots', h1, h2, h3, h4, h5, h6, h7, h8, h9, h10, h11, h12, h13⟩ := hS q 0 _ [] t m r t' _ hrun ps ml rk fr lc hq p e _ s m' _ below meth c s₁ [] 0 0 A (argsToLocals vals.toArray ml) [] n0 X0 Bd.exec hZ hown Bd.bytes hml0 Bd.returns (fun q0 => by subst q0; exact hnm.trans hin)
    (by rw [e0]; exact hR) hL trivial hz (by rw [e0]; exact hn0) (Nat.le_refl _) (Nat.le_refl _) (Nat.zero_le _) (Nat.zero_le _) (fun q0 => by have := hcl q0; exact ⟨by show 0 + _ ≤ cl; omega, by show 0 + _ ≤ sl; omega⟩)
  rw [e0] at h5 h10
  obtain ⟨fs, hr, hrun', hended, hW, hsame⟩ := h1.leave (v := v) h12
  refine ⟨_, _, h13 fs hr, hrun', hended, v, _, rfl, ⟨A', h2, h3, h4, h5, h6, h10, h11, fun q0 => (h9 q0).1⟩, ⟨_, rfl⟩, hW, hsame.mono ?_ ?_⟩
  · by_cases q0 : q = 0
    · have := (hcl q0).1; omega
    · have := (h9 q0).2.1; omega
  · by_cases q0 : q = 0
    · have := (hcl q0).2; omega
    · have := (h9 q0).2.2; omega
end Sound
end Jvm.OwnMini
namespace Jvm.OwnMini
open Jvm Jvm.ClassFile Sem Op Lib Jvm.Free Jvm.Stand Jvm.LawKit Jvm.RoadKit
section Inv
variable {P : PT} {k : Nat → Nat → OLs → List OV → Nat → OMem → RT} {q pc len t : Nat} {L : OLs} {S : List OV} {m : OMem} {r : Option OV × Nat × OMem}
theorem getfield_some {x : Nat} (h : stepS P k q pc L S t m (.getfield x) len = some r) : ∃ S', S = .inr (.inr 0) :: S' ∧
    ((∃ f j fin, pfld P x = some (f, 0, j, fin) ∧ j ≤ t / 2 ∧ k q (pc + len) L (vr j :: S') t m = some r) ∨ (∃ f kd j fin, pfld P x = some (f, kd, j, fin) ∧ (kd = 1 ∨ kd = 2) ∧ k q (pc + len) L (vi (m 0 f) :: S') t m = some r) ∨ (∃ f j fin, pfld P x = some (f, 4, j, fin) ∧ k q (pc + len) L (vl (m 0 f) :: S') t m = some r)) := by
  simp only [stepS] at h
  split at h
  · refine ⟨_, rfl, ?_⟩
    split at h
    · rename_i f j fin hf
      cases hb : Nat.ble j (t / 2) with
      | false => rw [hb] at h; cases h
      | true => rw [hb] at h; exact Or.inl ⟨f, j, fin, hf, Nat.le_of_ble_eq_true hb, h⟩
    · rename_i f j fin hf; exact Or.inr (Or.inl ⟨f, 1, j, fin, hf, Or.inl rfl, h⟩)
    · rename_i f j fin hf; exact Or.inr (Or.inl ⟨f, 2, j, fin, hf, Or.inr rfl, h⟩)
    · rename_i f j fin hf; exact Or.inr (Or.inr ⟨f, j, fin, hf, h⟩)
    · cases h
  · cases h
theorem cond_some {α : Type} {b : Bool} {x : Option α} {a : α} (h : cond b x none = some a) : b = true ∧ x = some a := by
  cases b
  · cases h
  · exact ⟨rfl, h⟩
theorem putfield_some {x : Nat} (h : stepS P k q pc L S t m (.putfield x) len = some r) :
    (∃ f j fin S', pfld P x = some (f, 0, j, fin) ∧ S = .inr (.inr j) :: .inr (.inr 0) :: S' ∧ t + 1 = 2 * j ∧ q = 0 ∧ k q (pc + len) L S' (t + 1) m = some r) ∨
    (∃ f kd j fin z S', pfld P x = some (f, kd, j, fin) ∧ (kd = 1 ∨ kd = 2) ∧ S = .inl z :: .inr (.inr 0) :: S' ∧ (fin = false ∨ q = 0) ∧ k q (pc + len) L S' t (sto m 0 f (if kd = 2 then z % 2 else z)) = some r) ∨
    (∃ f j fin z S', pfld P x = some (f, 4, j, fin) ∧ S = .inr (.inl z) :: .inr (.inr 0) :: S' ∧ (fin = false ∨ q = 0) ∧ k q (pc + len) L S' t (sto m 0 f z) = some r) := by
  have fq : ∀ {fin : Bool}, (!fin || Nat.beq q 0) = true → fin = false ∨ q = 0 := fun {fin} hh => by
    cases fin
    · exact Or.inl rfl
    · exact Or.inr (Nat.eq_of_beq_eq_true (by simpa using hh))
  simp only [stepS] at h
  split at h
  · rename_i f j fin hf
    split at h
    · rename_i j' S'
      obtain ⟨hb, hh⟩ := cond_some h
      simp only [Bool.and_eq_true] at hb
      obtain ⟨⟨h1, h2⟩, h3⟩ := hb
      cases Nat.eq_of_beq_eq_true h1
      exact Or.inl ⟨f, _, fin, S', hf, rfl, Nat.eq_of_beq_eq_true h2, Nat.eq_of_beq_eq_true h3, hh⟩
    · cases h
  · rename_i f j fin hf
    split at h
    · obtain ⟨hb, h⟩ := cond_some h
      exact Or.inr (Or.inl ⟨f, 1, j, fin, _, _, hf, Or.inl rfl, rfl, fq hb, h⟩)
    · cases h
  · rename_i f j fin hf
    split at h
    · obtain ⟨hb, h⟩ := cond_some h
      exact Or.inr (Or.inl ⟨f, 2, j, fin, _, _, hf, Or.inr rfl, rfl, fq hb, h⟩)
    · cases h
  · rename_i f j fin hf
    split at h
    · obtain ⟨hb, h⟩ := cond_some h
      exact Or.inr (Or.inr ⟨f, j, fin, _, _, hf, rfl, fq hb, h⟩)
    · cases h
  · cases h
theorem ald_some {kd : Nat → Bool} {f : Nat → Int → List OV → RT} (h : ald P kd S t f = some r) : ∃ i j S' k n, S = .inl i :: .inr (.inr j) :: S' ∧ play P j = some (k, n) ∧ kd k = true ∧ j ≤ t / 2 ∧ 0 ≤ i ∧ i < n ∧ f j i S' = some r := by
  simp only [ald] at h
  split at h
  · split at h
    · rename_i hl
      obtain ⟨hb, h⟩ := cond_some h
      simp only [Bool.and_eq_true] at hb
      split at h
      · rename_i hc
        exact ⟨_, _, _, _, _, rfl, hl, hb.1, Nat.le_of_ble_eq_true hb.2, hc.1, hc.2, h⟩
      · cases h
    · cases h
  · cases h
theorem asi_some {kd : Nat → Bool} {f : Nat → Nat → Int → Int → List OV → RT} (h : asi P kd S t f = some r) : ∃ z i j S' k n, S = .inl z :: .inl i :: .inr (.inr j) :: S' ∧ play P j = some (k, n) ∧ kd k = true ∧ j ≤ t / 2 ∧ 0 ≤ i ∧ i < n ∧ f k j i z S' = some r := by
  simp only [asi] at h
  split at h
  · split at h
    · rename_i hl
      obtain ⟨hb, h⟩ := cond_some h
      simp only [Bool.and_eq_true] at hb
      split at h
      · rename_i hc
        exact ⟨_, _, _, _, _, _, rfl, hl, hb.1, Nat.le_of_ble_eq_true hb.2, hc.1, hc.2, h⟩
      · cases h
    · cases h
  · cases h
theorem asl_some {kd : Nat → Bool} {f : Nat → Int → Int → List OV → RT} (h : asl P kd S t f = some r) : ∃ z i j S' k n, S = .inr (.inl z) :: .inl i :: .inr (.inr j) :: S' ∧ play P j = some (k, n) ∧ kd k = true ∧ j ≤ t / 2 ∧ 0 ≤ i ∧ i < n ∧ f j i z S' = some r := by
  simp only [asl] at h
  split at h
  · split at h
    · rename_i hl
      obtain ⟨hb, h⟩ := cond_some h
      simp only [Bool.and_eq_true] at hb
      split at h
      · rename_i hc
        exact ⟨_, _, _, _, _, _, rfl, hl, hb.1, Nat.le_of_ble_eq_true hb.2, hc.1, hc.2, h⟩
      · cases h
    · cases h
  · cases h
theorem arraylength_some (h : stepS P k q pc L S t m .arraylength len = some r) : ∃ j S' kd n, S = .inr (.inr j) :: S' ∧ play P j = some (kd, n) ∧ j ≤ t / 2 ∧ k q (pc + len) L (vi n :: S') t m = some r := by
  simp only [stepS] at h
  split at h
  · split at h
    · rename_i hl
      obtain ⟨hb, h⟩ := cond_some h
      exact ⟨_, _, _, _, rfl, hl, Nat.le_of_ble_eq_true hb, h⟩
    · cases h
  · cases h
theorem newarray_some {a : ArrayType} (h : stepS P k q pc L S t m (.newarray a) len = some r) : ∃ S' kd n, S = .inl n :: S' ∧ play P (t / 2 + 1) = some (kd, n) ∧ t % 2 = 0 ∧ kd = akind a ∧ q = 0 ∧ k q (pc + len) L (vr (t / 2 + 1) :: S') (t + 1) m = some r := by
  simp only [stepS] at h
  split at h
  · split at h
    · rename_i hl
      obtain ⟨hb, hh⟩ := cond_some h
      simp only [Bool.and_eq_true] at hb
      obtain ⟨⟨h1, h2⟩, h3⟩ := hb
      split at hh
      · rename_i hz
        subst hz
        exact ⟨_, _, _, rfl, hl, Nat.eq_of_beq_eq_true h1, Nat.eq_of_beq_eq_true h2, Nat.eq_of_beq_eq_true h3, hh⟩
      · cases hh
    · cases h
  · cases h
theorem invokespecial_some {x : Nat} (h : stepS P k q pc L S t m (.invokespecial x) len = some r) : ∃ S' ps ml rk fr lc, S = .inr (.inr 0) :: S' ∧ pinf P q = some (ps, ml, rk, fr, lc) ∧ pobi P x = true ∧ 1 ≤ fr ∧ cats S' + 12 ≤ lc ∧ k q (pc + len) L S' t m = some r := by
  simp only [stepS] at h
  split at h
  · split at h
    · rename_i hl
      obtain ⟨hb, h⟩ := cond_some h
      simp only [Bool.and_eq_true] at hb
      obtain ⟨⟨h1, h2⟩, h3⟩ := hb
      exact ⟨_, _, _, _, _, _, rfl, hl, h1, Nat.le_of_ble_eq_true h2, Nat.le_of_ble_eq_true h3, h⟩
    · cases h
  · cases h
theorem invokevirtual_some {x : Nat} (h : stepS P k q pc L S t m (.invokevirtual x) len = some r) : ∃ q' ps ml rk fr' lc' ps0 ml0 rk0 fr lc as S' y, pmth P x = some q' ∧ pinf P q' = some (ps, ml, rk, fr', lc') ∧ pinf P q = some (ps0, ml0, rk0, fr, lc) ∧ popA ps S [] = some (as, .inr (.inr 0) :: S') ∧
    fr' + 1 ≤ fr ∧ cats S' + (ml + 11) + lc' ≤ lc ∧ q' ≠ 0 ∧ (initL (vr 0 :: as) ml).length ≤ ml ∧ k q' 0 (initL (vr 0 :: as) ml) [] t m = some y ∧ k q (pc + len) L (pushR y.1 S') y.2.1 y.2.2 = some r := by
  simp only [stepS] at h
  split at h
  · rename_i q' hq'
    split at h
    · rename_i ps ml rk fr' lc' ps0 ml0 rk0 fr lc h1 h2
      split at h
      · rename_i as S' hp
        obtain ⟨hb, h⟩ := cond_some h
        simp only [Bool.and_eq_true] at hb
        obtain ⟨⟨⟨g1, g2⟩, g3⟩, g4⟩ := hb
        obtain ⟨y, h3, h4⟩ := Option.bind_eq_some_iff.mp h
        exact ⟨q', ps, ml, rk, fr', lc', ps0, ml0, rk0, fr, lc, as, S', y, hq', h1, h2, hp, Nat.le_of_ble_eq_true g1, Nat.le_of_ble_eq_true g2, fun e => by subst e; simp at g3, Nat.le_of_ble_eq_true g4, h3, h4⟩
      · cases h
    · cases h
  · cases h
theorem ireturn_some (h : stepS P k q pc L S t m .ireturn len = some r) : ∃ z S' ps ml rk fr lc, S = .inl z :: S' ∧ pinf P q = some (ps, ml, rk, fr, lc) ∧ ((rk = 1 ∧ r = (some (vi z), t, m)) ∨ (rk = 2 ∧ r = (some (vi (z % 2)), t, m))) := by
  simp only [stepS] at h
  split at h
  · split at h
    · rename_i hl; cases h; exact ⟨_, _, _, _, _, _, _, rfl, hl, Or.inl ⟨rfl, rfl⟩⟩
    · rename_i hl; cases h; exact ⟨_, _, _, _, _, _, _, rfl, hl, Or.inr ⟨rfl, rfl⟩⟩
    · cases h
  · cases h
theorem lreturn_some (h : stepS P k q pc L S t m .lreturn len = some r) : ∃ z S' ps ml fr lc, S = .inr (.inl z) :: S' ∧ pinf P q = some (ps, ml, 4, fr, lc) ∧ r = (some (vl z), t, m) := by
  simp only [stepS] at h
  split at h
  · split at h
    · rename_i hl; cases h; exact ⟨_, _, _, _, _, _, rfl, hl, rfl⟩
    · cases h
  · cases h
theorem return_some (h : stepS P k q pc L S t m .return_ len = some r) : ∃ ps ml fr lc, S = [] ∧ pinf P q = some (ps, ml, 0, fr, lc) ∧ r = (none, t, m) := by
  simp only [stepS] at h
  split at h
  · split at h
    · rename_i hl; cases h; exact ⟨_, _, _, _, rfl, hl, rfl⟩
    · cases h
  · cases h
end Inv
end Jvm.OwnMini
namespace Jvm.OwnMini
open Jvm Jvm.ClassFile Sem Op Lib Jvm.Free Jvm.Stand Jvm.LawKit Jvm.RoadKit
theorem kty_akind : ∀ {a : ArrayType} {kd : Nat}, kd = akind a → (kd = 1 ∨ kd = 2 ∨ kd = 3 ∨ kd = 4) → newarray.typeOf a = kty kd := by
  intro a kd h hk
  cases a <;> simp only [akind] at h <;> subst h <;> first | rfl | (rcases hk with q | q | q | q <;> cases q)
theorem idx32 {j : Int32} {n : Nat} (h0 : 0 ≤ j.toInt) (h1 : j.toInt < n) : ¬ (j < 0 ∨ n ≤ j.toNatClampNeg) := by
  simp only [Int32.lt_iff_toInt_lt, Int32.toNatClampNeg, Int32.reduceToInt]; omega
theorem clamp32 {j : Int32} (h0 : 0 ≤ j.toInt) : (j.toNatClampNeg : Int) = j.toInt := by
  simp only [Int32.toNatClampNeg]; omega
theorem EV.int {kd : Nat} {v : Value} {z : Int} (h : EV kd v z) (hk : kd ≠ 4) : ∃ x : Int32, v = .int x ∧ x.toInt = z := by
  rcases h with ⟨q, -⟩ | ⟨-, q⟩
  · exact absurd q hk
  · exact q
theorem EV.long {kd : Nat} {v : Value} {z : Int} (h : EV kd v z) (hk : kd = 4) : ∃ x : Int64, v = .long x ∧ x.toInt = z := by
  rcases h with ⟨-, q⟩ | ⟨q, -⟩
  · exact q
  · exact absurd hk q
theorem psum_mono (P : PT) {a b : Nat} (h : a ≤ b) : psum P a ≤ psum P b := by
  induction h with
  | refl => exact Nat.le_refl _
  | step _ ih => exact Nat.le_trans ih (Nat.le_add_right _ _)
set_option maxHeartbeats 4000000 in
theorem soundP {P : PT} {C : String} {fnm : FN} {fkd : FK} {nm : Nat → MethodName} {bys : Nat → ByteArray} {nA nf : Nat} {a0 : Array Value} {Z : State} (HT : TabP P C fnm fkd nm bys nA nf a0 Z) (l : Launch) : ∀ n, SoundAt P C fnm fkd bys nA Z l n
  | 0 => fun q pc L S t m r t' m' h => by cases h
  | n + 1 => by
    intro q pc L0 S t m r t' m' h ps ml rk fr lc hq p e R s mi args below meth c T locs cells slots A Ls St n0 X hx hZ hown hby hml hret hini hR hL0 hSt hsz hn0 hfr hlc hce hsl hroom
    have IH := soundP HT l n
    have HT' := HT
    obtain ⟨tcode, tfld, tfkd, -, -, tlay, tcst, tmth, tinf, tobi, ⟨tob1, tob2⟩, tins, tini, tpn, thn, tnm, tall⟩ := HT'
    replace h : stepP P (runP P n) q pc L0 S t m = some (r, t', m') := h
    unfold stepP at h
    cases hcd : pcode P q pc with
    | none => rw [hcd] at h; cases h
    | some il =>
      obtain ⟨i, len⟩ := il
      rw [hcd] at h
      replace h : stepI P (runP P n) q pc (mask (pliv P q pc) L0) S t m i len = some (r, t', m') := h
      have hL := hL0.mask (pliv P q pc)
      generalize mask (pliv P q pc) L0 = L at h hL
      obtain ⟨hdec, hchk⟩ := tcode q pc i len hcd
      have hd : decode c.code pc = .ok (i, len) := by rw [hby]; exact hdec
      have hcst : (∀ x z, pcst P x = some (.inl z) → ∃ v : Int32, (Jvm.Cond.constant C x v).before args s = true ∧ v.toInt = z) ∧ (∀ x z, pcst P x = some (.inr (.inl z)) → ∃ v : Int64, (Jvm.Cond.constantLong C x v).before args s = true ∧ v.toInt = z) :=
        ⟨fun x z hz => by obtain ⟨v, h1, h2⟩ := tcst.1 x z hz; exact ⟨v, mv hZ h1, h2⟩, fun x z hz => by obtain ⟨v, h1, h2⟩ := tcst.2 x z hz; exact ⟨v, mv hZ h1, h2⟩⟩
      -- going on from the same heap
      have go : ∀ {T1 : State} {pc' : Nat} {L' : OLs} {S' : List OV} {Ls' : Array Slot} {St' : List Value}, Stand p l e R s mi args below meth c T1 locs cells slots → T1.heap = T.heap → runP P n q pc' L' S' t m = some (r, t', m') → LR A ((t + 1) / 2) L' Ls' → SR A ((t + 1) / 2) S' St' → Ls'.size = ml →
          (∀ target, Steps p.tables e below (T1.setTop (mkF mi pc' Ls' St')) target → Steps p.tables e below (T.setTop (mkF mi pc Ls St)) target) →
          EndP P C fnm fkd Z nA p l e R s mi args below meth c n0 q T A t locs cells slots (mkF mi pc Ls St) r t' m' := fun X1 hh hrun hL1 hS1 hz1 st =>
        (IH q _ _ _ t m r t' m' hrun ps ml rk fr lc hq p e R s mi args below meth c _ locs cells slots A _ _ n0 X1 hx hZ hown hby hml hret hini (by rw [hh]; exact hR) hL1 hS1 hz1 (by rw [hh]; exact hn0) hfr hlc hce hsl hroom).still hh st
      -- going on from a heap in which the object's own cells were written
      have gw : ∀ {T1 : State} {t1 : Nat} {m1 : OMem} {pc' : Nat} {S' : List OV} {St' : List Value} {j sl : Nat} {v : Value}, Stand p l e R s mi args below meth c T1 (locs ++ [⟨A j, sl⟩]) cells slots → j ≤ (t + 1) / 2 → Wr T.heap T1.heap (A j) sl v → RepO P C fnm fkd Z T1.heap A n0 t1 m1 → t ≤ t1 → (t1 + 1) / 2 = (t + 1) / 2 → (q ≠ 0 → t1 = t) →
          runP P n q pc' L S' t1 m1 = some (r, t', m') → SR A ((t + 1) / 2) S' St' →
          (∀ target, Steps p.tables e below (T1.setTop (mkF mi pc' Ls St')) target → Steps p.tables e below (T.setTop (mkF mi pc Ls St)) target) →
          EndP P C fnm fkd Z nA p l e R s mi args below meth c n0 q T A t locs cells slots (mkF mi pc Ls St) r t' m' := fun {T1 t1 m1 pc' S' St' j sl v} X1 hj W hR1 ht1 et hqt hrun hS1 st => by
        refine EndP.trans (l1 := [⟨A j, sl⟩]) (IH q _ _ _ t1 m1 r t' m' hrun ps ml rk fr lc hq p e R s mi args below meth c T1 _ cells slots A Ls St' n0 X1 hx hZ hown hby hml hret hini hR1 (by rw [et]; exact hL) (by rw [et]; exact hS1) hsz (by rw [W.size]; exact hn0) hfr hlc hce hsl (fun q0 => by rw [et]; exact hroom q0)) (fun _ _ => rfl) ht1 (fun j h1 h2 => by omega) ?_ (by omega) (by rw [et]; exact Nat.le_refl _) (fun q0 => ⟨hqt q0, rfl, rfl⟩) (Sam.wr W hj) st
        intro y hy
        cases List.mem_singleton.mp hy
        by_cases e0 : j = 0
        · subst e0; exact hR.2.1
        · exact (hR.2.2.2.1 j (by omega) hj).1
      cases hsp : isSpec i with
      | false =>
        simp only [stepI, hsp, cond_false] at h
        obtain ⟨pc', L', S', Ls', St', h1, h2, h3, h4, h5⟩ := pstep_sound (cst := pcst P) (k := fun pc' L' S' => runP P n q pc' L' S' t m) X hx hown hcst hL hSt hd hchk h
        exact go X rfl h1 h2 h3 (h4.trans hsz) h5
      | true =>
      simp only [stepI, hsp, cond_true] at h
      clear hcd
      cases i
      case getfield x =>
        obtain rfl : len = 3 := by simpa [chk, ilen] using hchk
        obtain ⟨S', rfl, hgf⟩ := getfield_some h
        clear h
        obtain ⟨hb0, St', rfl, hS'⟩ := SR.r1 hSt
        rcases hgf with ⟨f, j, fin, hf, hj, h⟩ | ⟨f, kd, j, fin, hf, hkd, h⟩ | ⟨f, j, fin, hf, h⟩
        · obtain ⟨w, hk⟩ := tfld x _ _ _ _ hf
          obtain ⟨v, F, hv1, -⟩ := hR.2.2.1 f _ _ _ hk
          obtain ⟨T1, X1, e1, st⟩ := getF X hx hZ hown (host := "") (Or.inl w) Via.refl rfl F (g := mkF mi pc Ls (.ref (A 0) :: St')) rfl rfl hd
          obtain rfl := hv1 rfl hj
          exact go X1 e1 h hL (SR.cr (by omega) hS') hsz st
        · obtain ⟨w, hk⟩ := tfld x _ _ _ _ hf
          obtain ⟨v, F, -, hv⟩ := hR.2.2.1 f _ _ _ hk
          obtain ⟨T1, X1, e1, st⟩ := getF X hx hZ hown (host := "") (Or.inl w) Via.refl rfl F (g := mkF mi pc Ls (.ref (A 0) :: St')) rfl rfl hd
          obtain ⟨y, rfl, hy⟩ := (hv (by omega)).int (by omega)
          exact go X1 e1 h hL (SR.ci hy hS') hsz st
        · obtain ⟨w, hk⟩ := tfld x _ _ _ _ hf
          obtain ⟨v, F, -, hv⟩ := hR.2.2.1 f _ _ _ hk
          obtain ⟨T1, X1, e1, st⟩ := getF X hx hZ hown (host := "") (Or.inl w) Via.refl rfl F (g := mkF mi pc Ls (.ref (A 0) :: St')) rfl rfl hd
          obtain ⟨y, rfl, hy⟩ := (hv (by omega)).long rfl
          exact go X1 e1 h hL (SR.cj hy hS') hsz st
      case putfield x =>
        obtain rfl : len = 3 := by simpa [chk, ilen] using hchk
        have lays : ∀ {f : Int} {kd j : Nat} {fin : Bool}, fkd f = some (kd, j, fin) → (fin = false ∨ q = 0) → (Jvm.Cond.lays C C (fnm f).1 (fnm f).2).before a0 Z = true ∨ ((Jvm.Cond.laysFinal C C (fnm f).1 (fnm f).2).before a0 Z = true ∧ C = C ∧ meth.name = "<init>") := fun hk hfq => by
          rcases (tfkd _ _ _ _ hk).1 with ⟨-, q1⟩ | ⟨q0, q1⟩
          · exact Or.inl q1
          · rcases hfq with hfq | hfq
            · rw [hfq] at q0; cases q0
            · exact Or.inr ⟨q1, rfl, hini hfq⟩
        rcases putfield_some h with ⟨f, j, fin, S', hf, rfl, ht, hq0, h⟩ | ⟨f, kd, j, fin, z, S', hf, hkd, rfl, hfq, h⟩ | ⟨f, j, fin, z, S', hf, rfl, hfq, h⟩
        · obtain ⟨w, hk⟩ := tfld x _ _ _ _ hf
          obtain ⟨hbj, St1, rfl, hS1⟩ := SR.r1 hSt
          obtain ⟨hb0, St', rfl, hS'⟩ := SR.r1 hS1
          obtain ⟨v, F, -⟩ := hR.2.2.1 f _ _ _ hk
          obtain ⟨T1, h1, X1, e1, W, st⟩ := putFN X hx hZ hown w Via.refl rfl F hR.1 (lays hk (Or.inr hq0)) tins (tfkd _ _ _ _ hk).2.1 (v := .ref (A j)) (v' := .ref (A j)) rfl rfl (g := mkF mi pc Ls (.ref (A j) :: .ref (A 0) :: St')) rfl rfl hd
          subst e1
          exact gw X1 (by omega) W (hR.wrP HT hk ht W) (by omega) (by omega) (fun q0 => absurd hq0 q0) h hS' st
        · obtain ⟨w, hk⟩ := tfld x _ _ _ _ hf
          obtain ⟨y, St1, rfl, hy, hS1⟩ := SR.i1 hSt
          obtain ⟨hb0, St', rfl, hS'⟩ := SR.r1 hS1
          obtain ⟨v, F, -⟩ := hR.2.2.1 f _ _ _ hk
          rcases hkd with rfl | rfl
          · obtain ⟨T1, h1, X1, e1, W, st⟩ := putFN X hx hZ hown w Via.refl rfl F hR.1 (lays hk hfq) tins (tfkd _ _ _ _ hk).2.1 (v := .int y) (v' := .int y) rfl rfl (g := mkF mi pc Ls (.int y :: .ref (A 0) :: St')) rfl rfl hd
            subst e1
            exact gw X1 (by omega) W (hR.wrF HT hk (by omega) (Or.inr ⟨by omega, y, rfl, hy⟩) W) (Nat.le_refl _) rfl (fun _ => rfl) h hS' st
          · obtain ⟨T1, h1, X1, e1, W, st⟩ := putFN X hx hZ hown w Via.refl rfl F hR.1 (lays hk hfq) tins (tfkd _ _ _ _ hk).2.1 (v := .int y) (v' := .int (y &&& 1)) rfl (fits_nar_bool y) (g := mkF mi pc Ls (.int y :: .ref (A 0) :: St')) rfl rfl hd
            subst e1
            exact gw X1 (by omega) W (hR.wrF HT hk (by omega) (Or.inr ⟨by omega, y &&& 1, rfl, by rw [and1_eq, hy]; rfl⟩) W) (Nat.le_refl _) rfl (fun _ => rfl) h hS' st
        · obtain ⟨w, hk⟩ := tfld x _ _ _ _ hf
          obtain ⟨y, St1, rfl, hy, hS1⟩ := SR.l1 hSt
          obtain ⟨hb0, St', rfl, hS'⟩ := SR.r1 hS1
          obtain ⟨v, F, -⟩ := hR.2.2.1 f _ _ _ hk
          obtain ⟨T1, h1, X1, e1, W, st⟩ := putFN X hx hZ hown w Via.refl rfl F hR.1 (lays hk hfq) tins (tfkd _ _ _ _ hk).2.1 (v := .long y) (v' := .long y) rfl rfl (g := mkF mi pc Ls (.long y :: .ref (A 0) :: St')) rfl rfl hd
          subst e1
          exact gw X1 (by omega) W (hR.wrF HT hk (by omega) (Or.inl ⟨rfl, y, rfl, hy⟩) W) (Nat.le_refl _) rfl (fun _ => rfl) h hS' st
      case iaload =>
        obtain rfl : len = 1 := by simpa [chk, ilen] using hchk
        obtain ⟨i, j, S', kd, nn, rfl, hl, hkd, hj, hi0, hi1, h⟩ := ald_some h
        cases Nat.eq_of_beq_eq_true hkd
        obtain ⟨y, St1, rfl, rfl, hS1⟩ := SR.i1 hSt
        obtain ⟨hbj, St', rfl, hS'⟩ := SR.r1 hS1
        obtain ⟨-, kd', n', hl', cl, hA, hsz', hel⟩ := hR.2.2.2.1 j (tlay j _ _ hl).1 (by omega)
        cases hl.symm.trans hl'
        obtain ⟨v, hv, hev⟩ := hel y.toNatClampNeg (by have := clamp32 hi0; omega)
        obtain ⟨w, rfl, hw⟩ := hev.int (by omega)
        rw [clamp32 hi0] at hw
        exact go X rfl h hL (SR.ci hw hS') hsz (fun target hr => X.iaload hx hA.1 (State.isArrayOf_alike hZ.alike hA.2.1) hA.2.2 (idx32 hi0 (by omega)) hv (g := mkF mi pc Ls (.int y :: .ref (A j) :: St')) rfl rfl hd target hr)
      case laload =>
        obtain rfl : len = 1 := by simpa [chk, ilen] using hchk
        obtain ⟨i, j, S', kd, nn, rfl, hl, hkd, hj, hi0, hi1, h⟩ := ald_some h
        cases Nat.eq_of_beq_eq_true hkd
        obtain ⟨y, St1, rfl, rfl, hS1⟩ := SR.i1 hSt
        obtain ⟨hbj, St', rfl, hS'⟩ := SR.r1 hS1
        obtain ⟨-, kd', n', hl', cl, hA, hsz', hel⟩ := hR.2.2.2.1 j (tlay j _ _ hl).1 (by omega)
        cases hl.symm.trans hl'
        obtain ⟨v, hv, hev⟩ := hel y.toNatClampNeg (by have := clamp32 hi0; omega)
        obtain ⟨w, rfl, hw⟩ := hev.long rfl
        rw [clamp32 hi0] at hw
        exact go X rfl h hL (SR.cj hw hS') hsz (fun target hr => X.laload hx hA.1 (State.isArrayOf_alike hZ.alike hA.2.1) hA.2.2 (idx32 hi0 (by omega)) hv (g := mkF mi pc Ls (.int y :: .ref (A j) :: St')) rfl rfl hd target hr)
      case baload =>
        obtain rfl : len = 1 := by simpa [chk, ilen] using hchk
        obtain ⟨i, j, S', kd, nn, rfl, hl, hkd, hj, hi0, hi1, h⟩ := ald_some h
        obtain ⟨y, St1, rfl, rfl, hS1⟩ := SR.i1 hSt
        obtain ⟨hbj, St', rfl, hS'⟩ := SR.r1 hS1
        obtain ⟨-, kd', n', hl', cl, hA, hsz', hel⟩ := hR.2.2.2.1 j (tlay j _ _ hl).1 (by omega)
        cases hl.symm.trans hl'
        have hkd : kd = 2 ∨ kd = 3 := by
          rw [Bool.or_eq_true] at hkd
          exact hkd.imp Nat.eq_of_beq_eq_true Nat.eq_of_beq_eq_true
        obtain ⟨v, hv, hev⟩ := hel y.toNatClampNeg (by have := clamp32 hi0; omega)
        obtain ⟨w, rfl, hw⟩ := hev.int (by omega)
        rw [clamp32 hi0] at hw
        rcases hkd with rfl | rfl
        · exact go X rfl h hL (SR.ci hw hS') hsz (fun target hr => X.baloadBooleans hx hA.1 (State.isArrayOf_alike hZ.alike hA.2.1) hA.2.2 (idx32 hi0 (by omega)) hv (g := mkF mi pc Ls (.int y :: .ref (A j) :: St')) rfl rfl hd target hr)
        · exact go X rfl h hL (SR.ci hw hS') hsz (fun target hr => X.baloadBytes hx hA.1 (State.isArrayOf_alike hZ.alike hA.2.1) hA.2.2 (idx32 hi0 (by omega)) hv (g := mkF mi pc Ls (.int y :: .ref (A j) :: St')) rfl rfl hd target hr)
      case iastore =>
        obtain rfl : len = 1 := by simpa [chk, ilen] using hchk
        obtain ⟨z, i, j, S', kd, nn, rfl, hl, hkd, hj, hi0, hi1, h⟩ := asi_some h
        cases Nat.eq_of_beq_eq_true hkd
        obtain ⟨zz, y, St1, rfl, hzz, rfl, hS1⟩ := SR.i2 hSt
        obtain ⟨hbj, St', rfl, hS'⟩ := SR.r1 hS1
        have h1j := (tlay j _ _ hl).1
        obtain ⟨-, kd', n', hl', cl, hA, hsz', hel⟩ := hR.2.2.2.1 j h1j (by omega)
        cases hl.symm.trans hl'
        obtain ⟨T1, h1, X1, e1, W, st⟩ := stI X hx hZ rfl hA (idx32 hi0 (by omega)) (x := zz) (g := mkF mi pc Ls (.int zz :: .int y :: .ref (A j) :: St')) rfl rfl hd
        subst e1
        have hR1 := hR.wrA h1j (by omega) hl (Or.inr ⟨by omega, zz, rfl, hzz⟩) W
        rw [clamp32 hi0] at hR1
        exact gw X1 (by omega) W hR1 (Nat.le_refl _) rfl (fun _ => rfl) h hS' st
      case lastore =>
        obtain rfl : len = 1 := by simpa [chk, ilen] using hchk
        obtain ⟨z, i, j, S', kd, nn, rfl, hl, hkd, hj, hi0, hi1, h⟩ := asl_some h
        cases Nat.eq_of_beq_eq_true hkd
        obtain ⟨zz, St0, rfl, hzz, hS0⟩ := SR.l1 hSt
        obtain ⟨y, St1, rfl, rfl, hS1⟩ := SR.i1 hS0
        obtain ⟨hbj, St', rfl, hS'⟩ := SR.r1 hS1
        have h1j := (tlay j _ _ hl).1
        obtain ⟨-, kd', n', hl', cl, hA, hsz', hel⟩ := hR.2.2.2.1 j h1j (by omega)
        cases hl.symm.trans hl'
        obtain ⟨T1, h1, X1, e1, W, st⟩ := stJ X hx hZ rfl hA (idx32 hi0 (by omega)) (x := zz) (g := mkF mi pc Ls (.long zz :: .int y :: .ref (A j) :: St')) rfl rfl hd
        subst e1
        have hR1 := hR.wrA h1j (by omega) hl (Or.inl ⟨rfl, zz, rfl, hzz⟩) W
        rw [clamp32 hi0] at hR1
        exact gw X1 (by omega) W hR1 (Nat.le_refl _) rfl (fun _ => rfl) h hS' st
      case bastore =>
        obtain rfl : len = 1 := by simpa [chk, ilen] using hchk
        obtain ⟨z, i, j, S', kd, nn, rfl, hl, hkd, hj, hi0, hi1, h⟩ := asi_some h
        obtain ⟨zz, y, St1, rfl, hzz, rfl, hS1⟩ := SR.i2 hSt
        obtain ⟨hbj, St', rfl, hS'⟩ := SR.r1 hS1
        have h1j := (tlay j _ _ hl).1
        obtain ⟨-, kd', n', hl', cl, hA, hsz', hel⟩ := hR.2.2.2.1 j h1j (by omega)
        cases hl.symm.trans hl'
        have hkd : kd = 2 ∨ kd = 3 := by
          rw [Bool.or_eq_true] at hkd
          exact hkd.imp Nat.eq_of_beq_eq_true Nat.eq_of_beq_eq_true
        rcases hkd with rfl | rfl
        · obtain ⟨T1, h1, X1, e1, W, st⟩ := stZ X hx hZ rfl hA (idx32 hi0 (by omega)) (x := zz) (g := mkF mi pc Ls (.int zz :: .int y :: .ref (A j) :: St')) rfl rfl hd
          subst e1
          have hR1 := hR.wrA (z := z % 2) h1j (by omega) hl (Or.inr ⟨by omega, zz &&& 1, rfl, by rw [and1_eq, hzz]⟩) W
          rw [clamp32 hi0] at hR1
          exact gw X1 (by omega) W hR1 (Nat.le_refl _) rfl (fun _ => rfl) h hS' st
        · obtain ⟨T1, h1, X1, e1, W, st⟩ := stB X hx hZ rfl hA (idx32 hi0 (by omega)) (x := zz) (g := mkF mi pc Ls (.int zz :: .int y :: .ref (A j) :: St')) rfl rfl hd
          subst e1
          have hR1 := hR.wrA (z := b8 z) h1j (by omega) hl (Or.inr ⟨by omega, zz.toInt8.toInt32, rfl, by rw [b8_eq, hzz]⟩) W
          rw [clamp32 hi0] at hR1
          exact gw X1 (by omega) W hR1 (Nat.le_refl _) rfl (fun _ => rfl) h hS' st
      case arraylength =>
        obtain rfl : len = 1 := by simpa [chk, ilen] using hchk
        obtain ⟨j, S', kd, nn, rfl, hl, hj, h⟩ := arraylength_some h
        obtain ⟨hbj, St', rfl, hS'⟩ := SR.r1 hSt
        obtain ⟨t1, t2, t3, t4, -⟩ := tlay j _ _ hl
        obtain ⟨-, kd', n', hl', cl, hA, hsz', hel⟩ := hR.2.2.2.1 j t1 (by omega)
        cases hl.symm.trans hl'
        exact go X rfl h hL (SR.ci (by rw [len_toInt (by omega)]; exact hsz') hS') hsz (fun target hr => X.arraylength hx hA.1 (State.isArrayOf_alike hZ.alike hA.2.1) (g := mkF mi pc Ls (.ref (A j) :: St')) rfl rfl hd target hr)
      case newarray a =>
        obtain rfl : len = 2 := by simpa [chk, ilen] using hchk
        obtain ⟨S', kd, nn, rfl, hl, ht, hka, hq0, h⟩ := newarray_some h
        obtain ⟨y, St', rfl, hy, hS'⟩ := SR.i1 hSt
        obtain ⟨t1, t2, t3, t4, t5, t6⟩ := tlay _ _ _ hl
        obtain ⟨r1, r2⟩ := hroom hq0
        have hty := kty_akind hka t5
        have e1 : (t + 1) / 2 = t / 2 := by omega
        rw [e1] at r1 r2
        have e2 : (t + 1 + 1) / 2 = t / 2 + 1 := by omega
        have hcl : (y.toNatClampNeg : Int) = nn := by rw [clamp32 (by omega)]; exact hy
        have es : psum P (t / 2 + 1) = psum P (t / 2) + nn.toNat := by simp only [psum, hl]
        have em := psum_mono P t2
        obtain ⟨T1, h1, cA, X1, eh, E, hA, st⟩ := newP X hx hZ (aty := a) (by rw [hty]; exact t6) rfl (g := mkF mi pc Ls (.int y :: St')) rfl hd rfl (by rw [Int32.lt_iff_toInt_lt]; simp only [Int32.reduceToInt]; omega) (cap := y.toNatClampNeg) (Nat.le_refl _) (by omega) (by omega) (by omega)
        subst eh
        rw [hty] at hA
        have hR1 := hR.new ht hn0 hl t5 E hy t3 hA
        have hAg : ∀ j, j ≤ (t + 1) / 2 → updA A (t / 2 + 1) T.heap.size j = A j := fun j hj => updA_ne (by omega)
        refine EndP.trans (l1 := []) (IH q _ _ _ (t + 1) m r t' m' h ps ml rk fr lc hq p e R s mi args below meth c T1 _ (cells + 1) (slots + y.toNatClampNeg) (updA A (t / 2 + 1) T.heap.size) Ls (.ref T.heap.size :: St') n0 (by rw [List.append_nil]; exact X1) hx hZ hown hby hml hret hini hR1 (hL.mono hAg (by omega)) ⟨⟨by omega, by rw [updA_eq]⟩, hS'.mono hAg (by omega)⟩ hsz (Nat.le_trans hn0 E.1) hfr hlc (by omega) (by omega) (fun _ => ⟨by rw [e2]; omega, by rw [e2, es]; omega⟩)) hAg (by omega) (fun j h1 h2 => ?_) (Fr.nil _) (by omega) (by rw [e2, es, e1]; omega) (fun q0 => absurd hq0 q0) (Sam.ext E _) st
        have : j = t / 2 + 1 := by omega
        subst this
        rw [updA_eq]; exact Nat.le_refl _
      case invokespecial x =>
        obtain rfl : len = 3 := by simpa [chk, ilen] using hchk
        obtain ⟨S', ps', ml', rk', fr', lc', rfl, hq', hob, h1, h2, h⟩ := invokespecial_some h
        cases hq.symm.trans hq'
        obtain ⟨hb0, St', rfl, hS'⟩ := SR.r1 hSt
        obtain ⟨T1, X1, e1, st⟩ := initO X hx hZ hown (tobi x hob) tob1 tob2 rfl (g := mkF mi pc Ls (.ref (A 0) :: St')) rfl (by rw [hml]; exact hsz) rfl hd (by omega) (W := cats S') (by show 2 * 0 + _ ≤ _; rw [hS'.catsum]; omega) (by omega)
        exact go X1 e1 h hL hS' hsz st
      case invokevirtual x =>
        obtain rfl : len = 3 := by simpa [chk, ilen] using hchk
        obtain ⟨q', ps', ml', rk', fr', lc', ps0, ml0, rk0, fr0, lc0, as, S', y, hm', hi', hq0, hpop, hf1, hl1, hq'0, hlen, hcall, hcont⟩ := invokevirtual_some h
        clear h
        cases hq.symm.trans hq0
        obtain ⟨y1, t1, m1⟩ := y
        obtain ⟨B, St1, hB, hS1, rfl, hBl⟩ := popA_rel hpop hSt
        obtain ⟨hb0, St', rfl, hS'⟩ := SR.r1 hS1
        have hargs : SR A ((t + 1) / 2) (vr 0 :: as) (.ref (A 0) :: B) := ⟨⟨by omega, rfl⟩, by simpa using hB A ((t + 1) / 2) [] trivial⟩
        obtain ⟨icls, iinst, icode, ipv, params, ipd, ipl⟩ := tinf q' _ _ _ _ _ hi'
        have hM := metP (l := l) (cl := 0) (sl := 0) HT IH hi' hcall hlen hn0 hR hargs (fun q0 => absurd q0 hq'0)
        have hBk := backOf (R := R) (p := p) (e := e) (below := below) (s := s) (args := args) (len := 3) (W := cats S') (rm := { frames := fr', cells := 0, slots := 0, locals := lc' }) (Q := QP P C fnm fkd Z n0 q' t A T.heap y1 t1 m1) hM hZ icode (by rw [icls]; exact tini) (by show fr' + 1 ≤ R.frames; omega) (by show cats S' + (ml' + 11) + lc' ≤ R.locals; omega)
        have hyn : (nm q').cls ≠ "java/lang/invoke/MethodHandle" ∧ (nm q').cls ≠ "java/lang/invoke/VarHandle" := by rw [icls]; exact thn
        have fin : ∀ {T1 : State} {L1 : List Loc} {v : Option Value}, Stand p l e R s mi args below meth c T1 (locs ++ L1) cells slots → QP P C fnm fkd Z n0 q' t A T.heap y1 t1 m1 v T1.heap L1 →
            (∀ target, Steps p.tables e below (T1.setTop (mkF mi (pc + 3) Ls (v.toList ++ St'))) target → Steps p.tables e below (T.setTop (mkF mi pc Ls (B.reverse ++ .ref (A 0) :: St'))) target) →
            EndP P C fnm fkd Z nA p l e R s mi args below meth c n0 q T A t locs cells slots (mkF mi pc Ls (B.reverse ++ .ref (A 0) :: St')) r t' m' := fun {T1 L1 v} X1 hQ st => by
          obtain ⟨A', g1, g2, g3, g4, g5, g6, g7, g8⟩ := hQ
          obtain rfl := g8 hq'0
          exact EndP.trans (IH q _ _ _ t1 m1 r t' m' hcont ps ml rk fr lc hq p e R s mi args below meth c T1 _ cells slots A' Ls _ n0 X1 hx hZ hown hby hml hret hini g1 (hL.mono g2 (Nat.le_refl _)) (g7.push (hS'.mono g2 (Nat.le_refl _))) hsz (Nat.le_trans hn0 g6.1) hfr hlc hce hsl hroom) g2 (Nat.le_refl _) g4 g5 (Nat.le_refl _) (Nat.le_refl _) (fun _ => ⟨rfl, rfl, rfl⟩) g6 st
        obtain ⟨cB, kB, i1, i2, i3⟩ := isOf hZ rfl hR.1
        have hlenA : ∀ sig, parseMethodDescriptor (nm q').desc = some sig → B.length = sig.parameters.length := lenOf ipd (by rw [hBl, ipl])
        rcases ipv hq'0 with hpv | ⟨hdc, hsel⟩
        · obtain ⟨cc, hcc, hcv⟩ := hR.1.cell
          have hPr : s.PrivateAt (nm q') := Jvm.Cond.privateMethod_at (mvP (args := args) hZ hpv)
          obtain ⟨c2, k2, j1, j2, j3, j4, -⟩ := Jvm.Cond.instantiable_spec (mv (args := args) hZ tins)
          have hsel : (Jvm.Cond.selects (nm q').cls (nm q') (nm q')).before args s = true := Jvm.Stand.selects_self_of_private (by rw [icls]; exact j1) j2 (by simp only [Bool.or_eq_false_iff] at j4; exact j4.1) hPr (mv hZ iinst) hyn
          obtain ⟨v, vm1, ⟨T1, L1, k1, n1⟩, -, X1, ⟨Lc, hQ, l1, c1, s1⟩, st⟩ := X.privateBack hx hown (mv hZ (tmth x _ hm')) (mv hZ iinst) hsel hPr (mv hZ icode) hyn hBk (g := mkF mi pc Ls (B.reverse ++ .ref (A 0) :: St')) rfl (by rw [hml]; exact hsz) (Steps.refl _) (a := A 0) hcc hcv (argsL := B) (rest := St') hlenA rfl (by show 2 * 0 + _ ≤ _; rw [hS'.catsum]; omega) hd (fun _ _ => ⟨rfl, rfl, hce, hsl⟩)
          dsimp only [Pt.U, Pt.locs, Pt.cells, Pt.slots] at X1 l1 c1 s1 st hQ
          subst l1 c1 s1
          exact fin X1 hQ (fun target hr => st.trans hr)
        · obtain ⟨v, vm1, ⟨T1, L1, k1, n1⟩, -, X1, ⟨Lc, hQ, l1, c1, s1⟩, st⟩ := X.virtualBack hx (C := C) (y := nm q') (z := nm q') hown (mv hZ (tmth x _ hm')) (mv hZ hdc) (notFace_of_selects (args := args) (mv hZ hsel)) (mv hZ hsel) (mv hZ iinst) hyn hBk i1 i3 (g := mkF mi pc Ls (B.reverse ++ .ref (A 0) :: St')) rfl (by rw [hml]; exact hsz) (Steps.refl _) (argsL := B) (rest := St') hlenA rfl (by show 2 * 0 + _ ≤ _; rw [hS'.catsum]; omega) hd (fun _ _ => ⟨rfl, rfl, hce, hsl⟩)
          dsimp only [Pt.U, Pt.locs, Pt.cells, Pt.slots] at X1 l1 c1 s1 st hQ
          subst l1 c1 s1
          exact fin X1 hQ (fun target hr => st.trans hr)
      case ireturn =>
        obtain rfl : len = 1 := by simpa [chk, ilen] using hchk
        obtain ⟨z, S', ps', ml', rk', fr', lc', rfl, hq', hcase⟩ := ireturn_some h
        cases hq.symm.trans hq'
        obtain ⟨y, St', rfl, hy, hS'⟩ := SR.i1 hSt
        rcases hcase with ⟨rfl, hr⟩ | ⟨rfl, hr⟩
        · cases hr
          exact ⟨some (.int y), T, A, [], cells, slots, by rw [List.append_nil]; exact X, hR, fun _ _ => rfl, Nat.le_refl _, fun j h1 h2 => by omega, Fr.nil _, Nat.le_refl _, Nat.le_refl _, fun _ => ⟨rfl, rfl, rfl⟩, Sam.refl _ _ _, ⟨y, rfl, hy⟩, (fun q => by rw [hret] at q; cases q), fun fs hfs => retI' X hx hret hd hfs⟩
        · cases hr
          exact ⟨some (.int (y &&& 1)), T, A, [], cells, slots, by rw [List.append_nil]; exact X, hR, fun _ _ => rfl, Nat.le_refl _, fun j h1 h2 => by omega, Fr.nil _, Nat.le_refl _, Nat.le_refl _, fun _ => ⟨rfl, rfl, rfl⟩, Sam.refl _ _ _, ⟨_, rfl, by rw [and1_eq, hy]⟩, (fun q => by rw [hret] at q; cases q), fun fs hfs => retN X hx (t := .boolean) hret (by simp) hd hfs⟩
      case lreturn =>
        obtain rfl : len = 1 := by simpa [chk, ilen] using hchk
        obtain ⟨z, S', ps', ml', fr', lc', rfl, hq', hr⟩ := lreturn_some h
        cases hq.symm.trans hq'
        cases hr
        obtain ⟨y, St', rfl, hy, hS'⟩ := SR.l1 hSt
        exact ⟨some (.long y), T, A, [], cells, slots, by rw [List.append_nil]; exact X, hR, fun _ _ => rfl, Nat.le_refl _, fun j h1 h2 => by omega, Fr.nil _, Nat.le_refl _, Nat.le_refl _, fun _ => ⟨rfl, rfl, rfl⟩, Sam.refl _ _ _, ⟨y, rfl, hy⟩, (fun q => by rw [hret] at q; cases q), fun fs hfs => retOut X hx hret rfl (Or.inr (Or.inl ⟨rfl, rfl, y, rfl⟩)) hd hfs⟩
      case return_ =>
        obtain rfl : len = 1 := by simpa [chk, ilen] using hchk
        obtain ⟨ps', ml', fr', lc', rfl, hq', hr⟩ := return_some h
        cases hq.symm.trans hq'
        cases hr
        cases St with
        | cons _ _ => exact hSt.elim
        | nil => exact ⟨none, T, A, [], cells, slots, by rw [List.append_nil]; exact X, hR, fun _ _ => rfl, Nat.le_refl _, fun j h1 h2 => by omega, Fr.nil _, Nat.le_refl _, Nat.le_refl _, fun _ => ⟨rfl, rfl, rfl⟩, Sam.refl _ _ _, rfl, fun _ => rfl, fun fs hfs => X.returnOut hx hret hd hfs⟩
      all_goals cases hsp
end Jvm.OwnMini
namespace Jvm.OwnMini
open Jvm Jvm.ClassFile Sem Op Lib Jvm.Free Jvm.Stand Jvm.LawKit Jvm.RoadKit
/-! The law's own methods: the objects that it has made (reference k + 1: the k-th), the script (reference 0). -/
abbrev OWd := List (Nat × OMem)
abbrev RTL := Option (Option OV × OWd)
/-- code; constants; by the pool's index: the project's method, is it the maker, the law's own static method, is it the project's class; by the law's method: parameters from the last (0 int, 1 long, 2 reference), locals, kind of the result, frames, words; live variables -/
abbrev LT := CodeT × (Nat → Option OV) × (Nat → Option Nat) × (Nat → Bool) × (Nat → Option Nat) × (Nat → Bool) × (Nat → Option (List Nat × Nat × Nat × Nat × Nat)) × LivT
abbrev lcode (Q : LT) : CodeT := Q.1
abbrev lcst (Q : LT) : Nat → Option OV := Q.2.1
abbrev lvm (Q : LT) : Nat → Option Nat := Q.2.2.1
abbrev lmk (Q : LT) : Nat → Bool := Q.2.2.2.1
abbrev lsm (Q : LT) : Nat → Option Nat := Q.2.2.2.2.1
abbrev lcl (Q : LT) : Nat → Bool := Q.2.2.2.2.2.1
abbrev linf (Q : LT) : Nat → Option (List Nat × Nat × Nat × Nat × Nat) := Q.2.2.2.2.2.2.1
abbrev lliv (Q : LT) : LivT := Q.2.2.2.2.2.2.2
/-- the script: is there one, its length, its cells -/
abbrev ScT := Bool × Int × (Int → Int)
def wget : OWd → Nat → Option (Nat × OMem)
  | [], _ => none
  | o :: _, 0 => some o
  | _ :: W, n + 1 => wget W n
def wput : OWd → Nat → Nat × OMem → OWd
  | [], _, _ => []
  | _ :: W, 0, x => x :: W
  | o :: W, n + 1, x => o :: wput W n x
def z0 : OMem := fun _ _ => 0
def popB : List Nat → List OV → List OV → Option (List OV × List OV)
  | [], S, acc => some (acc, S)
  | 0 :: ts, .inl z :: S, acc => popB ts S (vi z :: acc)
  | 1 :: ts, .inr (.inl z) :: S, acc => popB ts S (vl z :: acc)
  | 2 :: ts, .inr (.inr z) :: S, acc => popB ts S (vr z :: acc)
  | _, _, _ => none
def isSpecL : Instr → Bool
  | .new _ | .arraylength | .iaload | .invokespecial _ | .invokevirtual _ | .invokestatic _ | .ireturn | .lreturn | .return_ => true
  | _ => false
def stepLS (P : PT) (Q : LT) (T mo : Nat) (sc : ScT) (kP : Nat → Nat → OLs → List OV → Nat → OMem → RT) (k : Nat → Nat → OLs → List OV → OWd → RTL) (q pc : Nat) (L : OLs) (S : List OV) (W : OWd) (i : Instr) (len : Nat) : RTL :=
  match i with
  | .new x => cond (lcl Q x && Nat.beq q 0 && Nat.blt W.length mo) (k q (pc + len) L (vr (W.length + 1) :: S) (W ++ [(0, z0)])) none
  | .arraylength =>
    match S with
    | .inr (.inr 0) :: S' => cond sc.1 (k q (pc + len) L (vi sc.2.1 :: S') W) none
    | _ => none
  | .iaload =>
    match S with
    | .inl i :: .inr (.inr 0) :: S' => cond sc.1 (if 0 ≤ i ∧ i < sc.2.1 then k q (pc + len) L (vi (sc.2.2 i) :: S') W else none) none
    | _ => none
  | .invokespecial x =>
    match pinf P 0, linf Q q with
    | some (ps, ml, _, fr', lc'), some (_, _, _, fr, lc) =>
      match popA ps S [] with
      | some (as, .inr (.inr (o + 1)) :: S') =>
        match wget W o with
        | some (0, m) =>
          cond (lmk Q x && Nat.beq q 0 && Nat.ble (fr' + 1) fr && Nat.ble (cats S' + (ml + 11) + lc') lc && Nat.ble (initL (vr 0 :: as) ml).length ml)
            ((kP 0 0 (initL (vr 0 :: as) ml) [] 0 m).bind fun y => cond (Nat.beq y.2.1 T) (k q (pc + len) L (pushR y.1 S') (wput W o y.2)) none) none
        | _ => none
      | _ => none
    | _, _ => none
  | .invokevirtual x =>
    match lvm Q x with
    | some q' =>
      match pinf P q', linf Q q with
      | some (ps, ml, _, fr', lc'), some (_, _, _, fr, lc) =>
        match popA ps S [] with
        | some (as, .inr (.inr (o + 1)) :: S') =>
          match wget W o with
          | some (t, m) =>
            cond (Nat.ble (fr' + 1) fr && Nat.ble (cats S' + (ml + 11) + lc') lc && !(Nat.beq q' 0) && Nat.ble (initL (vr 0 :: as) ml).length ml)
              ((kP q' 0 (initL (vr 0 :: as) ml) [] t m).bind fun y => k q (pc + len) L (pushR y.1 S') (wput W o y.2)) none
          | none => none
        | _ => none
      | _, _ => none
    | none => none
  | .invokestatic x =>
    match lsm Q x with
    | some q' =>
      match linf Q q', linf Q q with
      | some (ps, ml, _, fr', lc'), some (_, _, _, fr, lc) =>
        match popB ps S [] with
        | some (as, S') =>
          cond (Nat.ble (fr' + 1) fr && Nat.ble (cats S' + (ml + 11) + lc') lc && !(Nat.beq q' 0) && Nat.ble (initL as ml).length ml)
            ((k q' 0 (initL as ml) [] W).bind fun y => k q (pc + len) L (pushR y.1 S') y.2) none
        | none => none
      | _, _ => none
    | none => none
  | .ireturn =>
    match S with
    | .inl z :: _ =>
      match linf Q q with
      | some (_, _, 1, _) => some (some (vi z), W)
      | some (_, _, 2, _) => some (some (vi (z % 2)), W)
      | _ => none
    | _ => none
  | .lreturn =>
    match S with
    | .inr (.inl z) :: _ =>
      match linf Q q with
      | some (_, _, 4, _) => some (some (vl z), W)
      | _ => none
    | _ => none
  | .return_ =>
    match S with
    | [] =>
      match linf Q q with
      | some (_, _, 0, _) => some (none, W)
      | _ => none
    | _ => none
  | _ => none
def stepLI (P : PT) (Q : LT) (T mo : Nat) (sc : ScT) (kP : Nat → Nat → OLs → List OV → Nat → OMem → RT) (k : Nat → Nat → OLs → List OV → OWd → RTL) (q pc : Nat) (L : OLs) (S : List OV) (W : OWd) (i : Instr) (len : Nat) : RTL :=
  cond (isSpecL i) (stepLS P Q T mo sc kP k q pc L S W i len) (pstep (lcst Q) i pc len L S fun pc' L' S' => k q pc' L' S' W)
def stepL (P : PT) (Q : LT) (T mo : Nat) (sc : ScT) (kP : Nat → Nat → OLs → List OV → Nat → OMem → RT) (k : Nat → Nat → OLs → List OV → OWd → RTL) (q pc : Nat) (L : OLs) (S : List OV) (W : OWd) : RTL :=
  match lcode Q q pc with
  | some (i, len) => stepLI P Q T mo sc kP k q pc (mask (lliv Q q pc) L) S W i len
  | none => none
def runL (P : PT) (Q : LT) (T mo : Nat) (sc : ScT) : Nat → Nat → Nat → OLs → List OV → OWd → RTL
  | 0 => fun _ _ _ _ _ => none
  | n + 1 => stepL P Q T mo sc (runP P n) (runL P Q T mo sc n)
end Jvm.OwnMini
namespace Jvm.OwnMini
open Jvm Jvm.ClassFile Sem Op Lib Jvm.Free Jvm.Stand Jvm.LawKit Jvm.RoadKit
/-! The law's objects and script in the JVM's heap. -/
def ScR (Z : State) (h : Heap) (n0 : Nat) (a : Addr) (sc : ScT) : Prop := sc.1 = true → a < n0 ∧ ∃ c : Cell, Arr Z h a c .int ∧ (c.slots.size : Int) = sc.2.1 ∧ sc.2.1 < 2147483648 ∧ ∀ i : Nat, i < c.slots.size → ∃ x : Int32, c.slots[i]? = some (.int x) ∧ x.toInt = sc.2.2 i
def RepW (P : PT) (C : String) (fnm : FN) (fkd : FK) (Z : State) (sc : ScT) (h : Heap) (A : Nat → Addr) (AO : Nat → Nat → Addr) (n0 : Nat) (W : OWd) : Prop :=
  (∀ k t m, wget W k = some (t, m) → RepO P C fnm fkd Z h (AO k) n0 t m ∧ AO k 0 = A (k + 1)) ∧
  (∀ k k' t m t' m' j j', wget W k = some (t, m) → wget W k' = some (t', m') → k ≠ k' → j ≤ (t + 1) / 2 → j' ≤ (t' + 1) / 2 → AO k j ≠ AO k' j') ∧ ScR Z h n0 (A 0) sc
def cW (a b : Nat) : OWd → Nat
  | [] => 0
  | (0, _) :: W => a + cW a b W
  | (_ + 1, _) :: W => (a + b) + cW a b W
def ts (W : OWd) : List Nat := W.map fun o => o.1
theorem cW_ts {a b : Nat} : ∀ {W W' : OWd}, ts W = ts W' → cW a b W = cW a b W'
  | [], [], _ => rfl
  | [], _ :: _, h => by simp [ts] at h
  | _ :: _, [], h => by simp [ts] at h
  | (t, m) :: W, (t', m') :: W', h => by
    simp only [ts, List.map_cons, List.cons.injEq] at h
    obtain ⟨rfl, h⟩ := h
    have := cW_ts (a := a) (b := b) (W := W) (W' := W') h
    cases t <;> simp only [cW, this]
theorem ts_len {W W' : OWd} (h : ts W = ts W') : W.length = W'.length := by
  have := congrArg List.length h
  simpa [ts] using this
theorem cW_le (a b : Nat) : ∀ W : OWd, cW a b W ≤ W.length * (a + b)
  | [] => by simp [cW]
  | (0, _) :: W => by
    have := cW_le a b W
    simp only [cW, List.length_cons, Nat.add_mul]; omega
  | (_ + 1, _) :: W => by
    have := cW_le a b W
    simp only [cW, List.length_cons, Nat.add_mul]; omega
theorem cW_append (a b : Nat) (m : OMem) : ∀ W : OWd, cW a b (W ++ [(0, m)]) = cW a b W + a
  | [] => by simp [cW]
  | (0, _) :: W => by simp only [List.cons_append, cW, cW_append a b m W]; omega
  | (_ + 1, _) :: W => by simp only [List.cons_append, cW, cW_append a b m W]; omega
theorem wget_lt : ∀ {W : OWd} {k : Nat} {o : Nat × OMem}, wget W k = some o → k < W.length
  | [], _, _, h => by cases h
  | _ :: _, 0, _, _ => by simp
  | _ :: W, k + 1, _, h => by
    have := wget_lt (W := W) (k := k) h
    simp only [List.length_cons]; omega
theorem wput_len : ∀ (W : OWd) (k : Nat) (x : Nat × OMem), (wput W k x).length = W.length
  | [], _, _ => rfl
  | _ :: _, 0, _ => rfl
  | _ :: W, k + 1, x => by simp [wput, wput_len W k x]
theorem wget_wput : ∀ {W : OWd} {k j : Nat} {x : Nat × OMem}, k < W.length → wget (wput W k x) j = if j = k then some x else wget W j
  | [], k, j, x, h => by simp at h
  | o :: W, 0, 0, x, h => by simp [wput, wget]
  | o :: W, 0, j + 1, x, h => by simp [wput, wget]
  | o :: W, k + 1, 0, x, h => by simp [wput, wget]
  | o :: W, k + 1, j + 1, x, h => by
    have := wget_wput (W := W) (k := k) (j := j) (x := x) (by simpa using h)
    simp only [wput, wget, this, Nat.add_right_cancel_iff]
theorem ts_wput : ∀ {W : OWd} {k t : Nat} {m m' : OMem}, wget W k = some (t, m) → ts (wput W k (t, m')) = ts W
  | [], _, _, _, _, h => by cases h
  | (t, m) :: W, 0, _, _, _, h => by cases h; rfl
  | o :: W, k + 1, t, m, m', h => by
    have := ts_wput (W := W) (k := k) (t := t) (m := m) (m' := m') h
    simp only [ts, wput, List.map_cons, List.cons.injEq, true_and]
    exact this
theorem cW_made {a b : Nat} : ∀ {W : OWd} {k t : Nat} {m m' : OMem}, wget W k = some (0, m) → cW a b (wput W k (t + 1, m')) = cW a b W + b
  | [], _, _, _, _, h => by cases h
  | (t0, m) :: W, 0, _, _, _, h => by cases h; simp only [wput, cW]; omega
  | (0, m0) :: W, k + 1, t, m, m', h => by
    have := cW_made (a := a) (b := b) (W := W) (k := k) (t := t) (m := m) (m' := m') h
    simp only [wput, cW, this]; omega
  | (_ + 1, m0) :: W, k + 1, t, m, m', h => by
    have := cW_made (a := a) (b := b) (W := W) (k := k) (t := t) (m := m) (m' := m') h
    simp only [wput, cW, this]; omega
theorem cW_raw {a b : Nat} : ∀ {W : OWd} {k : Nat} {m : OMem}, wget W k = some (0, m) → cW a b W + b ≤ W.length * (a + b)
  | [], _, _, h => by cases h
  | (t0, m) :: W, 0, _, h => by
    cases h
    have := cW_le a b W
    simp only [cW, List.length_cons, Nat.add_mul]; omega
  | (0, m0) :: W, k + 1, m, h => by
    have := cW_raw (a := a) (b := b) (W := W) (k := k) (m := m) h
    simp only [cW, List.length_cons, Nat.add_mul] at *; omega
  | (_ + 1, m0) :: W, k + 1, m, h => by
    have := cW_raw (a := a) (b := b) (W := W) (k := k) (m := m) h
    simp only [cW, List.length_cons, Nat.add_mul] at *; omega
theorem wget_append : ∀ {W : OWd} {k : Nat} {x o : Nat × OMem}, wget (W ++ [x]) k = some o → (wget W k = some o ∧ k < W.length) ∨ (k = W.length ∧ o = x)
  | [], 0, x, o, h => by cases h; exact Or.inr ⟨rfl, rfl⟩
  | [], k + 1, x, o, h => by cases h
  | w :: W, 0, x, o, h => Or.inl ⟨h, by simp⟩
  | w :: W, k + 1, x, o, h => by
    rcases wget_append (W := W) (k := k) h with ⟨h1, h2⟩ | ⟨h1, h2⟩
    · exact Or.inl ⟨h1, by simpa using h2⟩
    · exact Or.inr ⟨by simpa using h1, h2⟩
section W
variable {P : PT} {C : String} {fnm : FN} {fkd : FK} {Z : State} {sc : ScT} {h h' : Heap} {A : Nat → Addr} {AO : Nat → Nat → Addr} {n0 : Nat} {W : OWd}
theorem RepW.same (hR : RepW P C fnm fkd Z sc h A AO n0 W) (e : h' = h) : RepW P C fnm fkd Z sc h' A AO n0 W := by rw [e]; exact hR
/-- an object's method has run -/
theorem RepW.ran (hR : RepW P C fnm fkd Z sc h A AO n0 W) {o t t' : Nat} {m m' : OMem} (ho : wget W o = some (t, m)) {A' : Nat → Addr} (hR' : RepO P C fnm fkd Z h' A' n0 t' m') (hA : ∀ j, j ≤ (t + 1) / 2 → A' j = AO o j) (hn : ∀ j, (t + 1) / 2 < j → j ≤ (t' + 1) / 2 → h.size ≤ A' j)
    (hS : Sam h h' (AO o) ((t + 1) / 2)) : RepW P C fnm fkd Z sc h' A (fun k => if k = o then A' else AO k) n0 (wput W o (t', m')) := by
  have hlt := wget_lt ho
  obtain ⟨r1, r2, r3⟩ := hR
  have other : ∀ {k tk mk}, wget W k = some (tk, mk) → k ≠ o → ∀ j j', j ≤ (tk + 1) / 2 → j' ≤ (t' + 1) / 2 → AO k j ≠ A' j' := fun {k tk mk} hk hne j j' hj hj' => by
    by_cases hb : j' ≤ (t + 1) / 2
    · rw [hA j' hb]; exact r2 k o _ _ _ _ j j' hk ho hne hj hb
    · have h1 := hn j' (by omega) hj'
      have h2 := (r1 k _ _ hk).1.lt hj
      exact Nat.ne_of_lt (Nat.lt_of_lt_of_le h2 h1)
  refine ⟨fun k tk mk hk => ?_, fun k k' tk mk tk' mk' j j' hk hk' hne hj hj' => ?_, fun hs => ?_⟩
  · rw [wget_wput hlt] at hk
    by_cases e : k = o
    · subst e
      rw [if_pos rfl] at hk
      cases hk
      simp only [if_true]
      exact ⟨hR', by rw [hA 0 (by omega)]; exact (r1 _ _ _ ho).2⟩
    · rw [if_neg e] at hk
      simp only [if_neg e]
      obtain ⟨q1, q2⟩ := r1 k _ _ hk
      refine ⟨q1.keep fun a c hc ⟨j, hj, ea⟩ => hS.2 a c hc fun j' hj' => ?_, q2⟩
      rw [ea]
      exact r2 k o _ _ _ _ j j' hk ho e hj hj'
  · rw [wget_wput hlt] at hk hk'
    by_cases e : k = o
    · by_cases e' : k' = o
      · exact absurd (e.trans e'.symm) hne
      · subst e
        rw [if_pos rfl] at hk
        cases hk
        rw [if_neg e'] at hk'
        simp only [if_true, if_neg e']
        exact Ne.symm (other hk' e' j' j hj' hj)
    · rw [if_neg e] at hk
      by_cases e' : k' = o
      · subst e'
        rw [if_pos rfl] at hk'
        cases hk'
        simp only [if_true, if_neg e]
        exact other hk e j j' hj hj'
      · rw [if_neg e'] at hk'
        simp only [if_neg e, if_neg e']
        exact r2 k k' _ _ _ _ j j' hk hk' hne hj hj'
  · obtain ⟨g1, c, g2, g3⟩ := r3 hs
    refine ⟨g1, c, ⟨hS.2 _ _ g2.1 fun j hj ea => ?_, g2.2⟩, g3⟩
    have : n0 ≤ AO o j := by
      by_cases e0 : j = 0
      · subst e0; exact (r1 _ _ _ ho).1.2.1
      · exact ((r1 _ _ _ ho).1.2.2.2.1 j (by omega) hj).1
    exact absurd (ea ▸ g1) (Nat.not_lt.mpr this)
theorem RepW.lt (hR : RepW P C fnm fkd Z sc h A AO n0 W) {k : Nat} (hk : 1 ≤ k) (hk' : k ≤ W.length) : ∃ t m, wget W (k - 1) = some (t, m) := by
  clear hR
  induction W generalizing k with
  | nil => simp at hk'; omega
  | cons o W ih =>
    obtain ⟨t, m⟩ := o
    by_cases e : k = 1
    · subst e; exact ⟨t, m, rfl⟩
    · obtain ⟨t', m', q⟩ := ih (k := k - 1) (by omega) (by simp at hk'; omega)
      refine ⟨t', m', ?_⟩
      have : k - 1 = (k - 1 - 1) + 1 := by omega
      rw [this]; exact q
/-- an object has been made -/
theorem RepW.made {nm : Nat → MethodName} {bys : Nat → ByteArray} {nA nf : Nat} {a0 : Array Value} (HT : TabP P C fnm fkd nm bys nA nf a0 Z) (hR : RepW P C fnm fkd Z sc h A AO n0 W) (hn0 : n0 ≤ h.size) (E : Ext h h') (X : Exa Z h' h.size C)
    (D : ∀ {O nm d : String} {ty : FieldType}, Laid Z a0 C O nm d → parseFieldDescriptor d = some ty → Fld Z h' h.size O nm d (defaultValue ty)) :
    RepW P C fnm fkd Z sc h' (updA A (W.length + 1) h.size) (fun k => if k = W.length then (fun _ => h.size) else AO k) n0 (W ++ [(0, z0)]) := by
  have old : ∀ {k t m}, wget W k = some (t, m) → ∀ j, j ≤ (t + 1) / 2 → AO k j < h.size := fun {k t m} hk j hj => (hR.1 k _ _ hk).1.lt hj
  obtain ⟨r1, r2, r3⟩ := hR
  have HT' := HT
  obtain ⟨-, -, tfkd, -⟩ := HT'
  refine ⟨fun k t m hk => ?_, fun k k' t m t' m' j j' hk hk' hne hj hj' => ?_, fun hs => ?_⟩
  · rcases wget_append hk with ⟨h1, h2⟩ | ⟨h1, h2⟩
    · have e : k ≠ W.length := by omega
      simp only [if_neg e]
      rw [updA_ne (by omega)]
      exact ⟨(r1 k _ _ h1).1.ext E, (r1 k _ _ h1).2⟩
    · subst h1
      cases h2
      simp only [if_true]
      refine ⟨⟨X, hn0, fun f kd j fin hf => ?_, fun j h1 h2 => by omega, fun j j' h1 h2 _ => by omega, fun j _ i => rfl⟩, by rw [updA_eq]⟩
      obtain ⟨t1, t2, t3, t4⟩ := tfkd f _ _ _ hf
      have F := D (HT.laid hf) t2
      refine ⟨_, F, fun e1 e2 => ?_, fun e1 => ?_⟩
      · have := t3 e1; omega
      · have : kd = 1 ∨ kd = 2 ∨ kd = 3 ∨ kd = 4 := by omega
        rcases this with rfl | rfl | rfl | rfl
        · exact Or.inr ⟨by decide, 0, rfl, rfl⟩
        · exact Or.inr ⟨by decide, 0, rfl, rfl⟩
        · exact Or.inr ⟨by decide, 0, rfl, rfl⟩
        · exact Or.inl ⟨rfl, 0, rfl, rfl⟩
  · rcases wget_append hk with ⟨h1, h2⟩ | ⟨h1, h2⟩
    · rcases wget_append hk' with ⟨h3, h4⟩ | ⟨h3, h4⟩
      · have e : k ≠ W.length := by omega
        have e' : k' ≠ W.length := by omega
        simp only [if_neg e, if_neg e']
        exact r2 k k' _ _ _ _ j j' h1 h3 hne hj hj'
      · have e : k ≠ W.length := by omega
        subst h3
        simp only [if_neg e, if_true]
        exact Nat.ne_of_lt (old h1 j hj)
    · rcases wget_append hk' with ⟨h3, h4⟩ | ⟨h3, h4⟩
      · have e' : k' ≠ W.length := by omega
        subst h1
        simp only [if_neg e', if_true]
        exact Nat.ne_of_gt (old h3 j' hj')
      · omega
  · rw [updA_ne (by omega)]
    obtain ⟨g1, c, g2, g3⟩ := r3 hs
    exact ⟨g1, c, g2.ext E, g3⟩
end W
theorem popB_rel {A : Nat → Addr} {b : Nat} : ∀ {ks : List Nat} {S : List OV} {acc as : List OV} {S' : List OV} {St : List Value} {X : List Value}, popB ks S acc = some (as, S') → SR A b S St → SR A b acc X →
    ∃ B St', SR A b as (B ++ X) ∧ SR A b S' St' ∧ St = B.reverse ++ St' ∧ B.length = ks.length
  | [], S, acc, as, S', St, X, h, hS, hX => by
    cases h
    exact ⟨[], St, hX, hS, rfl, rfl⟩
  | 0 :: ts, .inl z :: S, acc, as, S', St, X, h, hS, hX => by
    obtain ⟨y, St1, rfl, hy, hS1⟩ := SR.i1 hS
    obtain ⟨B, St', q1, q2, q3, q4⟩ := popB_rel (ks := ts) (X := .int y :: X) h hS1 ⟨⟨y, rfl, hy⟩, hX⟩
    exact ⟨B ++ [.int y], St', by simpa using q1, q2, by simp [q3], by simp [q4]⟩
  | 1 :: ts, .inr (.inl z) :: S, acc, as, S', St, X, h, hS, hX => by
    obtain ⟨y, St1, rfl, hy, hS1⟩ := SR.l1 hS
    obtain ⟨B, St', q1, q2, q3, q4⟩ := popB_rel (ks := ts) (X := .long y :: X) h hS1 ⟨⟨y, rfl, hy⟩, hX⟩
    exact ⟨B ++ [.long y], St', by simpa using q1, q2, by simp [q3], by simp [q4]⟩
  | 2 :: ts, .inr (.inr z) :: S, acc, as, S', St, X, h, hS, hX => by
    obtain ⟨hb, St1, rfl, hS1⟩ := SR.r1 hS
    obtain ⟨B, St', q1, q2, q3, q4⟩ := popB_rel (ks := ts) (X := .ref (A z) :: X) h hS1 ⟨⟨hb, rfl⟩, hX⟩
    exact ⟨B ++ [.ref (A z)], St', by simpa using q1, q2, by simp [q3], by simp [q4]⟩
def TabL (P : PT) (Q : LT) (C own : String) (nm lnm : Nat → MethodName) (lbys : Nat → ByteArray) (a0 : Array Value) (Z : State) : Prop :=
  (∀ q pc i len, lcode Q q pc = some (i, len) → decode (lbys q) pc = .ok (i, len) ∧ chk pc i len = true) ∧
  ((∀ x z, lcst Q x = some (.inl z) → ∃ v : Int32, (Jvm.Cond.constant own x v).before a0 Z = true ∧ v.toInt = z) ∧ (∀ x z, lcst Q x = some (.inr (.inl z)) → ∃ v : Int64, (Jvm.Cond.constantLong own x v).before a0 Z = true ∧ v.toInt = z)) ∧
  (∀ x q, lvm Q x = some q → (Jvm.Cond.methodLink own x (nm q)).before a0 Z = true ∧ (Jvm.Cond.declares (nm q)).before a0 Z = true ∧ (Jvm.Cond.selects C (nm q) (nm q)).before a0 Z = true) ∧
  (∀ x, lmk Q x = true → (Jvm.Cond.methodLink own x (nm 0)).before a0 Z = true) ∧
  (∀ x q, lsm Q x = some q → (Jvm.Cond.methodLink own x (lnm q)).before a0 Z = true) ∧
  (∀ x, lcl Q x = true → (Jvm.Cond.classLink own x C).before a0 Z = true) ∧
  (∀ q ps ml rk fr lc, linf Q q = some (ps, ml, rk, fr, lc) → q ≠ 0 → (lnm q).cls = own ∧ (Jvm.Cond.static (lnm q)).before a0 Z = true ∧ (Jvm.Cond.initialized own).before a0 Z = true ∧ (Jvm.Cond.code (lnm q) (lbys q) ml (rty rk)).before a0 Z = true ∧ ∃ params, parseMethodDescriptor (lnm q).desc = some ⟨params, rty rk⟩ ∧ params.length = ps.length) ∧
  plainName own = true ∧ (own ≠ "java/lang/invoke/MethodHandle" ∧ own ≠ "java/lang/invoke/VarHandle")
end Jvm.OwnMini
namespace Jvm.OwnMini
open Jvm Jvm.ClassFile Sem Op Lib Jvm.Free Jvm.Stand Jvm.LawKit Jvm.RoadKit
section InvL
variable {P : PT} {Q : LT} {TT mo : Nat} {sc : ScT} {kP : Nat → Nat → OLs → List OV → Nat → OMem → RT} {k : Nat → Nat → OLs → List OV → OWd → RTL} {q pc len : Nat} {L : OLs} {S : List OV} {W : OWd} {r : Option OV × OWd}
theorem new_someL {x : Nat} (h : stepLS P Q TT mo sc kP k q pc L S W (.new x) len = some r) : lcl Q x = true ∧ q = 0 ∧ W.length < mo ∧ k q (pc + len) L (vr (W.length + 1) :: S) (W ++ [(0, z0)]) = some r := by
  simp only [stepLS] at h
  obtain ⟨hb, h⟩ := cond_some h
  simp only [Bool.and_eq_true] at hb
  exact ⟨hb.1.1, Nat.eq_of_beq_eq_true hb.1.2, by simpa [Nat.blt_eq] using hb.2, h⟩
theorem length_someL (h : stepLS P Q TT mo sc kP k q pc L S W .arraylength len = some r) : ∃ S', S = .inr (.inr 0) :: S' ∧ sc.1 = true ∧ k q (pc + len) L (vi sc.2.1 :: S') W = some r := by
  simp only [stepLS] at h
  split at h
  · obtain ⟨hb, h⟩ := cond_some h
    exact ⟨_, rfl, hb, h⟩
  · cases h
theorem iaload_someL (h : stepLS P Q TT mo sc kP k q pc L S W .iaload len = some r) : ∃ i S', S = .inl i :: .inr (.inr 0) :: S' ∧ sc.1 = true ∧ 0 ≤ i ∧ i < sc.2.1 ∧ k q (pc + len) L (vi (sc.2.2 i) :: S') W = some r := by
  simp only [stepLS] at h
  split at h
  · obtain ⟨hb, h⟩ := cond_some h
    split at h
    · rename_i hc
      exact ⟨_, _, rfl, hb, hc.1, hc.2, h⟩
    · cases h
  · cases h
theorem special_someL {x : Nat} (h : stepLS P Q TT mo sc kP k q pc L S W (.invokespecial x) len = some r) : ∃ ps ml rk fr' lc' ps0 ml0 rk0 fr lc as o S' m y, pinf P 0 = some (ps, ml, rk, fr', lc') ∧ linf Q q = some (ps0, ml0, rk0, fr, lc) ∧ popA ps S [] = some (as, .inr (.inr (o + 1)) :: S') ∧ wget W o = some (0, m) ∧
    lmk Q x = true ∧ q = 0 ∧ fr' + 1 ≤ fr ∧ cats S' + (ml + 11) + lc' ≤ lc ∧ (initL (vr 0 :: as) ml).length ≤ ml ∧ kP 0 0 (initL (vr 0 :: as) ml) [] 0 m = some y ∧ y.2.1 = TT ∧ k q (pc + len) L (pushR y.1 S') (wput W o y.2) = some r := by
  simp only [stepLS] at h
  split at h
  · rename_i ps ml rk fr' lc' ps0 ml0 rk0 fr lc h1 h2
    split at h
    · rename_i as o S' hp
      split at h
      · rename_i m hw
        obtain ⟨hb, h⟩ := cond_some h
        simp only [Bool.and_eq_true] at hb
        obtain ⟨⟨⟨⟨g1, g2⟩, g3⟩, g4⟩, g5⟩ := hb
        obtain ⟨y, h3, h4⟩ := Option.bind_eq_some_iff.mp h
        obtain ⟨hb', h4⟩ := cond_some h4
        exact ⟨ps, ml, rk, fr', lc', ps0, ml0, rk0, fr, lc, as, o, S', m, y, h1, h2, hp, hw, g1, Nat.eq_of_beq_eq_true g2, Nat.le_of_ble_eq_true g3, Nat.le_of_ble_eq_true g4, Nat.le_of_ble_eq_true g5, h3, Nat.eq_of_beq_eq_true hb', h4⟩
      · cases h
    · cases h
  · cases h
theorem virtual_someL {x : Nat} (h : stepLS P Q TT mo sc kP k q pc L S W (.invokevirtual x) len = some r) : ∃ q' ps ml rk fr' lc' ps0 ml0 rk0 fr lc as o S' t m y, lvm Q x = some q' ∧ pinf P q' = some (ps, ml, rk, fr', lc') ∧ linf Q q = some (ps0, ml0, rk0, fr, lc) ∧ popA ps S [] = some (as, .inr (.inr (o + 1)) :: S') ∧ wget W o = some (t, m) ∧
    fr' + 1 ≤ fr ∧ cats S' + (ml + 11) + lc' ≤ lc ∧ q' ≠ 0 ∧ (initL (vr 0 :: as) ml).length ≤ ml ∧ kP q' 0 (initL (vr 0 :: as) ml) [] t m = some y ∧ k q (pc + len) L (pushR y.1 S') (wput W o y.2) = some r := by
  simp only [stepLS] at h
  split at h
  · rename_i q' hq'
    split at h
    · rename_i ps ml rk fr' lc' ps0 ml0 rk0 fr lc h1 h2
      split at h
      · rename_i as o S' hp
        split at h
        · rename_i t m hw
          obtain ⟨hb, h⟩ := cond_some h
          simp only [Bool.and_eq_true] at hb
          obtain ⟨⟨⟨g1, g2⟩, g3⟩, g4⟩ := hb
          obtain ⟨y, h3, h4⟩ := Option.bind_eq_some_iff.mp h
          exact ⟨q', ps, ml, rk, fr', lc', ps0, ml0, rk0, fr, lc, as, o, S', t, m, y, hq', h1, h2, hp, hw, Nat.le_of_ble_eq_true g1, Nat.le_of_ble_eq_true g2, (fun e => by subst e; simp at g3), Nat.le_of_ble_eq_true g4, h3, h4⟩
        · cases h
      · cases h
    · cases h
  · cases h
theorem static_someL {x : Nat} (h : stepLS P Q TT mo sc kP k q pc L S W (.invokestatic x) len = some r) : ∃ q' ps ml rk fr' lc' ps0 ml0 rk0 fr lc as S' y, lsm Q x = some q' ∧ linf Q q' = some (ps, ml, rk, fr', lc') ∧ linf Q q = some (ps0, ml0, rk0, fr, lc) ∧ popB ps S [] = some (as, S') ∧
    fr' + 1 ≤ fr ∧ cats S' + (ml + 11) + lc' ≤ lc ∧ q' ≠ 0 ∧ (initL as ml).length ≤ ml ∧ k q' 0 (initL as ml) [] W = some y ∧ k q (pc + len) L (pushR y.1 S') y.2 = some r := by
  simp only [stepLS] at h
  split at h
  · rename_i q' hq'
    split at h
    · rename_i ps ml rk fr' lc' ps0 ml0 rk0 fr lc h1 h2
      split at h
      · rename_i as S' hp
        obtain ⟨hb, h⟩ := cond_some h
        simp only [Bool.and_eq_true] at hb
        obtain ⟨⟨⟨g1, g2⟩, g3⟩, g4⟩ := hb
        obtain ⟨y, h3, h4⟩ := Option.bind_eq_some_iff.mp h
        exact ⟨q', ps, ml, rk, fr', lc', ps0, ml0, rk0, fr, lc, as, S', y, hq', h1, h2, hp, Nat.le_of_ble_eq_true g1, Nat.le_of_ble_eq_true g2, (fun e => by subst e; simp at g3), Nat.le_of_ble_eq_true g4, h3, h4⟩
      · cases h
    · cases h
  · cases h
theorem ireturn_someL (h : stepLS P Q TT mo sc kP k q pc L S W .ireturn len = some r) : ∃ z S' ps ml rk fr lc, S = .inl z :: S' ∧ linf Q q = some (ps, ml, rk, fr, lc) ∧ ((rk = 1 ∧ r = (some (vi z), W)) ∨ (rk = 2 ∧ r = (some (vi (z % 2)), W))) := by
  simp only [stepLS] at h
  split at h
  · split at h
    · rename_i hl; cases h; exact ⟨_, _, _, _, _, _, _, rfl, hl, Or.inl ⟨rfl, rfl⟩⟩
    · rename_i hl; cases h; exact ⟨_, _, _, _, _, _, _, rfl, hl, Or.inr ⟨rfl, rfl⟩⟩
    · cases h
  · cases h
theorem lreturn_someL (h : stepLS P Q TT mo sc kP k q pc L S W .lreturn len = some r) : ∃ z S' ps ml fr lc, S = .inr (.inl z) :: S' ∧ linf Q q = some (ps, ml, 4, fr, lc) ∧ r = (some (vl z), W) := by
  simp only [stepLS] at h
  split at h
  · split at h
    · rename_i hl; cases h; exact ⟨_, _, _, _, _, _, rfl, hl, rfl⟩
    · cases h
  · cases h
theorem return_someL (h : stepLS P Q TT mo sc kP k q pc L S W .return_ len = some r) : ∃ ps ml fr lc, S = [] ∧ linf Q q = some (ps, ml, 0, fr, lc) ∧ r = (none, W) := by
  simp only [stepLS] at h
  split at h
  · split at h
    · rename_i hl; cases h; exact ⟨_, _, _, _, rfl, hl, rfl⟩
    · cases h
  · cases h
end InvL
def EndL (P : PT) (C : String) (fnm : FN) (fkd : FK) (Z : State) (sc : ScT) (nA nf mo : Nat) (p : Program) (l : Launch) (e : Env) (R : Room) (s : State) (mi : MethodId) (args : Array Value) (below : List Frame) (meth : Method) (c : Code) (n0 q : Nat)
    (T : State) (A : Nat → Addr) (W : OWd) (locs : List Loc) (cells slots : Nat) (f0 : JFrame) (r : Option OV) (W' : OWd) : Prop :=
  ∃ (v : Option Value) (T' : State) (A' : Nat → Addr) (AO' : Nat → Nat → Addr) (lw : List Loc) (cells' slots' : Nat),
    Stand p l e R s mi args below meth c T' (locs ++ lw) cells' slots' ∧ RepW P C fnm fkd Z sc T'.heap A' AO' n0 W' ∧ (∀ k, k ≤ W.length → A' k = A k) ∧ W.length ≤ W'.length ∧ T.heap.size ≤ T'.heap.size ∧ Fr n0 lw ∧
    (q = 0 → cells' ≤ cW 1 nA W' ∧ slots' ≤ cW nf (psum P nA) W' ∧ W'.length ≤ mo) ∧ (q ≠ 0 → OwnMini.ts W' = OwnMini.ts W ∧ cells' = cells ∧ slots' = slots) ∧ RVl r v ∧ (meth.sig.returnType = none → v = none) ∧
    ∀ fs, (∀ (f : JFrame) (acts : List Action), f.method = mi → f.locked = none → f.entered = [] → (doReturn e (T'.setTop f) acts v).1 = T'.setFrames fs) → Steps p.tables e below (T.setTop f0) (T'.setFrames fs)
section SoundL
variable {P : PT} {Q : LT} {C own : String} {fnm : FN} {fkd : FK} {nm lnm : Nat → MethodName} {bys lbys : Nat → ByteArray} {nA nf mo : Nat} {a0 : Array Value} {Z : State} {sc : ScT}
variable {p : Program} {l : Launch} {e : Env} {R : Room} {s : State} {mi : MethodId} {args : Array Value} {below : List Frame} {meth : Method} {c : Code} {n0 q : Nat}
theorem EndL.trans {T T1 : State} {A A1 : Nat → Addr} {W W1 : OWd} {locs l1 : List Loc} {cells slots cells1 slots1 : Nat} {f0 f1 : JFrame} {r : Option OV} {W' : OWd}
    (E : EndL P C fnm fkd Z sc nA nf mo p l e R s mi args below meth c n0 q T1 A1 W1 (locs ++ l1) cells1 slots1 f1 r W') (hA : ∀ k, k ≤ W.length → A1 k = A k) (hW : W.length ≤ W1.length) (hh : T.heap.size ≤ T1.heap.size) (hF : Fr n0 l1) (hq : q ≠ 0 → OwnMini.ts W1 = OwnMini.ts W ∧ cells1 = cells ∧ slots1 = slots)
    (st : ∀ target, Steps p.tables e below (T1.setTop f1) target → Steps p.tables e below (T.setTop f0) target) : EndL P C fnm fkd Z sc nA nf mo p l e R s mi args below meth c n0 q T A W locs cells slots f0 r W' := by
  obtain ⟨v, T', A', AO', lw, cells', slots', h1, h2, h3, h4, h5, h6, h7, h8, h9, h10, h11⟩ := E
  refine ⟨v, T', A', AO', l1 ++ lw, cells', slots', by rw [← List.append_assoc]; exact h1, h2, fun k hk => (h3 k (by omega)).trans (hA k hk), by omega, by omega, hF.app h6, h7, fun hq' => ?_, h9, h10, fun fs hfs => st _ (h11 fs hfs)⟩
  obtain ⟨a1, a2, a3⟩ := hq hq'
  obtain ⟨b1, b2, b3⟩ := h8 hq'
  exact ⟨b1.trans a1, b2.trans a2, b3.trans a3⟩
def SoundAtL (P : PT) (Q : LT) (C own : String) (fnm : FN) (fkd : FK) (lbys : Nat → ByteArray) (nA nf mo : Nat) (Z : State) (sc : ScT) (l : Launch) (n : Nat) : Prop :=
  ∀ q pc L S W r W', runL P Q (2 * nA) mo sc n q pc L S W = some (r, W') → ∀ ps ml rk fr lc, linf Q q = some (ps, ml, rk, fr, lc) →
  ∀ (p : Program) (e : Env) (R : Room) (s : State) (mi : MethodId) (args : Array Value) (below : List Frame) (meth : Method) (c : Code) (T : State) (locs : List Loc) (cells slots : Nat) (A : Nat → Addr) (AO : Nat → Nat → Addr) (Ls : Array Slot) (St : List Value) (n0 : Nat),
    Stand p l e R s mi args below meth c T locs cells slots → p.tables.exec = Jvm.exec → Z.Warmed39 s.vm → s.vm.findClass own = some mi.cls → c.code = lbys q → c.maxLocals = ml → meth.sig.returnType = rty rk →
    RepW P C fnm fkd Z sc T.heap A AO n0 W → LR A W.length L Ls → SR A W.length S St → Ls.size = ml → n0 ≤ T.heap.size → fr ≤ R.frames → lc ≤ R.locals → cells ≤ R.cells → slots ≤ R.slots → W.length ≤ mo →
    (q = 0 → cells ≤ cW 1 nA W ∧ slots ≤ cW nf (psum P nA) W ∧ mo * (1 + nA) ≤ R.cells ∧ mo * (nf + psum P nA) ≤ R.slots) →
    EndL P C fnm fkd Z sc nA nf mo p l e R s mi args below meth c n0 q T A W locs cells slots (mkF mi pc Ls St) r W'
def QL (P : PT) (C : String) (fnm : FN) (fkd : FK) (Z : State) (sc : ScT) (n0 : Nat) (W : OWd) (A : Nat → Addr) (h : Heap) (r : Option OV) (W' : OWd) (v : Option Value) (h' : Heap) (L : List Loc) : Prop :=
  ∃ A' AO', RepW P C fnm fkd Z sc h' A' AO' n0 W' ∧ (∀ k, k ≤ W.length → A' k = A k) ∧ h.size ≤ h'.size ∧ Fr n0 L ∧ OwnMini.ts W' = OwnMini.ts W ∧ RVl r v
theorem metL (HL : TabL P Q C own nm lnm lbys a0 Z) {n : Nat} (hS : SoundAtL P Q C own fnm fkd lbys nA nf mo Z sc l n) {ps : List Nat} {ml rk fr lc : Nat} (hq : linf Q q = some (ps, ml, rk, fr, lc)) (hq0 : q ≠ 0) {as : List OV} {W : OWd} {r : Option OV} {W' : OWd}
    (hrun : runL P Q (2 * nA) mo sc n q 0 (initL as ml) [] W = some (r, W')) (hsz : (initL as ml).length ≤ ml) {A : Nat → Addr} {AO : Nat → Nat → Addr} {h : Heap} (hn0 : n0 ≤ h.size) (hR : RepW P C fnm fkd Z sc h A AO n0 W) (hmo : W.length ≤ mo) {vals : List Value} (hv : SR A W.length as vals) :
    MetFree l (lnm q) (head1 [Jvm.Cond.code (lnm q) (lbys q) ml (rty rk)] ({ frames := fr, cells := 0, slots := 0, locals := lc } : Room)) (fun a U => a = vals.toArray ∧ Z.Warmed39 U.vm ∧ U.heap = h) (fun _ _ _ _ _ => True)
      (fun _ U o U' => ∃ v L, o = .returned v ∧ QL P C fnm fkd Z sc n0 W A h r W' v U'.heap L ∧ FrameEnd U o U' L 0 0) := by
  have HL' := HL
  obtain ⟨-, -, -, -, -, -, hinf, hpn, -⟩ := HL'
  obtain ⟨hcls, -⟩ := hinf q ps ml rk fr lc hq hq0
  refine MetFree.of_bodySF (plainFor_of_name (by rw [hcls]; exact hpn)) hisR ?_
  intro p e s m' args below meth c s₁ Bd hml0 hP hK
  obtain ⟨rfl, hZ, hh⟩ := hP
  have X0 := Stand.of_body Bd
  have e0 : s₁.heap = h := by rw [← hh, Bd.state]; rfl
  have hown : s.vm.findClass own = some m'.cls := by rw [← hcls]; exact findClass_of_methodNamed Bd.named
  have hL := entry_rel (n := ml) hv
  have hz : (argsToLocals vals.toArray ml).size = ml := by
    rw [← hL.1]
    refine Nat.le_antisymm hsz ?_
    simp only [initL, List.length_append, List.length_replicate]; omega
  obtain ⟨v, T', A', AO', lw, cells', slots', h1, h2, h3, h4, h5, h6, h7, h8, h9, h10, h11⟩ := hS q 0 _ [] W r W' hrun ps ml rk fr lc hq p e _ s m' _ below meth c s₁ [] 0 0 A AO (argsToLocals vals.toArray ml) [] n0 X0 Bd.exec hZ hown Bd.bytes hml0 Bd.returns
    (by rw [e0]; exact hR) hL trivial hz (by rw [e0]; exact hn0) (Nat.le_refl _) (Nat.le_refl _) (Nat.zero_le _) (Nat.zero_le _) hmo (fun q0 => absurd q0 hq0)
  rw [e0] at h5
  obtain ⟨b1, b2, b3⟩ := h8 hq0
  obtain ⟨fs, hr, hrun', hended, hW, hsame⟩ := h1.leave (v := v) h10
  exact ⟨_, _, h11 fs hr, hrun', hended, v, _, rfl, ⟨A', AO', h2, h3, h5, h6, b1, h9⟩, ⟨_, rfl⟩, hW, hsame.mono (by omega) (by omega)⟩
end SoundL
set_option maxHeartbeats 4000000 in
theorem soundL {P : PT} {Q : LT} {C own : String} {fnm : FN} {fkd : FK} {nm lnm : Nat → MethodName} {bys lbys : Nat → ByteArray} {nA nf mo : Nat} {a0 : Array Value} {Z : State} {sc : ScT} (HT : TabP P C fnm fkd nm bys nA nf a0 Z) (HL : TabL P Q C own nm lnm lbys a0 Z) (hA1 : 1 ≤ nA) (l : Launch) : ∀ n, SoundAtL P Q C own fnm fkd lbys nA nf mo Z sc l n
  | 0 => fun q pc L S W r W' h => by cases h
  | n + 1 => by
    intro q pc L0 S W r W' h ps ml rk fr lc hq p e R s mi args below meth c T locs cells slots A AO Ls St n0 X hx hZ hown hby hml hret hR hL0 hSt hsz hn0 hfr hlc hce hsl hmo hroom
    have IH := soundL (mo := mo) (sc := sc) HT HL hA1 l n
    have IP := soundP HT l n
    have HT' := HT
    obtain ⟨-, -, -, -, -, -, -, -, tinf, -, -, tins, tini, -, thn, tnm, trk⟩ := HT'
    have HL' := HL
    obtain ⟨lcod, lcs, lv, lm, ls, lc', lin, lpn, lhn⟩ := HL'
    replace h : stepL P Q (2 * nA) mo sc (runP P n) (runL P Q (2 * nA) mo sc n) q pc L0 S W = some (r, W') := h
    unfold stepL at h
    cases hcd : lcode Q q pc with
    | none => rw [hcd] at h; cases h
    | some il =>
      obtain ⟨i, len⟩ := il
      rw [hcd] at h
      replace h : stepLI P Q (2 * nA) mo sc (runP P n) (runL P Q (2 * nA) mo sc n) q pc (mask (lliv Q q pc) L0) S W i len = some (r, W') := h
      have hL := hL0.mask (lliv Q q pc)
      generalize mask (lliv Q q pc) L0 = L at h hL
      obtain ⟨hdec, hchk⟩ := lcod q pc i len hcd
      have hd : decode c.code pc = .ok (i, len) := by rw [hby]; exact hdec
      have hcst : (∀ x z, lcst Q x = some (.inl z) → ∃ v : Int32, (Jvm.Cond.constant own x v).before args s = true ∧ v.toInt = z) ∧ (∀ x z, lcst Q x = some (.inr (.inl z)) → ∃ v : Int64, (Jvm.Cond.constantLong own x v).before args s = true ∧ v.toInt = z) :=
        ⟨fun x z hz => by obtain ⟨v, h1, h2⟩ := lcs.1 x z hz; exact ⟨v, mv hZ h1, h2⟩, fun x z hz => by obtain ⟨v, h1, h2⟩ := lcs.2 x z hz; exact ⟨v, mv hZ h1, h2⟩⟩
      have go : ∀ {pc' : Nat} {L' : OLs} {S' : List OV} {Ls' : Array Slot} {St' : List Value}, runL P Q (2 * nA) mo sc n q pc' L' S' W = some (r, W') → LR A W.length L' Ls' → SR A W.length S' St' → Ls'.size = ml →
          (∀ target, Steps p.tables e below (T.setTop (mkF mi pc' Ls' St')) target → Steps p.tables e below (T.setTop (mkF mi pc Ls St)) target) →
          EndL P C fnm fkd Z sc nA nf mo p l e R s mi args below meth c n0 q T A W locs cells slots (mkF mi pc Ls St) r W' := fun hrun hL1 hS1 hz1 st =>
        EndL.trans (l1 := []) (IH q _ _ _ W r W' hrun ps ml rk fr lc hq p e R s mi args below meth c T _ cells slots A AO _ _ n0 (by rw [List.append_nil]; exact X) hx hZ hown hby hml hret hR hL1 hS1 hz1 hn0 hfr hlc hce hsl hmo hroom) (fun _ _ => rfl) (Nat.le_refl _) (Nat.le_refl _) (Fr.nil _) (fun _ => ⟨rfl, rfl, rfl⟩) st
      -- going on behind an object's method
      have gv : ∀ {T1 : State} {L1 : List Loc} {v : Option Value} {y1 : Option OV} {o t t1 : Nat} {m m1 : OMem} {S' : List OV} {St' : List Value} {cells1 slots1 : Nat}, wget W o = some (t, m) → Stand p l e R s mi args below meth c T1 (locs ++ L1) cells1 slots1 →
          (∃ A', RepO P C fnm fkd Z T1.heap A' n0 t1 m1 ∧ (∀ j, j ≤ (t + 1) / 2 → A' j = AO o j) ∧ t ≤ t1 ∧ (∀ j, (t + 1) / 2 < j → j ≤ (t1 + 1) / 2 → T.heap.size ≤ A' j) ∧ Fr n0 L1 ∧ Sam T.heap T1.heap (AO o) ((t + 1) / 2) ∧ RVl y1 v) → SR A W.length S' St' → runL P Q (2 * nA) mo sc n q (pc + 3) L (pushR y1 S') (wput W o (t1, m1)) = some (r, W') →
          cells1 ≤ R.cells → slots1 ≤ R.slots → (q = 0 → cells1 ≤ cW 1 nA (wput W o (t1, m1)) ∧ slots1 ≤ cW nf (psum P nA) (wput W o (t1, m1))) → (q ≠ 0 → t1 = t ∧ cells1 = cells ∧ slots1 = slots) →
          (∀ target, Steps p.tables e below (T1.setTop (mkF mi (pc + 3) Ls (v.toList ++ St'))) target → Steps p.tables e below (T.setTop (mkF mi pc Ls St)) target) →
          EndL P C fnm fkd Z sc nA nf mo p l e R s mi args below meth c n0 q T A W locs cells slots (mkF mi pc Ls St) r W' := fun {T1 L1 v y1 o t t1 m m1 S' St' cells1 slots1} ho X1 hQ hS1 hrun hc1 hs1 h0 h1 st => by
        obtain ⟨A', g1, g2, g3, g4, g5, g6, g7⟩ := hQ
        have hR1 := hR.ran ho g1 g2 g4 g6
        have hlen := wput_len W o (t1, m1)
        refine EndL.trans (l1 := L1) (IH q _ _ _ _ r W' hrun ps ml rk fr lc hq p e R s mi args below meth c T1 _ cells1 slots1 A _ Ls _ n0 X1 hx hZ hown hby hml hret hR1 (by rw [hlen]; exact hL) (by rw [hlen]; exact g7.push hS1) hsz (Nat.le_trans hn0 g6.1) hfr hlc hc1 hs1 (by rw [hlen]; exact hmo) (fun q0 => ⟨(h0 q0).1, (h0 q0).2, (hroom q0).2.2.1, (hroom q0).2.2.2⟩)) (fun _ _ => rfl) (by rw [hlen]; exact Nat.le_refl _) g6.1 g5 (fun q0 => ?_) st
        obtain ⟨e1, e2, e3⟩ := h1 q0
        subst e1
        exact ⟨ts_wput ho, e2, e3⟩
      cases hsp : isSpecL i with
      | false =>
        simp only [stepLI, hsp, cond_false] at h
        obtain ⟨pc', L', S', Ls', St', h1, h2, h3, h4, h5⟩ := pstep_sound (cst := lcst Q) (k := fun pc' L' S' => runL P Q (2 * nA) mo sc n q pc' L' S' W) X hx hown hcst hL hSt hd hchk h
        exact go h1 h2 h3 (h4.trans hsz) h5
      | true =>
      simp only [stepLI, hsp, cond_true] at h
      clear hcd
      cases i
      case new x =>
        obtain rfl : len = 3 := by simpa [chk, ilen] using hchk
        obtain ⟨hcl, hq0, hlt, h⟩ := new_someL h
        obtain ⟨b1, b2, b3, b4⟩ := hroom hq0
        have d1 := cW_le 1 nA W
        have d2 := cW_le nf (psum P nA) W
        have d3 : (W.length + 1) * (1 + nA) ≤ mo * (1 + nA) := Nat.mul_le_mul_right _ hlt
        have d4 : (W.length + 1) * (nf + psum P nA) ≤ mo * (nf + psum P nA) := Nat.mul_le_mul_right _ hlt
        rw [Nat.add_mul] at d3 d4
        obtain ⟨T1, h1, X1, e1, E, Ex, D, -, st⟩ := newO X hx hZ hown (lc' x hcl) tins tini rfl (g := mkF mi pc Ls St) rfl hd (by omega) (by omega)
        subst e1
        have hR1 := hR.made HT hn0 E Ex D
        have hAg : ∀ k, k ≤ W.length → updA A (W.length + 1) T.heap.size k = A k := fun k hk => updA_ne (by omega)
        have hln : (W ++ [((0 : Nat), z0)]).length = W.length + 1 := by simp
        refine EndL.trans (l1 := []) (IH q _ _ _ _ r W' h ps ml rk fr lc hq p e R s mi args below meth c T1 _ (cells + 1) (slots + nf) _ _ Ls (.ref T.heap.size :: St) n0 (by rw [List.append_nil]; exact X1) hx hZ hown hby hml hret hR1 (by rw [hln]; exact hL.mono hAg (by omega)) (by rw [hln]; exact ⟨⟨Nat.le_refl _, by rw [updA_eq]⟩, hSt.mono hAg (by omega)⟩) hsz (Nat.le_trans hn0 E.1) hfr hlc (by omega) (by omega) (by rw [hln]; omega) (fun _ => ⟨by rw [cW_append]; omega, by rw [cW_append]; omega, b3, b4⟩)) hAg (by rw [hln]; omega) E.1 (Fr.nil _) (fun q0 => absurd hq0 q0) st
      case arraylength =>
        obtain rfl : len = 1 := by simpa [chk, ilen] using hchk
        obtain ⟨S', rfl, hs, h⟩ := length_someL h
        obtain ⟨hb0, St', rfl, hS'⟩ := SR.r1 hSt
        obtain ⟨g1, cl, g2, g3, g4, g5⟩ := hR.2.2 hs
        exact go h hL (SR.ci (by rw [len_toInt (by omega)]; exact g3) hS') hsz (fun target hr => X.arraylength hx g2.1 (State.isArrayOf_alike hZ.alike g2.2.1) (g := mkF mi pc Ls (.ref (A 0) :: St')) rfl rfl hd target hr)
      case iaload =>
        obtain rfl : len = 1 := by simpa [chk, ilen] using hchk
        obtain ⟨i, S', rfl, hs, hi0, hi1, h⟩ := iaload_someL h
        obtain ⟨y, St1, rfl, rfl, hS1⟩ := SR.i1 hSt
        obtain ⟨hb0, St', rfl, hS'⟩ := SR.r1 hS1
        obtain ⟨g1, cl, g2, g3, g4, g5⟩ := hR.2.2 hs
        obtain ⟨w, hv, hw⟩ := g5 y.toNatClampNeg (by have := clamp32 hi0; omega)
        rw [clamp32 hi0] at hw
        exact go h hL (SR.ci hw hS') hsz (fun target hr => X.iaload hx g2.1 (State.isArrayOf_alike hZ.alike g2.2.1) g2.2.2 (idx32 hi0 (by omega)) hv (g := mkF mi pc Ls (.int y :: .ref (A 0) :: St')) rfl rfl hd target hr)
      case invokespecial x =>
        obtain rfl : len = 3 := by simpa [chk, ilen] using hchk
        obtain ⟨ps', ml', rk', fr', lc'', ps0, ml0, rk0, fr0, lc0, as, o, S', m, y, hi', hq1, hpop, ho, hmk, hq0, hf1, hl1, hlen, hcall, hyT, hcont⟩ := special_someL h
        clear h
        cases hq.symm.trans hq1
        obtain ⟨y1, t1, m1⟩ := y
        have hyT : t1 = 2 * nA := hyT
        obtain ⟨B, St1, hB, hS1, rfl, hBl⟩ := popA_rel hpop hSt
        obtain ⟨hb0, St', rfl, hS'⟩ := SR.r1 hS1
        obtain ⟨hRo, hA0⟩ := hR.1 o _ _ ho
        obtain ⟨b1, b2, b3, b4⟩ := hroom hq0
        have d1 := cW_raw (a := 1) (b := nA) ho
        have d2 := cW_raw (a := nf) (b := psum P nA) ho
        have d3 : W.length * (1 + nA) ≤ mo * (1 + nA) := Nat.mul_le_mul_right _ hmo
        have d4 : W.length * (nf + psum P nA) ≤ mo * (nf + psum P nA) := Nat.mul_le_mul_right _ hmo
        have hargs : SR (AO o) ((0 + 1) / 2) (vr 0 :: as) (.ref (A (o + 1)) :: B) := ⟨⟨by omega, by rw [hA0]⟩, by simpa using hB (AO o) ((0 + 1) / 2) [] trivial⟩
        obtain ⟨icls, iinst, icode, -, params, ipd, ipl⟩ := tinf 0 _ _ _ _ _ hi'
        have hM := metP (l := l) (cl := nA) (sl := psum P nA) HT IP hi' hcall hlen hn0 hRo hargs (fun _ => ⟨by omega, by omega⟩)
        have hBk := backOf (R := R) (p := p) (e := e) (below := below) (s := s) (args := args) (len := 3) (W := cats S') (rm := { frames := fr', cells := nA, slots := psum P nA, locals := lc'' }) (Q := QP P C fnm fkd Z n0 0 0 (AO o) T.heap y1 t1 m1) hM hZ icode (by rw [icls]; exact tini) (by show fr' + 1 ≤ R.frames; omega) (by show cats S' + (ml' + 11) + lc'' ≤ R.locals; omega)
        have hyn : (nm 0).cls ≠ "java/lang/invoke/MethodHandle" ∧ (nm 0).cls ≠ "java/lang/invoke/VarHandle" := by rw [icls]; exact thn
        have hlenA : ∀ sig, parseMethodDescriptor (nm 0).desc = some sig → B.length = sig.parameters.length := lenOf ipd (by rw [hBl, ipl])
        have hrk : rty rk' = none := by rw [trk _ _ _ _ _ hi']; rfl
        rw [hrk] at icode
        obtain ⟨v, vm1, ⟨T1, L1, k1, n1⟩, -, X1, ⟨Lc, hQ, l1, c1, s1⟩, st⟩ := X.specialBack hx tnm hown (mv hZ (lm x hmk)) (mv hZ iinst) (mv hZ icode) hyn hBk (g := mkF mi pc Ls (B.reverse ++ .ref (A (o + 1)) :: St')) rfl (by rw [hml]; exact hsz) (Steps.refl _) (a := A (o + 1)) (argsL := B) (rest := St') hlenA rfl (by show 2 * 0 + _ ≤ _; rw [hS'.catsum]; omega) hd (fun _ _ => ⟨rfl, rfl, by show cells + nA ≤ _; omega, by show slots + psum P nA ≤ _; omega⟩)
        dsimp only [Pt.U, Pt.locs, Pt.cells, Pt.slots] at X1 l1 c1 s1 st hQ
        subst l1 c1 s1
        obtain ⟨A', g1, g2, g3, g4, g5, g6, g7, g8⟩ := hQ
        subst hyT
        have e2 : 2 * nA = (2 * nA - 1) + 1 := by omega
        have w1 : cW 1 nA (wput W o (2 * nA, m1)) = cW 1 nA W + nA := by rw [e2]; exact cW_made ho
        have w2 : cW nf (psum P nA) (wput W o (2 * nA, m1)) = cW nf (psum P nA) W + psum P nA := by rw [e2]; exact cW_made ho
        exact gv ho X1 ⟨A', g1, g2, g3, g4, g5, g6, g7⟩ hS' hcont (by omega) (by omega) (fun _ => ⟨by omega, by omega⟩) (fun q0 => absurd hq0 q0) (fun target hr => st.trans hr)
      case invokevirtual x =>
        obtain rfl : len = 3 := by simpa [chk, ilen] using hchk
        obtain ⟨q', ps', ml', rk', fr', lc'', ps0, ml0, rk0, fr0, lc0, as, o, S', t, m, y, hx', hi', hq1, hpop, ho, hf1, hl1, hq'0, hlen, hcall, hcont⟩ := virtual_someL h
        clear h
        cases hq.symm.trans hq1
        obtain ⟨y1, t1, m1⟩ := y
        obtain ⟨B, St1, hB, hS1, rfl, hBl⟩ := popA_rel hpop hSt
        obtain ⟨hb0, St', rfl, hS'⟩ := SR.r1 hS1
        obtain ⟨hRo, hA0⟩ := hR.1 o _ _ ho
        have hargs : SR (AO o) ((t + 1) / 2) (vr 0 :: as) (.ref (A (o + 1)) :: B) := ⟨⟨by omega, by rw [hA0]⟩, by simpa using hB (AO o) ((t + 1) / 2) [] trivial⟩
        obtain ⟨icls, iinst, icode, -, params, ipd, ipl⟩ := tinf q' _ _ _ _ _ hi'
        obtain ⟨vl1, vl2, vl3⟩ := lv x _ hx'
        have hM := metP (l := l) (cl := 0) (sl := 0) HT IP hi' hcall hlen hn0 hRo hargs (fun q0 => absurd q0 hq'0)
        have hBk := backOf (R := R) (p := p) (e := e) (below := below) (s := s) (args := args) (len := 3) (W := cats S') (rm := { frames := fr', cells := 0, slots := 0, locals := lc'' }) (Q := QP P C fnm fkd Z n0 q' t (AO o) T.heap y1 t1 m1) hM hZ icode (by rw [icls]; exact tini) (by show fr' + 1 ≤ R.frames; omega) (by show cats S' + (ml' + 11) + lc'' ≤ R.locals; omega)
        have hyn : (nm q').cls ≠ "java/lang/invoke/MethodHandle" ∧ (nm q').cls ≠ "java/lang/invoke/VarHandle" := by rw [icls]; exact thn
        have hlenA : ∀ sig, parseMethodDescriptor (nm q').desc = some sig → B.length = sig.parameters.length := lenOf ipd (by rw [hBl, ipl])
        obtain ⟨cB, kB, i1, i2, i3⟩ := isOf (T := T) hZ rfl hRo.1
        rw [hA0] at i3
        obtain ⟨v, vm1, ⟨T1, L1, k1, n1⟩, -, X1, ⟨Lc, hQ, l1, c1, s1⟩, st⟩ := X.virtualBack hx (C := C) (y := nm q') (z := nm q') hown (mv hZ vl1) (mv hZ vl2) (notFace_of_selects (args := args) (mv hZ vl3)) (mv hZ vl3) (mv hZ iinst) hyn hBk i1 i3 (g := mkF mi pc Ls (B.reverse ++ .ref (A (o + 1)) :: St')) rfl (by rw [hml]; exact hsz) (Steps.refl _) (argsL := B) (rest := St') hlenA rfl (by show 2 * 0 + _ ≤ _; rw [hS'.catsum]; omega) hd (fun _ _ => ⟨rfl, rfl, hce, hsl⟩)
        dsimp only [Pt.U, Pt.locs, Pt.cells, Pt.slots] at X1 l1 c1 s1 st hQ
        subst l1 c1 s1
        obtain ⟨A', g1, g2, g3, g4, g5, g6, g7, g8⟩ := hQ
        obtain rfl := g8 hq'0
        have w1 := cW_ts (a := 1) (b := nA) (ts_wput (m' := m1) ho)
        have w2 := cW_ts (a := nf) (b := psum P nA) (ts_wput (m' := m1) ho)
        exact gv ho X1 ⟨A', g1, g2, g3, g4, g5, g6, g7⟩ hS' hcont hce hsl (fun q0 => ⟨by rw [w1]; exact (hroom q0).1, by rw [w2]; exact (hroom q0).2.1⟩) (fun _ => ⟨rfl, rfl, rfl⟩) (fun target hr => st.trans hr)
      case invokestatic x =>
        obtain rfl : len = 3 := by simpa [chk, ilen] using hchk
        obtain ⟨q', ps', ml', rk', fr', lc'', ps0, ml0, rk0, fr0, lc0, as, S', y, hx', hi', hq1, hpop, hf1, hl1, hq'0, hlen, hcall, hcont⟩ := static_someL h
        clear h
        cases hq.symm.trans hq1
        obtain ⟨y1, W1⟩ := y
        obtain ⟨B, St', hB, hS', rfl, hBl⟩ := popB_rel (X := []) hpop hSt trivial
        rw [List.append_nil] at hB
        obtain ⟨icls, istat, iini, icode, params, ipd, ipl⟩ := lin q' _ _ _ _ _ hi' hq'0
        have hM := metL (l := l) HL IH hi' hq'0 hcall hlen hn0 hR hmo hB
        have hBk := backOf (R := R) (p := p) (e := e) (below := below) (s := s) (args := args) (len := 3) (W := cats S') (rm := { frames := fr', cells := 0, slots := 0, locals := lc'' }) (Q := QL P C fnm fkd Z sc n0 W A T.heap y1 W1) hM hZ icode (by rw [icls]; exact iini) (by show fr' + 1 ≤ R.frames; omega) (by show cats S' + (ml' + 11) + lc'' ≤ R.locals; omega)
        have hyn : (lnm q').cls ≠ "java/lang/invoke/MethodHandle" ∧ (lnm q').cls ≠ "java/lang/invoke/VarHandle" := by rw [icls]; exact lhn
        have hlenA : ∀ sig, parseMethodDescriptor (lnm q').desc = some sig → B.length = sig.parameters.length := lenOf ipd (by rw [hBl, ipl])
        obtain ⟨v, vm1, ⟨T1, L1, k1, n1⟩, -, X1, ⟨Lc, hQ, l1, c1, s1⟩, st⟩ := Jvm.LawKit.callS X hx hown (mv hZ (ls x _ hx')) (mv hZ istat) (mv hZ (by rw [icls]; exact iini)) (mv hZ icode) hyn hBk (g := mkF mi pc Ls (B.reverse ++ St')) rfl (by rw [hml]; exact hsz) (argsL := B) (rest := St') hlenA rfl (by show 2 * 0 + _ ≤ _; rw [hS'.catsum]; omega) hd (fun _ _ => ⟨rfl, rfl, hce, hsl⟩)
        dsimp only [Pt.U, Pt.locs, Pt.cells, Pt.slots] at X1 l1 c1 s1 st hQ
        subst l1 c1 s1
        obtain ⟨A', AO', g1, g2, g3, g4, g5, g6⟩ := hQ
        have w1 := cW_ts (a := 1) (b := nA) g5
        have w2 := cW_ts (a := nf) (b := psum P nA) g5
        have wl := ts_len g5
        exact EndL.trans (l1 := Lc) (IH q _ _ _ W1 r W' hcont ps ml rk fr lc hq p e R s mi args below meth c T1 _ _ _ A' AO' Ls _ n0 X1 hx hZ hown hby hml hret g1 (by rw [wl]; exact hL.mono g2 (Nat.le_refl _)) (by rw [wl]; exact g6.push (hS'.mono g2 (Nat.le_refl _))) hsz (Nat.le_trans hn0 g3) hfr hlc hce hsl (by rw [wl]; exact hmo) (fun q0 => ⟨by rw [w1]; exact (hroom q0).1, by rw [w2]; exact (hroom q0).2.1, (hroom q0).2.2.1, (hroom q0).2.2.2⟩)) g2 (by rw [wl]; exact Nat.le_refl _) g3 g4 (fun _ => ⟨g5, rfl, rfl⟩) st
      case ireturn =>
        obtain rfl : len = 1 := by simpa [chk, ilen] using hchk
        obtain ⟨z, S', ps', ml', rk', fr', lc'', rfl, hq', hcase⟩ := ireturn_someL h
        cases hq.symm.trans hq'
        obtain ⟨y, St', rfl, hy, hS'⟩ := SR.i1 hSt
        rcases hcase with ⟨rfl, hr⟩ | ⟨rfl, hr⟩
        · cases hr
          exact ⟨some (.int y), T, A, AO, [], cells, slots, by rw [List.append_nil]; exact X, hR, fun _ _ => rfl, Nat.le_refl _, Nat.le_refl _, Fr.nil _, fun q0 => ⟨(hroom q0).1, (hroom q0).2.1, hmo⟩, fun _ => ⟨rfl, rfl, rfl⟩, ⟨y, rfl, hy⟩, (fun q => by rw [hret] at q; cases q), fun fs hfs => retI' X hx hret hd hfs⟩
        · cases hr
          exact ⟨some (.int (y &&& 1)), T, A, AO, [], cells, slots, by rw [List.append_nil]; exact X, hR, fun _ _ => rfl, Nat.le_refl _, Nat.le_refl _, Fr.nil _, fun q0 => ⟨(hroom q0).1, (hroom q0).2.1, hmo⟩, fun _ => ⟨rfl, rfl, rfl⟩, ⟨_, rfl, by rw [and1_eq, hy]⟩, (fun q => by rw [hret] at q; cases q), fun fs hfs => retN X hx (t := .boolean) hret (by simp) hd hfs⟩
      case lreturn =>
        obtain rfl : len = 1 := by simpa [chk, ilen] using hchk
        obtain ⟨z, S', ps', ml', fr', lc'', rfl, hq', hr⟩ := lreturn_someL h
        cases hq.symm.trans hq'
        cases hr
        obtain ⟨y, St', rfl, hy, hS'⟩ := SR.l1 hSt
        exact ⟨some (.long y), T, A, AO, [], cells, slots, by rw [List.append_nil]; exact X, hR, fun _ _ => rfl, Nat.le_refl _, Nat.le_refl _, Fr.nil _, fun q0 => ⟨(hroom q0).1, (hroom q0).2.1, hmo⟩, fun _ => ⟨rfl, rfl, rfl⟩, ⟨y, rfl, hy⟩, (fun q => by rw [hret] at q; cases q), fun fs hfs => retOut X hx hret rfl (Or.inr (Or.inl ⟨rfl, rfl, y, rfl⟩)) hd hfs⟩
      case return_ =>
        obtain rfl : len = 1 := by simpa [chk, ilen] using hchk
        obtain ⟨ps', ml', fr', lc'', rfl, hq', hr⟩ := return_someL h
        cases hq.symm.trans hq'
        cases hr
        cases St with
        | cons _ _ => exact hSt.elim
        | nil => exact ⟨none, T, A, AO, [], cells, slots, by rw [List.append_nil]; exact X, hR, fun _ _ => rfl, Nat.le_refl _, Nat.le_refl _, Fr.nil _, fun q0 => ⟨(hroom q0).1, (hroom q0).2.1, hmo⟩, fun _ => ⟨rfl, rfl, rfl⟩, rfl, fun _ => rfl, fun fs hfs => X.returnOut hx hret hd hfs⟩
      all_goals cases hsp
end Jvm.OwnMini
namespace Jvm.OwnMini
/-! A plain function's outcome, followed by what the machine does from there, is what the machine does. -/
def Sim {α ρ : Type} (o : Option α) (K : α → Nat → Option ρ) (F : Nat → Option ρ) : Prop := ∀ a, o = some a → ∀ r, (∃ n, K a n = some r) → ∃ n, F n = some r
def Mono {ρ : Type} (F : Nat → Option ρ) : Prop := ∀ n r, F n = some r → F (n + 1) = some r
theorem Mono.le {ρ : Type} {F : Nat → Option ρ} (h : Mono F) {n k : Nat} (hk : n ≤ k) {r : ρ} (hn : F n = some r) : F k = some r := by
  induction hk with
  | refl => exact hn
  | step _ ih => exact h _ _ ih
section
variable {α β ρ ρ1 σ ε : Type} {K : α → Nat → Option ρ} {F : Nat → Option ρ}
theorem Sim.pur (a : α) (K : α → Nat → Option ρ) : Sim (some a) K (K a) := fun b h r hr => by cases h; exact hr
theorem Sim.non : Sim none K F := fun b h => by cases h
theorem Sim.shift (k : Nat) {o : Option α} {G : Nat → Option ρ} (h : ∀ n, F (n + k) = G n) (s : Sim o K G) : Sim o K F := fun a ha r hr => by
  obtain ⟨n, hn⟩ := s a ha r hr
  exact ⟨n + k, (h n).trans hn⟩
theorem Sim.ite {c : Prop} [Decidable c] {x y : Option α} {F G : Nat → Option ρ} (h1 : c → Sim x K F) (h2 : ¬ c → Sim y K G) : Sim (if c then x else y) K (fun n => if c then F n else G n) := by
  by_cases h : c
  · simp only [if_pos h]; exact h1 h
  · simp only [if_neg h]; exact h2 h
theorem Sim.grd {c : Prop} [Decidable c] {x : Option α} {F : Nat → Option ρ} (h1 : c → Sim x K F) : Sim (if c then x else none) K (fun n => if c then F n else none) := Sim.ite h1 (fun _ => Sim.non)
theorem Sim.dv {c : Prop} [Decidable c] {x : Option α} {F : Nat → Option ρ} (h1 : ¬ c → Sim x K F) : Sim (if c then none else x) K (fun n => if c then none else F n) := Sim.ite (fun _ => Sim.non) h1
theorem Sim.bind {f : Option β} {g : β → Option α} {K1 : β → Nat → Option ρ} (h1 : Sim f K1 F) (h2 : ∀ b, Sim (g b) K (K1 b)) : Sim (f.bind g) K F := fun a ha r hr => by
  cases f with
  | none => cases ha
  | some b => exact h1 b rfl r (h2 b a ha r hr)
theorem Sim.jmp {o : Option α} {G : Nat → Option ρ} (s : Sim o K G) (h0 : G 0 = none) (h : ∀ n, F (n + 1) = G (n + 1)) : Sim o K F := fun a ha r hr => by
  obtain ⟨n, hn⟩ := s a ha r hr
  cases n with
  | zero => rw [h0] at hn; cases hn
  | succ n => exact ⟨n + 1, (h n).trans hn⟩
theorem Sim.leaf {a : α} (h0 : K a 0 = none) (h : ∀ n, F (n + 1) = K a (n + 1)) : Sim (some a) K F := Sim.jmp (Sim.pur a K) h0 h
theorem Sim.call {f : Option β} {g : β → Option α} {K1 : β → Nat → Option ρ1} {F1 : Nat → Option ρ1} {F2 : ρ1 → Nat → Option ρ} {v : β → ρ1} (h1 : Sim f K1 F1) (hK : ∀ b n, K1 b n = some (v b)) (m1 : Mono F1) (m2 : ∀ y, Mono (F2 y)) (h2 : ∀ b, Sim (g b) K (F2 (v b))) :
    Sim (f.bind g) K (fun n => (F1 n).bind fun y => F2 y n) := fun a ha r hr => by
  cases f with
  | none => cases ha
  | some b =>
    obtain ⟨n1, hn1⟩ := h1 b rfl (v b) ⟨0, hK b 0⟩
    obtain ⟨n2, hn2⟩ := h2 b a ha r hr
    refine ⟨max n1 n2, ?_⟩
    show (F1 (max n1 n2)).bind _ = _
    rw [m1.le (Nat.le_max_left _ _) hn1]
    exact (m2 _).le (Nat.le_max_right _ _) hn2
/-- a loop: its body says: once more, or out -/
def lp (body : σ → Option (σ ⊕ ε)) : Nat → σ → Option ε
  | 0, _ => none
  | n + 1, s => match body s with
    | none => none
    | some (.inl s') => lp body n s'
    | some (.inr e) => some e
theorem Sim.lp {body : σ → Option (σ ⊕ ε)} {H : σ → Nat → Option ρ} {X : ε → Nat → Option ρ} (hb : ∀ s, Sim (body s) (Sum.elim H X) (H s)) : ∀ N s, Sim (OwnMini.lp body N s) X (H s)
  | 0, s => Sim.non
  | N + 1, s => fun a ha r hr => by
    unfold OwnMini.lp at ha
    cases hbs : body s with
    | none => rw [hbs] at ha; cases ha
    | some x =>
      rw [hbs] at ha
      cases x with
      | inl s' => exact hb s _ hbs r (Sim.lp hb N s' a ha r hr)
      | inr e => cases ha; exact hb s _ hbs r hr
end
/-- more turns than any loop here makes -/
def NN : Nat := 4611686018427387904
end Jvm.OwnMini
namespace Jvm.OwnMini
open Jvm Jvm.ClassFile Sem Op Lib Jvm.Free Jvm.Stand Jvm.LawKit Jvm.RoadKit
/-! More fuel never changes an answer. -/
theorem br_mono {β : Type} {c : ClassFile.Cond} {a b : Int} {x y x' y' : Option β} {r : β} (h1 : x = some r → x' = some r) (h2 : y = some r → y' = some r) (h : br c a b x y = some r) : br c a b x' y' = some r := by
  cases c <;> simp only [br] at h ⊢ <;> split at h <;> rename_i q <;> first | (rw [if_pos q]; first | exact h1 h | exact h2 h) | (rw [if_neg q]; first | exact h1 h | exact h2 h)
theorem tsw_mono {β : Type} (a : Int) : ∀ (lo : Int) (os : List Int) {f f' : Int → Option β} {d d' : Option β} {r : β}, (∀ o, f o = some r → f' o = some r) → (d = some r → d' = some r) → tsw a lo os f d = some r → tsw a lo os f' d' = some r
  | lo, [], f, f', d, d', r, h1, h2, h => h2 h
  | lo, o :: os, f, f', d, d', r, h1, h2, h => by
    unfold tsw at h ⊢
    split at h
    · rename_i q; rw [if_pos q]; exact h1 o h
    · rename_i q; rw [if_neg q]; exact tsw_mono a _ os h1 h2 h
set_option maxHeartbeats 4000000 in
theorem pstep_mono {β : Type} {cst : Nat → Option OV} {i : Instr} {pc len : Nat} {L : OLs} {S : List OV} {k k' : Nat → OLs → List OV → Option β} (hk : ∀ a b c r, k a b c = some r → k' a b c = some r) {r : β} (h : pstep cst i pc len L S k = some r) : pstep cst i pc len L S k' = some r := by
  cases i
  case iconst z =>
    exact hk _ _ _ _ h
  case bipush z =>
    exact hk _ _ _ _ h
  case sipush z =>
    exact hk _ _ _ _ h
  case lconst z =>
    exact hk _ _ _ _ h
  case ldc x =>
    simp only [pstep] at h ⊢
    cases hq : cst x with
    | none => rw [hq] at h; cases h
    | some v =>
      rw [hq] at h
      rcases v with z | z | z
      · exact hk _ _ _ _ h
      · cases h
      · cases h
  case ldc_w x =>
    simp only [pstep] at h ⊢
    cases hq : cst x with
    | none => rw [hq] at h; cases h
    | some v =>
      rw [hq] at h
      rcases v with z | z | z
      · exact hk _ _ _ _ h
      · cases h
      · cases h
  case ldc2_w x =>
    simp only [pstep] at h ⊢
    cases hq : cst x with
    | none => rw [hq] at h; cases h
    | some v =>
      rw [hq] at h
      rcases v with z | z | z
      · cases h
      · exact hk _ _ _ _ h
      · cases h
  case iload x =>
    obtain ⟨z, hg, h⟩ := gi_some h
    simp only [pstep, gi, hg]
    exact hk _ _ _ _ h
  case iload_n x =>
    obtain ⟨z, hg, h⟩ := gi_some h
    simp only [pstep, gi, hg]
    exact hk _ _ _ _ h
  case lload x =>
    obtain ⟨z, hg, h⟩ := gl_some h
    simp only [pstep, gl, hg]
    exact hk _ _ _ _ h
  case lload_n x =>
    obtain ⟨z, hg, h⟩ := gl_some h
    simp only [pstep, gl, hg]
    exact hk _ _ _ _ h
  case aload x =>
    obtain ⟨z, hg, h⟩ := gr_some h
    simp only [pstep, gr, hg]
    exact hk _ _ _ _ h
  case aload_n x =>
    obtain ⟨z, hg, h⟩ := gr_some h
    simp only [pstep, gr, hg]
    exact hk _ _ _ _ h
  case istore x =>
    obtain ⟨z, S', rfl, h⟩ := pi1_some h
    obtain ⟨h0, h⟩ := inL_some h
    simp only [pstep, pi1, inL, if_pos h0]
    exact hk _ _ _ _ h
  case istore_n x =>
    obtain ⟨z, S', rfl, h⟩ := pi1_some h
    obtain ⟨h0, h⟩ := inL_some h
    simp only [pstep, pi1, inL, if_pos h0]
    exact hk _ _ _ _ h
  case lstore x =>
    obtain ⟨z, S', rfl, h⟩ := pl1_some h
    obtain ⟨h0, h⟩ := inL_some h
    simp only [pstep, pl1, inL, if_pos h0]
    exact hk _ _ _ _ h
  case lstore_n x =>
    obtain ⟨z, S', rfl, h⟩ := pl1_some h
    obtain ⟨h0, h⟩ := inL_some h
    simp only [pstep, pl1, inL, if_pos h0]
    exact hk _ _ _ _ h
  case astore x =>
    obtain ⟨z, S', rfl, h⟩ := pr1_some h
    obtain ⟨h0, h⟩ := inL_some h
    simp only [pstep, pr1, inL, if_pos h0]
    exact hk _ _ _ _ h
  case astore_n x =>
    obtain ⟨z, S', rfl, h⟩ := pr1_some h
    obtain ⟨h0, h⟩ := inL_some h
    simp only [pstep, pr1, inL, if_pos h0]
    exact hk _ _ _ _ h
  case iinc x z =>
    obtain ⟨a, hg, h⟩ := gi_some h
    obtain ⟨h0, h⟩ := inL_some h
    simp only [pstep, gi, hg, inL, if_pos h0]
    exact hk _ _ _ _ h
  case iadd =>
    obtain ⟨a, b', S', rfl, h⟩ := pi2_some h
    exact hk _ _ _ _ h
  case isub =>
    obtain ⟨a, b', S', rfl, h⟩ := pi2_some h
    exact hk _ _ _ _ h
  case imul =>
    obtain ⟨a, b', S', rfl, h⟩ := pi2_some h
    exact hk _ _ _ _ h
  case iand =>
    obtain ⟨a, b', S', rfl, h⟩ := pi2_some h
    exact hk _ _ _ _ h
  case ior =>
    obtain ⟨a, b', S', rfl, h⟩ := pi2_some h
    exact hk _ _ _ _ h
  case ixor =>
    obtain ⟨a, b', S', rfl, h⟩ := pi2_some h
    exact hk _ _ _ _ h
  case ishl =>
    obtain ⟨a, b', S', rfl, h⟩ := pi2_some h
    exact hk _ _ _ _ h
  case ishr =>
    obtain ⟨a, b', S', rfl, h⟩ := pi2_some h
    exact hk _ _ _ _ h
  case iushr =>
    obtain ⟨a, b', S', rfl, h⟩ := pi2_some h
    exact hk _ _ _ _ h
  case ladd =>
    obtain ⟨a, b', S', rfl, h⟩ := pl2_some h
    exact hk _ _ _ _ h
  case lsub =>
    obtain ⟨a, b', S', rfl, h⟩ := pl2_some h
    exact hk _ _ _ _ h
  case lmul =>
    obtain ⟨a, b', S', rfl, h⟩ := pl2_some h
    exact hk _ _ _ _ h
  case land =>
    obtain ⟨a, b', S', rfl, h⟩ := pl2_some h
    exact hk _ _ _ _ h
  case lor =>
    obtain ⟨a, b', S', rfl, h⟩ := pl2_some h
    exact hk _ _ _ _ h
  case lxor =>
    obtain ⟨a, b', S', rfl, h⟩ := pl2_some h
    exact hk _ _ _ _ h
  case lcmp =>
    obtain ⟨a, b', S', rfl, h⟩ := pl2_some h
    exact hk _ _ _ _ h
  case lshl =>
    obtain ⟨a, b', S', rfl, h⟩ := pli_some h
    exact hk _ _ _ _ h
  case lshr =>
    obtain ⟨a, b', S', rfl, h⟩ := pli_some h
    exact hk _ _ _ _ h
  case lushr =>
    obtain ⟨a, b', S', rfl, h⟩ := pli_some h
    exact hk _ _ _ _ h
  case idiv =>
    obtain ⟨a, b', S', rfl, h⟩ := pi2_some h
    simp only [pstep, pi2] at h ⊢
    by_cases hz : b' = 0
    · rw [if_pos hz] at h; cases h
    · rw [if_neg hz] at h ⊢; exact hk _ _ _ _ h
  case irem =>
    obtain ⟨a, b', S', rfl, h⟩ := pi2_some h
    simp only [pstep, pi2] at h ⊢
    by_cases hz : b' = 0
    · rw [if_pos hz] at h; cases h
    · rw [if_neg hz] at h ⊢; exact hk _ _ _ _ h
  case ldiv =>
    obtain ⟨a, b', S', rfl, h⟩ := pl2_some h
    simp only [pstep, pl2] at h ⊢
    by_cases hz : b' = 0
    · rw [if_pos hz] at h; cases h
    · rw [if_neg hz] at h ⊢; exact hk _ _ _ _ h
  case lrem =>
    obtain ⟨a, b', S', rfl, h⟩ := pl2_some h
    simp only [pstep, pl2] at h ⊢
    by_cases hz : b' = 0
    · rw [if_pos hz] at h; cases h
    · rw [if_neg hz] at h ⊢; exact hk _ _ _ _ h
  case ineg =>
    obtain ⟨a, S', rfl, h⟩ := pi1_some h
    exact hk _ _ _ _ h
  case i2l =>
    obtain ⟨a, S', rfl, h⟩ := pi1_some h
    exact hk _ _ _ _ h
  case i2b =>
    obtain ⟨a, S', rfl, h⟩ := pi1_some h
    exact hk _ _ _ _ h
  case lneg =>
    obtain ⟨a, S', rfl, h⟩ := pl1_some h
    exact hk _ _ _ _ h
  case l2i =>
    obtain ⟨a, S', rfl, h⟩ := pl1_some h
    exact hk _ _ _ _ h
  case goto o =>
    exact hk _ _ _ _ h
  case if_icmp c o =>
    obtain ⟨a, b', S', rfl, h⟩ := pi2_some h
    exact br_mono (hk _ _ _ _) (hk _ _ _ _) h
  case ifCond c o =>
    obtain ⟨a, S', rfl, h⟩ := pi1_some h
    exact br_mono (hk _ _ _ _) (hk _ _ _ _) h
  case tableswitch d lo hi os =>
    obtain ⟨a, S', rfl, h⟩ := pi1_some h
    exact tsw_mono _ _ _ (fun o => hk _ _ _ _) (hk _ _ _ _) h
  case dup =>
    obtain ⟨v, S', rfl, hv, h⟩ := dup_some h
    rcases v with z | z | z
    · exact hk _ _ _ _ h
    · cases hv
    · exact hk _ _ _ _ h
  case pop =>
    obtain ⟨v, S', rfl, hv, h⟩ := pop_some h
    rcases v with z | z | z
    · exact hk _ _ _ _ h
    · cases hv
    · exact hk _ _ _ _ h
  case dup2 =>
    rcases dup2_some h with ⟨z, S', rfl, h⟩ | ⟨u, v, S', rfl, hu, hv, h⟩
    · exact hk _ _ _ _ h
    · rcases u with z | z | z
      · rcases v with y | y | y
        · exact hk _ _ _ _ h
        · cases hv
        · exact hk _ _ _ _ h
      · cases hu
      · rcases v with y | y | y
        · exact hk _ _ _ _ h
        · cases hv
        · exact hk _ _ _ _ h
  all_goals cases h
theorem cond_mono {α : Type} {b : Bool} {x x' : Option α} {r : α} (h1 : x = some r → x' = some r) (h : cond b x none = some r) : cond b x' none = some r := by
  cases b
  · cases h
  · exact h1 h
theorem ite_mono {α : Type} {c : Prop} [Decidable c] {x x' : Option α} {r : α} (h1 : x = some r → x' = some r) (h : (if c then x else none) = some r) : (if c then x' else none) = some r := by
  by_cases q : c
  · rw [if_pos q] at h ⊢; exact h1 h
  · rw [if_neg q] at h; cases h
theorem bind_mono {α β : Type} {x x' : Option α} {f f' : α → Option β} {r : β} (h1 : ∀ a, x = some a → x' = some a) (h2 : ∀ a, f a = some r → f' a = some r) (h : x.bind f = some r) : x'.bind f' = some r := by
  obtain ⟨a, q1, q2⟩ := Option.bind_eq_some_iff.mp h
  rw [h1 a q1]; exact h2 a q2
theorem ald_mono {P : PT} {kd : Nat → Bool} {S : List OV} {t : Nat} {f f' : Nat → Int → List OV → RT} {r : Option OV × Nat × OMem} (hf : ∀ a b c, f a b c = some r → f' a b c = some r) (h : ald P kd S t f = some r) : ald P kd S t f' = some r := by
  unfold ald at h ⊢
  split at h
  · split at h
    · rename_i hl
      try simp only [hl]
      exact cond_mono (ite_mono (hf _ _ _)) h
    · cases h
  · cases h
theorem asi_mono {P : PT} {kd : Nat → Bool} {S : List OV} {t : Nat} {f f' : Nat → Nat → Int → Int → List OV → RT} {r : Option OV × Nat × OMem} (hf : ∀ a b c d e, f a b c d e = some r → f' a b c d e = some r) (h : asi P kd S t f = some r) : asi P kd S t f' = some r := by
  unfold asi at h ⊢
  split at h
  · split at h
    · rename_i hl
      try simp only [hl]
      exact cond_mono (ite_mono (hf _ _ _ _ _)) h
    · cases h
  · cases h
theorem asl_mono {P : PT} {kd : Nat → Bool} {S : List OV} {t : Nat} {f f' : Nat → Int → Int → List OV → RT} {r : Option OV × Nat × OMem} (hf : ∀ a b c d, f a b c d = some r → f' a b c d = some r) (h : asl P kd S t f = some r) : asl P kd S t f' = some r := by
  unfold asl at h ⊢
  split at h
  · split at h
    · rename_i hl
      try simp only [hl]
      exact cond_mono (ite_mono (hf _ _ _ _)) h
    · cases h
  · cases h
set_option maxHeartbeats 4000000 in
theorem stepI_mono {P : PT} {k k' : Nat → Nat → OLs → List OV → Nat → OMem → RT} (hk : ∀ a b c d e f r, k a b c d e f = some r → k' a b c d e f = some r) {q pc len t : Nat} {L : OLs} {S : List OV} {m : OMem} {i : Instr} {r : Option OV × Nat × OMem} (h : stepI P k q pc L S t m i len = some r) : stepI P k' q pc L S t m i len = some r := by
  cases hsp : isSpec i with
  | false =>
    simp only [stepI, hsp, cond_false] at h ⊢
    exact pstep_mono (fun _ _ _ _ => hk _ _ _ _ _ _ _) h
  | true =>
  simp only [stepI, hsp, cond_true] at h ⊢
  cases i
  case getfield x =>
    simp only [stepS] at h ⊢
    split at h
    · split at h
      · rename_i hf; (try simp only [hf]); exact cond_mono (hk _ _ _ _ _ _ _) h
      · rename_i hf; (try simp only [hf]); exact hk _ _ _ _ _ _ _ h
      · rename_i hf; (try simp only [hf]); exact hk _ _ _ _ _ _ _ h
      · rename_i hf; (try simp only [hf]); exact hk _ _ _ _ _ _ _ h
      · cases h
    · cases h
  case putfield x =>
    simp only [stepS] at h ⊢
    split at h
    · rename_i hf
      split at h
      · (try simp only [hf]); exact cond_mono (hk _ _ _ _ _ _ _) h
      · cases h
    · rename_i hf
      split at h
      · (try simp only [hf]); exact cond_mono (hk _ _ _ _ _ _ _) h
      · cases h
    · rename_i hf
      split at h
      · (try simp only [hf]); exact cond_mono (hk _ _ _ _ _ _ _) h
      · cases h
    · rename_i hf
      split at h
      · (try simp only [hf]); exact cond_mono (hk _ _ _ _ _ _ _) h
      · cases h
    · cases h
  case iaload => exact ald_mono (fun _ _ _ => hk _ _ _ _ _ _ _) h
  case baload => exact ald_mono (fun _ _ _ => hk _ _ _ _ _ _ _) h
  case laload => exact ald_mono (fun _ _ _ => hk _ _ _ _ _ _ _) h
  case iastore => exact asi_mono (fun _ _ _ _ _ => hk _ _ _ _ _ _ _) h
  case bastore => exact asi_mono (fun _ _ _ _ _ => hk _ _ _ _ _ _ _) h
  case lastore => exact asl_mono (fun _ _ _ _ => hk _ _ _ _ _ _ _) h
  case arraylength =>
    simp only [stepS] at h ⊢
    split at h
    · split at h
      · rename_i hf; (try simp only [hf]); exact cond_mono (hk _ _ _ _ _ _ _) h
      · cases h
    · cases h
  case newarray a =>
    simp only [stepS] at h ⊢
    split at h
    · split at h
      · rename_i hf; (try simp only [hf]); exact cond_mono (ite_mono (hk _ _ _ _ _ _ _)) h
      · cases h
    · cases h
  case invokespecial x =>
    simp only [stepS] at h ⊢
    split at h
    · split at h
      · rename_i hf; (try simp only [hf]); exact cond_mono (hk _ _ _ _ _ _ _) h
      · cases h
    · cases h
  case invokevirtual x =>
    simp only [stepS] at h ⊢
    split at h
    · rename_i h0
      split at h
      · rename_i h1 h2
        split at h
        · rename_i h3
          try simp only [h0, h1, h2, h3]
          exact cond_mono (bind_mono (fun _ => hk _ _ _ _ _ _ _) (fun _ => hk _ _ _ _ _ _ _)) h
        · cases h
      · cases h
    · cases h
  case ireturn => exact h
  case lreturn => exact h
  case return_ => exact h
  all_goals cases hsp
theorem runP_mono {P : PT} (q pc : Nat) (L : OLs) (S : List OV) (t : Nat) (m : OMem) : Mono (fun n => runP P n q pc L S t m) := by
  intro n
  show ∀ r, runP P n q pc L S t m = some r → runP P (n + 1) q pc L S t m = some r
  induction n generalizing q pc L S t m with
  | zero => intro r h; cases h
  | succ n ih =>
    intro r h
    have h : stepP P (runP P n) q pc L S t m = some r := h
    show stepP P (runP P (n + 1)) q pc L S t m = some r
    unfold stepP at h ⊢
    split at h
    · rename_i hc
      try simp only [hc]
      exact stepI_mono (fun a b c d e f => ih a b c d e f) h
    · cases h
set_option maxHeartbeats 4000000 in
theorem stepLI_mono {P : PT} {Q : LT} {T mo : Nat} {sc : ScT} {kP kP' : Nat → Nat → OLs → List OV → Nat → OMem → RT} {k k' : Nat → Nat → OLs → List OV → OWd → RTL} (hp : ∀ a b c d e f r, kP a b c d e f = some r → kP' a b c d e f = some r) (hk : ∀ a b c d e r, k a b c d e = some r → k' a b c d e = some r) {q pc len : Nat} {L : OLs} {S : List OV} {W : OWd} {i : Instr} {r : Option OV × OWd}
    (h : stepLI P Q T mo sc kP k q pc L S W i len = some r) : stepLI P Q T mo sc kP' k' q pc L S W i len = some r := by
  cases hsp : isSpecL i with
  | false =>
    simp only [stepLI, hsp, cond_false] at h ⊢
    exact pstep_mono (fun _ _ _ _ => hk _ _ _ _ _ _) h
  | true =>
  simp only [stepLI, hsp, cond_true] at h ⊢
  cases i
  case new x => exact cond_mono (hk _ _ _ _ _ _) h
  case arraylength =>
    simp only [stepLS] at h ⊢
    split at h
    · exact cond_mono (hk _ _ _ _ _ _) h
    · cases h
  case iaload =>
    simp only [stepLS] at h ⊢
    split at h
    · exact cond_mono (ite_mono (hk _ _ _ _ _ _)) h
    · cases h
  case invokespecial x =>
    simp only [stepLS] at h ⊢
    split at h
    · rename_i h1 h2
      split at h
      · rename_i h3
        split at h
        · rename_i h4
          try simp only [h1, h2, h3, h4]
          exact cond_mono (bind_mono (fun _ => hp _ _ _ _ _ _ _) (fun _ => cond_mono (hk _ _ _ _ _ _))) h
        · cases h
      · cases h
    · cases h
  case invokevirtual x =>
    simp only [stepLS] at h ⊢
    split at h
    · rename_i h0
      split at h
      · rename_i h1 h2
        split at h
        · rename_i h3
          split at h
          · rename_i h4
            try simp only [h0, h1, h2, h3, h4]
            exact cond_mono (bind_mono (fun _ => hp _ _ _ _ _ _ _) (fun _ => hk _ _ _ _ _ _)) h
          · cases h
        · cases h
      · cases h
    · cases h
  case invokestatic x =>
    simp only [stepLS] at h ⊢
    split at h
    · rename_i h0
      split at h
      · rename_i h1 h2
        split at h
        · rename_i h3
          try simp only [h0, h1, h2, h3]
          exact cond_mono (bind_mono (fun _ => hk _ _ _ _ _ _) (fun _ => hk _ _ _ _ _ _)) h
        · cases h
      · cases h
    · cases h
  case ireturn => exact h
  case lreturn => exact h
  case return_ => exact h
  all_goals cases hsp
theorem runL_mono {P : PT} {Q : LT} {T mo : Nat} {sc : ScT} (q pc : Nat) (L : OLs) (S : List OV) (W : OWd) : Mono (fun n => runL P Q T mo sc n q pc L S W) := by
  intro n
  show ∀ r, runL P Q T mo sc n q pc L S W = some r → runL P Q T mo sc (n + 1) q pc L S W = some r
  induction n generalizing q pc L S W with
  | zero => intro r h; cases h
  | succ n ih =>
    intro r h
    have h : stepL P Q T mo sc (runP P n) (runL P Q T mo sc n) q pc L S W = some r := h
    show stepL P Q T mo sc (runP P (n + 1)) (runL P Q T mo sc (n + 1)) q pc L S W = some r
    unfold stepL at h ⊢
    split at h
    · rename_i hc
      try simp only [hc]
      exact stepLI_mono (fun a b c d e f => runP_mono a b c d e f n) (fun a b c d e => ih a b c d e) h
    · cases h
theorem cond_Mono {α : Type} {b : Bool} {F : Nat → Option α} (h : Mono F) : Mono (fun n => cond b (F n) none) := fun n r hn => by
  cases b
  · cases hn
  · exact h n r hn
end Jvm.OwnMini
namespace Jvm.OwnMini
open Jvm Jvm.ClassFile Sem Op Lib Jvm.Free Jvm.Stand Jvm.LawKit Jvm.RoadKit
/-! Statements on all entries of a table, from its finite list. -/
def AllL {α : Type} (Q : Nat → α → Prop) : List (Nat × α) → Prop
  | [] => True
  | x :: L => Q x.1 x.2 ∧ AllL Q L
def AllN (Q : Nat → Prop) : Nat → Prop
  | 0 => True
  | n + 1 => AllN Q n ∧ Q n
theorem allN {Q : Nat → Prop} : ∀ {N : Nat}, AllN Q N → ∀ q, q < N → Q q
  | 0, _, q, h => by omega
  | N + 1, ⟨h1, h2⟩, q, h => by
    by_cases e : q = N
    · subst e; exact h2
    · exact allN h1 q (by omega)
theorem cond_ge {α : Type} {N x : Nat} {y : Option α} (h : N ≤ x) : cond (Nat.blt x N) y none = none := by
  have : Nat.blt x N = false := by
    cases hb : Nat.blt x N with
    | false => rfl
    | true => exact absurd (Nat.le_of_ble_eq_true hb) (by omega)
  rw [this]; rfl
theorem allL_mem {α : Type} {Q : Nat → α → Prop} : ∀ {L : List (Nat × α)}, AllL Q L → ∀ x e, (x, e) ∈ L → Q x e
  | [], _, x, e, h => by cases h
  | y :: L, ⟨h1, h2⟩, x, e, h => by
    cases h with
    | head => exact h1
    | tail _ h => exact allL_mem h2 x e h
theorem tab_all {α : Type} [DecidableEq α] {f : Nat → Option α} (N : Nat) (L : List (Nat × α)) (hN : ∀ x, N ≤ x → f x = none) (h : ((List.range N).all fun x => match f x with | none => true | some e => L.any fun y => decide (y = (x, e))) = true) {Q : Nat → α → Prop} (hQ : AllL Q L) : ∀ x e, f x = some e → Q x e := by
  intro x e hx
  by_cases hlt : x < N
  · have h1 := List.all_eq_true.mp h x (List.mem_range.mpr hlt)
    rw [hx] at h1
    obtain ⟨y, hy, h2⟩ := List.any_eq_true.mp h1
    have h3 := of_decide_eq_true h2
    subst h3
    exact allL_mem hQ x e hy
  · rw [hN x (by omega)] at hx; cases hx
theorem code_all {f : Nat → Option (Instr × Nat)} {bytes : ByteArray} (N : Nat) (hN : ∀ x, N ≤ x → f x = none) (h : ((List.range N).all fun pc => match f pc with | none => true | some (i, len) => decide (decode bytes pc = .ok (i, len)) && chk pc i len) = true) : ∀ pc i len, f pc = some (i, len) → decode bytes pc = .ok (i, len) ∧ chk pc i len = true := by
  intro pc i len hx
  by_cases hlt : pc < N
  · have h1 := List.all_eq_true.mp h pc (List.mem_range.mpr hlt)
    rw [hx] at h1
    simp only [Bool.and_eq_true, decide_eq_true_eq] at h1
    exact h1
  · rw [hN pc (by omega)] at hx; cases hx
/-- the fields by their numbers -/
def fkdOf (f : Nat → Option (Nat × Nat × Bool)) : FK := fun z => match z with
  | .ofNat n => f n
  | .negSucc _ => none
def fnmOf (f : Nat → String × String) : FN := fun z => f z.toNat
theorem names_all {f : Nat → Option (Nat × Nat × Bool)} {g : Nat → String × String} (N : Nat) (hN : ∀ x, N ≤ x → f x = none) (h : ((List.range N).all fun n => (List.range N).all fun n' => Nat.beq n n' || (match f n, f n' with | some _, some _ => decide ((g n).1 ≠ (g n').1) | _, _ => true)) = true) :
    ∀ z z' x x', fkdOf f z = some x → fkdOf f z' = some x' → z ≠ z' → (fnmOf g z).1 ≠ (fnmOf g z').1 := by
  intro z z' x x' h1 h2 hne
  match z, z', h1, h2 with
  | .ofNat n, .ofNat n', h1, h2 =>
    have h1 : f n = some x := h1
    have h2 : f n' = some x' := h2
    have l1 : n < N := Nat.lt_of_not_le fun q => by rw [hN n q] at h1; cases h1
    have l2 : n' < N := Nat.lt_of_not_le fun q => by rw [hN n' q] at h2; cases h2
    have q := List.all_eq_true.mp (List.all_eq_true.mp h n (List.mem_range.mpr l1)) n' (List.mem_range.mpr l2)
    rw [h1, h2] at q
    simp only [Bool.or_eq_true, decide_eq_true_eq] at q
    rcases q with q | q
    · exact absurd (congrArg Int.ofNat (Nat.eq_of_beq_eq_true q)) hne
    · exact q
theorem ptrs_all {f : Nat → Option (Nat × Nat × Bool)} (N : Nat) (hN : ∀ x, N ≤ x → f x = none) (h : ((List.range N).all fun n => (List.range N).all fun n' => Nat.beq n n' || (match f n, f n' with | some (0, j, _), some (0, j', _) => decide (j ≠ j') | _, _ => true)) = true) :
    ∀ z z' j b b', fkdOf f z = some (0, j, b) → fkdOf f z' = some (0, j, b') → z = z' := by
  intro z z' j b b' h1 h2
  match z, z', h1, h2 with
  | .ofNat n, .ofNat n', h1, h2 =>
    have h1 : f n = some (0, j, b) := h1
    have h2 : f n' = some (0, j, b') := h2
    have l1 : n < N := Nat.lt_of_not_le fun q => by rw [hN n q] at h1; cases h1
    have l2 : n' < N := Nat.lt_of_not_le fun q => by rw [hN n' q] at h2; cases h2
    have q := List.all_eq_true.mp (List.all_eq_true.mp h n (List.mem_range.mpr l1)) n' (List.mem_range.mpr l2)
    rw [h1, h2] at q
    simp only [Bool.or_eq_true, decide_eq_true_eq] at q
    rcases q with q | q
    · rw [Nat.eq_of_beq_eq_true q]
    · exact absurd rfl q
theorem fkd_all {f : Nat → Option (Nat × Nat × Bool)} {Q : Int → Nat → Nat → Bool → Prop} (h : ∀ n e, f n = some e → Q (Int.ofNat n) e.1 e.2.1 e.2.2) : ∀ z kd j b, fkdOf f z = some (kd, j, b) → Q z kd j b := by
  intro z kd j b hz
  match z, hz with
  | .ofNat n, hz => exact h n _ hz
/-- the law, from the case's start -/
theorem lawMet {P : PT} {Q : LT} {C own : String} {fnm : FN} {fkd : FK} {nm lnm : Nat → MethodName} {bys lbys : Nat → ByteArray} {nA nf mo : Nat} {a0 : Array Value} {Z : State} {sc : ScT} (HT : TabP P C fnm fkd nm bys nA nf a0 Z) (HL : TabL P Q C own nm lnm lbys a0 Z) (hA1 : 1 ≤ nA) (l : Launch)
    {x : MethodName} (hxc : x.cls = own) {ps : List Nat} {ml fr lc : Nat} (hq : linf Q 0 = some (ps, ml, 2, fr, lc)) {n : Nat} {as : List OV} {W' : OWd} (hrun : runL P Q (2 * nA) mo sc n 0 0 (initL as ml) [] [] = some (some (vi 1), W')) (hsz : (initL as ml).length ≤ ml)
    (ws : List Jvm.Cond) {rm : Room} (hfr : fr ≤ rm.frames) (hlc : lc ≤ rm.locals) (hce : mo * (1 + nA) ≤ rm.cells) (hsl : mo * (nf + psum P nA) ≤ rm.slots) {h : Heap} {n0 : Nat} (hn0 : n0 ≤ h.size) {A : Nat → Addr} (hs : ScR Z h n0 (A 0) sc) {vals : List Value} (hv : SR A 0 as vals) :
    MetFree l x (head1 (Jvm.Cond.code x (lbys 0) ml (some .boolean) :: ws) rm) (fun a U => a = vals.toArray ∧ Z.Warmed39 U.vm ∧ U.heap = h) (fun _ _ _ _ _ => True) (fun _ U o U' => ∃ L, o = .returned (some (.int 1)) ∧ Fr n0 L ∧ FrameEnd U o U' L rm.cells rm.slots) := by
  have HL' := HL
  obtain ⟨-, -, -, -, -, -, -, hpn, -⟩ := HL'
  refine MetFree.of_bodySF (plainFor_of_name (by rw [hxc]; exact hpn)) hisR ?_
  intro p e s m' args below meth c s₁ Bd hml0 hP hK
  obtain ⟨rfl, hZ, hh⟩ := hP
  have X0 := Stand.of_body Bd
  have e0 : s₁.heap = h := by rw [← hh, Bd.state]; rfl
  have hown : s.vm.findClass own = some m'.cls := by rw [← hxc]; exact findClass_of_methodNamed Bd.named
  have hL := entry_rel (n := ml) hv
  have hz : (argsToLocals vals.toArray ml).size = ml := by
    rw [← hL.1]
    refine Nat.le_antisymm hsz ?_
    simp only [initL, List.length_append, List.length_replicate]; omega
  have hRW : RepW P C fnm fkd Z sc s₁.heap A (fun _ _ => 0) n0 [] := by
    rw [e0]
    exact ⟨fun k t m q => (by cases q), fun k k' t m t' m2 j j' q => (by cases q), hs⟩
  obtain ⟨v, T', A', AO', lw, cells', slots', h1, h2, h3, h4, h5, h6, h7, h8, h9, h10, h11⟩ := soundL HT HL hA1 l n 0 0 _ [] [] _ W' hrun ps ml 2 fr lc hq p e _ s m' _ below meth c s₁ [] 0 0 A (fun _ _ => 0) (argsToLocals vals.toArray ml) [] n0 X0 Bd.exec hZ hown Bd.bytes hml0 Bd.returns
    hRW hL trivial hz (by rw [e0]; exact hn0) hfr hlc (Nat.zero_le _) (Nat.zero_le _) (Nat.zero_le _) (fun _ => ⟨Nat.zero_le _, Nat.zero_le _, hce, hsl⟩)
  obtain ⟨b1, b2, b3⟩ := h7 rfl
  obtain ⟨y, rfl, hy⟩ := h9
  obtain rfl : y = 1 := Int32.toInt_inj.mp hy
  obtain ⟨fs, hr, hrun', hended, hW, hsame⟩ := h1.leave (v := some (.int 1)) h10
  have d1 := cW_le 1 nA W'
  have d2 := cW_le nf (psum P nA) W'
  have d3 : W'.length * (1 + nA) ≤ mo * (1 + nA) := Nat.mul_le_mul_right _ b3
  have d4 : W'.length * (nf + psum P nA) ≤ mo * (nf + psum P nA) := Nat.mul_le_mul_right _ b3
  exact ⟨_, _, h11 fs hr, hrun', hended, lw, rfl, h6, ⟨_, rfl⟩, hW, hsame.mono (by omega) (by omega)⟩
end Jvm.OwnMini
namespace Jvm.OwnMini
/-! Reasoning on the plain functions. -/
def Ok {α : Type} (o : Option α) (Q : α → Prop) : Prop := ∃ a, o = some a ∧ Q a
section
variable {α β σ ε : Type} {Q : α → Prop}
theorem Ok.ret {a : α} (h : Q a) : Ok (some a) Q := ⟨a, rfl, h⟩
theorem Ok.mono {o : Option α} {P : α → Prop} (h : Ok o P) (h2 : ∀ a, P a → Q a) : Ok o Q := by
  obtain ⟨a, e, q⟩ := h; exact ⟨a, e, h2 a q⟩
theorem Ok.bind {f : Option β} {g : β → Option α} {P : β → Prop} (h : Ok f P) (h2 : ∀ b, P b → Ok (g b) Q) : Ok (f.bind g) Q := by
  obtain ⟨a, e, q⟩ := h
  obtain ⟨c, e2, q2⟩ := h2 a q
  exact ⟨c, by rw [e]; exact e2, q2⟩
theorem Ok.bindE {f : Option β} {g : β → Option α} {b : β} (h : f = some b) (h2 : Ok (g b) Q) : Ok (f.bind g) Q := by
  rw [h]; exact h2
theorem Ok.ite {c : Prop} [Decidable c] {x y : Option α} (h1 : c → Ok x Q) (h2 : ¬ c → Ok y Q) : Ok (if c then x else y) Q := by
  by_cases h : c
  · rw [if_pos h]; exact h1 h
  · rw [if_neg h]; exact h2 h
theorem Ok.pos {c : Prop} [Decidable c] {x y : Option α} (h : c) (h1 : Ok x Q) : Ok (if c then x else y) Q := by rw [if_pos h]; exact h1
theorem Ok.neg {c : Prop} [Decidable c] {x y : Option α} (h : ¬ c) (h1 : Ok y Q) : Ok (if c then x else y) Q := by rw [if_neg h]; exact h1
theorem Ok.lp {body : σ → Option (σ ⊕ ε)} {I : σ → Prop} {μ : σ → Nat} {Qx : ε → Prop} (h : ∀ s, I s → Ok (body s) (fun x => match x with | .inl s' => I s' ∧ μ s' < μ s | .inr e => Qx e)) : ∀ (n : Nat) (s : σ), I s → μ s < n → Ok (OwnMini.lp body n s) Qx
  | 0, s, _, hn => by omega
  | n + 1, s, hI, hn => by
    obtain ⟨x, e, q⟩ := h s hI
    unfold OwnMini.lp
    rw [e]
    cases x with
    | inl s' => exact Ok.lp h n s' q.1 (by have := q.2; omega)
    | inr e' => exact ⟨e', rfl, q⟩
/-- one turn by hand -/
theorem lp_more {body : σ → Option (σ ⊕ ε)} {n : Nat} {s s' : σ} (h : body s = some (.inl s')) : lp body (n + 1) s = lp body n s' := by
  show (match body s with | none => none | some (.inl s') => lp body n s' | some (.inr e) => some e) = _
  rw [h]
theorem lp_out {body : σ → Option (σ ⊕ ε)} {n : Nat} {s : σ} {e : ε} (h : body s = some (.inr e)) : lp body (n + 1) s = some e := by
  show (match body s with | none => none | some (.inl s') => lp body n s' | some (.inr e) => some e) = _
  rw [h]
end
theorem NN_eq : NN = 4611686018427387904 := rfl
theorem w32_id {z : Int} (h : -2147483648 ≤ z ∧ z < 2147483648) : w32 z = z := by unfold w32; omega
theorem w64_id {z : Int} (h : -9223372036854775808 ≤ z ∧ z < 9223372036854775808) : w64 z = z := by unfold w64; omega
theorem sto_at (m : OMem) (k : Nat) (i z : Int) : sto m k i z k i = z := by simp [sto]
theorem sto_k (m : OMem) {k k' : Nat} (i z i' : Int) (h : k' ≠ k) : sto m k i z k' i' = m k' i' := by simp [sto, h]
theorem sto_i (m : OMem) (k k' : Nat) {i i' : Int} (z : Int) (h : i' ≠ i) : sto m k i z k' i' = m k' i' := by simp [sto, h]
end Jvm.OwnMini
namespace Jvm.OwnMini
section
variable {α β σ ε : Type} {Q : α → Prop}
theorem Ok.bind' {f : Option β} {g : β → Option α} (h : Ok f (fun b => Ok (g b) Q)) : Ok (f.bind g) Q := Ok.bind h (fun _ h => h)
theorem Ok.grd {c : Prop} [Decidable c] {x : Option α} (h : c) (h1 : Ok x Q) : Ok (if c then x else none) Q := Ok.pos h h1
theorem Ok.lp1 {body : σ → Option (σ ⊕ α)} {n : Nat} {s : σ} (h : Ok (body s) (fun x => match x with | .inl s' => Ok (OwnMini.lp body n s') Q | .inr e => Q e)) : Ok (OwnMini.lp body (n + 1) s) Q := by
  obtain ⟨x, e, q⟩ := h
  unfold OwnMini.lp
  rw [e]
  cases x with
  | inl s' => exact q
  | inr e' => exact ⟨e', rfl, q⟩
theorem Ok.lpNN {body : σ → Option (σ ⊕ α)} {s : σ} (h : Ok (body s) (fun x => match x with | .inl s' => Ok (OwnMini.lp body 4611686018427387903 s') Q | .inr e => Q e)) : Ok (OwnMini.lp body NN s) Q := Ok.lp1 (n := 4611686018427387903) h
theorem Ok.loop {body : σ → Option (σ ⊕ α)} {s : σ} (I : σ → Prop) (μ : σ → Nat) (hI : I s) (hμ : μ s < 4611686018427387904) (h : ∀ s, I s → Ok (body s) (fun x => match x with | .inl s' => I s' ∧ μ s' < μ s | .inr e => Q e)) : Ok (OwnMini.lp body NN s) Q :=
  Ok.lp (Qx := Q) (fun s hs => by obtain ⟨x, e, q⟩ := h s hs; exact ⟨x, e, by cases x <;> exact q⟩) NN s hI hμ
end
theorem Ok.law {o : Option (Int × OWd)} (h : Ok o (fun r => r.1 = 1)) : ∃ W, o = some (1, W) := by
  obtain ⟨⟨a, W⟩, e, q⟩ := h
  cases q
  exact ⟨W, e⟩
theorem w32_rng (z : Int) : -2147483648 ≤ w32 z ∧ w32 z < 2147483648 := by unfold w32; omega
theorem w32_al (a b : Int) : w32 (w32 a + b) = w32 (a + b) := by unfold w32; omega
theorem w32_ar (a b : Int) : w32 (a + w32 b) = w32 (a + b) := by unfold w32; omega
theorem w32_sl (a b : Int) : w32 (w32 a - b) = w32 (a - b) := by unfold w32; omega
theorem w32_sr (a b : Int) : w32 (a - w32 b) = w32 (a - b) := by unfold w32; omega
theorem w32_m4 (a : Int) : w32 (w32 a * 4) = w32 (a * 4) := by unfold w32; omega
theorem w32_m6 (a : Int) : w32 (w32 a * 6) = w32 (a * 6) := by unfold w32; omega
theorem w32_m10 (a : Int) : w32 (w32 a * 10) = w32 (a * 10) := by unfold w32; omega
theorem w32_m16 (a : Int) : w32 (w32 a * 16) = w32 (a * 16) := by unfold w32; omega
theorem w32_m24 (a : Int) : w32 (w32 a * 24) = w32 (a * 24) := by unfold w32; omega
theorem z0_at (k : Nat) (i : Int) : z0 k i = 0 := rfl
end Jvm.OwnMini
namespace Jvm.OwnMini
open Jvm.Kit
/-! Masks and shifts in plain integers. -/
theorem ofInt32_toInt (z : Int) : (Int32.ofInt z).toInt = w32 z := by
  rw [Int32.toInt_ofInt]; unfold w32; simp only [Int.bmod, Int32.size]; split <;> omega
theorem ofInt64_toInt (z : Int) : (Int64.ofInt z).toInt = w64 z := by
  rw [Int64.toInt_ofInt]; unfold w64; simp only [Int.bmod, Int64.size]; split <;> omega
theorem and32_1 (z : Int) : and32 z 1 = z % 2 := by
  unfold and32; rw [i32_mask _ _ (k := 1) (by decide) (by decide), ofInt32_toInt]; unfold w32; omega
theorem and32_3 (z : Int) : and32 z 3 = z % 4 := by
  unfold and32; rw [i32_mask _ _ (k := 2) (by decide) (by decide), ofInt32_toInt]; unfold w32; omega
theorem and32_7 (z : Int) : and32 z 7 = z % 8 := by
  unfold and32; rw [i32_mask _ _ (k := 3) (by decide) (by decide), ofInt32_toInt]; unfold w32; omega
theorem and32_15 (z : Int) : and32 z 15 = z % 16 := by
  unfold and32; rw [i32_mask _ _ (k := 4) (by decide) (by decide), ofInt32_toInt]; unfold w32; omega
theorem and32_31 (z : Int) : and32 z 31 = z % 32 := by
  unfold and32; rw [i32_mask _ _ (k := 5) (by decide) (by decide), ofInt32_toInt]; unfold w32; omega
theorem and32_63 (z : Int) : and32 z 63 = z % 64 := by
  unfold and32; rw [i32_mask _ _ (k := 6) (by decide) (by decide), ofInt32_toInt]; unfold w32; omega
theorem and32_127 (z : Int) : and32 z 127 = z % 128 := by
  unfold and32; rw [i32_mask _ _ (k := 7) (by decide) (by decide), ofInt32_toInt]; unfold w32; omega
theorem and32_255 (z : Int) : and32 z 255 = z % 256 := by
  unfold and32; rw [i32_mask _ _ (k := 8) (by decide) (by decide), ofInt32_toInt]; unfold w32; omega
theorem and32_511 (z : Int) : and32 z 511 = z % 512 := by
  unfold and32; rw [i32_mask _ _ (k := 9) (by decide) (by decide), ofInt32_toInt]; unfold w32; omega
theorem and32_1023 (z : Int) : and32 z 1023 = z % 1024 := by
  unfold and32; rw [i32_mask _ _ (k := 10) (by decide) (by decide), ofInt32_toInt]; unfold w32; omega
theorem and32_max (z : Int) : and32 z 2147483647 = z % 2147483648 := by
  unfold and32; rw [i32_mask _ _ (k := 31) (by decide) (by decide), ofInt32_toInt]; unfold w32; omega
theorem div32_nn {a b : Int} (ha : 0 ≤ a) (ha2 : a < 2147483648) (hb : 0 < b) : div32 a b = a / b := by
  unfold div32
  rw [Int.tdiv_eq_ediv_of_nonneg ha]
  have h1 : 0 ≤ a / b := Int.ediv_nonneg ha (by omega)
  have h2 : a / b ≤ a := Int.ediv_le_self b ha
  exact w32_id (by omega)
theorem rem32_nn {a b : Int} (ha : 0 ≤ a) : rem32 a b = a % b := by
  unfold rem32
  exact Int.tmod_eq_emod_of_nonneg ha
end Jvm.OwnMini
namespace Jvm.OwnMini
open Jvm.Kit
theorem shl1_dec : ∀ k : Fin 31, (shl32 1 (k.val : Int)) = ((2 ^ k.val : Nat) : Int) := by decide +kernel
theorem shl1_eq (k : Int) (h : 0 ≤ k ∧ k ≤ 30) : shl32 1 k = ((2 ^ k.toNat : Nat) : Int) := by
  have := shl1_dec ⟨k.toNat, by omega⟩
  simp only [Int.toNat_of_nonneg h.1] at this
  exact this
theorem shl1_rng (k : Int) (h : 0 ≤ k ∧ k ≤ 10) : 1 ≤ shl32 1 k ∧ shl32 1 k ≤ 1024 := by
  have : ∀ j : Fin 11, 1 ≤ shl32 1 (j.val : Int) ∧ shl32 1 (j.val : Int) ≤ 1024 := by decide +kernel
  have := this ⟨k.toNat, by omega⟩
  simp only [Int.toNat_of_nonneg h.1] at this
  exact this
theorem and32_nn {a : Int} (b : Int) (h : 0 ≤ a) (h2 : a < 2147483648) : 0 ≤ and32 a b ∧ and32 a b ≤ a := by
  have ha : (Int32.ofInt a).toInt = a := by rw [ofInt32_toInt, w32_id (by omega)]
  have h0 : 0 ≤ Int32.ofInt a := by rw [Int32.le_iff_toInt_le, ha]; exact h
  have g := i32_and_bounds (Int32.ofInt b) h0
  rw [Int32.le_iff_toInt_le, Int32.le_iff_toInt_le, ha, Int32.and_comm] at g
  exact g
end Jvm.OwnMini
namespace Jvm.OwnMini
theorem and32_0 (b : Int) : and32 0 b = 0 := by unfold and32; simp
theorem or32_shl (a b : Int) : or32 0 (shl32 a b) = shl32 a b := by unfold or32 shl32; rw [Int32.ofInt_toInt]; simp
theorem and32_not (b : Int) : and32 b (xor32 b (-1)) = 0 := by
  unfold and32 xor32
  rw [Int32.ofInt_toInt]
  have : Int32.ofInt b &&& (Int32.ofInt b ^^^ Int32.ofInt (-1)) = 0 := by
    rw [← Int32.toBitVec_inj]
    simp only [Int32.toBitVec_and, Int32.toBitVec_xor]
    rw [show (Int32.ofInt (-1)).toBitVec = BitVec.allOnes 32 from by decide, show (0 : Int32).toBitVec = 0#32 from by decide]
    rw [BitVec.xor_allOnes, BitVec.and_not_self]; rfl
  rw [this]; rfl
end Jvm.OwnMini
namespace Jvm.OwnMini
open Jvm Jvm.ClassFile Sem Op Lib Jvm.Free Jvm.Stand Jvm.LawKit Jvm.RoadKit
/-! The script: its length and its numbers. -/
theorem own_len {Z : State} {args : Array Value} {t : Term} {n : Int32} {a : Addr} {cl : Cell} {ty : FieldType} (h : (Jvm.Cond.le (.length t) (.int n)).value args Z none Z [] = some true) (ea : t.eval args Z none [] Z = some (.ref a)) (A : Arr Z Z.heap a cl ty) : cl.slots.size < 2 ^ 31 ∧ (cl.slots.size : Int) ≤ n.toInt := by
  obtain ⟨x, y, e1, -, -, -⟩ := cmp_v (Or.inr (Or.inr h))
  obtain ⟨b, c, f1, f2, f3, rfl⟩ := Jvm.Lib.length_spec e1
  cases ea.symm.trans f1
  cases f2.symm.trans (Arr.fin (Vm.Alike.refl _) A)
  have g := gotT (Jvm.Cond.le_ints e1 rfl) h
  rw [Int32.le_iff_toInt_le, len_toInt f3] at g
  exact ⟨f3, g⟩
def own_sc (c : Cell) (i : Int) : Int := match c.slots[i.toNat]? with | some (.int x) => x.toInt | _ => 0
theorem own_sc_rng (c : Cell) (i : Int) : -2147483648 ≤ own_sc c i ∧ own_sc c i < 2147483648 := by
  unfold own_sc
  split
  · rename_i x _
    have h1 := x.le_toInt
    have h2 := x.toInt_lt
    omega
  · omega
theorem own_sc_at {c : Cell} {i : Nat} {x : Int32} (h : c.slots[i]? = some (.int x)) : own_sc c (i : Int) = x.toInt := by
  unfold own_sc
  rw [Int.toNat_natCast, h]
theorem own_elem {Z : State} {a : Addr} {cl : Cell} (hf : Fit Z) (A : Arr Z Z.heap a cl .int) {i : Nat} (hi : i < cl.slots.size) (q : cl.slots.size < 2 ^ 31) : ∃ x : Int32, cl.slots[i]? = some (.int x) := by
  have e1 : (i.toInt32).toInt = i := len_toInt (by omega)
  have e2 : (i.toInt32).toNatClampNeg = i := by simp only [Int32.toNatClampNeg, e1]; rfl
  have hj : ¬ (i.toInt32 < 0 ∨ cl.slots.size ≤ (i.toInt32).toNatClampNeg) := by
    rw [e2]
    rintro (h | h)
    · rw [Int32.lt_iff_toInt_lt, e1] at h
      have : (0 : Int32).toInt = 0 := rfl
      omega
    · omega
  obtain ⟨v, h1, h2⟩ := elem_fit hf A hj
  obtain ⟨x, rfl⟩ := fit_I h2 (by simp)
  rw [e2] at h1
  exact ⟨x, h1⟩
end Jvm.OwnMini

namespace Jvm.Pilot.@@N@@
open Jvm Jvm.ClassFile Sem Op Lib Jvm.Free Jvm.Stand Jvm.LawKit Jvm.RoadKit Bundle Jvm.Pilot.@@N@@.Jvm.D Jvm.OwnMini
def cd_0 : Nat → Option (Instr × Nat) := fun pc => cond (Nat.blt pc 177) (cond (Nat.blt pc 89) (cond (Nat.blt pc 44) (cond (Nat.blt pc 21) (cond (Nat.blt pc 9) (cond (Nat.blt pc 4) (cond (Nat.blt pc 1) (cond (Nat.beq pc 0) (some (.aload_n 0, 1)) none) (cond (Nat.beq pc 1) (some (.invokespecial 1, 3)) none)) (cond (Nat.blt pc 5) (cond (Nat.beq pc 4) (some (.aload_n 0, 1)) none) (cond (Nat.blt pc 7) (cond (Nat.beq pc 5) (some (.bipush 32, 2)) none) (cond (Nat.beq pc 7) (some (.newarray .int, 2)) none)))) (cond (Nat.blt pc 15) (cond (Nat.blt pc 12) (cond (Nat.beq pc 9) (some (.putfield 7, 3)) none) (cond (Nat.blt pc 13) (cond (Nat.beq pc 12) (some (.aload_n 0, 1)) none) (cond (Nat.beq pc 13) (some (.bipush 32, 2)) none))) (cond (Nat.blt pc 17) (cond (Nat.beq pc 15) (some (.newarray .int, 2)) none) (cond (Nat.blt pc 20) (cond (Nat.beq pc 17) (some (.putfield 13, 3)) none) (cond (Nat.beq pc 20) (some (.aload_n 0, 1)) none))))) (cond (Nat.blt pc 31) (cond (Nat.blt pc 25) (cond (Nat.blt pc 23) (cond (Nat.beq pc 21) (some (.bipush 32, 2)) none) (cond (Nat.beq pc 23) (some (.newarray .int, 2)) none)) (cond (Nat.blt pc 28) (cond (Nat.beq pc 25) (some (.putfield 16, 3)) none) (cond (Nat.blt pc 29) (cond (Nat.beq pc 28) (some (.aload_n 0, 1)) none) (cond (Nat.beq pc 29) (some (.bipush 32, 2)) none)))) (cond (Nat.blt pc 37) (cond (Nat.blt pc 33) (cond (Nat.beq pc 31) (some (.newarray .int, 2)) none) (cond (Nat.blt pc 36) (cond (Nat.beq pc 33) (some (.putfield 19, 3)) none) (cond (Nat.beq pc 36) (some (.aload_n 0, 1)) none))) (cond (Nat.blt pc 39) (cond (Nat.beq pc 37) (some (.bipush 8, 2)) none) (cond (Nat.blt pc 41) (cond (Nat.beq pc 39) (some (.newarray .int, 2)) none) (cond (Nat.beq pc 41) (some (.putfield 22, 3)) none)))))) (cond (Nat.blt pc 65) (cond (Nat.blt pc 53) (cond (Nat.blt pc 47) (cond (Nat.blt pc 45) (cond (Nat.beq pc 44) (some (.aload_n 0, 1)) none) (cond (Nat.beq pc 45) (some (.bipush 8, 2)) none)) (cond (Nat.blt pc 49) (cond (Nat.beq pc 47) (some (.newarray .int, 2)) none) (cond (Nat.blt pc 52) (cond (Nat.beq pc 49) (some (.putfield 25, 3)) none) (cond (Nat.beq pc 52) (some (.aload_n 0, 1)) none)))) (cond (Nat.blt pc 60) (cond (Nat.blt pc 55) (cond (Nat.beq pc 53) (some (.bipush 32, 2)) none) (cond (Nat.blt pc 57) (cond (Nat.beq pc 55) (some (.newarray .int, 2)) none) (cond (Nat.beq pc 57) (some (.putfield 28, 3)) none))) (cond (Nat.blt pc 61) (cond (Nat.beq pc 60) (some (.aload_n 0, 1)) none) (cond (Nat.blt pc 63) (cond (Nat.beq pc 61) (some (.bipush 32, 2)) none) (cond (Nat.beq pc 63) (some (.newarray .int, 2)) none))))) (cond (Nat.blt pc 77) (cond (Nat.blt pc 71) (cond (Nat.blt pc 68) (cond (Nat.beq pc 65) (some (.putfield 31, 3)) none) (cond (Nat.blt pc 69) (cond (Nat.beq pc 68) (some (.aload_n 0, 1)) none) (cond (Nat.beq pc 69) (some (.bipush 16, 2)) none))) (cond (Nat.blt pc 73) (cond (Nat.beq pc 71) (some (.newarray .int, 2)) none) (cond (Nat.blt pc 76) (cond (Nat.beq pc 73) (some (.putfield 34, 3)) none) (cond (Nat.beq pc 76) (some (.aload_n 0, 1)) none)))) (cond (Nat.blt pc 84) (cond (Nat.blt pc 79) (cond (Nat.beq pc 77) (some (.bipush 16, 2)) none) (cond (Nat.blt pc 81) (cond (Nat.beq pc 79) (some (.newarray .int, 2)) none) (cond (Nat.beq pc 81) (some (.putfield 37, 3)) none))) (cond (Nat.blt pc 85) (cond (Nat.beq pc 84) (some (.aload_n 0, 1)) none) (cond (Nat.blt pc 87) (cond (Nat.beq pc 85) (some (.bipush 32, 2)) none) (cond (Nat.beq pc 87) (some (.newarray .int, 2)) none))))))) (cond (Nat.blt pc 135) (cond (Nat.blt pc 111) (cond (Nat.blt pc 100) (cond (Nat.blt pc 93) (cond (Nat.blt pc 92) (cond (Nat.beq pc 89) (some (.putfield 40, 3)) none) (cond (Nat.beq pc 92) (some (.aload_n 0, 1)) none)) (cond (Nat.blt pc 95) (cond (Nat.beq pc 93) (some (.bipush 32, 2)) none) (cond (Nat.blt pc 97) (cond (Nat.beq pc 95) (some (.newarray .int, 2)) none) (cond (Nat.beq pc 97) (some (.putfield 43, 3)) none)))) (cond (Nat.blt pc 105) (cond (Nat.blt pc 101) (cond (Nat.beq pc 100) (some (.aload_n 0, 1)) none) (cond (Nat.blt pc 103) (cond (Nat.beq pc 101) (some (.bipush 16, 2)) none) (cond (Nat.beq pc 103) (some (.newarray .int, 2)) none))) (cond (Nat.blt pc 108) (cond (Nat.beq pc 105) (some (.putfield 46, 3)) none) (cond (Nat.blt pc 109) (cond (Nat.beq pc 108) (some (.aload_n 0, 1)) none) (cond (Nat.beq pc 109) (some (.bipush 16, 2)) none))))) (cond (Nat.blt pc 124) (cond (Nat.blt pc 117) (cond (Nat.blt pc 113) (cond (Nat.beq pc 111) (some (.newarray .int, 2)) none) (cond (Nat.blt pc 116) (cond (Nat.beq pc 113) (some (.putfield 49, 3)) none) (cond (Nat.beq pc 116) (some (.aload_n 0, 1)) none))) (cond (Nat.blt pc 119) (cond (Nat.beq pc 117) (some (.bipush 16, 2)) none) (cond (Nat.blt pc 121) (cond (Nat.beq pc 119) (some (.newarray .int, 2)) none) (cond (Nat.beq pc 121) (some (.putfield 52, 3)) none)))) (cond (Nat.blt pc 129) (cond (Nat.blt pc 125) (cond (Nat.beq pc 124) (some (.aload_n 0, 1)) none) (cond (Nat.blt pc 127) (cond (Nat.beq pc 125) (some (.bipush 32, 2)) none) (cond (Nat.beq pc 127) (some (.newarray .int, 2)) none))) (cond (Nat.blt pc 132) (cond (Nat.beq pc 129) (some (.putfield 55, 3)) none) (cond (Nat.blt pc 133) (cond (Nat.beq pc 132) (some (.aload_n 0, 1)) none) (cond (Nat.beq pc 133) (some (.bipush 33, 2)) none)))))) (cond (Nat.blt pc 157) (cond (Nat.blt pc 145) (cond (Nat.blt pc 140) (cond (Nat.blt pc 137) (cond (Nat.beq pc 135) (some (.newarray .boolean, 2)) none) (cond (Nat.beq pc 137) (some (.putfield 58, 3)) none)) (cond (Nat.blt pc 141) (cond (Nat.beq pc 140) (some (.aload_n 0, 1)) none) (cond (Nat.blt pc 143) (cond (Nat.beq pc 141) (some (.bipush 33, 2)) none) (cond (Nat.beq pc 143) (some (.newarray .long, 2)) none)))) (cond (Nat.blt pc 150) (cond (Nat.blt pc 148) (cond (Nat.beq pc 145) (some (.putfield 62, 3)) none) (cond (Nat.blt pc 149) (cond (Nat.beq pc 148) (some (.aload_n 0, 1)) none) (cond (Nat.beq pc 149) (some (.aload_n 0, 1)) none))) (cond (Nat.blt pc 151) (cond (Nat.beq pc 150) (some (.iload_n 1, 1)) none) (cond (Nat.blt pc 154) (cond (Nat.beq pc 151) (some (.invokevirtual 66, 3)) none) (cond (Nat.beq pc 154) (some (.putfield 70, 3)) none))))) (cond (Nat.blt pc 167) (cond (Nat.blt pc 160) (cond (Nat.blt pc 158) (cond (Nat.beq pc 157) (some (.aload_n 0, 1)) none) (cond (Nat.blt pc 159) (cond (Nat.beq pc 158) (some (.aload_n 0, 1)) none) (cond (Nat.beq pc 159) (some (.iload_n 2, 1)) none))) (cond (Nat.blt pc 163) (cond (Nat.beq pc 160) (some (.invokevirtual 66, 3)) none) (cond (Nat.blt pc 166) (cond (Nat.beq pc 163) (some (.putfield 74, 3)) none) (cond (Nat.beq pc 166) (some (.aload_n 0, 1)) none)))) (cond (Nat.blt pc 172) (cond (Nat.blt pc 168) (cond (Nat.beq pc 167) (some (.iconst 0, 1)) none) (cond (Nat.blt pc 171) (cond (Nat.beq pc 168) (some (.putfield 77, 3)) none) (cond (Nat.beq pc 171) (some (.aload_n 0, 1)) none))) (cond (Nat.blt pc 173) (cond (Nat.beq pc 172) (some (.iconst 0, 1)) none) (cond (Nat.blt pc 176) (cond (Nat.beq pc 173) (some (.putfield 80, 3)) none) (cond (Nat.beq pc 176) (some (.return_, 1)) none)))))))) none
def cd_1 : Nat → Option (Instr × Nat) := fun pc => cond (Nat.blt pc 20) (cond (Nat.blt pc 10) (cond (Nat.blt pc 6) (cond (Nat.blt pc 1) (cond (Nat.beq pc 0) (some (.iload_n 1, 1)) none) (cond (Nat.blt pc 3) (cond (Nat.beq pc 1) (some (.bipush 8, 2)) none) (cond (Nat.beq pc 3) (some (.if_icmp .ge 6, 3)) none))) (cond (Nat.blt pc 8) (cond (Nat.beq pc 6) (some (.bipush 8, 2)) none) (cond (Nat.blt pc 9) (cond (Nat.beq pc 8) (some (.ireturn, 1)) none) (cond (Nat.beq pc 9) (some (.iload_n 1, 1)) none)))) (cond (Nat.blt pc 17) (cond (Nat.blt pc 12) (cond (Nat.beq pc 10) (some (.bipush 32, 2)) none) (cond (Nat.blt pc 15) (cond (Nat.beq pc 12) (some (.if_icmp .le 6, 3)) none) (cond (Nat.beq pc 15) (some (.bipush 32, 2)) none))) (cond (Nat.blt pc 18) (cond (Nat.beq pc 17) (some (.ireturn, 1)) none) (cond (Nat.blt pc 19) (cond (Nat.beq pc 18) (some (.iload_n 1, 1)) none) (cond (Nat.beq pc 19) (some (.ireturn, 1)) none))))) none
def cd_2 : Nat → Option (Instr × Nat) := fun pc => cond (Nat.blt pc 5) (cond (Nat.blt pc 1) (cond (Nat.beq pc 0) (some (.aload_n 0, 1)) none) (cond (Nat.blt pc 4) (cond (Nat.beq pc 1) (some (.getfield 77, 3)) none) (cond (Nat.beq pc 4) (some (.ireturn, 1)) none))) none
def cd_3 : Nat → Option (Instr × Nat) := fun pc => cond (Nat.blt pc 91) (cond (Nat.blt pc 45) (cond (Nat.blt pc 23) (cond (Nat.blt pc 10) (cond (Nat.blt pc 7) (cond (Nat.blt pc 1) (cond (Nat.beq pc 0) (some (.aload_n 0, 1)) none) (cond (Nat.blt pc 4) (cond (Nat.beq pc 1) (some (.getfield 77, 3)) none) (cond (Nat.beq pc 4) (some (.ifCond .eq 5, 3)) none))) (cond (Nat.blt pc 8) (cond (Nat.beq pc 7) (some (.iconst 0, 1)) none) (cond (Nat.blt pc 9) (cond (Nat.beq pc 8) (some (.ireturn, 1)) none) (cond (Nat.beq pc 9) (some (.aload_n 0, 1)) none)))) (cond (Nat.blt pc 17) (cond (Nat.blt pc 13) (cond (Nat.beq pc 10) (some (.getfield 83, 3)) none) (cond (Nat.blt pc 14) (cond (Nat.beq pc 13) (some (.aload_n 0, 1)) none) (cond (Nat.beq pc 14) (some (.getfield 70, 3)) none))) (cond (Nat.blt pc 21) (cond (Nat.blt pc 20) (cond (Nat.beq pc 17) (some (.if_icmp .ne 5, 3)) none) (cond (Nat.beq pc 20) (some (.iconst 0, 1)) none)) (cond (Nat.blt pc 22) (cond (Nat.beq pc 21) (some (.ireturn, 1)) none) (cond (Nat.beq pc 22) (some (.iload_n 1, 1)) none))))) (cond (Nat.blt pc 34) (cond (Nat.blt pc 29) (cond (Nat.blt pc 26) (cond (Nat.beq pc 23) (some (.ifCond .lt 9, 3)) none) (cond (Nat.blt pc 27) (cond (Nat.beq pc 26) (some (.iload_n 1, 1)) none) (cond (Nat.beq pc 27) (some (.bipush 15, 2)) none))) (cond (Nat.blt pc 32) (cond (Nat.beq pc 29) (some (.if_icmp .lt 5, 3)) none) (cond (Nat.blt pc 33) (cond (Nat.beq pc 32) (some (.iconst 0, 1)) none) (cond (Nat.beq pc 33) (some (.ireturn, 1)) none)))) (cond (Nat.blt pc 39) (cond (Nat.blt pc 35) (cond (Nat.beq pc 34) (some (.aload_n 0, 1)) none) (cond (Nat.blt pc 38) (cond (Nat.beq pc 35) (some (.getfield 7, 3)) none) (cond (Nat.beq pc 38) (some (.aload_n 0, 1)) none))) (cond (Nat.blt pc 43) (cond (Nat.blt pc 42) (cond (Nat.beq pc 39) (some (.getfield 83, 3)) none) (cond (Nat.beq pc 42) (some (.iload_n 1, 1)) none)) (cond (Nat.blt pc 44) (cond (Nat.beq pc 43) (some (.iastore, 1)) none) (cond (Nat.beq pc 44) (some (.aload_n 0, 1)) none)))))) (cond (Nat.blt pc 68) (cond (Nat.blt pc 55) (cond (Nat.blt pc 52) (cond (Nat.blt pc 48) (cond (Nat.beq pc 45) (some (.getfield 13, 3)) none) (cond (Nat.blt pc 49) (cond (Nat.beq pc 48) (some (.aload_n 0, 1)) none) (cond (Nat.beq pc 49) (some (.getfield 83, 3)) none))) (cond (Nat.blt pc 53) (cond (Nat.beq pc 52) (some (.iload_n 2, 1)) none) (cond (Nat.blt pc 54) (cond (Nat.beq pc 53) (some (.iastore, 1)) none) (cond (Nat.beq pc 54) (some (.aload_n 0, 1)) none)))) (cond (Nat.blt pc 62) (cond (Nat.blt pc 58) (cond (Nat.beq pc 55) (some (.getfield 16, 3)) none) (cond (Nat.blt pc 59) (cond (Nat.beq pc 58) (some (.aload_n 0, 1)) none) (cond (Nat.beq pc 59) (some (.getfield 83, 3)) none))) (cond (Nat.blt pc 64) (cond (Nat.blt pc 63) (cond (Nat.beq pc 62) (some (.iload_n 3, 1)) none) (cond (Nat.beq pc 63) (some (.iastore, 1)) none)) (cond (Nat.blt pc 65) (cond (Nat.beq pc 64) (some (.aload_n 0, 1)) none) (cond (Nat.beq pc 65) (some (.getfield 19, 3)) none))))) (cond (Nat.blt pc 80) (cond (Nat.blt pc 74) (cond (Nat.blt pc 69) (cond (Nat.beq pc 68) (some (.aload_n 0, 1)) none) (cond (Nat.blt pc 72) (cond (Nat.beq pc 69) (some (.getfield 83, 3)) none) (cond (Nat.beq pc 72) (some (.iload 4, 2)) none))) (cond (Nat.blt pc 76) (cond (Nat.blt pc 75) (cond (Nat.beq pc 74) (some (.iastore, 1)) none) (cond (Nat.beq pc 75) (some (.aload_n 0, 1)) none)) (cond (Nat.blt pc 77) (cond (Nat.beq pc 76) (some (.aload_n 0, 1)) none) (cond (Nat.beq pc 77) (some (.getfield 83, 3)) none)))) (cond (Nat.blt pc 85) (cond (Nat.blt pc 81) (cond (Nat.beq pc 80) (some (.iconst 1, 1)) none) (cond (Nat.blt pc 82) (cond (Nat.beq pc 81) (some (.iadd, 1)) none) (cond (Nat.beq pc 82) (some (.putfield 83, 3)) none))) (cond (Nat.blt pc 89) (cond (Nat.blt pc 86) (cond (Nat.beq pc 85) (some (.aload_n 0, 1)) none) (cond (Nat.beq pc 86) (some (.invokevirtual 86, 3)) none)) (cond (Nat.blt pc 90) (cond (Nat.beq pc 89) (some (.iconst 1, 1)) none) (cond (Nat.beq pc 90) (some (.ireturn, 1)) none))))))) none
def cd_4 : Nat → Option (Instr × Nat) := fun pc => cond (Nat.blt pc 36) (cond (Nat.blt pc 18) (cond (Nat.blt pc 9) (cond (Nat.blt pc 4) (cond (Nat.blt pc 1) (cond (Nat.beq pc 0) (some (.aload_n 0, 1)) none) (cond (Nat.beq pc 1) (some (.invokevirtual 111, 3)) none)) (cond (Nat.blt pc 5) (cond (Nat.beq pc 4) (some (.aload_n 0, 1)) none) (cond (Nat.blt pc 8) (cond (Nat.beq pc 5) (some (.invokevirtual 114, 3)) none) (cond (Nat.beq pc 8) (some (.iconst 0, 1)) none)))) (cond (Nat.blt pc 11) (cond (Nat.blt pc 10) (cond (Nat.beq pc 9) (some (.istore_n 1, 1)) none) (cond (Nat.beq pc 10) (some (.iload_n 1, 1)) none)) (cond (Nat.blt pc 12) (cond (Nat.beq pc 11) (some (.aload_n 0, 1)) none) (cond (Nat.blt pc 15) (cond (Nat.beq pc 12) (some (.getfield 83, 3)) none) (cond (Nat.beq pc 15) (some (.if_icmp .ge 20, 3)) none))))) (cond (Nat.blt pc 25) (cond (Nat.blt pc 22) (cond (Nat.blt pc 19) (cond (Nat.beq pc 18) (some (.aload_n 0, 1)) none) (cond (Nat.beq pc 19) (some (.getfield 55, 3)) none)) (cond (Nat.blt pc 23) (cond (Nat.beq pc 22) (some (.iload_n 1, 1)) none) (cond (Nat.blt pc 24) (cond (Nat.beq pc 23) (some (.aload_n 0, 1)) none) (cond (Nat.beq pc 24) (some (.iload_n 1, 1)) none)))) (cond (Nat.blt pc 29) (cond (Nat.blt pc 28) (cond (Nat.beq pc 25) (some (.invokevirtual 117, 3)) none) (cond (Nat.beq pc 28) (some (.iastore, 1)) none)) (cond (Nat.blt pc 32) (cond (Nat.beq pc 29) (some (.iinc 1 1, 3)) none) (cond (Nat.blt pc 35) (cond (Nat.beq pc 32) (some (.goto (-22), 3)) none) (cond (Nat.beq pc 35) (some (.return_, 1)) none)))))) none
def cd_5 : Nat → Option (Instr × Nat) := fun pc => cond (Nat.blt pc 102) (cond (Nat.blt pc 49) (cond (Nat.blt pc 24) (cond (Nat.blt pc 11) (cond (Nat.blt pc 3) (cond (Nat.blt pc 1) (cond (Nat.beq pc 0) (some (.iconst 0, 1)) none) (cond (Nat.blt pc 2) (cond (Nat.beq pc 1) (some (.istore_n 1, 1)) none) (cond (Nat.beq pc 2) (some (.iload_n 1, 1)) none))) (cond (Nat.blt pc 7) (cond (Nat.blt pc 4) (cond (Nat.beq pc 3) (some (.aload_n 0, 1)) none) (cond (Nat.beq pc 4) (some (.getfield 83, 3)) none)) (cond (Nat.blt pc 10) (cond (Nat.beq pc 7) (some (.if_icmp .gt 28, 3)) none) (cond (Nat.beq pc 10) (some (.aload_n 0, 1)) none)))) (cond (Nat.blt pc 16) (cond (Nat.blt pc 14) (cond (Nat.beq pc 11) (some (.getfield 58, 3)) none) (cond (Nat.blt pc 15) (cond (Nat.beq pc 14) (some (.iload_n 1, 1)) none) (cond (Nat.beq pc 15) (some (.iload_n 1, 1)) none))) (cond (Nat.blt pc 20) (cond (Nat.blt pc 17) (cond (Nat.beq pc 16) (some (.aload_n 0, 1)) none) (cond (Nat.beq pc 17) (some (.getfield 83, 3)) none)) (cond (Nat.blt pc 23) (cond (Nat.beq pc 20) (some (.if_icmp .ne 7, 3)) none) (cond (Nat.beq pc 23) (some (.iconst 1, 1)) none))))) (cond (Nat.blt pc 37) (cond (Nat.blt pc 29) (cond (Nat.blt pc 27) (cond (Nat.beq pc 24) (some (.goto 4, 3)) none) (cond (Nat.blt pc 28) (cond (Nat.beq pc 27) (some (.iconst 0, 1)) none) (cond (Nat.beq pc 28) (some (.bastore, 1)) none))) (cond (Nat.blt pc 35) (cond (Nat.blt pc 32) (cond (Nat.beq pc 29) (some (.iinc 1 1, 3)) none) (cond (Nat.beq pc 32) (some (.goto (-30), 3)) none)) (cond (Nat.blt pc 36) (cond (Nat.beq pc 35) (some (.iconst 0, 1)) none) (cond (Nat.beq pc 36) (some (.istore_n 1, 1)) none)))) (cond (Nat.blt pc 43) (cond (Nat.blt pc 38) (cond (Nat.beq pc 37) (some (.iload_n 1, 1)) none) (cond (Nat.blt pc 40) (cond (Nat.beq pc 38) (some (.bipush 40, 2)) none) (cond (Nat.beq pc 40) (some (.if_icmp .ge 61, 3)) none))) (cond (Nat.blt pc 45) (cond (Nat.blt pc 44) (cond (Nat.beq pc 43) (some (.iconst 0, 1)) none) (cond (Nat.beq pc 44) (some (.istore_n 2, 1)) none)) (cond (Nat.blt pc 46) (cond (Nat.beq pc 45) (some (.aload_n 0, 1)) none) (cond (Nat.beq pc 46) (some (.getfield 83, 3)) none)))))) (cond (Nat.blt pc 73) (cond (Nat.blt pc 60) (cond (Nat.blt pc 52) (cond (Nat.blt pc 50) (cond (Nat.beq pc 49) (some (.iconst 1, 1)) none) (cond (Nat.blt pc 51) (cond (Nat.beq pc 50) (some (.isub, 1)) none) (cond (Nat.beq pc 51) (some (.istore_n 3, 1)) none))) (cond (Nat.blt pc 56) (cond (Nat.blt pc 53) (cond (Nat.beq pc 52) (some (.iload_n 3, 1)) none) (cond (Nat.beq pc 53) (some (.ifCond .lt 35, 3)) none)) (cond (Nat.blt pc 57) (cond (Nat.beq pc 56) (some (.aload_n 0, 1)) none) (cond (Nat.beq pc 57) (some (.getfield 58, 3)) none)))) (cond (Nat.blt pc 65) (cond (Nat.blt pc 61) (cond (Nat.beq pc 60) (some (.iload_n 3, 1)) none) (cond (Nat.blt pc 62) (cond (Nat.beq pc 61) (some (.baload, 1)) none) (cond (Nat.beq pc 62) (some (.ifCond .ne 20, 3)) none))) (cond (Nat.blt pc 67) (cond (Nat.blt pc 66) (cond (Nat.beq pc 65) (some (.aload_n 0, 1)) none) (cond (Nat.beq pc 66) (some (.iload_n 3, 1)) none)) (cond (Nat.blt pc 70) (cond (Nat.beq pc 67) (some (.invokevirtual 126, 3)) none) (cond (Nat.beq pc 70) (some (.ifCond .eq 12, 3)) none))))) (cond (Nat.blt pc 82) (cond (Nat.blt pc 78) (cond (Nat.blt pc 74) (cond (Nat.beq pc 73) (some (.aload_n 0, 1)) none) (cond (Nat.blt pc 77) (cond (Nat.beq pc 74) (some (.getfield 58, 3)) none) (cond (Nat.beq pc 77) (some (.iload_n 3, 1)) none))) (cond (Nat.blt pc 80) (cond (Nat.blt pc 79) (cond (Nat.beq pc 78) (some (.iconst 1, 1)) none) (cond (Nat.beq pc 79) (some (.bastore, 1)) none)) (cond (Nat.blt pc 81) (cond (Nat.beq pc 80) (some (.iconst 1, 1)) none) (cond (Nat.beq pc 81) (some (.istore_n 2, 1)) none)))) (cond (Nat.blt pc 92) (cond (Nat.blt pc 88) (cond (Nat.blt pc 85) (cond (Nat.beq pc 82) (some (.iinc 3 (-1), 3)) none) (cond (Nat.beq pc 85) (some (.goto (-33), 3)) none)) (cond (Nat.blt pc 89) (cond (Nat.beq pc 88) (some (.iload_n 2, 1)) none) (cond (Nat.beq pc 89) (some (.ifCond .ne 6, 3)) none))) (cond (Nat.blt pc 98) (cond (Nat.blt pc 95) (cond (Nat.beq pc 92) (some (.goto 9, 3)) none) (cond (Nat.beq pc 95) (some (.iinc 1 1, 3)) none)) (cond (Nat.blt pc 101) (cond (Nat.beq pc 98) (some (.goto (-61), 3)) none) (cond (Nat.beq pc 101) (some (.return_, 1)) none))))))) none
def cd_6 : Nat → Option (Instr × Nat) := fun pc => cond (Nat.blt pc 62) (cond (Nat.blt pc 30) (cond (Nat.blt pc 13) (cond (Nat.blt pc 6) (cond (Nat.blt pc 2) (cond (Nat.blt pc 1) (cond (Nat.beq pc 0) (some (.aload_n 0, 1)) none) (cond (Nat.beq pc 1) (some (.iload_n 1, 1)) none)) (cond (Nat.blt pc 5) (cond (Nat.beq pc 2) (some (.invokevirtual 120, 3)) none) (cond (Nat.beq pc 5) (some (.istore_n 2, 1)) none))) (cond (Nat.blt pc 8) (cond (Nat.blt pc 7) (cond (Nat.beq pc 6) (some (.aload_n 0, 1)) none) (cond (Nat.beq pc 7) (some (.iload_n 1, 1)) none)) (cond (Nat.blt pc 11) (cond (Nat.beq pc 8) (some (.invokevirtual 123, 3)) none) (cond (Nat.blt pc 12) (cond (Nat.beq pc 11) (some (.istore_n 3, 1)) none) (cond (Nat.beq pc 12) (some (.iload_n 2, 1)) none))))) (cond (Nat.blt pc 21) (cond (Nat.blt pc 17) (cond (Nat.blt pc 16) (cond (Nat.beq pc 13) (some (.ifCond .lt 22, 3)) none) (cond (Nat.beq pc 16) (some (.iload_n 2, 1)) none)) (cond (Nat.blt pc 18) (cond (Nat.beq pc 17) (some (.aload_n 0, 1)) none) (cond (Nat.beq pc 18) (some (.getfield 83, 3)) none))) (cond (Nat.blt pc 25) (cond (Nat.blt pc 24) (cond (Nat.beq pc 21) (some (.if_icmp .gt 14, 3)) none) (cond (Nat.beq pc 24) (some (.aload_n 0, 1)) none)) (cond (Nat.blt pc 28) (cond (Nat.beq pc 25) (some (.getfield 58, 3)) none) (cond (Nat.blt pc 29) (cond (Nat.beq pc 28) (some (.iload_n 2, 1)) none) (cond (Nat.beq pc 29) (some (.baload, 1)) none)))))) (cond (Nat.blt pc 47) (cond (Nat.blt pc 36) (cond (Nat.blt pc 34) (cond (Nat.blt pc 33) (cond (Nat.beq pc 30) (some (.ifCond .eq 5, 3)) none) (cond (Nat.beq pc 33) (some (.iconst 1, 1)) none)) (cond (Nat.blt pc 35) (cond (Nat.beq pc 34) (some (.ireturn, 1)) none) (cond (Nat.beq pc 35) (some (.iload_n 3, 1)) none))) (cond (Nat.blt pc 40) (cond (Nat.blt pc 39) (cond (Nat.beq pc 36) (some (.ifCond .lt 24, 3)) none) (cond (Nat.beq pc 39) (some (.iload_n 3, 1)) none)) (cond (Nat.blt pc 41) (cond (Nat.beq pc 40) (some (.aload_n 0, 1)) none) (cond (Nat.blt pc 44) (cond (Nat.beq pc 41) (some (.getfield 83, 3)) none) (cond (Nat.beq pc 44) (some (.if_icmp .gt 16, 3)) none))))) (cond (Nat.blt pc 53) (cond (Nat.blt pc 51) (cond (Nat.blt pc 48) (cond (Nat.beq pc 47) (some (.aload_n 0, 1)) none) (cond (Nat.beq pc 48) (some (.getfield 58, 3)) none)) (cond (Nat.blt pc 52) (cond (Nat.beq pc 51) (some (.iload_n 3, 1)) none) (cond (Nat.beq pc 52) (some (.baload, 1)) none))) (cond (Nat.blt pc 57) (cond (Nat.blt pc 56) (cond (Nat.beq pc 53) (some (.ifCond .eq 7, 3)) none) (cond (Nat.beq pc 56) (some (.iconst 1, 1)) none)) (cond (Nat.blt pc 60) (cond (Nat.beq pc 57) (some (.goto 4, 3)) none) (cond (Nat.blt pc 61) (cond (Nat.beq pc 60) (some (.iconst 0, 1)) none) (cond (Nat.beq pc 61) (some (.ireturn, 1)) none))))))) none
def cd_7 : Nat → Option (Instr × Nat) := fun pc => cond (Nat.blt pc 68) (cond (Nat.blt pc 36) (cond (Nat.blt pc 18) (cond (Nat.blt pc 9) (cond (Nat.blt pc 4) (cond (Nat.blt pc 1) (cond (Nat.beq pc 0) (some (.iload_n 1, 1)) none) (cond (Nat.beq pc 1) (some (.ifCond .lt 11, 3)) none)) (cond (Nat.blt pc 5) (cond (Nat.beq pc 4) (some (.iload_n 1, 1)) none) (cond (Nat.blt pc 6) (cond (Nat.beq pc 5) (some (.aload_n 0, 1)) none) (cond (Nat.beq pc 6) (some (.getfield 83, 3)) none)))) (cond (Nat.blt pc 13) (cond (Nat.blt pc 12) (cond (Nat.beq pc 9) (some (.if_icmp .lt 5, 3)) none) (cond (Nat.beq pc 12) (some (.iconst (-1), 1)) none)) (cond (Nat.blt pc 14) (cond (Nat.beq pc 13) (some (.ireturn, 1)) none) (cond (Nat.blt pc 15) (cond (Nat.beq pc 14) (some (.aload_n 0, 1)) none) (cond (Nat.beq pc 15) (some (.getfield 7, 3)) none))))) (cond (Nat.blt pc 25) (cond (Nat.blt pc 20) (cond (Nat.blt pc 19) (cond (Nat.beq pc 18) (some (.iload_n 1, 1)) none) (cond (Nat.beq pc 19) (some (.iaload, 1)) none)) (cond (Nat.blt pc 21) (cond (Nat.beq pc 20) (some (.istore_n 2, 1)) none) (cond (Nat.blt pc 22) (cond (Nat.beq pc 21) (some (.iload_n 2, 1)) none) (cond (Nat.beq pc 22) (some (.ifCond .ne 8, 3)) none)))) (cond (Nat.blt pc 30) (cond (Nat.blt pc 26) (cond (Nat.beq pc 25) (some (.aload_n 0, 1)) none) (cond (Nat.blt pc 29) (cond (Nat.beq pc 26) (some (.getfield 83, 3)) none) (cond (Nat.beq pc 29) (some (.ireturn, 1)) none))) (cond (Nat.blt pc 31) (cond (Nat.beq pc 30) (some (.iload_n 2, 1)) none) (cond (Nat.blt pc 33) (cond (Nat.beq pc 31) (some (.bipush 10, 2)) none) (cond (Nat.beq pc 33) (some (.if_icmp .ne 14, 3)) none)))))) (cond (Nat.blt pc 53) (cond (Nat.blt pc 43) (cond (Nat.blt pc 38) (cond (Nat.blt pc 37) (cond (Nat.beq pc 36) (some (.aload_n 0, 1)) none) (cond (Nat.beq pc 37) (some (.aload_n 0, 1)) none)) (cond (Nat.blt pc 41) (cond (Nat.beq pc 38) (some (.getfield 13, 3)) none) (cond (Nat.blt pc 42) (cond (Nat.beq pc 41) (some (.iload_n 1, 1)) none) (cond (Nat.beq pc 42) (some (.iaload, 1)) none)))) (cond (Nat.blt pc 47) (cond (Nat.blt pc 46) (cond (Nat.beq pc 43) (some (.invokevirtual 108, 3)) none) (cond (Nat.beq pc 46) (some (.ireturn, 1)) none)) (cond (Nat.blt pc 48) (cond (Nat.beq pc 47) (some (.iload_n 2, 1)) none) (cond (Nat.blt pc 50) (cond (Nat.beq pc 48) (some (.bipush 11, 2)) none) (cond (Nat.beq pc 50) (some (.if_icmp .ne 14, 3)) none))))) (cond (Nat.blt pc 60) (cond (Nat.blt pc 55) (cond (Nat.blt pc 54) (cond (Nat.beq pc 53) (some (.aload_n 0, 1)) none) (cond (Nat.beq pc 54) (some (.aload_n 0, 1)) none)) (cond (Nat.blt pc 58) (cond (Nat.beq pc 55) (some (.getfield 16, 3)) none) (cond (Nat.blt pc 59) (cond (Nat.beq pc 58) (some (.iload_n 1, 1)) none) (cond (Nat.beq pc 59) (some (.iaload, 1)) none)))) (cond (Nat.blt pc 65) (cond (Nat.blt pc 63) (cond (Nat.beq pc 60) (some (.invokevirtual 108, 3)) none) (cond (Nat.blt pc 64) (cond (Nat.beq pc 63) (some (.ireturn, 1)) none) (cond (Nat.beq pc 64) (some (.iload_n 1, 1)) none))) (cond (Nat.blt pc 66) (cond (Nat.beq pc 65) (some (.iconst 1, 1)) none) (cond (Nat.blt pc 67) (cond (Nat.beq pc 66) (some (.iadd, 1)) none) (cond (Nat.beq pc 67) (some (.ireturn, 1)) none))))))) none
def cd_8 : Nat → Option (Instr × Nat) := fun pc => cond (Nat.blt pc 31) (cond (Nat.blt pc 18) (cond (Nat.blt pc 9) (cond (Nat.blt pc 4) (cond (Nat.blt pc 1) (cond (Nat.beq pc 0) (some (.iload_n 1, 1)) none) (cond (Nat.beq pc 1) (some (.ifCond .lt 11, 3)) none)) (cond (Nat.blt pc 5) (cond (Nat.beq pc 4) (some (.iload_n 1, 1)) none) (cond (Nat.blt pc 6) (cond (Nat.beq pc 5) (some (.aload_n 0, 1)) none) (cond (Nat.beq pc 6) (some (.getfield 83, 3)) none)))) (cond (Nat.blt pc 13) (cond (Nat.blt pc 12) (cond (Nat.beq pc 9) (some (.if_icmp .lt 5, 3)) none) (cond (Nat.beq pc 12) (some (.iconst (-1), 1)) none)) (cond (Nat.blt pc 14) (cond (Nat.beq pc 13) (some (.ireturn, 1)) none) (cond (Nat.blt pc 15) (cond (Nat.beq pc 14) (some (.aload_n 0, 1)) none) (cond (Nat.beq pc 15) (some (.getfield 7, 3)) none))))) (cond (Nat.blt pc 26) (cond (Nat.blt pc 20) (cond (Nat.blt pc 19) (cond (Nat.beq pc 18) (some (.iload_n 1, 1)) none) (cond (Nat.beq pc 19) (some (.iaload, 1)) none)) (cond (Nat.blt pc 22) (cond (Nat.beq pc 20) (some (.bipush 11, 2)) none) (cond (Nat.blt pc 25) (cond (Nat.beq pc 22) (some (.if_icmp .ne 7, 3)) none) (cond (Nat.beq pc 25) (some (.iload_n 1, 1)) none)))) (cond (Nat.blt pc 28) (cond (Nat.blt pc 27) (cond (Nat.beq pc 26) (some (.iconst 1, 1)) none) (cond (Nat.beq pc 27) (some (.iadd, 1)) none)) (cond (Nat.blt pc 29) (cond (Nat.beq pc 28) (some (.ireturn, 1)) none) (cond (Nat.blt pc 30) (cond (Nat.beq pc 29) (some (.iconst (-1), 1)) none) (cond (Nat.beq pc 30) (some (.ireturn, 1)) none)))))) none
def cd_9 : Nat → Option (Instr × Nat) := fun pc => cond (Nat.blt pc 150) (cond (Nat.blt pc 69) (cond (Nat.blt pc 34) (cond (Nat.blt pc 16) (cond (Nat.blt pc 7) (cond (Nat.blt pc 4) (cond (Nat.blt pc 1) (cond (Nat.beq pc 0) (some (.aload_n 0, 1)) none) (cond (Nat.beq pc 1) (some (.invokevirtual 130, 3)) none)) (cond (Nat.blt pc 5) (cond (Nat.beq pc 4) (some (.lstore_n 1, 1)) none) (cond (Nat.blt pc 6) (cond (Nat.beq pc 5) (some (.iconst 0, 1)) none) (cond (Nat.beq pc 6) (some (.istore_n 3, 1)) none)))) (cond (Nat.blt pc 9) (cond (Nat.blt pc 8) (cond (Nat.beq pc 7) (some (.iload_n 3, 1)) none) (cond (Nat.beq pc 8) (some (.aload_n 0, 1)) none)) (cond (Nat.blt pc 12) (cond (Nat.beq pc 9) (some (.getfield 83, 3)) none) (cond (Nat.blt pc 15) (cond (Nat.beq pc 12) (some (.if_icmp .ge 29, 3)) none) (cond (Nat.beq pc 15) (some (.aload_n 0, 1)) none))))) (cond (Nat.blt pc 25) (cond (Nat.blt pc 20) (cond (Nat.blt pc 19) (cond (Nat.beq pc 16) (some (.getfield 62, 3)) none) (cond (Nat.beq pc 19) (some (.iload_n 3, 1)) none)) (cond (Nat.blt pc 21) (cond (Nat.beq pc 20) (some (.aload_n 0, 1)) none) (cond (Nat.blt pc 24) (cond (Nat.beq pc 21) (some (.getfield 58, 3)) none) (cond (Nat.beq pc 24) (some (.iload_n 3, 1)) none)))) (cond (Nat.blt pc 29) (cond (Nat.blt pc 26) (cond (Nat.beq pc 25) (some (.baload, 1)) none) (cond (Nat.beq pc 26) (some (.ifCond .eq 7, 3)) none)) (cond (Nat.blt pc 30) (cond (Nat.beq pc 29) (some (.lload_n 1, 1)) none) (cond (Nat.blt pc 33) (cond (Nat.beq pc 30) (some (.goto 4, 3)) none) (cond (Nat.beq pc 33) (some (.lconst 0, 1)) none)))))) (cond (Nat.blt pc 54) (cond (Nat.blt pc 45) (cond (Nat.blt pc 38) (cond (Nat.blt pc 35) (cond (Nat.beq pc 34) (some (.lastore, 1)) none) (cond (Nat.beq pc 35) (some (.iinc 3 1, 3)) none)) (cond (Nat.blt pc 41) (cond (Nat.beq pc 38) (some (.goto (-31), 3)) none) (cond (Nat.blt pc 42) (cond (Nat.beq pc 41) (some (.aload_n 0, 1)) none) (cond (Nat.beq pc 42) (some (.getfield 62, 3)) none)))) (cond (Nat.blt pc 49) (cond (Nat.blt pc 46) (cond (Nat.beq pc 45) (some (.aload_n 0, 1)) none) (cond (Nat.beq pc 46) (some (.getfield 83, 3)) none)) (cond (Nat.blt pc 50) (cond (Nat.beq pc 49) (some (.lconst 1, 1)) none) (cond (Nat.blt pc 51) (cond (Nat.beq pc 50) (some (.aload_n 0, 1)) none) (cond (Nat.beq pc 51) (some (.getfield 83, 3)) none))))) (cond (Nat.blt pc 59) (cond (Nat.blt pc 56) (cond (Nat.blt pc 55) (cond (Nat.beq pc 54) (some (.lshl, 1)) none) (cond (Nat.beq pc 55) (some (.lastore, 1)) none)) (cond (Nat.blt pc 57) (cond (Nat.beq pc 56) (some (.iconst 0, 1)) none) (cond (Nat.blt pc 58) (cond (Nat.beq pc 57) (some (.istore_n 3, 1)) none) (cond (Nat.beq pc 58) (some (.iload_n 3, 1)) none)))) (cond (Nat.blt pc 65) (cond (Nat.blt pc 62) (cond (Nat.beq pc 59) (some (.sipush 1200, 3)) none) (cond (Nat.beq pc 62) (some (.if_icmp .ge 87, 3)) none)) (cond (Nat.blt pc 66) (cond (Nat.beq pc 65) (some (.iconst 0, 1)) none) (cond (Nat.blt pc 68) (cond (Nat.beq pc 66) (some (.istore 4, 2)) none) (cond (Nat.beq pc 68) (some (.aload_n 0, 1)) none))))))) (cond (Nat.blt pc 106) (cond (Nat.blt pc 88) (cond (Nat.blt pc 78) (cond (Nat.blt pc 73) (cond (Nat.blt pc 72) (cond (Nat.beq pc 69) (some (.getfield 83, 3)) none) (cond (Nat.beq pc 72) (some (.iconst 1, 1)) none)) (cond (Nat.blt pc 74) (cond (Nat.beq pc 73) (some (.isub, 1)) none) (cond (Nat.blt pc 76) (cond (Nat.beq pc 74) (some (.istore 5, 2)) none) (cond (Nat.beq pc 76) (some (.iload 5, 2)) none)))) (cond (Nat.blt pc 82) (cond (Nat.blt pc 81) (cond (Nat.beq pc 78) (some (.ifCond .lt 57, 3)) none) (cond (Nat.beq pc 81) (some (.aload_n 0, 1)) none)) (cond (Nat.blt pc 85) (cond (Nat.beq pc 82) (some (.getfield 58, 3)) none) (cond (Nat.blt pc 87) (cond (Nat.beq pc 85) (some (.iload 5, 2)) none) (cond (Nat.beq pc 87) (some (.baload, 1)) none))))) (cond (Nat.blt pc 96) (cond (Nat.blt pc 92) (cond (Nat.blt pc 91) (cond (Nat.beq pc 88) (some (.ifCond .eq 41, 3)) none) (cond (Nat.beq pc 91) (some (.lconst 1, 1)) none)) (cond (Nat.blt pc 94) (cond (Nat.beq pc 92) (some (.iload 5, 2)) none) (cond (Nat.blt pc 95) (cond (Nat.beq pc 94) (some (.lshl, 1)) none) (cond (Nat.beq pc 95) (some (.aload_n 0, 1)) none)))) (cond (Nat.blt pc 101) (cond (Nat.blt pc 98) (cond (Nat.beq pc 96) (some (.iload 5, 2)) none) (cond (Nat.beq pc 98) (some (.invokevirtual 134, 3)) none)) (cond (Nat.blt pc 102) (cond (Nat.beq pc 101) (some (.lor, 1)) none) (cond (Nat.blt pc 104) (cond (Nat.beq pc 102) (some (.lstore 6, 2)) none) (cond (Nat.beq pc 104) (some (.lload 6, 2)) none)))))) (cond (Nat.blt pc 125) (cond (Nat.blt pc 114) (cond (Nat.blt pc 110) (cond (Nat.blt pc 107) (cond (Nat.beq pc 106) (some (.aload_n 0, 1)) none) (cond (Nat.beq pc 107) (some (.getfield 62, 3)) none)) (cond (Nat.blt pc 112) (cond (Nat.beq pc 110) (some (.iload 5, 2)) none) (cond (Nat.blt pc 113) (cond (Nat.beq pc 112) (some (.laload, 1)) none) (cond (Nat.beq pc 113) (some (.lcmp, 1)) none)))) (cond (Nat.blt pc 118) (cond (Nat.blt pc 117) (cond (Nat.beq pc 114) (some (.ifCond .eq 15, 3)) none) (cond (Nat.beq pc 117) (some (.aload_n 0, 1)) none)) (cond (Nat.blt pc 121) (cond (Nat.beq pc 118) (some (.getfield 62, 3)) none) (cond (Nat.blt pc 123) (cond (Nat.beq pc 121) (some (.iload 5, 2)) none) (cond (Nat.beq pc 123) (some (.lload 6, 2)) none))))) (cond (Nat.blt pc 135) (cond (Nat.blt pc 127) (cond (Nat.blt pc 126) (cond (Nat.beq pc 125) (some (.lastore, 1)) none) (cond (Nat.beq pc 126) (some (.iconst 1, 1)) none)) (cond (Nat.blt pc 129) (cond (Nat.beq pc 127) (some (.istore 4, 2)) none) (cond (Nat.blt pc 132) (cond (Nat.beq pc 129) (some (.iinc 5 (-1), 3)) none) (cond (Nat.beq pc 132) (some (.goto (-56), 3)) none)))) (cond (Nat.blt pc 143) (cond (Nat.blt pc 137) (cond (Nat.beq pc 135) (some (.iload 4, 2)) none) (cond (Nat.blt pc 140) (cond (Nat.beq pc 137) (some (.ifCond .ne 6, 3)) none) (cond (Nat.beq pc 140) (some (.goto 9, 3)) none))) (cond (Nat.blt pc 146) (cond (Nat.beq pc 143) (some (.iinc 3 1, 3)) none) (cond (Nat.blt pc 149) (cond (Nat.beq pc 146) (some (.goto (-88), 3)) none) (cond (Nat.beq pc 149) (some (.return_, 1)) none)))))))) none
def cd_10 : Nat → Option (Instr × Nat) := fun pc => cond (Nat.blt pc 11) (cond (Nat.blt pc 6) (cond (Nat.blt pc 2) (cond (Nat.blt pc 1) (cond (Nat.beq pc 0) (some (.lconst 1, 1)) none) (cond (Nat.beq pc 1) (some (.aload_n 0, 1)) none)) (cond (Nat.blt pc 5) (cond (Nat.beq pc 2) (some (.getfield 83, 3)) none) (cond (Nat.beq pc 5) (some (.iconst 1, 1)) none))) (cond (Nat.blt pc 8) (cond (Nat.blt pc 7) (cond (Nat.beq pc 6) (some (.iadd, 1)) none) (cond (Nat.beq pc 7) (some (.lshl, 1)) none)) (cond (Nat.blt pc 9) (cond (Nat.beq pc 8) (some (.lconst 1, 1)) none) (cond (Nat.blt pc 10) (cond (Nat.beq pc 9) (some (.lsub, 1)) none) (cond (Nat.beq pc 10) (some (.lreturn, 1)) none))))) none
def cd_11 : Nat → Option (Instr × Nat) := fun pc => cond (Nat.blt pc 89) (cond (Nat.blt pc 45) (cond (Nat.blt pc 21) (cond (Nat.blt pc 10) (cond (Nat.blt pc 5) (cond (Nat.blt pc 1) (cond (Nat.beq pc 0) (some (.aload_n 0, 1)) none) (cond (Nat.blt pc 4) (cond (Nat.beq pc 1) (some (.invokevirtual 130, 3)) none) (cond (Nat.beq pc 4) (some (.lstore_n 2, 1)) none))) (cond (Nat.blt pc 6) (cond (Nat.beq pc 5) (some (.aload_n 0, 1)) none) (cond (Nat.blt pc 7) (cond (Nat.beq pc 6) (some (.iload_n 1, 1)) none) (cond (Nat.beq pc 7) (some (.invokevirtual 120, 3)) none)))) (cond (Nat.blt pc 14) (cond (Nat.blt pc 12) (cond (Nat.beq pc 10) (some (.istore 4, 2)) none) (cond (Nat.blt pc 13) (cond (Nat.beq pc 12) (some (.aload_n 0, 1)) none) (cond (Nat.beq pc 13) (some (.iload_n 1, 1)) none))) (cond (Nat.blt pc 17) (cond (Nat.beq pc 14) (some (.invokevirtual 123, 3)) none) (cond (Nat.blt pc 19) (cond (Nat.beq pc 17) (some (.istore 5, 2)) none) (cond (Nat.beq pc 19) (some (.iload 4, 2)) none))))) (cond (Nat.blt pc 34) (cond (Nat.blt pc 27) (cond (Nat.blt pc 24) (cond (Nat.beq pc 21) (some (.ifCond .lt 32, 3)) none) (cond (Nat.blt pc 26) (cond (Nat.beq pc 24) (some (.iload 4, 2)) none) (cond (Nat.beq pc 26) (some (.aload_n 0, 1)) none))) (cond (Nat.blt pc 30) (cond (Nat.beq pc 27) (some (.getfield 83, 3)) none) (cond (Nat.blt pc 33) (cond (Nat.beq pc 30) (some (.if_icmp .gt 23, 3)) none) (cond (Nat.beq pc 33) (some (.aload_n 0, 1)) none)))) (cond (Nat.blt pc 40) (cond (Nat.blt pc 37) (cond (Nat.beq pc 34) (some (.getfield 58, 3)) none) (cond (Nat.blt pc 39) (cond (Nat.beq pc 37) (some (.iload 4, 2)) none) (cond (Nat.beq pc 39) (some (.baload, 1)) none))) (cond (Nat.blt pc 43) (cond (Nat.beq pc 40) (some (.ifCond .eq 13, 3)) none) (cond (Nat.blt pc 44) (cond (Nat.beq pc 43) (some (.lload_n 2, 1)) none) (cond (Nat.beq pc 44) (some (.aload_n 0, 1)) none)))))) (cond (Nat.blt pc 68) (cond (Nat.blt pc 55) (cond (Nat.blt pc 51) (cond (Nat.blt pc 48) (cond (Nat.beq pc 45) (some (.getfield 62, 3)) none) (cond (Nat.blt pc 50) (cond (Nat.beq pc 48) (some (.iload 4, 2)) none) (cond (Nat.beq pc 50) (some (.laload, 1)) none))) (cond (Nat.blt pc 52) (cond (Nat.beq pc 51) (some (.land, 1)) none) (cond (Nat.blt pc 53) (cond (Nat.beq pc 52) (some (.lstore_n 2, 1)) none) (cond (Nat.beq pc 53) (some (.iload 5, 2)) none)))) (cond (Nat.blt pc 61) (cond (Nat.blt pc 58) (cond (Nat.beq pc 55) (some (.ifCond .lt 32, 3)) none) (cond (Nat.blt pc 60) (cond (Nat.beq pc 58) (some (.iload 5, 2)) none) (cond (Nat.beq pc 60) (some (.aload_n 0, 1)) none))) (cond (Nat.blt pc 64) (cond (Nat.beq pc 61) (some (.getfield 83, 3)) none) (cond (Nat.blt pc 67) (cond (Nat.beq pc 64) (some (.if_icmp .gt 23, 3)) none) (cond (Nat.beq pc 67) (some (.aload_n 0, 1)) none))))) (cond (Nat.blt pc 79) (cond (Nat.blt pc 74) (cond (Nat.blt pc 71) (cond (Nat.beq pc 68) (some (.getfield 58, 3)) none) (cond (Nat.blt pc 73) (cond (Nat.beq pc 71) (some (.iload 5, 2)) none) (cond (Nat.beq pc 73) (some (.baload, 1)) none))) (cond (Nat.blt pc 77) (cond (Nat.beq pc 74) (some (.ifCond .eq 13, 3)) none) (cond (Nat.blt pc 78) (cond (Nat.beq pc 77) (some (.lload_n 2, 1)) none) (cond (Nat.beq pc 78) (some (.aload_n 0, 1)) none)))) (cond (Nat.blt pc 85) (cond (Nat.blt pc 82) (cond (Nat.beq pc 79) (some (.getfield 62, 3)) none) (cond (Nat.blt pc 84) (cond (Nat.beq pc 82) (some (.iload 5, 2)) none) (cond (Nat.beq pc 84) (some (.laload, 1)) none))) (cond (Nat.blt pc 87) (cond (Nat.blt pc 86) (cond (Nat.beq pc 85) (some (.land, 1)) none) (cond (Nat.beq pc 86) (some (.lstore_n 2, 1)) none)) (cond (Nat.blt pc 88) (cond (Nat.beq pc 87) (some (.lload_n 2, 1)) none) (cond (Nat.beq pc 88) (some (.lreturn, 1)) none))))))) none
def cd_12 : Nat → Option (Instr × Nat) := fun pc => cond (Nat.blt pc 78) (cond (Nat.blt pc 35) (cond (Nat.blt pc 19) (cond (Nat.blt pc 9) (cond (Nat.blt pc 4) (cond (Nat.blt pc 1) (cond (Nat.beq pc 0) (some (.aload_n 0, 1)) none) (cond (Nat.beq pc 1) (some (.getfield 58, 3)) none)) (cond (Nat.blt pc 5) (cond (Nat.beq pc 4) (some (.iload_n 1, 1)) none) (cond (Nat.blt pc 6) (cond (Nat.beq pc 5) (some (.baload, 1)) none) (cond (Nat.beq pc 6) (some (.ifCond .ne 8, 3)) none)))) (cond (Nat.blt pc 14) (cond (Nat.blt pc 10) (cond (Nat.beq pc 9) (some (.aload_n 0, 1)) none) (cond (Nat.blt pc 13) (cond (Nat.beq pc 10) (some (.getfield 83, 3)) none) (cond (Nat.beq pc 13) (some (.ireturn, 1)) none))) (cond (Nat.blt pc 15) (cond (Nat.beq pc 14) (some (.aload_n 0, 1)) none) (cond (Nat.blt pc 18) (cond (Nat.beq pc 15) (some (.getfield 62, 3)) none) (cond (Nat.beq pc 18) (some (.iload_n 1, 1)) none))))) (cond (Nat.blt pc 27) (cond (Nat.blt pc 22) (cond (Nat.blt pc 20) (cond (Nat.beq pc 19) (some (.laload, 1)) none) (cond (Nat.blt pc 21) (cond (Nat.beq pc 20) (some (.lconst 1, 1)) none) (cond (Nat.beq pc 21) (some (.iload_n 1, 1)) none))) (cond (Nat.blt pc 23) (cond (Nat.beq pc 22) (some (.lshl, 1)) none) (cond (Nat.blt pc 26) (cond (Nat.beq pc 23) (some (.ldc2_w 138, 3)) none) (cond (Nat.beq pc 26) (some (.lxor, 1)) none)))) (cond (Nat.blt pc 30) (cond (Nat.blt pc 28) (cond (Nat.beq pc 27) (some (.land, 1)) none) (cond (Nat.blt pc 29) (cond (Nat.beq pc 28) (some (.lstore_n 2, 1)) none) (cond (Nat.beq pc 29) (some (.iconst 0, 1)) none))) (cond (Nat.blt pc 32) (cond (Nat.beq pc 30) (some (.istore 4, 2)) none) (cond (Nat.blt pc 34) (cond (Nat.beq pc 32) (some (.iload 4, 2)) none) (cond (Nat.beq pc 34) (some (.aload_n 0, 1)) none)))))) (cond (Nat.blt pc 56) (cond (Nat.blt pc 46) (cond (Nat.blt pc 42) (cond (Nat.blt pc 38) (cond (Nat.beq pc 35) (some (.getfield 83, 3)) none) (cond (Nat.blt pc 41) (cond (Nat.beq pc 38) (some (.if_icmp .gt 35, 3)) none) (cond (Nat.beq pc 41) (some (.lload_n 2, 1)) none))) (cond (Nat.blt pc 44) (cond (Nat.beq pc 42) (some (.iload 4, 2)) none) (cond (Nat.blt pc 45) (cond (Nat.beq pc 44) (some (.lushr, 1)) none) (cond (Nat.beq pc 45) (some (.lconst 1, 1)) none)))) (cond (Nat.blt pc 49) (cond (Nat.blt pc 47) (cond (Nat.beq pc 46) (some (.land, 1)) none) (cond (Nat.blt pc 48) (cond (Nat.beq pc 47) (some (.lconst 0, 1)) none) (cond (Nat.beq pc 48) (some (.lcmp, 1)) none))) (cond (Nat.blt pc 52) (cond (Nat.beq pc 49) (some (.ifCond .eq 18, 3)) none) (cond (Nat.blt pc 53) (cond (Nat.beq pc 52) (some (.aload_n 0, 1)) none) (cond (Nat.beq pc 53) (some (.getfield 62, 3)) none))))) (cond (Nat.blt pc 66) (cond (Nat.blt pc 60) (cond (Nat.blt pc 58) (cond (Nat.beq pc 56) (some (.iload 4, 2)) none) (cond (Nat.blt pc 59) (cond (Nat.beq pc 58) (some (.laload, 1)) none) (cond (Nat.beq pc 59) (some (.lload_n 2, 1)) none))) (cond (Nat.blt pc 61) (cond (Nat.beq pc 60) (some (.lcmp, 1)) none) (cond (Nat.blt pc 64) (cond (Nat.beq pc 61) (some (.ifCond .ne 6, 3)) none) (cond (Nat.beq pc 64) (some (.iload 4, 2)) none)))) (cond (Nat.blt pc 73) (cond (Nat.blt pc 67) (cond (Nat.beq pc 66) (some (.ireturn, 1)) none) (cond (Nat.blt pc 70) (cond (Nat.beq pc 67) (some (.iinc 4 1, 3)) none) (cond (Nat.beq pc 70) (some (.goto (-38), 3)) none))) (cond (Nat.blt pc 74) (cond (Nat.beq pc 73) (some (.aload_n 0, 1)) none) (cond (Nat.blt pc 77) (cond (Nat.beq pc 74) (some (.getfield 83, 3)) none) (cond (Nat.beq pc 77) (some (.ireturn, 1)) none))))))) none
def cd_13 : Nat → Option (Instr × Nat) := fun pc => cond (Nat.blt pc 17) (cond (Nat.blt pc 8) (cond (Nat.blt pc 4) (cond (Nat.blt pc 1) (cond (Nat.beq pc 0) (some (.aload_n 0, 1)) none) (cond (Nat.beq pc 1) (some (.getfield 77, 3)) none)) (cond (Nat.blt pc 5) (cond (Nat.beq pc 4) (some (.iconst 3, 1)) none) (cond (Nat.beq pc 5) (some (.if_icmp .ne 10, 3)) none))) (cond (Nat.blt pc 12) (cond (Nat.blt pc 9) (cond (Nat.beq pc 8) (some (.aload_n 0, 1)) none) (cond (Nat.beq pc 9) (some (.getfield 80, 3)) none)) (cond (Nat.blt pc 15) (cond (Nat.beq pc 12) (some (.goto 4, 3)) none) (cond (Nat.blt pc 16) (cond (Nat.beq pc 15) (some (.iconst 0, 1)) none) (cond (Nat.beq pc 16) (some (.ireturn, 1)) none))))) none
def cd_14 : Nat → Option (Instr × Nat) := fun pc => cond (Nat.blt pc 16) (cond (Nat.blt pc 8) (cond (Nat.blt pc 4) (cond (Nat.blt pc 1) (cond (Nat.beq pc 0) (some (.aload_n 0, 1)) none) (cond (Nat.beq pc 1) (some (.getfield 77, 3)) none)) (cond (Nat.blt pc 7) (cond (Nat.beq pc 4) (some (.ifCond .ne 7, 3)) none) (cond (Nat.beq pc 7) (some (.iconst 0, 1)) none))) (cond (Nat.blt pc 12) (cond (Nat.blt pc 11) (cond (Nat.beq pc 8) (some (.goto 7, 3)) none) (cond (Nat.beq pc 11) (some (.aload_n 0, 1)) none)) (cond (Nat.blt pc 15) (cond (Nat.beq pc 12) (some (.getfield 89, 3)) none) (cond (Nat.beq pc 15) (some (.ireturn, 1)) none)))) none
def cd_15 : Nat → Option (Instr × Nat) := fun pc => cond (Nat.blt pc 5) (cond (Nat.blt pc 1) (cond (Nat.beq pc 0) (some (.aload_n 0, 1)) none) (cond (Nat.blt pc 4) (cond (Nat.beq pc 1) (some (.getfield 92, 3)) none) (cond (Nat.beq pc 4) (some (.ireturn, 1)) none))) none
def cd_16 : Nat → Option (Instr × Nat) := fun pc => cond (Nat.blt pc 5) (cond (Nat.blt pc 1) (cond (Nat.beq pc 0) (some (.aload_n 0, 1)) none) (cond (Nat.blt pc 4) (cond (Nat.beq pc 1) (some (.invokevirtual 99, 3)) none) (cond (Nat.beq pc 4) (some (.ireturn, 1)) none))) none
def cd_17 : Nat → Option (Instr × Nat) := fun pc => cond (Nat.blt pc 21) (cond (Nat.blt pc 10) (cond (Nat.blt pc 7) (cond (Nat.blt pc 1) (cond (Nat.beq pc 0) (some (.aload_n 0, 1)) none) (cond (Nat.blt pc 4) (cond (Nat.beq pc 1) (some (.getfield 92, 3)) none) (cond (Nat.beq pc 4) (some (.ifCond .gt 5, 3)) none))) (cond (Nat.blt pc 8) (cond (Nat.beq pc 7) (some (.iconst 0, 1)) none) (cond (Nat.blt pc 9) (cond (Nat.beq pc 8) (some (.ireturn, 1)) none) (cond (Nat.beq pc 9) (some (.aload_n 0, 1)) none)))) (cond (Nat.blt pc 17) (cond (Nat.blt pc 13) (cond (Nat.beq pc 10) (some (.getfield 34, 3)) none) (cond (Nat.blt pc 14) (cond (Nat.beq pc 13) (some (.aload_n 0, 1)) none) (cond (Nat.beq pc 14) (some (.getfield 92, 3)) none))) (cond (Nat.blt pc 19) (cond (Nat.blt pc 18) (cond (Nat.beq pc 17) (some (.iconst 1, 1)) none) (cond (Nat.beq pc 18) (some (.isub, 1)) none)) (cond (Nat.blt pc 20) (cond (Nat.beq pc 19) (some (.iaload, 1)) none) (cond (Nat.beq pc 20) (some (.ireturn, 1)) none))))) none
def cd_18 : Nat → Option (Instr × Nat) := fun pc => cond (Nat.blt pc 5) (cond (Nat.blt pc 1) (cond (Nat.beq pc 0) (some (.aload_n 0, 1)) none) (cond (Nat.blt pc 4) (cond (Nat.beq pc 1) (some (.getfield 102, 3)) none) (cond (Nat.beq pc 4) (some (.ireturn, 1)) none))) none
def cd_19 : Nat → Option (Instr × Nat) := fun pc => cond (Nat.blt pc 5) (cond (Nat.blt pc 1) (cond (Nat.beq pc 0) (some (.aload_n 0, 1)) none) (cond (Nat.blt pc 4) (cond (Nat.beq pc 1) (some (.getfield 105, 3)) none) (cond (Nat.beq pc 4) (some (.ireturn, 1)) none))) none
def cd_20 : Nat → Option (Instr × Nat) := fun pc => cond (Nat.blt pc 21) (cond (Nat.blt pc 12) (cond (Nat.blt pc 5) (cond (Nat.blt pc 1) (cond (Nat.beq pc 0) (some (.iload_n 1, 1)) none) (cond (Nat.blt pc 4) (cond (Nat.beq pc 1) (some (.ifCond .lt 11, 3)) none) (cond (Nat.beq pc 4) (some (.iload_n 1, 1)) none))) (cond (Nat.blt pc 6) (cond (Nat.beq pc 5) (some (.aload_n 0, 1)) none) (cond (Nat.blt pc 9) (cond (Nat.beq pc 6) (some (.getfield 83, 3)) none) (cond (Nat.beq pc 9) (some (.if_icmp .lt 5, 3)) none)))) (cond (Nat.blt pc 15) (cond (Nat.blt pc 13) (cond (Nat.beq pc 12) (some (.iconst (-1), 1)) none) (cond (Nat.blt pc 14) (cond (Nat.beq pc 13) (some (.ireturn, 1)) none) (cond (Nat.beq pc 14) (some (.aload_n 0, 1)) none))) (cond (Nat.blt pc 19) (cond (Nat.blt pc 18) (cond (Nat.beq pc 15) (some (.getfield 55, 3)) none) (cond (Nat.beq pc 18) (some (.iload_n 1, 1)) none)) (cond (Nat.blt pc 20) (cond (Nat.beq pc 19) (some (.iaload, 1)) none) (cond (Nat.beq pc 20) (some (.ireturn, 1)) none))))) none
def cd_21 : Nat → Option (Instr × Nat) := fun pc => cond (Nat.blt pc 19) (cond (Nat.blt pc 11) (cond (Nat.blt pc 5) (cond (Nat.blt pc 1) (cond (Nat.beq pc 0) (some (.iload_n 1, 1)) none) (cond (Nat.blt pc 4) (cond (Nat.beq pc 1) (some (.ifCond .lt 9, 3)) none) (cond (Nat.beq pc 4) (some (.iload_n 1, 1)) none))) (cond (Nat.blt pc 7) (cond (Nat.beq pc 5) (some (.bipush 8, 2)) none) (cond (Nat.blt pc 10) (cond (Nat.beq pc 7) (some (.if_icmp .lt 5, 3)) none) (cond (Nat.beq pc 10) (some (.iconst 0, 1)) none)))) (cond (Nat.blt pc 16) (cond (Nat.blt pc 12) (cond (Nat.beq pc 11) (some (.ireturn, 1)) none) (cond (Nat.blt pc 13) (cond (Nat.beq pc 12) (some (.aload_n 0, 1)) none) (cond (Nat.beq pc 13) (some (.getfield 22, 3)) none))) (cond (Nat.blt pc 17) (cond (Nat.beq pc 16) (some (.iload_n 1, 1)) none) (cond (Nat.blt pc 18) (cond (Nat.beq pc 17) (some (.iaload, 1)) none) (cond (Nat.beq pc 18) (some (.ireturn, 1)) none))))) none
def cd_22 : Nat → Option (Instr × Nat) := fun pc => cond (Nat.blt pc 51) (cond (Nat.blt pc 25) (cond (Nat.blt pc 15) (cond (Nat.blt pc 8) (cond (Nat.blt pc 4) (cond (Nat.blt pc 1) (cond (Nat.beq pc 0) (some (.iload_n 1, 1)) none) (cond (Nat.beq pc 1) (some (.ifCond .ne 22, 3)) none)) (cond (Nat.blt pc 5) (cond (Nat.beq pc 4) (some (.iload_n 2, 1)) none) (cond (Nat.beq pc 5) (some (.ifCond .lt 9, 3)) none))) (cond (Nat.blt pc 11) (cond (Nat.blt pc 9) (cond (Nat.beq pc 8) (some (.iload_n 2, 1)) none) (cond (Nat.beq pc 9) (some (.bipush 8, 2)) none)) (cond (Nat.blt pc 14) (cond (Nat.beq pc 11) (some (.if_icmp .lt 5, 3)) none) (cond (Nat.beq pc 14) (some (.iconst (-1), 1)) none)))) (cond (Nat.blt pc 21) (cond (Nat.blt pc 17) (cond (Nat.blt pc 16) (cond (Nat.beq pc 15) (some (.ireturn, 1)) none) (cond (Nat.beq pc 16) (some (.aload_n 0, 1)) none)) (cond (Nat.blt pc 20) (cond (Nat.beq pc 17) (some (.getfield 25, 3)) none) (cond (Nat.beq pc 20) (some (.iload_n 2, 1)) none))) (cond (Nat.blt pc 23) (cond (Nat.blt pc 22) (cond (Nat.beq pc 21) (some (.iaload, 1)) none) (cond (Nat.beq pc 22) (some (.ireturn, 1)) none)) (cond (Nat.blt pc 24) (cond (Nat.beq pc 23) (some (.iload_n 1, 1)) none) (cond (Nat.beq pc 24) (some (.iconst 1, 1)) none))))) (cond (Nat.blt pc 41) (cond (Nat.blt pc 33) (cond (Nat.blt pc 29) (cond (Nat.blt pc 28) (cond (Nat.beq pc 25) (some (.if_icmp .ne 24, 3)) none) (cond (Nat.beq pc 28) (some (.iload_n 2, 1)) none)) (cond (Nat.blt pc 32) (cond (Nat.beq pc 29) (some (.ifCond .lt 11, 3)) none) (cond (Nat.beq pc 32) (some (.iload_n 2, 1)) none))) (cond (Nat.blt pc 37) (cond (Nat.blt pc 34) (cond (Nat.beq pc 33) (some (.aload_n 0, 1)) none) (cond (Nat.beq pc 34) (some (.getfield 74, 3)) none)) (cond (Nat.blt pc 40) (cond (Nat.beq pc 37) (some (.if_icmp .lt 5, 3)) none) (cond (Nat.beq pc 40) (some (.iconst (-1), 1)) none)))) (cond (Nat.blt pc 47) (cond (Nat.blt pc 43) (cond (Nat.blt pc 42) (cond (Nat.beq pc 41) (some (.ireturn, 1)) none) (cond (Nat.beq pc 42) (some (.aload_n 0, 1)) none)) (cond (Nat.blt pc 46) (cond (Nat.beq pc 43) (some (.getfield 31, 3)) none) (cond (Nat.beq pc 46) (some (.iload_n 2, 1)) none))) (cond (Nat.blt pc 49) (cond (Nat.blt pc 48) (cond (Nat.beq pc 47) (some (.iaload, 1)) none) (cond (Nat.beq pc 48) (some (.ireturn, 1)) none)) (cond (Nat.blt pc 50) (cond (Nat.beq pc 49) (some (.iconst (-1), 1)) none) (cond (Nat.beq pc 50) (some (.ireturn, 1)) none)))))) none
def cd_23 : Nat → Option (Instr × Nat) := fun pc => cond (Nat.blt pc 113) (cond (Nat.blt pc 57) (cond (Nat.blt pc 25) (cond (Nat.blt pc 11) (cond (Nat.blt pc 5) (cond (Nat.blt pc 1) (cond (Nat.beq pc 0) (some (.iload_n 1, 1)) none) (cond (Nat.blt pc 2) (cond (Nat.beq pc 1) (some (.iconst 1, 1)) none) (cond (Nat.beq pc 2) (some (.if_icmp .ge 5, 3)) none))) (cond (Nat.blt pc 7) (cond (Nat.blt pc 6) (cond (Nat.beq pc 5) (some (.iconst 0, 1)) none) (cond (Nat.beq pc 6) (some (.ireturn, 1)) none)) (cond (Nat.blt pc 8) (cond (Nat.beq pc 7) (some (.aload_n 0, 1)) none) (cond (Nat.beq pc 8) (some (.getfield 77, 3)) none)))) (cond (Nat.blt pc 19) (cond (Nat.blt pc 15) (cond (Nat.blt pc 12) (cond (Nat.beq pc 11) (some (.iconst 2, 1)) none) (cond (Nat.beq pc 12) (some (.if_icmp .eq 11, 3)) none)) (cond (Nat.blt pc 16) (cond (Nat.beq pc 15) (some (.aload_n 0, 1)) none) (cond (Nat.beq pc 16) (some (.getfield 77, 3)) none))) (cond (Nat.blt pc 23) (cond (Nat.blt pc 20) (cond (Nat.beq pc 19) (some (.iconst 3, 1)) none) (cond (Nat.beq pc 20) (some (.if_icmp .ne 5, 3)) none)) (cond (Nat.blt pc 24) (cond (Nat.beq pc 23) (some (.iconst 0, 1)) none) (cond (Nat.beq pc 24) (some (.ireturn, 1)) none))))) (cond (Nat.blt pc 41) (cond (Nat.blt pc 35) (cond (Nat.blt pc 29) (cond (Nat.blt pc 26) (cond (Nat.beq pc 25) (some (.iload_n 1, 1)) none) (cond (Nat.beq pc 26) (some (.sipush 256, 3)) none)) (cond (Nat.blt pc 32) (cond (Nat.beq pc 29) (some (.if_icmp .le 9, 3)) none) (cond (Nat.beq pc 32) (some (.sipush 256, 3)) none))) (cond (Nat.blt pc 39) (cond (Nat.blt pc 38) (cond (Nat.beq pc 35) (some (.goto 4, 3)) none) (cond (Nat.beq pc 38) (some (.iload_n 1, 1)) none)) (cond (Nat.blt pc 40) (cond (Nat.beq pc 39) (some (.istore_n 2, 1)) none) (cond (Nat.beq pc 40) (some (.aload_n 0, 1)) none)))) (cond (Nat.blt pc 49) (cond (Nat.blt pc 47) (cond (Nat.blt pc 44) (cond (Nat.beq pc 41) (some (.getfield 77, 3)) none) (cond (Nat.beq pc 44) (some (.ifCond .ne 32, 3)) none)) (cond (Nat.blt pc 48) (cond (Nat.beq pc 47) (some (.aload_n 0, 1)) none) (cond (Nat.beq pc 48) (some (.iconst 1, 1)) none))) (cond (Nat.blt pc 53) (cond (Nat.blt pc 52) (cond (Nat.beq pc 49) (some (.putfield 77, 3)) none) (cond (Nat.beq pc 52) (some (.aload_n 0, 1)) none)) (cond (Nat.blt pc 54) (cond (Nat.beq pc 53) (some (.iconst 0, 1)) none) (cond (Nat.beq pc 54) (some (.putfield 89, 3)) none)))))) (cond (Nat.blt pc 83) (cond (Nat.blt pc 71) (cond (Nat.blt pc 65) (cond (Nat.blt pc 61) (cond (Nat.blt pc 58) (cond (Nat.beq pc 57) (some (.aload_n 0, 1)) none) (cond (Nat.beq pc 58) (some (.getfield 83, 3)) none)) (cond (Nat.blt pc 64) (cond (Nat.beq pc 61) (some (.ifCond .ne 15, 3)) none) (cond (Nat.beq pc 64) (some (.aload_n 0, 1)) none))) (cond (Nat.blt pc 69) (cond (Nat.blt pc 66) (cond (Nat.beq pc 65) (some (.iconst 0, 1)) none) (cond (Nat.beq pc 66) (some (.putfield 92, 3)) none)) (cond (Nat.blt pc 70) (cond (Nat.beq pc 69) (some (.aload_n 0, 1)) none) (cond (Nat.beq pc 70) (some (.iconst 2, 1)) none)))) (cond (Nat.blt pc 77) (cond (Nat.blt pc 75) (cond (Nat.blt pc 74) (cond (Nat.beq pc 71) (some (.putfield 77, 3)) none) (cond (Nat.beq pc 74) (some (.iconst 0, 1)) none)) (cond (Nat.blt pc 76) (cond (Nat.beq pc 75) (some (.ireturn, 1)) none) (cond (Nat.beq pc 76) (some (.iconst 0, 1)) none))) (cond (Nat.blt pc 79) (cond (Nat.blt pc 78) (cond (Nat.beq pc 77) (some (.istore_n 3, 1)) none) (cond (Nat.beq pc 78) (some (.iconst 0, 1)) none)) (cond (Nat.blt pc 81) (cond (Nat.beq pc 79) (some (.istore 4, 2)) none) (cond (Nat.beq pc 81) (some (.iload 4, 2)) none))))) (cond (Nat.blt pc 99) (cond (Nat.blt pc 91) (cond (Nat.blt pc 87) (cond (Nat.blt pc 84) (cond (Nat.beq pc 83) (some (.iload_n 2, 1)) none) (cond (Nat.beq pc 84) (some (.if_icmp .ge 27, 3)) none)) (cond (Nat.blt pc 88) (cond (Nat.beq pc 87) (some (.aload_n 0, 1)) none) (cond (Nat.beq pc 88) (some (.getfield 77, 3)) none))) (cond (Nat.blt pc 95) (cond (Nat.blt pc 92) (cond (Nat.beq pc 91) (some (.iconst 1, 1)) none) (cond (Nat.beq pc 92) (some (.if_icmp .eq 6, 3)) none)) (cond (Nat.blt pc 98) (cond (Nat.beq pc 95) (some (.goto 16, 3)) none) (cond (Nat.beq pc 98) (some (.iload_n 3, 1)) none)))) (cond (Nat.blt pc 105) (cond (Nat.blt pc 103) (cond (Nat.blt pc 100) (cond (Nat.beq pc 99) (some (.aload_n 0, 1)) none) (cond (Nat.beq pc 100) (some (.invokevirtual 95, 3)) none)) (cond (Nat.blt pc 104) (cond (Nat.beq pc 103) (some (.iadd, 1)) none) (cond (Nat.beq pc 104) (some (.istore_n 3, 1)) none))) (cond (Nat.blt pc 111) (cond (Nat.blt pc 108) (cond (Nat.beq pc 105) (some (.iinc 4 1, 3)) none) (cond (Nat.beq pc 108) (some (.goto (-27), 3)) none)) (cond (Nat.blt pc 112) (cond (Nat.beq pc 111) (some (.iload_n 3, 1)) none) (cond (Nat.beq pc 112) (some (.ireturn, 1)) none))))))) none
def cd_24 : Nat → Option (Instr × Nat) := fun pc => cond (Nat.blt pc 148) (cond (Nat.blt pc 73) (cond (Nat.blt pc 37) (cond (Nat.blt pc 18) (cond (Nat.blt pc 9) (cond (Nat.blt pc 4) (cond (Nat.blt pc 1) (cond (Nat.beq pc 0) (some (.aload_n 0, 1)) none) (cond (Nat.beq pc 1) (some (.getfield 89, 3)) none)) (cond (Nat.blt pc 5) (cond (Nat.beq pc 4) (some (.istore_n 1, 1)) none) (cond (Nat.blt pc 6) (cond (Nat.beq pc 5) (some (.iload_n 1, 1)) none) (cond (Nat.beq pc 6) (some (.ifCond .lt 11, 3)) none)))) (cond (Nat.blt pc 11) (cond (Nat.blt pc 10) (cond (Nat.beq pc 9) (some (.iload_n 1, 1)) none) (cond (Nat.beq pc 10) (some (.aload_n 0, 1)) none)) (cond (Nat.blt pc 14) (cond (Nat.beq pc 11) (some (.getfield 83, 3)) none) (cond (Nat.blt pc 17) (cond (Nat.beq pc 14) (some (.if_icmp .lt 23, 3)) none) (cond (Nat.beq pc 17) (some (.aload_n 0, 1)) none))))) (cond (Nat.blt pc 27) (cond (Nat.blt pc 22) (cond (Nat.blt pc 19) (cond (Nat.beq pc 18) (some (.aload_n 0, 1)) none) (cond (Nat.beq pc 19) (some (.getfield 83, 3)) none)) (cond (Nat.blt pc 25) (cond (Nat.beq pc 22) (some (.putfield 89, 3)) none) (cond (Nat.blt pc 26) (cond (Nat.beq pc 25) (some (.aload_n 0, 1)) none) (cond (Nat.beq pc 26) (some (.iconst 0, 1)) none)))) (cond (Nat.blt pc 32) (cond (Nat.blt pc 30) (cond (Nat.beq pc 27) (some (.putfield 92, 3)) none) (cond (Nat.blt pc 31) (cond (Nat.beq pc 30) (some (.aload_n 0, 1)) none) (cond (Nat.beq pc 31) (some (.iconst 2, 1)) none))) (cond (Nat.blt pc 35) (cond (Nat.beq pc 32) (some (.putfield 77, 3)) none) (cond (Nat.blt pc 36) (cond (Nat.beq pc 35) (some (.iconst 0, 1)) none) (cond (Nat.beq pc 36) (some (.ireturn, 1)) none)))))) (cond (Nat.blt pc 56) (cond (Nat.blt pc 45) (cond (Nat.blt pc 39) (cond (Nat.blt pc 38) (cond (Nat.beq pc 37) (some (.iconst 0, 1)) none) (cond (Nat.beq pc 38) (some (.istore_n 2, 1)) none)) (cond (Nat.blt pc 40) (cond (Nat.beq pc 39) (some (.iload_n 2, 1)) none) (cond (Nat.blt pc 42) (cond (Nat.beq pc 40) (some (.bipush 16, 2)) none) (cond (Nat.beq pc 42) (some (.if_icmp .ge 41, 3)) none)))) (cond (Nat.blt pc 49) (cond (Nat.blt pc 46) (cond (Nat.beq pc 45) (some (.aload_n 0, 1)) none) (cond (Nat.beq pc 46) (some (.getfield 92, 3)) none)) (cond (Nat.blt pc 52) (cond (Nat.beq pc 49) (some (.ifCond .le 34, 3)) none) (cond (Nat.blt pc 53) (cond (Nat.beq pc 52) (some (.aload_n 0, 1)) none) (cond (Nat.beq pc 53) (some (.getfield 37, 3)) none))))) (cond (Nat.blt pc 63) (cond (Nat.blt pc 60) (cond (Nat.blt pc 57) (cond (Nat.beq pc 56) (some (.aload_n 0, 1)) none) (cond (Nat.beq pc 57) (some (.getfield 92, 3)) none)) (cond (Nat.blt pc 61) (cond (Nat.beq pc 60) (some (.iconst 1, 1)) none) (cond (Nat.blt pc 62) (cond (Nat.beq pc 61) (some (.isub, 1)) none) (cond (Nat.beq pc 62) (some (.iaload, 1)) none)))) (cond (Nat.blt pc 68) (cond (Nat.blt pc 64) (cond (Nat.beq pc 63) (some (.iload_n 1, 1)) none) (cond (Nat.blt pc 67) (cond (Nat.beq pc 64) (some (.if_icmp .ne 19, 3)) none) (cond (Nat.beq pc 67) (some (.aload_n 0, 1)) none))) (cond (Nat.blt pc 69) (cond (Nat.beq pc 68) (some (.aload_n 0, 1)) none) (cond (Nat.blt pc 72) (cond (Nat.beq pc 69) (some (.getfield 92, 3)) none) (cond (Nat.beq pc 72) (some (.iconst 1, 1)) none))))))) (cond (Nat.blt pc 110) (cond (Nat.blt pc 91) (cond (Nat.blt pc 84) (cond (Nat.blt pc 77) (cond (Nat.blt pc 74) (cond (Nat.beq pc 73) (some (.isub, 1)) none) (cond (Nat.beq pc 74) (some (.putfield 92, 3)) none)) (cond (Nat.blt pc 80) (cond (Nat.beq pc 77) (some (.iinc 2 1, 3)) none) (cond (Nat.blt pc 83) (cond (Nat.beq pc 80) (some (.goto (-41), 3)) none) (cond (Nat.beq pc 83) (some (.aload_n 0, 1)) none)))) (cond (Nat.blt pc 86) (cond (Nat.blt pc 85) (cond (Nat.beq pc 84) (some (.iload_n 1, 1)) none) (cond (Nat.beq pc 85) (some (.iconst 1, 1)) none)) (cond (Nat.blt pc 87) (cond (Nat.beq pc 86) (some (.iadd, 1)) none) (cond (Nat.blt pc 90) (cond (Nat.beq pc 87) (some (.putfield 140, 3)) none) (cond (Nat.beq pc 90) (some (.aload_n 0, 1)) none))))) (cond (Nat.blt pc 100) (cond (Nat.blt pc 95) (cond (Nat.blt pc 92) (cond (Nat.beq pc 91) (some (.iload_n 1, 1)) none) (cond (Nat.beq pc 92) (some (.invokevirtual 143, 3)) none)) (cond (Nat.blt pc 96) (cond (Nat.beq pc 95) (some (.istore_n 2, 1)) none) (cond (Nat.blt pc 97) (cond (Nat.beq pc 96) (some (.iload_n 2, 1)) none) (cond (Nat.beq pc 97) (some (.ifCond .eq 20, 3)) none)))) (cond (Nat.blt pc 105) (cond (Nat.blt pc 101) (cond (Nat.beq pc 100) (some (.aload_n 0, 1)) none) (cond (Nat.blt pc 102) (cond (Nat.beq pc 101) (some (.iconst 3, 1)) none) (cond (Nat.beq pc 102) (some (.putfield 77, 3)) none))) (cond (Nat.blt pc 106) (cond (Nat.beq pc 105) (some (.aload_n 0, 1)) none) (cond (Nat.blt pc 107) (cond (Nat.beq pc 106) (some (.iload_n 2, 1)) none) (cond (Nat.beq pc 107) (some (.putfield 80, 3)) none)))))) (cond (Nat.blt pc 129) (cond (Nat.blt pc 117) (cond (Nat.blt pc 112) (cond (Nat.blt pc 111) (cond (Nat.beq pc 110) (some (.aload_n 0, 1)) none) (cond (Nat.beq pc 111) (some (.iload_n 1, 1)) none)) (cond (Nat.blt pc 115) (cond (Nat.beq pc 112) (some (.putfield 89, 3)) none) (cond (Nat.blt pc 116) (cond (Nat.beq pc 115) (some (.iconst 0, 1)) none) (cond (Nat.beq pc 116) (some (.ireturn, 1)) none)))) (cond (Nat.blt pc 122) (cond (Nat.blt pc 118) (cond (Nat.beq pc 117) (some (.aload_n 0, 1)) none) (cond (Nat.blt pc 119) (cond (Nat.beq pc 118) (some (.aload_n 0, 1)) none) (cond (Nat.beq pc 119) (some (.getfield 140, 3)) none))) (cond (Nat.blt pc 125) (cond (Nat.beq pc 122) (some (.putfield 89, 3)) none) (cond (Nat.blt pc 126) (cond (Nat.beq pc 125) (some (.aload_n 0, 1)) none) (cond (Nat.beq pc 126) (some (.getfield 89, 3)) none))))) (cond (Nat.blt pc 138) (cond (Nat.blt pc 133) (cond (Nat.blt pc 130) (cond (Nat.beq pc 129) (some (.aload_n 0, 1)) none) (cond (Nat.beq pc 130) (some (.getfield 83, 3)) none)) (cond (Nat.blt pc 136) (cond (Nat.beq pc 133) (some (.if_icmp .ne 13, 3)) none) (cond (Nat.blt pc 137) (cond (Nat.beq pc 136) (some (.aload_n 0, 1)) none) (cond (Nat.beq pc 137) (some (.iconst 0, 1)) none)))) (cond (Nat.blt pc 143) (cond (Nat.blt pc 141) (cond (Nat.beq pc 138) (some (.putfield 92, 3)) none) (cond (Nat.blt pc 142) (cond (Nat.beq pc 141) (some (.aload_n 0, 1)) none) (cond (Nat.beq pc 142) (some (.iconst 2, 1)) none))) (cond (Nat.blt pc 146) (cond (Nat.beq pc 143) (some (.putfield 77, 3)) none) (cond (Nat.blt pc 147) (cond (Nat.beq pc 146) (some (.iconst 1, 1)) none) (cond (Nat.beq pc 147) (some (.ireturn, 1)) none)))))))) none
def cd_25 : Nat → Option (Instr × Nat) := fun pc => cond (Nat.blt pc 177) (cond (Nat.blt pc 125) (cond (Nat.blt pc 100) (cond (Nat.blt pc 85) (cond (Nat.blt pc 6) (cond (Nat.blt pc 4) (cond (Nat.blt pc 1) (cond (Nat.beq pc 0) (some (.aload_n 0, 1)) none) (cond (Nat.beq pc 1) (some (.getfield 7, 3)) none)) (cond (Nat.blt pc 5) (cond (Nat.beq pc 4) (some (.iload_n 1, 1)) none) (cond (Nat.beq pc 5) (some (.iaload, 1)) none))) (cond (Nat.blt pc 8) (cond (Nat.blt pc 7) (cond (Nat.beq pc 6) (some (.istore_n 2, 1)) none) (cond (Nat.beq pc 7) (some (.iload_n 2, 1)) none)) (cond (Nat.blt pc 84) (cond (Nat.beq pc 8) (some (.tableswitch 162 0 14 #[76, 86, 104, 162, 162, 162, 162, 162, 110, 116, 122, 138, 144, 150, 156], 76)) none) (cond (Nat.beq pc 84) (some (.aload_n 0, 1)) none)))) (cond (Nat.blt pc 93) (cond (Nat.blt pc 89) (cond (Nat.blt pc 86) (cond (Nat.beq pc 85) (some (.aload_n 0, 1)) none) (cond (Nat.beq pc 86) (some (.getfield 83, 3)) none)) (cond (Nat.blt pc 92) (cond (Nat.beq pc 89) (some (.putfield 140, 3)) none) (cond (Nat.beq pc 92) (some (.iconst 0, 1)) none))) (cond (Nat.blt pc 95) (cond (Nat.blt pc 94) (cond (Nat.beq pc 93) (some (.ireturn, 1)) none) (cond (Nat.beq pc 94) (some (.aload_n 0, 1)) none)) (cond (Nat.blt pc 96) (cond (Nat.beq pc 95) (some (.aload_n 0, 1)) none) (cond (Nat.blt pc 99) (cond (Nat.beq pc 96) (some (.getfield 13, 3)) none) (cond (Nat.beq pc 99) (some (.iload_n 1, 1)) none)))))) (cond (Nat.blt pc 112) (cond (Nat.blt pc 106) (cond (Nat.blt pc 102) (cond (Nat.blt pc 101) (cond (Nat.beq pc 100) (some (.iaload, 1)) none) (cond (Nat.beq pc 101) (some (.aload_n 0, 1)) none)) (cond (Nat.blt pc 105) (cond (Nat.beq pc 102) (some (.getfield 16, 3)) none) (cond (Nat.beq pc 105) (some (.iload_n 1, 1)) none))) (cond (Nat.blt pc 108) (cond (Nat.blt pc 107) (cond (Nat.beq pc 106) (some (.iaload, 1)) none) (cond (Nat.beq pc 107) (some (.iconst 0, 1)) none)) (cond (Nat.blt pc 111) (cond (Nat.beq pc 108) (some (.invokevirtual 146, 3)) none) (cond (Nat.beq pc 111) (some (.ireturn, 1)) none)))) (cond (Nat.blt pc 118) (cond (Nat.blt pc 114) (cond (Nat.blt pc 113) (cond (Nat.beq pc 112) (some (.aload_n 0, 1)) none) (cond (Nat.beq pc 113) (some (.iload_n 1, 1)) none)) (cond (Nat.blt pc 117) (cond (Nat.beq pc 114) (some (.invokevirtual 150, 3)) none) (cond (Nat.beq pc 117) (some (.ireturn, 1)) none))) (cond (Nat.blt pc 120) (cond (Nat.blt pc 119) (cond (Nat.beq pc 118) (some (.aload_n 0, 1)) none) (cond (Nat.beq pc 119) (some (.iload_n 1, 1)) none)) (cond (Nat.blt pc 123) (cond (Nat.beq pc 120) (some (.invokevirtual 153, 3)) none) (cond (Nat.blt pc 124) (cond (Nat.beq pc 123) (some (.ireturn, 1)) none) (cond (Nat.beq pc 124) (some (.aload_n 0, 1)) none))))))) (cond (Nat.blt pc 152) (cond (Nat.blt pc 137) (cond (Nat.blt pc 131) (cond (Nat.blt pc 129) (cond (Nat.blt pc 126) (cond (Nat.beq pc 125) (some (.iload_n 1, 1)) none) (cond (Nat.beq pc 126) (some (.invokevirtual 156, 3)) none)) (cond (Nat.blt pc 130) (cond (Nat.beq pc 129) (some (.ireturn, 1)) none) (cond (Nat.beq pc 130) (some (.aload_n 0, 1)) none))) (cond (Nat.blt pc 133) (cond (Nat.blt pc 132) (cond (Nat.beq pc 131) (some (.aload_n 0, 1)) none) (cond (Nat.beq pc 132) (some (.aload_n 0, 1)) none)) (cond (Nat.blt pc 136) (cond (Nat.beq pc 133) (some (.getfield 13, 3)) none) (cond (Nat.beq pc 136) (some (.iload_n 1, 1)) none)))) (cond (Nat.blt pc 145) (cond (Nat.blt pc 141) (cond (Nat.blt pc 138) (cond (Nat.beq pc 137) (some (.iaload, 1)) none) (cond (Nat.beq pc 138) (some (.invokevirtual 108, 3)) none)) (cond (Nat.blt pc 144) (cond (Nat.beq pc 141) (some (.putfield 140, 3)) none) (cond (Nat.beq pc 144) (some (.iconst 0, 1)) none))) (cond (Nat.blt pc 147) (cond (Nat.blt pc 146) (cond (Nat.beq pc 145) (some (.ireturn, 1)) none) (cond (Nat.beq pc 146) (some (.aload_n 0, 1)) none)) (cond (Nat.blt pc 148) (cond (Nat.beq pc 147) (some (.iload_n 1, 1)) none) (cond (Nat.blt pc 151) (cond (Nat.beq pc 148) (some (.invokevirtual 159, 3)) none) (cond (Nat.beq pc 151) (some (.ireturn, 1)) none)))))) (cond (Nat.blt pc 164) (cond (Nat.blt pc 158) (cond (Nat.blt pc 154) (cond (Nat.blt pc 153) (cond (Nat.beq pc 152) (some (.aload_n 0, 1)) none) (cond (Nat.beq pc 153) (some (.iload_n 1, 1)) none)) (cond (Nat.blt pc 157) (cond (Nat.beq pc 154) (some (.invokevirtual 162, 3)) none) (cond (Nat.beq pc 157) (some (.ireturn, 1)) none))) (cond (Nat.blt pc 160) (cond (Nat.blt pc 159) (cond (Nat.beq pc 158) (some (.aload_n 0, 1)) none) (cond (Nat.beq pc 159) (some (.iload_n 1, 1)) none)) (cond (Nat.blt pc 163) (cond (Nat.beq pc 160) (some (.invokevirtual 165, 3)) none) (cond (Nat.beq pc 163) (some (.ireturn, 1)) none)))) (cond (Nat.blt pc 170) (cond (Nat.blt pc 166) (cond (Nat.blt pc 165) (cond (Nat.beq pc 164) (some (.aload_n 0, 1)) none) (cond (Nat.beq pc 165) (some (.iload_n 1, 1)) none)) (cond (Nat.blt pc 169) (cond (Nat.beq pc 166) (some (.invokevirtual 168, 3)) none) (cond (Nat.beq pc 169) (some (.ireturn, 1)) none))) (cond (Nat.blt pc 172) (cond (Nat.blt pc 171) (cond (Nat.beq pc 170) (some (.aload_n 0, 1)) none) (cond (Nat.beq pc 171) (some (.iload_n 1, 1)) none)) (cond (Nat.blt pc 173) (cond (Nat.beq pc 172) (some (.iload_n 2, 1)) none) (cond (Nat.blt pc 176) (cond (Nat.beq pc 173) (some (.invokevirtual 171, 3)) none) (cond (Nat.beq pc 176) (some (.ireturn, 1)) none)))))))) none
def cd_26 : Nat → Option (Instr × Nat) := fun pc => cond (Nat.blt pc 92) (cond (Nat.blt pc 44) (cond (Nat.blt pc 19) (cond (Nat.blt pc 9) (cond (Nat.blt pc 5) (cond (Nat.blt pc 1) (cond (Nat.beq pc 0) (some (.aload_n 0, 1)) none) (cond (Nat.blt pc 4) (cond (Nat.beq pc 1) (some (.getfield 13, 3)) none) (cond (Nat.beq pc 4) (some (.iload_n 1, 1)) none))) (cond (Nat.blt pc 7) (cond (Nat.blt pc 6) (cond (Nat.beq pc 5) (some (.iaload, 1)) none) (cond (Nat.beq pc 6) (some (.iconst 3, 1)) none)) (cond (Nat.blt pc 8) (cond (Nat.beq pc 7) (some (.iand, 1)) none) (cond (Nat.beq pc 8) (some (.istore_n 2, 1)) none)))) (cond (Nat.blt pc 14) (cond (Nat.blt pc 10) (cond (Nat.beq pc 9) (some (.aload_n 0, 1)) none) (cond (Nat.blt pc 13) (cond (Nat.beq pc 10) (some (.getfield 16, 3)) none) (cond (Nat.beq pc 13) (some (.iload_n 1, 1)) none))) (cond (Nat.blt pc 17) (cond (Nat.blt pc 15) (cond (Nat.beq pc 14) (some (.iaload, 1)) none) (cond (Nat.beq pc 15) (some (.bipush 7, 2)) none)) (cond (Nat.blt pc 18) (cond (Nat.beq pc 17) (some (.iand, 1)) none) (cond (Nat.beq pc 18) (some (.istore_n 3, 1)) none))))) (cond (Nat.blt pc 30) (cond (Nat.blt pc 24) (cond (Nat.blt pc 20) (cond (Nat.beq pc 19) (some (.aload_n 0, 1)) none) (cond (Nat.blt pc 23) (cond (Nat.beq pc 20) (some (.invokevirtual 99, 3)) none) (cond (Nat.beq pc 23) (some (.aload_n 0, 1)) none))) (cond (Nat.blt pc 28) (cond (Nat.blt pc 27) (cond (Nat.beq pc 24) (some (.getfield 25, 3)) none) (cond (Nat.beq pc 27) (some (.iload_n 3, 1)) none)) (cond (Nat.blt pc 29) (cond (Nat.beq pc 28) (some (.iaload, 1)) none) (cond (Nat.beq pc 29) (some (.ior, 1)) none)))) (cond (Nat.blt pc 36) (cond (Nat.blt pc 33) (cond (Nat.blt pc 32) (cond (Nat.beq pc 30) (some (.istore 4, 2)) none) (cond (Nat.beq pc 32) (some (.aload_n 0, 1)) none)) (cond (Nat.blt pc 35) (cond (Nat.beq pc 33) (some (.iload 4, 2)) none) (cond (Nat.beq pc 35) (some (.iload_n 2, 1)) none))) (cond (Nat.blt pc 42) (cond (Nat.blt pc 39) (cond (Nat.beq pc 36) (some (.invokevirtual 175, 3)) none) (cond (Nat.beq pc 39) (some (.ifCond .ne 5, 3)) none)) (cond (Nat.blt pc 43) (cond (Nat.beq pc 42) (some (.iconst 2, 1)) none) (cond (Nat.beq pc 43) (some (.ireturn, 1)) none)))))) (cond (Nat.blt pc 69) (cond (Nat.blt pc 56) (cond (Nat.blt pc 50) (cond (Nat.blt pc 45) (cond (Nat.beq pc 44) (some (.aload_n 0, 1)) none) (cond (Nat.blt pc 48) (cond (Nat.beq pc 45) (some (.getfield 102, 3)) none) (cond (Nat.beq pc 48) (some (.bipush 32, 2)) none))) (cond (Nat.blt pc 54) (cond (Nat.blt pc 53) (cond (Nat.beq pc 50) (some (.if_icmp .lt 5, 3)) none) (cond (Nat.beq pc 53) (some (.iconst 5, 1)) none)) (cond (Nat.blt pc 55) (cond (Nat.beq pc 54) (some (.ireturn, 1)) none) (cond (Nat.beq pc 55) (some (.aload_n 0, 1)) none)))) (cond (Nat.blt pc 63) (cond (Nat.blt pc 59) (cond (Nat.beq pc 56) (some (.getfield 40, 3)) none) (cond (Nat.blt pc 60) (cond (Nat.beq pc 59) (some (.aload_n 0, 1)) none) (cond (Nat.beq pc 60) (some (.getfield 102, 3)) none))) (cond (Nat.blt pc 65) (cond (Nat.blt pc 64) (cond (Nat.beq pc 63) (some (.iload_n 2, 1)) none) (cond (Nat.beq pc 64) (some (.iastore, 1)) none)) (cond (Nat.blt pc 66) (cond (Nat.beq pc 65) (some (.aload_n 0, 1)) none) (cond (Nat.beq pc 66) (some (.getfield 43, 3)) none))))) (cond (Nat.blt pc 80) (cond (Nat.blt pc 74) (cond (Nat.blt pc 70) (cond (Nat.beq pc 69) (some (.aload_n 0, 1)) none) (cond (Nat.blt pc 73) (cond (Nat.beq pc 70) (some (.getfield 102, 3)) none) (cond (Nat.beq pc 73) (some (.aload_n 0, 1)) none))) (cond (Nat.blt pc 78) (cond (Nat.blt pc 77) (cond (Nat.beq pc 74) (some (.getfield 22, 3)) none) (cond (Nat.beq pc 77) (some (.iload_n 3, 1)) none)) (cond (Nat.blt pc 79) (cond (Nat.beq pc 78) (some (.iaload, 1)) none) (cond (Nat.beq pc 79) (some (.iastore, 1)) none)))) (cond (Nat.blt pc 86) (cond (Nat.blt pc 82) (cond (Nat.blt pc 81) (cond (Nat.beq pc 80) (some (.aload_n 0, 1)) none) (cond (Nat.beq pc 81) (some (.aload_n 0, 1)) none)) (cond (Nat.blt pc 85) (cond (Nat.beq pc 82) (some (.getfield 102, 3)) none) (cond (Nat.beq pc 85) (some (.iconst 1, 1)) none))) (cond (Nat.blt pc 90) (cond (Nat.blt pc 87) (cond (Nat.beq pc 86) (some (.iadd, 1)) none) (cond (Nat.beq pc 87) (some (.putfield 102, 3)) none)) (cond (Nat.blt pc 91) (cond (Nat.beq pc 90) (some (.iconst 0, 1)) none) (cond (Nat.beq pc 91) (some (.ireturn, 1)) none))))))) none
def cd_27 : Nat → Option (Instr × Nat) := fun pc => cond (Nat.blt pc 13) (cond (Nat.blt pc 4) (cond (Nat.blt pc 2) (cond (Nat.blt pc 1) (cond (Nat.beq pc 0) (some (.iload_n 1, 1)) none) (cond (Nat.beq pc 1) (some (.iload_n 2, 1)) none)) (cond (Nat.blt pc 3) (cond (Nat.beq pc 2) (some (.ior, 1)) none) (cond (Nat.beq pc 3) (some (.iload_n 2, 1)) none))) (cond (Nat.blt pc 8) (cond (Nat.blt pc 7) (cond (Nat.beq pc 4) (some (.if_icmp .ne 7, 3)) none) (cond (Nat.beq pc 7) (some (.iconst 1, 1)) none)) (cond (Nat.blt pc 11) (cond (Nat.beq pc 8) (some (.goto 4, 3)) none) (cond (Nat.blt pc 12) (cond (Nat.beq pc 11) (some (.iconst 0, 1)) none) (cond (Nat.beq pc 12) (some (.ireturn, 1)) none))))) none
def cd_28 : Nat → Option (Instr × Nat) := fun pc => cond (Nat.blt pc 51) (cond (Nat.blt pc 28) (cond (Nat.blt pc 12) (cond (Nat.blt pc 4) (cond (Nat.blt pc 1) (cond (Nat.beq pc 0) (some (.iload_n 1, 1)) none) (cond (Nat.blt pc 3) (cond (Nat.beq pc 1) (some (.bipush 7, 2)) none) (cond (Nat.beq pc 3) (some (.iand, 1)) none))) (cond (Nat.blt pc 7) (cond (Nat.blt pc 6) (cond (Nat.beq pc 4) (some (.istore 4, 2)) none) (cond (Nat.beq pc 6) (some (.aload_n 0, 1)) none)) (cond (Nat.blt pc 10) (cond (Nat.beq pc 7) (some (.invokevirtual 99, 3)) none) (cond (Nat.beq pc 10) (some (.istore 5, 2)) none)))) (cond (Nat.blt pc 19) (cond (Nat.blt pc 15) (cond (Nat.blt pc 13) (cond (Nat.beq pc 12) (some (.aload_n 0, 1)) none) (cond (Nat.beq pc 13) (some (.iload 5, 2)) none)) (cond (Nat.blt pc 16) (cond (Nat.beq pc 15) (some (.aload_n 0, 1)) none) (cond (Nat.beq pc 16) (some (.getfield 25, 3)) none))) (cond (Nat.blt pc 22) (cond (Nat.blt pc 21) (cond (Nat.beq pc 19) (some (.iload 4, 2)) none) (cond (Nat.beq pc 21) (some (.iaload, 1)) none)) (cond (Nat.blt pc 25) (cond (Nat.beq pc 22) (some (.invokevirtual 175, 3)) none) (cond (Nat.beq pc 25) (some (.ifCond .ne 5, 3)) none))))) (cond (Nat.blt pc 39) (cond (Nat.blt pc 34) (cond (Nat.blt pc 30) (cond (Nat.blt pc 29) (cond (Nat.beq pc 28) (some (.iconst 1, 1)) none) (cond (Nat.beq pc 29) (some (.ireturn, 1)) none)) (cond (Nat.blt pc 31) (cond (Nat.beq pc 30) (some (.aload_n 0, 1)) none) (cond (Nat.beq pc 31) (some (.getfield 22, 3)) none))) (cond (Nat.blt pc 37) (cond (Nat.blt pc 36) (cond (Nat.beq pc 34) (some (.iload 4, 2)) none) (cond (Nat.beq pc 36) (some (.iload_n 2, 1)) none)) (cond (Nat.blt pc 38) (cond (Nat.beq pc 37) (some (.iastore, 1)) none) (cond (Nat.beq pc 38) (some (.aload_n 0, 1)) none)))) (cond (Nat.blt pc 47) (cond (Nat.blt pc 44) (cond (Nat.blt pc 42) (cond (Nat.beq pc 39) (some (.getfield 25, 3)) none) (cond (Nat.beq pc 42) (some (.iload 4, 2)) none)) (cond (Nat.blt pc 46) (cond (Nat.beq pc 44) (some (.iload 5, 2)) none) (cond (Nat.beq pc 46) (some (.iload_n 3, 1)) none))) (cond (Nat.blt pc 49) (cond (Nat.blt pc 48) (cond (Nat.beq pc 47) (some (.ior, 1)) none) (cond (Nat.beq pc 48) (some (.iastore, 1)) none)) (cond (Nat.blt pc 50) (cond (Nat.beq pc 49) (some (.iconst 0, 1)) none) (cond (Nat.beq pc 50) (some (.ireturn, 1)) none)))))) none
def cd_29 : Nat → Option (Instr × Nat) := fun pc => cond (Nat.blt pc 38) (cond (Nat.blt pc 20) (cond (Nat.blt pc 9) (cond (Nat.blt pc 5) (cond (Nat.blt pc 1) (cond (Nat.beq pc 0) (some (.aload_n 0, 1)) none) (cond (Nat.blt pc 4) (cond (Nat.beq pc 1) (some (.getfield 13, 3)) none) (cond (Nat.beq pc 4) (some (.iload_n 1, 1)) none))) (cond (Nat.blt pc 6) (cond (Nat.beq pc 5) (some (.iaload, 1)) none) (cond (Nat.blt pc 8) (cond (Nat.beq pc 6) (some (.bipush 7, 2)) none) (cond (Nat.beq pc 8) (some (.iand, 1)) none)))) (cond (Nat.blt pc 14) (cond (Nat.blt pc 10) (cond (Nat.beq pc 9) (some (.istore_n 2, 1)) none) (cond (Nat.blt pc 11) (cond (Nat.beq pc 10) (some (.aload_n 0, 1)) none) (cond (Nat.beq pc 11) (some (.getfield 25, 3)) none))) (cond (Nat.blt pc 16) (cond (Nat.blt pc 15) (cond (Nat.beq pc 14) (some (.iload_n 2, 1)) none) (cond (Nat.beq pc 15) (some (.aload_n 0, 1)) none)) (cond (Nat.blt pc 19) (cond (Nat.beq pc 16) (some (.getfield 25, 3)) none) (cond (Nat.beq pc 19) (some (.iload_n 2, 1)) none))))) (cond (Nat.blt pc 29) (cond (Nat.blt pc 25) (cond (Nat.blt pc 21) (cond (Nat.beq pc 20) (some (.iaload, 1)) none) (cond (Nat.blt pc 22) (cond (Nat.beq pc 21) (some (.aload_n 0, 1)) none) (cond (Nat.beq pc 22) (some (.getfield 16, 3)) none))) (cond (Nat.blt pc 27) (cond (Nat.blt pc 26) (cond (Nat.beq pc 25) (some (.iload_n 1, 1)) none) (cond (Nat.beq pc 26) (some (.iaload, 1)) none)) (cond (Nat.blt pc 28) (cond (Nat.beq pc 27) (some (.iconst 3, 1)) none) (cond (Nat.beq pc 28) (some (.iand, 1)) none)))) (cond (Nat.blt pc 34) (cond (Nat.blt pc 30) (cond (Nat.beq pc 29) (some (.ior, 1)) none) (cond (Nat.blt pc 31) (cond (Nat.beq pc 30) (some (.aload_n 0, 1)) none) (cond (Nat.beq pc 31) (some (.invokevirtual 99, 3)) none))) (cond (Nat.blt pc 36) (cond (Nat.blt pc 35) (cond (Nat.beq pc 34) (some (.ior, 1)) none) (cond (Nat.beq pc 35) (some (.iastore, 1)) none)) (cond (Nat.blt pc 37) (cond (Nat.beq pc 36) (some (.iconst 0, 1)) none) (cond (Nat.beq pc 37) (some (.ireturn, 1)) none)))))) none
def cd_30 : Nat → Option (Instr × Nat) := fun pc => cond (Nat.blt pc 39) (cond (Nat.blt pc 22) (cond (Nat.blt pc 12) (cond (Nat.blt pc 5) (cond (Nat.blt pc 1) (cond (Nat.beq pc 0) (some (.iload_n 1, 1)) none) (cond (Nat.blt pc 4) (cond (Nat.beq pc 1) (some (.ifCond .lt 11, 3)) none) (cond (Nat.beq pc 4) (some (.iload_n 1, 1)) none))) (cond (Nat.blt pc 6) (cond (Nat.beq pc 5) (some (.aload_n 0, 1)) none) (cond (Nat.blt pc 9) (cond (Nat.beq pc 6) (some (.getfield 102, 3)) none) (cond (Nat.beq pc 9) (some (.if_icmp .lt 5, 3)) none)))) (cond (Nat.blt pc 15) (cond (Nat.blt pc 13) (cond (Nat.beq pc 12) (some (.iconst 0, 1)) none) (cond (Nat.blt pc 14) (cond (Nat.beq pc 13) (some (.ireturn, 1)) none) (cond (Nat.beq pc 14) (some (.iload_n 2, 1)) none))) (cond (Nat.blt pc 18) (cond (Nat.beq pc 15) (some (.ifCond .ne 10, 3)) none) (cond (Nat.blt pc 19) (cond (Nat.beq pc 18) (some (.aload_n 0, 1)) none) (cond (Nat.beq pc 19) (some (.getfield 40, 3)) none))))) (cond (Nat.blt pc 30) (cond (Nat.blt pc 25) (cond (Nat.blt pc 23) (cond (Nat.beq pc 22) (some (.iload_n 1, 1)) none) (cond (Nat.blt pc 24) (cond (Nat.beq pc 23) (some (.iaload, 1)) none) (cond (Nat.beq pc 24) (some (.ireturn, 1)) none))) (cond (Nat.blt pc 26) (cond (Nat.beq pc 25) (some (.iload_n 2, 1)) none) (cond (Nat.blt pc 27) (cond (Nat.beq pc 26) (some (.iconst 1, 1)) none) (cond (Nat.beq pc 27) (some (.if_icmp .ne 10, 3)) none)))) (cond (Nat.blt pc 35) (cond (Nat.blt pc 31) (cond (Nat.beq pc 30) (some (.aload_n 0, 1)) none) (cond (Nat.blt pc 34) (cond (Nat.beq pc 31) (some (.getfield 43, 3)) none) (cond (Nat.beq pc 34) (some (.iload_n 1, 1)) none))) (cond (Nat.blt pc 37) (cond (Nat.blt pc 36) (cond (Nat.beq pc 35) (some (.iaload, 1)) none) (cond (Nat.beq pc 36) (some (.ireturn, 1)) none)) (cond (Nat.blt pc 38) (cond (Nat.beq pc 37) (some (.iconst 0, 1)) none) (cond (Nat.beq pc 38) (some (.ireturn, 1)) none)))))) none
def cd_31 : Nat → Option (Instr × Nat) := fun pc => cond (Nat.blt pc 151) (cond (Nat.blt pc 69) (cond (Nat.blt pc 33) (cond (Nat.blt pc 15) (cond (Nat.blt pc 8) (cond (Nat.blt pc 4) (cond (Nat.blt pc 1) (cond (Nat.beq pc 0) (some (.aload_n 0, 1)) none) (cond (Nat.beq pc 1) (some (.getfield 16, 3)) none)) (cond (Nat.blt pc 5) (cond (Nat.beq pc 4) (some (.iload_n 1, 1)) none) (cond (Nat.blt pc 6) (cond (Nat.beq pc 5) (some (.iaload, 1)) none) (cond (Nat.beq pc 6) (some (.bipush 7, 2)) none)))) (cond (Nat.blt pc 10) (cond (Nat.blt pc 9) (cond (Nat.beq pc 8) (some (.iand, 1)) none) (cond (Nat.beq pc 9) (some (.istore_n 3, 1)) none)) (cond (Nat.blt pc 11) (cond (Nat.beq pc 10) (some (.aload_n 0, 1)) none) (cond (Nat.blt pc 14) (cond (Nat.beq pc 11) (some (.getfield 19, 3)) none) (cond (Nat.beq pc 14) (some (.iload_n 1, 1)) none))))) (cond (Nat.blt pc 22) (cond (Nat.blt pc 18) (cond (Nat.blt pc 16) (cond (Nat.beq pc 15) (some (.iaload, 1)) none) (cond (Nat.beq pc 16) (some (.bipush 7, 2)) none)) (cond (Nat.blt pc 19) (cond (Nat.beq pc 18) (some (.iand, 1)) none) (cond (Nat.blt pc 21) (cond (Nat.beq pc 19) (some (.istore 4, 2)) none) (cond (Nat.beq pc 21) (some (.aload_n 0, 1)) none)))) (cond (Nat.blt pc 27) (cond (Nat.blt pc 25) (cond (Nat.beq pc 22) (some (.getfield 22, 3)) none) (cond (Nat.blt pc 26) (cond (Nat.beq pc 25) (some (.iload_n 3, 1)) none) (cond (Nat.beq pc 26) (some (.iaload, 1)) none))) (cond (Nat.blt pc 29) (cond (Nat.beq pc 27) (some (.istore 5, 2)) none) (cond (Nat.blt pc 30) (cond (Nat.beq pc 29) (some (.aload_n 0, 1)) none) (cond (Nat.beq pc 30) (some (.getfield 22, 3)) none)))))) (cond (Nat.blt pc 50) (cond (Nat.blt pc 42) (cond (Nat.blt pc 36) (cond (Nat.blt pc 35) (cond (Nat.beq pc 33) (some (.iload 4, 2)) none) (cond (Nat.beq pc 35) (some (.iaload, 1)) none)) (cond (Nat.blt pc 38) (cond (Nat.beq pc 36) (some (.istore 6, 2)) none) (cond (Nat.blt pc 39) (cond (Nat.beq pc 38) (some (.aload_n 0, 1)) none) (cond (Nat.beq pc 39) (some (.getfield 25, 3)) none)))) (cond (Nat.blt pc 44) (cond (Nat.blt pc 43) (cond (Nat.beq pc 42) (some (.iload_n 3, 1)) none) (cond (Nat.beq pc 43) (some (.iaload, 1)) none)) (cond (Nat.blt pc 45) (cond (Nat.beq pc 44) (some (.aload_n 0, 1)) none) (cond (Nat.blt pc 48) (cond (Nat.beq pc 45) (some (.getfield 25, 3)) none) (cond (Nat.beq pc 48) (some (.iload 4, 2)) none))))) (cond (Nat.blt pc 56) (cond (Nat.blt pc 52) (cond (Nat.blt pc 51) (cond (Nat.beq pc 50) (some (.iaload, 1)) none) (cond (Nat.beq pc 51) (some (.ior, 1)) none)) (cond (Nat.blt pc 54) (cond (Nat.beq pc 52) (some (.istore 7, 2)) none) (cond (Nat.blt pc 55) (cond (Nat.beq pc 54) (some (.iload_n 2, 1)) none) (cond (Nat.beq pc 55) (some (.iconst 3, 1)) none)))) (cond (Nat.blt pc 63) (cond (Nat.blt pc 59) (cond (Nat.beq pc 56) (some (.if_icmp .ne 13, 3)) none) (cond (Nat.blt pc 61) (cond (Nat.beq pc 59) (some (.iload 5, 2)) none) (cond (Nat.beq pc 61) (some (.iload 6, 2)) none))) (cond (Nat.blt pc 64) (cond (Nat.beq pc 63) (some (.iadd, 1)) none) (cond (Nat.blt pc 66) (cond (Nat.beq pc 64) (some (.istore 8, 2)) none) (cond (Nat.beq pc 66) (some (.goto 70, 3)) none))))))) (cond (Nat.blt pc 109) (cond (Nat.blt pc 86) (cond (Nat.blt pc 78) (cond (Nat.blt pc 71) (cond (Nat.blt pc 70) (cond (Nat.beq pc 69) (some (.iload_n 2, 1)) none) (cond (Nat.beq pc 70) (some (.iconst 4, 1)) none)) (cond (Nat.blt pc 74) (cond (Nat.beq pc 71) (some (.if_icmp .ne 13, 3)) none) (cond (Nat.blt pc 76) (cond (Nat.beq pc 74) (some (.iload 5, 2)) none) (cond (Nat.beq pc 76) (some (.iload 6, 2)) none)))) (cond (Nat.blt pc 81) (cond (Nat.blt pc 79) (cond (Nat.beq pc 78) (some (.isub, 1)) none) (cond (Nat.beq pc 79) (some (.istore 8, 2)) none)) (cond (Nat.blt pc 84) (cond (Nat.beq pc 81) (some (.goto 55, 3)) none) (cond (Nat.blt pc 85) (cond (Nat.beq pc 84) (some (.iload_n 2, 1)) none) (cond (Nat.beq pc 85) (some (.iconst 5, 1)) none))))) (cond (Nat.blt pc 96) (cond (Nat.blt pc 91) (cond (Nat.blt pc 89) (cond (Nat.beq pc 86) (some (.if_icmp .ne 13, 3)) none) (cond (Nat.beq pc 89) (some (.iload 5, 2)) none)) (cond (Nat.blt pc 93) (cond (Nat.beq pc 91) (some (.iload 6, 2)) none) (cond (Nat.blt pc 94) (cond (Nat.beq pc 93) (some (.imul, 1)) none) (cond (Nat.beq pc 94) (some (.istore 8, 2)) none)))) (cond (Nat.blt pc 102) (cond (Nat.blt pc 99) (cond (Nat.beq pc 96) (some (.goto 40, 3)) none) (cond (Nat.blt pc 100) (cond (Nat.beq pc 99) (some (.iload_n 2, 1)) none) (cond (Nat.beq pc 100) (some (.bipush 6, 2)) none))) (cond (Nat.blt pc 105) (cond (Nat.beq pc 102) (some (.if_icmp .ne 20, 3)) none) (cond (Nat.blt pc 107) (cond (Nat.beq pc 105) (some (.iload 5, 2)) none) (cond (Nat.beq pc 107) (some (.iload 6, 2)) none)))))) (cond (Nat.blt pc 133) (cond (Nat.blt pc 119) (cond (Nat.blt pc 113) (cond (Nat.blt pc 112) (cond (Nat.beq pc 109) (some (.if_icmp .ge 7, 3)) none) (cond (Nat.beq pc 112) (some (.iconst 1, 1)) none)) (cond (Nat.blt pc 116) (cond (Nat.beq pc 113) (some (.goto 4, 3)) none) (cond (Nat.blt pc 117) (cond (Nat.beq pc 116) (some (.iconst 0, 1)) none) (cond (Nat.beq pc 117) (some (.istore 8, 2)) none)))) (cond (Nat.blt pc 126) (cond (Nat.blt pc 122) (cond (Nat.beq pc 119) (some (.goto 17, 3)) none) (cond (Nat.blt pc 124) (cond (Nat.beq pc 122) (some (.iload 5, 2)) none) (cond (Nat.beq pc 124) (some (.iload 6, 2)) none))) (cond (Nat.blt pc 129) (cond (Nat.beq pc 126) (some (.if_icmp .ne 7, 3)) none) (cond (Nat.blt pc 130) (cond (Nat.beq pc 129) (some (.iconst 1, 1)) none) (cond (Nat.beq pc 130) (some (.goto 4, 3)) none))))) (cond (Nat.blt pc 141) (cond (Nat.blt pc 136) (cond (Nat.blt pc 134) (cond (Nat.beq pc 133) (some (.iconst 0, 1)) none) (cond (Nat.beq pc 134) (some (.istore 8, 2)) none)) (cond (Nat.blt pc 137) (cond (Nat.beq pc 136) (some (.aload_n 0, 1)) none) (cond (Nat.blt pc 138) (cond (Nat.beq pc 137) (some (.aload_n 0, 1)) none) (cond (Nat.beq pc 138) (some (.getfield 13, 3)) none)))) (cond (Nat.blt pc 145) (cond (Nat.blt pc 142) (cond (Nat.beq pc 141) (some (.iload_n 1, 1)) none) (cond (Nat.blt pc 143) (cond (Nat.beq pc 142) (some (.iaload, 1)) none) (cond (Nat.beq pc 143) (some (.iload 8, 2)) none))) (cond (Nat.blt pc 147) (cond (Nat.beq pc 145) (some (.iload 7, 2)) none) (cond (Nat.blt pc 150) (cond (Nat.beq pc 147) (some (.invokevirtual 146, 3)) none) (cond (Nat.beq pc 150) (some (.ireturn, 1)) none)))))))) none
def cd_32 : Nat → Option (Instr × Nat) := fun pc => cond (Nat.blt pc 21) (cond (Nat.blt pc 12) (cond (Nat.blt pc 5) (cond (Nat.blt pc 1) (cond (Nat.beq pc 0) (some (.iload_n 1, 1)) none) (cond (Nat.blt pc 4) (cond (Nat.beq pc 1) (some (.ifCond .lt 11, 3)) none) (cond (Nat.beq pc 4) (some (.iload_n 1, 1)) none))) (cond (Nat.blt pc 6) (cond (Nat.beq pc 5) (some (.aload_n 0, 1)) none) (cond (Nat.blt pc 9) (cond (Nat.beq pc 6) (some (.getfield 74, 3)) none) (cond (Nat.beq pc 9) (some (.if_icmp .lt 5, 3)) none)))) (cond (Nat.blt pc 15) (cond (Nat.blt pc 13) (cond (Nat.beq pc 12) (some (.iconst 0, 1)) none) (cond (Nat.blt pc 14) (cond (Nat.beq pc 13) (some (.ireturn, 1)) none) (cond (Nat.beq pc 14) (some (.aload_n 0, 1)) none))) (cond (Nat.blt pc 19) (cond (Nat.blt pc 18) (cond (Nat.beq pc 15) (some (.getfield 28, 3)) none) (cond (Nat.beq pc 18) (some (.iload_n 1, 1)) none)) (cond (Nat.blt pc 20) (cond (Nat.beq pc 19) (some (.iaload, 1)) none) (cond (Nat.beq pc 20) (some (.ireturn, 1)) none))))) none
def cd_33 : Nat → Option (Instr × Nat) := fun pc => cond (Nat.blt pc 50) (cond (Nat.blt pc 28) (cond (Nat.blt pc 14) (cond (Nat.blt pc 8) (cond (Nat.blt pc 4) (cond (Nat.blt pc 1) (cond (Nat.beq pc 0) (some (.aload_n 0, 1)) none) (cond (Nat.beq pc 1) (some (.getfield 77, 3)) none)) (cond (Nat.blt pc 7) (cond (Nat.beq pc 4) (some (.ifCond .eq 5, 3)) none) (cond (Nat.beq pc 7) (some (.iconst 0, 1)) none))) (cond (Nat.blt pc 10) (cond (Nat.blt pc 9) (cond (Nat.beq pc 8) (some (.ireturn, 1)) none) (cond (Nat.beq pc 9) (some (.iload_n 1, 1)) none)) (cond (Nat.blt pc 13) (cond (Nat.beq pc 10) (some (.ifCond .lt 11, 3)) none) (cond (Nat.beq pc 13) (some (.iload_n 1, 1)) none)))) (cond (Nat.blt pc 22) (cond (Nat.blt pc 18) (cond (Nat.blt pc 15) (cond (Nat.beq pc 14) (some (.aload_n 0, 1)) none) (cond (Nat.beq pc 15) (some (.getfield 74, 3)) none)) (cond (Nat.blt pc 21) (cond (Nat.beq pc 18) (some (.if_icmp .lt 5, 3)) none) (cond (Nat.beq pc 21) (some (.iconst 0, 1)) none))) (cond (Nat.blt pc 24) (cond (Nat.blt pc 23) (cond (Nat.beq pc 22) (some (.ireturn, 1)) none) (cond (Nat.beq pc 23) (some (.iload_n 3, 1)) none)) (cond (Nat.blt pc 27) (cond (Nat.beq pc 24) (some (.ifCond .lt 8, 3)) none) (cond (Nat.beq pc 27) (some (.iload_n 3, 1)) none))))) (cond (Nat.blt pc 40) (cond (Nat.blt pc 34) (cond (Nat.blt pc 32) (cond (Nat.blt pc 29) (cond (Nat.beq pc 28) (some (.iconst 3, 1)) none) (cond (Nat.beq pc 29) (some (.if_icmp .le 5, 3)) none)) (cond (Nat.blt pc 33) (cond (Nat.beq pc 32) (some (.iconst 0, 1)) none) (cond (Nat.beq pc 33) (some (.ireturn, 1)) none))) (cond (Nat.blt pc 38) (cond (Nat.blt pc 35) (cond (Nat.beq pc 34) (some (.aload_n 0, 1)) none) (cond (Nat.beq pc 35) (some (.getfield 28, 3)) none)) (cond (Nat.blt pc 39) (cond (Nat.beq pc 38) (some (.iload_n 1, 1)) none) (cond (Nat.beq pc 39) (some (.iload_n 2, 1)) none)))) (cond (Nat.blt pc 46) (cond (Nat.blt pc 42) (cond (Nat.blt pc 41) (cond (Nat.beq pc 40) (some (.iastore, 1)) none) (cond (Nat.beq pc 41) (some (.aload_n 0, 1)) none)) (cond (Nat.blt pc 45) (cond (Nat.beq pc 42) (some (.getfield 31, 3)) none) (cond (Nat.beq pc 45) (some (.iload_n 1, 1)) none))) (cond (Nat.blt pc 48) (cond (Nat.blt pc 47) (cond (Nat.beq pc 46) (some (.iload_n 3, 1)) none) (cond (Nat.beq pc 47) (some (.iastore, 1)) none)) (cond (Nat.blt pc 49) (cond (Nat.beq pc 48) (some (.iconst 1, 1)) none) (cond (Nat.beq pc 49) (some (.ireturn, 1)) none)))))) none
def cd_34 : Nat → Option (Instr × Nat) := fun pc => cond (Nat.blt pc 19) (cond (Nat.blt pc 9) (cond (Nat.blt pc 4) (cond (Nat.blt pc 1) (cond (Nat.beq pc 0) (some (.iload_n 1, 1)) none) (cond (Nat.beq pc 1) (some (.ifCond .lt 13, 3)) none)) (cond (Nat.blt pc 5) (cond (Nat.beq pc 4) (some (.iload_n 1, 1)) none) (cond (Nat.blt pc 6) (cond (Nat.beq pc 5) (some (.aload_n 0, 1)) none) (cond (Nat.beq pc 6) (some (.getfield 83, 3)) none)))) (cond (Nat.blt pc 14) (cond (Nat.blt pc 12) (cond (Nat.beq pc 9) (some (.if_icmp .ge 5, 3)) none) (cond (Nat.blt pc 13) (cond (Nat.beq pc 12) (some (.iload_n 1, 1)) none) (cond (Nat.beq pc 13) (some (.ireturn, 1)) none))) (cond (Nat.blt pc 15) (cond (Nat.beq pc 14) (some (.aload_n 0, 1)) none) (cond (Nat.blt pc 18) (cond (Nat.beq pc 15) (some (.getfield 83, 3)) none) (cond (Nat.beq pc 18) (some (.ireturn, 1)) none))))) none
def cd_35 : Nat → Option (Instr × Nat) := fun pc => cond (Nat.blt pc 157) (cond (Nat.blt pc 76) (cond (Nat.blt pc 37) (cond (Nat.blt pc 18) (cond (Nat.blt pc 8) (cond (Nat.blt pc 4) (cond (Nat.blt pc 1) (cond (Nat.beq pc 0) (some (.aload_n 0, 1)) none) (cond (Nat.beq pc 1) (some (.getfield 13, 3)) none)) (cond (Nat.blt pc 5) (cond (Nat.beq pc 4) (some (.iload_n 1, 1)) none) (cond (Nat.blt pc 6) (cond (Nat.beq pc 5) (some (.iaload, 1)) none) (cond (Nat.beq pc 6) (some (.bipush 7, 2)) none)))) (cond (Nat.blt pc 11) (cond (Nat.blt pc 9) (cond (Nat.beq pc 8) (some (.iand, 1)) none) (cond (Nat.blt pc 10) (cond (Nat.beq pc 9) (some (.istore_n 2, 1)) none) (cond (Nat.beq pc 10) (some (.aload_n 0, 1)) none))) (cond (Nat.blt pc 14) (cond (Nat.beq pc 11) (some (.invokevirtual 99, 3)) none) (cond (Nat.blt pc 15) (cond (Nat.beq pc 14) (some (.aload_n 0, 1)) none) (cond (Nat.beq pc 15) (some (.getfield 25, 3)) none))))) (cond (Nat.blt pc 26) (cond (Nat.blt pc 21) (cond (Nat.blt pc 19) (cond (Nat.beq pc 18) (some (.iload_n 2, 1)) none) (cond (Nat.blt pc 20) (cond (Nat.beq pc 19) (some (.iaload, 1)) none) (cond (Nat.beq pc 20) (some (.ior, 1)) none))) (cond (Nat.blt pc 22) (cond (Nat.beq pc 21) (some (.istore_n 3, 1)) none) (cond (Nat.blt pc 23) (cond (Nat.beq pc 22) (some (.aload_n 0, 1)) none) (cond (Nat.beq pc 23) (some (.getfield 55, 3)) none)))) (cond (Nat.blt pc 30) (cond (Nat.blt pc 27) (cond (Nat.beq pc 26) (some (.iload_n 1, 1)) none) (cond (Nat.blt pc 28) (cond (Nat.beq pc 27) (some (.iaload, 1)) none) (cond (Nat.beq pc 28) (some (.istore 4, 2)) none))) (cond (Nat.blt pc 31) (cond (Nat.beq pc 30) (some (.aload_n 0, 1)) none) (cond (Nat.blt pc 34) (cond (Nat.beq pc 31) (some (.getfield 92, 3)) none) (cond (Nat.beq pc 34) (some (.ifCond .le 46, 3)) none)))))) (cond (Nat.blt pc 58) (cond (Nat.blt pc 47) (cond (Nat.blt pc 42) (cond (Nat.blt pc 38) (cond (Nat.beq pc 37) (some (.aload_n 0, 1)) none) (cond (Nat.blt pc 41) (cond (Nat.beq pc 38) (some (.getfield 37, 3)) none) (cond (Nat.beq pc 41) (some (.aload_n 0, 1)) none))) (cond (Nat.blt pc 45) (cond (Nat.beq pc 42) (some (.getfield 92, 3)) none) (cond (Nat.blt pc 46) (cond (Nat.beq pc 45) (some (.iconst 1, 1)) none) (cond (Nat.beq pc 46) (some (.isub, 1)) none)))) (cond (Nat.blt pc 53) (cond (Nat.blt pc 48) (cond (Nat.beq pc 47) (some (.iaload, 1)) none) (cond (Nat.blt pc 50) (cond (Nat.beq pc 48) (some (.iload 4, 2)) none) (cond (Nat.beq pc 50) (some (.if_icmp .ne 30, 3)) none))) (cond (Nat.blt pc 54) (cond (Nat.beq pc 53) (some (.aload_n 0, 1)) none) (cond (Nat.blt pc 57) (cond (Nat.beq pc 54) (some (.getfield 34, 3)) none) (cond (Nat.beq pc 57) (some (.aload_n 0, 1)) none))))) (cond (Nat.blt pc 68) (cond (Nat.blt pc 63) (cond (Nat.blt pc 61) (cond (Nat.beq pc 58) (some (.getfield 92, 3)) none) (cond (Nat.blt pc 62) (cond (Nat.beq pc 61) (some (.iconst 1, 1)) none) (cond (Nat.beq pc 62) (some (.isub, 1)) none))) (cond (Nat.blt pc 64) (cond (Nat.beq pc 63) (some (.aload_n 0, 1)) none) (cond (Nat.blt pc 67) (cond (Nat.beq pc 64) (some (.getfield 34, 3)) none) (cond (Nat.beq pc 67) (some (.aload_n 0, 1)) none)))) (cond (Nat.blt pc 73) (cond (Nat.blt pc 71) (cond (Nat.beq pc 68) (some (.getfield 92, 3)) none) (cond (Nat.blt pc 72) (cond (Nat.beq pc 71) (some (.iconst 1, 1)) none) (cond (Nat.beq pc 72) (some (.isub, 1)) none))) (cond (Nat.blt pc 74) (cond (Nat.beq pc 73) (some (.iaload, 1)) none) (cond (Nat.blt pc 75) (cond (Nat.beq pc 74) (some (.iload_n 3, 1)) none) (cond (Nat.beq pc 75) (some (.ior, 1)) none))))))) (cond (Nat.blt pc 117) (cond (Nat.blt pc 96) (cond (Nat.blt pc 86) (cond (Nat.blt pc 80) (cond (Nat.blt pc 77) (cond (Nat.beq pc 76) (some (.iastore, 1)) none) (cond (Nat.beq pc 77) (some (.goto 45, 3)) none)) (cond (Nat.blt pc 81) (cond (Nat.beq pc 80) (some (.aload_n 0, 1)) none) (cond (Nat.blt pc 84) (cond (Nat.beq pc 81) (some (.getfield 92, 3)) none) (cond (Nat.beq pc 84) (some (.bipush 16, 2)) none)))) (cond (Nat.blt pc 91) (cond (Nat.blt pc 89) (cond (Nat.beq pc 86) (some (.if_icmp .lt 5, 3)) none) (cond (Nat.blt pc 90) (cond (Nat.beq pc 89) (some (.iconst 4, 1)) none) (cond (Nat.beq pc 90) (some (.ireturn, 1)) none))) (cond (Nat.blt pc 92) (cond (Nat.beq pc 91) (some (.aload_n 0, 1)) none) (cond (Nat.blt pc 95) (cond (Nat.beq pc 92) (some (.getfield 34, 3)) none) (cond (Nat.beq pc 95) (some (.aload_n 0, 1)) none))))) (cond (Nat.blt pc 106) (cond (Nat.blt pc 101) (cond (Nat.blt pc 99) (cond (Nat.beq pc 96) (some (.getfield 92, 3)) none) (cond (Nat.blt pc 100) (cond (Nat.beq pc 99) (some (.iload_n 3, 1)) none) (cond (Nat.beq pc 100) (some (.iastore, 1)) none))) (cond (Nat.blt pc 102) (cond (Nat.beq pc 101) (some (.aload_n 0, 1)) none) (cond (Nat.blt pc 105) (cond (Nat.beq pc 102) (some (.getfield 37, 3)) none) (cond (Nat.beq pc 105) (some (.aload_n 0, 1)) none)))) (cond (Nat.blt pc 112) (cond (Nat.blt pc 109) (cond (Nat.beq pc 106) (some (.getfield 92, 3)) none) (cond (Nat.blt pc 111) (cond (Nat.beq pc 109) (some (.iload 4, 2)) none) (cond (Nat.beq pc 111) (some (.iastore, 1)) none))) (cond (Nat.blt pc 113) (cond (Nat.beq pc 112) (some (.aload_n 0, 1)) none) (cond (Nat.blt pc 114) (cond (Nat.beq pc 113) (some (.aload_n 0, 1)) none) (cond (Nat.beq pc 114) (some (.getfield 92, 3)) none)))))) (cond (Nat.blt pc 137) (cond (Nat.blt pc 127) (cond (Nat.blt pc 122) (cond (Nat.blt pc 118) (cond (Nat.beq pc 117) (some (.iconst 1, 1)) none) (cond (Nat.blt pc 119) (cond (Nat.beq pc 118) (some (.iadd, 1)) none) (cond (Nat.beq pc 119) (some (.putfield 92, 3)) none))) (cond (Nat.blt pc 123) (cond (Nat.beq pc 122) (some (.aload_n 0, 1)) none) (cond (Nat.blt pc 126) (cond (Nat.beq pc 123) (some (.getfield 22, 3)) none) (cond (Nat.beq pc 126) (some (.iload_n 2, 1)) none)))) (cond (Nat.blt pc 132) (cond (Nat.blt pc 128) (cond (Nat.beq pc 127) (some (.iaload, 1)) none) (cond (Nat.blt pc 131) (cond (Nat.beq pc 128) (some (.ifCond .eq 20, 3)) none) (cond (Nat.beq pc 131) (some (.aload_n 0, 1)) none))) (cond (Nat.blt pc 133) (cond (Nat.beq pc 132) (some (.aload_n 0, 1)) none) (cond (Nat.blt pc 134) (cond (Nat.beq pc 133) (some (.aload_n 0, 1)) none) (cond (Nat.beq pc 134) (some (.getfield 16, 3)) none))))) (cond (Nat.blt pc 149) (cond (Nat.blt pc 142) (cond (Nat.blt pc 138) (cond (Nat.beq pc 137) (some (.iload_n 1, 1)) none) (cond (Nat.blt pc 139) (cond (Nat.beq pc 138) (some (.iaload, 1)) none) (cond (Nat.beq pc 139) (some (.invokevirtual 108, 3)) none))) (cond (Nat.blt pc 145) (cond (Nat.beq pc 142) (some (.putfield 140, 3)) none) (cond (Nat.blt pc 148) (cond (Nat.beq pc 145) (some (.goto 10, 3)) none) (cond (Nat.beq pc 148) (some (.aload_n 0, 1)) none)))) (cond (Nat.blt pc 152) (cond (Nat.blt pc 150) (cond (Nat.beq pc 149) (some (.iload_n 1, 1)) none) (cond (Nat.blt pc 151) (cond (Nat.beq pc 150) (some (.iconst 1, 1)) none) (cond (Nat.beq pc 151) (some (.iadd, 1)) none))) (cond (Nat.blt pc 155) (cond (Nat.beq pc 152) (some (.putfield 140, 3)) none) (cond (Nat.blt pc 156) (cond (Nat.beq pc 155) (some (.iconst 0, 1)) none) (cond (Nat.beq pc 156) (some (.ireturn, 1)) none)))))))) none
def cd_36 : Nat → Option (Instr × Nat) := fun pc => cond (Nat.blt pc 143) (cond (Nat.blt pc 68) (cond (Nat.blt pc 32) (cond (Nat.blt pc 15) (cond (Nat.blt pc 8) (cond (Nat.blt pc 4) (cond (Nat.blt pc 1) (cond (Nat.beq pc 0) (some (.aload_n 0, 1)) none) (cond (Nat.beq pc 1) (some (.getfield 13, 3)) none)) (cond (Nat.blt pc 5) (cond (Nat.beq pc 4) (some (.iload_n 1, 1)) none) (cond (Nat.blt pc 6) (cond (Nat.beq pc 5) (some (.iaload, 1)) none) (cond (Nat.beq pc 6) (some (.bipush 7, 2)) none)))) (cond (Nat.blt pc 10) (cond (Nat.blt pc 9) (cond (Nat.beq pc 8) (some (.iand, 1)) none) (cond (Nat.beq pc 9) (some (.istore_n 2, 1)) none)) (cond (Nat.blt pc 11) (cond (Nat.beq pc 10) (some (.aload_n 0, 1)) none) (cond (Nat.blt pc 14) (cond (Nat.beq pc 11) (some (.getfield 16, 3)) none) (cond (Nat.beq pc 14) (some (.iload_n 1, 1)) none))))) (cond (Nat.blt pc 21) (cond (Nat.blt pc 18) (cond (Nat.blt pc 16) (cond (Nat.beq pc 15) (some (.iaload, 1)) none) (cond (Nat.beq pc 16) (some (.bipush 7, 2)) none)) (cond (Nat.blt pc 19) (cond (Nat.beq pc 18) (some (.iand, 1)) none) (cond (Nat.blt pc 20) (cond (Nat.beq pc 19) (some (.istore_n 3, 1)) none) (cond (Nat.beq pc 20) (some (.aload_n 0, 1)) none)))) (cond (Nat.blt pc 26) (cond (Nat.blt pc 22) (cond (Nat.beq pc 21) (some (.aload_n 0, 1)) none) (cond (Nat.blt pc 25) (cond (Nat.beq pc 22) (some (.getfield 22, 3)) none) (cond (Nat.beq pc 25) (some (.iload_n 2, 1)) none))) (cond (Nat.blt pc 27) (cond (Nat.beq pc 26) (some (.iaload, 1)) none) (cond (Nat.blt pc 30) (cond (Nat.beq pc 27) (some (.invokevirtual 179, 3)) none) (cond (Nat.beq pc 30) (some (.istore 4, 2)) none)))))) (cond (Nat.blt pc 49) (cond (Nat.blt pc 41) (cond (Nat.blt pc 36) (cond (Nat.blt pc 33) (cond (Nat.beq pc 32) (some (.aload_n 0, 1)) none) (cond (Nat.beq pc 33) (some (.invokevirtual 99, 3)) none)) (cond (Nat.blt pc 38) (cond (Nat.beq pc 36) (some (.istore 5, 2)) none) (cond (Nat.blt pc 40) (cond (Nat.beq pc 38) (some (.iload 5, 2)) none) (cond (Nat.beq pc 40) (some (.aload_n 0, 1)) none)))) (cond (Nat.blt pc 45) (cond (Nat.blt pc 44) (cond (Nat.beq pc 41) (some (.getfield 25, 3)) none) (cond (Nat.beq pc 44) (some (.iload_n 2, 1)) none)) (cond (Nat.blt pc 46) (cond (Nat.beq pc 45) (some (.iaload, 1)) none) (cond (Nat.blt pc 47) (cond (Nat.beq pc 46) (some (.ior, 1)) none) (cond (Nat.beq pc 47) (some (.istore 6, 2)) none))))) (cond (Nat.blt pc 58) (cond (Nat.blt pc 53) (cond (Nat.blt pc 50) (cond (Nat.beq pc 49) (some (.aload_n 0, 1)) none) (cond (Nat.beq pc 50) (some (.getfield 25, 3)) none)) (cond (Nat.blt pc 54) (cond (Nat.beq pc 53) (some (.iload_n 2, 1)) none) (cond (Nat.blt pc 55) (cond (Nat.beq pc 54) (some (.iaload, 1)) none) (cond (Nat.beq pc 55) (some (.ifCond .ne 21, 3)) none)))) (cond (Nat.blt pc 62) (cond (Nat.blt pc 59) (cond (Nat.beq pc 58) (some (.aload_n 0, 1)) none) (cond (Nat.blt pc 61) (cond (Nat.beq pc 59) (some (.iload 5, 2)) none) (cond (Nat.beq pc 61) (some (.aload_n 0, 1)) none))) (cond (Nat.blt pc 65) (cond (Nat.beq pc 62) (some (.getfield 31, 3)) none) (cond (Nat.blt pc 67) (cond (Nat.beq pc 65) (some (.iload 4, 2)) none) (cond (Nat.beq pc 67) (some (.iaload, 1)) none))))))) (cond (Nat.blt pc 109) (cond (Nat.blt pc 88) (cond (Nat.blt pc 77) (cond (Nat.blt pc 74) (cond (Nat.blt pc 71) (cond (Nat.beq pc 68) (some (.invokevirtual 175, 3)) none) (cond (Nat.beq pc 71) (some (.ifCond .ne 41, 3)) none)) (cond (Nat.blt pc 75) (cond (Nat.beq pc 74) (some (.iconst 1, 1)) none) (cond (Nat.blt pc 76) (cond (Nat.beq pc 75) (some (.ireturn, 1)) none) (cond (Nat.beq pc 76) (some (.iconst 0, 1)) none)))) (cond (Nat.blt pc 81) (cond (Nat.blt pc 79) (cond (Nat.beq pc 77) (some (.istore 7, 2)) none) (cond (Nat.beq pc 79) (some (.iload 7, 2)) none)) (cond (Nat.blt pc 82) (cond (Nat.beq pc 81) (some (.aload_n 0, 1)) none) (cond (Nat.blt pc 85) (cond (Nat.beq pc 82) (some (.getfield 74, 3)) none) (cond (Nat.beq pc 85) (some (.if_icmp .ge 27, 3)) none))))) (cond (Nat.blt pc 97) (cond (Nat.blt pc 91) (cond (Nat.blt pc 89) (cond (Nat.beq pc 88) (some (.aload_n 0, 1)) none) (cond (Nat.beq pc 89) (some (.iload 6, 2)) none)) (cond (Nat.blt pc 92) (cond (Nat.beq pc 91) (some (.aload_n 0, 1)) none) (cond (Nat.blt pc 95) (cond (Nat.beq pc 92) (some (.getfield 31, 3)) none) (cond (Nat.beq pc 95) (some (.iload 7, 2)) none)))) (cond (Nat.blt pc 104) (cond (Nat.blt pc 98) (cond (Nat.beq pc 97) (some (.iaload, 1)) none) (cond (Nat.blt pc 101) (cond (Nat.beq pc 98) (some (.invokevirtual 175, 3)) none) (cond (Nat.beq pc 101) (some (.ifCond .ne 5, 3)) none))) (cond (Nat.blt pc 105) (cond (Nat.beq pc 104) (some (.iconst 1, 1)) none) (cond (Nat.blt pc 106) (cond (Nat.beq pc 105) (some (.ireturn, 1)) none) (cond (Nat.beq pc 106) (some (.iinc 7 1, 3)) none)))))) (cond (Nat.blt pc 126) (cond (Nat.blt pc 119) (cond (Nat.blt pc 113) (cond (Nat.blt pc 112) (cond (Nat.beq pc 109) (some (.goto (-30), 3)) none) (cond (Nat.beq pc 112) (some (.aload_n 0, 1)) none)) (cond (Nat.blt pc 116) (cond (Nat.beq pc 113) (some (.getfield 28, 3)) none) (cond (Nat.blt pc 118) (cond (Nat.beq pc 116) (some (.iload 4, 2)) none) (cond (Nat.beq pc 118) (some (.aload_n 0, 1)) none)))) (cond (Nat.blt pc 123) (cond (Nat.blt pc 122) (cond (Nat.beq pc 119) (some (.getfield 22, 3)) none) (cond (Nat.beq pc 122) (some (.iload_n 3, 1)) none)) (cond (Nat.blt pc 124) (cond (Nat.beq pc 123) (some (.iaload, 1)) none) (cond (Nat.blt pc 125) (cond (Nat.beq pc 124) (some (.iastore, 1)) none) (cond (Nat.beq pc 125) (some (.aload_n 0, 1)) none))))) (cond (Nat.blt pc 137) (cond (Nat.blt pc 131) (cond (Nat.blt pc 129) (cond (Nat.beq pc 126) (some (.getfield 31, 3)) none) (cond (Nat.beq pc 129) (some (.iload 4, 2)) none)) (cond (Nat.blt pc 133) (cond (Nat.beq pc 131) (some (.iload 6, 2)) none) (cond (Nat.blt pc 134) (cond (Nat.beq pc 133) (some (.aload_n 0, 1)) none) (cond (Nat.beq pc 134) (some (.getfield 25, 3)) none)))) (cond (Nat.blt pc 140) (cond (Nat.blt pc 138) (cond (Nat.beq pc 137) (some (.iload_n 3, 1)) none) (cond (Nat.blt pc 139) (cond (Nat.beq pc 138) (some (.iaload, 1)) none) (cond (Nat.beq pc 139) (some (.ior, 1)) none))) (cond (Nat.blt pc 141) (cond (Nat.beq pc 140) (some (.iastore, 1)) none) (cond (Nat.blt pc 142) (cond (Nat.beq pc 141) (some (.iconst 0, 1)) none) (cond (Nat.beq pc 142) (some (.ireturn, 1)) none)))))))) none
def cd_37 : Nat → Option (Instr × Nat) := fun pc => cond (Nat.blt pc 17) (cond (Nat.blt pc 7) (cond (Nat.blt pc 2) (cond (Nat.blt pc 1) (cond (Nat.beq pc 0) (some (.iload_n 1, 1)) none) (cond (Nat.beq pc 1) (some (.aload_n 0, 1)) none)) (cond (Nat.blt pc 5) (cond (Nat.beq pc 2) (some (.getfield 74, 3)) none) (cond (Nat.blt pc 6) (cond (Nat.beq pc 5) (some (.irem, 1)) none) (cond (Nat.beq pc 6) (some (.aload_n 0, 1)) none)))) (cond (Nat.blt pc 12) (cond (Nat.blt pc 10) (cond (Nat.beq pc 7) (some (.getfield 74, 3)) none) (cond (Nat.blt pc 11) (cond (Nat.beq pc 10) (some (.iadd, 1)) none) (cond (Nat.beq pc 11) (some (.aload_n 0, 1)) none))) (cond (Nat.blt pc 15) (cond (Nat.beq pc 12) (some (.getfield 74, 3)) none) (cond (Nat.blt pc 16) (cond (Nat.beq pc 15) (some (.irem, 1)) none) (cond (Nat.beq pc 16) (some (.ireturn, 1)) none))))) none
def cd_38 : Nat → Option (Instr × Nat) := fun pc => cond (Nat.blt pc 39) (cond (Nat.blt pc 18) (cond (Nat.blt pc 9) (cond (Nat.blt pc 5) (cond (Nat.blt pc 1) (cond (Nat.beq pc 0) (some (.aload_n 0, 1)) none) (cond (Nat.blt pc 4) (cond (Nat.beq pc 1) (some (.getfield 16, 3)) none) (cond (Nat.beq pc 4) (some (.iload_n 1, 1)) none))) (cond (Nat.blt pc 6) (cond (Nat.beq pc 5) (some (.iaload, 1)) none) (cond (Nat.blt pc 8) (cond (Nat.beq pc 6) (some (.bipush 7, 2)) none) (cond (Nat.beq pc 8) (some (.iand, 1)) none)))) (cond (Nat.blt pc 14) (cond (Nat.blt pc 10) (cond (Nat.beq pc 9) (some (.istore_n 2, 1)) none) (cond (Nat.blt pc 11) (cond (Nat.beq pc 10) (some (.aload_n 0, 1)) none) (cond (Nat.beq pc 11) (some (.getfield 22, 3)) none))) (cond (Nat.blt pc 16) (cond (Nat.blt pc 15) (cond (Nat.beq pc 14) (some (.iload_n 2, 1)) none) (cond (Nat.beq pc 15) (some (.iaload, 1)) none)) (cond (Nat.blt pc 17) (cond (Nat.beq pc 16) (some (.istore_n 3, 1)) none) (cond (Nat.beq pc 17) (some (.aload_n 0, 1)) none))))) (cond (Nat.blt pc 27) (cond (Nat.blt pc 23) (cond (Nat.blt pc 21) (cond (Nat.beq pc 18) (some (.getfield 25, 3)) none) (cond (Nat.blt pc 22) (cond (Nat.beq pc 21) (some (.iload_n 2, 1)) none) (cond (Nat.beq pc 22) (some (.iaload, 1)) none))) (cond (Nat.blt pc 25) (cond (Nat.beq pc 23) (some (.istore 4, 2)) none) (cond (Nat.blt pc 26) (cond (Nat.beq pc 25) (some (.aload_n 0, 1)) none) (cond (Nat.beq pc 26) (some (.aload_n 0, 1)) none)))) (cond (Nat.blt pc 32) (cond (Nat.blt pc 30) (cond (Nat.beq pc 27) (some (.getfield 13, 3)) none) (cond (Nat.blt pc 31) (cond (Nat.beq pc 30) (some (.iload_n 1, 1)) none) (cond (Nat.beq pc 31) (some (.iaload, 1)) none))) (cond (Nat.blt pc 35) (cond (Nat.blt pc 33) (cond (Nat.beq pc 32) (some (.iload_n 3, 1)) none) (cond (Nat.beq pc 33) (some (.iload 4, 2)) none)) (cond (Nat.blt pc 38) (cond (Nat.beq pc 35) (some (.invokevirtual 146, 3)) none) (cond (Nat.beq pc 38) (some (.ireturn, 1)) none)))))) none
def cd_39 : Nat → Option (Instr × Nat) := fun pc => cond (Nat.blt pc 59) (cond (Nat.blt pc 29) (cond (Nat.blt pc 12) (cond (Nat.blt pc 6) (cond (Nat.blt pc 4) (cond (Nat.blt pc 1) (cond (Nat.beq pc 0) (some (.aload_n 0, 1)) none) (cond (Nat.beq pc 1) (some (.getfield 16, 3)) none)) (cond (Nat.blt pc 5) (cond (Nat.beq pc 4) (some (.iload_n 1, 1)) none) (cond (Nat.beq pc 5) (some (.iaload, 1)) none))) (cond (Nat.blt pc 9) (cond (Nat.blt pc 8) (cond (Nat.beq pc 6) (some (.bipush 7, 2)) none) (cond (Nat.beq pc 8) (some (.iand, 1)) none)) (cond (Nat.blt pc 10) (cond (Nat.beq pc 9) (some (.istore_n 2, 1)) none) (cond (Nat.blt pc 11) (cond (Nat.beq pc 10) (some (.aload_n 0, 1)) none) (cond (Nat.beq pc 11) (some (.aload_n 0, 1)) none))))) (cond (Nat.blt pc 21) (cond (Nat.blt pc 16) (cond (Nat.blt pc 15) (cond (Nat.beq pc 12) (some (.getfield 22, 3)) none) (cond (Nat.beq pc 15) (some (.iload_n 2, 1)) none)) (cond (Nat.blt pc 17) (cond (Nat.beq pc 16) (some (.iaload, 1)) none) (cond (Nat.blt pc 20) (cond (Nat.beq pc 17) (some (.invokevirtual 179, 3)) none) (cond (Nat.beq pc 20) (some (.istore_n 3, 1)) none)))) (cond (Nat.blt pc 25) (cond (Nat.blt pc 22) (cond (Nat.beq pc 21) (some (.aload_n 0, 1)) none) (cond (Nat.beq pc 22) (some (.getfield 28, 3)) none)) (cond (Nat.blt pc 26) (cond (Nat.beq pc 25) (some (.iload_n 3, 1)) none) (cond (Nat.blt pc 27) (cond (Nat.beq pc 26) (some (.iaload, 1)) none) (cond (Nat.beq pc 27) (some (.istore 4, 2)) none)))))) (cond (Nat.blt pc 42) (cond (Nat.blt pc 35) (cond (Nat.blt pc 33) (cond (Nat.blt pc 30) (cond (Nat.beq pc 29) (some (.aload_n 0, 1)) none) (cond (Nat.beq pc 30) (some (.getfield 25, 3)) none)) (cond (Nat.blt pc 34) (cond (Nat.beq pc 33) (some (.iload_n 2, 1)) none) (cond (Nat.beq pc 34) (some (.iaload, 1)) none))) (cond (Nat.blt pc 39) (cond (Nat.blt pc 36) (cond (Nat.beq pc 35) (some (.aload_n 0, 1)) none) (cond (Nat.beq pc 36) (some (.getfield 31, 3)) none)) (cond (Nat.blt pc 40) (cond (Nat.beq pc 39) (some (.iload_n 3, 1)) none) (cond (Nat.blt pc 41) (cond (Nat.beq pc 40) (some (.iaload, 1)) none) (cond (Nat.beq pc 41) (some (.ior, 1)) none))))) (cond (Nat.blt pc 50) (cond (Nat.blt pc 45) (cond (Nat.blt pc 44) (cond (Nat.beq pc 42) (some (.istore 5, 2)) none) (cond (Nat.beq pc 44) (some (.aload_n 0, 1)) none)) (cond (Nat.blt pc 46) (cond (Nat.beq pc 45) (some (.aload_n 0, 1)) none) (cond (Nat.blt pc 49) (cond (Nat.beq pc 46) (some (.getfield 13, 3)) none) (cond (Nat.beq pc 49) (some (.iload_n 1, 1)) none)))) (cond (Nat.blt pc 53) (cond (Nat.blt pc 51) (cond (Nat.beq pc 50) (some (.iaload, 1)) none) (cond (Nat.beq pc 51) (some (.iload 4, 2)) none)) (cond (Nat.blt pc 55) (cond (Nat.beq pc 53) (some (.iload 5, 2)) none) (cond (Nat.blt pc 58) (cond (Nat.beq pc 55) (some (.invokevirtual 146, 3)) none) (cond (Nat.beq pc 58) (some (.ireturn, 1)) none))))))) none
def cd_40 : Nat → Option (Instr × Nat) := fun pc => cond (Nat.blt pc 122) (cond (Nat.blt pc 59) (cond (Nat.blt pc 30) (cond (Nat.blt pc 13) (cond (Nat.blt pc 6) (cond (Nat.blt pc 4) (cond (Nat.blt pc 1) (cond (Nat.beq pc 0) (some (.aload_n 0, 1)) none) (cond (Nat.beq pc 1) (some (.getfield 19, 3)) none)) (cond (Nat.blt pc 5) (cond (Nat.beq pc 4) (some (.iload_n 1, 1)) none) (cond (Nat.beq pc 5) (some (.iaload, 1)) none))) (cond (Nat.blt pc 8) (cond (Nat.blt pc 7) (cond (Nat.beq pc 6) (some (.iconst 3, 1)) none) (cond (Nat.beq pc 7) (some (.iand, 1)) none)) (cond (Nat.blt pc 9) (cond (Nat.beq pc 8) (some (.istore_n 2, 1)) none) (cond (Nat.blt pc 10) (cond (Nat.beq pc 9) (some (.aload_n 0, 1)) none) (cond (Nat.beq pc 10) (some (.invokevirtual 99, 3)) none))))) (cond (Nat.blt pc 22) (cond (Nat.blt pc 17) (cond (Nat.blt pc 16) (cond (Nat.beq pc 13) (some (.ifCond .eq 5, 3)) none) (cond (Nat.beq pc 16) (some (.iconst 3, 1)) none)) (cond (Nat.blt pc 18) (cond (Nat.beq pc 17) (some (.ireturn, 1)) none) (cond (Nat.blt pc 19) (cond (Nat.beq pc 18) (some (.aload_n 0, 1)) none) (cond (Nat.beq pc 19) (some (.getfield 105, 3)) none)))) (cond (Nat.blt pc 27) (cond (Nat.blt pc 24) (cond (Nat.beq pc 22) (some (.bipush 16, 2)) none) (cond (Nat.beq pc 24) (some (.if_icmp .lt 5, 3)) none)) (cond (Nat.blt pc 28) (cond (Nat.beq pc 27) (some (.iconst 5, 1)) none) (cond (Nat.blt pc 29) (cond (Nat.beq pc 28) (some (.ireturn, 1)) none) (cond (Nat.beq pc 29) (some (.aload_n 0, 1)) none)))))) (cond (Nat.blt pc 44) (cond (Nat.blt pc 37) (cond (Nat.blt pc 34) (cond (Nat.blt pc 33) (cond (Nat.beq pc 30) (some (.getfield 16, 3)) none) (cond (Nat.beq pc 33) (some (.iload_n 1, 1)) none)) (cond (Nat.blt pc 35) (cond (Nat.beq pc 34) (some (.iaload, 1)) none) (cond (Nat.beq pc 35) (some (.bipush 7, 2)) none))) (cond (Nat.blt pc 39) (cond (Nat.blt pc 38) (cond (Nat.beq pc 37) (some (.iand, 1)) none) (cond (Nat.beq pc 38) (some (.istore_n 3, 1)) none)) (cond (Nat.blt pc 40) (cond (Nat.beq pc 39) (some (.aload_n 0, 1)) none) (cond (Nat.blt pc 43) (cond (Nat.beq pc 40) (some (.getfield 13, 3)) none) (cond (Nat.beq pc 43) (some (.iload_n 1, 1)) none))))) (cond (Nat.blt pc 51) (cond (Nat.blt pc 47) (cond (Nat.blt pc 45) (cond (Nat.beq pc 44) (some (.iaload, 1)) none) (cond (Nat.beq pc 45) (some (.bipush 7, 2)) none)) (cond (Nat.blt pc 48) (cond (Nat.beq pc 47) (some (.iand, 1)) none) (cond (Nat.blt pc 50) (cond (Nat.beq pc 48) (some (.istore 4, 2)) none) (cond (Nat.beq pc 50) (some (.aload_n 0, 1)) none)))) (cond (Nat.blt pc 55) (cond (Nat.blt pc 54) (cond (Nat.beq pc 51) (some (.getfield 22, 3)) none) (cond (Nat.beq pc 54) (some (.iload_n 3, 1)) none)) (cond (Nat.blt pc 56) (cond (Nat.beq pc 55) (some (.iaload, 1)) none) (cond (Nat.blt pc 58) (cond (Nat.beq pc 56) (some (.istore 5, 2)) none) (cond (Nat.beq pc 58) (some (.aload_n 0, 1)) none))))))) (cond (Nat.blt pc 92) (cond (Nat.blt pc 76) (cond (Nat.blt pc 67) (cond (Nat.blt pc 63) (cond (Nat.blt pc 62) (cond (Nat.beq pc 59) (some (.getfield 46, 3)) none) (cond (Nat.beq pc 62) (some (.aload_n 0, 1)) none)) (cond (Nat.blt pc 66) (cond (Nat.beq pc 63) (some (.getfield 105, 3)) none) (cond (Nat.beq pc 66) (some (.iload_n 1, 1)) none))) (cond (Nat.blt pc 69) (cond (Nat.blt pc 68) (cond (Nat.beq pc 67) (some (.iastore, 1)) none) (cond (Nat.beq pc 68) (some (.aload_n 0, 1)) none)) (cond (Nat.blt pc 72) (cond (Nat.beq pc 69) (some (.getfield 49, 3)) none) (cond (Nat.blt pc 73) (cond (Nat.beq pc 72) (some (.aload_n 0, 1)) none) (cond (Nat.beq pc 73) (some (.getfield 105, 3)) none))))) (cond (Nat.blt pc 83) (cond (Nat.blt pc 80) (cond (Nat.blt pc 77) (cond (Nat.beq pc 76) (some (.aload_n 0, 1)) none) (cond (Nat.beq pc 77) (some (.getfield 25, 3)) none)) (cond (Nat.blt pc 81) (cond (Nat.beq pc 80) (some (.iload_n 3, 1)) none) (cond (Nat.blt pc 82) (cond (Nat.beq pc 81) (some (.iaload, 1)) none) (cond (Nat.beq pc 82) (some (.iastore, 1)) none)))) (cond (Nat.blt pc 87) (cond (Nat.blt pc 84) (cond (Nat.beq pc 83) (some (.aload_n 0, 1)) none) (cond (Nat.beq pc 84) (some (.getfield 52, 3)) none)) (cond (Nat.blt pc 88) (cond (Nat.beq pc 87) (some (.aload_n 0, 1)) none) (cond (Nat.blt pc 91) (cond (Nat.beq pc 88) (some (.getfield 105, 3)) none) (cond (Nat.beq pc 91) (some (.iload_n 2, 1)) none)))))) (cond (Nat.blt pc 107) (cond (Nat.blt pc 98) (cond (Nat.blt pc 94) (cond (Nat.blt pc 93) (cond (Nat.beq pc 92) (some (.iastore, 1)) none) (cond (Nat.beq pc 93) (some (.aload_n 0, 1)) none)) (cond (Nat.blt pc 95) (cond (Nat.beq pc 94) (some (.aload_n 0, 1)) none) (cond (Nat.beq pc 95) (some (.getfield 105, 3)) none))) (cond (Nat.blt pc 100) (cond (Nat.blt pc 99) (cond (Nat.beq pc 98) (some (.iconst 1, 1)) none) (cond (Nat.beq pc 99) (some (.iadd, 1)) none)) (cond (Nat.blt pc 103) (cond (Nat.beq pc 100) (some (.putfield 105, 3)) none) (cond (Nat.blt pc 104) (cond (Nat.beq pc 103) (some (.aload_n 0, 1)) none) (cond (Nat.beq pc 104) (some (.getfield 22, 3)) none))))) (cond (Nat.blt pc 116) (cond (Nat.blt pc 111) (cond (Nat.blt pc 109) (cond (Nat.beq pc 107) (some (.iload 4, 2)) none) (cond (Nat.beq pc 109) (some (.iload 5, 2)) none)) (cond (Nat.blt pc 112) (cond (Nat.beq pc 111) (some (.iastore, 1)) none) (cond (Nat.blt pc 113) (cond (Nat.beq pc 112) (some (.aload_n 0, 1)) none) (cond (Nat.beq pc 113) (some (.getfield 25, 3)) none)))) (cond (Nat.blt pc 119) (cond (Nat.blt pc 118) (cond (Nat.beq pc 116) (some (.iload 4, 2)) none) (cond (Nat.beq pc 118) (some (.iload_n 2, 1)) none)) (cond (Nat.blt pc 120) (cond (Nat.beq pc 119) (some (.iastore, 1)) none) (cond (Nat.blt pc 121) (cond (Nat.beq pc 120) (some (.iconst 0, 1)) none) (cond (Nat.beq pc 121) (some (.ireturn, 1)) none)))))))) none
def cd_41 : Nat → Option (Instr × Nat) := fun pc => cond (Nat.blt pc 51) (cond (Nat.blt pc 26) (cond (Nat.blt pc 14) (cond (Nat.blt pc 6) (cond (Nat.blt pc 4) (cond (Nat.blt pc 1) (cond (Nat.beq pc 0) (some (.iload_n 1, 1)) none) (cond (Nat.beq pc 1) (some (.ifCond .lt 11, 3)) none)) (cond (Nat.blt pc 5) (cond (Nat.beq pc 4) (some (.iload_n 1, 1)) none) (cond (Nat.beq pc 5) (some (.aload_n 0, 1)) none))) (cond (Nat.blt pc 12) (cond (Nat.blt pc 9) (cond (Nat.beq pc 6) (some (.getfield 105, 3)) none) (cond (Nat.beq pc 9) (some (.if_icmp .lt 5, 3)) none)) (cond (Nat.blt pc 13) (cond (Nat.beq pc 12) (some (.iconst (-1), 1)) none) (cond (Nat.beq pc 13) (some (.ireturn, 1)) none)))) (cond (Nat.blt pc 22) (cond (Nat.blt pc 18) (cond (Nat.blt pc 15) (cond (Nat.beq pc 14) (some (.iload_n 2, 1)) none) (cond (Nat.beq pc 15) (some (.ifCond .ne 10, 3)) none)) (cond (Nat.blt pc 19) (cond (Nat.beq pc 18) (some (.aload_n 0, 1)) none) (cond (Nat.beq pc 19) (some (.getfield 46, 3)) none))) (cond (Nat.blt pc 24) (cond (Nat.blt pc 23) (cond (Nat.beq pc 22) (some (.iload_n 1, 1)) none) (cond (Nat.beq pc 23) (some (.iaload, 1)) none)) (cond (Nat.blt pc 25) (cond (Nat.beq pc 24) (some (.ireturn, 1)) none) (cond (Nat.beq pc 25) (some (.iload_n 2, 1)) none))))) (cond (Nat.blt pc 38) (cond (Nat.blt pc 34) (cond (Nat.blt pc 30) (cond (Nat.blt pc 27) (cond (Nat.beq pc 26) (some (.iconst 1, 1)) none) (cond (Nat.beq pc 27) (some (.if_icmp .ne 10, 3)) none)) (cond (Nat.blt pc 31) (cond (Nat.beq pc 30) (some (.aload_n 0, 1)) none) (cond (Nat.beq pc 31) (some (.getfield 49, 3)) none))) (cond (Nat.blt pc 36) (cond (Nat.blt pc 35) (cond (Nat.beq pc 34) (some (.iload_n 1, 1)) none) (cond (Nat.beq pc 35) (some (.iaload, 1)) none)) (cond (Nat.blt pc 37) (cond (Nat.beq pc 36) (some (.ireturn, 1)) none) (cond (Nat.beq pc 37) (some (.iload_n 2, 1)) none)))) (cond (Nat.blt pc 46) (cond (Nat.blt pc 42) (cond (Nat.blt pc 39) (cond (Nat.beq pc 38) (some (.iconst 2, 1)) none) (cond (Nat.beq pc 39) (some (.if_icmp .ne 10, 3)) none)) (cond (Nat.blt pc 43) (cond (Nat.beq pc 42) (some (.aload_n 0, 1)) none) (cond (Nat.beq pc 43) (some (.getfield 52, 3)) none))) (cond (Nat.blt pc 48) (cond (Nat.blt pc 47) (cond (Nat.beq pc 46) (some (.iload_n 1, 1)) none) (cond (Nat.beq pc 47) (some (.iaload, 1)) none)) (cond (Nat.blt pc 49) (cond (Nat.beq pc 48) (some (.ireturn, 1)) none) (cond (Nat.blt pc 50) (cond (Nat.beq pc 49) (some (.iconst (-1), 1)) none) (cond (Nat.beq pc 50) (some (.ireturn, 1)) none))))))) none
def PPcode : CodeT := fun q pc => cond (Nat.blt q 42) (cond (Nat.blt q 21) (cond (Nat.blt q 10) (cond (Nat.blt q 5) (cond (Nat.blt q 2) (cond (Nat.blt q 1) (cond (Nat.beq q 0) (cd_0 pc) none) (cond (Nat.beq q 1) (cd_1 pc) none)) (cond (Nat.blt q 3) (cond (Nat.beq q 2) (cd_2 pc) none) (cond (Nat.blt q 4) (cond (Nat.beq q 3) (cd_3 pc) none) (cond (Nat.beq q 4) (cd_4 pc) none)))) (cond (Nat.blt q 7) (cond (Nat.blt q 6) (cond (Nat.beq q 5) (cd_5 pc) none) (cond (Nat.beq q 6) (cd_6 pc) none)) (cond (Nat.blt q 8) (cond (Nat.beq q 7) (cd_7 pc) none) (cond (Nat.blt q 9) (cond (Nat.beq q 8) (cd_8 pc) none) (cond (Nat.beq q 9) (cd_9 pc) none))))) (cond (Nat.blt q 15) (cond (Nat.blt q 12) (cond (Nat.blt q 11) (cond (Nat.beq q 10) (cd_10 pc) none) (cond (Nat.beq q 11) (cd_11 pc) none)) (cond (Nat.blt q 13) (cond (Nat.beq q 12) (cd_12 pc) none) (cond (Nat.blt q 14) (cond (Nat.beq q 13) (cd_13 pc) none) (cond (Nat.beq q 14) (cd_14 pc) none)))) (cond (Nat.blt q 18) (cond (Nat.blt q 16) (cond (Nat.beq q 15) (cd_15 pc) none) (cond (Nat.blt q 17) (cond (Nat.beq q 16) (cd_16 pc) none) (cond (Nat.beq q 17) (cd_17 pc) none))) (cond (Nat.blt q 19) (cond (Nat.beq q 18) (cd_18 pc) none) (cond (Nat.blt q 20) (cond (Nat.beq q 19) (cd_19 pc) none) (cond (Nat.beq q 20) (cd_20 pc) none)))))) (cond (Nat.blt q 31) (cond (Nat.blt q 26) (cond (Nat.blt q 23) (cond (Nat.blt q 22) (cond (Nat.beq q 21) (cd_21 pc) none) (cond (Nat.beq q 22) (cd_22 pc) none)) (cond (Nat.blt q 24) (cond (Nat.beq q 23) (cd_23 pc) none) (cond (Nat.blt q 25) (cond (Nat.beq q 24) (cd_24 pc) none) (cond (Nat.beq q 25) (cd_25 pc) none)))) (cond (Nat.blt q 28) (cond (Nat.blt q 27) (cond (Nat.beq q 26) (cd_26 pc) none) (cond (Nat.beq q 27) (cd_27 pc) none)) (cond (Nat.blt q 29) (cond (Nat.beq q 28) (cd_28 pc) none) (cond (Nat.blt q 30) (cond (Nat.beq q 29) (cd_29 pc) none) (cond (Nat.beq q 30) (cd_30 pc) none))))) (cond (Nat.blt q 36) (cond (Nat.blt q 33) (cond (Nat.blt q 32) (cond (Nat.beq q 31) (cd_31 pc) none) (cond (Nat.beq q 32) (cd_32 pc) none)) (cond (Nat.blt q 34) (cond (Nat.beq q 33) (cd_33 pc) none) (cond (Nat.blt q 35) (cond (Nat.beq q 34) (cd_34 pc) none) (cond (Nat.beq q 35) (cd_35 pc) none)))) (cond (Nat.blt q 39) (cond (Nat.blt q 37) (cond (Nat.beq q 36) (cd_36 pc) none) (cond (Nat.blt q 38) (cond (Nat.beq q 37) (cd_37 pc) none) (cond (Nat.beq q 38) (cd_38 pc) none))) (cond (Nat.blt q 40) (cond (Nat.beq q 39) (cd_39 pc) none) (cond (Nat.blt q 41) (cond (Nat.beq q 40) (cd_40 pc) none) (cond (Nat.beq q 41) (cd_41 pc) none))))))) none
def PPfld : FldT := fun x => cond (Nat.blt x 141) (cond (Nat.blt x 52) (cond (Nat.blt x 31) (cond (Nat.blt x 19) (cond (Nat.blt x 13) (cond (Nat.beq x 7) (some (0, 0, 1, false)) none) (cond (Nat.blt x 16) (cond (Nat.beq x 13) (some (1, 0, 2, false)) none) (cond (Nat.beq x 16) (some (2, 0, 3, false)) none))) (cond (Nat.blt x 25) (cond (Nat.blt x 22) (cond (Nat.beq x 19) (some (3, 0, 4, false)) none) (cond (Nat.beq x 22) (some (4, 0, 5, false)) none)) (cond (Nat.blt x 28) (cond (Nat.beq x 25) (some (5, 0, 6, false)) none) (cond (Nat.beq x 28) (some (6, 0, 7, false)) none)))) (cond (Nat.blt x 40) (cond (Nat.blt x 34) (cond (Nat.beq x 31) (some (7, 0, 8, false)) none) (cond (Nat.blt x 37) (cond (Nat.beq x 34) (some (8, 0, 9, false)) none) (cond (Nat.beq x 37) (some (9, 0, 10, false)) none))) (cond (Nat.blt x 46) (cond (Nat.blt x 43) (cond (Nat.beq x 40) (some (10, 0, 11, false)) none) (cond (Nat.beq x 43) (some (11, 0, 12, false)) none)) (cond (Nat.blt x 49) (cond (Nat.beq x 46) (some (12, 0, 13, false)) none) (cond (Nat.beq x 49) (some (13, 0, 14, false)) none))))) (cond (Nat.blt x 80) (cond (Nat.blt x 62) (cond (Nat.blt x 55) (cond (Nat.beq x 52) (some (14, 0, 15, false)) none) (cond (Nat.blt x 58) (cond (Nat.beq x 55) (some (15, 0, 16, false)) none) (cond (Nat.beq x 58) (some (16, 0, 17, false)) none))) (cond (Nat.blt x 74) (cond (Nat.blt x 70) (cond (Nat.beq x 62) (some (17, 0, 18, false)) none) (cond (Nat.beq x 70) (some (18, 1, 0, false)) none)) (cond (Nat.blt x 77) (cond (Nat.beq x 74) (some (19, 1, 0, false)) none) (cond (Nat.beq x 77) (some (20, 1, 0, false)) none)))) (cond (Nat.blt x 92) (cond (Nat.blt x 83) (cond (Nat.beq x 80) (some (21, 1, 0, false)) none) (cond (Nat.blt x 89) (cond (Nat.beq x 83) (some (22, 1, 0, false)) none) (cond (Nat.beq x 89) (some (23, 1, 0, false)) none))) (cond (Nat.blt x 105) (cond (Nat.blt x 102) (cond (Nat.beq x 92) (some (24, 1, 0, false)) none) (cond (Nat.beq x 102) (some (25, 1, 0, false)) none)) (cond (Nat.blt x 140) (cond (Nat.beq x 105) (some (26, 1, 0, false)) none) (cond (Nat.beq x 140) (some (27, 1, 0, false)) none)))))) none
def PPlay : LayT := fun j => cond (Nat.blt j 19) (cond (Nat.blt j 10) (cond (Nat.blt j 5) (cond (Nat.blt j 3) (cond (Nat.blt j 2) (cond (Nat.beq j 1) (some (1, 32)) none) (cond (Nat.beq j 2) (some (1, 32)) none)) (cond (Nat.blt j 4) (cond (Nat.beq j 3) (some (1, 32)) none) (cond (Nat.beq j 4) (some (1, 32)) none))) (cond (Nat.blt j 7) (cond (Nat.blt j 6) (cond (Nat.beq j 5) (some (1, 8)) none) (cond (Nat.beq j 6) (some (1, 8)) none)) (cond (Nat.blt j 8) (cond (Nat.beq j 7) (some (1, 32)) none) (cond (Nat.blt j 9) (cond (Nat.beq j 8) (some (1, 32)) none) (cond (Nat.beq j 9) (some (1, 16)) none))))) (cond (Nat.blt j 14) (cond (Nat.blt j 12) (cond (Nat.blt j 11) (cond (Nat.beq j 10) (some (1, 16)) none) (cond (Nat.beq j 11) (some (1, 32)) none)) (cond (Nat.blt j 13) (cond (Nat.beq j 12) (some (1, 32)) none) (cond (Nat.beq j 13) (some (1, 16)) none))) (cond (Nat.blt j 16) (cond (Nat.blt j 15) (cond (Nat.beq j 14) (some (1, 16)) none) (cond (Nat.beq j 15) (some (1, 16)) none)) (cond (Nat.blt j 17) (cond (Nat.beq j 16) (some (1, 32)) none) (cond (Nat.blt j 18) (cond (Nat.beq j 17) (some (2, 33)) none) (cond (Nat.beq j 18) (some (4, 33)) none)))))) none
def PPcst : Nat → Option OV := fun x => cond (Nat.blt x 139) (cond (Nat.beq x 138) (some (vl (-1))) none) none
def PPmth : Nat → Option Nat := fun x => cond (Nat.blt x 180) (cond (Nat.blt x 134) (cond (Nat.blt x 114) (cond (Nat.blt x 99) (cond (Nat.blt x 86) (cond (Nat.beq x 66) (some 1) none) (cond (Nat.blt x 95) (cond (Nat.beq x 86) (some 4) none) (cond (Nat.beq x 95) (some 24) none))) (cond (Nat.blt x 108) (cond (Nat.beq x 99) (some 17) none) (cond (Nat.blt x 111) (cond (Nat.beq x 108) (some 34) none) (cond (Nat.beq x 111) (some 5) none)))) (cond (Nat.blt x 123) (cond (Nat.blt x 117) (cond (Nat.beq x 114) (some 9) none) (cond (Nat.blt x 120) (cond (Nat.beq x 117) (some 12) none) (cond (Nat.beq x 120) (some 7) none))) (cond (Nat.blt x 126) (cond (Nat.beq x 123) (some 8) none) (cond (Nat.blt x 130) (cond (Nat.beq x 126) (some 6) none) (cond (Nat.beq x 130) (some 10) none))))) (cond (Nat.blt x 159) (cond (Nat.blt x 150) (cond (Nat.blt x 143) (cond (Nat.beq x 134) (some 11) none) (cond (Nat.blt x 146) (cond (Nat.beq x 143) (some 25) none) (cond (Nat.beq x 146) (some 28) none))) (cond (Nat.blt x 153) (cond (Nat.beq x 150) (some 38) none) (cond (Nat.blt x 156) (cond (Nat.beq x 153) (some 39) none) (cond (Nat.beq x 156) (some 36) none)))) (cond (Nat.blt x 168) (cond (Nat.blt x 162) (cond (Nat.beq x 159) (some 35) none) (cond (Nat.blt x 165) (cond (Nat.beq x 162) (some 26) none) (cond (Nat.beq x 165) (some 29) none))) (cond (Nat.blt x 175) (cond (Nat.blt x 171) (cond (Nat.beq x 168) (some 40) none) (cond (Nat.beq x 171) (some 31) none)) (cond (Nat.blt x 179) (cond (Nat.beq x 175) (some 27) none) (cond (Nat.beq x 179) (some 37) none)))))) none
def PPinf : InfT := fun q => cond (Nat.blt q 42) (cond (Nat.blt q 21) (cond (Nat.blt q 10) (cond (Nat.blt q 5) (cond (Nat.blt q 2) (cond (Nat.blt q 1) (cond (Nat.beq q 0) (some ([false, false], 3, 0, 1, 14)) none) (cond (Nat.beq q 1) (some ([false], 2, 1, 0, 0)) none)) (cond (Nat.blt q 3) (cond (Nat.beq q 2) (some ([], 1, 1, 0, 0)) none) (cond (Nat.blt q 4) (cond (Nat.beq q 3) (some ([false, false, false, false], 5, 2, 5, 78)) none) (cond (Nat.beq q 4) (some ([], 2, 0, 4, 65)) none)))) (cond (Nat.blt q 7) (cond (Nat.blt q 6) (cond (Nat.beq q 5) (some ([], 4, 0, 3, 42)) none) (cond (Nat.beq q 6) (some ([false], 4, 2, 2, 27)) none)) (cond (Nat.blt q 8) (cond (Nat.beq q 7) (some ([false], 3, 1, 1, 13)) none) (cond (Nat.blt q 9) (cond (Nat.beq q 8) (some ([false], 2, 1, 0, 0)) none) (cond (Nat.beq q 9) (some ([], 8, 0, 3, 46)) none))))) (cond (Nat.blt q 15) (cond (Nat.blt q 12) (cond (Nat.blt q 11) (cond (Nat.beq q 10) (some ([], 1, 4, 0, 0)) none) (cond (Nat.beq q 11) (some ([false], 6, 4, 2, 27)) none)) (cond (Nat.blt q 13) (cond (Nat.beq q 12) (some ([false], 5, 1, 0, 0)) none) (cond (Nat.blt q 14) (cond (Nat.beq q 13) (some ([], 1, 1, 0, 0)) none) (cond (Nat.beq q 14) (some ([], 1, 1, 0, 0)) none)))) (cond (Nat.blt q 18) (cond (Nat.blt q 16) (cond (Nat.beq q 15) (some ([], 1, 1, 0, 0)) none) (cond (Nat.blt q 17) (cond (Nat.beq q 16) (some ([], 1, 1, 1, 12)) none) (cond (Nat.beq q 17) (some ([], 1, 1, 0, 0)) none))) (cond (Nat.blt q 19) (cond (Nat.beq q 18) (some ([], 1, 1, 0, 0)) none) (cond (Nat.blt q 20) (cond (Nat.beq q 19) (some ([], 1, 1, 0, 0)) none) (cond (Nat.beq q 20) (some ([false], 2, 1, 0, 0)) none)))))) (cond (Nat.blt q 31) (cond (Nat.blt q 26) (cond (Nat.blt q 23) (cond (Nat.blt q 22) (cond (Nat.beq q 21) (some ([false], 2, 1, 0, 0)) none) (cond (Nat.beq q 22) (some ([false, false], 3, 1, 0, 0)) none)) (cond (Nat.blt q 24) (cond (Nat.beq q 23) (some ([false], 5, 1, 5, 80)) none) (cond (Nat.blt q 25) (cond (Nat.beq q 24) (some ([], 3, 1, 4, 65)) none) (cond (Nat.beq q 25) (some ([false], 3, 1, 3, 51)) none)))) (cond (Nat.blt q 28) (cond (Nat.blt q 27) (cond (Nat.beq q 26) (some ([false], 5, 1, 1, 14)) none) (cond (Nat.beq q 27) (some ([false, false], 3, 2, 0, 0)) none)) (cond (Nat.blt q 29) (cond (Nat.beq q 28) (some ([false, false, false], 6, 1, 1, 14)) none) (cond (Nat.blt q 30) (cond (Nat.beq q 29) (some ([false], 3, 1, 1, 15)) none) (cond (Nat.beq q 30) (some ([false, false], 3, 1, 0, 0)) none))))) (cond (Nat.blt q 36) (cond (Nat.blt q 33) (cond (Nat.blt q 32) (cond (Nat.beq q 31) (some ([false, false], 9, 1, 2, 31)) none) (cond (Nat.beq q 32) (some ([false], 2, 1, 0, 0)) none)) (cond (Nat.blt q 34) (cond (Nat.beq q 33) (some ([false, false, false], 4, 2, 0, 0)) none) (cond (Nat.blt q 35) (cond (Nat.beq q 34) (some ([false], 2, 1, 0, 0)) none) (cond (Nat.beq q 35) (some ([false], 5, 1, 1, 14)) none)))) (cond (Nat.blt q 39) (cond (Nat.blt q 37) (cond (Nat.beq q 36) (some ([false], 8, 1, 1, 14)) none) (cond (Nat.blt q 38) (cond (Nat.beq q 37) (some ([false], 2, 1, 0, 0)) none) (cond (Nat.beq q 38) (some ([false], 5, 1, 2, 31)) none))) (cond (Nat.blt q 40) (cond (Nat.beq q 39) (some ([false], 6, 1, 2, 31)) none) (cond (Nat.blt q 41) (cond (Nat.beq q 40) (some ([false], 6, 1, 1, 12)) none) (cond (Nat.beq q 41) (some ([false, false], 3, 1, 0, 0)) none))))))) none
def PPobi : Nat → Bool := fun x => Nat.beq x 1
def PPliv : LivT := fun q pc => cond (Nat.blt q 21) (cond (Nat.blt q 10) (cond (Nat.blt q 5) (cond (Nat.blt q 2) (cond (Nat.blt q 1) (cond (Nat.beq q 0) (cond (Nat.beq pc 0) (some [true, true, true]) none) none) (cond (Nat.beq q 1) (cond (Nat.blt pc 9) (cond (Nat.blt pc 6) (cond (Nat.beq pc 0) (some [false, true]) none) (cond (Nat.beq pc 6) (some [false, false]) none)) (cond (Nat.blt pc 15) (cond (Nat.beq pc 9) (some [false, true]) none) (cond (Nat.blt pc 18) (cond (Nat.beq pc 15) (some [false, false]) none) (cond (Nat.beq pc 18) (some [false, true]) none)))) none)) (cond (Nat.blt q 3) (cond (Nat.beq q 2) (cond (Nat.beq pc 0) (some [true]) none) none) (cond (Nat.blt q 4) (cond (Nat.beq q 3) (cond (Nat.blt pc 22) (cond (Nat.blt pc 9) (cond (Nat.blt pc 7) (cond (Nat.beq pc 0) (some [true, true, true, true, true]) none) (cond (Nat.beq pc 7) (some [false, false, false, false, false]) none)) (cond (Nat.blt pc 20) (cond (Nat.beq pc 9) (some [true, true, true, true, true]) none) (cond (Nat.beq pc 20) (some [false, false, false, false, false]) none))) (cond (Nat.blt pc 32) (cond (Nat.blt pc 26) (cond (Nat.beq pc 22) (some [true, true, true, true, true]) none) (cond (Nat.beq pc 26) (some [true, true, true, true, true]) none)) (cond (Nat.blt pc 34) (cond (Nat.beq pc 32) (some [false, false, false, false, false]) none) (cond (Nat.beq pc 34) (some [true, true, true, true, true]) none)))) none) (cond (Nat.beq q 4) (cond (Nat.blt pc 18) (cond (Nat.blt pc 10) (cond (Nat.beq pc 0) (some [true, false]) none) (cond (Nat.beq pc 10) (some [true, true]) none)) (cond (Nat.blt pc 35) (cond (Nat.beq pc 18) (some [true, true]) none) (cond (Nat.beq pc 35) (some [false, false]) none))) none)))) (cond (Nat.blt q 7) (cond (Nat.blt q 6) (cond (Nat.beq q 5) (cond (Nat.blt pc 52) (cond (Nat.blt pc 27) (cond (Nat.blt pc 10) (cond (Nat.blt pc 2) (cond (Nat.beq pc 0) (some [true, false, false, false]) none) (cond (Nat.beq pc 2) (some [true, true, false, false]) none)) (cond (Nat.blt pc 23) (cond (Nat.beq pc 10) (some [true, true, false, false]) none) (cond (Nat.beq pc 23) (some [true, true, false, false]) none))) (cond (Nat.blt pc 35) (cond (Nat.blt pc 28) (cond (Nat.beq pc 27) (some [true, true, false, false]) none) (cond (Nat.beq pc 28) (some [true, true, false, false]) none)) (cond (Nat.blt pc 37) (cond (Nat.beq pc 35) (some [true, false, false, false]) none) (cond (Nat.blt pc 43) (cond (Nat.beq pc 37) (some [true, true, false, false]) none) (cond (Nat.beq pc 43) (some [true, true, false, false]) none))))) (cond (Nat.blt pc 82) (cond (Nat.blt pc 65) (cond (Nat.blt pc 56) (cond (Nat.beq pc 52) (some [true, true, true, true]) none) (cond (Nat.beq pc 56) (some [true, true, true, true]) none)) (cond (Nat.blt pc 73) (cond (Nat.beq pc 65) (some [true, true, true, true]) none) (cond (Nat.beq pc 73) (some [true, true, false, true]) none))) (cond (Nat.blt pc 92) (cond (Nat.blt pc 88) (cond (Nat.beq pc 82) (some [true, true, true, true]) none) (cond (Nat.beq pc 88) (some [true, true, true, false]) none)) (cond (Nat.blt pc 95) (cond (Nat.beq pc 92) (some [false, false, false, false]) none) (cond (Nat.blt pc 101) (cond (Nat.beq pc 95) (some [true, true, false, false]) none) (cond (Nat.beq pc 101) (some [false, false, false, false]) none)))))) none) (cond (Nat.beq q 6) (cond (Nat.blt pc 39) (cond (Nat.blt pc 24) (cond (Nat.blt pc 16) (cond (Nat.beq pc 0) (some [true, true, false, false]) none) (cond (Nat.beq pc 16) (some [true, false, true, true]) none)) (cond (Nat.blt pc 33) (cond (Nat.beq pc 24) (some [true, false, true, true]) none) (cond (Nat.blt pc 35) (cond (Nat.beq pc 33) (some [false, false, false, false]) none) (cond (Nat.beq pc 35) (some [true, false, false, true]) none)))) (cond (Nat.blt pc 56) (cond (Nat.blt pc 47) (cond (Nat.beq pc 39) (some [true, false, false, true]) none) (cond (Nat.beq pc 47) (some [true, false, false, true]) none)) (cond (Nat.blt pc 60) (cond (Nat.beq pc 56) (some [false, false, false, false]) none) (cond (Nat.blt pc 61) (cond (Nat.beq pc 60) (some [false, false, false, false]) none) (cond (Nat.beq pc 61) (some [false, false, false, false]) none))))) none)) (cond (Nat.blt q 8) (cond (Nat.beq q 7) (cond (Nat.blt pc 30) (cond (Nat.blt pc 12) (cond (Nat.blt pc 4) (cond (Nat.beq pc 0) (some [true, true, false]) none) (cond (Nat.beq pc 4) (some [true, true, false]) none)) (cond (Nat.blt pc 14) (cond (Nat.beq pc 12) (some [false, false, false]) none) (cond (Nat.blt pc 25) (cond (Nat.beq pc 14) (some [true, true, false]) none) (cond (Nat.beq pc 25) (some [true, false, false]) none)))) (cond (Nat.blt pc 47) (cond (Nat.blt pc 36) (cond (Nat.beq pc 30) (some [true, true, true]) none) (cond (Nat.beq pc 36) (some [true, true, false]) none)) (cond (Nat.blt pc 53) (cond (Nat.beq pc 47) (some [true, true, true]) none) (cond (Nat.blt pc 64) (cond (Nat.beq pc 53) (some [true, true, false]) none) (cond (Nat.beq pc 64) (some [false, true, false]) none))))) none) (cond (Nat.blt q 9) (cond (Nat.beq q 8) (cond (Nat.blt pc 14) (cond (Nat.blt pc 4) (cond (Nat.beq pc 0) (some [true, true]) none) (cond (Nat.blt pc 12) (cond (Nat.beq pc 4) (some [true, true]) none) (cond (Nat.beq pc 12) (some [false, false]) none))) (cond (Nat.blt pc 25) (cond (Nat.beq pc 14) (some [true, true]) none) (cond (Nat.blt pc 29) (cond (Nat.beq pc 25) (some [false, true]) none) (cond (Nat.beq pc 29) (some [false, false]) none)))) none) (cond (Nat.beq q 9) (cond (Nat.blt pc 76) (cond (Nat.blt pc 33) (cond (Nat.blt pc 15) (cond (Nat.blt pc 7) (cond (Nat.beq pc 0) (some [true, false, false, false, false, false, false, false]) none) (cond (Nat.beq pc 7) (some [true, true, false, true, false, false, false, false]) none)) (cond (Nat.blt pc 29) (cond (Nat.beq pc 15) (some [true, true, false, true, false, false, false, false]) none) (cond (Nat.beq pc 29) (some [true, true, false, true, false, false, false, false]) none))) (cond (Nat.blt pc 41) (cond (Nat.blt pc 34) (cond (Nat.beq pc 33) (some [true, true, false, true, false, false, false, false]) none) (cond (Nat.beq pc 34) (some [true, true, false, true, false, false, false, false]) none)) (cond (Nat.blt pc 58) (cond (Nat.beq pc 41) (some [true, false, false, false, false, false, false, false]) none) (cond (Nat.blt pc 65) (cond (Nat.beq pc 58) (some [true, false, false, true, false, false, false, false]) none) (cond (Nat.beq pc 65) (some [true, false, false, true, false, false, false, false]) none))))) (cond (Nat.blt pc 129) (cond (Nat.blt pc 91) (cond (Nat.blt pc 81) (cond (Nat.beq pc 76) (some [true, false, false, true, true, true, false, false]) none) (cond (Nat.beq pc 81) (some [true, false, false, true, true, true, false, false]) none)) (cond (Nat.blt pc 117) (cond (Nat.beq pc 91) (some [true, false, false, true, true, true, false, false]) none) (cond (Nat.beq pc 117) (some [true, false, false, true, false, true, true, false]) none))) (cond (Nat.blt pc 140) (cond (Nat.blt pc 135) (cond (Nat.beq pc 129) (some [true, false, false, true, true, true, false, false]) none) (cond (Nat.beq pc 135) (some [true, false, false, true, true, false, false, false]) none)) (cond (Nat.blt pc 143) (cond (Nat.beq pc 140) (some [false, false, false, false, false, false, false, false]) none) (cond (Nat.blt pc 149) (cond (Nat.beq pc 143) (some [true, false, false, true, false, false, false, false]) none) (cond (Nat.beq pc 149) (some [false, false, false, false, false, false, false, false]) none)))))) none))))) (cond (Nat.blt q 15) (cond (Nat.blt q 12) (cond (Nat.blt q 11) (cond (Nat.beq q 10) (cond (Nat.beq pc 0) (some [true]) none) none) (cond (Nat.beq q 11) (cond (Nat.blt pc 53) (cond (Nat.blt pc 33) (cond (Nat.blt pc 24) (cond (Nat.beq pc 0) (some [true, true, false, false, false, false]) none) (cond (Nat.beq pc 24) (some [true, false, true, false, true, true]) none)) (cond (Nat.blt pc 43) (cond (Nat.beq pc 33) (some [true, false, true, false, true, true]) none) (cond (Nat.beq pc 43) (some [true, false, true, false, true, true]) none))) (cond (Nat.blt pc 67) (cond (Nat.blt pc 58) (cond (Nat.beq pc 53) (some [true, false, true, false, false, true]) none) (cond (Nat.beq pc 58) (some [true, false, true, false, false, true]) none)) (cond (Nat.blt pc 77) (cond (Nat.beq pc 67) (some [true, false, true, false, false, true]) none) (cond (Nat.blt pc 87) (cond (Nat.beq pc 77) (some [true, false, true, false, false, true]) none) (cond (Nat.beq pc 87) (some [false, false, true, false, false, false]) none))))) none)) (cond (Nat.blt q 13) (cond (Nat.beq q 12) (cond (Nat.blt pc 41) (cond (Nat.blt pc 14) (cond (Nat.blt pc 9) (cond (Nat.beq pc 0) (some [true, true, false, false, false]) none) (cond (Nat.beq pc 9) (some [true, false, false, false, false]) none)) (cond (Nat.blt pc 32) (cond (Nat.beq pc 14) (some [true, true, false, false, false]) none) (cond (Nat.beq pc 32) (some [true, false, true, false, true]) none))) (cond (Nat.blt pc 64) (cond (Nat.blt pc 52) (cond (Nat.beq pc 41) (some [true, false, true, false, true]) none) (cond (Nat.beq pc 52) (some [true, false, true, false, true]) none)) (cond (Nat.blt pc 67) (cond (Nat.beq pc 64) (some [false, false, false, false, true]) none) (cond (Nat.blt pc 73) (cond (Nat.beq pc 67) (some [true, false, true, false, true]) none) (cond (Nat.beq pc 73) (some [true, false, false, false, false]) none))))) none) (cond (Nat.blt q 14) (cond (Nat.beq q 13) (cond (Nat.blt pc 15) (cond (Nat.blt pc 8) (cond (Nat.beq pc 0) (some [true]) none) (cond (Nat.beq pc 8) (some [true]) none)) (cond (Nat.blt pc 16) (cond (Nat.beq pc 15) (some [false]) none) (cond (Nat.beq pc 16) (some [false]) none))) none) (cond (Nat.beq q 14) (cond (Nat.blt pc 11) (cond (Nat.blt pc 7) (cond (Nat.beq pc 0) (some [true]) none) (cond (Nat.beq pc 7) (some [false]) none)) (cond (Nat.blt pc 15) (cond (Nat.beq pc 11) (some [true]) none) (cond (Nat.beq pc 15) (some [false]) none))) none)))) (cond (Nat.blt q 18) (cond (Nat.blt q 16) (cond (Nat.beq q 15) (cond (Nat.beq pc 0) (some [true]) none) none) (cond (Nat.blt q 17) (cond (Nat.beq q 16) (cond (Nat.beq pc 0) (some [true]) none) none) (cond (Nat.beq q 17) (cond (Nat.blt pc 7) (cond (Nat.beq pc 0) (some [true]) none) (cond (Nat.blt pc 9) (cond (Nat.beq pc 7) (some [false]) none) (cond (Nat.beq pc 9) (some [true]) none))) none))) (cond (Nat.blt q 19) (cond (Nat.beq q 18) (cond (Nat.beq pc 0) (some [true]) none) none) (cond (Nat.blt q 20) (cond (Nat.beq q 19) (cond (Nat.beq pc 0) (some [true]) none) none) (cond (Nat.beq q 20) (cond (Nat.blt pc 12) (cond (Nat.blt pc 4) (cond (Nat.beq pc 0) (some [true, true]) none) (cond (Nat.beq pc 4) (some [true, true]) none)) (cond (Nat.blt pc 14) (cond (Nat.beq pc 12) (some [false, false]) none) (cond (Nat.beq pc 14) (some [true, true]) none))) none)))))) (cond (Nat.blt q 31) (cond (Nat.blt q 26) (cond (Nat.blt q 23) (cond (Nat.blt q 22) (cond (Nat.beq q 21) (cond (Nat.blt pc 10) (cond (Nat.blt pc 4) (cond (Nat.beq pc 0) (some [true, true]) none) (cond (Nat.beq pc 4) (some [true, true]) none)) (cond (Nat.blt pc 12) (cond (Nat.beq pc 10) (some [false, false]) none) (cond (Nat.beq pc 12) (some [true, true]) none))) none) (cond (Nat.beq q 22) (cond (Nat.blt pc 23) (cond (Nat.blt pc 8) (cond (Nat.blt pc 4) (cond (Nat.beq pc 0) (some [true, true, true]) none) (cond (Nat.beq pc 4) (some [true, false, true]) none)) (cond (Nat.blt pc 14) (cond (Nat.beq pc 8) (some [true, false, true]) none) (cond (Nat.blt pc 16) (cond (Nat.beq pc 14) (some [false, false, false]) none) (cond (Nat.beq pc 16) (some [true, false, true]) none)))) (cond (Nat.blt pc 40) (cond (Nat.blt pc 28) (cond (Nat.beq pc 23) (some [true, true, true]) none) (cond (Nat.blt pc 32) (cond (Nat.beq pc 28) (some [true, false, true]) none) (cond (Nat.beq pc 32) (some [true, false, true]) none))) (cond (Nat.blt pc 42) (cond (Nat.beq pc 40) (some [false, false, false]) none) (cond (Nat.blt pc 49) (cond (Nat.beq pc 42) (some [true, false, true]) none) (cond (Nat.beq pc 49) (some [false, false, false]) none))))) none)) (cond (Nat.blt q 24) (cond (Nat.beq q 23) (cond (Nat.blt pc 39) (cond (Nat.blt pc 23) (cond (Nat.blt pc 7) (cond (Nat.blt pc 5) (cond (Nat.beq pc 0) (some [true, true, false, false, false]) none) (cond (Nat.beq pc 5) (some [false, false, false, false, false]) none)) (cond (Nat.blt pc 15) (cond (Nat.beq pc 7) (some [true, true, false, false, false]) none) (cond (Nat.beq pc 15) (some [true, true, false, false, false]) none))) (cond (Nat.blt pc 32) (cond (Nat.blt pc 25) (cond (Nat.beq pc 23) (some [false, false, false, false, false]) none) (cond (Nat.beq pc 25) (some [true, true, false, false, false]) none)) (cond (Nat.blt pc 38) (cond (Nat.beq pc 32) (some [true, false, false, false, false]) none) (cond (Nat.beq pc 38) (some [true, true, false, false, false]) none)))) (cond (Nat.blt pc 81) (cond (Nat.blt pc 64) (cond (Nat.blt pc 47) (cond (Nat.beq pc 39) (some [true, false, false, false, false]) none) (cond (Nat.beq pc 47) (some [true, false, true, false, false]) none)) (cond (Nat.blt pc 76) (cond (Nat.beq pc 64) (some [true, false, false, false, false]) none) (cond (Nat.beq pc 76) (some [true, false, true, false, false]) none))) (cond (Nat.blt pc 95) (cond (Nat.blt pc 87) (cond (Nat.beq pc 81) (some [true, false, true, true, true]) none) (cond (Nat.beq pc 87) (some [true, false, true, true, true]) none)) (cond (Nat.blt pc 98) (cond (Nat.beq pc 95) (some [false, false, false, true, false]) none) (cond (Nat.blt pc 111) (cond (Nat.beq pc 98) (some [true, false, true, true, true]) none) (cond (Nat.beq pc 111) (some [false, false, false, true, false]) none)))))) none) (cond (Nat.blt q 25) (cond (Nat.beq q 24) (cond (Nat.blt pc 52) (cond (Nat.blt pc 37) (cond (Nat.blt pc 9) (cond (Nat.beq pc 0) (some [true, false, false]) none) (cond (Nat.blt pc 17) (cond (Nat.beq pc 9) (some [true, true, false]) none) (cond (Nat.beq pc 17) (some [true, false, false]) none))) (cond (Nat.blt pc 39) (cond (Nat.beq pc 37) (some [true, true, false]) none) (cond (Nat.blt pc 45) (cond (Nat.beq pc 39) (some [true, true, true]) none) (cond (Nat.beq pc 45) (some [true, true, true]) none)))) (cond (Nat.blt pc 100) (cond (Nat.blt pc 67) (cond (Nat.beq pc 52) (some [true, true, true]) none) (cond (Nat.blt pc 83) (cond (Nat.beq pc 67) (some [true, true, true]) none) (cond (Nat.beq pc 83) (some [true, true, false]) none))) (cond (Nat.blt pc 136) (cond (Nat.blt pc 117) (cond (Nat.beq pc 100) (some [true, true, true]) none) (cond (Nat.beq pc 117) (some [true, false, false]) none)) (cond (Nat.blt pc 146) (cond (Nat.beq pc 136) (some [true, false, false]) none) (cond (Nat.beq pc 146) (some [false, false, false]) none))))) none) (cond (Nat.beq q 25) (cond (Nat.blt pc 130) (cond (Nat.blt pc 112) (cond (Nat.blt pc 84) (cond (Nat.beq pc 0) (some [true, true, false]) none) (cond (Nat.blt pc 94) (cond (Nat.beq pc 84) (some [true, false, false]) none) (cond (Nat.beq pc 94) (some [true, true, false]) none))) (cond (Nat.blt pc 118) (cond (Nat.beq pc 112) (some [true, true, false]) none) (cond (Nat.blt pc 124) (cond (Nat.beq pc 118) (some [true, true, false]) none) (cond (Nat.beq pc 124) (some [true, true, false]) none)))) (cond (Nat.blt pc 158) (cond (Nat.blt pc 146) (cond (Nat.beq pc 130) (some [true, true, false]) none) (cond (Nat.blt pc 152) (cond (Nat.beq pc 146) (some [true, true, false]) none) (cond (Nat.beq pc 152) (some [true, true, false]) none))) (cond (Nat.blt pc 164) (cond (Nat.beq pc 158) (some [true, true, false]) none) (cond (Nat.blt pc 170) (cond (Nat.beq pc 164) (some [true, true, false]) none) (cond (Nat.beq pc 170) (some [true, true, true]) none))))) none)))) (cond (Nat.blt q 28) (cond (Nat.blt q 27) (cond (Nat.beq q 26) (cond (Nat.blt pc 44) (cond (Nat.blt pc 42) (cond (Nat.beq pc 0) (some [true, true, false, false, false]) none) (cond (Nat.beq pc 42) (some [false, false, false, false, false]) none)) (cond (Nat.blt pc 53) (cond (Nat.beq pc 44) (some [true, false, true, true, false]) none) (cond (Nat.blt pc 55) (cond (Nat.beq pc 53) (some [false, false, false, false, false]) none) (cond (Nat.beq pc 55) (some [true, false, true, true, false]) none)))) none) (cond (Nat.beq q 27) (cond (Nat.blt pc 11) (cond (Nat.blt pc 7) (cond (Nat.beq pc 0) (some [false, true, true]) none) (cond (Nat.beq pc 7) (some [false, false, false]) none)) (cond (Nat.blt pc 12) (cond (Nat.beq pc 11) (some [false, false, false]) none) (cond (Nat.beq pc 12) (some [false, false, false]) none))) none)) (cond (Nat.blt q 29) (cond (Nat.beq q 28) (cond (Nat.blt pc 28) (cond (Nat.beq pc 0) (some [true, true, true, true, false, false]) none) (cond (Nat.blt pc 30) (cond (Nat.beq pc 28) (some [false, false, false, false, false, false]) none) (cond (Nat.beq pc 30) (some [true, false, true, true, true, true]) none))) none) (cond (Nat.blt q 30) (cond (Nat.beq q 29) (cond (Nat.beq pc 0) (some [true, true, false]) none) none) (cond (Nat.beq q 30) (cond (Nat.blt pc 18) (cond (Nat.blt pc 12) (cond (Nat.blt pc 4) (cond (Nat.beq pc 0) (some [true, true, true]) none) (cond (Nat.beq pc 4) (some [true, true, true]) none)) (cond (Nat.blt pc 14) (cond (Nat.beq pc 12) (some [false, false, false]) none) (cond (Nat.beq pc 14) (some [true, true, true]) none))) (cond (Nat.blt pc 30) (cond (Nat.blt pc 25) (cond (Nat.beq pc 18) (some [true, true, false]) none) (cond (Nat.beq pc 25) (some [true, true, true]) none)) (cond (Nat.blt pc 37) (cond (Nat.beq pc 30) (some [true, true, false]) none) (cond (Nat.beq pc 37) (some [false, false, false]) none)))) none))))) (cond (Nat.blt q 36) (cond (Nat.blt q 33) (cond (Nat.blt q 32) (cond (Nat.beq q 31) (cond (Nat.blt pc 112) (cond (Nat.blt pc 84) (cond (Nat.blt pc 69) (cond (Nat.blt pc 59) (cond (Nat.beq pc 0) (some [true, true, true, false, false, false, false, false, false]) none) (cond (Nat.beq pc 59) (some [true, true, false, false, false, true, true, true, false]) none)) (cond (Nat.blt pc 74) (cond (Nat.beq pc 69) (some [true, true, true, false, false, true, true, true, false]) none) (cond (Nat.beq pc 74) (some [true, true, false, false, false, true, true, true, false]) none))) (cond (Nat.blt pc 99) (cond (Nat.blt pc 89) (cond (Nat.beq pc 84) (some [true, true, true, false, false, true, true, true, false]) none) (cond (Nat.beq pc 89) (some [true, true, false, false, false, true, true, true, false]) none)) (cond (Nat.blt pc 105) (cond (Nat.beq pc 99) (some [true, true, true, false, false, true, true, true, false]) none) (cond (Nat.beq pc 105) (some [true, true, false, false, false, true, true, true, false]) none)))) (cond (Nat.blt pc 129) (cond (Nat.blt pc 117) (cond (Nat.blt pc 116) (cond (Nat.beq pc 112) (some [true, true, false, false, false, false, false, true, false]) none) (cond (Nat.beq pc 116) (some [true, true, false, false, false, false, false, true, false]) none)) (cond (Nat.blt pc 122) (cond (Nat.beq pc 117) (some [true, true, false, false, false, false, false, true, false]) none) (cond (Nat.beq pc 122) (some [true, true, false, false, false, true, true, true, false]) none))) (cond (Nat.blt pc 134) (cond (Nat.blt pc 133) (cond (Nat.beq pc 129) (some [true, true, false, false, false, false, false, true, false]) none) (cond (Nat.beq pc 133) (some [true, true, false, false, false, false, false, true, false]) none)) (cond (Nat.blt pc 136) (cond (Nat.beq pc 134) (some [true, true, false, false, false, false, false, true, false]) none) (cond (Nat.beq pc 136) (some [true, true, false, false, false, false, false, true, true]) none))))) none) (cond (Nat.beq q 32) (cond (Nat.blt pc 12) (cond (Nat.blt pc 4) (cond (Nat.beq pc 0) (some [true, true]) none) (cond (Nat.beq pc 4) (some [true, true]) none)) (cond (Nat.blt pc 14) (cond (Nat.beq pc 12) (some [false, false]) none) (cond (Nat.beq pc 14) (some [true, true]) none))) none)) (cond (Nat.blt q 34) (cond (Nat.beq q 33) (cond (Nat.blt pc 21) (cond (Nat.blt pc 9) (cond (Nat.blt pc 7) (cond (Nat.beq pc 0) (some [true, true, true, true]) none) (cond (Nat.beq pc 7) (some [false, false, false, false]) none)) (cond (Nat.blt pc 13) (cond (Nat.beq pc 9) (some [true, true, true, true]) none) (cond (Nat.beq pc 13) (some [true, true, true, true]) none))) (cond (Nat.blt pc 27) (cond (Nat.blt pc 23) (cond (Nat.beq pc 21) (some [false, false, false, false]) none) (cond (Nat.beq pc 23) (some [true, true, true, true]) none)) (cond (Nat.blt pc 32) (cond (Nat.beq pc 27) (some [true, true, true, true]) none) (cond (Nat.blt pc 34) (cond (Nat.beq pc 32) (some [false, false, false, false]) none) (cond (Nat.beq pc 34) (some [true, true, true, true]) none))))) none) (cond (Nat.blt q 35) (cond (Nat.beq q 34) (cond (Nat.blt pc 12) (cond (Nat.blt pc 4) (cond (Nat.beq pc 0) (some [true, true]) none) (cond (Nat.beq pc 4) (some [true, true]) none)) (cond (Nat.blt pc 14) (cond (Nat.beq pc 12) (some [false, true]) none) (cond (Nat.beq pc 14) (some [true, false]) none))) none) (cond (Nat.beq q 35) (cond (Nat.blt pc 91) (cond (Nat.blt pc 53) (cond (Nat.blt pc 37) (cond (Nat.beq pc 0) (some [true, true, false, false, false]) none) (cond (Nat.beq pc 37) (some [true, true, true, true, true]) none)) (cond (Nat.blt pc 80) (cond (Nat.beq pc 53) (some [true, true, true, true, false]) none) (cond (Nat.blt pc 89) (cond (Nat.beq pc 80) (some [true, true, true, true, true]) none) (cond (Nat.beq pc 89) (some [false, false, false, false, false]) none)))) (cond (Nat.blt pc 131) (cond (Nat.blt pc 122) (cond (Nat.beq pc 91) (some [true, true, true, true, true]) none) (cond (Nat.beq pc 122) (some [true, true, true, false, false]) none)) (cond (Nat.blt pc 148) (cond (Nat.beq pc 131) (some [true, true, false, false, false]) none) (cond (Nat.blt pc 155) (cond (Nat.beq pc 148) (some [true, true, false, false, false]) none) (cond (Nat.beq pc 155) (some [false, false, false, false, false]) none))))) none)))) (cond (Nat.blt q 39) (cond (Nat.blt q 37) (cond (Nat.beq q 36) (cond (Nat.blt pc 79) (cond (Nat.blt pc 74) (cond (Nat.blt pc 58) (cond (Nat.beq pc 0) (some [true, true, false, false, false, false, false, false]) none) (cond (Nat.beq pc 58) (some [true, false, false, true, true, true, true, false]) none)) (cond (Nat.blt pc 76) (cond (Nat.beq pc 74) (some [false, false, false, false, false, false, false, false]) none) (cond (Nat.beq pc 76) (some [true, false, false, true, true, false, true, false]) none))) (cond (Nat.blt pc 104) (cond (Nat.blt pc 88) (cond (Nat.beq pc 79) (some [true, false, false, true, true, false, true, true]) none) (cond (Nat.beq pc 88) (some [true, false, false, true, true, false, true, true]) none)) (cond (Nat.blt pc 106) (cond (Nat.beq pc 104) (some [false, false, false, false, false, false, false, false]) none) (cond (Nat.blt pc 112) (cond (Nat.beq pc 106) (some [true, false, false, true, true, false, true, true]) none) (cond (Nat.beq pc 112) (some [true, false, false, true, true, false, true, false]) none))))) none) (cond (Nat.blt q 38) (cond (Nat.beq q 37) (cond (Nat.beq pc 0) (some [true, true]) none) none) (cond (Nat.beq q 38) (cond (Nat.beq pc 0) (some [true, true, false, false, false]) none) none))) (cond (Nat.blt q 40) (cond (Nat.beq q 39) (cond (Nat.beq pc 0) (some [true, true, false, false, false, false]) none) none) (cond (Nat.blt q 41) (cond (Nat.beq q 40) (cond (Nat.blt pc 18) (cond (Nat.blt pc 16) (cond (Nat.beq pc 0) (some [true, true, false, false, false, false]) none) (cond (Nat.beq pc 16) (some [false, false, false, false, false, false]) none)) (cond (Nat.blt pc 27) (cond (Nat.beq pc 18) (some [true, true, true, false, false, false]) none) (cond (Nat.blt pc 29) (cond (Nat.beq pc 27) (some [false, false, false, false, false, false]) none) (cond (Nat.beq pc 29) (some [true, true, true, false, false, false]) none)))) none) (cond (Nat.beq q 41) (cond (Nat.blt pc 25) (cond (Nat.blt pc 12) (cond (Nat.blt pc 4) (cond (Nat.beq pc 0) (some [true, true, true]) none) (cond (Nat.beq pc 4) (some [true, true, true]) none)) (cond (Nat.blt pc 14) (cond (Nat.beq pc 12) (some [false, false, false]) none) (cond (Nat.blt pc 18) (cond (Nat.beq pc 14) (some [true, true, true]) none) (cond (Nat.beq pc 18) (some [true, true, false]) none)))) (cond (Nat.blt pc 37) (cond (Nat.blt pc 30) (cond (Nat.beq pc 25) (some [true, true, true]) none) (cond (Nat.beq pc 30) (some [true, true, false]) none)) (cond (Nat.blt pc 42) (cond (Nat.beq pc 37) (some [true, true, true]) none) (cond (Nat.blt pc 49) (cond (Nat.beq pc 42) (some [true, true, false]) none) (cond (Nat.beq pc 49) (some [false, false, false]) none))))) none))))))
def PP : PT := (PPcode, PPfld, PPlay, PPcst, PPmth, PPinf, PPobi, PPliv)
abbrev R := runP PP
abbrev Rr (n q pc : Nat) (L : OLs) (S : List OV) (y : Option OV × Nat × OMem) : RT := runP PP n q pc L (pushR y.1 S) y.2.1 y.2.2
def f_clamp (x1 : Int) (m : OMem) : Option (Int) := if x1 < 8 then (some 8) else (if 32 < x1 then (some 32) else (some x1))
set_option maxRecDepth 65536 in
set_option maxHeartbeats 16000000 in
theorem f_clamp_ok (t : Nat) (x1 : Int) (m : OMem) : Sim (f_clamp x1 m) (fun r _ => some (some (vi r), t, m)) (fun n => R n 1 0 [qr 0, qi x1] [] t m) :=
  Sim.shift 3 (G := fun n => if x1 < 8 then R n 1 6 [qn, qi x1] [] t m else R n 1 9 [qn, qi x1] [] t m) (fun _ => rfl) (Sim.ite (fun _ => Sim.shift 2 (G := (fun _ => some (some (vi 8), t, m))) (fun _ => rfl) (Sim.pur _ _)) (fun _ => Sim.shift 3 (G := fun n => if 32 < x1 then R n 1 15 [qn, qi x1] [] t m else R n 1 18 [qn, qi x1] [] t m) (fun _ => rfl) (Sim.ite (fun _ => Sim.shift 2 (G := (fun _ => some (some (vi 32), t, m))) (fun _ => rfl) (Sim.pur _ _)) (fun _ => Sim.shift 2 (G := (fun _ => some (some (vi x1), t, m))) (fun _ => rfl) (Sim.pur _ _)))))
def f_init (x1 x2 : Int) (m : OMem) : Option (OMem) := (f_clamp x1 m).bind fun r_1 => ((f_clamp x2 (sto m 0 18 r_1)).bind fun r_2 => (some (sto (sto (sto (sto m 0 18 r_1) 0 19 r_2) 0 20 0) 0 21 0)))
set_option maxRecDepth 65536 in
set_option maxHeartbeats 16000000 in
theorem f_init_ok (x1 x2 : Int) (m : OMem) : Sim (f_init x1 x2 m) (fun w0 _ => some (none, 36, w0)) (fun n => R n 0 0 [qr 0, qi x1, qi x2] [] 0 m) :=
  Sim.shift 12 (G := fun n => R n 0 23 [qr 0, qi x1, qi x2] [vi 32, vr 0] 4 m) (fun _ => rfl) (Sim.shift 12 (G := fun n => R n 0 47 [qr 0, qi x1, qi x2] [vi 8, vr 0] 10 m) (fun _ => rfl) (Sim.shift 12 (G := fun n => R n 0 71 [qr 0, qi x1, qi x2] [vi 16, vr 0] 16 m) (fun _ => rfl) (Sim.shift 12 (G := fun n => R n 0 95 [qr 0, qi x1, qi x2] [vi 32, vr 0] 22 m) (fun _ => rfl) (Sim.shift 12 (G := fun n => R n 0 119 [qr 0, qi x1, qi x2] [vi 16, vr 0] 28 m) (fun _ => rfl) (Sim.shift 12 (G := fun n => R n 0 143 [qr 0, qi x1, qi x2] [vi 33, vr 0] 34 m) (fun _ => rfl) (Sim.shift 6 (G := fun n => (R n 1 0 [qr 0, qi x1] [] 36 m).bind fun y => Rr n 0 154 [qr 0, qi x1, qi x2] [vr 0] y) (fun _ => rfl) (Sim.call (f_clamp_ok 36 x1 m) (fun _ _ => rfl) (runP_mono _ _ _ _ _ _) (fun _ => runP_mono _ _ _ _ _ _) (fun r_1 => Sim.shift 0 (G := fun n => R n 0 154 [qr 0, qi x1, qi x2] [vi r_1, vr 0] 36 m) (fun _ => rfl) (Sim.shift 5 (G := fun n => (R n 1 0 [qr 0, qi x2] [] 36 (sto m 0 18 r_1)).bind fun y => Rr n 0 163 [qr 0, qi x1, qi x2] [vr 0] y) (fun _ => rfl) (Sim.call (f_clamp_ok 36 x2 (sto m 0 18 r_1)) (fun _ _ => rfl) (runP_mono _ _ _ _ _ _) (fun _ => runP_mono _ _ _ _ _ _) (fun r_2 => Sim.shift 0 (G := fun n => R n 0 163 [qr 0, qi x1, qi x2] [vi r_2, vr 0] 36 (sto m 0 18 r_1)) (fun _ => rfl) (Sim.shift 8 (G := (fun _ => some (none, 36, sto (sto (sto (sto m 0 18 r_1) 0 19 r_2) 0 20 0) 0 21 0))) (fun _ => rfl) (Sim.pur _ _)))))))))))))
def f_status (m : OMem) : Option (Int) := some (m 0 20)
set_option maxRecDepth 65536 in
set_option maxHeartbeats 16000000 in
theorem f_status_ok (t : Nat) (m : OMem) : Sim (f_status m) (fun r _ => some (some (vi r), t, m)) (fun n => R n 2 0 [qr 0] [] t m) :=
  Sim.shift 3 (G := (fun _ => some (some (vi (m 0 20)), t, m))) (fun _ => rfl) (Sim.pur _ _)
def f_target_b14 (m : OMem) : Option (Int) := some (m 0 22)
set_option maxRecDepth 65536 in
set_option maxHeartbeats 16000000 in
theorem f_target_b14_ok (t : Nat) (m : OMem) : Sim (f_target_b14 m) (fun r _ => some (some (vi r), t, m)) (fun n => R n 34 14 [qr 0, qn] [] t m) :=
  Sim.shift 3 (G := (fun _ => some (some (vi (m 0 22)), t, m))) (fun _ => rfl) (Sim.pur _ _)
def f_target (x1 : Int) (m : OMem) : Option (Int) := if x1 < 0 then (f_target_b14 m) else (if x1 < m 0 22 then (some x1) else (f_target_b14 m))
set_option maxRecDepth 65536 in
set_option maxHeartbeats 16000000 in
theorem f_target_ok (t : Nat) (x1 : Int) (m : OMem) : Sim (f_target x1 m) (fun r _ => some (some (vi r), t, m)) (fun n => R n 34 0 [qr 0, qi x1] [] t m) :=
  Sim.shift 2 (G := fun n => if x1 < 0 then R n 34 14 [qr 0, qi x1] [] t m else R n 34 4 [qr 0, qi x1] [] t m) (fun _ => rfl) (Sim.ite (fun _ => Sim.jmp (f_target_b14_ok t m) rfl (fun _ => rfl)) (fun _ => Sim.shift 4 (G := fun n => if x1 < m 0 22 then R n 34 12 [qr 0, qi x1] [] t m else R n 34 14 [qr 0, qi x1] [] t m) (fun _ => rfl) (Sim.ite (fun _ => Sim.shift 2 (G := (fun _ => some (some (vi x1), t, m))) (fun _ => rfl) (Sim.pur _ _)) (fun _ => Sim.jmp (f_target_b14_ok t m) rfl (fun _ => rfl)))))
def f_succFirst_b12 (m : OMem) : Option (Int) := some (-1)
set_option maxRecDepth 65536 in
set_option maxHeartbeats 16000000 in
theorem f_succFirst_b12_ok (m : OMem) : Sim (f_succFirst_b12 m) (fun r _ => some (some (vi r), 36, m)) (fun n => R n 7 12 [qn, qn, qn] [] 36 m) :=
  Sim.shift 2 (G := (fun _ => some (some (vi (-1)), 36, m))) (fun _ => rfl) (Sim.pur _ _)
def f_succFirst (x1 : Int) (m : OMem) : Option (Int) := if x1 < 0 then (f_succFirst_b12 m) else (if x1 < m 0 22 then (if 0 ≤ x1 ∧ x1 < 32 then (if m 1 x1 = 0 then (some (m 0 22)) else (if m 1 x1 = 10 then (if 0 ≤ x1 ∧ x1 < 32 then ((f_target (m 2 x1) m).bind fun r_4 => (some r_4)) else none) else (if m 1 x1 = 11 then (if 0 ≤ x1 ∧ x1 < 32 then ((f_target (m 3 x1) m).bind fun r_5 => (some r_5)) else none) else (some (w32 (x1 + 1)))))) else none) else (f_succFirst_b12 m))
set_option maxRecDepth 65536 in
set_option maxHeartbeats 16000000 in
theorem f_succFirst_ok (x1 : Int) (m : OMem) : Sim (f_succFirst x1 m) (fun r _ => some (some (vi r), 36, m)) (fun n => R n 7 0 [qr 0, qi x1, qn] [] 36 m) :=
  Sim.shift 2 (G := fun n => if x1 < 0 then R n 7 12 [qr 0, qi x1, qn] [] 36 m else R n 7 4 [qr 0, qi x1, qn] [] 36 m) (fun _ => rfl) (Sim.ite (fun _ => Sim.jmp (f_succFirst_b12_ok m) rfl (fun _ => rfl)) (fun _ => Sim.shift 4 (G := fun n => if x1 < m 0 22 then R n 7 14 [qr 0, qi x1, qn] [] 36 m else R n 7 12 [qr 0, qi x1, qn] [] 36 m) (fun _ => rfl) (Sim.ite (fun _ => Sim.shift 4 (G := fun n => if 0 ≤ x1 ∧ x1 < 32 then R n 7 20 [qr 0, qi x1, qn] [vi (m 1 x1)] 36 m else none) (fun _ => rfl) (Sim.grd fun _ => Sim.shift 3 (G := fun n => if m 1 x1 = 0 then R n 7 25 [qr 0, qi x1, qi (m 1 x1)] [] 36 m else R n 7 30 [qr 0, qi x1, qi (m 1 x1)] [] 36 m) (fun _ => rfl) (Sim.ite (fun _ => Sim.shift 3 (G := (fun _ => some (some (vi (m 0 22)), 36, m))) (fun _ => rfl) (Sim.pur _ _)) (fun _ => Sim.shift 3 (G := fun n => if m 1 x1 = 10 then R n 7 36 [qr 0, qi x1, qi (m 1 x1)] [] 36 m else R n 7 47 [qr 0, qi x1, qi (m 1 x1)] [] 36 m) (fun _ => rfl) (Sim.ite (fun _ => Sim.shift 5 (G := fun n => if 0 ≤ x1 ∧ x1 < 32 then R n 7 43 [qr 0, qi x1, qn] [vi (m 2 x1), vr 0] 36 m else none) (fun _ => rfl) (Sim.grd fun _ => Sim.shift 1 (G := fun n => (R n 34 0 [qr 0, qi (m 2 x1)] [] 36 m).bind fun y => Rr n 7 46 [qr 0, qi x1, qn] [] y) (fun _ => rfl) (Sim.call (f_target_ok 36 (m 2 x1) m) (fun _ _ => rfl) (runP_mono _ _ _ _ _ _) (fun _ => runP_mono _ _ _ _ _ _) (fun r_4 => Sim.shift 0 (G := fun n => R n 7 46 [qr 0, qi x1, qn] [vi r_4] 36 m) (fun _ => rfl) (Sim.shift 1 (G := (fun _ => some (some (vi r_4), 36, m))) (fun _ => rfl) (Sim.pur _ _)))))) (fun _ => Sim.shift 3 (G := fun n => if m 1 x1 = 11 then R n 7 53 [qr 0, qi x1, qi (m 1 x1)] [] 36 m else R n 7 64 [qr 0, qi x1, qi (m 1 x1)] [] 36 m) (fun _ => rfl) (Sim.ite (fun _ => Sim.shift 5 (G := fun n => if 0 ≤ x1 ∧ x1 < 32 then R n 7 60 [qr 0, qi x1, qn] [vi (m 3 x1), vr 0] 36 m else none) (fun _ => rfl) (Sim.grd fun _ => Sim.shift 1 (G := fun n => (R n 34 0 [qr 0, qi (m 3 x1)] [] 36 m).bind fun y => Rr n 7 63 [qr 0, qi x1, qn] [] y) (fun _ => rfl) (Sim.call (f_target_ok 36 (m 3 x1) m) (fun _ _ => rfl) (runP_mono _ _ _ _ _ _) (fun _ => runP_mono _ _ _ _ _ _) (fun r_5 => Sim.shift 0 (G := fun n => R n 7 63 [qr 0, qi x1, qn] [vi r_5] 36 m) (fun _ => rfl) (Sim.shift 1 (G := (fun _ => some (some (vi r_5), 36, m))) (fun _ => rfl) (Sim.pur _ _)))))) (fun _ => Sim.shift 4 (G := (fun _ => some (some (vi (w32 (x1 + 1))), 36, m))) (fun _ => rfl) (Sim.pur _ _))))))))) (fun _ => Sim.jmp (f_succFirst_b12_ok m) rfl (fun _ => rfl)))))
def f_succSecond_b12 (m : OMem) : Option (Int) := some (-1)
set_option maxRecDepth 65536 in
set_option maxHeartbeats 16000000 in
theorem f_succSecond_b12_ok (m : OMem) : Sim (f_succSecond_b12 m) (fun r _ => some (some (vi r), 36, m)) (fun n => R n 8 12 [qn, qn] [] 36 m) :=
  Sim.shift 2 (G := (fun _ => some (some (vi (-1)), 36, m))) (fun _ => rfl) (Sim.pur _ _)
def f_succSecond (x1 : Int) (m : OMem) : Option (Int) := if x1 < 0 then (f_succSecond_b12 m) else (if x1 < m 0 22 then (if 0 ≤ x1 ∧ x1 < 32 then (if m 1 x1 = 11 then (some (w32 (x1 + 1))) else (some (-1))) else none) else (f_succSecond_b12 m))
set_option maxRecDepth 65536 in
set_option maxHeartbeats 16000000 in
theorem f_succSecond_ok (x1 : Int) (m : OMem) : Sim (f_succSecond x1 m) (fun r _ => some (some (vi r), 36, m)) (fun n => R n 8 0 [qr 0, qi x1] [] 36 m) :=
  Sim.shift 2 (G := fun n => if x1 < 0 then R n 8 12 [qr 0, qi x1] [] 36 m else R n 8 4 [qr 0, qi x1] [] 36 m) (fun _ => rfl) (Sim.ite (fun _ => Sim.jmp (f_succSecond_b12_ok m) rfl (fun _ => rfl)) (fun _ => Sim.shift 4 (G := fun n => if x1 < m 0 22 then R n 8 14 [qr 0, qi x1] [] 36 m else R n 8 12 [qr 0, qi x1] [] 36 m) (fun _ => rfl) (Sim.ite (fun _ => Sim.shift 4 (G := fun n => if 0 ≤ x1 ∧ x1 < 32 then R n 8 20 [qr 0, qi x1] [vi (m 1 x1)] 36 m else none) (fun _ => rfl) (Sim.grd fun _ => Sim.shift 2 (G := fun n => if m 1 x1 = 11 then R n 8 25 [qr 0, qi x1] [] 36 m else R n 8 29 [qr 0, qi x1] [] 36 m) (fun _ => rfl) (Sim.ite (fun _ => Sim.shift 4 (G := (fun _ => some (some (vi (w32 (x1 + 1))), 36, m))) (fun _ => rfl) (Sim.pur _ _)) (fun _ => Sim.shift 2 (G := (fun _ => some (some (vi (-1)), 36, m))) (fun _ => rfl) (Sim.pur _ _))))) (fun _ => Sim.jmp (f_succSecond_b12_ok m) rfl (fun _ => rfl)))))
def f_succReaches_b61 (s0 : Int) (m : OMem) : Option (Int) := some (s0 % 2)
set_option maxRecDepth 65536 in
set_option maxHeartbeats 16000000 in
theorem f_succReaches_b61_ok (s0 : Int) (m : OMem) : Sim (f_succReaches_b61 s0 m) (fun r _ => some (some (vi r), 36, m)) (fun n => R n 6 61 [qn, qn, qn, qn] [vi s0] 36 m) :=
  Sim.shift 1 (G := (fun _ => some (some (vi (s0 % 2)), 36, m))) (fun _ => rfl) (Sim.pur _ _)
def f_succReaches_b60 (m : OMem) : Option (Int) := f_succReaches_b61 0 m
set_option maxRecDepth 65536 in
set_option maxHeartbeats 16000000 in
theorem f_succReaches_b60_ok (m : OMem) : Sim (f_succReaches_b60 m) (fun r _ => some (some (vi r), 36, m)) (fun n => R n 6 60 [qn, qn, qn, qn] [] 36 m) :=
  Sim.shift 1 (G := fun n => R n 6 61 [qn, qn, qn, qn] [vi 0] 36 m) (fun _ => rfl) (f_succReaches_b61_ok 0 m)
def f_succReaches_b35 (x3 : Int) (m : OMem) : Option (Int) := if x3 < 0 then (f_succReaches_b60 m) else (if m 0 22 < x3 then (f_succReaches_b60 m) else (if 0 ≤ x3 ∧ x3 < 33 then (if m 17 x3 = 0 then (f_succReaches_b60 m) else (f_succReaches_b61 1 m)) else none))
set_option maxRecDepth 65536 in
set_option maxHeartbeats 16000000 in
theorem f_succReaches_b35_ok (x3 : Int) (m : OMem) : Sim (f_succReaches_b35 x3 m) (fun r _ => some (some (vi r), 36, m)) (fun n => R n 6 35 [qr 0, qn, qn, qi x3] [] 36 m) :=
  Sim.shift 2 (G := fun n => if x3 < 0 then R n 6 60 [qr 0, qn, qn, qi x3] [] 36 m else R n 6 39 [qr 0, qn, qn, qi x3] [] 36 m) (fun _ => rfl) (Sim.ite (fun _ => Sim.jmp (f_succReaches_b60_ok m) rfl (fun _ => rfl)) (fun _ => Sim.shift 4 (G := fun n => if m 0 22 < x3 then R n 6 60 [qr 0, qn, qn, qi x3] [] 36 m else R n 6 47 [qr 0, qn, qn, qi x3] [] 36 m) (fun _ => rfl) (Sim.ite (fun _ => Sim.jmp (f_succReaches_b60_ok m) rfl (fun _ => rfl)) (fun _ => Sim.shift 4 (G := fun n => if 0 ≤ x3 ∧ x3 < 33 then R n 6 53 [qr 0, qn, qn, qi x3] [vi (m 17 x3)] 36 m else none) (fun _ => rfl) (Sim.grd fun _ => Sim.shift 1 (G := fun n => if m 17 x3 = 0 then R n 6 60 [qr 0, qn, qn, qi x3] [] 36 m else R n 6 56 [qr 0, qn, qn, qi x3] [] 36 m) (fun _ => rfl) (Sim.ite (fun _ => Sim.jmp (f_succReaches_b60_ok m) rfl (fun _ => rfl)) (fun _ => Sim.shift 2 (G := fun n => R n 6 61 [qn, qn, qn, qn] [vi 1] 36 m) (fun _ => rfl) (f_succReaches_b61_ok 1 m))))))))
def f_succReaches (x1 : Int) (m : OMem) : Option (Int) := (f_succFirst x1 m).bind fun r_6 => ((f_succSecond x1 m).bind fun r_7 => (if r_6 < 0 then (f_succReaches_b35 r_7 m) else (if m 0 22 < r_6 then (f_succReaches_b35 r_7 m) else (if 0 ≤ r_6 ∧ r_6 < 33 then (if m 17 r_6 = 0 then (f_succReaches_b35 r_7 m) else (some 1)) else none))))
set_option maxRecDepth 65536 in
set_option maxHeartbeats 16000000 in
theorem f_succReaches_ok (x1 : Int) (m : OMem) : Sim (f_succReaches x1 m) (fun r _ => some (some (vi r), 36, m)) (fun n => R n 6 0 [qr 0, qi x1, qn, qn] [] 36 m) :=
  Sim.shift 3 (G := fun n => (R n 7 0 [qr 0, qi x1, qn] [] 36 m).bind fun y => Rr n 6 5 [qr 0, qi x1, qn, qn] [] y) (fun _ => rfl) (Sim.call (f_succFirst_ok x1 m) (fun _ _ => rfl) (runP_mono _ _ _ _ _ _) (fun _ => runP_mono _ _ _ _ _ _) (fun r_6 => Sim.shift 0 (G := fun n => R n 6 5 [qr 0, qi x1, qn, qn] [vi r_6] 36 m) (fun _ => rfl) (Sim.shift 4 (G := fun n => (R n 8 0 [qr 0, qi x1] [] 36 m).bind fun y => Rr n 6 11 [qr 0, qi x1, qi r_6, qn] [] y) (fun _ => rfl) (Sim.call (f_succSecond_ok x1 m) (fun _ _ => rfl) (runP_mono _ _ _ _ _ _) (fun _ => runP_mono _ _ _ _ _ _) (fun r_7 => Sim.shift 0 (G := fun n => R n 6 11 [qr 0, qi x1, qi r_6, qn] [vi r_7] 36 m) (fun _ => rfl) (Sim.shift 3 (G := fun n => if r_6 < 0 then R n 6 35 [qr 0, qi x1, qi r_6, qi r_7] [] 36 m else R n 6 16 [qr 0, qi x1, qi r_6, qi r_7] [] 36 m) (fun _ => rfl) (Sim.ite (fun _ => Sim.jmp (f_succReaches_b35_ok r_7 m) rfl (fun _ => rfl)) (fun _ => Sim.shift 4 (G := fun n => if m 0 22 < r_6 then R n 6 35 [qr 0, qn, qi r_6, qi r_7] [] 36 m else R n 6 24 [qr 0, qn, qi r_6, qi r_7] [] 36 m) (fun _ => rfl) (Sim.ite (fun _ => Sim.jmp (f_succReaches_b35_ok r_7 m) rfl (fun _ => rfl)) (fun _ => Sim.shift 4 (G := fun n => if 0 ≤ r_6 ∧ r_6 < 33 then R n 6 30 [qr 0, qn, qi r_6, qi r_7] [vi (m 17 r_6)] 36 m else none) (fun _ => rfl) (Sim.grd fun _ => Sim.shift 1 (G := fun n => if m 17 r_6 = 0 then R n 6 35 [qr 0, qn, qi r_6, qi r_7] [] 36 m else R n 6 33 [qr 0, qn, qi r_6, qi r_7] [] 36 m) (fun _ => rfl) (Sim.ite (fun _ => Sim.jmp (f_succReaches_b35_ok r_7 m) rfl (fun _ => rfl)) (fun _ => Sim.shift 2 (G := (fun _ => some (some (vi 1), 36, m))) (fun _ => rfl) (Sim.pur _ _))))))))))))))
def f_computeReach_l2_H : Int × OMem → Nat → RT := fun (x1, m) n => R n 5 2 [qr 0, qi x1, qn, qn] [] 36 m
def f_computeReach_l2_X : (OMem) → Nat → RT := fun e n => match e with | w => R n 5 35 [qr 0, qn, qn, qn] [] 36 w
def f_computeReach_b28 (x1 s1 s2 : Int) (m : OMem) : Option ((Int × OMem) ⊕ ((OMem))) := if 0 ≤ s1 ∧ s1 < 33 then (some (.inl (w32 (x1 + 1), sto m 17 s1 (s2 % 2)))) else none
set_option maxRecDepth 65536 in
set_option maxHeartbeats 16000000 in
theorem f_computeReach_b28_ok (x1 s1 s2 : Int) (m : OMem) : Sim (f_computeReach_b28 x1 s1 s2 m) (Sum.elim (f_computeReach_l2_H ) (f_computeReach_l2_X )) (fun n => R n 5 28 [qr 0, qi x1, qn, qn] [vi s2, vi s1, vr 17] 36 m) :=
  Sim.shift 1 (G := fun n => if 0 ≤ s1 ∧ s1 < 33 then R n 5 29 [qr 0, qi x1, qn, qn] [] 36 (sto m 17 s1 (s2 % 2)) else none) (fun _ => rfl) (Sim.grd fun _ => Sim.shift 2 (G := fun n => R n 5 2 [qr 0, qi (w32 (x1 + 1)), qn, qn] [] 36 (sto m 17 s1 (s2 % 2))) (fun _ => rfl) (Sim.pur _ _))
def f_computeReach_l2 : Int × OMem → Option ((Int × OMem) ⊕ ((OMem))) := fun (x1, m) => if m 0 22 < x1 then (some (.inr m)) else (if x1 = m 0 22 then (f_computeReach_b28 x1 x1 1 m) else (f_computeReach_b28 x1 x1 0 m))
set_option maxRecDepth 65536 in
set_option maxHeartbeats 16000000 in
theorem f_computeReach_l2_ok (x1 : Int) (m : OMem) : Sim (f_computeReach_l2 (x1, m)) (Sum.elim (f_computeReach_l2_H ) (f_computeReach_l2_X )) (f_computeReach_l2_H (x1, m)) :=
  Sim.shift 4 (G := fun n => if m 0 22 < x1 then R n 5 35 [qr 0, qi x1, qn, qn] [] 36 m else R n 5 10 [qr 0, qi x1, qn, qn] [] 36 m) (fun _ => rfl) (Sim.ite (fun _ => Sim.leaf rfl (fun _ => rfl)) (fun _ => Sim.shift 7 (G := fun n => if x1 = m 0 22 then R n 5 23 [qr 0, qi x1, qn, qn] [vi x1, vr 17] 36 m else R n 5 27 [qr 0, qi x1, qn, qn] [vi x1, vr 17] 36 m) (fun _ => rfl) (Sim.ite (fun _ => Sim.shift 2 (G := fun n => R n 5 28 [qr 0, qi x1, qn, qn] [vi 1, vi x1, vr 17] 36 m) (fun _ => rfl) (f_computeReach_b28_ok x1 x1 1 m)) (fun _ => Sim.shift 1 (G := fun n => R n 5 28 [qr 0, qi x1, qn, qn] [vi 0, vi x1, vr 17] 36 m) (fun _ => rfl) (f_computeReach_b28_ok x1 x1 0 m)))))
def f_computeReach_l37_H : Int × OMem → Nat → RT := fun (x1, m) n => R n 5 37 [qr 0, qi x1, qn, qn] [] 36 m
def f_computeReach_l37_X : (OMem) ⊕ (OMem) → Nat → RT := fun e n => match e with | (.inl w) => R n 5 92 [qn, qn, qn, qn] [] 36 w | (.inr w) => R n 5 101 [qn, qn, qn, qn] [] 36 w
def f_computeReach_l52_H (x1 : Int) : Int × Int × OMem → Nat → RT := fun (x2, x3, m) n => R n 5 52 [qr 0, qi x1, qi x2, qi x3] [] 36 m
def f_computeReach_l52_X (x1 : Int) : (Int × OMem) → Nat → RT := fun e n => match e with | (y2, w) => R n 5 88 [qr 0, qi x1, qi y2, qn] [] 36 w
def f_computeReach_b82 (x1 x2 x3 : Int) (m : OMem) : Option ((Int × Int × OMem) ⊕ ((Int × OMem))) := some (.inl (x2, w32 (x3 + (-1)), m))
set_option maxRecDepth 65536 in
set_option maxHeartbeats 16000000 in
theorem f_computeReach_b82_ok (x1 x2 x3 : Int) (m : OMem) : Sim (f_computeReach_b82 x1 x2 x3 m) (Sum.elim (f_computeReach_l52_H x1 ) (f_computeReach_l52_X x1 )) (fun n => R n 5 82 [qr 0, qi x1, qi x2, qi x3] [] 36 m) :=
  Sim.shift 2 (G := fun n => R n 5 52 [qr 0, qi x1, qi x2, qi (w32 (x3 + (-1)))] [] 36 m) (fun _ => rfl) (Sim.pur _ _)
def f_computeReach_l52 (x1 : Int) : Int × Int × OMem → Option ((Int × Int × OMem) ⊕ ((Int × OMem))) := fun (x2, x3, m) => if x3 < 0 then (some (.inr (x2, m))) else (if 0 ≤ x3 ∧ x3 < 33 then (if m 17 x3 = 0 then ((f_succReaches x3 m).bind fun r_8 => (if r_8 = 0 then (f_computeReach_b82 x1 x2 x3 m) else (if 0 ≤ x3 ∧ x3 < 33 then (f_computeReach_b82 x1 1 x3 (sto m 17 x3 1)) else none))) else (f_computeReach_b82 x1 x2 x3 m)) else none)
set_option maxRecDepth 65536 in
set_option maxHeartbeats 16000000 in
theorem f_computeReach_l52_ok (x1 : Int) (x2 x3 : Int) (m : OMem) : Sim (f_computeReach_l52 x1 (x2, x3, m)) (Sum.elim (f_computeReach_l52_H x1 ) (f_computeReach_l52_X x1 )) (f_computeReach_l52_H x1 (x2, x3, m)) :=
  Sim.shift 2 (G := fun n => if x3 < 0 then R n 5 88 [qr 0, qi x1, qi x2, qi x3] [] 36 m else R n 5 56 [qr 0, qi x1, qi x2, qi x3] [] 36 m) (fun _ => rfl) (Sim.ite (fun _ => Sim.leaf rfl (fun _ => rfl)) (fun _ => Sim.shift 4 (G := fun n => if 0 ≤ x3 ∧ x3 < 33 then R n 5 62 [qr 0, qi x1, qi x2, qi x3] [vi (m 17 x3)] 36 m else none) (fun _ => rfl) (Sim.grd fun _ => Sim.shift 1 (G := fun n => if m 17 x3 = 0 then R n 5 65 [qr 0, qi x1, qi x2, qi x3] [] 36 m else R n 5 82 [qr 0, qi x1, qi x2, qi x3] [] 36 m) (fun _ => rfl) (Sim.ite (fun _ => Sim.shift 3 (G := fun n => (R n 6 0 [qr 0, qi x3, qn, qn] [] 36 m).bind fun y => Rr n 5 70 [qr 0, qi x1, qi x2, qi x3] [] y) (fun _ => rfl) (Sim.call (f_succReaches_ok x3 m) (fun _ _ => rfl) (runP_mono _ _ _ _ _ _) (fun _ => runP_mono _ _ _ _ _ _) (fun r_8 => Sim.shift 0 (G := fun n => R n 5 70 [qr 0, qi x1, qi x2, qi x3] [vi r_8] 36 m) (fun _ => rfl) (Sim.shift 1 (G := fun n => if r_8 = 0 then R n 5 82 [qr 0, qi x1, qi x2, qi x3] [] 36 m else R n 5 73 [qr 0, qi x1, qi x2, qi x3] [] 36 m) (fun _ => rfl) (Sim.ite (fun _ => f_computeReach_b82_ok x1 x2 x3 m) (fun _ => Sim.shift 5 (G := fun n => if 0 ≤ x3 ∧ x3 < 33 then R n 5 80 [qr 0, qi x1, qn, qi x3] [] 36 (sto m 17 x3 1) else none) (fun _ => rfl) (Sim.grd fun _ => Sim.shift 2 (G := fun n => R n 5 82 [qr 0, qi x1, qi 1, qi x3] [] 36 (sto m 17 x3 1)) (fun _ => rfl) (f_computeReach_b82_ok x1 1 x3 (sto m 17 x3 1))))))))) (fun _ => f_computeReach_b82_ok x1 x2 x3 m)))))
def f_computeReach_l37 : Int × OMem → Option ((Int × OMem) ⊕ ((OMem) ⊕ (OMem))) := fun (x1, m) => if x1 < 40 then ((lp (f_computeReach_l52 x1) NN (0, w32 ((m 0 22) - 1), m)).bind fun (x2_9, m_10) => (if x2_9 = 0 then (some (.inr (.inl m_10))) else (some (.inl (w32 (x1 + 1), m_10))))) else (some (.inr (.inr m)))
set_option maxRecDepth 65536 in
set_option maxHeartbeats 16000000 in
theorem f_computeReach_l37_ok (x1 : Int) (m : OMem) : Sim (f_computeReach_l37 (x1, m)) (Sum.elim (f_computeReach_l37_H ) (f_computeReach_l37_X )) (f_computeReach_l37_H (x1, m)) :=
  Sim.shift 3 (G := fun n => if x1 < 40 then R n 5 43 [qr 0, qi x1, qn, qn] [] 36 m else R n 5 101 [qr 0, qi x1, qn, qn] [] 36 m) (fun _ => rfl) (Sim.ite (fun _ => Sim.shift 6 (G := fun n => R n 5 51 [qr 0, qi x1, qi 0, qn] [vi (w32 ((m 0 22) - 1))] 36 m) (fun _ => rfl) (Sim.shift 1 (G := fun n => R n 5 52 [qr 0, qi x1, qi 0, qi (w32 ((m 0 22) - 1))] [] 36 m) (fun _ => rfl) (Sim.bind (Sim.lp (fun ⟨x2L, x3L, mL⟩ => f_computeReach_l52_ok x1 x2L x3L mL) NN (0, w32 ((m 0 22) - 1), m)) (fun ⟨x2_9, m_10⟩ => Sim.shift 2 (G := fun n => if x2_9 = 0 then R n 5 92 [qr 0, qi x1, qi x2_9, qn] [] 36 m_10 else R n 5 95 [qr 0, qi x1, qi x2_9, qn] [] 36 m_10) (fun _ => rfl) (Sim.ite (fun _ => Sim.leaf rfl (fun _ => rfl)) (fun _ => Sim.shift 2 (G := fun n => R n 5 37 [qr 0, qi (w32 (x1 + 1)), qn, qn] [] 36 m_10) (fun _ => rfl) (Sim.pur _ _))))))) (fun _ => Sim.leaf rfl (fun _ => rfl)))
def f_computeReach_b101 (m : OMem) : Option (OMem) := some m
set_option maxRecDepth 65536 in
set_option maxHeartbeats 16000000 in
theorem f_computeReach_b101_ok (m : OMem) : Sim (f_computeReach_b101 m) (fun w0 _ => some (none, 36, w0)) (fun n => R n 5 101 [qn, qn, qn, qn] [] 36 m) :=
  Sim.shift 1 (G := (fun _ => some (none, 36, m))) (fun _ => rfl) (Sim.pur _ _)
def f_computeReach (m : OMem) : Option (OMem) := (lp (f_computeReach_l2 ) NN (0, m)).bind fun m_3 => ((lp (f_computeReach_l37 ) NN (0, m_3)).bind fun e => match e with | (.inl m_11) => (f_computeReach_b101 m_11) | (.inr m_12) => (f_computeReach_b101 m_12))
set_option maxRecDepth 65536 in
set_option maxHeartbeats 16000000 in
theorem f_computeReach_ok (m : OMem) : Sim (f_computeReach m) (fun w0 _ => some (none, 36, w0)) (fun n => R n 5 0 [qr 0, qn, qn, qn] [] 36 m) :=
  Sim.shift 2 (G := fun n => R n 5 2 [qr 0, qi 0, qn, qn] [] 36 m) (fun _ => rfl) (Sim.bind (Sim.lp (fun ⟨x1L, mL⟩ => f_computeReach_l2_ok x1L mL) NN (0, m)) (fun m_3 => Sim.shift 2 (G := fun n => R n 5 37 [qr 0, qi 0, qn, qn] [] 36 m_3) (fun _ => rfl) (Sim.bind (Sim.lp (fun ⟨x1L, mL⟩ => f_computeReach_l37_ok x1L mL) NN (0, m_3)) (fun e => match e with | (.inl m_11) => Sim.shift 1 (G := fun n => R n 5 101 [qn, qn, qn, qn] [] 36 m_11) (fun _ => rfl) (f_computeReach_b101_ok m_11) | (.inr m_12) => f_computeReach_b101_ok m_12))))
def f_allMask (m : OMem) : Option (Int) := some (w64 ((shl64 1 (w32 ((m 0 22) + 1))) - 1))
set_option maxRecDepth 65536 in
set_option maxHeartbeats 16000000 in
theorem f_allMask_ok (t : Nat) (m : OMem) : Sim (f_allMask m) (fun r _ => some (some (vl r), t, m)) (fun n => R n 10 0 [qr 0] [] t m) :=
  Sim.shift 6 (G := fun n => R n 10 8 [qr 0] [vl (shl64 1 (w32 ((m 0 22) + 1)))] t m) (fun _ => rfl) (Sim.shift 3 (G := (fun _ => some (some (vl (w64 ((shl64 1 (w32 ((m 0 22) + 1))) - 1))), t, m))) (fun _ => rfl) (Sim.pur _ _))
def f_meetSucc_b87 (x2 : Int) (m : OMem) : Option (Int) := some x2
set_option maxRecDepth 65536 in
set_option maxHeartbeats 16000000 in
theorem f_meetSucc_b87_ok (x2 : Int) (m : OMem) : Sim (f_meetSucc_b87 x2 m) (fun r _ => some (some (vl r), 36, m)) (fun n => R n 11 87 [qn, qn, qj x2, qn, qn, qn] [] 36 m) :=
  Sim.shift 2 (G := (fun _ => some (some (vl x2), 36, m))) (fun _ => rfl) (Sim.pur _ _)
def f_meetSucc_b53 (x2 x5 : Int) (m : OMem) : Option (Int) := if x5 < 0 then (f_meetSucc_b87 x2 m) else (if m 0 22 < x5 then (f_meetSucc_b87 x2 m) else (if 0 ≤ x5 ∧ x5 < 33 then (if m 17 x5 = 0 then (f_meetSucc_b87 x2 m) else (if 0 ≤ x5 ∧ x5 < 33 then (f_meetSucc_b87 (and64 x2 (m 18 x5)) m) else none)) else none))
set_option maxRecDepth 65536 in
set_option maxHeartbeats 16000000 in
theorem f_meetSucc_b53_ok (x2 x5 : Int) (m : OMem) : Sim (f_meetSucc_b53 x2 x5 m) (fun r _ => some (some (vl r), 36, m)) (fun n => R n 11 53 [qr 0, qn, qj x2, qn, qn, qi x5] [] 36 m) :=
  Sim.shift 2 (G := fun n => if x5 < 0 then R n 11 87 [qr 0, qn, qj x2, qn, qn, qi x5] [] 36 m else R n 11 58 [qr 0, qn, qj x2, qn, qn, qi x5] [] 36 m) (fun _ => rfl) (Sim.ite (fun _ => Sim.jmp (f_meetSucc_b87_ok x2 m) rfl (fun _ => rfl)) (fun _ => Sim.shift 4 (G := fun n => if m 0 22 < x5 then R n 11 87 [qr 0, qn, qj x2, qn, qn, qi x5] [] 36 m else R n 11 67 [qr 0, qn, qj x2, qn, qn, qi x5] [] 36 m) (fun _ => rfl) (Sim.ite (fun _ => Sim.jmp (f_meetSucc_b87_ok x2 m) rfl (fun _ => rfl)) (fun _ => Sim.shift 4 (G := fun n => if 0 ≤ x5 ∧ x5 < 33 then R n 11 74 [qr 0, qn, qj x2, qn, qn, qi x5] [vi (m 17 x5)] 36 m else none) (fun _ => rfl) (Sim.grd fun _ => Sim.shift 1 (G := fun n => if m 17 x5 = 0 then R n 11 87 [qr 0, qn, qj x2, qn, qn, qi x5] [] 36 m else R n 11 77 [qr 0, qn, qj x2, qn, qn, qi x5] [] 36 m) (fun _ => rfl) (Sim.ite (fun _ => Sim.jmp (f_meetSucc_b87_ok x2 m) rfl (fun _ => rfl)) (fun _ => Sim.shift 5 (G := fun n => if 0 ≤ x5 ∧ x5 < 33 then R n 11 85 [qr 0, qn, qj x2, qn, qn, qi x5] [vl (m 18 x5), vl x2] 36 m else none) (fun _ => rfl) (Sim.grd fun _ => Sim.shift 2 (G := fun n => R n 11 87 [qr 0, qn, qj (and64 x2 (m 18 x5)), qn, qn, qi x5] [] 36 m) (fun _ => rfl) (Sim.jmp (f_meetSucc_b87_ok (and64 x2 (m 18 x5)) m) rfl (fun _ => rfl))))))))))
def f_meetSucc (x1 : Int) (m : OMem) : Option (Int) := (f_allMask m).bind fun r_16 => ((f_succFirst x1 m).bind fun r_17 => ((f_succSecond x1 m).bind fun r_18 => (if r_17 < 0 then (f_meetSucc_b53 r_16 r_18 m) else (if m 0 22 < r_17 then (f_meetSucc_b53 r_16 r_18 m) else (if 0 ≤ r_17 ∧ r_17 < 33 then (if m 17 r_17 = 0 then (f_meetSucc_b53 r_16 r_18 m) else (if 0 ≤ r_17 ∧ r_17 < 33 then (f_meetSucc_b53 (and64 r_16 (m 18 r_17)) r_18 m) else none)) else none)))))
set_option maxRecDepth 65536 in
set_option maxHeartbeats 16000000 in
theorem f_meetSucc_ok (x1 : Int) (m : OMem) : Sim (f_meetSucc x1 m) (fun r _ => some (some (vl r), 36, m)) (fun n => R n 11 0 [qr 0, qi x1, qn, qn, qn, qn] [] 36 m) :=
  Sim.shift 2 (G := fun n => (R n 10 0 [qr 0] [] 36 m).bind fun y => Rr n 11 4 [qr 0, qi x1, qn, qn, qn, qn] [] y) (fun _ => rfl) (Sim.call (f_allMask_ok 36 m) (fun _ _ => rfl) (runP_mono _ _ _ _ _ _) (fun _ => runP_mono _ _ _ _ _ _) (fun r_16 => Sim.shift 0 (G := fun n => R n 11 4 [qr 0, qi x1, qn, qn, qn, qn] [vl r_16] 36 m) (fun _ => rfl) (Sim.shift 4 (G := fun n => (R n 7 0 [qr 0, qi x1, qn] [] 36 m).bind fun y => Rr n 11 10 [qr 0, qi x1, qj r_16, qn, qn, qn] [] y) (fun _ => rfl) (Sim.call (f_succFirst_ok x1 m) (fun _ _ => rfl) (runP_mono _ _ _ _ _ _) (fun _ => runP_mono _ _ _ _ _ _) (fun r_17 => Sim.shift 0 (G := fun n => R n 11 10 [qr 0, qi x1, qj r_16, qn, qn, qn] [vi r_17] 36 m) (fun _ => rfl) (Sim.shift 4 (G := fun n => (R n 8 0 [qr 0, qi x1] [] 36 m).bind fun y => Rr n 11 17 [qr 0, qi x1, qj r_16, qn, qi r_17, qn] [] y) (fun _ => rfl) (Sim.call (f_succSecond_ok x1 m) (fun _ _ => rfl) (runP_mono _ _ _ _ _ _) (fun _ => runP_mono _ _ _ _ _ _) (fun r_18 => Sim.shift 0 (G := fun n => R n 11 17 [qr 0, qi x1, qj r_16, qn, qi r_17, qn] [vi r_18] 36 m) (fun _ => rfl) (Sim.shift 3 (G := fun n => if r_17 < 0 then R n 11 53 [qr 0, qi x1, qj r_16, qn, qi r_17, qi r_18] [] 36 m else R n 11 24 [qr 0, qi x1, qj r_16, qn, qi r_17, qi r_18] [] 36 m) (fun _ => rfl) (Sim.ite (fun _ => Sim.jmp (f_meetSucc_b53_ok r_16 r_18 m) rfl (fun _ => rfl)) (fun _ => Sim.shift 4 (G := fun n => if m 0 22 < r_17 then R n 11 53 [qr 0, qn, qj r_16, qn, qi r_17, qi r_18] [] 36 m else R n 11 33 [qr 0, qn, qj r_16, qn, qi r_17, qi r_18] [] 36 m) (fun _ => rfl) (Sim.ite (fun _ => Sim.jmp (f_meetSucc_b53_ok r_16 r_18 m) rfl (fun _ => rfl)) (fun _ => Sim.shift 4 (G := fun n => if 0 ≤ r_17 ∧ r_17 < 33 then R n 11 40 [qr 0, qn, qj r_16, qn, qi r_17, qi r_18] [vi (m 17 r_17)] 36 m else none) (fun _ => rfl) (Sim.grd fun _ => Sim.shift 1 (G := fun n => if m 17 r_17 = 0 then R n 11 53 [qr 0, qn, qj r_16, qn, qi r_17, qi r_18] [] 36 m else R n 11 43 [qr 0, qn, qj r_16, qn, qi r_17, qi r_18] [] 36 m) (fun _ => rfl) (Sim.ite (fun _ => Sim.jmp (f_meetSucc_b53_ok r_16 r_18 m) rfl (fun _ => rfl)) (fun _ => Sim.shift 5 (G := fun n => if 0 ≤ r_17 ∧ r_17 < 33 then R n 11 51 [qr 0, qn, qj r_16, qn, qi r_17, qi r_18] [vl (m 18 r_17), vl r_16] 36 m else none) (fun _ => rfl) (Sim.grd fun _ => Sim.shift 2 (G := fun n => R n 11 53 [qr 0, qn, qj (and64 r_16 (m 18 r_17)), qn, qi r_17, qi r_18] [] 36 m) (fun _ => rfl) (Sim.jmp (f_meetSucc_b53_ok (and64 r_16 (m 18 r_17)) r_18 m) rfl (fun _ => rfl)))))))))))))))))))
def f_computePdom_l7_H (x1 : Int) : Int × OMem → Nat → RT := fun (x3, m) n => R n 9 7 [qr 0, qj x1, qn, qi x3, qn, qn, qn, qn] [] 36 m
def f_computePdom_l7_X (x1 : Int) : (OMem) → Nat → RT := fun e n => match e with | w => R n 9 41 [qr 0, qn, qn, qn, qn, qn, qn, qn] [] 36 w
def f_computePdom_b34 (x1 x3 s1 s2 : Int) (m : OMem) : Option ((Int × OMem) ⊕ ((OMem))) := if 0 ≤ s1 ∧ s1 < 33 then (some (.inl (w32 (x3 + 1), sto m 18 s1 s2))) else none
set_option maxRecDepth 65536 in
set_option maxHeartbeats 16000000 in
theorem f_computePdom_b34_ok (x1 x3 s1 s2 : Int) (m : OMem) : Sim (f_computePdom_b34 x1 x3 s1 s2 m) (Sum.elim (f_computePdom_l7_H x1 ) (f_computePdom_l7_X x1 )) (fun n => R n 9 34 [qr 0, qj x1, qn, qi x3, qn, qn, qn, qn] [vl s2, vi s1, vr 18] 36 m) :=
  Sim.shift 1 (G := fun n => if 0 ≤ s1 ∧ s1 < 33 then R n 9 35 [qr 0, qj x1, qn, qi x3, qn, qn, qn, qn] [] 36 (sto m 18 s1 s2) else none) (fun _ => rfl) (Sim.grd fun _ => Sim.shift 2 (G := fun n => R n 9 7 [qr 0, qj x1, qn, qi (w32 (x3 + 1)), qn, qn, qn, qn] [] 36 (sto m 18 s1 s2)) (fun _ => rfl) (Sim.pur _ _))
def f_computePdom_l7 (x1 : Int) : Int × OMem → Option ((Int × OMem) ⊕ ((OMem))) := fun (x3, m) => if x3 < m 0 22 then (if 0 ≤ x3 ∧ x3 < 33 then (if m 17 x3 = 0 then (f_computePdom_b34 x1 x3 x3 0 m) else (f_computePdom_b34 x1 x3 x3 x1 m)) else none) else (some (.inr m))
set_option maxRecDepth 65536 in
set_option maxHeartbeats 16000000 in
theorem f_computePdom_l7_ok (x1 : Int) (x3 : Int) (m : OMem) : Sim (f_computePdom_l7 x1 (x3, m)) (Sum.elim (f_computePdom_l7_H x1 ) (f_computePdom_l7_X x1 )) (f_computePdom_l7_H x1 (x3, m)) :=
  Sim.shift 4 (G := fun n => if x3 < m 0 22 then R n 9 15 [qr 0, qj x1, qn, qi x3, qn, qn, qn, qn] [] 36 m else R n 9 41 [qr 0, qj x1, qn, qi x3, qn, qn, qn, qn] [] 36 m) (fun _ => rfl) (Sim.ite (fun _ => Sim.shift 7 (G := fun n => if 0 ≤ x3 ∧ x3 < 33 then R n 9 26 [qr 0, qj x1, qn, qi x3, qn, qn, qn, qn] [vi (m 17 x3), vi x3, vr 18] 36 m else none) (fun _ => rfl) (Sim.grd fun _ => Sim.shift 1 (G := fun n => if m 17 x3 = 0 then R n 9 33 [qr 0, qj x1, qn, qi x3, qn, qn, qn, qn] [vi x3, vr 18] 36 m else R n 9 29 [qr 0, qj x1, qn, qi x3, qn, qn, qn, qn] [vi x3, vr 18] 36 m) (fun _ => rfl) (Sim.ite (fun _ => Sim.shift 1 (G := fun n => R n 9 34 [qr 0, qj x1, qn, qi x3, qn, qn, qn, qn] [vl 0, vi x3, vr 18] 36 m) (fun _ => rfl) (f_computePdom_b34_ok x1 x3 x3 0 m)) (fun _ => Sim.shift 2 (G := fun n => R n 9 34 [qr 0, qj x1, qn, qi x3, qn, qn, qn, qn] [vl x1, vi x3, vr 18] 36 m) (fun _ => rfl) (f_computePdom_b34_ok x1 x3 x3 x1 m))))) (fun _ => Sim.leaf rfl (fun _ => rfl)))
def f_computePdom_l58_H : Int × OMem → Nat → RT := fun (x3, m) n => R n 9 58 [qr 0, qn, qn, qi x3, qn, qn, qn, qn] [] 36 m
def f_computePdom_l58_X : (OMem) ⊕ (OMem) → Nat → RT := fun e n => match e with | (.inl w) => R n 9 140 [qn, qn, qn, qn, qn, qn, qn, qn] [] 36 w | (.inr w) => R n 9 149 [qn, qn, qn, qn, qn, qn, qn, qn] [] 36 w
def f_computePdom_l76_H (x3 : Int) : Int × Int × OMem → Nat → RT := fun (x4, x5, m) n => R n 9 76 [qr 0, qn, qn, qi x3, qi x4, qi x5, qn, qn] [] 36 m
def f_computePdom_l76_X (x3 : Int) : (Int × OMem) → Nat → RT := fun e n => match e with | (y4, w) => R n 9 135 [qr 0, qn, qn, qi x3, qi y4, qn, qn, qn] [] 36 w
def f_computePdom_b129 (x3 x4 x5 : Int) (m : OMem) : Option ((Int × Int × OMem) ⊕ ((Int × OMem))) := some (.inl (x4, w32 (x5 + (-1)), m))
set_option maxRecDepth 65536 in
set_option maxHeartbeats 16000000 in
theorem f_computePdom_b129_ok (x3 x4 x5 : Int) (m : OMem) : Sim (f_computePdom_b129 x3 x4 x5 m) (Sum.elim (f_computePdom_l76_H x3 ) (f_computePdom_l76_X x3 )) (fun n => R n 9 129 [qr 0, qn, qn, qi x3, qi x4, qi x5, qn, qn] [] 36 m) :=
  Sim.shift 2 (G := fun n => R n 9 76 [qr 0, qn, qn, qi x3, qi x4, qi (w32 (x5 + (-1))), qn, qn] [] 36 m) (fun _ => rfl) (Sim.pur _ _)
def f_computePdom_l76 (x3 : Int) : Int × Int × OMem → Option ((Int × Int × OMem) ⊕ ((Int × OMem))) := fun (x4, x5, m) => if x5 < 0 then (some (.inr (x4, m))) else (if 0 ≤ x5 ∧ x5 < 33 then (if m 17 x5 = 0 then (f_computePdom_b129 x3 x4 x5 m) else ((f_meetSucc x5 m).bind fun r_19 => (if 0 ≤ x5 ∧ x5 < 33 then (if lcm (or64 (shl64 1 x5) r_19) (m 18 x5) = 0 then (f_computePdom_b129 x3 x4 x5 m) else (if 0 ≤ x5 ∧ x5 < 33 then (f_computePdom_b129 x3 1 x5 (sto m 18 x5 (or64 (shl64 1 x5) r_19))) else none)) else none))) else none)
set_option maxRecDepth 65536 in
set_option maxHeartbeats 16000000 in
theorem f_computePdom_l76_ok (x3 : Int) (x4 x5 : Int) (m : OMem) : Sim (f_computePdom_l76 x3 (x4, x5, m)) (Sum.elim (f_computePdom_l76_H x3 ) (f_computePdom_l76_X x3 )) (f_computePdom_l76_H x3 (x4, x5, m)) :=
  Sim.shift 2 (G := fun n => if x5 < 0 then R n 9 135 [qr 0, qn, qn, qi x3, qi x4, qi x5, qn, qn] [] 36 m else R n 9 81 [qr 0, qn, qn, qi x3, qi x4, qi x5, qn, qn] [] 36 m) (fun _ => rfl) (Sim.ite (fun _ => Sim.leaf rfl (fun _ => rfl)) (fun _ => Sim.shift 4 (G := fun n => if 0 ≤ x5 ∧ x5 < 33 then R n 9 88 [qr 0, qn, qn, qi x3, qi x4, qi x5, qn, qn] [vi (m 17 x5)] 36 m else none) (fun _ => rfl) (Sim.grd fun _ => Sim.shift 1 (G := fun n => if m 17 x5 = 0 then R n 9 129 [qr 0, qn, qn, qi x3, qi x4, qi x5, qn, qn] [] 36 m else R n 9 91 [qr 0, qn, qn, qi x3, qi x4, qi x5, qn, qn] [] 36 m) (fun _ => rfl) (Sim.ite (fun _ => f_computePdom_b129_ok x3 x4 x5 m) (fun _ => Sim.shift 6 (G := fun n => (R n 11 0 [qr 0, qi x5, qn, qn, qn, qn] [] 36 m).bind fun y => Rr n 9 101 [qr 0, qn, qn, qi x3, qi x4, qi x5, qn, qn] [vl (shl64 1 x5)] y) (fun _ => rfl) (Sim.call (f_meetSucc_ok x5 m) (fun _ _ => rfl) (runP_mono _ _ _ _ _ _) (fun _ => runP_mono _ _ _ _ _ _) (fun r_19 => Sim.shift 0 (G := fun n => R n 9 101 [qr 0, qn, qn, qi x3, qi x4, qi x5, qn, qn] [vl r_19, vl (shl64 1 x5)] 36 m) (fun _ => rfl) (Sim.shift 2 (G := fun n => R n 9 104 [qr 0, qn, qn, qi x3, qi x4, qi x5, qj (or64 (shl64 1 x5) r_19), qn] [] 36 m) (fun _ => rfl) (Sim.shift 5 (G := fun n => if 0 ≤ x5 ∧ x5 < 33 then R n 9 113 [qr 0, qn, qn, qi x3, qi x4, qi x5, qj (or64 (shl64 1 x5) r_19), qn] [vl (m 18 x5), vl (or64 (shl64 1 x5) r_19)] 36 m else none) (fun _ => rfl) (Sim.grd fun _ => Sim.shift 2 (G := fun n => if lcm (or64 (shl64 1 x5) r_19) (m 18 x5) = 0 then R n 9 129 [qr 0, qn, qn, qi x3, qi x4, qi x5, qj (or64 (shl64 1 x5) r_19), qn] [] 36 m else R n 9 117 [qr 0, qn, qn, qi x3, qi x4, qi x5, qj (or64 (shl64 1 x5) r_19), qn] [] 36 m) (fun _ => rfl) (Sim.ite (fun _ => Sim.jmp (f_computePdom_b129_ok x3 x4 x5 m) rfl (fun _ => rfl)) (fun _ => Sim.shift 5 (G := fun n => if 0 ≤ x5 ∧ x5 < 33 then R n 9 126 [qr 0, qn, qn, qi x3, qn, qi x5, qj (or64 (shl64 1 x5) r_19), qn] [] 36 (sto m 18 x5 (or64 (shl64 1 x5) r_19)) else none) (fun _ => rfl) (Sim.grd fun _ => Sim.shift 2 (G := fun n => R n 9 129 [qr 0, qn, qn, qi x3, qi 1, qi x5, qj (or64 (shl64 1 x5) r_19), qn] [] 36 (sto m 18 x5 (or64 (shl64 1 x5) r_19))) (fun _ => rfl) (Sim.jmp (f_computePdom_b129_ok x3 1 x5 (sto m 18 x5 (or64 (shl64 1 x5) r_19))) rfl (fun _ => rfl)))))))))))))))
def f_computePdom_l58 : Int × OMem → Option ((Int × OMem) ⊕ ((OMem) ⊕ (OMem))) := fun (x3, m) => if x3 < 1200 then ((lp (f_computePdom_l76 x3) NN (0, w32 ((m 0 22) - 1), m)).bind fun (x4_20, m_21) => (if x4_20 = 0 then (some (.inr (.inl m_21))) else (some (.inl (w32 (x3 + 1), m_21))))) else (some (.inr (.inr m)))
set_option maxRecDepth 65536 in
set_option maxHeartbeats 16000000 in
theorem f_computePdom_l58_ok (x3 : Int) (m : OMem) : Sim (f_computePdom_l58 (x3, m)) (Sum.elim (f_computePdom_l58_H ) (f_computePdom_l58_X )) (f_computePdom_l58_H (x3, m)) :=
  Sim.shift 3 (G := fun n => if x3 < 1200 then R n 9 65 [qr 0, qn, qn, qi x3, qn, qn, qn, qn] [] 36 m else R n 9 149 [qr 0, qn, qn, qi x3, qn, qn, qn, qn] [] 36 m) (fun _ => rfl) (Sim.ite (fun _ => Sim.shift 6 (G := fun n => R n 9 74 [qr 0, qn, qn, qi x3, qi 0, qn, qn, qn] [vi (w32 ((m 0 22) - 1))] 36 m) (fun _ => rfl) (Sim.shift 1 (G := fun n => R n 9 76 [qr 0, qn, qn, qi x3, qi 0, qi (w32 ((m 0 22) - 1)), qn, qn] [] 36 m) (fun _ => rfl) (Sim.bind (Sim.lp (fun ⟨x4L, x5L, mL⟩ => f_computePdom_l76_ok x3 x4L x5L mL) NN (0, w32 ((m 0 22) - 1), m)) (fun ⟨x4_20, m_21⟩ => Sim.shift 2 (G := fun n => if x4_20 = 0 then R n 9 140 [qr 0, qn, qn, qi x3, qi x4_20, qn, qn, qn] [] 36 m_21 else R n 9 143 [qr 0, qn, qn, qi x3, qi x4_20, qn, qn, qn] [] 36 m_21) (fun _ => rfl) (Sim.ite (fun _ => Sim.leaf rfl (fun _ => rfl)) (fun _ => Sim.shift 2 (G := fun n => R n 9 58 [qr 0, qn, qn, qi (w32 (x3 + 1)), qn, qn, qn, qn] [] 36 m_21) (fun _ => rfl) (Sim.pur _ _))))))) (fun _ => Sim.leaf rfl (fun _ => rfl)))
def f_computePdom_b149 (m : OMem) : Option (OMem) := some m
set_option maxRecDepth 65536 in
set_option maxHeartbeats 16000000 in
theorem f_computePdom_b149_ok (m : OMem) : Sim (f_computePdom_b149 m) (fun w0 _ => some (none, 36, w0)) (fun n => R n 9 149 [qn, qn, qn, qn, qn, qn, qn, qn] [] 36 m) :=
  Sim.shift 1 (G := (fun _ => some (none, 36, m))) (fun _ => rfl) (Sim.pur _ _)
def f_computePdom (m : OMem) : Option (OMem) := (f_allMask m).bind fun r_14 => ((lp (f_computePdom_l7 r_14) NN (0, m)).bind fun m_15 => (if 0 ≤ m_15 0 22 ∧ m_15 0 22 < 33 then ((lp (f_computePdom_l58 ) NN (0, sto m_15 18 (m_15 0 22) (shl64 1 (m_15 0 22)))).bind fun e => match e with | (.inl m_22) => (f_computePdom_b149 m_22) | (.inr m_23) => (f_computePdom_b149 m_23)) else none))
set_option maxRecDepth 65536 in
set_option maxHeartbeats 16000000 in
theorem f_computePdom_ok (m : OMem) : Sim (f_computePdom m) (fun w0 _ => some (none, 36, w0)) (fun n => R n 9 0 [qr 0, qn, qn, qn, qn, qn, qn, qn] [] 36 m) :=
  Sim.shift 2 (G := fun n => (R n 10 0 [qr 0] [] 36 m).bind fun y => Rr n 9 4 [qr 0, qn, qn, qn, qn, qn, qn, qn] [] y) (fun _ => rfl) (Sim.call (f_allMask_ok 36 m) (fun _ _ => rfl) (runP_mono _ _ _ _ _ _) (fun _ => runP_mono _ _ _ _ _ _) (fun r_14 => Sim.shift 0 (G := fun n => R n 9 4 [qr 0, qn, qn, qn, qn, qn, qn, qn] [vl r_14] 36 m) (fun _ => rfl) (Sim.shift 3 (G := fun n => R n 9 7 [qr 0, qj r_14, qn, qi 0, qn, qn, qn, qn] [] 36 m) (fun _ => rfl) (Sim.bind (Sim.lp (fun ⟨x3L, mL⟩ => f_computePdom_l7_ok r_14 x3L mL) NN (0, m)) (fun m_15 => Sim.shift 8 (G := fun n => R n 9 55 [qr 0, qn, qn, qn, qn, qn, qn, qn] [vl (shl64 1 (m_15 0 22)), vi (m_15 0 22), vr 18] 36 m_15) (fun _ => rfl) (Sim.shift 1 (G := fun n => if 0 ≤ m_15 0 22 ∧ m_15 0 22 < 33 then R n 9 56 [qr 0, qn, qn, qn, qn, qn, qn, qn] [] 36 (sto m_15 18 (m_15 0 22) (shl64 1 (m_15 0 22))) else none) (fun _ => rfl) (Sim.grd fun _ => Sim.shift 2 (G := fun n => R n 9 58 [qr 0, qn, qn, qi 0, qn, qn, qn, qn] [] 36 (sto m_15 18 (m_15 0 22) (shl64 1 (m_15 0 22)))) (fun _ => rfl) (Sim.bind (Sim.lp (fun ⟨x3L, mL⟩ => f_computePdom_l58_ok x3L mL) NN (0, sto m_15 18 (m_15 0 22) (shl64 1 (m_15 0 22)))) (fun e => match e with | (.inl m_22) => Sim.shift 1 (G := fun n => R n 9 149 [qn, qn, qn, qn, qn, qn, qn, qn] [] 36 m_22) (fun _ => rfl) (f_computePdom_b149_ok m_22) | (.inr m_23) => f_computePdom_b149_ok m_23)))))))))
def f_pickJoin_l32_H (m : OMem) (x2 : Int) : Int → Nat → RT := fun x4 n => R n 12 32 [qr 0, qn, qj x2, qn, qi x4] [] 36 m
def f_pickJoin_l32_X (m : OMem) (x2 : Int) : (Int) ⊕ (Unit) → Nat → RT := fun e n => match e with | (.inl y4) => R n 12 64 [qn, qn, qn, qn, qi y4] [] 36 m | (.inr _) => R n 12 73 [qr 0, qn, qn, qn, qn] [] 36 m
def f_pickJoin_b67 (x2 x4 : Int) (m : OMem) : Option ((Int) ⊕ ((Int) ⊕ (Unit))) := some (.inl (w32 (x4 + 1)))
set_option maxRecDepth 65536 in
set_option maxHeartbeats 16000000 in
theorem f_pickJoin_b67_ok (x2 x4 : Int) (m : OMem) : Sim (f_pickJoin_b67 x2 x4 m) (Sum.elim (f_pickJoin_l32_H m x2 ) (f_pickJoin_l32_X m x2 )) (fun n => R n 12 67 [qr 0, qn, qj x2, qn, qi x4] [] 36 m) :=
  Sim.shift 2 (G := fun n => R n 12 32 [qr 0, qn, qj x2, qn, qi (w32 (x4 + 1))] [] 36 m) (fun _ => rfl) (Sim.pur _ _)
def f_pickJoin_l32 (m : OMem) (x2 : Int) : Int → Option ((Int) ⊕ ((Int) ⊕ (Unit))) := fun x4 => if m 0 22 < x4 then (some (.inr (.inr ()))) else (if lcm (and64 (ushr64 x2 x4) 1) 0 = 0 then (f_pickJoin_b67 x2 x4 m) else (if 0 ≤ x4 ∧ x4 < 33 then (if lcm (m 18 x4) x2 = 0 then (some (.inr (.inl x4))) else (f_pickJoin_b67 x2 x4 m)) else none))
set_option maxRecDepth 65536 in
set_option maxHeartbeats 16000000 in
theorem f_pickJoin_l32_ok (m : OMem) (x2 : Int) (x4 : Int) : Sim (f_pickJoin_l32 m x2 x4) (Sum.elim (f_pickJoin_l32_H m x2 ) (f_pickJoin_l32_X m x2 )) (f_pickJoin_l32_H m x2 x4) :=
  Sim.shift 4 (G := fun n => if m 0 22 < x4 then R n 12 73 [qr 0, qn, qj x2, qn, qi x4] [] 36 m else R n 12 41 [qr 0, qn, qj x2, qn, qi x4] [] 36 m) (fun _ => rfl) (Sim.ite (fun _ => Sim.leaf rfl (fun _ => rfl)) (fun _ => Sim.shift 5 (G := fun n => R n 12 47 [qr 0, qn, qj x2, qn, qi x4] [vl (and64 (ushr64 x2 x4) 1)] 36 m) (fun _ => rfl) (Sim.shift 3 (G := fun n => if lcm (and64 (ushr64 x2 x4) 1) 0 = 0 then R n 12 67 [qr 0, qn, qj x2, qn, qi x4] [] 36 m else R n 12 52 [qr 0, qn, qj x2, qn, qi x4] [] 36 m) (fun _ => rfl) (Sim.ite (fun _ => f_pickJoin_b67_ok x2 x4 m) (fun _ => Sim.shift 4 (G := fun n => if 0 ≤ x4 ∧ x4 < 33 then R n 12 59 [qr 0, qn, qj x2, qn, qi x4] [vl (m 18 x4)] 36 m else none) (fun _ => rfl) (Sim.grd fun _ => Sim.shift 3 (G := fun n => if lcm (m 18 x4) x2 = 0 then R n 12 64 [qr 0, qn, qj x2, qn, qi x4] [] 36 m else R n 12 67 [qr 0, qn, qj x2, qn, qi x4] [] 36 m) (fun _ => rfl) (Sim.ite (fun _ => Sim.leaf rfl (fun _ => rfl)) (fun _ => f_pickJoin_b67_ok x2 x4 m))))))))
def f_pickJoin (x1 : Int) (m : OMem) : Option (Int) := if 0 ≤ x1 ∧ x1 < 33 then (if m 17 x1 = 0 then (some (m 0 22)) else (if 0 ≤ x1 ∧ x1 < 33 then ((lp (f_pickJoin_l32 m (and64 (m 18 x1) (xor64 (shl64 1 x1) (-1)))) NN 0).bind fun e => match e with | (.inl x4_25) => (some x4_25) | (.inr _) => (some (m 0 22))) else none)) else none
set_option maxRecDepth 65536 in
set_option maxHeartbeats 16000000 in
theorem f_pickJoin_ok (x1 : Int) (m : OMem) : Sim (f_pickJoin x1 m) (fun r _ => some (some (vi r), 36, m)) (fun n => R n 12 0 [qr 0, qi x1, qn, qn, qn] [] 36 m) :=
  Sim.shift 4 (G := fun n => if 0 ≤ x1 ∧ x1 < 33 then R n 12 6 [qr 0, qi x1, qn, qn, qn] [vi (m 17 x1)] 36 m else none) (fun _ => rfl) (Sim.grd fun _ => Sim.shift 1 (G := fun n => if m 17 x1 = 0 then R n 12 9 [qr 0, qi x1, qn, qn, qn] [] 36 m else R n 12 14 [qr 0, qi x1, qn, qn, qn] [] 36 m) (fun _ => rfl) (Sim.ite (fun _ => Sim.shift 3 (G := (fun _ => some (some (vi (m 0 22)), 36, m))) (fun _ => rfl) (Sim.pur _ _)) (fun _ => Sim.shift 4 (G := fun n => if 0 ≤ x1 ∧ x1 < 33 then R n 12 20 [qr 0, qi x1, qn, qn, qn] [vl (m 18 x1)] 36 m else none) (fun _ => rfl) (Sim.grd fun _ => Sim.shift 5 (G := fun n => R n 12 27 [qr 0, qi x1, qn, qn, qn] [vl (xor64 (shl64 1 x1) (-1)), vl (m 18 x1)] 36 m) (fun _ => rfl) (Sim.shift 2 (G := fun n => R n 12 29 [qr 0, qi x1, qj (and64 (m 18 x1) (xor64 (shl64 1 x1) (-1))), qn, qn] [] 36 m) (fun _ => rfl) (Sim.shift 2 (G := fun n => R n 12 32 [qr 0, qi x1, qj (and64 (m 18 x1) (xor64 (shl64 1 x1) (-1))), qn, qi 0] [] 36 m) (fun _ => rfl) (Sim.jmp (Sim.bind (Sim.lp (fun x4L => f_pickJoin_l32_ok m (and64 (m 18 x1) (xor64 (shl64 1 x1) (-1))) x4L) NN 0) (fun e => match e with | (.inl x4_25) => Sim.shift 2 (G := (fun _ => some (some (vi x4_25), 36, m))) (fun _ => rfl) (Sim.pur _ _) | (.inr _) => Sim.shift 3 (G := (fun _ => some (some (vi (m 0 22)), 36, m))) (fun _ => rfl) (Sim.pur _ _))) rfl (fun _ => rfl))))))))
def f_computeJoins_l10_H : Int × OMem → Nat → RT := fun (x1, m) n => R n 4 10 [qr 0, qi x1] [] 36 m
def f_computeJoins_l10_X : (OMem) → Nat → RT := fun e n => match e with | w => R n 4 35 [qn, qn] [] 36 w
def f_computeJoins_l10 : Int × OMem → Option ((Int × OMem) ⊕ ((OMem))) := fun (x1, m) => if x1 < m 0 22 then ((f_pickJoin x1 m).bind fun r_26 => (if 0 ≤ x1 ∧ x1 < 32 then (some (.inl (w32 (x1 + 1), sto m 16 x1 r_26))) else none)) else (some (.inr m))
set_option maxRecDepth 65536 in
set_option maxHeartbeats 16000000 in
theorem f_computeJoins_l10_ok (x1 : Int) (m : OMem) : Sim (f_computeJoins_l10 (x1, m)) (Sum.elim (f_computeJoins_l10_H ) (f_computeJoins_l10_X )) (f_computeJoins_l10_H (x1, m)) :=
  Sim.shift 4 (G := fun n => if x1 < m 0 22 then R n 4 18 [qr 0, qi x1] [] 36 m else R n 4 35 [qr 0, qi x1] [] 36 m) (fun _ => rfl) (Sim.ite (fun _ => Sim.shift 6 (G := fun n => (R n 12 0 [qr 0, qi x1, qn, qn, qn] [] 36 m).bind fun y => Rr n 4 28 [qr 0, qi x1] [vi x1, vr 16] y) (fun _ => rfl) (Sim.call (f_pickJoin_ok x1 m) (fun _ _ => rfl) (runP_mono _ _ _ _ _ _) (fun _ => runP_mono _ _ _ _ _ _) (fun r_26 => Sim.shift 0 (G := fun n => R n 4 28 [qr 0, qi x1] [vi r_26, vi x1, vr 16] 36 m) (fun _ => rfl) (Sim.shift 1 (G := fun n => if 0 ≤ x1 ∧ x1 < 32 then R n 4 29 [qr 0, qi x1] [] 36 (sto m 16 x1 r_26) else none) (fun _ => rfl) (Sim.grd fun _ => Sim.shift 2 (G := fun n => R n 4 10 [qr 0, qi (w32 (x1 + 1))] [] 36 (sto m 16 x1 r_26)) (fun _ => rfl) (Sim.pur _ _)))))) (fun _ => Sim.leaf rfl (fun _ => rfl)))
def f_computeJoins (m : OMem) : Option (OMem) := (f_computeReach m).bind fun m_13 => ((f_computePdom m_13).bind fun m_24 => ((lp (f_computeJoins_l10 ) NN (0, m_24)).bind fun m_27 => (some m_27)))
set_option maxRecDepth 65536 in
set_option maxHeartbeats 16000000 in
theorem f_computeJoins_ok (m : OMem) : Sim (f_computeJoins m) (fun w0 _ => some (none, 36, w0)) (fun n => R n 4 0 [qr 0, qn] [] 36 m) :=
  Sim.shift 2 (G := fun n => (R n 5 0 [qr 0, qn, qn, qn] [] 36 m).bind fun y => Rr n 4 4 [qr 0, qn] [] y) (fun _ => rfl) (Sim.call (f_computeReach_ok m) (fun _ _ => rfl) (runP_mono _ _ _ _ _ _) (fun _ => runP_mono _ _ _ _ _ _) (fun m_13 => Sim.shift 0 (G := fun n => R n 4 4 [qr 0, qn] [] 36 m_13) (fun _ => rfl) (Sim.shift 2 (G := fun n => (R n 9 0 [qr 0, qn, qn, qn, qn, qn, qn, qn] [] 36 m_13).bind fun y => Rr n 4 8 [qr 0, qn] [] y) (fun _ => rfl) (Sim.call (f_computePdom_ok m_13) (fun _ _ => rfl) (runP_mono _ _ _ _ _ _) (fun _ => runP_mono _ _ _ _ _ _) (fun m_24 => Sim.shift 0 (G := fun n => R n 4 8 [qr 0, qn] [] 36 m_24) (fun _ => rfl) (Sim.shift 2 (G := fun n => R n 4 10 [qr 0, qi 0] [] 36 m_24) (fun _ => rfl) (Sim.bind (Sim.lp (fun ⟨x1L, mL⟩ => f_computeJoins_l10_ok x1L mL) NN (0, m_24)) (fun m_27 => Sim.shift 1 (G := (fun _ => some (none, 36, m_27))) (fun _ => rfl) (Sim.pur _ _)))))))))
def f_addInstr_b32 (m : OMem) : Option (Int × OMem) := some (0, m)
set_option maxRecDepth 65536 in
set_option maxHeartbeats 16000000 in
theorem f_addInstr_b32_ok (m : OMem) : Sim (f_addInstr_b32 m) (fun (r, w0) _ => some (some (vi r), 36, w0)) (fun n => R n 3 32 [qn, qn, qn, qn, qn] [] 36 m) :=
  Sim.shift 2 (G := (fun _ => some (some (vi 0), 36, m))) (fun _ => rfl) (Sim.pur _ _)
def f_addInstr (x1 x2 x3 x4 : Int) (m : OMem) : Option (Int × OMem) := if m 0 20 = 0 then (if m 0 22 = m 0 18 then (some (0, m)) else (if x1 < 0 then (f_addInstr_b32 m) else (if x1 < 15 then (if 0 ≤ m 0 22 ∧ m 0 22 < 32 then (if 0 ≤ m 0 22 ∧ m 0 22 < 32 then (if 0 ≤ m 0 22 ∧ m 0 22 < 32 then (if 0 ≤ m 0 22 ∧ m 0 22 < 32 then ((f_computeJoins (sto (sto (sto (sto (sto m 1 (m 0 22) x1) 2 (m 0 22) x2) 3 (m 0 22) x3) 4 (m 0 22) x4) 0 22 (w32 ((m 0 22) + 1)))).bind fun m_28 => (some (1, m_28))) else none) else none) else none) else none) else (f_addInstr_b32 m)))) else (some (0, m))
set_option maxRecDepth 65536 in
set_option maxHeartbeats 16000000 in
theorem f_addInstr_ok (x1 x2 x3 x4 : Int) (m : OMem) : Sim (f_addInstr x1 x2 x3 x4 m) (fun (r, w0) _ => some (some (vi r), 36, w0)) (fun n => R n 3 0 [qr 0, qi x1, qi x2, qi x3, qi x4] [] 36 m) :=
  Sim.shift 3 (G := fun n => if m 0 20 = 0 then R n 3 9 [qr 0, qi x1, qi x2, qi x3, qi x4] [] 36 m else R n 3 7 [qr 0, qi x1, qi x2, qi x3, qi x4] [] 36 m) (fun _ => rfl) (Sim.ite (fun _ => Sim.shift 5 (G := fun n => if m 0 22 = m 0 18 then R n 3 20 [qr 0, qi x1, qi x2, qi x3, qi x4] [] 36 m else R n 3 22 [qr 0, qi x1, qi x2, qi x3, qi x4] [] 36 m) (fun _ => rfl) (Sim.ite (fun _ => Sim.shift 2 (G := (fun _ => some (some (vi 0), 36, m))) (fun _ => rfl) (Sim.pur _ _)) (fun _ => Sim.shift 2 (G := fun n => if x1 < 0 then R n 3 32 [qr 0, qi x1, qi x2, qi x3, qi x4] [] 36 m else R n 3 26 [qr 0, qi x1, qi x2, qi x3, qi x4] [] 36 m) (fun _ => rfl) (Sim.ite (fun _ => Sim.jmp (f_addInstr_b32_ok m) rfl (fun _ => rfl)) (fun _ => Sim.shift 3 (G := fun n => if x1 < 15 then R n 3 34 [qr 0, qi x1, qi x2, qi x3, qi x4] [] 36 m else R n 3 32 [qr 0, qi x1, qi x2, qi x3, qi x4] [] 36 m) (fun _ => rfl) (Sim.ite (fun _ => Sim.shift 6 (G := fun n => if 0 ≤ m 0 22 ∧ m 0 22 < 32 then R n 3 44 [qr 0, qi x1, qi x2, qi x3, qi x4] [] 36 (sto m 1 (m 0 22) x1) else none) (fun _ => rfl) (Sim.grd fun _ => Sim.shift 6 (G := fun n => if 0 ≤ m 0 22 ∧ m 0 22 < 32 then R n 3 54 [qr 0, qi x1, qi x2, qi x3, qi x4] [] 36 (sto (sto m 1 (m 0 22) x1) 2 (m 0 22) x2) else none) (fun _ => rfl) (Sim.grd fun _ => Sim.shift 6 (G := fun n => if 0 ≤ m 0 22 ∧ m 0 22 < 32 then R n 3 64 [qr 0, qi x1, qi x2, qi x3, qi x4] [] 36 (sto (sto (sto m 1 (m 0 22) x1) 2 (m 0 22) x2) 3 (m 0 22) x3) else none) (fun _ => rfl) (Sim.grd fun _ => Sim.shift 6 (G := fun n => if 0 ≤ m 0 22 ∧ m 0 22 < 32 then R n 3 75 [qr 0, qi x1, qi x2, qi x3, qi x4] [] 36 (sto (sto (sto (sto m 1 (m 0 22) x1) 2 (m 0 22) x2) 3 (m 0 22) x3) 4 (m 0 22) x4) else none) (fun _ => rfl) (Sim.grd fun _ => Sim.shift 8 (G := fun n => (R n 4 0 [qr 0, qn] [] 36 (sto (sto (sto (sto (sto m 1 (m 0 22) x1) 2 (m 0 22) x2) 3 (m 0 22) x3) 4 (m 0 22) x4) 0 22 (w32 ((m 0 22) + 1)))).bind fun y => Rr n 3 89 [qr 0, qi x1, qi x2, qi x3, qi x4] [] y) (fun _ => rfl) (Sim.call (f_computeJoins_ok (sto (sto (sto (sto (sto m 1 (m 0 22) x1) 2 (m 0 22) x2) 3 (m 0 22) x3) 4 (m 0 22) x4) 0 22 (w32 ((m 0 22) + 1)))) (fun _ _ => rfl) (runP_mono _ _ _ _ _ _) (fun _ => runP_mono _ _ _ _ _ _) (fun m_28 => Sim.shift 0 (G := fun n => R n 3 89 [qr 0, qi x1, qi x2, qi x3, qi x4] [] 36 m_28) (fun _ => rfl) (Sim.shift 2 (G := (fun _ => some (some (vi 1), 36, m_28))) (fun _ => rfl) (Sim.pur _ _))))))))) (fun _ => Sim.jmp (f_addInstr_b32_ok m) rfl (fun _ => rfl)))))))) (fun _ => Sim.shift 2 (G := (fun _ => some (some (vi 0), 36, m))) (fun _ => rfl) (Sim.pur _ _)))
def f_stopKind_b16 (s0 : Int) (m : OMem) : Option (Int) := some s0
set_option maxRecDepth 65536 in
set_option maxHeartbeats 16000000 in
theorem f_stopKind_b16_ok (t : Nat) (s0 : Int) (m : OMem) : Sim (f_stopKind_b16 s0 m) (fun r _ => some (some (vi r), t, m)) (fun n => R n 13 16 [qn] [vi s0] t m) :=
  Sim.shift 1 (G := (fun _ => some (some (vi s0), t, m))) (fun _ => rfl) (Sim.pur _ _)
def f_stopKind (m : OMem) : Option (Int) := if m 0 20 = 3 then (f_stopKind_b16 (m 0 21) m) else (f_stopKind_b16 0 m)
set_option maxRecDepth 65536 in
set_option maxHeartbeats 16000000 in
theorem f_stopKind_ok (t : Nat) (m : OMem) : Sim (f_stopKind m) (fun r _ => some (some (vi r), t, m)) (fun n => R n 13 0 [qr 0] [] t m) :=
  Sim.shift 4 (G := fun n => if m 0 20 = 3 then R n 13 8 [qr 0] [] t m else R n 13 15 [qr 0] [] t m) (fun _ => rfl) (Sim.ite (fun _ => Sim.shift 3 (G := fun n => R n 13 16 [qr 0] [vi (m 0 21)] t m) (fun _ => rfl) (Sim.jmp (f_stopKind_b16_ok t (m 0 21) m) rfl (fun _ => rfl))) (fun _ => Sim.shift 1 (G := fun n => R n 13 16 [qn] [vi 0] t m) (fun _ => rfl) (f_stopKind_b16_ok t 0 m)))
def f_pc_b15 (s0 : Int) (m : OMem) : Option (Int) := some s0
set_option maxRecDepth 65536 in
set_option maxHeartbeats 16000000 in
theorem f_pc_b15_ok (t : Nat) (s0 : Int) (m : OMem) : Sim (f_pc_b15 s0 m) (fun r _ => some (some (vi r), t, m)) (fun n => R n 14 15 [qn] [vi s0] t m) :=
  Sim.shift 1 (G := (fun _ => some (some (vi s0), t, m))) (fun _ => rfl) (Sim.pur _ _)
def f_pc (m : OMem) : Option (Int) := if m 0 20 = 0 then (f_pc_b15 0 m) else (f_pc_b15 (m 0 23) m)
set_option maxRecDepth 65536 in
set_option maxHeartbeats 16000000 in
theorem f_pc_ok (t : Nat) (m : OMem) : Sim (f_pc m) (fun r _ => some (some (vi r), t, m)) (fun n => R n 14 0 [qr 0] [] t m) :=
  Sim.shift 3 (G := fun n => if m 0 20 = 0 then R n 14 7 [qr 0] [] t m else R n 14 11 [qr 0] [] t m) (fun _ => rfl) (Sim.ite (fun _ => Sim.shift 2 (G := fun n => R n 14 15 [qn] [vi 0] t m) (fun _ => rfl) (f_pc_b15_ok t 0 m)) (fun _ => Sim.shift 2 (G := fun n => R n 14 15 [qr 0] [vi (m 0 23)] t m) (fun _ => rfl) (Sim.jmp (f_pc_b15_ok t (m 0 23) m) rfl (fun _ => rfl))))
def f_depth (m : OMem) : Option (Int) := some (m 0 24)
set_option maxRecDepth 65536 in
set_option maxHeartbeats 16000000 in
theorem f_depth_ok (t : Nat) (m : OMem) : Sim (f_depth m) (fun r _ => some (some (vi r), t, m)) (fun n => R n 15 0 [qr 0] [] t m) :=
  Sim.shift 3 (G := (fun _ => some (some (vi (m 0 24)), t, m))) (fun _ => rfl) (Sim.pur _ _)
def f_curLabel (m : OMem) : Option (Int) := if 0 < m 0 24 then (if 0 ≤ w32 ((m 0 24) - 1) ∧ w32 ((m 0 24) - 1) < 16 then (some (m 9 (w32 ((m 0 24) - 1)))) else none) else (some 0)
set_option maxRecDepth 65536 in
set_option maxHeartbeats 16000000 in
theorem f_curLabel_ok (m : OMem) : Sim (f_curLabel m) (fun r _ => some (some (vi r), 36, m)) (fun n => R n 17 0 [qr 0] [] 36 m) :=
  Sim.shift 3 (G := fun n => if 0 < m 0 24 then R n 17 9 [qr 0] [] 36 m else R n 17 7 [qr 0] [] 36 m) (fun _ => rfl) (Sim.ite (fun _ => Sim.shift 7 (G := fun n => if 0 ≤ w32 ((m 0 24) - 1) ∧ w32 ((m 0 24) - 1) < 16 then R n 17 20 [qr 0] [vi (m 9 (w32 ((m 0 24) - 1)))] 36 m else none) (fun _ => rfl) (Sim.grd fun _ => Sim.shift 1 (G := (fun _ => some (some (vi (m 9 (w32 ((m 0 24) - 1)))), 36, m))) (fun _ => rfl) (Sim.pur _ _))) (fun _ => Sim.shift 2 (G := (fun _ => some (some (vi 0), 36, m))) (fun _ => rfl) (Sim.pur _ _)))
def f_pcLabel (m : OMem) : Option (Int) := (f_curLabel m).bind fun r_29 => (some r_29)
set_option maxRecDepth 65536 in
set_option maxHeartbeats 16000000 in
theorem f_pcLabel_ok (m : OMem) : Sim (f_pcLabel m) (fun r _ => some (some (vi r), 36, m)) (fun n => R n 16 0 [qr 0] [] 36 m) :=
  Sim.shift 2 (G := fun n => (R n 17 0 [qr 0] [] 36 m).bind fun y => Rr n 16 4 [qr 0] [] y) (fun _ => rfl) (Sim.call (f_curLabel_ok m) (fun _ _ => rfl) (runP_mono _ _ _ _ _ _) (fun _ => runP_mono _ _ _ _ _ _) (fun r_29 => Sim.shift 0 (G := fun n => R n 16 4 [qr 0] [vi r_29] 36 m) (fun _ => rfl) (Sim.shift 1 (G := (fun _ => some (some (vi r_29), 36, m))) (fun _ => rfl) (Sim.pur _ _))))
def f_outCount (m : OMem) : Option (Int) := some (m 0 25)
set_option maxRecDepth 65536 in
set_option maxHeartbeats 16000000 in
theorem f_outCount_ok (t : Nat) (m : OMem) : Sim (f_outCount m) (fun r _ => some (some (vi r), t, m)) (fun n => R n 18 0 [qr 0] [] t m) :=
  Sim.shift 3 (G := (fun _ => some (some (vi (m 0 25)), t, m))) (fun _ => rfl) (Sim.pur _ _)
def f_auditCount (m : OMem) : Option (Int) := some (m 0 26)
set_option maxRecDepth 65536 in
set_option maxHeartbeats 16000000 in
theorem f_auditCount_ok (t : Nat) (m : OMem) : Sim (f_auditCount m) (fun r _ => some (some (vi r), t, m)) (fun n => R n 19 0 [qr 0] [] t m) :=
  Sim.shift 3 (G := (fun _ => some (some (vi (m 0 26)), t, m))) (fun _ => rfl) (Sim.pur _ _)
def f_join_b12 (m : OMem) : Option (Int) := some (-1)
set_option maxRecDepth 65536 in
set_option maxHeartbeats 16000000 in
theorem f_join_b12_ok (m : OMem) : Sim (f_join_b12 m) (fun r _ => some (some (vi r), 36, m)) (fun n => R n 20 12 [qn, qn] [] 36 m) :=
  Sim.shift 2 (G := (fun _ => some (some (vi (-1)), 36, m))) (fun _ => rfl) (Sim.pur _ _)
def f_join (x1 : Int) (m : OMem) : Option (Int) := if x1 < 0 then (f_join_b12 m) else (if x1 < m 0 22 then (if 0 ≤ x1 ∧ x1 < 32 then (some (m 16 x1)) else none) else (f_join_b12 m))
set_option maxRecDepth 65536 in
set_option maxHeartbeats 16000000 in
theorem f_join_ok (x1 : Int) (m : OMem) : Sim (f_join x1 m) (fun r _ => some (some (vi r), 36, m)) (fun n => R n 20 0 [qr 0, qi x1] [] 36 m) :=
  Sim.shift 2 (G := fun n => if x1 < 0 then R n 20 12 [qr 0, qi x1] [] 36 m else R n 20 4 [qr 0, qi x1] [] 36 m) (fun _ => rfl) (Sim.ite (fun _ => Sim.jmp (f_join_b12_ok m) rfl (fun _ => rfl)) (fun _ => Sim.shift 4 (G := fun n => if x1 < m 0 22 then R n 20 14 [qr 0, qi x1] [] 36 m else R n 20 12 [qr 0, qi x1] [] 36 m) (fun _ => rfl) (Sim.ite (fun _ => Sim.shift 4 (G := fun n => if 0 ≤ x1 ∧ x1 < 32 then R n 20 20 [qr 0, qi x1] [vi (m 16 x1)] 36 m else none) (fun _ => rfl) (Sim.grd fun _ => Sim.shift 1 (G := (fun _ => some (some (vi (m 16 x1)), 36, m))) (fun _ => rfl) (Sim.pur _ _))) (fun _ => Sim.jmp (f_join_b12_ok m) rfl (fun _ => rfl)))))
def f_reg_b10 (m : OMem) : Option (Int) := some 0
set_option maxRecDepth 65536 in
set_option maxHeartbeats 16000000 in
theorem f_reg_b10_ok (m : OMem) : Sim (f_reg_b10 m) (fun r _ => some (some (vi r), 36, m)) (fun n => R n 21 10 [qn, qn] [] 36 m) :=
  Sim.shift 2 (G := (fun _ => some (some (vi 0), 36, m))) (fun _ => rfl) (Sim.pur _ _)
def f_reg (x1 : Int) (m : OMem) : Option (Int) := if x1 < 0 then (f_reg_b10 m) else (if x1 < 8 then (if 0 ≤ x1 ∧ x1 < 8 then (some (m 5 x1)) else none) else (f_reg_b10 m))
set_option maxRecDepth 65536 in
set_option maxHeartbeats 16000000 in
theorem f_reg_ok (x1 : Int) (m : OMem) : Sim (f_reg x1 m) (fun r _ => some (some (vi r), 36, m)) (fun n => R n 21 0 [qr 0, qi x1] [] 36 m) :=
  Sim.shift 2 (G := fun n => if x1 < 0 then R n 21 10 [qr 0, qi x1] [] 36 m else R n 21 4 [qr 0, qi x1] [] 36 m) (fun _ => rfl) (Sim.ite (fun _ => Sim.jmp (f_reg_b10_ok m) rfl (fun _ => rfl)) (fun _ => Sim.shift 3 (G := fun n => if x1 < 8 then R n 21 12 [qr 0, qi x1] [] 36 m else R n 21 10 [qr 0, qi x1] [] 36 m) (fun _ => rfl) (Sim.ite (fun _ => Sim.shift 4 (G := fun n => if 0 ≤ x1 ∧ x1 < 8 then R n 21 18 [qr 0, qi x1] [vi (m 5 x1)] 36 m else none) (fun _ => rfl) (Sim.grd fun _ => Sim.shift 1 (G := (fun _ => some (some (vi (m 5 x1)), 36, m))) (fun _ => rfl) (Sim.pur _ _))) (fun _ => Sim.jmp (f_reg_b10_ok m) rfl (fun _ => rfl)))))
def f_labelOf_b14 (m : OMem) : Option (Int) := some (-1)
set_option maxRecDepth 65536 in
set_option maxHeartbeats 16000000 in
theorem f_labelOf_b14_ok (m : OMem) : Sim (f_labelOf_b14 m) (fun r _ => some (some (vi r), 36, m)) (fun n => R n 22 14 [qn, qn, qn] [] 36 m) :=
  Sim.shift 2 (G := (fun _ => some (some (vi (-1)), 36, m))) (fun _ => rfl) (Sim.pur _ _)
def f_labelOf_b40 (m : OMem) : Option (Int) := some (-1)
set_option maxRecDepth 65536 in
set_option maxHeartbeats 16000000 in
theorem f_labelOf_b40_ok (m : OMem) : Sim (f_labelOf_b40 m) (fun r _ => some (some (vi r), 36, m)) (fun n => R n 22 40 [qn, qn, qn] [] 36 m) :=
  Sim.shift 2 (G := (fun _ => some (some (vi (-1)), 36, m))) (fun _ => rfl) (Sim.pur _ _)
def f_labelOf (x1 x2 : Int) (m : OMem) : Option (Int) := if x1 = 0 then (if x2 < 0 then (f_labelOf_b14 m) else (if x2 < 8 then (if 0 ≤ x2 ∧ x2 < 8 then (some (m 6 x2)) else none) else (f_labelOf_b14 m))) else (if x1 = 1 then (if x2 < 0 then (f_labelOf_b40 m) else (if x2 < m 0 19 then (if 0 ≤ x2 ∧ x2 < 32 then (some (m 8 x2)) else none) else (f_labelOf_b40 m))) else (some (-1)))
set_option maxRecDepth 65536 in
set_option maxHeartbeats 16000000 in
theorem f_labelOf_ok (x1 x2 : Int) (m : OMem) : Sim (f_labelOf x1 x2 m) (fun r _ => some (some (vi r), 36, m)) (fun n => R n 22 0 [qr 0, qi x1, qi x2] [] 36 m) :=
  Sim.shift 2 (G := fun n => if x1 = 0 then R n 22 4 [qr 0, qi x1, qi x2] [] 36 m else R n 22 23 [qr 0, qi x1, qi x2] [] 36 m) (fun _ => rfl) (Sim.ite (fun _ => Sim.shift 2 (G := fun n => if x2 < 0 then R n 22 14 [qr 0, qn, qi x2] [] 36 m else R n 22 8 [qr 0, qn, qi x2] [] 36 m) (fun _ => rfl) (Sim.ite (fun _ => Sim.jmp (f_labelOf_b14_ok m) rfl (fun _ => rfl)) (fun _ => Sim.shift 3 (G := fun n => if x2 < 8 then R n 22 16 [qr 0, qn, qi x2] [] 36 m else R n 22 14 [qr 0, qn, qi x2] [] 36 m) (fun _ => rfl) (Sim.ite (fun _ => Sim.shift 4 (G := fun n => if 0 ≤ x2 ∧ x2 < 8 then R n 22 22 [qr 0, qn, qi x2] [vi (m 6 x2)] 36 m else none) (fun _ => rfl) (Sim.grd fun _ => Sim.shift 1 (G := (fun _ => some (some (vi (m 6 x2)), 36, m))) (fun _ => rfl) (Sim.pur _ _))) (fun _ => Sim.jmp (f_labelOf_b14_ok m) rfl (fun _ => rfl)))))) (fun _ => Sim.shift 3 (G := fun n => if x1 = 1 then R n 22 28 [qr 0, qi x1, qi x2] [] 36 m else R n 22 49 [qr 0, qi x1, qi x2] [] 36 m) (fun _ => rfl) (Sim.ite (fun _ => Sim.shift 2 (G := fun n => if x2 < 0 then R n 22 40 [qr 0, qn, qi x2] [] 36 m else R n 22 32 [qr 0, qn, qi x2] [] 36 m) (fun _ => rfl) (Sim.ite (fun _ => Sim.jmp (f_labelOf_b40_ok m) rfl (fun _ => rfl)) (fun _ => Sim.shift 4 (G := fun n => if x2 < m 0 19 then R n 22 42 [qr 0, qn, qi x2] [] 36 m else R n 22 40 [qr 0, qn, qi x2] [] 36 m) (fun _ => rfl) (Sim.ite (fun _ => Sim.shift 4 (G := fun n => if 0 ≤ x2 ∧ x2 < 32 then R n 22 48 [qr 0, qn, qi x2] [vi (m 8 x2)] 36 m else none) (fun _ => rfl) (Sim.grd fun _ => Sim.shift 1 (G := (fun _ => some (some (vi (m 8 x2)), 36, m))) (fun _ => rfl) (Sim.pur _ _))) (fun _ => Sim.jmp (f_labelOf_b40_ok m) rfl (fun _ => rfl)))))) (fun _ => Sim.shift 2 (G := (fun _ => some (some (vi (-1)), 36, m))) (fun _ => rfl) (Sim.pur _ _)))))
def f_flows_b12 (s0 : Int) (m : OMem) : Option (Int) := some (s0 % 2)
set_option maxRecDepth 65536 in
set_option maxHeartbeats 16000000 in
theorem f_flows_b12_ok (t : Nat) (s0 : Int) (m : OMem) : Sim (f_flows_b12 s0 m) (fun r _ => some (some (vi r), t, m)) (fun n => R n 27 12 [qn, qn, qn] [vi s0] t m) :=
  Sim.shift 1 (G := (fun _ => some (some (vi (s0 % 2)), t, m))) (fun _ => rfl) (Sim.pur _ _)
def f_flows (x1 x2 : Int) (m : OMem) : Option (Int) := if or32 x1 x2 = x2 then (f_flows_b12 1 m) else (f_flows_b12 0 m)
set_option maxRecDepth 65536 in
set_option maxHeartbeats 16000000 in
theorem f_flows_ok (t : Nat) (x1 x2 : Int) (m : OMem) : Sim (f_flows x1 x2 m) (fun r _ => some (some (vi r), t, m)) (fun n => R n 27 0 [qr 0, qi x1, qi x2] [] t m) :=
  Sim.shift 5 (G := fun n => if or32 x1 x2 = x2 then R n 27 7 [qn, qi x1, qi x2] [] t m else R n 27 11 [qn, qi x1, qi x2] [] t m) (fun _ => rfl) (Sim.ite (fun _ => Sim.shift 2 (G := fun n => R n 27 12 [qn, qn, qn] [vi 1] t m) (fun _ => rfl) (f_flows_b12_ok t 1 m)) (fun _ => Sim.shift 1 (G := fun n => R n 27 12 [qn, qn, qn] [vi 0] t m) (fun _ => rfl) (f_flows_b12_ok t 0 m)))
def f_writeReg (x1 x2 x3 : Int) (m : OMem) : Option (Int × OMem) := (f_curLabel m).bind fun r_31 => (if 0 ≤ and32 x1 7 ∧ and32 x1 7 < 8 then ((f_flows r_31 (m 6 (and32 x1 7)) m).bind fun r_32 => (if r_32 = 0 then (some (1, m)) else (if 0 ≤ and32 x1 7 ∧ and32 x1 7 < 8 then (if 0 ≤ and32 x1 7 ∧ and32 x1 7 < 8 then (some (0, sto (sto m 5 (and32 x1 7) x2) 6 (and32 x1 7) (or32 r_31 x3))) else none) else none))) else none)
set_option maxRecDepth 65536 in
set_option maxHeartbeats 16000000 in
theorem f_writeReg_ok (x1 x2 x3 : Int) (m : OMem) : Sim (f_writeReg x1 x2 x3 m) (fun (r, w0) _ => some (some (vi r), 36, w0)) (fun n => R n 28 0 [qr 0, qi x1, qi x2, qi x3, qn, qn] [] 36 m) :=
  Sim.shift 5 (G := fun n => R n 28 7 [qr 0, qi x1, qi x2, qi x3, qi (and32 x1 7), qn] [vr 0] 36 m) (fun _ => rfl) (Sim.shift 1 (G := fun n => (R n 17 0 [qr 0] [] 36 m).bind fun y => Rr n 28 10 [qr 0, qi x1, qi x2, qi x3, qi (and32 x1 7), qn] [] y) (fun _ => rfl) (Sim.call (f_curLabel_ok m) (fun _ _ => rfl) (runP_mono _ _ _ _ _ _) (fun _ => runP_mono _ _ _ _ _ _) (fun r_31 => Sim.shift 0 (G := fun n => R n 28 10 [qr 0, qi x1, qi x2, qi x3, qi (and32 x1 7), qn] [vi r_31] 36 m) (fun _ => rfl) (Sim.shift 7 (G := fun n => if 0 ≤ and32 x1 7 ∧ and32 x1 7 < 8 then R n 28 22 [qr 0, qi x1, qi x2, qi x3, qi (and32 x1 7), qi r_31] [vi (m 6 (and32 x1 7)), vi r_31, vr 0] 36 m else none) (fun _ => rfl) (Sim.grd fun _ => Sim.shift 1 (G := fun n => (R n 27 0 [qr 0, qi r_31, qi (m 6 (and32 x1 7))] [] 36 m).bind fun y => Rr n 28 25 [qr 0, qi x1, qi x2, qi x3, qi (and32 x1 7), qi r_31] [] y) (fun _ => rfl) (Sim.call (f_flows_ok 36 r_31 (m 6 (and32 x1 7)) m) (fun _ _ => rfl) (runP_mono _ _ _ _ _ _) (fun _ => runP_mono _ _ _ _ _ _) (fun r_32 => Sim.shift 0 (G := fun n => R n 28 25 [qr 0, qi x1, qi x2, qi x3, qi (and32 x1 7), qi r_31] [vi r_32] 36 m) (fun _ => rfl) (Sim.shift 1 (G := fun n => if r_32 = 0 then R n 28 28 [qr 0, qi x1, qi x2, qi x3, qi (and32 x1 7), qi r_31] [] 36 m else R n 28 30 [qr 0, qi x1, qi x2, qi x3, qi (and32 x1 7), qi r_31] [] 36 m) (fun _ => rfl) (Sim.ite (fun _ => Sim.shift 2 (G := (fun _ => some (some (vi 1), 36, m))) (fun _ => rfl) (Sim.pur _ _)) (fun _ => Sim.shift 5 (G := fun n => if 0 ≤ and32 x1 7 ∧ and32 x1 7 < 8 then R n 28 38 [qr 0, qn, qi x2, qi x3, qi (and32 x1 7), qi r_31] [] 36 (sto m 5 (and32 x1 7) x2) else none) (fun _ => rfl) (Sim.grd fun _ => Sim.shift 7 (G := fun n => if 0 ≤ and32 x1 7 ∧ and32 x1 7 < 8 then R n 28 49 [qr 0, qn, qi x2, qi x3, qi (and32 x1 7), qi r_31] [] 36 (sto (sto m 5 (and32 x1 7) x2) 6 (and32 x1 7) (or32 r_31 x3)) else none) (fun _ => rfl) (Sim.grd fun _ => Sim.shift 2 (G := (fun _ => some (some (vi 0), 36, sto (sto m 5 (and32 x1 7) x2) 6 (and32 x1 7) (or32 r_31 x3)))) (fun _ => rfl) (Sim.pur _ _)))))))))))))
def f_execArith_b136 (x1 x7 x8 : Int) (m : OMem) : Option (Int × OMem) := if 0 ≤ x1 ∧ x1 < 32 then ((f_writeReg (m 2 x1) x8 x7 m).bind fun (r_33, m_34) => (some (r_33, m_34))) else none
set_option maxRecDepth 65536 in
set_option maxHeartbeats 16000000 in
theorem f_execArith_b136_ok (x1 x7 x8 : Int) (m : OMem) : Sim (f_execArith_b136 x1 x7 x8 m) (fun (r, w0) _ => some (some (vi r), 36, w0)) (fun n => R n 31 136 [qr 0, qi x1, qn, qn, qn, qn, qn, qi x7, qi x8] [] 36 m) :=
  Sim.shift 5 (G := fun n => if 0 ≤ x1 ∧ x1 < 32 then R n 31 143 [qr 0, qi x1, qn, qn, qn, qn, qn, qi x7, qi x8] [vi (m 2 x1), vr 0] 36 m else none) (fun _ => rfl) (Sim.grd fun _ => Sim.shift 3 (G := fun n => (R n 28 0 [qr 0, qi (m 2 x1), qi x8, qi x7, qn, qn] [] 36 m).bind fun y => Rr n 31 150 [qr 0, qi x1, qn, qn, qn, qn, qn, qi x7, qi x8] [] y) (fun _ => rfl) (Sim.call (f_writeReg_ok (m 2 x1) x8 x7 m) (fun _ _ => rfl) (runP_mono _ _ _ _ _ _) (fun _ => runP_mono _ _ _ _ _ _) (fun ⟨r_33, m_34⟩ => Sim.shift 0 (G := fun n => R n 31 150 [qr 0, qi x1, qn, qn, qn, qn, qn, qi x7, qi x8] [vi r_33] 36 m_34) (fun _ => rfl) (Sim.shift 1 (G := (fun _ => some (some (vi r_33), 36, m_34))) (fun _ => rfl) (Sim.pur _ _)))))
def f_execArith_b117 (x1 x7 s0 : Int) (m : OMem) : Option (Int × OMem) := f_execArith_b136 x1 x7 s0 m
set_option maxRecDepth 65536 in
set_option maxHeartbeats 16000000 in
theorem f_execArith_b117_ok (x1 x7 s0 : Int) (m : OMem) : Sim (f_execArith_b117 x1 x7 s0 m) (fun (r, w0) _ => some (some (vi r), 36, w0)) (fun n => R n 31 117 [qr 0, qi x1, qn, qn, qn, qn, qn, qi x7, qn] [vi s0] 36 m) :=
  Sim.shift 2 (G := fun n => R n 31 136 [qr 0, qi x1, qn, qn, qn, qn, qn, qi x7, qi s0] [] 36 m) (fun _ => rfl) (f_execArith_b136_ok x1 x7 s0 m)
def f_execArith_b134 (x1 x7 s0 : Int) (m : OMem) : Option (Int × OMem) := f_execArith_b136 x1 x7 s0 m
set_option maxRecDepth 65536 in
set_option maxHeartbeats 16000000 in
theorem f_execArith_b134_ok (x1 x7 s0 : Int) (m : OMem) : Sim (f_execArith_b134 x1 x7 s0 m) (fun (r, w0) _ => some (some (vi r), 36, w0)) (fun n => R n 31 134 [qr 0, qi x1, qn, qn, qn, qn, qn, qi x7, qn] [vi s0] 36 m) :=
  Sim.shift 1 (G := fun n => R n 31 136 [qr 0, qi x1, qn, qn, qn, qn, qn, qi x7, qi s0] [] 36 m) (fun _ => rfl) (f_execArith_b136_ok x1 x7 s0 m)
def f_execArith (x1 x2 : Int) (m : OMem) : Option (Int × OMem) := if 0 ≤ x1 ∧ x1 < 32 then (if 0 ≤ x1 ∧ x1 < 32 then (if 0 ≤ and32 (m 3 x1) 7 ∧ and32 (m 3 x1) 7 < 8 then (if 0 ≤ and32 (m 4 x1) 7 ∧ and32 (m 4 x1) 7 < 8 then (if 0 ≤ and32 (m 3 x1) 7 ∧ and32 (m 3 x1) 7 < 8 then (if 0 ≤ and32 (m 4 x1) 7 ∧ and32 (m 4 x1) 7 < 8 then (if x2 = 3 then (f_execArith_b136 x1 (or32 (m 6 (and32 (m 3 x1) 7)) (m 6 (and32 (m 4 x1) 7))) (w32 ((m 5 (and32 (m 3 x1) 7)) + (m 5 (and32 (m 4 x1) 7)))) m) else (if x2 = 4 then (f_execArith_b136 x1 (or32 (m 6 (and32 (m 3 x1) 7)) (m 6 (and32 (m 4 x1) 7))) (w32 ((m 5 (and32 (m 3 x1) 7)) - (m 5 (and32 (m 4 x1) 7)))) m) else (if x2 = 5 then (f_execArith_b136 x1 (or32 (m 6 (and32 (m 3 x1) 7)) (m 6 (and32 (m 4 x1) 7))) (w32 ((m 5 (and32 (m 3 x1) 7)) * (m 5 (and32 (m 4 x1) 7)))) m) else (if x2 = 6 then (if m 5 (and32 (m 3 x1) 7) < m 5 (and32 (m 4 x1) 7) then (f_execArith_b117 x1 (or32 (m 6 (and32 (m 3 x1) 7)) (m 6 (and32 (m 4 x1) 7))) 1 m) else (f_execArith_b117 x1 (or32 (m 6 (and32 (m 3 x1) 7)) (m 6 (and32 (m 4 x1) 7))) 0 m)) else (if m 5 (and32 (m 3 x1) 7) = m 5 (and32 (m 4 x1) 7) then (f_execArith_b134 x1 (or32 (m 6 (and32 (m 3 x1) 7)) (m 6 (and32 (m 4 x1) 7))) 1 m) else (f_execArith_b134 x1 (or32 (m 6 (and32 (m 3 x1) 7)) (m 6 (and32 (m 4 x1) 7))) 0 m)))))) else none) else none) else none) else none) else none) else none
set_option maxRecDepth 65536 in
set_option maxHeartbeats 16000000 in
theorem f_execArith_ok (x1 x2 : Int) (m : OMem) : Sim (f_execArith x1 x2 m) (fun (r, w0) _ => some (some (vi r), 36, w0)) (fun n => R n 31 0 [qr 0, qi x1, qi x2, qn, qn, qn, qn, qn, qn] [] 36 m) :=
  Sim.shift 4 (G := fun n => if 0 ≤ x1 ∧ x1 < 32 then R n 31 6 [qr 0, qi x1, qi x2, qn, qn, qn, qn, qn, qn] [vi (m 3 x1)] 36 m else none) (fun _ => rfl) (Sim.grd fun _ => Sim.shift 5 (G := fun n => R n 31 14 [qr 0, qi x1, qi x2, qi (and32 (m 3 x1) 7), qn, qn, qn, qn, qn] [vr 4] 36 m) (fun _ => rfl) (Sim.shift 2 (G := fun n => if 0 ≤ x1 ∧ x1 < 32 then R n 31 16 [qr 0, qi x1, qi x2, qi (and32 (m 3 x1) 7), qn, qn, qn, qn, qn] [vi (m 4 x1)] 36 m else none) (fun _ => rfl) (Sim.grd fun _ => Sim.shift 5 (G := fun n => R n 31 25 [qr 0, qi x1, qi x2, qi (and32 (m 3 x1) 7), qi (and32 (m 4 x1) 7), qn, qn, qn, qn] [vr 5] 36 m) (fun _ => rfl) (Sim.shift 2 (G := fun n => if 0 ≤ and32 (m 3 x1) 7 ∧ and32 (m 3 x1) 7 < 8 then R n 31 27 [qr 0, qi x1, qi x2, qi (and32 (m 3 x1) 7), qi (and32 (m 4 x1) 7), qn, qn, qn, qn] [vi (m 5 (and32 (m 3 x1) 7))] 36 m else none) (fun _ => rfl) (Sim.grd fun _ => Sim.shift 5 (G := fun n => if 0 ≤ and32 (m 4 x1) 7 ∧ and32 (m 4 x1) 7 < 8 then R n 31 36 [qr 0, qi x1, qi x2, qi (and32 (m 3 x1) 7), qi (and32 (m 4 x1) 7), qi (m 5 (and32 (m 3 x1) 7)), qn, qn, qn] [vi (m 5 (and32 (m 4 x1) 7))] 36 m else none) (fun _ => rfl) (Sim.grd fun _ => Sim.shift 5 (G := fun n => if 0 ≤ and32 (m 3 x1) 7 ∧ and32 (m 3 x1) 7 < 8 then R n 31 44 [qr 0, qi x1, qi x2, qi (and32 (m 3 x1) 7), qi (and32 (m 4 x1) 7), qi (m 5 (and32 (m 3 x1) 7)), qi (m 5 (and32 (m 4 x1) 7)), qn, qn] [vi (m 6 (and32 (m 3 x1) 7))] 36 m else none) (fun _ => rfl) (Sim.grd fun _ => Sim.shift 4 (G := fun n => if 0 ≤ and32 (m 4 x1) 7 ∧ and32 (m 4 x1) 7 < 8 then R n 31 51 [qr 0, qi x1, qi x2, qi (and32 (m 3 x1) 7), qi (and32 (m 4 x1) 7), qi (m 5 (and32 (m 3 x1) 7)), qi (m 5 (and32 (m 4 x1) 7)), qn, qn] [vi (m 6 (and32 (m 4 x1) 7)), vi (m 6 (and32 (m 3 x1) 7))] 36 m else none) (fun _ => rfl) (Sim.grd fun _ => Sim.shift 5 (G := fun n => if x2 = 3 then R n 31 59 [qr 0, qi x1, qi x2, qi (and32 (m 3 x1) 7), qi (and32 (m 4 x1) 7), qi (m 5 (and32 (m 3 x1) 7)), qi (m 5 (and32 (m 4 x1) 7)), qi (or32 (m 6 (and32 (m 3 x1) 7)) (m 6 (and32 (m 4 x1) 7))), qn] [] 36 m else R n 31 69 [qr 0, qi x1, qi x2, qi (and32 (m 3 x1) 7), qi (and32 (m 4 x1) 7), qi (m 5 (and32 (m 3 x1) 7)), qi (m 5 (and32 (m 4 x1) 7)), qi (or32 (m 6 (and32 (m 3 x1) 7)) (m 6 (and32 (m 4 x1) 7))), qn] [] 36 m) (fun _ => rfl) (Sim.ite (fun _ => Sim.shift 5 (G := fun n => R n 31 136 [qr 0, qi x1, qn, qn, qn, qi (m 5 (and32 (m 3 x1) 7)), qi (m 5 (and32 (m 4 x1) 7)), qi (or32 (m 6 (and32 (m 3 x1) 7)) (m 6 (and32 (m 4 x1) 7))), qi (w32 ((m 5 (and32 (m 3 x1) 7)) + (m 5 (and32 (m 4 x1) 7))))] [] 36 m) (fun _ => rfl) (Sim.jmp (f_execArith_b136_ok x1 (or32 (m 6 (and32 (m 3 x1) 7)) (m 6 (and32 (m 4 x1) 7))) (w32 ((m 5 (and32 (m 3 x1) 7)) + (m 5 (and32 (m 4 x1) 7)))) m) rfl (fun _ => rfl))) (fun _ => Sim.shift 3 (G := fun n => if x2 = 4 then R n 31 74 [qr 0, qi x1, qi x2, qn, qn, qi (m 5 (and32 (m 3 x1) 7)), qi (m 5 (and32 (m 4 x1) 7)), qi (or32 (m 6 (and32 (m 3 x1) 7)) (m 6 (and32 (m 4 x1) 7))), qn] [] 36 m else R n 31 84 [qr 0, qi x1, qi x2, qn, qn, qi (m 5 (and32 (m 3 x1) 7)), qi (m 5 (and32 (m 4 x1) 7)), qi (or32 (m 6 (and32 (m 3 x1) 7)) (m 6 (and32 (m 4 x1) 7))), qn] [] 36 m) (fun _ => rfl) (Sim.ite (fun _ => Sim.shift 5 (G := fun n => R n 31 136 [qr 0, qi x1, qn, qn, qn, qi (m 5 (and32 (m 3 x1) 7)), qi (m 5 (and32 (m 4 x1) 7)), qi (or32 (m 6 (and32 (m 3 x1) 7)) (m 6 (and32 (m 4 x1) 7))), qi (w32 ((m 5 (and32 (m 3 x1) 7)) - (m 5 (and32 (m 4 x1) 7))))] [] 36 m) (fun _ => rfl) (Sim.jmp (f_execArith_b136_ok x1 (or32 (m 6 (and32 (m 3 x1) 7)) (m 6 (and32 (m 4 x1) 7))) (w32 ((m 5 (and32 (m 3 x1) 7)) - (m 5 (and32 (m 4 x1) 7)))) m) rfl (fun _ => rfl))) (fun _ => Sim.shift 3 (G := fun n => if x2 = 5 then R n 31 89 [qr 0, qi x1, qi x2, qn, qn, qi (m 5 (and32 (m 3 x1) 7)), qi (m 5 (and32 (m 4 x1) 7)), qi (or32 (m 6 (and32 (m 3 x1) 7)) (m 6 (and32 (m 4 x1) 7))), qn] [] 36 m else R n 31 99 [qr 0, qi x1, qi x2, qn, qn, qi (m 5 (and32 (m 3 x1) 7)), qi (m 5 (and32 (m 4 x1) 7)), qi (or32 (m 6 (and32 (m 3 x1) 7)) (m 6 (and32 (m 4 x1) 7))), qn] [] 36 m) (fun _ => rfl) (Sim.ite (fun _ => Sim.shift 5 (G := fun n => R n 31 136 [qr 0, qi x1, qn, qn, qn, qi (m 5 (and32 (m 3 x1) 7)), qi (m 5 (and32 (m 4 x1) 7)), qi (or32 (m 6 (and32 (m 3 x1) 7)) (m 6 (and32 (m 4 x1) 7))), qi (w32 ((m 5 (and32 (m 3 x1) 7)) * (m 5 (and32 (m 4 x1) 7))))] [] 36 m) (fun _ => rfl) (Sim.jmp (f_execArith_b136_ok x1 (or32 (m 6 (and32 (m 3 x1) 7)) (m 6 (and32 (m 4 x1) 7))) (w32 ((m 5 (and32 (m 3 x1) 7)) * (m 5 (and32 (m 4 x1) 7)))) m) rfl (fun _ => rfl))) (fun _ => Sim.shift 3 (G := fun n => if x2 = 6 then R n 31 105 [qr 0, qi x1, qi x2, qn, qn, qi (m 5 (and32 (m 3 x1) 7)), qi (m 5 (and32 (m 4 x1) 7)), qi (or32 (m 6 (and32 (m 3 x1) 7)) (m 6 (and32 (m 4 x1) 7))), qn] [] 36 m else R n 31 122 [qr 0, qi x1, qi x2, qn, qn, qi (m 5 (and32 (m 3 x1) 7)), qi (m 5 (and32 (m 4 x1) 7)), qi (or32 (m 6 (and32 (m 3 x1) 7)) (m 6 (and32 (m 4 x1) 7))), qn] [] 36 m) (fun _ => rfl) (Sim.ite (fun _ => Sim.shift 3 (G := fun n => if m 5 (and32 (m 3 x1) 7) < m 5 (and32 (m 4 x1) 7) then R n 31 112 [qr 0, qi x1, qn, qn, qn, qi (m 5 (and32 (m 3 x1) 7)), qi (m 5 (and32 (m 4 x1) 7)), qi (or32 (m 6 (and32 (m 3 x1) 7)) (m 6 (and32 (m 4 x1) 7))), qn] [] 36 m else R n 31 116 [qr 0, qi x1, qn, qn, qn, qi (m 5 (and32 (m 3 x1) 7)), qi (m 5 (and32 (m 4 x1) 7)), qi (or32 (m 6 (and32 (m 3 x1) 7)) (m 6 (and32 (m 4 x1) 7))), qn] [] 36 m) (fun _ => rfl) (Sim.ite (fun _ => Sim.shift 2 (G := fun n => R n 31 117 [qr 0, qi x1, qn, qn, qn, qn, qn, qi (or32 (m 6 (and32 (m 3 x1) 7)) (m 6 (and32 (m 4 x1) 7))), qn] [vi 1] 36 m) (fun _ => rfl) (f_execArith_b117_ok x1 (or32 (m 6 (and32 (m 3 x1) 7)) (m 6 (and32 (m 4 x1) 7))) 1 m)) (fun _ => Sim.shift 1 (G := fun n => R n 31 117 [qr 0, qi x1, qn, qn, qn, qn, qn, qi (or32 (m 6 (and32 (m 3 x1) 7)) (m 6 (and32 (m 4 x1) 7))), qn] [vi 0] 36 m) (fun _ => rfl) (f_execArith_b117_ok x1 (or32 (m 6 (and32 (m 3 x1) 7)) (m 6 (and32 (m 4 x1) 7))) 0 m)))) (fun _ => Sim.shift 3 (G := fun n => if m 5 (and32 (m 3 x1) 7) = m 5 (and32 (m 4 x1) 7) then R n 31 129 [qr 0, qi x1, qn, qn, qn, qi (m 5 (and32 (m 3 x1) 7)), qi (m 5 (and32 (m 4 x1) 7)), qi (or32 (m 6 (and32 (m 3 x1) 7)) (m 6 (and32 (m 4 x1) 7))), qn] [] 36 m else R n 31 133 [qr 0, qi x1, qn, qn, qn, qi (m 5 (and32 (m 3 x1) 7)), qi (m 5 (and32 (m 4 x1) 7)), qi (or32 (m 6 (and32 (m 3 x1) 7)) (m 6 (and32 (m 4 x1) 7))), qn] [] 36 m) (fun _ => rfl) (Sim.ite (fun _ => Sim.shift 2 (G := fun n => R n 31 134 [qr 0, qi x1, qn, qn, qn, qn, qn, qi (or32 (m 6 (and32 (m 3 x1) 7)) (m 6 (and32 (m 4 x1) 7))), qn] [vi 1] 36 m) (fun _ => rfl) (f_execArith_b134_ok x1 (or32 (m 6 (and32 (m 3 x1) 7)) (m 6 (and32 (m 4 x1) 7))) 1 m)) (fun _ => Sim.shift 1 (G := fun n => R n 31 134 [qr 0, qi x1, qn, qn, qn, qn, qn, qi (or32 (m 6 (and32 (m 3 x1) 7)) (m 6 (and32 (m 4 x1) 7))), qn] [vi 0] 36 m) (fun _ => rfl) (f_execArith_b134_ok x1 (or32 (m 6 (and32 (m 3 x1) 7)) (m 6 (and32 (m 4 x1) 7))) 0 m)))))))))))))))))))
def f_execDeclass (x1 : Int) (m : OMem) : Option (Int × OMem) := if 0 ≤ x1 ∧ x1 < 32 then ((f_curLabel m).bind fun r_37 => (if r_37 = 0 then (if m 0 26 < 16 then (if 0 ≤ x1 ∧ x1 < 32 then (if 0 ≤ x1 ∧ x1 < 32 then (if 0 ≤ and32 (m 3 x1) 7 ∧ and32 (m 3 x1) 7 < 8 then (if 0 ≤ m 0 26 ∧ m 0 26 < 16 then (if 0 ≤ and32 (m 3 x1) 7 ∧ and32 (m 3 x1) 7 < 8 then (if 0 ≤ m 0 26 ∧ m 0 26 < 16 then (if 0 ≤ m 0 26 ∧ m 0 26 < 16 then (if 0 ≤ and32 (m 2 x1) 7 ∧ and32 (m 2 x1) 7 < 8 then (if 0 ≤ and32 (m 2 x1) 7 ∧ and32 (m 2 x1) 7 < 8 then (some (0, sto (sto (sto (sto (sto (sto m 13 (m 0 26) x1) 14 (m 0 26) (m 6 (and32 (m 3 x1) 7))) 15 (m 0 26) (and32 (m 4 x1) 3)) 0 26 (w32 ((m 0 26) + 1))) 5 (and32 (m 2 x1) 7) (m 5 (and32 (m 3 x1) 7))) 6 (and32 (m 2 x1) 7) (and32 (m 4 x1) 3))) else none) else none) else none) else none) else none) else none) else none) else none) else none) else (some (5, m))) else (some (3, m)))) else none
set_option maxRecDepth 65536 in
set_option maxHeartbeats 16000000 in
theorem f_execDeclass_ok (x1 : Int) (m : OMem) : Sim (f_execDeclass x1 m) (fun (r, w0) _ => some (some (vi r), 36, w0)) (fun n => R n 40 0 [qr 0, qi x1, qn, qn, qn, qn] [] 36 m) :=
  Sim.shift 4 (G := fun n => if 0 ≤ x1 ∧ x1 < 32 then R n 40 6 [qr 0, qi x1, qn, qn, qn, qn] [vi (m 4 x1)] 36 m else none) (fun _ => rfl) (Sim.grd fun _ => Sim.shift 5 (G := fun n => (R n 17 0 [qr 0] [] 36 m).bind fun y => Rr n 40 13 [qr 0, qi x1, qi (and32 (m 4 x1) 3), qn, qn, qn] [] y) (fun _ => rfl) (Sim.call (f_curLabel_ok m) (fun _ _ => rfl) (runP_mono _ _ _ _ _ _) (fun _ => runP_mono _ _ _ _ _ _) (fun r_37 => Sim.shift 0 (G := fun n => R n 40 13 [qr 0, qi x1, qi (and32 (m 4 x1) 3), qn, qn, qn] [vi r_37] 36 m) (fun _ => rfl) (Sim.shift 1 (G := fun n => if r_37 = 0 then R n 40 18 [qr 0, qi x1, qi (and32 (m 4 x1) 3), qn, qn, qn] [] 36 m else R n 40 16 [qr 0, qi x1, qi (and32 (m 4 x1) 3), qn, qn, qn] [] 36 m) (fun _ => rfl) (Sim.ite (fun _ => Sim.shift 4 (G := fun n => if m 0 26 < 16 then R n 40 29 [qr 0, qi x1, qi (and32 (m 4 x1) 3), qn, qn, qn] [] 36 m else R n 40 27 [qr 0, qi x1, qi (and32 (m 4 x1) 3), qn, qn, qn] [] 36 m) (fun _ => rfl) (Sim.ite (fun _ => Sim.shift 4 (G := fun n => if 0 ≤ x1 ∧ x1 < 32 then R n 40 35 [qr 0, qi x1, qi (and32 (m 4 x1) 3), qn, qn, qn] [vi (m 3 x1)] 36 m else none) (fun _ => rfl) (Sim.grd fun _ => Sim.shift 5 (G := fun n => R n 40 43 [qr 0, qi x1, qi (and32 (m 4 x1) 3), qi (and32 (m 3 x1) 7), qn, qn] [vr 2] 36 m) (fun _ => rfl) (Sim.shift 2 (G := fun n => if 0 ≤ x1 ∧ x1 < 32 then R n 40 45 [qr 0, qi x1, qi (and32 (m 4 x1) 3), qi (and32 (m 3 x1) 7), qn, qn] [vi (m 2 x1)] 36 m else none) (fun _ => rfl) (Sim.grd fun _ => Sim.shift 5 (G := fun n => R n 40 54 [qr 0, qi x1, qi (and32 (m 4 x1) 3), qi (and32 (m 3 x1) 7), qi (and32 (m 2 x1) 7), qn] [vr 5] 36 m) (fun _ => rfl) (Sim.shift 2 (G := fun n => if 0 ≤ and32 (m 3 x1) 7 ∧ and32 (m 3 x1) 7 < 8 then R n 40 56 [qr 0, qi x1, qi (and32 (m 4 x1) 3), qi (and32 (m 3 x1) 7), qi (and32 (m 2 x1) 7), qn] [vi (m 5 (and32 (m 3 x1) 7))] 36 m else none) (fun _ => rfl) (Sim.grd fun _ => Sim.shift 7 (G := fun n => if 0 ≤ m 0 26 ∧ m 0 26 < 16 then R n 40 68 [qr 0, qi x1, qi (and32 (m 4 x1) 3), qi (and32 (m 3 x1) 7), qi (and32 (m 2 x1) 7), qi (m 5 (and32 (m 3 x1) 7))] [] 36 (sto m 13 (m 0 26) x1) else none) (fun _ => rfl) (Sim.grd fun _ => Sim.shift 8 (G := fun n => if 0 ≤ and32 (m 3 x1) 7 ∧ and32 (m 3 x1) 7 < 8 then R n 40 82 [qr 0, qi x1, qi (and32 (m 4 x1) 3), qi (and32 (m 3 x1) 7), qi (and32 (m 2 x1) 7), qi (m 5 (and32 (m 3 x1) 7))] [vi (m 6 (and32 (m 3 x1) 7)), vi (m 0 26), vr 14] 36 (sto m 13 (m 0 26) x1) else none) (fun _ => rfl) (Sim.grd fun _ => Sim.shift 1 (G := fun n => if 0 ≤ m 0 26 ∧ m 0 26 < 16 then R n 40 83 [qr 0, qi x1, qi (and32 (m 4 x1) 3), qi (and32 (m 3 x1) 7), qi (and32 (m 2 x1) 7), qi (m 5 (and32 (m 3 x1) 7))] [] 36 (sto (sto m 13 (m 0 26) x1) 14 (m 0 26) (m 6 (and32 (m 3 x1) 7))) else none) (fun _ => rfl) (Sim.grd fun _ => Sim.shift 6 (G := fun n => if 0 ≤ m 0 26 ∧ m 0 26 < 16 then R n 40 93 [qr 0, qi x1, qi (and32 (m 4 x1) 3), qi (and32 (m 3 x1) 7), qi (and32 (m 2 x1) 7), qi (m 5 (and32 (m 3 x1) 7))] [] 36 (sto (sto (sto m 13 (m 0 26) x1) 14 (m 0 26) (m 6 (and32 (m 3 x1) 7))) 15 (m 0 26) (and32 (m 4 x1) 3)) else none) (fun _ => rfl) (Sim.grd fun _ => Sim.shift 8 (G := fun n => R n 40 107 [qr 0, qi x1, qi (and32 (m 4 x1) 3), qi (and32 (m 3 x1) 7), qi (and32 (m 2 x1) 7), qi (m 5 (and32 (m 3 x1) 7))] [vr 5] 36 (sto (sto (sto (sto m 13 (m 0 26) x1) 14 (m 0 26) (m 6 (and32 (m 3 x1) 7))) 15 (m 0 26) (and32 (m 4 x1) 3)) 0 26 (w32 ((m 0 26) + 1)))) (fun _ => rfl) (Sim.shift 3 (G := fun n => if 0 ≤ and32 (m 2 x1) 7 ∧ and32 (m 2 x1) 7 < 8 then R n 40 112 [qr 0, qi x1, qi (and32 (m 4 x1) 3), qi (and32 (m 3 x1) 7), qi (and32 (m 2 x1) 7), qi (m 5 (and32 (m 3 x1) 7))] [] 36 (sto (sto (sto (sto (sto m 13 (m 0 26) x1) 14 (m 0 26) (m 6 (and32 (m 3 x1) 7))) 15 (m 0 26) (and32 (m 4 x1) 3)) 0 26 (w32 ((m 0 26) + 1))) 5 (and32 (m 2 x1) 7) (m 5 (and32 (m 3 x1) 7))) else none) (fun _ => rfl) (Sim.grd fun _ => Sim.shift 5 (G := fun n => if 0 ≤ and32 (m 2 x1) 7 ∧ and32 (m 2 x1) 7 < 8 then R n 40 120 [qr 0, qi x1, qi (and32 (m 4 x1) 3), qi (and32 (m 3 x1) 7), qi (and32 (m 2 x1) 7), qi (m 5 (and32 (m 3 x1) 7))] [] 36 (sto (sto (sto (sto (sto (sto m 13 (m 0 26) x1) 14 (m 0 26) (m 6 (and32 (m 3 x1) 7))) 15 (m 0 26) (and32 (m 4 x1) 3)) 0 26 (w32 ((m 0 26) + 1))) 5 (and32 (m 2 x1) 7) (m 5 (and32 (m 3 x1) 7))) 6 (and32 (m 2 x1) 7) (and32 (m 4 x1) 3)) else none) (fun _ => rfl) (Sim.grd fun _ => Sim.shift 2 (G := (fun _ => some (some (vi 0), 36, sto (sto (sto (sto (sto (sto m 13 (m 0 26) x1) 14 (m 0 26) (m 6 (and32 (m 3 x1) 7))) 15 (m 0 26) (and32 (m 4 x1) 3)) 0 26 (w32 ((m 0 26) + 1))) 5 (and32 (m 2 x1) 7) (m 5 (and32 (m 3 x1) 7))) 6 (and32 (m 2 x1) 7) (and32 (m 4 x1) 3)))) (fun _ => rfl) (Sim.pur _ _)))))))))))))) (fun _ => Sim.shift 2 (G := (fun _ => some (some (vi 5), 36, m))) (fun _ => rfl) (Sim.pur _ _)))) (fun _ => Sim.shift 2 (G := (fun _ => some (some (vi 3), 36, m))) (fun _ => rfl) (Sim.pur _ _)))))))
def f_execRaise (x1 : Int) (m : OMem) : Option (Int × OMem) := if 0 ≤ x1 ∧ x1 < 32 then (if 0 ≤ and32 (m 2 x1) 7 ∧ and32 (m 2 x1) 7 < 8 then (if 0 ≤ x1 ∧ x1 < 32 then ((f_curLabel m).bind fun r_40 => (if 0 ≤ and32 (m 2 x1) 7 ∧ and32 (m 2 x1) 7 < 8 then (some (0, sto m 6 (and32 (m 2 x1) 7) (or32 (or32 (m 6 (and32 (m 2 x1) 7)) (and32 (m 3 x1) 3)) r_40))) else none)) else none) else none) else none
set_option maxRecDepth 65536 in
set_option maxHeartbeats 16000000 in
theorem f_execRaise_ok (x1 : Int) (m : OMem) : Sim (f_execRaise x1 m) (fun (r, w0) _ => some (some (vi r), 36, w0)) (fun n => R n 29 0 [qr 0, qi x1, qn] [] 36 m) :=
  Sim.shift 4 (G := fun n => if 0 ≤ x1 ∧ x1 < 32 then R n 29 6 [qr 0, qi x1, qn] [vi (m 2 x1)] 36 m else none) (fun _ => rfl) (Sim.grd fun _ => Sim.shift 5 (G := fun n => R n 29 14 [qr 0, qi x1, qi (and32 (m 2 x1) 7)] [vr 6] 36 m) (fun _ => rfl) (Sim.shift 5 (G := fun n => if 0 ≤ and32 (m 2 x1) 7 ∧ and32 (m 2 x1) 7 < 8 then R n 29 21 [qr 0, qi x1, qi (and32 (m 2 x1) 7)] [vi (m 6 (and32 (m 2 x1) 7)), vi (and32 (m 2 x1) 7), vr 6] 36 m else none) (fun _ => rfl) (Sim.grd fun _ => Sim.shift 4 (G := fun n => if 0 ≤ x1 ∧ x1 < 32 then R n 29 27 [qr 0, qi x1, qi (and32 (m 2 x1) 7)] [vi (m 3 x1), vi (m 6 (and32 (m 2 x1) 7)), vi (and32 (m 2 x1) 7), vr 6] 36 m else none) (fun _ => rfl) (Sim.grd fun _ => Sim.shift 4 (G := fun n => R n 29 31 [qr 0, qi x1, qi (and32 (m 2 x1) 7)] [vr 0, vi (or32 (m 6 (and32 (m 2 x1) 7)) (and32 (m 3 x1) 3)), vi (and32 (m 2 x1) 7), vr 6] 36 m) (fun _ => rfl) (Sim.shift 1 (G := fun n => (R n 17 0 [qr 0] [] 36 m).bind fun y => Rr n 29 34 [qr 0, qi x1, qi (and32 (m 2 x1) 7)] [vi (or32 (m 6 (and32 (m 2 x1) 7)) (and32 (m 3 x1) 3)), vi (and32 (m 2 x1) 7), vr 6] y) (fun _ => rfl) (Sim.call (f_curLabel_ok m) (fun _ _ => rfl) (runP_mono _ _ _ _ _ _) (fun _ => runP_mono _ _ _ _ _ _) (fun r_40 => Sim.shift 0 (G := fun n => R n 29 34 [qr 0, qi x1, qi (and32 (m 2 x1) 7)] [vi r_40, vi (or32 (m 6 (and32 (m 2 x1) 7)) (and32 (m 3 x1) 3)), vi (and32 (m 2 x1) 7), vr 6] 36 m) (fun _ => rfl) (Sim.shift 2 (G := fun n => if 0 ≤ and32 (m 2 x1) 7 ∧ and32 (m 2 x1) 7 < 8 then R n 29 36 [qr 0, qi x1, qi (and32 (m 2 x1) 7)] [] 36 (sto m 6 (and32 (m 2 x1) 7) (or32 (or32 (m 6 (and32 (m 2 x1) 7)) (and32 (m 3 x1) 3)) r_40)) else none) (fun _ => rfl) (Sim.grd fun _ => Sim.shift 2 (G := (fun _ => some (some (vi 0), 36, sto m 6 (and32 (m 2 x1) 7) (or32 (or32 (m 6 (and32 (m 2 x1) 7)) (and32 (m 3 x1) 3)) r_40)))) (fun _ => rfl) (Sim.pur _ _))))))))))
def f_execOut (x1 : Int) (m : OMem) : Option (Int × OMem) := if 0 ≤ x1 ∧ x1 < 32 then (if 0 ≤ x1 ∧ x1 < 32 then ((f_curLabel m).bind fun r_43 => (if 0 ≤ and32 (m 3 x1) 7 ∧ and32 (m 3 x1) 7 < 8 then ((f_flows (or32 r_43 (m 6 (and32 (m 3 x1) 7))) (and32 (m 2 x1) 3) m).bind fun r_44 => (if r_44 = 0 then (some (2, m)) else (if m 0 25 < 32 then (if 0 ≤ m 0 25 ∧ m 0 25 < 32 then (if 0 ≤ and32 (m 3 x1) 7 ∧ and32 (m 3 x1) 7 < 8 then (if 0 ≤ m 0 25 ∧ m 0 25 < 32 then (some (0, sto (sto (sto m 11 (m 0 25) (and32 (m 2 x1) 3)) 12 (m 0 25) (m 5 (and32 (m 3 x1) 7))) 0 25 (w32 ((m 0 25) + 1)))) else none) else none) else none) else (some (5, m))))) else none)) else none) else none
set_option maxRecDepth 65536 in
set_option maxHeartbeats 16000000 in
theorem f_execOut_ok (x1 : Int) (m : OMem) : Sim (f_execOut x1 m) (fun (r, w0) _ => some (some (vi r), 36, w0)) (fun n => R n 26 0 [qr 0, qi x1, qn, qn, qn] [] 36 m) :=
  Sim.shift 4 (G := fun n => if 0 ≤ x1 ∧ x1 < 32 then R n 26 6 [qr 0, qi x1, qn, qn, qn] [vi (m 2 x1)] 36 m else none) (fun _ => rfl) (Sim.grd fun _ => Sim.shift 5 (G := fun n => R n 26 13 [qr 0, qi x1, qi (and32 (m 2 x1) 3), qn, qn] [vr 3] 36 m) (fun _ => rfl) (Sim.shift 2 (G := fun n => if 0 ≤ x1 ∧ x1 < 32 then R n 26 15 [qr 0, qi x1, qi (and32 (m 2 x1) 3), qn, qn] [vi (m 3 x1)] 36 m else none) (fun _ => rfl) (Sim.grd fun _ => Sim.shift 5 (G := fun n => (R n 17 0 [qr 0] [] 36 m).bind fun y => Rr n 26 23 [qr 0, qi x1, qi (and32 (m 2 x1) 3), qi (and32 (m 3 x1) 7), qn] [] y) (fun _ => rfl) (Sim.call (f_curLabel_ok m) (fun _ _ => rfl) (runP_mono _ _ _ _ _ _) (fun _ => runP_mono _ _ _ _ _ _) (fun r_43 => Sim.shift 0 (G := fun n => R n 26 23 [qr 0, qi x1, qi (and32 (m 2 x1) 3), qi (and32 (m 3 x1) 7), qn] [vi r_43] 36 m) (fun _ => rfl) (Sim.shift 4 (G := fun n => if 0 ≤ and32 (m 3 x1) 7 ∧ and32 (m 3 x1) 7 < 8 then R n 26 29 [qr 0, qi x1, qi (and32 (m 2 x1) 3), qi (and32 (m 3 x1) 7), qn] [vi (m 6 (and32 (m 3 x1) 7)), vi r_43] 36 m else none) (fun _ => rfl) (Sim.grd fun _ => Sim.shift 5 (G := fun n => R n 26 36 [qr 0, qi x1, qi (and32 (m 2 x1) 3), qi (and32 (m 3 x1) 7), qi (or32 r_43 (m 6 (and32 (m 3 x1) 7)))] [vi (and32 (m 2 x1) 3), vi (or32 r_43 (m 6 (and32 (m 3 x1) 7))), vr 0] 36 m) (fun _ => rfl) (Sim.shift 1 (G := fun n => (R n 27 0 [qr 0, qi (or32 r_43 (m 6 (and32 (m 3 x1) 7))), qi (and32 (m 2 x1) 3)] [] 36 m).bind fun y => Rr n 26 39 [qr 0, qi x1, qi (and32 (m 2 x1) 3), qi (and32 (m 3 x1) 7), qi (or32 r_43 (m 6 (and32 (m 3 x1) 7)))] [] y) (fun _ => rfl) (Sim.call (f_flows_ok 36 (or32 r_43 (m 6 (and32 (m 3 x1) 7))) (and32 (m 2 x1) 3) m) (fun _ _ => rfl) (runP_mono _ _ _ _ _ _) (fun _ => runP_mono _ _ _ _ _ _) (fun r_44 => Sim.shift 0 (G := fun n => R n 26 39 [qr 0, qi x1, qi (and32 (m 2 x1) 3), qi (and32 (m 3 x1) 7), qi (or32 r_43 (m 6 (and32 (m 3 x1) 7)))] [vi r_44] 36 m) (fun _ => rfl) (Sim.shift 1 (G := fun n => if r_44 = 0 then R n 26 42 [qr 0, qi x1, qi (and32 (m 2 x1) 3), qi (and32 (m 3 x1) 7), qi (or32 r_43 (m 6 (and32 (m 3 x1) 7)))] [] 36 m else R n 26 44 [qr 0, qi x1, qi (and32 (m 2 x1) 3), qi (and32 (m 3 x1) 7), qi (or32 r_43 (m 6 (and32 (m 3 x1) 7)))] [] 36 m) (fun _ => rfl) (Sim.ite (fun _ => Sim.shift 2 (G := (fun _ => some (some (vi 2), 36, m))) (fun _ => rfl) (Sim.pur _ _)) (fun _ => Sim.shift 4 (G := fun n => if m 0 25 < 32 then R n 26 55 [qr 0, qn, qi (and32 (m 2 x1) 3), qi (and32 (m 3 x1) 7), qn] [] 36 m else R n 26 53 [qr 0, qn, qi (and32 (m 2 x1) 3), qi (and32 (m 3 x1) 7), qn] [] 36 m) (fun _ => rfl) (Sim.ite (fun _ => Sim.shift 6 (G := fun n => if 0 ≤ m 0 25 ∧ m 0 25 < 32 then R n 26 65 [qr 0, qn, qi (and32 (m 2 x1) 3), qi (and32 (m 3 x1) 7), qn] [] 36 (sto m 11 (m 0 25) (and32 (m 2 x1) 3)) else none) (fun _ => rfl) (Sim.grd fun _ => Sim.shift 8 (G := fun n => if 0 ≤ and32 (m 3 x1) 7 ∧ and32 (m 3 x1) 7 < 8 then R n 26 79 [qr 0, qn, qi (and32 (m 2 x1) 3), qi (and32 (m 3 x1) 7), qn] [vi (m 5 (and32 (m 3 x1) 7)), vi (m 0 25), vr 12] 36 (sto m 11 (m 0 25) (and32 (m 2 x1) 3)) else none) (fun _ => rfl) (Sim.grd fun _ => Sim.shift 1 (G := fun n => if 0 ≤ m 0 25 ∧ m 0 25 < 32 then R n 26 80 [qr 0, qn, qi (and32 (m 2 x1) 3), qi (and32 (m 3 x1) 7), qn] [] 36 (sto (sto m 11 (m 0 25) (and32 (m 2 x1) 3)) 12 (m 0 25) (m 5 (and32 (m 3 x1) 7))) else none) (fun _ => rfl) (Sim.grd fun _ => Sim.shift 8 (G := (fun _ => some (some (vi 0), 36, sto (sto (sto m 11 (m 0 25) (and32 (m 2 x1) 3)) 12 (m 0 25) (m 5 (and32 (m 3 x1) 7))) 0 25 (w32 ((m 0 25) + 1))))) (fun _ => rfl) (Sim.pur _ _))))) (fun _ => Sim.shift 2 (G := (fun _ => some (some (vi 5), 36, m))) (fun _ => rfl) (Sim.pur _ _))))))))))))))))
def f_execBranch_b155 (m : OMem) : Option (Int × OMem) := some (0, m)
set_option maxRecDepth 65536 in
set_option maxHeartbeats 16000000 in
theorem f_execBranch_b155_ok (m : OMem) : Sim (f_execBranch_b155 m) (fun (r, w0) _ => some (some (vi r), 36, w0)) (fun n => R n 35 155 [qn, qn, qn, qn, qn] [] 36 m) :=
  Sim.shift 2 (G := (fun _ => some (some (vi 0), 36, m))) (fun _ => rfl) (Sim.pur _ _)
def f_execBranch_b122 (x1 x2 : Int) (m : OMem) : Option (Int × OMem) := if 0 ≤ x2 ∧ x2 < 8 then (if m 5 x2 = 0 then (f_execBranch_b155 (sto m 0 27 (w32 (x1 + 1)))) else (if 0 ≤ x1 ∧ x1 < 32 then ((f_target (m 3 x1) m).bind fun r_48 => (f_execBranch_b155 (sto m 0 27 r_48))) else none)) else none
set_option maxRecDepth 65536 in
set_option maxHeartbeats 16000000 in
theorem f_execBranch_b122_ok (x1 x2 : Int) (m : OMem) : Sim (f_execBranch_b122 x1 x2 m) (fun (r, w0) _ => some (some (vi r), 36, w0)) (fun n => R n 35 122 [qr 0, qi x1, qi x2, qn, qn] [] 36 m) :=
  Sim.shift 4 (G := fun n => if 0 ≤ x2 ∧ x2 < 8 then R n 35 128 [qr 0, qi x1, qi x2, qn, qn] [vi (m 5 x2)] 36 m else none) (fun _ => rfl) (Sim.grd fun _ => Sim.shift 1 (G := fun n => if m 5 x2 = 0 then R n 35 148 [qr 0, qi x1, qi x2, qn, qn] [] 36 m else R n 35 131 [qr 0, qi x1, qi x2, qn, qn] [] 36 m) (fun _ => rfl) (Sim.ite (fun _ => Sim.shift 5 (G := fun n => R n 35 155 [qr 0, qi x1, qn, qn, qn] [] 36 (sto m 0 27 (w32 (x1 + 1)))) (fun _ => rfl) (Sim.jmp (f_execBranch_b155_ok (sto m 0 27 (w32 (x1 + 1)))) rfl (fun _ => rfl))) (fun _ => Sim.shift 6 (G := fun n => if 0 ≤ x1 ∧ x1 < 32 then R n 35 139 [qr 0, qi x1, qn, qn, qn] [vi (m 3 x1), vr 0, vr 0] 36 m else none) (fun _ => rfl) (Sim.grd fun _ => Sim.shift 1 (G := fun n => (R n 34 0 [qr 0, qi (m 3 x1)] [] 36 m).bind fun y => Rr n 35 142 [qr 0, qi x1, qn, qn, qn] [vr 0] y) (fun _ => rfl) (Sim.call (f_target_ok 36 (m 3 x1) m) (fun _ _ => rfl) (runP_mono _ _ _ _ _ _) (fun _ => runP_mono _ _ _ _ _ _) (fun r_48 => Sim.shift 0 (G := fun n => R n 35 142 [qr 0, qi x1, qn, qn, qn] [vi r_48, vr 0] 36 m) (fun _ => rfl) (Sim.shift 2 (G := fun n => R n 35 155 [qr 0, qi x1, qn, qn, qn] [] 36 (sto m 0 27 r_48)) (fun _ => rfl) (Sim.jmp (f_execBranch_b155_ok (sto m 0 27 r_48)) rfl (fun _ => rfl)))))))))
def f_execBranch_b80 (x1 x2 x3 x4 : Int) (m : OMem) : Option (Int × OMem) := if m 0 24 < 16 then (if 0 ≤ m 0 24 ∧ m 0 24 < 16 then (if 0 ≤ m 0 24 ∧ m 0 24 < 16 then (f_execBranch_b122 x1 x2 (sto (sto (sto m 9 (m 0 24) x3) 10 (m 0 24) x4) 0 24 (w32 ((m 0 24) + 1)))) else none) else none) else (some (4, m))
set_option maxRecDepth 65536 in
set_option maxHeartbeats 16000000 in
theorem f_execBranch_b80_ok (x1 x2 x3 x4 : Int) (m : OMem) : Sim (f_execBranch_b80 x1 x2 x3 x4 m) (fun (r, w0) _ => some (some (vi r), 36, w0)) (fun n => R n 35 80 [qr 0, qi x1, qi x2, qi x3, qi x4] [] 36 m) :=
  Sim.shift 4 (G := fun n => if m 0 24 < 16 then R n 35 91 [qr 0, qi x1, qi x2, qi x3, qi x4] [] 36 m else R n 35 89 [qr 0, qi x1, qi x2, qi x3, qi x4] [] 36 m) (fun _ => rfl) (Sim.ite (fun _ => Sim.shift 6 (G := fun n => if 0 ≤ m 0 24 ∧ m 0 24 < 16 then R n 35 101 [qr 0, qi x1, qi x2, qi x3, qi x4] [] 36 (sto m 9 (m 0 24) x3) else none) (fun _ => rfl) (Sim.grd fun _ => Sim.shift 6 (G := fun n => if 0 ≤ m 0 24 ∧ m 0 24 < 16 then R n 35 112 [qr 0, qi x1, qi x2, qi x3, qi x4] [] 36 (sto (sto m 9 (m 0 24) x3) 10 (m 0 24) x4) else none) (fun _ => rfl) (Sim.grd fun _ => Sim.shift 6 (G := fun n => R n 35 122 [qr 0, qi x1, qi x2, qi x3, qi x4] [] 36 (sto (sto (sto m 9 (m 0 24) x3) 10 (m 0 24) x4) 0 24 (w32 ((m 0 24) + 1)))) (fun _ => rfl) (Sim.jmp (f_execBranch_b122_ok x1 x2 (sto (sto (sto m 9 (m 0 24) x3) 10 (m 0 24) x4) 0 24 (w32 ((m 0 24) + 1)))) rfl (fun _ => rfl))))) (fun _ => Sim.shift 2 (G := (fun _ => some (some (vi 4), 36, m))) (fun _ => rfl) (Sim.pur _ _)))
def f_execBranch (x1 : Int) (m : OMem) : Option (Int × OMem) := if 0 ≤ x1 ∧ x1 < 32 then ((f_curLabel m).bind fun r_47 => (if 0 ≤ and32 (m 2 x1) 7 ∧ and32 (m 2 x1) 7 < 8 then (if 0 ≤ x1 ∧ x1 < 32 then (if 0 < m 0 24 then (if 0 ≤ w32 ((m 0 24) - 1) ∧ w32 ((m 0 24) - 1) < 16 then (if m 10 (w32 ((m 0 24) - 1)) = m 16 x1 then (if 0 ≤ w32 ((m 0 24) - 1) ∧ w32 ((m 0 24) - 1) < 16 then (if 0 ≤ w32 ((m 0 24) - 1) ∧ w32 ((m 0 24) - 1) < 16 then (f_execBranch_b122 x1 (and32 (m 2 x1) 7) (sto m 9 (w32 ((m 0 24) - 1)) (or32 (m 9 (w32 ((m 0 24) - 1))) (or32 r_47 (m 6 (and32 (m 2 x1) 7)))))) else none) else none) else (f_execBranch_b80 x1 (and32 (m 2 x1) 7) (or32 r_47 (m 6 (and32 (m 2 x1) 7))) (m 16 x1) m)) else none) else (f_execBranch_b80 x1 (and32 (m 2 x1) 7) (or32 r_47 (m 6 (and32 (m 2 x1) 7))) (m 16 x1) m)) else none) else none)) else none
set_option maxRecDepth 65536 in
set_option maxHeartbeats 16000000 in
theorem f_execBranch_ok (x1 : Int) (m : OMem) : Sim (f_execBranch x1 m) (fun (r, w0) _ => some (some (vi r), 36, w0)) (fun n => R n 35 0 [qr 0, qi x1, qn, qn, qn] [] 36 m) :=
  Sim.shift 4 (G := fun n => if 0 ≤ x1 ∧ x1 < 32 then R n 35 6 [qr 0, qi x1, qn, qn, qn] [vi (m 2 x1)] 36 m else none) (fun _ => rfl) (Sim.grd fun _ => Sim.shift 5 (G := fun n => (R n 17 0 [qr 0] [] 36 m).bind fun y => Rr n 35 14 [qr 0, qi x1, qi (and32 (m 2 x1) 7), qn, qn] [] y) (fun _ => rfl) (Sim.call (f_curLabel_ok m) (fun _ _ => rfl) (runP_mono _ _ _ _ _ _) (fun _ => runP_mono _ _ _ _ _ _) (fun r_47 => Sim.shift 0 (G := fun n => R n 35 14 [qr 0, qi x1, qi (and32 (m 2 x1) 7), qn, qn] [vi r_47] 36 m) (fun _ => rfl) (Sim.shift 4 (G := fun n => if 0 ≤ and32 (m 2 x1) 7 ∧ and32 (m 2 x1) 7 < 8 then R n 35 20 [qr 0, qi x1, qi (and32 (m 2 x1) 7), qn, qn] [vi (m 6 (and32 (m 2 x1) 7)), vi r_47] 36 m else none) (fun _ => rfl) (Sim.grd fun _ => Sim.shift 5 (G := fun n => R n 35 27 [qr 0, qi x1, qi (and32 (m 2 x1) 7), qi (or32 r_47 (m 6 (and32 (m 2 x1) 7))), qn] [vi x1, vr 16] 36 m) (fun _ => rfl) (Sim.shift 1 (G := fun n => if 0 ≤ x1 ∧ x1 < 32 then R n 35 28 [qr 0, qi x1, qi (and32 (m 2 x1) 7), qi (or32 r_47 (m 6 (and32 (m 2 x1) 7))), qn] [vi (m 16 x1)] 36 m else none) (fun _ => rfl) (Sim.grd fun _ => Sim.shift 4 (G := fun n => if 0 < m 0 24 then R n 35 37 [qr 0, qi x1, qi (and32 (m 2 x1) 7), qi (or32 r_47 (m 6 (and32 (m 2 x1) 7))), qi (m 16 x1)] [] 36 m else R n 35 80 [qr 0, qi x1, qi (and32 (m 2 x1) 7), qi (or32 r_47 (m 6 (and32 (m 2 x1) 7))), qi (m 16 x1)] [] 36 m) (fun _ => rfl) (Sim.ite (fun _ => Sim.shift 7 (G := fun n => if 0 ≤ w32 ((m 0 24) - 1) ∧ w32 ((m 0 24) - 1) < 16 then R n 35 48 [qr 0, qi x1, qi (and32 (m 2 x1) 7), qi (or32 r_47 (m 6 (and32 (m 2 x1) 7))), qi (m 16 x1)] [vi (m 10 (w32 ((m 0 24) - 1)))] 36 m else none) (fun _ => rfl) (Sim.grd fun _ => Sim.shift 2 (G := fun n => if m 10 (w32 ((m 0 24) - 1)) = m 16 x1 then R n 35 53 [qr 0, qi x1, qi (and32 (m 2 x1) 7), qi (or32 r_47 (m 6 (and32 (m 2 x1) 7))), qi (m 16 x1)] [] 36 m else R n 35 80 [qr 0, qi x1, qi (and32 (m 2 x1) 7), qi (or32 r_47 (m 6 (and32 (m 2 x1) 7))), qi (m 16 x1)] [] 36 m) (fun _ => rfl) (Sim.ite (fun _ => Sim.shift 8 (G := fun n => R n 35 67 [qr 0, qi x1, qi (and32 (m 2 x1) 7), qi (or32 r_47 (m 6 (and32 (m 2 x1) 7))), qn] [vr 9, vi (w32 ((m 0 24) - 1)), vr 9] 36 m) (fun _ => rfl) (Sim.shift 5 (G := fun n => if 0 ≤ w32 ((m 0 24) - 1) ∧ w32 ((m 0 24) - 1) < 16 then R n 35 74 [qr 0, qi x1, qi (and32 (m 2 x1) 7), qi (or32 r_47 (m 6 (and32 (m 2 x1) 7))), qn] [vi (m 9 (w32 ((m 0 24) - 1))), vi (w32 ((m 0 24) - 1)), vr 9] 36 m else none) (fun _ => rfl) (Sim.grd fun _ => Sim.shift 3 (G := fun n => if 0 ≤ w32 ((m 0 24) - 1) ∧ w32 ((m 0 24) - 1) < 16 then R n 35 77 [qr 0, qi x1, qi (and32 (m 2 x1) 7), qi (or32 r_47 (m 6 (and32 (m 2 x1) 7))), qn] [] 36 (sto m 9 (w32 ((m 0 24) - 1)) (or32 (m 9 (w32 ((m 0 24) - 1))) (or32 r_47 (m 6 (and32 (m 2 x1) 7))))) else none) (fun _ => rfl) (Sim.grd fun _ => Sim.shift 1 (G := fun n => R n 35 122 [qr 0, qi x1, qi (and32 (m 2 x1) 7), qi (or32 r_47 (m 6 (and32 (m 2 x1) 7))), qn] [] 36 (sto m 9 (w32 ((m 0 24) - 1)) (or32 (m 9 (w32 ((m 0 24) - 1))) (or32 r_47 (m 6 (and32 (m 2 x1) 7)))))) (fun _ => rfl) (Sim.jmp (f_execBranch_b122_ok x1 (and32 (m 2 x1) 7) (sto m 9 (w32 ((m 0 24) - 1)) (or32 (m 9 (w32 ((m 0 24) - 1))) (or32 r_47 (m 6 (and32 (m 2 x1) 7)))))) rfl (fun _ => rfl)))))) (fun _ => f_execBranch_b80_ok x1 (and32 (m 2 x1) 7) (or32 r_47 (m 6 (and32 (m 2 x1) 7))) (m 16 x1) m)))) (fun _ => f_execBranch_b80_ok x1 (and32 (m 2 x1) 7) (or32 r_47 (m 6 (and32 (m 2 x1) 7))) (m 16 x1) m)))))))))
def f_idx (x1 : Int) (m : OMem) : Option (Int) := if (m 0 19) = 0 then none else (if (m 0 19) = 0 then none else (some (rem32 (w32 ((rem32 x1 (m 0 19)) + (m 0 19))) (m 0 19))))
set_option maxRecDepth 65536 in
set_option maxHeartbeats 16000000 in
theorem f_idx_ok (t : Nat) (x1 : Int) (m : OMem) : Sim (f_idx x1 m) (fun r _ => some (some (vi r), t, m)) (fun n => R n 37 0 [qr 0, qi x1] [] t m) :=
  Sim.shift 4 (G := fun n => if (m 0 19) = 0 then none else R n 37 6 [qr 0, qi x1] [vi (rem32 x1 (m 0 19))] t m) (fun _ => rfl) (Sim.dv fun _ => Sim.shift 6 (G := fun n => if (m 0 19) = 0 then none else R n 37 16 [qr 0, qi x1] [vi (rem32 (w32 ((rem32 x1 (m 0 19)) + (m 0 19))) (m 0 19))] t m) (fun _ => rfl) (Sim.dv fun _ => Sim.shift 1 (G := (fun _ => some (some (vi (rem32 (w32 ((rem32 x1 (m 0 19)) + (m 0 19))) (m 0 19))), t, m))) (fun _ => rfl) (Sim.pur _ _)))
def f_execStore_b112 (x3 x4 x6 : Int) (m : OMem) : Option (Int × OMem) := if 0 ≤ x3 ∧ x3 < 8 then (if 0 ≤ x4 ∧ x4 < 32 then (if 0 ≤ x3 ∧ x3 < 8 then (if 0 ≤ x4 ∧ x4 < 32 then (some (0, sto (sto m 7 x4 (m 5 x3)) 8 x4 (or32 x6 (m 6 x3)))) else none) else none) else none) else none
set_option maxRecDepth 65536 in
set_option maxHeartbeats 16000000 in
theorem f_execStore_b112_ok (x3 x4 x6 : Int) (m : OMem) : Sim (f_execStore_b112 x3 x4 x6 m) (fun (r, w0) _ => some (some (vi r), 36, w0)) (fun n => R n 36 112 [qr 0, qn, qn, qi x3, qi x4, qn, qi x6, qn] [] 36 m) :=
  Sim.shift 7 (G := fun n => if 0 ≤ x3 ∧ x3 < 8 then R n 36 124 [qr 0, qn, qn, qi x3, qi x4, qn, qi x6, qn] [vi (m 5 x3), vi x4, vr 7] 36 m else none) (fun _ => rfl) (Sim.grd fun _ => Sim.shift 1 (G := fun n => if 0 ≤ x4 ∧ x4 < 32 then R n 36 125 [qr 0, qn, qn, qi x3, qi x4, qn, qi x6, qn] [] 36 (sto m 7 x4 (m 5 x3)) else none) (fun _ => rfl) (Sim.grd fun _ => Sim.shift 8 (G := fun n => if 0 ≤ x3 ∧ x3 < 8 then R n 36 139 [qr 0, qn, qn, qi x3, qi x4, qn, qi x6, qn] [vi (m 6 x3), vi x6, vi x4, vr 8] 36 (sto m 7 x4 (m 5 x3)) else none) (fun _ => rfl) (Sim.grd fun _ => Sim.shift 2 (G := fun n => if 0 ≤ x4 ∧ x4 < 32 then R n 36 141 [qr 0, qn, qn, qi x3, qi x4, qn, qi x6, qn] [] 36 (sto (sto m 7 x4 (m 5 x3)) 8 x4 (or32 x6 (m 6 x3))) else none) (fun _ => rfl) (Sim.grd fun _ => Sim.shift 2 (G := (fun _ => some (some (vi 0), 36, sto (sto m 7 x4 (m 5 x3)) 8 x4 (or32 x6 (m 6 x3))))) (fun _ => rfl) (Sim.pur _ _)))))
def f_execStore_l79_H (m : OMem) (x3 x4 x6 : Int) : Int → Nat → RT := fun x7 n => R n 36 79 [qr 0, qn, qn, qi x3, qi x4, qn, qi x6, qi x7] [] 36 m
def f_execStore_l79_X (m : OMem) (x3 x4 x6 : Int) : (Unit) ⊕ (Unit) → Nat → RT := fun e n => match e with | (.inl _) => R n 36 104 [qn, qn, qn, qn, qn, qn, qn, qn] [] 36 m | (.inr _) => R n 36 112 [qr 0, qn, qn, qi x3, qi x4, qn, qi x6, qn] [] 36 m
def f_execStore_l79 (m : OMem) (x3 x4 x6 : Int) : Int → Option ((Int) ⊕ ((Unit) ⊕ (Unit))) := fun x7 => if x7 < m 0 19 then (if 0 ≤ x7 ∧ x7 < 32 then ((f_flows x6 (m 8 x7) m).bind fun r_55 => (if r_55 = 0 then (some (.inr (.inl ()))) else (some (.inl (w32 (x7 + 1)))))) else none) else (some (.inr (.inr ())))
set_option maxRecDepth 65536 in
set_option maxHeartbeats 16000000 in
theorem f_execStore_l79_ok (m : OMem) (x3 x4 x6 : Int) (x7 : Int) : Sim (f_execStore_l79 m x3 x4 x6 x7) (Sum.elim (f_execStore_l79_H m x3 x4 x6 ) (f_execStore_l79_X m x3 x4 x6 )) (f_execStore_l79_H m x3 x4 x6 x7) :=
  Sim.shift 4 (G := fun n => if x7 < m 0 19 then R n 36 88 [qr 0, qn, qn, qi x3, qi x4, qn, qi x6, qi x7] [] 36 m else R n 36 112 [qr 0, qn, qn, qi x3, qi x4, qn, qi x6, qi x7] [] 36 m) (fun _ => rfl) (Sim.ite (fun _ => Sim.shift 6 (G := fun n => if 0 ≤ x7 ∧ x7 < 32 then R n 36 98 [qr 0, qn, qn, qi x3, qi x4, qn, qi x6, qi x7] [vi (m 8 x7), vi x6, vr 0] 36 m else none) (fun _ => rfl) (Sim.grd fun _ => Sim.shift 1 (G := fun n => (R n 27 0 [qr 0, qi x6, qi (m 8 x7)] [] 36 m).bind fun y => Rr n 36 101 [qr 0, qn, qn, qi x3, qi x4, qn, qi x6, qi x7] [] y) (fun _ => rfl) (Sim.call (f_flows_ok 36 x6 (m 8 x7) m) (fun _ _ => rfl) (runP_mono _ _ _ _ _ _) (fun _ => runP_mono _ _ _ _ _ _) (fun r_55 => Sim.shift 0 (G := fun n => R n 36 101 [qr 0, qn, qn, qi x3, qi x4, qn, qi x6, qi x7] [vi r_55] 36 m) (fun _ => rfl) (Sim.shift 1 (G := fun n => if r_55 = 0 then R n 36 104 [qr 0, qn, qn, qi x3, qi x4, qn, qi x6, qi x7] [] 36 m else R n 36 106 [qr 0, qn, qn, qi x3, qi x4, qn, qi x6, qi x7] [] 36 m) (fun _ => rfl) (Sim.ite (fun _ => Sim.leaf rfl (fun _ => rfl)) (fun _ => Sim.shift 2 (G := fun n => R n 36 79 [qr 0, qn, qn, qi x3, qi x4, qn, qi x6, qi (w32 (x7 + 1))] [] 36 m) (fun _ => rfl) (Sim.pur _ _)))))))) (fun _ => Sim.leaf rfl (fun _ => rfl)))
def f_execStore (x1 : Int) (m : OMem) : Option (Int × OMem) := if 0 ≤ x1 ∧ x1 < 32 then (if 0 ≤ x1 ∧ x1 < 32 then (if 0 ≤ and32 (m 2 x1) 7 ∧ and32 (m 2 x1) 7 < 8 then ((f_idx (m 5 (and32 (m 2 x1) 7)) m).bind fun r_52 => ((f_curLabel m).bind fun r_53 => (if 0 ≤ and32 (m 2 x1) 7 ∧ and32 (m 2 x1) 7 < 8 then (if 0 ≤ and32 (m 2 x1) 7 ∧ and32 (m 2 x1) 7 < 8 then (if m 6 (and32 (m 2 x1) 7) = 0 then (if 0 ≤ r_52 ∧ r_52 < 32 then ((f_flows r_53 (m 8 r_52) m).bind fun r_54 => (if r_54 = 0 then (some (1, m)) else (f_execStore_b112 (and32 (m 3 x1) 7) r_52 (or32 r_53 (m 6 (and32 (m 2 x1) 7))) m))) else none) else ((lp (f_execStore_l79 m (and32 (m 3 x1) 7) r_52 (or32 r_53 (m 6 (and32 (m 2 x1) 7)))) NN 0).bind fun e => match e with | (.inl _) => (some (1, m)) | (.inr _) => (f_execStore_b112 (and32 (m 3 x1) 7) r_52 (or32 r_53 (m 6 (and32 (m 2 x1) 7))) m))) else none) else none))) else none) else none) else none
set_option maxRecDepth 65536 in
set_option maxHeartbeats 16000000 in
theorem f_execStore_ok (x1 : Int) (m : OMem) : Sim (f_execStore x1 m) (fun (r, w0) _ => some (some (vi r), 36, w0)) (fun n => R n 36 0 [qr 0, qi x1, qn, qn, qn, qn, qn, qn] [] 36 m) :=
  Sim.shift 4 (G := fun n => if 0 ≤ x1 ∧ x1 < 32 then R n 36 6 [qr 0, qi x1, qn, qn, qn, qn, qn, qn] [vi (m 2 x1)] 36 m else none) (fun _ => rfl) (Sim.grd fun _ => Sim.shift 5 (G := fun n => R n 36 14 [qr 0, qi x1, qi (and32 (m 2 x1) 7), qn, qn, qn, qn, qn] [vr 3] 36 m) (fun _ => rfl) (Sim.shift 2 (G := fun n => if 0 ≤ x1 ∧ x1 < 32 then R n 36 16 [qr 0, qi x1, qi (and32 (m 2 x1) 7), qn, qn, qn, qn, qn] [vi (m 3 x1)] 36 m else none) (fun _ => rfl) (Sim.grd fun _ => Sim.shift 5 (G := fun n => R n 36 22 [qr 0, qi x1, qi (and32 (m 2 x1) 7), qi (and32 (m 3 x1) 7), qn, qn, qn, qn] [vr 0, vr 0] 36 m) (fun _ => rfl) (Sim.shift 3 (G := fun n => if 0 ≤ and32 (m 2 x1) 7 ∧ and32 (m 2 x1) 7 < 8 then R n 36 27 [qr 0, qi x1, qi (and32 (m 2 x1) 7), qi (and32 (m 3 x1) 7), qn, qn, qn, qn] [vi (m 5 (and32 (m 2 x1) 7)), vr 0] 36 m else none) (fun _ => rfl) (Sim.grd fun _ => Sim.shift 1 (G := fun n => (R n 37 0 [qr 0, qi (m 5 (and32 (m 2 x1) 7))] [] 36 m).bind fun y => Rr n 36 30 [qr 0, qi x1, qi (and32 (m 2 x1) 7), qi (and32 (m 3 x1) 7), qn, qn, qn, qn] [] y) (fun _ => rfl) (Sim.call (f_idx_ok 36 (m 5 (and32 (m 2 x1) 7)) m) (fun _ _ => rfl) (runP_mono _ _ _ _ _ _) (fun _ => runP_mono _ _ _ _ _ _) (fun r_52 => Sim.shift 0 (G := fun n => R n 36 30 [qr 0, qi x1, qi (and32 (m 2 x1) 7), qi (and32 (m 3 x1) 7), qn, qn, qn, qn] [vi r_52] 36 m) (fun _ => rfl) (Sim.shift 3 (G := fun n => (R n 17 0 [qr 0] [] 36 m).bind fun y => Rr n 36 36 [qr 0, qi x1, qi (and32 (m 2 x1) 7), qi (and32 (m 3 x1) 7), qi r_52, qn, qn, qn] [] y) (fun _ => rfl) (Sim.call (f_curLabel_ok m) (fun _ _ => rfl) (runP_mono _ _ _ _ _ _) (fun _ => runP_mono _ _ _ _ _ _) (fun r_53 => Sim.shift 0 (G := fun n => R n 36 36 [qr 0, qi x1, qi (and32 (m 2 x1) 7), qi (and32 (m 3 x1) 7), qi r_52, qn, qn, qn] [vi r_53] 36 m) (fun _ => rfl) (Sim.shift 6 (G := fun n => if 0 ≤ and32 (m 2 x1) 7 ∧ and32 (m 2 x1) 7 < 8 then R n 36 46 [qr 0, qi x1, qi (and32 (m 2 x1) 7), qi (and32 (m 3 x1) 7), qi r_52, qi r_53, qn, qn] [vi (m 6 (and32 (m 2 x1) 7)), vi r_53] 36 m else none) (fun _ => rfl) (Sim.grd fun _ => Sim.shift 5 (G := fun n => R n 36 54 [qr 0, qi x1, qi (and32 (m 2 x1) 7), qi (and32 (m 3 x1) 7), qi r_52, qi r_53, qi (or32 r_53 (m 6 (and32 (m 2 x1) 7))), qn] [vi (and32 (m 2 x1) 7), vr 6] 36 m) (fun _ => rfl) (Sim.shift 1 (G := fun n => if 0 ≤ and32 (m 2 x1) 7 ∧ and32 (m 2 x1) 7 < 8 then R n 36 55 [qr 0, qi x1, qi (and32 (m 2 x1) 7), qi (and32 (m 3 x1) 7), qi r_52, qi r_53, qi (or32 r_53 (m 6 (and32 (m 2 x1) 7))), qn] [vi (m 6 (and32 (m 2 x1) 7))] 36 m else none) (fun _ => rfl) (Sim.grd fun _ => Sim.shift 1 (G := fun n => if m 6 (and32 (m 2 x1) 7) = 0 then R n 36 58 [qr 0, qi x1, qi (and32 (m 2 x1) 7), qi (and32 (m 3 x1) 7), qi r_52, qi r_53, qi (or32 r_53 (m 6 (and32 (m 2 x1) 7))), qn] [] 36 m else R n 36 76 [qr 0, qi x1, qi (and32 (m 2 x1) 7), qi (and32 (m 3 x1) 7), qi r_52, qi r_53, qi (or32 r_53 (m 6 (and32 (m 2 x1) 7))), qn] [] 36 m) (fun _ => rfl) (Sim.ite (fun _ => Sim.shift 6 (G := fun n => if 0 ≤ r_52 ∧ r_52 < 32 then R n 36 68 [qr 0, qn, qn, qi (and32 (m 3 x1) 7), qi r_52, qi r_53, qi (or32 r_53 (m 6 (and32 (m 2 x1) 7))), qn] [vi (m 8 r_52), vi r_53, vr 0] 36 m else none) (fun _ => rfl) (Sim.grd fun _ => Sim.shift 1 (G := fun n => (R n 27 0 [qr 0, qi r_53, qi (m 8 r_52)] [] 36 m).bind fun y => Rr n 36 71 [qr 0, qn, qn, qi (and32 (m 3 x1) 7), qi r_52, qi r_53, qi (or32 r_53 (m 6 (and32 (m 2 x1) 7))), qn] [] y) (fun _ => rfl) (Sim.call (f_flows_ok 36 r_53 (m 8 r_52) m) (fun _ _ => rfl) (runP_mono _ _ _ _ _ _) (fun _ => runP_mono _ _ _ _ _ _) (fun r_54 => Sim.shift 0 (G := fun n => R n 36 71 [qr 0, qn, qn, qi (and32 (m 3 x1) 7), qi r_52, qi r_53, qi (or32 r_53 (m 6 (and32 (m 2 x1) 7))), qn] [vi r_54] 36 m) (fun _ => rfl) (Sim.shift 1 (G := fun n => if r_54 = 0 then R n 36 74 [qr 0, qn, qn, qi (and32 (m 3 x1) 7), qi r_52, qi r_53, qi (or32 r_53 (m 6 (and32 (m 2 x1) 7))), qn] [] 36 m else R n 36 112 [qr 0, qn, qn, qi (and32 (m 3 x1) 7), qi r_52, qi r_53, qi (or32 r_53 (m 6 (and32 (m 2 x1) 7))), qn] [] 36 m) (fun _ => rfl) (Sim.ite (fun _ => Sim.shift 2 (G := (fun _ => some (some (vi 1), 36, m))) (fun _ => rfl) (Sim.pur _ _)) (fun _ => Sim.jmp (f_execStore_b112_ok (and32 (m 3 x1) 7) r_52 (or32 r_53 (m 6 (and32 (m 2 x1) 7))) m) rfl (fun _ => rfl)))))))) (fun _ => Sim.shift 2 (G := fun n => R n 36 79 [qr 0, qn, qn, qi (and32 (m 3 x1) 7), qi r_52, qn, qi (or32 r_53 (m 6 (and32 (m 2 x1) 7))), qi 0] [] 36 m) (fun _ => rfl) (Sim.bind (Sim.lp (fun x7L => f_execStore_l79_ok m (and32 (m 3 x1) 7) r_52 (or32 r_53 (m 6 (and32 (m 2 x1) 7))) x7L) NN 0) (fun e => match e with | (.inl _) => Sim.shift 2 (G := (fun _ => some (some (vi 1), 36, m))) (fun _ => rfl) (Sim.pur _ _) | (.inr _) => f_execStore_b112_ok (and32 (m 3 x1) 7) r_52 (or32 r_53 (m 6 (and32 (m 2 x1) 7))) m))))))))))))))))))
def f_execLoad (x1 : Int) (m : OMem) : Option (Int × OMem) := if 0 ≤ x1 ∧ x1 < 32 then (if 0 ≤ and32 (m 3 x1) 7 ∧ and32 (m 3 x1) 7 < 8 then ((f_idx (m 5 (and32 (m 3 x1) 7)) m).bind fun r_58 => (if 0 ≤ r_58 ∧ r_58 < 32 then (if 0 ≤ and32 (m 3 x1) 7 ∧ and32 (m 3 x1) 7 < 8 then (if 0 ≤ r_58 ∧ r_58 < 32 then (if 0 ≤ x1 ∧ x1 < 32 then ((f_writeReg (m 2 x1) (m 7 r_58) (or32 (m 6 (and32 (m 3 x1) 7)) (m 8 r_58)) m).bind fun (r_59, m_60) => (some (r_59, m_60))) else none) else none) else none) else none)) else none) else none
set_option maxRecDepth 65536 in
set_option maxHeartbeats 16000000 in
theorem f_execLoad_ok (x1 : Int) (m : OMem) : Sim (f_execLoad x1 m) (fun (r, w0) _ => some (some (vi r), 36, w0)) (fun n => R n 39 0 [qr 0, qi x1, qn, qn, qn, qn] [] 36 m) :=
  Sim.shift 4 (G := fun n => if 0 ≤ x1 ∧ x1 < 32 then R n 39 6 [qr 0, qi x1, qn, qn, qn, qn] [vi (m 3 x1)] 36 m else none) (fun _ => rfl) (Sim.grd fun _ => Sim.shift 5 (G := fun n => R n 39 12 [qr 0, qi x1, qi (and32 (m 3 x1) 7), qn, qn, qn] [vr 0, vr 0] 36 m) (fun _ => rfl) (Sim.shift 3 (G := fun n => if 0 ≤ and32 (m 3 x1) 7 ∧ and32 (m 3 x1) 7 < 8 then R n 39 17 [qr 0, qi x1, qi (and32 (m 3 x1) 7), qn, qn, qn] [vi (m 5 (and32 (m 3 x1) 7)), vr 0] 36 m else none) (fun _ => rfl) (Sim.grd fun _ => Sim.shift 1 (G := fun n => (R n 37 0 [qr 0, qi (m 5 (and32 (m 3 x1) 7))] [] 36 m).bind fun y => Rr n 39 20 [qr 0, qi x1, qi (and32 (m 3 x1) 7), qn, qn, qn] [] y) (fun _ => rfl) (Sim.call (f_idx_ok 36 (m 5 (and32 (m 3 x1) 7)) m) (fun _ _ => rfl) (runP_mono _ _ _ _ _ _) (fun _ => runP_mono _ _ _ _ _ _) (fun r_58 => Sim.shift 0 (G := fun n => R n 39 20 [qr 0, qi x1, qi (and32 (m 3 x1) 7), qn, qn, qn] [vi r_58] 36 m) (fun _ => rfl) (Sim.shift 5 (G := fun n => if 0 ≤ r_58 ∧ r_58 < 32 then R n 39 27 [qr 0, qi x1, qi (and32 (m 3 x1) 7), qi r_58, qn, qn] [vi (m 7 r_58)] 36 m else none) (fun _ => rfl) (Sim.grd fun _ => Sim.shift 5 (G := fun n => if 0 ≤ and32 (m 3 x1) 7 ∧ and32 (m 3 x1) 7 < 8 then R n 39 35 [qr 0, qi x1, qi (and32 (m 3 x1) 7), qi r_58, qi (m 7 r_58), qn] [vi (m 6 (and32 (m 3 x1) 7))] 36 m else none) (fun _ => rfl) (Sim.grd fun _ => Sim.shift 4 (G := fun n => if 0 ≤ r_58 ∧ r_58 < 32 then R n 39 41 [qr 0, qi x1, qi (and32 (m 3 x1) 7), qi r_58, qi (m 7 r_58), qn] [vi (m 8 r_58), vi (m 6 (and32 (m 3 x1) 7))] 36 m else none) (fun _ => rfl) (Sim.grd fun _ => Sim.shift 5 (G := fun n => R n 39 49 [qr 0, qi x1, qi (and32 (m 3 x1) 7), qi r_58, qi (m 7 r_58), qi (or32 (m 6 (and32 (m 3 x1) 7)) (m 8 r_58))] [vr 2, vr 0] 36 m) (fun _ => rfl) (Sim.shift 2 (G := fun n => if 0 ≤ x1 ∧ x1 < 32 then R n 39 51 [qr 0, qi x1, qi (and32 (m 3 x1) 7), qi r_58, qi (m 7 r_58), qi (or32 (m 6 (and32 (m 3 x1) 7)) (m 8 r_58))] [vi (m 2 x1), vr 0] 36 m else none) (fun _ => rfl) (Sim.grd fun _ => Sim.shift 3 (G := fun n => (R n 28 0 [qr 0, qi (m 2 x1), qi (m 7 r_58), qi (or32 (m 6 (and32 (m 3 x1) 7)) (m 8 r_58)), qn, qn] [] 36 m).bind fun y => Rr n 39 58 [qr 0, qi x1, qi (and32 (m 3 x1) 7), qi r_58, qi (m 7 r_58), qi (or32 (m 6 (and32 (m 3 x1) 7)) (m 8 r_58))] [] y) (fun _ => rfl) (Sim.call (f_writeReg_ok (m 2 x1) (m 7 r_58) (or32 (m 6 (and32 (m 3 x1) 7)) (m 8 r_58)) m) (fun _ _ => rfl) (runP_mono _ _ _ _ _ _) (fun _ => runP_mono _ _ _ _ _ _) (fun ⟨r_59, m_60⟩ => Sim.shift 0 (G := fun n => R n 39 58 [qr 0, qi x1, qi (and32 (m 3 x1) 7), qi r_58, qi (m 7 r_58), qi (or32 (m 6 (and32 (m 3 x1) 7)) (m 8 r_58))] [vi r_59] 36 m_60) (fun _ => rfl) (Sim.shift 1 (G := (fun _ => some (some (vi r_59), 36, m_60))) (fun _ => rfl) (Sim.pur _ _)))))))))))))))
def f_execMov (x1 : Int) (m : OMem) : Option (Int × OMem) := if 0 ≤ x1 ∧ x1 < 32 then (if 0 ≤ and32 (m 3 x1) 7 ∧ and32 (m 3 x1) 7 < 8 then (if 0 ≤ and32 (m 3 x1) 7 ∧ and32 (m 3 x1) 7 < 8 then (if 0 ≤ x1 ∧ x1 < 32 then ((f_writeReg (m 2 x1) (m 5 (and32 (m 3 x1) 7)) (m 6 (and32 (m 3 x1) 7)) m).bind fun (r_63, m_64) => (some (r_63, m_64))) else none) else none) else none) else none
set_option maxRecDepth 65536 in
set_option maxHeartbeats 16000000 in
theorem f_execMov_ok (x1 : Int) (m : OMem) : Sim (f_execMov x1 m) (fun (r, w0) _ => some (some (vi r), 36, w0)) (fun n => R n 38 0 [qr 0, qi x1, qn, qn, qn] [] 36 m) :=
  Sim.shift 4 (G := fun n => if 0 ≤ x1 ∧ x1 < 32 then R n 38 6 [qr 0, qi x1, qn, qn, qn] [vi (m 3 x1)] 36 m else none) (fun _ => rfl) (Sim.grd fun _ => Sim.shift 5 (G := fun n => R n 38 14 [qr 0, qi x1, qi (and32 (m 3 x1) 7), qn, qn] [vr 5] 36 m) (fun _ => rfl) (Sim.shift 2 (G := fun n => if 0 ≤ and32 (m 3 x1) 7 ∧ and32 (m 3 x1) 7 < 8 then R n 38 16 [qr 0, qi x1, qi (and32 (m 3 x1) 7), qn, qn] [vi (m 5 (and32 (m 3 x1) 7))] 36 m else none) (fun _ => rfl) (Sim.grd fun _ => Sim.shift 5 (G := fun n => if 0 ≤ and32 (m 3 x1) 7 ∧ and32 (m 3 x1) 7 < 8 then R n 38 23 [qr 0, qi x1, qi (and32 (m 3 x1) 7), qi (m 5 (and32 (m 3 x1) 7)), qn] [vi (m 6 (and32 (m 3 x1) 7))] 36 m else none) (fun _ => rfl) (Sim.grd fun _ => Sim.shift 6 (G := fun n => if 0 ≤ x1 ∧ x1 < 32 then R n 38 32 [qr 0, qi x1, qi (and32 (m 3 x1) 7), qi (m 5 (and32 (m 3 x1) 7)), qi (m 6 (and32 (m 3 x1) 7))] [vi (m 2 x1), vr 0] 36 m else none) (fun _ => rfl) (Sim.grd fun _ => Sim.shift 3 (G := fun n => (R n 28 0 [qr 0, qi (m 2 x1), qi (m 5 (and32 (m 3 x1) 7)), qi (m 6 (and32 (m 3 x1) 7)), qn, qn] [] 36 m).bind fun y => Rr n 38 38 [qr 0, qi x1, qi (and32 (m 3 x1) 7), qi (m 5 (and32 (m 3 x1) 7)), qi (m 6 (and32 (m 3 x1) 7))] [] y) (fun _ => rfl) (Sim.call (f_writeReg_ok (m 2 x1) (m 5 (and32 (m 3 x1) 7)) (m 6 (and32 (m 3 x1) 7)) m) (fun _ _ => rfl) (runP_mono _ _ _ _ _ _) (fun _ => runP_mono _ _ _ _ _ _) (fun ⟨r_63, m_64⟩ => Sim.shift 0 (G := fun n => R n 38 38 [qr 0, qi x1, qi (and32 (m 3 x1) 7), qi (m 5 (and32 (m 3 x1) 7)), qi (m 6 (and32 (m 3 x1) 7))] [vi r_63] 36 m_64) (fun _ => rfl) (Sim.shift 1 (G := (fun _ => some (some (vi r_63), 36, m_64))) (fun _ => rfl) (Sim.pur _ _)))))))))
def f_execute_b170 (x1 x2 : Int) (m : OMem) : Option (Int × OMem) := (f_execArith x1 x2 m).bind fun (r_35, m_36) => (some (r_35, m_36))
set_option maxRecDepth 65536 in
set_option maxHeartbeats 16000000 in
theorem f_execute_b170_ok (x1 x2 : Int) (m : OMem) : Sim (f_execute_b170 x1 x2 m) (fun (r, w0) _ => some (some (vi r), 36, w0)) (fun n => R n 25 170 [qr 0, qi x1, qi x2] [] 36 m) :=
  Sim.shift 4 (G := fun n => (R n 31 0 [qr 0, qi x1, qi x2, qn, qn, qn, qn, qn, qn] [] 36 m).bind fun y => Rr n 25 176 [qr 0, qi x1, qi x2] [] y) (fun _ => rfl) (Sim.call (f_execArith_ok x1 x2 m) (fun _ _ => rfl) (runP_mono _ _ _ _ _ _) (fun _ => runP_mono _ _ _ _ _ _) (fun ⟨r_35, m_36⟩ => Sim.shift 0 (G := fun n => R n 25 176 [qr 0, qi x1, qi x2] [vi r_35] 36 m_36) (fun _ => rfl) (Sim.shift 1 (G := (fun _ => some (some (vi r_35), 36, m_36))) (fun _ => rfl) (Sim.pur _ _))))
def f_execute (x1 : Int) (m : OMem) : Option (Int × OMem) := if 0 ≤ x1 ∧ x1 < 32 then (if m 1 x1 = 0 then (some (0, sto m 0 27 (m 0 22))) else (if m 1 x1 = 1 then (if 0 ≤ x1 ∧ x1 < 32 then (if 0 ≤ x1 ∧ x1 < 32 then ((f_writeReg (m 2 x1) (m 3 x1) 0 m).bind fun (r_67, m_68) => (some (r_67, m_68))) else none) else none) else (if m 1 x1 = 2 then ((f_execMov x1 m).bind fun (r_65, m_66) => (some (r_65, m_66))) else (if m 1 x1 = 3 then (f_execute_b170 x1 (m 1 x1) m) else (if m 1 x1 = 4 then (f_execute_b170 x1 (m 1 x1) m) else (if m 1 x1 = 5 then (f_execute_b170 x1 (m 1 x1) m) else (if m 1 x1 = 6 then (f_execute_b170 x1 (m 1 x1) m) else (if m 1 x1 = 7 then (f_execute_b170 x1 (m 1 x1) m) else (if m 1 x1 = 8 then ((f_execLoad x1 m).bind fun (r_61, m_62) => (some (r_61, m_62))) else (if m 1 x1 = 9 then ((f_execStore x1 m).bind fun (r_56, m_57) => (some (r_56, m_57))) else (if m 1 x1 = 10 then (if 0 ≤ x1 ∧ x1 < 32 then ((f_target (m 2 x1) m).bind fun r_51 => (some (0, sto m 0 27 r_51))) else none) else (if m 1 x1 = 11 then ((f_execBranch x1 m).bind fun (r_49, m_50) => (some (r_49, m_50))) else (if m 1 x1 = 12 then ((f_execOut x1 m).bind fun (r_45, m_46) => (some (r_45, m_46))) else (if m 1 x1 = 13 then ((f_execRaise x1 m).bind fun (r_41, m_42) => (some (r_41, m_42))) else (if m 1 x1 = 14 then ((f_execDeclass x1 m).bind fun (r_38, m_39) => (some (r_38, m_39))) else (f_execute_b170 x1 (m 1 x1) m)))))))))))))))) else none
set_option maxRecDepth 65536 in
set_option maxHeartbeats 16000000 in
theorem f_execute_ok (x1 : Int) (m : OMem) : Sim (f_execute x1 m) (fun (r, w0) _ => some (some (vi r), 36, w0)) (fun n => R n 25 0 [qr 0, qi x1, qn] [] 36 m) :=
  Sim.shift 4 (G := fun n => if 0 ≤ x1 ∧ x1 < 32 then R n 25 6 [qr 0, qi x1, qn] [vi (m 1 x1)] 36 m else none) (fun _ => rfl) (Sim.grd fun _ => Sim.shift 3 (G := fun n => if m 1 x1 = 0 then R n 25 84 [qr 0, qi x1, qi (m 1 x1)] [] 36 m else if m 1 x1 = 1 then R n 25 94 [qr 0, qi x1, qi (m 1 x1)] [] 36 m else if m 1 x1 = 2 then R n 25 112 [qr 0, qi x1, qi (m 1 x1)] [] 36 m else if m 1 x1 = 3 then R n 25 170 [qr 0, qi x1, qi (m 1 x1)] [] 36 m else if m 1 x1 = 4 then R n 25 170 [qr 0, qi x1, qi (m 1 x1)] [] 36 m else if m 1 x1 = 5 then R n 25 170 [qr 0, qi x1, qi (m 1 x1)] [] 36 m else if m 1 x1 = 6 then R n 25 170 [qr 0, qi x1, qi (m 1 x1)] [] 36 m else if m 1 x1 = 7 then R n 25 170 [qr 0, qi x1, qi (m 1 x1)] [] 36 m else if m 1 x1 = 8 then R n 25 118 [qr 0, qi x1, qi (m 1 x1)] [] 36 m else if m 1 x1 = 9 then R n 25 124 [qr 0, qi x1, qi (m 1 x1)] [] 36 m else if m 1 x1 = 10 then R n 25 130 [qr 0, qi x1, qi (m 1 x1)] [] 36 m else if m 1 x1 = 11 then R n 25 146 [qr 0, qi x1, qi (m 1 x1)] [] 36 m else if m 1 x1 = 12 then R n 25 152 [qr 0, qi x1, qi (m 1 x1)] [] 36 m else if m 1 x1 = 13 then R n 25 158 [qr 0, qi x1, qi (m 1 x1)] [] 36 m else if m 1 x1 = 14 then R n 25 164 [qr 0, qi x1, qi (m 1 x1)] [] 36 m else R n 25 170 [qr 0, qi x1, qi (m 1 x1)] [] 36 m) (fun _ => rfl) (Sim.ite (fun _ => Sim.shift 6 (G := (fun _ => some (some (vi 0), 36, sto m 0 27 (m 0 22)))) (fun _ => rfl) (Sim.pur _ _)) (fun _ => Sim.ite (fun _ => Sim.shift 5 (G := fun n => if 0 ≤ x1 ∧ x1 < 32 then R n 25 101 [qr 0, qi x1, qn] [vi (m 2 x1), vr 0] 36 m else none) (fun _ => rfl) (Sim.grd fun _ => Sim.shift 4 (G := fun n => if 0 ≤ x1 ∧ x1 < 32 then R n 25 107 [qr 0, qi x1, qn] [vi (m 3 x1), vi (m 2 x1), vr 0] 36 m else none) (fun _ => rfl) (Sim.grd fun _ => Sim.shift 2 (G := fun n => (R n 28 0 [qr 0, qi (m 2 x1), qi (m 3 x1), qi 0, qn, qn] [] 36 m).bind fun y => Rr n 25 111 [qr 0, qi x1, qn] [] y) (fun _ => rfl) (Sim.call (f_writeReg_ok (m 2 x1) (m 3 x1) 0 m) (fun _ _ => rfl) (runP_mono _ _ _ _ _ _) (fun _ => runP_mono _ _ _ _ _ _) (fun ⟨r_67, m_68⟩ => Sim.shift 0 (G := fun n => R n 25 111 [qr 0, qi x1, qn] [vi r_67] 36 m_68) (fun _ => rfl) (Sim.shift 1 (G := (fun _ => some (some (vi r_67), 36, m_68))) (fun _ => rfl) (Sim.pur _ _))))))) (fun _ => Sim.ite (fun _ => Sim.shift 3 (G := fun n => (R n 38 0 [qr 0, qi x1, qn, qn, qn] [] 36 m).bind fun y => Rr n 25 117 [qr 0, qi x1, qn] [] y) (fun _ => rfl) (Sim.call (f_execMov_ok x1 m) (fun _ _ => rfl) (runP_mono _ _ _ _ _ _) (fun _ => runP_mono _ _ _ _ _ _) (fun ⟨r_65, m_66⟩ => Sim.shift 0 (G := fun n => R n 25 117 [qr 0, qi x1, qn] [vi r_65] 36 m_66) (fun _ => rfl) (Sim.shift 1 (G := (fun _ => some (some (vi r_65), 36, m_66))) (fun _ => rfl) (Sim.pur _ _))))) (fun _ => Sim.ite (fun _ => f_execute_b170_ok x1 (m 1 x1) m) (fun _ => Sim.ite (fun _ => f_execute_b170_ok x1 (m 1 x1) m) (fun _ => Sim.ite (fun _ => f_execute_b170_ok x1 (m 1 x1) m) (fun _ => Sim.ite (fun _ => f_execute_b170_ok x1 (m 1 x1) m) (fun _ => Sim.ite (fun _ => f_execute_b170_ok x1 (m 1 x1) m) (fun _ => Sim.ite (fun _ => Sim.shift 3 (G := fun n => (R n 39 0 [qr 0, qi x1, qn, qn, qn, qn] [] 36 m).bind fun y => Rr n 25 123 [qr 0, qi x1, qn] [] y) (fun _ => rfl) (Sim.call (f_execLoad_ok x1 m) (fun _ _ => rfl) (runP_mono _ _ _ _ _ _) (fun _ => runP_mono _ _ _ _ _ _) (fun ⟨r_61, m_62⟩ => Sim.shift 0 (G := fun n => R n 25 123 [qr 0, qi x1, qn] [vi r_61] 36 m_62) (fun _ => rfl) (Sim.shift 1 (G := (fun _ => some (some (vi r_61), 36, m_62))) (fun _ => rfl) (Sim.pur _ _))))) (fun _ => Sim.ite (fun _ => Sim.shift 3 (G := fun n => (R n 36 0 [qr 0, qi x1, qn, qn, qn, qn, qn, qn] [] 36 m).bind fun y => Rr n 25 129 [qr 0, qi x1, qn] [] y) (fun _ => rfl) (Sim.call (f_execStore_ok x1 m) (fun _ _ => rfl) (runP_mono _ _ _ _ _ _) (fun _ => runP_mono _ _ _ _ _ _) (fun ⟨r_56, m_57⟩ => Sim.shift 0 (G := fun n => R n 25 129 [qr 0, qi x1, qn] [vi r_56] 36 m_57) (fun _ => rfl) (Sim.shift 1 (G := (fun _ => some (some (vi r_56), 36, m_57))) (fun _ => rfl) (Sim.pur _ _))))) (fun _ => Sim.ite (fun _ => Sim.shift 6 (G := fun n => if 0 ≤ x1 ∧ x1 < 32 then R n 25 138 [qr 0, qi x1, qn] [vi (m 2 x1), vr 0, vr 0] 36 m else none) (fun _ => rfl) (Sim.grd fun _ => Sim.shift 1 (G := fun n => (R n 34 0 [qr 0, qi (m 2 x1)] [] 36 m).bind fun y => Rr n 25 141 [qr 0, qi x1, qn] [vr 0] y) (fun _ => rfl) (Sim.call (f_target_ok 36 (m 2 x1) m) (fun _ _ => rfl) (runP_mono _ _ _ _ _ _) (fun _ => runP_mono _ _ _ _ _ _) (fun r_51 => Sim.shift 0 (G := fun n => R n 25 141 [qr 0, qi x1, qn] [vi r_51, vr 0] 36 m) (fun _ => rfl) (Sim.shift 3 (G := (fun _ => some (some (vi 0), 36, sto m 0 27 r_51))) (fun _ => rfl) (Sim.pur _ _)))))) (fun _ => Sim.ite (fun _ => Sim.shift 3 (G := fun n => (R n 35 0 [qr 0, qi x1, qn, qn, qn] [] 36 m).bind fun y => Rr n 25 151 [qr 0, qi x1, qn] [] y) (fun _ => rfl) (Sim.call (f_execBranch_ok x1 m) (fun _ _ => rfl) (runP_mono _ _ _ _ _ _) (fun _ => runP_mono _ _ _ _ _ _) (fun ⟨r_49, m_50⟩ => Sim.shift 0 (G := fun n => R n 25 151 [qr 0, qi x1, qn] [vi r_49] 36 m_50) (fun _ => rfl) (Sim.shift 1 (G := (fun _ => some (some (vi r_49), 36, m_50))) (fun _ => rfl) (Sim.pur _ _))))) (fun _ => Sim.ite (fun _ => Sim.shift 3 (G := fun n => (R n 26 0 [qr 0, qi x1, qn, qn, qn] [] 36 m).bind fun y => Rr n 25 157 [qr 0, qi x1, qn] [] y) (fun _ => rfl) (Sim.call (f_execOut_ok x1 m) (fun _ _ => rfl) (runP_mono _ _ _ _ _ _) (fun _ => runP_mono _ _ _ _ _ _) (fun ⟨r_45, m_46⟩ => Sim.shift 0 (G := fun n => R n 25 157 [qr 0, qi x1, qn] [vi r_45] 36 m_46) (fun _ => rfl) (Sim.shift 1 (G := (fun _ => some (some (vi r_45), 36, m_46))) (fun _ => rfl) (Sim.pur _ _))))) (fun _ => Sim.ite (fun _ => Sim.shift 3 (G := fun n => (R n 29 0 [qr 0, qi x1, qn] [] 36 m).bind fun y => Rr n 25 163 [qr 0, qi x1, qn] [] y) (fun _ => rfl) (Sim.call (f_execRaise_ok x1 m) (fun _ _ => rfl) (runP_mono _ _ _ _ _ _) (fun _ => runP_mono _ _ _ _ _ _) (fun ⟨r_41, m_42⟩ => Sim.shift 0 (G := fun n => R n 25 163 [qr 0, qi x1, qn] [vi r_41] 36 m_42) (fun _ => rfl) (Sim.shift 1 (G := (fun _ => some (some (vi r_41), 36, m_42))) (fun _ => rfl) (Sim.pur _ _))))) (fun _ => Sim.ite (fun _ => Sim.shift 3 (G := fun n => (R n 40 0 [qr 0, qi x1, qn, qn, qn, qn] [] 36 m).bind fun y => Rr n 25 169 [qr 0, qi x1, qn] [] y) (fun _ => rfl) (Sim.call (f_execDeclass_ok x1 m) (fun _ _ => rfl) (runP_mono _ _ _ _ _ _) (fun _ => runP_mono _ _ _ _ _ _) (fun ⟨r_38, m_39⟩ => Sim.shift 0 (G := fun n => R n 25 169 [qr 0, qi x1, qn] [vi r_38] 36 m_39) (fun _ => rfl) (Sim.shift 1 (G := (fun _ => some (some (vi r_38), 36, m_39))) (fun _ => rfl) (Sim.pur _ _))))) (fun _ => f_execute_b170_ok x1 (m 1 x1) m)))))))))))))))))
def f_step_b17 (m : OMem) : Option (Int × OMem) := some (0, sto (sto (sto m 0 23 (m 0 22)) 0 24 0) 0 20 2)
set_option maxRecDepth 65536 in
set_option maxHeartbeats 16000000 in
theorem f_step_b17_ok (m : OMem) : Sim (f_step_b17 m) (fun (r, w0) _ => some (some (vi r), 36, w0)) (fun n => R n 24 17 [qr 0, qn, qn] [] 36 m) :=
  Sim.shift 12 (G := (fun _ => some (some (vi 0), 36, sto (sto (sto m 0 23 (m 0 22)) 0 24 0) 0 20 2))) (fun _ => rfl) (Sim.pur _ _)
def f_step_l39_H (x1 : Int) : Int × OMem → Nat → RT := fun (x2, m) n => R n 24 39 [qr 0, qi x1, qi x2] [] 36 m
def f_step_l39_X (x1 : Int) : (OMem) → Nat → RT := fun e n => match e with | w => R n 24 83 [qr 0, qi x1, qn] [] 36 w
def f_step_l39 (x1 : Int) : Int × OMem → Option ((Int × OMem) ⊕ ((OMem))) := fun (x2, m) => if x2 < 16 then (if 0 < m 0 24 then (if 0 ≤ w32 ((m 0 24) - 1) ∧ w32 ((m 0 24) - 1) < 16 then (if m 10 (w32 ((m 0 24) - 1)) = x1 then (some (.inl (w32 (x2 + 1), sto m 0 24 (w32 ((m 0 24) - 1))))) else (some (.inr m))) else none) else (some (.inr m))) else (some (.inr m))
set_option maxRecDepth 65536 in
set_option maxHeartbeats 16000000 in
theorem f_step_l39_ok (x1 : Int) (x2 : Int) (m : OMem) : Sim (f_step_l39 x1 (x2, m)) (Sum.elim (f_step_l39_H x1 ) (f_step_l39_X x1 )) (f_step_l39_H x1 (x2, m)) :=
  Sim.shift 3 (G := fun n => if x2 < 16 then R n 24 45 [qr 0, qi x1, qi x2] [] 36 m else R n 24 83 [qr 0, qi x1, qi x2] [] 36 m) (fun _ => rfl) (Sim.ite (fun _ => Sim.shift 3 (G := fun n => if 0 < m 0 24 then R n 24 52 [qr 0, qi x1, qi x2] [] 36 m else R n 24 83 [qr 0, qi x1, qi x2] [] 36 m) (fun _ => rfl) (Sim.ite (fun _ => Sim.shift 7 (G := fun n => if 0 ≤ w32 ((m 0 24) - 1) ∧ w32 ((m 0 24) - 1) < 16 then R n 24 63 [qr 0, qi x1, qi x2] [vi (m 10 (w32 ((m 0 24) - 1)))] 36 m else none) (fun _ => rfl) (Sim.grd fun _ => Sim.shift 2 (G := fun n => if m 10 (w32 ((m 0 24) - 1)) = x1 then R n 24 67 [qr 0, qi x1, qi x2] [] 36 m else R n 24 83 [qr 0, qi x1, qi x2] [] 36 m) (fun _ => rfl) (Sim.ite (fun _ => Sim.shift 7 (G := fun n => R n 24 80 [qr 0, qi x1, qi (w32 (x2 + 1))] [] 36 (sto m 0 24 (w32 ((m 0 24) - 1)))) (fun _ => rfl) (Sim.shift 1 (G := fun n => R n 24 39 [qr 0, qi x1, qi (w32 (x2 + 1))] [] 36 (sto m 0 24 (w32 ((m 0 24) - 1)))) (fun _ => rfl) (Sim.pur _ _))) (fun _ => Sim.leaf rfl (fun _ => rfl))))) (fun _ => Sim.leaf rfl (fun _ => rfl)))) (fun _ => Sim.leaf rfl (fun _ => rfl)))
def f_step_b146 (m : OMem) : Option (Int × OMem) := some (1, m)
set_option maxRecDepth 65536 in
set_option maxHeartbeats 16000000 in
theorem f_step_b146_ok (m : OMem) : Sim (f_step_b146 m) (fun (r, w0) _ => some (some (vi r), 36, w0)) (fun n => R n 24 146 [qn, qn, qn] [] 36 m) :=
  Sim.shift 2 (G := (fun _ => some (some (vi 1), 36, m))) (fun _ => rfl) (Sim.pur _ _)
def f_step_b83 (x1 : Int) (m : OMem) : Option (Int × OMem) := (f_execute x1 (sto m 0 27 (w32 (x1 + 1)))).bind fun (r_69, m_70) => (if r_69 = 0 then (if m_70 0 27 = m_70 0 22 then (f_step_b146 (sto (sto (sto m_70 0 23 (m_70 0 27)) 0 24 0) 0 20 2)) else (f_step_b146 (sto m_70 0 23 (m_70 0 27)))) else (some (0, sto (sto (sto m_70 0 20 3) 0 21 r_69) 0 23 x1)))
set_option maxRecDepth 65536 in
set_option maxHeartbeats 16000000 in
theorem f_step_b83_ok (x1 : Int) (m : OMem) : Sim (f_step_b83 x1 m) (fun (r, w0) _ => some (some (vi r), 36, w0)) (fun n => R n 24 83 [qr 0, qi x1, qn] [] 36 m) :=
  Sim.shift 8 (G := fun n => (R n 25 0 [qr 0, qi x1, qn] [] 36 (sto m 0 27 (w32 (x1 + 1)))).bind fun y => Rr n 24 95 [qr 0, qi x1, qn] [] y) (fun _ => rfl) (Sim.call (f_execute_ok x1 (sto m 0 27 (w32 (x1 + 1)))) (fun _ _ => rfl) (runP_mono _ _ _ _ _ _) (fun _ => runP_mono _ _ _ _ _ _) (fun ⟨r_69, m_70⟩ => Sim.shift 0 (G := fun n => R n 24 95 [qr 0, qi x1, qn] [vi r_69] 36 m_70) (fun _ => rfl) (Sim.shift 3 (G := fun n => if r_69 = 0 then R n 24 117 [qr 0, qi x1, qi r_69] [] 36 m_70 else R n 24 100 [qr 0, qi x1, qi r_69] [] 36 m_70) (fun _ => rfl) (Sim.ite (fun _ => Sim.shift 9 (G := fun n => if m_70 0 27 = m_70 0 22 then R n 24 136 [qr 0, qn, qn] [] 36 (sto m_70 0 23 (m_70 0 27)) else R n 24 146 [qr 0, qn, qn] [] 36 (sto m_70 0 23 (m_70 0 27))) (fun _ => rfl) (Sim.ite (fun _ => Sim.shift 6 (G := fun n => R n 24 146 [qr 0, qn, qn] [] 36 (sto (sto (sto m_70 0 23 (m_70 0 27)) 0 24 0) 0 20 2)) (fun _ => rfl) (Sim.jmp (f_step_b146_ok (sto (sto (sto m_70 0 23 (m_70 0 27)) 0 24 0) 0 20 2)) rfl (fun _ => rfl))) (fun _ => Sim.jmp (f_step_b146_ok (sto m_70 0 23 (m_70 0 27))) rfl (fun _ => rfl)))) (fun _ => Sim.shift 11 (G := (fun _ => some (some (vi 0), 36, sto (sto (sto m_70 0 20 3) 0 21 r_69) 0 23 x1))) (fun _ => rfl) (Sim.pur _ _))))))
def f_step (m : OMem) : Option (Int × OMem) := if m 0 23 < 0 then (f_step_b17 m) else (if m 0 23 < m 0 22 then ((lp (f_step_l39 (m 0 23)) NN (0, m)).bind fun m_30 => (f_step_b83 (m 0 23) m_30)) else (f_step_b17 m))
set_option maxRecDepth 65536 in
set_option maxHeartbeats 16000000 in
theorem f_step_ok (m : OMem) : Sim (f_step m) (fun (r, w0) _ => some (some (vi r), 36, w0)) (fun n => R n 24 0 [qr 0, qn, qn] [] 36 m) :=
  Sim.shift 5 (G := fun n => if m 0 23 < 0 then R n 24 17 [qr 0, qi (m 0 23), qn] [] 36 m else R n 24 9 [qr 0, qi (m 0 23), qn] [] 36 m) (fun _ => rfl) (Sim.ite (fun _ => Sim.jmp (f_step_b17_ok m) rfl (fun _ => rfl)) (fun _ => Sim.shift 4 (G := fun n => if m 0 23 < m 0 22 then R n 24 37 [qr 0, qi (m 0 23), qn] [] 36 m else R n 24 17 [qr 0, qi (m 0 23), qn] [] 36 m) (fun _ => rfl) (Sim.ite (fun _ => Sim.shift 2 (G := fun n => R n 24 39 [qr 0, qi (m 0 23), qi 0] [] 36 m) (fun _ => rfl) (Sim.bind (Sim.lp (fun ⟨x2L, mL⟩ => f_step_l39_ok (m 0 23) x2L mL) NN (0, m)) (fun m_30 => f_step_b83_ok (m 0 23) m_30))) (fun _ => Sim.jmp (f_step_b17_ok m) rfl (fun _ => rfl)))))
def f_run_b23 (m : OMem) : Option (Int × OMem) := some (0, m)
set_option maxRecDepth 65536 in
set_option maxHeartbeats 16000000 in
theorem f_run_b23_ok (m : OMem) : Sim (f_run_b23 m) (fun (r, w0) _ => some (some (vi r), 36, w0)) (fun n => R n 23 23 [qn, qn, qn, qn, qn] [] 36 m) :=
  Sim.shift 2 (G := (fun _ => some (some (vi 0), 36, m))) (fun _ => rfl) (Sim.pur _ _)
def f_run_l81_H (x2 : Int) : Int × Int × OMem → Nat → RT := fun (x3, x4, m) n => R n 23 81 [qr 0, qn, qi x2, qi x3, qi x4] [] 36 m
def f_run_l81_X (x2 : Int) : (Int × OMem) ⊕ (Int × OMem) → Nat → RT := fun e n => match e with | (.inl (y3, w)) => R n 23 95 [qn, qn, qn, qi y3, qn] [] 36 w | (.inr (y3, w)) => R n 23 111 [qn, qn, qn, qi y3, qn] [] 36 w
def f_run_l81 (x2 : Int) : Int × Int × OMem → Option ((Int × Int × OMem) ⊕ ((Int × OMem) ⊕ (Int × OMem))) := fun (x3, x4, m) => if x4 < x2 then (if m 0 20 = 1 then ((f_step m).bind fun (r_71, m_72) => (some (.inl (w32 (x3 + r_71), w32 (x4 + 1), m_72)))) else (some (.inr (.inl (x3, m))))) else (some (.inr (.inr (x3, m))))
set_option maxRecDepth 65536 in
set_option maxHeartbeats 16000000 in
theorem f_run_l81_ok (x2 : Int) (x3 x4 : Int) (m : OMem) : Sim (f_run_l81 x2 (x3, x4, m)) (Sum.elim (f_run_l81_H x2 ) (f_run_l81_X x2 )) (f_run_l81_H x2 (x3, x4, m)) :=
  Sim.shift 3 (G := fun n => if x4 < x2 then R n 23 87 [qr 0, qn, qi x2, qi x3, qi x4] [] 36 m else R n 23 111 [qr 0, qn, qi x2, qi x3, qi x4] [] 36 m) (fun _ => rfl) (Sim.ite (fun _ => Sim.shift 4 (G := fun n => if m 0 20 = 1 then R n 23 98 [qr 0, qn, qi x2, qi x3, qi x4] [] 36 m else R n 23 95 [qr 0, qn, qi x2, qi x3, qi x4] [] 36 m) (fun _ => rfl) (Sim.ite (fun _ => Sim.shift 3 (G := fun n => (R n 24 0 [qr 0, qn, qn] [] 36 m).bind fun y => Rr n 23 103 [qr 0, qn, qi x2, qi x3, qi x4] [vi x3] y) (fun _ => rfl) (Sim.call (f_step_ok m) (fun _ _ => rfl) (runP_mono _ _ _ _ _ _) (fun _ => runP_mono _ _ _ _ _ _) (fun ⟨r_71, m_72⟩ => Sim.shift 0 (G := fun n => R n 23 103 [qr 0, qn, qi x2, qi x3, qi x4] [vi r_71, vi x3] 36 m_72) (fun _ => rfl) (Sim.shift 3 (G := fun n => R n 23 108 [qr 0, qn, qi x2, qi (w32 (x3 + r_71)), qi (w32 (x4 + 1))] [] 36 m_72) (fun _ => rfl) (Sim.shift 1 (G := fun n => R n 23 81 [qr 0, qn, qi x2, qi (w32 (x3 + r_71)), qi (w32 (x4 + 1))] [] 36 m_72) (fun _ => rfl) (Sim.pur _ _)))))) (fun _ => Sim.leaf rfl (fun _ => rfl)))) (fun _ => Sim.leaf rfl (fun _ => rfl)))
def f_run_b111 (x3 : Int) (m : OMem) : Option (Int × OMem) := some (x3, m)
set_option maxRecDepth 65536 in
set_option maxHeartbeats 16000000 in
theorem f_run_b111_ok (x3 : Int) (m : OMem) : Sim (f_run_b111 x3 m) (fun (r, w0) _ => some (some (vi r), 36, w0)) (fun n => R n 23 111 [qn, qn, qn, qi x3, qn] [] 36 m) :=
  Sim.shift 2 (G := (fun _ => some (some (vi x3), 36, m))) (fun _ => rfl) (Sim.pur _ _)
def f_run_b76 (x2 : Int) (m : OMem) : Option (Int × OMem) := (lp (f_run_l81 x2) NN (0, 0, m)).bind fun e => match e with | (.inl (x3_73, m_74)) => (f_run_b111 x3_73 m_74) | (.inr (x3_75, m_76)) => (f_run_b111 x3_75 m_76)
set_option maxRecDepth 65536 in
set_option maxHeartbeats 16000000 in
theorem f_run_b76_ok (x2 : Int) (m : OMem) : Sim (f_run_b76 x2 m) (fun (r, w0) _ => some (some (vi r), 36, w0)) (fun n => R n 23 76 [qr 0, qn, qi x2, qn, qn] [] 36 m) :=
  Sim.shift 4 (G := fun n => R n 23 81 [qr 0, qn, qi x2, qi 0, qi 0] [] 36 m) (fun _ => rfl) (Sim.bind (Sim.lp (fun ⟨x3L, x4L, mL⟩ => f_run_l81_ok x2 x3L x4L mL) NN (0, 0, m)) (fun e => match e with | (.inl (⟨x3_73, m_74⟩)) => Sim.shift 1 (G := fun n => R n 23 111 [qn, qn, qn, qi x3_73, qn] [] 36 m_74) (fun _ => rfl) (f_run_b111_ok x3_73 m_74) | (.inr (⟨x3_75, m_76⟩)) => f_run_b111_ok x3_75 m_76))
def f_run_b39 (s0 : Int) (m : OMem) : Option (Int × OMem) := if m 0 20 = 0 then (if m 0 22 = 0 then (some (0, sto (sto (sto (sto m 0 20 1) 0 23 0) 0 24 0) 0 20 2)) else (f_run_b76 s0 (sto (sto m 0 20 1) 0 23 0))) else (f_run_b76 s0 m)
set_option maxRecDepth 65536 in
set_option maxHeartbeats 16000000 in
theorem f_run_b39_ok (s0 : Int) (m : OMem) : Sim (f_run_b39 s0 m) (fun (r, w0) _ => some (some (vi r), 36, w0)) (fun n => R n 23 39 [qr 0, qn, qn, qn, qn] [vi s0] 36 m) :=
  Sim.shift 4 (G := fun n => if m 0 20 = 0 then R n 23 47 [qr 0, qn, qi s0, qn, qn] [] 36 m else R n 23 76 [qr 0, qn, qi s0, qn, qn] [] 36 m) (fun _ => rfl) (Sim.ite (fun _ => Sim.shift 9 (G := fun n => if m 0 22 = 0 then R n 23 64 [qr 0, qn, qi s0, qn, qn] [] 36 (sto (sto m 0 20 1) 0 23 0) else R n 23 76 [qr 0, qn, qi s0, qn, qn] [] 36 (sto (sto m 0 20 1) 0 23 0)) (fun _ => rfl) (Sim.ite (fun _ => Sim.shift 8 (G := (fun _ => some (some (vi 0), 36, sto (sto (sto (sto m 0 20 1) 0 23 0) 0 24 0) 0 20 2))) (fun _ => rfl) (Sim.pur _ _)) (fun _ => f_run_b76_ok s0 (sto (sto m 0 20 1) 0 23 0)))) (fun _ => f_run_b76_ok s0 m))
def f_run (x1 : Int) (m : OMem) : Option (Int × OMem) := if x1 < 1 then (some (0, m)) else (if m 0 20 = 2 then (f_run_b23 m) else (if m 0 20 = 3 then (f_run_b23 m) else (if 256 < x1 then (f_run_b39 256 m) else (f_run_b39 x1 m))))
set_option maxRecDepth 65536 in
set_option maxHeartbeats 16000000 in
theorem f_run_ok (x1 : Int) (m : OMem) : Sim (f_run x1 m) (fun (r, w0) _ => some (some (vi r), 36, w0)) (fun n => R n 23 0 [qr 0, qi x1, qn, qn, qn] [] 36 m) :=
  Sim.shift 3 (G := fun n => if x1 < 1 then R n 23 5 [qr 0, qi x1, qn, qn, qn] [] 36 m else R n 23 7 [qr 0, qi x1, qn, qn, qn] [] 36 m) (fun _ => rfl) (Sim.ite (fun _ => Sim.shift 2 (G := (fun _ => some (some (vi 0), 36, m))) (fun _ => rfl) (Sim.pur _ _)) (fun _ => Sim.shift 4 (G := fun n => if m 0 20 = 2 then R n 23 23 [qr 0, qi x1, qn, qn, qn] [] 36 m else R n 23 15 [qr 0, qi x1, qn, qn, qn] [] 36 m) (fun _ => rfl) (Sim.ite (fun _ => Sim.jmp (f_run_b23_ok m) rfl (fun _ => rfl)) (fun _ => Sim.shift 4 (G := fun n => if m 0 20 = 3 then R n 23 23 [qr 0, qi x1, qn, qn, qn] [] 36 m else R n 23 25 [qr 0, qi x1, qn, qn, qn] [] 36 m) (fun _ => rfl) (Sim.ite (fun _ => Sim.jmp (f_run_b23_ok m) rfl (fun _ => rfl)) (fun _ => Sim.shift 3 (G := fun n => if 256 < x1 then R n 23 32 [qr 0, qi x1, qn, qn, qn] [] 36 m else R n 23 38 [qr 0, qi x1, qn, qn, qn] [] 36 m) (fun _ => rfl) (Sim.ite (fun _ => Sim.shift 2 (G := fun n => R n 23 39 [qr 0, qn, qn, qn, qn] [vi 256] 36 m) (fun _ => rfl) (f_run_b39_ok 256 m)) (fun _ => Sim.shift 1 (G := fun n => R n 23 39 [qr 0, qi x1, qn, qn, qn] [vi x1] 36 m) (fun _ => rfl) (Sim.jmp (f_run_b39_ok x1 m) rfl (fun _ => rfl))))))))))
def f_outEntry_b12 (m : OMem) : Option (Int) := some 0
set_option maxRecDepth 65536 in
set_option maxHeartbeats 16000000 in
theorem f_outEntry_b12_ok (m : OMem) : Sim (f_outEntry_b12 m) (fun r _ => some (some (vi r), 36, m)) (fun n => R n 30 12 [qn, qn, qn] [] 36 m) :=
  Sim.shift 2 (G := (fun _ => some (some (vi 0), 36, m))) (fun _ => rfl) (Sim.pur _ _)
def f_outEntry (x1 x2 : Int) (m : OMem) : Option (Int) := if x1 < 0 then (f_outEntry_b12 m) else (if x1 < m 0 25 then (if x2 = 0 then (if 0 ≤ x1 ∧ x1 < 32 then (some (m 11 x1)) else none) else (if x2 = 1 then (if 0 ≤ x1 ∧ x1 < 32 then (some (m 12 x1)) else none) else (some 0))) else (f_outEntry_b12 m))
set_option maxRecDepth 65536 in
set_option maxHeartbeats 16000000 in
theorem f_outEntry_ok (x1 x2 : Int) (m : OMem) : Sim (f_outEntry x1 x2 m) (fun r _ => some (some (vi r), 36, m)) (fun n => R n 30 0 [qr 0, qi x1, qi x2] [] 36 m) :=
  Sim.shift 2 (G := fun n => if x1 < 0 then R n 30 12 [qr 0, qi x1, qi x2] [] 36 m else R n 30 4 [qr 0, qi x1, qi x2] [] 36 m) (fun _ => rfl) (Sim.ite (fun _ => Sim.jmp (f_outEntry_b12_ok m) rfl (fun _ => rfl)) (fun _ => Sim.shift 4 (G := fun n => if x1 < m 0 25 then R n 30 14 [qr 0, qi x1, qi x2] [] 36 m else R n 30 12 [qr 0, qi x1, qi x2] [] 36 m) (fun _ => rfl) (Sim.ite (fun _ => Sim.shift 2 (G := fun n => if x2 = 0 then R n 30 18 [qr 0, qi x1, qi x2] [] 36 m else R n 30 25 [qr 0, qi x1, qi x2] [] 36 m) (fun _ => rfl) (Sim.ite (fun _ => Sim.shift 4 (G := fun n => if 0 ≤ x1 ∧ x1 < 32 then R n 30 24 [qr 0, qi x1, qn] [vi (m 11 x1)] 36 m else none) (fun _ => rfl) (Sim.grd fun _ => Sim.shift 1 (G := (fun _ => some (some (vi (m 11 x1)), 36, m))) (fun _ => rfl) (Sim.pur _ _))) (fun _ => Sim.shift 3 (G := fun n => if x2 = 1 then R n 30 30 [qr 0, qi x1, qi x2] [] 36 m else R n 30 37 [qr 0, qi x1, qi x2] [] 36 m) (fun _ => rfl) (Sim.ite (fun _ => Sim.shift 4 (G := fun n => if 0 ≤ x1 ∧ x1 < 32 then R n 30 36 [qr 0, qi x1, qn] [vi (m 12 x1)] 36 m else none) (fun _ => rfl) (Sim.grd fun _ => Sim.shift 1 (G := (fun _ => some (some (vi (m 12 x1)), 36, m))) (fun _ => rfl) (Sim.pur _ _))) (fun _ => Sim.shift 2 (G := (fun _ => some (some (vi 0), 36, m))) (fun _ => rfl) (Sim.pur _ _)))))) (fun _ => Sim.jmp (f_outEntry_b12_ok m) rfl (fun _ => rfl)))))
def f_mem_b12 (m : OMem) : Option (Int) := some 0
set_option maxRecDepth 65536 in
set_option maxHeartbeats 16000000 in
theorem f_mem_b12_ok (m : OMem) : Sim (f_mem_b12 m) (fun r _ => some (some (vi r), 36, m)) (fun n => R n 32 12 [qn, qn] [] 36 m) :=
  Sim.shift 2 (G := (fun _ => some (some (vi 0), 36, m))) (fun _ => rfl) (Sim.pur _ _)
def f_mem (x1 : Int) (m : OMem) : Option (Int) := if x1 < 0 then (f_mem_b12 m) else (if x1 < m 0 19 then (if 0 ≤ x1 ∧ x1 < 32 then (some (m 7 x1)) else none) else (f_mem_b12 m))
set_option maxRecDepth 65536 in
set_option maxHeartbeats 16000000 in
theorem f_mem_ok (x1 : Int) (m : OMem) : Sim (f_mem x1 m) (fun r _ => some (some (vi r), 36, m)) (fun n => R n 32 0 [qr 0, qi x1] [] 36 m) :=
  Sim.shift 2 (G := fun n => if x1 < 0 then R n 32 12 [qr 0, qi x1] [] 36 m else R n 32 4 [qr 0, qi x1] [] 36 m) (fun _ => rfl) (Sim.ite (fun _ => Sim.jmp (f_mem_b12_ok m) rfl (fun _ => rfl)) (fun _ => Sim.shift 4 (G := fun n => if x1 < m 0 19 then R n 32 14 [qr 0, qi x1] [] 36 m else R n 32 12 [qr 0, qi x1] [] 36 m) (fun _ => rfl) (Sim.ite (fun _ => Sim.shift 4 (G := fun n => if 0 ≤ x1 ∧ x1 < 32 then R n 32 20 [qr 0, qi x1] [vi (m 7 x1)] 36 m else none) (fun _ => rfl) (Sim.grd fun _ => Sim.shift 1 (G := (fun _ => some (some (vi (m 7 x1)), 36, m))) (fun _ => rfl) (Sim.pur _ _))) (fun _ => Sim.jmp (f_mem_b12_ok m) rfl (fun _ => rfl)))))
def f_setMem_b21 (m : OMem) : Option (Int × OMem) := some (0, m)
set_option maxRecDepth 65536 in
set_option maxHeartbeats 16000000 in
theorem f_setMem_b21_ok (m : OMem) : Sim (f_setMem_b21 m) (fun (r, w0) _ => some (some (vi r), 36, w0)) (fun n => R n 33 21 [qn, qn, qn, qn] [] 36 m) :=
  Sim.shift 2 (G := (fun _ => some (some (vi 0), 36, m))) (fun _ => rfl) (Sim.pur _ _)
def f_setMem_b32 (m : OMem) : Option (Int × OMem) := some (0, m)
set_option maxRecDepth 65536 in
set_option maxHeartbeats 16000000 in
theorem f_setMem_b32_ok (m : OMem) : Sim (f_setMem_b32 m) (fun (r, w0) _ => some (some (vi r), 36, w0)) (fun n => R n 33 32 [qn, qn, qn, qn] [] 36 m) :=
  Sim.shift 2 (G := (fun _ => some (some (vi 0), 36, m))) (fun _ => rfl) (Sim.pur _ _)
def f_setMem (x1 x2 x3 : Int) (m : OMem) : Option (Int × OMem) := if m 0 20 = 0 then (if x1 < 0 then (f_setMem_b21 m) else (if x1 < m 0 19 then (if x3 < 0 then (f_setMem_b32 m) else (if 3 < x3 then (f_setMem_b32 m) else (if 0 ≤ x1 ∧ x1 < 32 then (if 0 ≤ x1 ∧ x1 < 32 then (some (1, sto (sto m 7 x1 x2) 8 x1 x3)) else none) else none))) else (f_setMem_b21 m))) else (some (0, m))
set_option maxRecDepth 65536 in
set_option maxHeartbeats 16000000 in
theorem f_setMem_ok (x1 x2 x3 : Int) (m : OMem) : Sim (f_setMem x1 x2 x3 m) (fun (r, w0) _ => some (some (vi r), 36, w0)) (fun n => R n 33 0 [qr 0, qi x1, qi x2, qi x3] [] 36 m) :=
  Sim.shift 3 (G := fun n => if m 0 20 = 0 then R n 33 9 [qr 0, qi x1, qi x2, qi x3] [] 36 m else R n 33 7 [qr 0, qi x1, qi x2, qi x3] [] 36 m) (fun _ => rfl) (Sim.ite (fun _ => Sim.shift 2 (G := fun n => if x1 < 0 then R n 33 21 [qr 0, qi x1, qi x2, qi x3] [] 36 m else R n 33 13 [qr 0, qi x1, qi x2, qi x3] [] 36 m) (fun _ => rfl) (Sim.ite (fun _ => Sim.jmp (f_setMem_b21_ok m) rfl (fun _ => rfl)) (fun _ => Sim.shift 4 (G := fun n => if x1 < m 0 19 then R n 33 23 [qr 0, qi x1, qi x2, qi x3] [] 36 m else R n 33 21 [qr 0, qi x1, qi x2, qi x3] [] 36 m) (fun _ => rfl) (Sim.ite (fun _ => Sim.shift 2 (G := fun n => if x3 < 0 then R n 33 32 [qr 0, qi x1, qi x2, qi x3] [] 36 m else R n 33 27 [qr 0, qi x1, qi x2, qi x3] [] 36 m) (fun _ => rfl) (Sim.ite (fun _ => Sim.jmp (f_setMem_b32_ok m) rfl (fun _ => rfl)) (fun _ => Sim.shift 3 (G := fun n => if 3 < x3 then R n 33 32 [qr 0, qi x1, qi x2, qi x3] [] 36 m else R n 33 34 [qr 0, qi x1, qi x2, qi x3] [] 36 m) (fun _ => rfl) (Sim.ite (fun _ => Sim.jmp (f_setMem_b32_ok m) rfl (fun _ => rfl)) (fun _ => Sim.shift 5 (G := fun n => if 0 ≤ x1 ∧ x1 < 32 then R n 33 41 [qr 0, qi x1, qi x2, qi x3] [] 36 (sto m 7 x1 x2) else none) (fun _ => rfl) (Sim.grd fun _ => Sim.shift 5 (G := fun n => if 0 ≤ x1 ∧ x1 < 32 then R n 33 48 [qr 0, qi x1, qi x2, qi x3] [] 36 (sto (sto m 7 x1 x2) 8 x1 x3) else none) (fun _ => rfl) (Sim.grd fun _ => Sim.shift 2 (G := (fun _ => some (some (vi 1), 36, sto (sto m 7 x1 x2) 8 x1 x3))) (fun _ => rfl) (Sim.pur _ _)))))))) (fun _ => Sim.jmp (f_setMem_b21_ok m) rfl (fun _ => rfl)))))) (fun _ => Sim.shift 2 (G := (fun _ => some (some (vi 0), 36, m))) (fun _ => rfl) (Sim.pur _ _)))
def f_auditEntry_b12 (m : OMem) : Option (Int) := some (-1)
set_option maxRecDepth 65536 in
set_option maxHeartbeats 16000000 in
theorem f_auditEntry_b12_ok (m : OMem) : Sim (f_auditEntry_b12 m) (fun r _ => some (some (vi r), 36, m)) (fun n => R n 41 12 [qn, qn, qn] [] 36 m) :=
  Sim.shift 2 (G := (fun _ => some (some (vi (-1)), 36, m))) (fun _ => rfl) (Sim.pur _ _)
def f_auditEntry (x1 x2 : Int) (m : OMem) : Option (Int) := if x1 < 0 then (f_auditEntry_b12 m) else (if x1 < m 0 26 then (if x2 = 0 then (if 0 ≤ x1 ∧ x1 < 16 then (some (m 13 x1)) else none) else (if x2 = 1 then (if 0 ≤ x1 ∧ x1 < 16 then (some (m 14 x1)) else none) else (if x2 = 2 then (if 0 ≤ x1 ∧ x1 < 16 then (some (m 15 x1)) else none) else (some (-1))))) else (f_auditEntry_b12 m))
set_option maxRecDepth 65536 in
set_option maxHeartbeats 16000000 in
theorem f_auditEntry_ok (x1 x2 : Int) (m : OMem) : Sim (f_auditEntry x1 x2 m) (fun r _ => some (some (vi r), 36, m)) (fun n => R n 41 0 [qr 0, qi x1, qi x2] [] 36 m) :=
  Sim.shift 2 (G := fun n => if x1 < 0 then R n 41 12 [qr 0, qi x1, qi x2] [] 36 m else R n 41 4 [qr 0, qi x1, qi x2] [] 36 m) (fun _ => rfl) (Sim.ite (fun _ => Sim.jmp (f_auditEntry_b12_ok m) rfl (fun _ => rfl)) (fun _ => Sim.shift 4 (G := fun n => if x1 < m 0 26 then R n 41 14 [qr 0, qi x1, qi x2] [] 36 m else R n 41 12 [qr 0, qi x1, qi x2] [] 36 m) (fun _ => rfl) (Sim.ite (fun _ => Sim.shift 2 (G := fun n => if x2 = 0 then R n 41 18 [qr 0, qi x1, qi x2] [] 36 m else R n 41 25 [qr 0, qi x1, qi x2] [] 36 m) (fun _ => rfl) (Sim.ite (fun _ => Sim.shift 4 (G := fun n => if 0 ≤ x1 ∧ x1 < 16 then R n 41 24 [qr 0, qi x1, qn] [vi (m 13 x1)] 36 m else none) (fun _ => rfl) (Sim.grd fun _ => Sim.shift 1 (G := (fun _ => some (some (vi (m 13 x1)), 36, m))) (fun _ => rfl) (Sim.pur _ _))) (fun _ => Sim.shift 3 (G := fun n => if x2 = 1 then R n 41 30 [qr 0, qi x1, qi x2] [] 36 m else R n 41 37 [qr 0, qi x1, qi x2] [] 36 m) (fun _ => rfl) (Sim.ite (fun _ => Sim.shift 4 (G := fun n => if 0 ≤ x1 ∧ x1 < 16 then R n 41 36 [qr 0, qi x1, qn] [vi (m 14 x1)] 36 m else none) (fun _ => rfl) (Sim.grd fun _ => Sim.shift 1 (G := (fun _ => some (some (vi (m 14 x1)), 36, m))) (fun _ => rfl) (Sim.pur _ _))) (fun _ => Sim.shift 3 (G := fun n => if x2 = 2 then R n 41 42 [qr 0, qi x1, qi x2] [] 36 m else R n 41 49 [qr 0, qi x1, qi x2] [] 36 m) (fun _ => rfl) (Sim.ite (fun _ => Sim.shift 4 (G := fun n => if 0 ≤ x1 ∧ x1 < 16 then R n 41 48 [qr 0, qi x1, qn] [vi (m 15 x1)] 36 m else none) (fun _ => rfl) (Sim.grd fun _ => Sim.shift 1 (G := (fun _ => some (some (vi (m 15 x1)), 36, m))) (fun _ => rfl) (Sim.pur _ _))) (fun _ => Sim.shift 2 (G := (fun _ => some (some (vi (-1)), 36, m))) (fun _ => rfl) (Sim.pur _ _)))))))) (fun _ => Sim.jmp (f_auditEntry_b12_ok m) rfl (fun _ => rfl)))))
def lcd_0 : Nat → Option (Instr × Nat) := fun pc => cond (Nat.blt pc 532) (cond (Nat.blt pc 253) (cond (Nat.blt pc 113) (cond (Nat.blt pc 53) (cond (Nat.blt pc 28) (cond (Nat.blt pc 15) (cond (Nat.blt pc 8) (cond (Nat.blt pc 4) (cond (Nat.blt pc 3) (cond (Nat.beq pc 0) (some (.new 7, 3)) none) (cond (Nat.beq pc 3) (some (.dup, 1)) none)) (cond (Nat.blt pc 6) (cond (Nat.beq pc 4) (some (.bipush 16, 2)) none) (cond (Nat.beq pc 6) (some (.bipush 8, 2)) none))) (cond (Nat.blt pc 12) (cond (Nat.blt pc 11) (cond (Nat.beq pc 8) (some (.invokespecial 9, 3)) none) (cond (Nat.beq pc 11) (some (.astore_n 1, 1)) none)) (cond (Nat.blt pc 13) (cond (Nat.beq pc 12) (some (.iconst 0, 1)) none) (cond (Nat.blt pc 14) (cond (Nat.beq pc 13) (some (.istore_n 2, 1)) none) (cond (Nat.beq pc 14) (some (.lconst 0, 1)) none))))) (cond (Nat.blt pc 21) (cond (Nat.blt pc 17) (cond (Nat.blt pc 16) (cond (Nat.beq pc 15) (some (.lstore_n 3, 1)) none) (cond (Nat.beq pc 16) (some (.iconst 0, 1)) none)) (cond (Nat.blt pc 19) (cond (Nat.beq pc 17) (some (.istore 5, 2)) none) (cond (Nat.beq pc 19) (some (.iload 5, 2)) none))) (cond (Nat.blt pc 23) (cond (Nat.blt pc 22) (cond (Nat.beq pc 21) (some (.iconst 4, 1)) none) (cond (Nat.beq pc 22) (some (.iadd, 1)) none)) (cond (Nat.blt pc 24) (cond (Nat.beq pc 23) (some (.aload_n 0, 1)) none) (cond (Nat.blt pc 25) (cond (Nat.beq pc 24) (some (.arraylength, 1)) none) (cond (Nat.beq pc 25) (some (.if_icmp .ge 505, 3)) none)))))) (cond (Nat.blt pc 41) (cond (Nat.blt pc 34) (cond (Nat.blt pc 31) (cond (Nat.blt pc 29) (cond (Nat.beq pc 28) (some (.aload_n 0, 1)) none) (cond (Nat.beq pc 29) (some (.iload 5, 2)) none)) (cond (Nat.blt pc 32) (cond (Nat.beq pc 31) (some (.iaload, 1)) none) (cond (Nat.beq pc 32) (some (.bipush 7, 2)) none))) (cond (Nat.blt pc 37) (cond (Nat.blt pc 35) (cond (Nat.beq pc 34) (some (.iand, 1)) none) (cond (Nat.beq pc 35) (some (.istore 6, 2)) none)) (cond (Nat.blt pc 38) (cond (Nat.beq pc 37) (some (.aload_n 0, 1)) none) (cond (Nat.blt pc 40) (cond (Nat.beq pc 38) (some (.iload 5, 2)) none) (cond (Nat.beq pc 40) (some (.iconst 1, 1)) none))))) (cond (Nat.blt pc 46) (cond (Nat.blt pc 43) (cond (Nat.blt pc 42) (cond (Nat.beq pc 41) (some (.iadd, 1)) none) (cond (Nat.beq pc 42) (some (.iaload, 1)) none)) (cond (Nat.blt pc 45) (cond (Nat.beq pc 43) (some (.istore 7, 2)) none) (cond (Nat.beq pc 45) (some (.aload_n 0, 1)) none))) (cond (Nat.blt pc 49) (cond (Nat.blt pc 48) (cond (Nat.beq pc 46) (some (.iload 5, 2)) none) (cond (Nat.beq pc 48) (some (.iconst 2, 1)) none)) (cond (Nat.blt pc 50) (cond (Nat.beq pc 49) (some (.iadd, 1)) none) (cond (Nat.blt pc 51) (cond (Nat.beq pc 50) (some (.iaload, 1)) none) (cond (Nat.beq pc 51) (some (.istore 8, 2)) none))))))) (cond (Nat.blt pc 81) (cond (Nat.blt pc 65) (cond (Nat.blt pc 58) (cond (Nat.blt pc 56) (cond (Nat.blt pc 54) (cond (Nat.beq pc 53) (some (.aload_n 0, 1)) none) (cond (Nat.beq pc 54) (some (.iload 5, 2)) none)) (cond (Nat.blt pc 57) (cond (Nat.beq pc 56) (some (.iconst 3, 1)) none) (cond (Nat.beq pc 57) (some (.iadd, 1)) none))) (cond (Nat.blt pc 61) (cond (Nat.blt pc 59) (cond (Nat.beq pc 58) (some (.iaload, 1)) none) (cond (Nat.beq pc 59) (some (.istore 9, 2)) none)) (cond (Nat.blt pc 62) (cond (Nat.beq pc 61) (some (.aload_n 0, 1)) none) (cond (Nat.blt pc 64) (cond (Nat.beq pc 62) (some (.iload 5, 2)) none) (cond (Nat.beq pc 64) (some (.iconst 4, 1)) none))))) (cond (Nat.blt pc 70) (cond (Nat.blt pc 67) (cond (Nat.blt pc 66) (cond (Nat.beq pc 65) (some (.iadd, 1)) none) (cond (Nat.beq pc 66) (some (.iaload, 1)) none)) (cond (Nat.blt pc 69) (cond (Nat.beq pc 67) (some (.istore 10, 2)) none) (cond (Nat.beq pc 69) (some (.aload_n 1, 1)) none))) (cond (Nat.blt pc 75) (cond (Nat.blt pc 73) (cond (Nat.beq pc 70) (some (.invokevirtual 12, 3)) none) (cond (Nat.beq pc 73) (some (.istore 11, 2)) none)) (cond (Nat.blt pc 77) (cond (Nat.beq pc 75) (some (.iload 11, 2)) none) (cond (Nat.blt pc 80) (cond (Nat.beq pc 77) (some (.ifCond .ne 7, 3)) none) (cond (Nat.beq pc 80) (some (.iconst 1, 1)) none)))))) (cond (Nat.blt pc 98) (cond (Nat.blt pc 89) (cond (Nat.blt pc 85) (cond (Nat.blt pc 84) (cond (Nat.beq pc 81) (some (.goto 4, 3)) none) (cond (Nat.beq pc 84) (some (.iconst 0, 1)) none)) (cond (Nat.blt pc 87) (cond (Nat.beq pc 85) (some (.istore 12, 2)) none) (cond (Nat.beq pc 87) (some (.iload 6, 2)) none))) (cond (Nat.blt pc 93) (cond (Nat.blt pc 90) (cond (Nat.beq pc 89) (some (.iconst 5, 1)) none) (cond (Nat.beq pc 90) (some (.if_icmp .ge 73, 3)) none)) (cond (Nat.blt pc 95) (cond (Nat.beq pc 93) (some (.iload 7, 2)) none) (cond (Nat.blt pc 97) (cond (Nat.beq pc 95) (some (.bipush 15, 2)) none) (cond (Nat.beq pc 97) (some (.iand, 1)) none))))) (cond (Nat.blt pc 105) (cond (Nat.blt pc 101) (cond (Nat.blt pc 100) (cond (Nat.beq pc 98) (some (.istore 13, 2)) none) (cond (Nat.beq pc 100) (some (.aload_n 1, 1)) none)) (cond (Nat.blt pc 103) (cond (Nat.beq pc 101) (some (.iload 13, 2)) none) (cond (Nat.beq pc 103) (some (.iload 8, 2)) none))) (cond (Nat.blt pc 108) (cond (Nat.blt pc 107) (cond (Nat.beq pc 105) (some (.bipush 7, 2)) none) (cond (Nat.beq pc 107) (some (.iand, 1)) none)) (cond (Nat.blt pc 110) (cond (Nat.beq pc 108) (some (.iload 9, 2)) none) (cond (Nat.blt pc 112) (cond (Nat.beq pc 110) (some (.bipush 15, 2)) none) (cond (Nat.beq pc 112) (some (.iand, 1)) none)))))))) (cond (Nat.blt pc 183) (cond (Nat.blt pc 150) (cond (Nat.blt pc 130) (cond (Nat.blt pc 120) (cond (Nat.blt pc 116) (cond (Nat.blt pc 115) (cond (Nat.beq pc 113) (some (.iload 10, 2)) none) (cond (Nat.beq pc 115) (some (.iconst 3, 1)) none)) (cond (Nat.blt pc 117) (cond (Nat.beq pc 116) (some (.iand, 1)) none) (cond (Nat.beq pc 117) (some (.invokevirtual 16, 3)) none))) (cond (Nat.blt pc 124) (cond (Nat.blt pc 122) (cond (Nat.beq pc 120) (some (.istore 14, 2)) none) (cond (Nat.beq pc 122) (some (.iload 14, 2)) none)) (cond (Nat.blt pc 126) (cond (Nat.beq pc 124) (some (.iload 12, 2)) none) (cond (Nat.blt pc 129) (cond (Nat.beq pc 126) (some (.ifCond .eq 20, 3)) none) (cond (Nat.beq pc 129) (some (.iload_n 2, 1)) none))))) (cond (Nat.blt pc 139) (cond (Nat.blt pc 135) (cond (Nat.blt pc 132) (cond (Nat.beq pc 130) (some (.bipush 16, 2)) none) (cond (Nat.beq pc 132) (some (.if_icmp .ge 14, 3)) none)) (cond (Nat.blt pc 137) (cond (Nat.beq pc 135) (some (.iload 13, 2)) none) (cond (Nat.beq pc 137) (some (.bipush 15, 2)) none))) (cond (Nat.blt pc 143) (cond (Nat.blt pc 142) (cond (Nat.beq pc 139) (some (.if_icmp .ge 7, 3)) none) (cond (Nat.beq pc 142) (some (.iconst 1, 1)) none)) (cond (Nat.blt pc 146) (cond (Nat.beq pc 143) (some (.goto 4, 3)) none) (cond (Nat.blt pc 147) (cond (Nat.beq pc 146) (some (.iconst 0, 1)) none) (cond (Nat.beq pc 147) (some (.if_icmp .eq 5, 3)) none)))))) (cond (Nat.blt pc 169) (cond (Nat.blt pc 157) (cond (Nat.blt pc 152) (cond (Nat.blt pc 151) (cond (Nat.beq pc 150) (some (.iconst 0, 1)) none) (cond (Nat.beq pc 151) (some (.ireturn, 1)) none)) (cond (Nat.blt pc 154) (cond (Nat.beq pc 152) (some (.iload 14, 2)) none) (cond (Nat.beq pc 154) (some (.ifCond .eq 6, 3)) none))) (cond (Nat.blt pc 163) (cond (Nat.blt pc 160) (cond (Nat.beq pc 157) (some (.iinc 2 1, 3)) none) (cond (Nat.beq pc 160) (some (.goto 353, 3)) none)) (cond (Nat.blt pc 165) (cond (Nat.beq pc 163) (some (.iload 6, 2)) none) (cond (Nat.blt pc 166) (cond (Nat.beq pc 165) (some (.iconst 5, 1)) none) (cond (Nat.beq pc 166) (some (.if_icmp .ne 151, 3)) none))))) (cond (Nat.blt pc 176) (cond (Nat.blt pc 173) (cond (Nat.blt pc 171) (cond (Nat.beq pc 169) (some (.iload 7, 2)) none) (cond (Nat.beq pc 171) (some (.ldc 20, 2)) none)) (cond (Nat.blt pc 174) (cond (Nat.beq pc 173) (some (.iand, 1)) none) (cond (Nat.beq pc 174) (some (.bipush 10, 2)) none))) (cond (Nat.blt pc 178) (cond (Nat.blt pc 177) (cond (Nat.beq pc 176) (some (.irem, 1)) none) (cond (Nat.beq pc 177) (some (.iconst 1, 1)) none)) (cond (Nat.blt pc 179) (cond (Nat.beq pc 178) (some (.isub, 1)) none) (cond (Nat.blt pc 181) (cond (Nat.beq pc 179) (some (.istore 13, 2)) none) (cond (Nat.beq pc 181) (some (.iload 9, 2)) none))))))) (cond (Nat.blt pc 214) (cond (Nat.blt pc 198) (cond (Nat.blt pc 188) (cond (Nat.blt pc 186) (cond (Nat.blt pc 185) (cond (Nat.beq pc 183) (some (.ldc 20, 2)) none) (cond (Nat.beq pc 185) (some (.iand, 1)) none)) (cond (Nat.blt pc 187) (cond (Nat.beq pc 186) (some (.iconst 5, 1)) none) (cond (Nat.beq pc 187) (some (.irem, 1)) none))) (cond (Nat.blt pc 191) (cond (Nat.blt pc 190) (cond (Nat.beq pc 188) (some (.istore 14, 2)) none) (cond (Nat.beq pc 190) (some (.aload_n 1, 1)) none)) (cond (Nat.blt pc 193) (cond (Nat.beq pc 191) (some (.iload 13, 2)) none) (cond (Nat.blt pc 196) (cond (Nat.beq pc 193) (some (.invokevirtual 21, 3)) none) (cond (Nat.beq pc 196) (some (.istore 15, 2)) none))))) (cond (Nat.blt pc 205) (cond (Nat.blt pc 200) (cond (Nat.blt pc 199) (cond (Nat.beq pc 198) (some (.aload_n 1, 1)) none) (cond (Nat.beq pc 199) (some (.iconst 1, 1)) none)) (cond (Nat.blt pc 202) (cond (Nat.beq pc 200) (some (.iload 13, 2)) none) (cond (Nat.beq pc 202) (some (.invokevirtual 25, 3)) none))) (cond (Nat.blt pc 208) (cond (Nat.blt pc 207) (cond (Nat.beq pc 205) (some (.istore 16, 2)) none) (cond (Nat.beq pc 207) (some (.aload_n 1, 1)) none)) (cond (Nat.blt pc 210) (cond (Nat.beq pc 208) (some (.iload 13, 2)) none) (cond (Nat.blt pc 212) (cond (Nat.beq pc 210) (some (.iload 8, 2)) none) (cond (Nat.beq pc 212) (some (.iload 14, 2)) none)))))) (cond (Nat.blt pc 235) (cond (Nat.blt pc 223) (cond (Nat.blt pc 219) (cond (Nat.blt pc 217) (cond (Nat.beq pc 214) (some (.invokevirtual 29, 3)) none) (cond (Nat.beq pc 217) (some (.istore 17, 2)) none)) (cond (Nat.blt pc 221) (cond (Nat.beq pc 219) (some (.iload 17, 2)) none) (cond (Nat.beq pc 221) (some (.iload 12, 2)) none))) (cond (Nat.blt pc 228) (cond (Nat.blt pc 226) (cond (Nat.beq pc 223) (some (.ifCond .eq 25, 3)) none) (cond (Nat.beq pc 226) (some (.iload 13, 2)) none)) (cond (Nat.blt pc 231) (cond (Nat.beq pc 228) (some (.ifCond .lt 20, 3)) none) (cond (Nat.blt pc 233) (cond (Nat.beq pc 231) (some (.iload 13, 2)) none) (cond (Nat.beq pc 233) (some (.bipush 8, 2)) none))))) (cond (Nat.blt pc 244) (cond (Nat.blt pc 240) (cond (Nat.blt pc 238) (cond (Nat.beq pc 235) (some (.if_icmp .ge 13, 3)) none) (cond (Nat.beq pc 238) (some (.iload 14, 2)) none)) (cond (Nat.blt pc 241) (cond (Nat.beq pc 240) (some (.iconst 3, 1)) none) (cond (Nat.beq pc 241) (some (.if_icmp .gt 7, 3)) none))) (cond (Nat.blt pc 248) (cond (Nat.blt pc 245) (cond (Nat.beq pc 244) (some (.iconst 1, 1)) none) (cond (Nat.beq pc 245) (some (.goto 4, 3)) none)) (cond (Nat.blt pc 249) (cond (Nat.beq pc 248) (some (.iconst 0, 1)) none) (cond (Nat.blt pc 252) (cond (Nat.beq pc 249) (some (.if_icmp .eq 5, 3)) none) (cond (Nat.beq pc 252) (some (.iconst 0, 1)) none))))))))) (cond (Nat.blt pc 390) (cond (Nat.blt pc 324) (cond (Nat.blt pc 289) (cond (Nat.blt pc 271) (cond (Nat.blt pc 260) (cond (Nat.blt pc 256) (cond (Nat.blt pc 254) (cond (Nat.beq pc 253) (some (.ireturn, 1)) none) (cond (Nat.beq pc 254) (some (.iload 17, 2)) none)) (cond (Nat.blt pc 259) (cond (Nat.beq pc 256) (some (.ifCond .eq 28, 3)) none) (cond (Nat.beq pc 259) (some (.aload_n 1, 1)) none))) (cond (Nat.blt pc 265) (cond (Nat.blt pc 262) (cond (Nat.beq pc 260) (some (.iload 13, 2)) none) (cond (Nat.beq pc 262) (some (.invokevirtual 21, 3)) none)) (cond (Nat.blt pc 267) (cond (Nat.beq pc 265) (some (.iload 8, 2)) none) (cond (Nat.blt pc 270) (cond (Nat.beq pc 267) (some (.if_icmp .ne 15, 3)) none) (cond (Nat.beq pc 270) (some (.aload_n 1, 1)) none))))) (cond (Nat.blt pc 279) (cond (Nat.blt pc 274) (cond (Nat.blt pc 272) (cond (Nat.beq pc 271) (some (.iconst 1, 1)) none) (cond (Nat.beq pc 272) (some (.iload 13, 2)) none)) (cond (Nat.blt pc 277) (cond (Nat.beq pc 274) (some (.invokevirtual 25, 3)) none) (cond (Nat.beq pc 277) (some (.iload 14, 2)) none))) (cond (Nat.blt pc 283) (cond (Nat.blt pc 282) (cond (Nat.beq pc 279) (some (.if_icmp .eq 5, 3)) none) (cond (Nat.beq pc 282) (some (.iconst 0, 1)) none)) (cond (Nat.blt pc 284) (cond (Nat.beq pc 283) (some (.ireturn, 1)) none) (cond (Nat.blt pc 286) (cond (Nat.beq pc 284) (some (.iload 17, 2)) none) (cond (Nat.beq pc 286) (some (.ifCond .ne 28, 3)) none)))))) (cond (Nat.blt pc 307) (cond (Nat.blt pc 297) (cond (Nat.blt pc 292) (cond (Nat.blt pc 290) (cond (Nat.beq pc 289) (some (.aload_n 1, 1)) none) (cond (Nat.beq pc 290) (some (.iload 13, 2)) none)) (cond (Nat.blt pc 295) (cond (Nat.beq pc 292) (some (.invokevirtual 21, 3)) none) (cond (Nat.beq pc 295) (some (.iload 15, 2)) none))) (cond (Nat.blt pc 301) (cond (Nat.blt pc 300) (cond (Nat.beq pc 297) (some (.if_icmp .ne 15, 3)) none) (cond (Nat.beq pc 300) (some (.aload_n 1, 1)) none)) (cond (Nat.blt pc 302) (cond (Nat.beq pc 301) (some (.iconst 1, 1)) none) (cond (Nat.blt pc 304) (cond (Nat.beq pc 302) (some (.iload 13, 2)) none) (cond (Nat.beq pc 304) (some (.invokevirtual 25, 3)) none))))) (cond (Nat.blt pc 314) (cond (Nat.blt pc 312) (cond (Nat.blt pc 309) (cond (Nat.beq pc 307) (some (.iload 16, 2)) none) (cond (Nat.beq pc 309) (some (.if_icmp .eq 5, 3)) none)) (cond (Nat.blt pc 313) (cond (Nat.beq pc 312) (some (.iconst 0, 1)) none) (cond (Nat.beq pc 313) (some (.ireturn, 1)) none))) (cond (Nat.blt pc 319) (cond (Nat.blt pc 317) (cond (Nat.beq pc 314) (some (.goto 199, 3)) none) (cond (Nat.beq pc 317) (some (.iload 7, 2)) none)) (cond (Nat.blt pc 321) (cond (Nat.beq pc 319) (some (.ldc 20, 2)) none) (cond (Nat.blt pc 322) (cond (Nat.beq pc 321) (some (.iand, 1)) none) (cond (Nat.beq pc 322) (some (.bipush 40, 2)) none))))))) (cond (Nat.blt pc 356) (cond (Nat.blt pc 339) (cond (Nat.blt pc 329) (cond (Nat.blt pc 326) (cond (Nat.blt pc 325) (cond (Nat.beq pc 324) (some (.irem, 1)) none) (cond (Nat.beq pc 325) (some (.iconst 1, 1)) none)) (cond (Nat.blt pc 327) (cond (Nat.beq pc 326) (some (.isub, 1)) none) (cond (Nat.beq pc 327) (some (.istore 13, 2)) none))) (cond (Nat.blt pc 333) (cond (Nat.blt pc 330) (cond (Nat.beq pc 329) (some (.aload_n 1, 1)) none) (cond (Nat.beq pc 330) (some (.invokevirtual 33, 3)) none)) (cond (Nat.blt pc 335) (cond (Nat.beq pc 333) (some (.istore 14, 2)) none) (cond (Nat.blt pc 336) (cond (Nat.beq pc 335) (some (.aload_n 1, 1)) none) (cond (Nat.beq pc 336) (some (.invokevirtual 36, 3)) none))))) (cond (Nat.blt pc 347) (cond (Nat.blt pc 342) (cond (Nat.blt pc 341) (cond (Nat.beq pc 339) (some (.istore 15, 2)) none) (cond (Nat.beq pc 341) (some (.aload_n 1, 1)) none)) (cond (Nat.blt pc 345) (cond (Nat.beq pc 342) (some (.invokevirtual 39, 3)) none) (cond (Nat.beq pc 345) (some (.istore 16, 2)) none))) (cond (Nat.blt pc 350) (cond (Nat.blt pc 348) (cond (Nat.beq pc 347) (some (.aload_n 1, 1)) none) (cond (Nat.beq pc 348) (some (.iload 13, 2)) none)) (cond (Nat.blt pc 353) (cond (Nat.beq pc 350) (some (.invokevirtual 42, 3)) none) (cond (Nat.blt pc 355) (cond (Nat.beq pc 353) (some (.istore 17, 2)) none) (cond (Nat.beq pc 355) (some (.aload_n 1, 1)) none)))))) (cond (Nat.blt pc 373) (cond (Nat.blt pc 365) (cond (Nat.blt pc 361) (cond (Nat.blt pc 359) (cond (Nat.beq pc 356) (some (.invokevirtual 12, 3)) none) (cond (Nat.beq pc 359) (some (.istore 18, 2)) none)) (cond (Nat.blt pc 362) (cond (Nat.beq pc 361) (some (.aload_n 1, 1)) none) (cond (Nat.beq pc 362) (some (.invokevirtual 36, 3)) none))) (cond (Nat.blt pc 368) (cond (Nat.blt pc 367) (cond (Nat.beq pc 365) (some (.iload 15, 2)) none) (cond (Nat.beq pc 367) (some (.isub, 1)) none)) (cond (Nat.blt pc 369) (cond (Nat.beq pc 368) (some (.aload_n 1, 1)) none) (cond (Nat.blt pc 372) (cond (Nat.beq pc 369) (some (.invokevirtual 39, 3)) none) (cond (Nat.beq pc 372) (some (.iadd, 1)) none))))) (cond (Nat.blt pc 380) (cond (Nat.blt pc 376) (cond (Nat.blt pc 375) (cond (Nat.beq pc 373) (some (.iload 16, 2)) none) (cond (Nat.beq pc 375) (some (.isub, 1)) none)) (cond (Nat.blt pc 378) (cond (Nat.beq pc 376) (some (.istore 19, 2)) none) (cond (Nat.beq pc 378) (some (.iload 13, 2)) none))) (cond (Nat.blt pc 384) (cond (Nat.blt pc 381) (cond (Nat.beq pc 380) (some (.iconst 1, 1)) none) (cond (Nat.beq pc 381) (some (.if_icmp .lt 15, 3)) none)) (cond (Nat.blt pc 386) (cond (Nat.beq pc 384) (some (.iload 11, 2)) none) (cond (Nat.blt pc 387) (cond (Nat.beq pc 386) (some (.iconst 2, 1)) none) (cond (Nat.beq pc 387) (some (.if_icmp .eq 9, 3)) none)))))))) (cond (Nat.blt pc 465) (cond (Nat.blt pc 429) (cond (Nat.blt pc 409) (cond (Nat.blt pc 398) (cond (Nat.blt pc 393) (cond (Nat.blt pc 392) (cond (Nat.beq pc 390) (some (.iload 11, 2)) none) (cond (Nat.beq pc 392) (some (.iconst 3, 1)) none)) (cond (Nat.blt pc 396) (cond (Nat.beq pc 393) (some (.if_icmp .ne 31, 3)) none) (cond (Nat.beq pc 396) (some (.iload 17, 2)) none))) (cond (Nat.blt pc 403) (cond (Nat.blt pc 401) (cond (Nat.beq pc 398) (some (.ifCond .ne 24, 3)) none) (cond (Nat.beq pc 401) (some (.iload 18, 2)) none)) (cond (Nat.blt pc 405) (cond (Nat.beq pc 403) (some (.iload 11, 2)) none) (cond (Nat.blt pc 408) (cond (Nat.beq pc 405) (some (.if_icmp .ne 17, 3)) none) (cond (Nat.beq pc 408) (some (.aload_n 1, 1)) none))))) (cond (Nat.blt pc 419) (cond (Nat.blt pc 414) (cond (Nat.blt pc 412) (cond (Nat.beq pc 409) (some (.invokevirtual 33, 3)) none) (cond (Nat.beq pc 412) (some (.iload 14, 2)) none)) (cond (Nat.blt pc 417) (cond (Nat.beq pc 414) (some (.if_icmp .ne 8, 3)) none) (cond (Nat.beq pc 417) (some (.iload 19, 2)) none))) (cond (Nat.blt pc 423) (cond (Nat.blt pc 422) (cond (Nat.beq pc 419) (some (.ifCond .eq 88, 3)) none) (cond (Nat.beq pc 422) (some (.iconst 0, 1)) none)) (cond (Nat.blt pc 424) (cond (Nat.beq pc 423) (some (.ireturn, 1)) none) (cond (Nat.blt pc 426) (cond (Nat.beq pc 424) (some (.iload 17, 2)) none) (cond (Nat.beq pc 426) (some (.ifCond .lt 15, 3)) none)))))) (cond (Nat.blt pc 448) (cond (Nat.blt pc 438) (cond (Nat.blt pc 433) (cond (Nat.blt pc 431) (cond (Nat.beq pc 429) (some (.iload 17, 2)) none) (cond (Nat.beq pc 431) (some (.iload 13, 2)) none)) (cond (Nat.blt pc 436) (cond (Nat.beq pc 433) (some (.if_icmp .gt 8, 3)) none) (cond (Nat.beq pc 436) (some (.iload 18, 2)) none))) (cond (Nat.blt pc 442) (cond (Nat.blt pc 441) (cond (Nat.beq pc 438) (some (.ifCond .ne 5, 3)) none) (cond (Nat.beq pc 441) (some (.iconst 0, 1)) none)) (cond (Nat.blt pc 443) (cond (Nat.beq pc 442) (some (.ireturn, 1)) none) (cond (Nat.blt pc 445) (cond (Nat.beq pc 443) (some (.iload 12, 2)) none) (cond (Nat.beq pc 445) (some (.ifCond .eq 20, 3)) none))))) (cond (Nat.blt pc 455) (cond (Nat.blt pc 452) (cond (Nat.blt pc 449) (cond (Nat.beq pc 448) (some (.iload_n 2, 1)) none) (cond (Nat.beq pc 449) (some (.ifCond .ne 16, 3)) none)) (cond (Nat.blt pc 454) (cond (Nat.beq pc 452) (some (.iload 18, 2)) none) (cond (Nat.beq pc 454) (some (.iconst 2, 1)) none))) (cond (Nat.blt pc 460) (cond (Nat.blt pc 458) (cond (Nat.beq pc 455) (some (.if_icmp .ne 8, 3)) none) (cond (Nat.beq pc 458) (some (.iload 17, 2)) none)) (cond (Nat.blt pc 463) (cond (Nat.beq pc 460) (some (.ifCond .eq 5, 3)) none) (cond (Nat.blt pc 464) (cond (Nat.beq pc 463) (some (.iconst 0, 1)) none) (cond (Nat.beq pc 464) (some (.ireturn, 1)) none))))))) (cond (Nat.blt pc 502) (cond (Nat.blt pc 481) (cond (Nat.blt pc 473) (cond (Nat.blt pc 468) (cond (Nat.blt pc 467) (cond (Nat.beq pc 465) (some (.iload 18, 2)) none) (cond (Nat.beq pc 467) (some (.iconst 1, 1)) none)) (cond (Nat.blt pc 471) (cond (Nat.beq pc 468) (some (.if_icmp .ne 12, 3)) none) (cond (Nat.beq pc 471) (some (.iload 17, 2)) none))) (cond (Nat.blt pc 478) (cond (Nat.blt pc 475) (cond (Nat.beq pc 473) (some (.iload 13, 2)) none) (cond (Nat.beq pc 475) (some (.if_icmp .eq 5, 3)) none)) (cond (Nat.blt pc 479) (cond (Nat.beq pc 478) (some (.iconst 0, 1)) none) (cond (Nat.blt pc 480) (cond (Nat.beq pc 479) (some (.ireturn, 1)) none) (cond (Nat.beq pc 480) (some (.aload_n 1, 1)) none))))) (cond (Nat.blt pc 490) (cond (Nat.blt pc 486) (cond (Nat.blt pc 484) (cond (Nat.beq pc 481) (some (.invokevirtual 36, 3)) none) (cond (Nat.beq pc 484) (some (.iload 15, 2)) none)) (cond (Nat.blt pc 489) (cond (Nat.beq pc 486) (some (.if_icmp .lt 19, 3)) none) (cond (Nat.beq pc 489) (some (.aload_n 1, 1)) none))) (cond (Nat.blt pc 495) (cond (Nat.blt pc 493) (cond (Nat.beq pc 490) (some (.invokevirtual 39, 3)) none) (cond (Nat.beq pc 493) (some (.iload 16, 2)) none)) (cond (Nat.blt pc 498) (cond (Nat.beq pc 495) (some (.if_icmp .lt 10, 3)) none) (cond (Nat.blt pc 500) (cond (Nat.beq pc 498) (some (.iload 19, 2)) none) (cond (Nat.beq pc 500) (some (.iload 17, 2)) none)))))) (cond (Nat.blt pc 514) (cond (Nat.blt pc 508) (cond (Nat.blt pc 506) (cond (Nat.blt pc 505) (cond (Nat.beq pc 502) (some (.if_icmp .le 5, 3)) none) (cond (Nat.beq pc 505) (some (.iconst 0, 1)) none)) (cond (Nat.blt pc 507) (cond (Nat.beq pc 506) (some (.ireturn, 1)) none) (cond (Nat.beq pc 507) (some (.lload_n 3, 1)) none))) (cond (Nat.blt pc 511) (cond (Nat.blt pc 510) (cond (Nat.beq pc 508) (some (.iload 17, 2)) none) (cond (Nat.beq pc 510) (some (.i2l, 1)) none)) (cond (Nat.blt pc 512) (cond (Nat.beq pc 511) (some (.ladd, 1)) none) (cond (Nat.blt pc 513) (cond (Nat.beq pc 512) (some (.lstore_n 3, 1)) none) (cond (Nat.beq pc 513) (some (.aload_n 1, 1)) none))))) (cond (Nat.blt pc 523) (cond (Nat.blt pc 516) (cond (Nat.blt pc 515) (cond (Nat.beq pc 514) (some (.iload_n 2, 1)) none) (cond (Nat.beq pc 515) (some (.lload_n 3, 1)) none)) (cond (Nat.blt pc 519) (cond (Nat.beq pc 516) (some (.invokestatic 45, 3)) none) (cond (Nat.blt pc 522) (cond (Nat.beq pc 519) (some (.ifCond .ne 5, 3)) none) (cond (Nat.beq pc 522) (some (.iconst 0, 1)) none)))) (cond (Nat.blt pc 527) (cond (Nat.blt pc 524) (cond (Nat.beq pc 523) (some (.ireturn, 1)) none) (cond (Nat.beq pc 524) (some (.iinc 5 5, 3)) none)) (cond (Nat.blt pc 530) (cond (Nat.beq pc 527) (some (.goto (-508), 3)) none) (cond (Nat.blt pc 531) (cond (Nat.beq pc 530) (some (.iconst 1, 1)) none) (cond (Nat.beq pc 531) (some (.ireturn, 1)) none)))))))))) none
def lcd_1 : Nat → Option (Instr × Nat) := fun pc => cond (Nat.blt pc 489) (cond (Nat.blt pc 249) (cond (Nat.blt pc 129) (cond (Nat.blt pc 64) (cond (Nat.blt pc 30) (cond (Nat.blt pc 13) (cond (Nat.blt pc 6) (cond (Nat.blt pc 1) (cond (Nat.beq pc 0) (some (.aload_n 0, 1)) none) (cond (Nat.blt pc 4) (cond (Nat.beq pc 1) (some (.invokevirtual 12, 3)) none) (cond (Nat.beq pc 4) (some (.istore 4, 2)) none))) (cond (Nat.blt pc 10) (cond (Nat.blt pc 7) (cond (Nat.beq pc 6) (some (.aload_n 0, 1)) none) (cond (Nat.beq pc 7) (some (.invokevirtual 51, 3)) none)) (cond (Nat.blt pc 12) (cond (Nat.beq pc 10) (some (.istore 5, 2)) none) (cond (Nat.beq pc 12) (some (.aload_n 0, 1)) none)))) (cond (Nat.blt pc 22) (cond (Nat.blt pc 18) (cond (Nat.blt pc 16) (cond (Nat.beq pc 13) (some (.invokevirtual 33, 3)) none) (cond (Nat.beq pc 16) (some (.istore 6, 2)) none)) (cond (Nat.blt pc 19) (cond (Nat.beq pc 18) (some (.aload_n 0, 1)) none) (cond (Nat.beq pc 19) (some (.invokevirtual 54, 3)) none))) (cond (Nat.blt pc 25) (cond (Nat.blt pc 24) (cond (Nat.beq pc 22) (some (.istore 7, 2)) none) (cond (Nat.beq pc 24) (some (.aload_n 0, 1)) none)) (cond (Nat.blt pc 28) (cond (Nat.beq pc 25) (some (.invokevirtual 57, 3)) none) (cond (Nat.beq pc 28) (some (.istore 8, 2)) none))))) (cond (Nat.blt pc 47) (cond (Nat.blt pc 37) (cond (Nat.blt pc 34) (cond (Nat.blt pc 31) (cond (Nat.beq pc 30) (some (.aload_n 0, 1)) none) (cond (Nat.beq pc 31) (some (.invokevirtual 36, 3)) none)) (cond (Nat.blt pc 36) (cond (Nat.beq pc 34) (some (.istore 9, 2)) none) (cond (Nat.beq pc 36) (some (.aload_n 0, 1)) none))) (cond (Nat.blt pc 42) (cond (Nat.blt pc 40) (cond (Nat.beq pc 37) (some (.invokevirtual 39, 3)) none) (cond (Nat.beq pc 40) (some (.istore 10, 2)) none)) (cond (Nat.blt pc 44) (cond (Nat.beq pc 42) (some (.iload 4, 2)) none) (cond (Nat.beq pc 44) (some (.ifCond .lt 20, 3)) none)))) (cond (Nat.blt pc 55) (cond (Nat.blt pc 50) (cond (Nat.blt pc 49) (cond (Nat.beq pc 47) (some (.iload 4, 2)) none) (cond (Nat.beq pc 49) (some (.iconst 3, 1)) none)) (cond (Nat.blt pc 53) (cond (Nat.beq pc 50) (some (.if_icmp .gt 14, 3)) none) (cond (Nat.beq pc 53) (some (.iload 5, 2)) none))) (cond (Nat.blt pc 60) (cond (Nat.blt pc 58) (cond (Nat.beq pc 55) (some (.ifCond .lt 9, 3)) none) (cond (Nat.beq pc 58) (some (.iload 5, 2)) none)) (cond (Nat.blt pc 61) (cond (Nat.beq pc 60) (some (.iconst 5, 1)) none) (cond (Nat.beq pc 61) (some (.if_icmp .le 5, 3)) none)))))) (cond (Nat.blt pc 92) (cond (Nat.blt pc 77) (cond (Nat.blt pc 69) (cond (Nat.blt pc 66) (cond (Nat.blt pc 65) (cond (Nat.beq pc 64) (some (.iconst 0, 1)) none) (cond (Nat.beq pc 65) (some (.ireturn, 1)) none)) (cond (Nat.blt pc 68) (cond (Nat.beq pc 66) (some (.iload 4, 2)) none) (cond (Nat.beq pc 68) (some (.iconst 3, 1)) none))) (cond (Nat.blt pc 73) (cond (Nat.blt pc 72) (cond (Nat.beq pc 69) (some (.if_icmp .ne 7, 3)) none) (cond (Nat.beq pc 72) (some (.iconst 1, 1)) none)) (cond (Nat.blt pc 76) (cond (Nat.beq pc 73) (some (.goto 4, 3)) none) (cond (Nat.beq pc 76) (some (.iconst 0, 1)) none)))) (cond (Nat.blt pc 86) (cond (Nat.blt pc 82) (cond (Nat.blt pc 79) (cond (Nat.beq pc 77) (some (.iload 5, 2)) none) (cond (Nat.beq pc 79) (some (.ifCond .eq 7, 3)) none)) (cond (Nat.blt pc 83) (cond (Nat.beq pc 82) (some (.iconst 1, 1)) none) (cond (Nat.beq pc 83) (some (.goto 4, 3)) none))) (cond (Nat.blt pc 90) (cond (Nat.blt pc 87) (cond (Nat.beq pc 86) (some (.iconst 0, 1)) none) (cond (Nat.beq pc 87) (some (.if_icmp .eq 5, 3)) none)) (cond (Nat.blt pc 91) (cond (Nat.beq pc 90) (some (.iconst 0, 1)) none) (cond (Nat.beq pc 91) (some (.ireturn, 1)) none))))) (cond (Nat.blt pc 110) (cond (Nat.blt pc 100) (cond (Nat.blt pc 97) (cond (Nat.blt pc 94) (cond (Nat.beq pc 92) (some (.iload 8, 2)) none) (cond (Nat.beq pc 94) (some (.ifCond .lt 45, 3)) none)) (cond (Nat.blt pc 99) (cond (Nat.beq pc 97) (some (.iload 8, 2)) none) (cond (Nat.beq pc 99) (some (.iconst 3, 1)) none))) (cond (Nat.blt pc 105) (cond (Nat.blt pc 103) (cond (Nat.beq pc 100) (some (.if_icmp .gt 39, 3)) none) (cond (Nat.beq pc 103) (some (.iload 7, 2)) none)) (cond (Nat.blt pc 108) (cond (Nat.beq pc 105) (some (.ifCond .lt 34, 3)) none) (cond (Nat.beq pc 108) (some (.iload 7, 2)) none)))) (cond (Nat.blt pc 120) (cond (Nat.blt pc 115) (cond (Nat.blt pc 112) (cond (Nat.beq pc 110) (some (.bipush 16, 2)) none) (cond (Nat.beq pc 112) (some (.if_icmp .gt 27, 3)) none)) (cond (Nat.blt pc 117) (cond (Nat.beq pc 115) (some (.iload 9, 2)) none) (cond (Nat.beq pc 117) (some (.ifCond .lt 22, 3)) none))) (cond (Nat.blt pc 124) (cond (Nat.blt pc 122) (cond (Nat.beq pc 120) (some (.iload 9, 2)) none) (cond (Nat.beq pc 122) (some (.bipush 32, 2)) none)) (cond (Nat.blt pc 127) (cond (Nat.beq pc 124) (some (.if_icmp .gt 15, 3)) none) (cond (Nat.beq pc 127) (some (.iload 10, 2)) none))))))) (cond (Nat.blt pc 192) (cond (Nat.blt pc 159) (cond (Nat.blt pc 146) (cond (Nat.blt pc 139) (cond (Nat.blt pc 134) (cond (Nat.blt pc 132) (cond (Nat.beq pc 129) (some (.ifCond .lt 10, 3)) none) (cond (Nat.beq pc 132) (some (.iload 10, 2)) none)) (cond (Nat.blt pc 136) (cond (Nat.beq pc 134) (some (.bipush 16, 2)) none) (cond (Nat.beq pc 136) (some (.if_icmp .le 5, 3)) none))) (cond (Nat.blt pc 141) (cond (Nat.blt pc 140) (cond (Nat.beq pc 139) (some (.iconst 0, 1)) none) (cond (Nat.beq pc 140) (some (.ireturn, 1)) none)) (cond (Nat.blt pc 143) (cond (Nat.beq pc 141) (some (.iload 7, 2)) none) (cond (Nat.beq pc 143) (some (.ifCond .ne 10, 3)) none)))) (cond (Nat.blt pc 153) (cond (Nat.blt pc 151) (cond (Nat.blt pc 148) (cond (Nat.beq pc 146) (some (.iload 8, 2)) none) (cond (Nat.beq pc 148) (some (.ifCond .eq 5, 3)) none)) (cond (Nat.blt pc 152) (cond (Nat.beq pc 151) (some (.iconst 0, 1)) none) (cond (Nat.beq pc 152) (some (.ireturn, 1)) none))) (cond (Nat.blt pc 157) (cond (Nat.blt pc 155) (cond (Nat.beq pc 153) (some (.iload 9, 2)) none) (cond (Nat.beq pc 155) (some (.iload 10, 2)) none)) (cond (Nat.blt pc 158) (cond (Nat.beq pc 157) (some (.iadd, 1)) none) (cond (Nat.beq pc 158) (some (.i2l, 1)) none))))) (cond (Nat.blt pc 173) (cond (Nat.blt pc 165) (cond (Nat.blt pc 161) (cond (Nat.blt pc 160) (cond (Nat.beq pc 159) (some (.lload_n 2, 1)) none) (cond (Nat.beq pc 160) (some (.lcmp, 1)) none)) (cond (Nat.blt pc 164) (cond (Nat.beq pc 161) (some (.ifCond .le 5, 3)) none) (cond (Nat.beq pc 164) (some (.iconst 0, 1)) none))) (cond (Nat.blt pc 168) (cond (Nat.blt pc 166) (cond (Nat.beq pc 165) (some (.ireturn, 1)) none) (cond (Nat.beq pc 166) (some (.iload 4, 2)) none)) (cond (Nat.blt pc 171) (cond (Nat.beq pc 168) (some (.ifCond .ne 31, 3)) none) (cond (Nat.beq pc 171) (some (.iload 6, 2)) none)))) (cond (Nat.blt pc 183) (cond (Nat.blt pc 178) (cond (Nat.blt pc 176) (cond (Nat.beq pc 173) (some (.ifCond .ne 24, 3)) none) (cond (Nat.beq pc 176) (some (.iload 7, 2)) none)) (cond (Nat.blt pc 181) (cond (Nat.beq pc 178) (some (.ifCond .ne 19, 3)) none) (cond (Nat.beq pc 181) (some (.iload 9, 2)) none))) (cond (Nat.blt pc 188) (cond (Nat.blt pc 186) (cond (Nat.beq pc 183) (some (.ifCond .ne 14, 3)) none) (cond (Nat.beq pc 186) (some (.iload 10, 2)) none)) (cond (Nat.blt pc 191) (cond (Nat.beq pc 188) (some (.ifCond .ne 9, 3)) none) (cond (Nat.beq pc 191) (some (.lload_n 2, 1)) none)))))) (cond (Nat.blt pc 220) (cond (Nat.blt pc 205) (cond (Nat.blt pc 198) (cond (Nat.blt pc 194) (cond (Nat.blt pc 193) (cond (Nat.beq pc 192) (some (.lconst 0, 1)) none) (cond (Nat.beq pc 193) (some (.lcmp, 1)) none)) (cond (Nat.blt pc 197) (cond (Nat.beq pc 194) (some (.ifCond .eq 5, 3)) none) (cond (Nat.beq pc 197) (some (.iconst 0, 1)) none))) (cond (Nat.blt pc 201) (cond (Nat.blt pc 199) (cond (Nat.beq pc 198) (some (.ireturn, 1)) none) (cond (Nat.beq pc 199) (some (.iload 4, 2)) none)) (cond (Nat.blt pc 202) (cond (Nat.beq pc 201) (some (.iconst 2, 1)) none) (cond (Nat.beq pc 202) (some (.if_icmp .ne 16, 3)) none)))) (cond (Nat.blt pc 213) (cond (Nat.blt pc 208) (cond (Nat.blt pc 207) (cond (Nat.beq pc 205) (some (.iload 6, 2)) none) (cond (Nat.beq pc 207) (some (.iload_n 1, 1)) none)) (cond (Nat.blt pc 211) (cond (Nat.beq pc 208) (some (.if_icmp .ne 8, 3)) none) (cond (Nat.beq pc 211) (some (.iload 7, 2)) none))) (cond (Nat.blt pc 217) (cond (Nat.blt pc 216) (cond (Nat.beq pc 213) (some (.ifCond .eq 5, 3)) none) (cond (Nat.beq pc 216) (some (.iconst 0, 1)) none)) (cond (Nat.blt pc 218) (cond (Nat.beq pc 217) (some (.ireturn, 1)) none) (cond (Nat.beq pc 218) (some (.iload 4, 2)) none))))) (cond (Nat.blt pc 237) (cond (Nat.blt pc 227) (cond (Nat.blt pc 224) (cond (Nat.blt pc 221) (cond (Nat.beq pc 220) (some (.iconst 1, 1)) none) (cond (Nat.beq pc 221) (some (.if_icmp .eq 9, 3)) none)) (cond (Nat.blt pc 226) (cond (Nat.beq pc 224) (some (.iload 4, 2)) none) (cond (Nat.beq pc 226) (some (.iconst 3, 1)) none))) (cond (Nat.blt pc 232) (cond (Nat.blt pc 230) (cond (Nat.beq pc 227) (some (.if_icmp .ne 16, 3)) none) (cond (Nat.beq pc 230) (some (.iload 6, 2)) none)) (cond (Nat.blt pc 235) (cond (Nat.beq pc 232) (some (.ifCond .lt 9, 3)) none) (cond (Nat.beq pc 235) (some (.iload 6, 2)) none)))) (cond (Nat.blt pc 243) (cond (Nat.blt pc 241) (cond (Nat.blt pc 238) (cond (Nat.beq pc 237) (some (.iload_n 1, 1)) none) (cond (Nat.beq pc 238) (some (.if_icmp .lt 5, 3)) none)) (cond (Nat.blt pc 242) (cond (Nat.beq pc 241) (some (.iconst 0, 1)) none) (cond (Nat.beq pc 242) (some (.ireturn, 1)) none))) (cond (Nat.blt pc 245) (cond (Nat.blt pc 244) (cond (Nat.beq pc 243) (some (.aload_n 0, 1)) none) (cond (Nat.beq pc 244) (some (.iload_n 1, 1)) none)) (cond (Nat.blt pc 248) (cond (Nat.beq pc 245) (some (.invokevirtual 60, 3)) none) (cond (Nat.beq pc 248) (some (.iconst (-1), 1)) none)))))))) (cond (Nat.blt pc 369) (cond (Nat.blt pc 312) (cond (Nat.blt pc 278) (cond (Nat.blt pc 263) (cond (Nat.blt pc 257) (cond (Nat.blt pc 253) (cond (Nat.blt pc 252) (cond (Nat.beq pc 249) (some (.if_icmp .ne 12, 3)) none) (cond (Nat.beq pc 252) (some (.aload_n 0, 1)) none)) (cond (Nat.blt pc 254) (cond (Nat.beq pc 253) (some (.iconst (-1), 1)) none) (cond (Nat.beq pc 254) (some (.invokevirtual 60, 3)) none))) (cond (Nat.blt pc 261) (cond (Nat.blt pc 258) (cond (Nat.beq pc 257) (some (.iconst (-1), 1)) none) (cond (Nat.beq pc 258) (some (.if_icmp .eq 5, 3)) none)) (cond (Nat.blt pc 262) (cond (Nat.beq pc 261) (some (.iconst 0, 1)) none) (cond (Nat.beq pc 262) (some (.ireturn, 1)) none)))) (cond (Nat.blt pc 269) (cond (Nat.blt pc 266) (cond (Nat.blt pc 264) (cond (Nat.beq pc 263) (some (.iconst 0, 1)) none) (cond (Nat.beq pc 264) (some (.istore 11, 2)) none)) (cond (Nat.blt pc 268) (cond (Nat.beq pc 266) (some (.iload 11, 2)) none) (cond (Nat.beq pc 268) (some (.iload_n 1, 1)) none))) (cond (Nat.blt pc 273) (cond (Nat.blt pc 272) (cond (Nat.beq pc 269) (some (.if_icmp .ge 37, 3)) none) (cond (Nat.beq pc 272) (some (.aload_n 0, 1)) none)) (cond (Nat.blt pc 275) (cond (Nat.beq pc 273) (some (.iload 11, 2)) none) (cond (Nat.beq pc 275) (some (.invokevirtual 60, 3)) none))))) (cond (Nat.blt pc 295) (cond (Nat.blt pc 287) (cond (Nat.blt pc 282) (cond (Nat.blt pc 280) (cond (Nat.beq pc 278) (some (.istore 12, 2)) none) (cond (Nat.beq pc 280) (some (.iload 12, 2)) none)) (cond (Nat.blt pc 285) (cond (Nat.beq pc 282) (some (.ifCond .lt 16, 3)) none) (cond (Nat.beq pc 285) (some (.iload 12, 2)) none))) (cond (Nat.blt pc 291) (cond (Nat.blt pc 288) (cond (Nat.beq pc 287) (some (.iload_n 1, 1)) none) (cond (Nat.beq pc 288) (some (.if_icmp .gt 10, 3)) none)) (cond (Nat.blt pc 293) (cond (Nat.beq pc 291) (some (.iload 12, 2)) none) (cond (Nat.beq pc 293) (some (.iload 11, 2)) none)))) (cond (Nat.blt pc 303) (cond (Nat.blt pc 299) (cond (Nat.blt pc 298) (cond (Nat.beq pc 295) (some (.if_icmp .ne 5, 3)) none) (cond (Nat.beq pc 298) (some (.iconst 0, 1)) none)) (cond (Nat.blt pc 300) (cond (Nat.beq pc 299) (some (.ireturn, 1)) none) (cond (Nat.beq pc 300) (some (.iinc 11 1, 3)) none))) (cond (Nat.blt pc 307) (cond (Nat.blt pc 306) (cond (Nat.beq pc 303) (some (.goto (-37), 3)) none) (cond (Nat.beq pc 306) (some (.aload_n 0, 1)) none)) (cond (Nat.blt pc 309) (cond (Nat.beq pc 307) (some (.bipush 8, 2)) none) (cond (Nat.beq pc 309) (some (.invokevirtual 63, 3)) none)))))) (cond (Nat.blt pc 340) (cond (Nat.blt pc 327) (cond (Nat.blt pc 319) (cond (Nat.blt pc 316) (cond (Nat.blt pc 315) (cond (Nat.beq pc 312) (some (.ifCond .ne 35, 3)) none) (cond (Nat.beq pc 315) (some (.aload_n 0, 1)) none)) (cond (Nat.blt pc 317) (cond (Nat.beq pc 316) (some (.iconst 0, 1)) none) (cond (Nat.beq pc 317) (some (.bipush 8, 2)) none))) (cond (Nat.blt pc 323) (cond (Nat.blt pc 322) (cond (Nat.beq pc 319) (some (.invokevirtual 25, 3)) none) (cond (Nat.beq pc 322) (some (.iconst (-1), 1)) none)) (cond (Nat.blt pc 326) (cond (Nat.beq pc 323) (some (.if_icmp .ne 24, 3)) none) (cond (Nat.beq pc 326) (some (.aload_n 0, 1)) none)))) (cond (Nat.blt pc 334) (cond (Nat.blt pc 330) (cond (Nat.blt pc 328) (cond (Nat.beq pc 327) (some (.iconst 1, 1)) none) (cond (Nat.beq pc 328) (some (.bipush 8, 2)) none)) (cond (Nat.blt pc 333) (cond (Nat.beq pc 330) (some (.invokevirtual 25, 3)) none) (cond (Nat.beq pc 333) (some (.iconst (-1), 1)) none))) (cond (Nat.blt pc 338) (cond (Nat.blt pc 337) (cond (Nat.beq pc 334) (some (.if_icmp .ne 13, 3)) none) (cond (Nat.beq pc 337) (some (.aload_n 0, 1)) none)) (cond (Nat.blt pc 339) (cond (Nat.beq pc 338) (some (.iconst 2, 1)) none) (cond (Nat.beq pc 339) (some (.iconst 0, 1)) none))))) (cond (Nat.blt pc 354) (cond (Nat.blt pc 348) (cond (Nat.blt pc 344) (cond (Nat.blt pc 343) (cond (Nat.beq pc 340) (some (.invokevirtual 25, 3)) none) (cond (Nat.beq pc 343) (some (.iconst (-1), 1)) none)) (cond (Nat.blt pc 347) (cond (Nat.beq pc 344) (some (.if_icmp .eq 5, 3)) none) (cond (Nat.beq pc 347) (some (.iconst 0, 1)) none))) (cond (Nat.blt pc 350) (cond (Nat.blt pc 349) (cond (Nat.beq pc 348) (some (.ireturn, 1)) none) (cond (Nat.beq pc 349) (some (.iconst 0, 1)) none)) (cond (Nat.blt pc 352) (cond (Nat.beq pc 350) (some (.istore 11, 2)) none) (cond (Nat.beq pc 352) (some (.iload 11, 2)) none)))) (cond (Nat.blt pc 361) (cond (Nat.blt pc 359) (cond (Nat.blt pc 356) (cond (Nat.beq pc 354) (some (.bipush 8, 2)) none) (cond (Nat.beq pc 356) (some (.if_icmp .ge 51, 3)) none)) (cond (Nat.blt pc 360) (cond (Nat.beq pc 359) (some (.aload_n 0, 1)) none) (cond (Nat.beq pc 360) (some (.iconst 0, 1)) none))) (cond (Nat.blt pc 366) (cond (Nat.blt pc 363) (cond (Nat.beq pc 361) (some (.iload 11, 2)) none) (cond (Nat.beq pc 363) (some (.invokevirtual 25, 3)) none)) (cond (Nat.blt pc 368) (cond (Nat.beq pc 366) (some (.istore 12, 2)) none) (cond (Nat.beq pc 368) (some (.aload_n 0, 1)) none))))))) (cond (Nat.blt pc 434) (cond (Nat.blt pc 401) (cond (Nat.blt pc 385) (cond (Nat.blt pc 377) (cond (Nat.blt pc 372) (cond (Nat.blt pc 370) (cond (Nat.beq pc 369) (some (.iconst 1, 1)) none) (cond (Nat.beq pc 370) (some (.iload 11, 2)) none)) (cond (Nat.blt pc 375) (cond (Nat.beq pc 372) (some (.invokevirtual 25, 3)) none) (cond (Nat.beq pc 375) (some (.istore 13, 2)) none))) (cond (Nat.blt pc 382) (cond (Nat.blt pc 379) (cond (Nat.beq pc 377) (some (.iload 12, 2)) none) (cond (Nat.beq pc 379) (some (.ifCond .lt 20, 3)) none)) (cond (Nat.blt pc 384) (cond (Nat.beq pc 382) (some (.iload 12, 2)) none) (cond (Nat.beq pc 384) (some (.iconst 3, 1)) none)))) (cond (Nat.blt pc 395) (cond (Nat.blt pc 390) (cond (Nat.blt pc 388) (cond (Nat.beq pc 385) (some (.if_icmp .gt 14, 3)) none) (cond (Nat.beq pc 388) (some (.iload 13, 2)) none)) (cond (Nat.blt pc 393) (cond (Nat.beq pc 390) (some (.ifCond .lt 9, 3)) none) (cond (Nat.beq pc 393) (some (.iload 13, 2)) none))) (cond (Nat.blt pc 399) (cond (Nat.blt pc 396) (cond (Nat.beq pc 395) (some (.iconst 3, 1)) none) (cond (Nat.beq pc 396) (some (.if_icmp .le 5, 3)) none)) (cond (Nat.blt pc 400) (cond (Nat.beq pc 399) (some (.iconst 0, 1)) none) (cond (Nat.beq pc 400) (some (.ireturn, 1)) none))))) (cond (Nat.blt pc 417) (cond (Nat.blt pc 412) (cond (Nat.blt pc 407) (cond (Nat.blt pc 404) (cond (Nat.beq pc 401) (some (.iinc 11 1, 3)) none) (cond (Nat.beq pc 404) (some (.goto (-52), 3)) none)) (cond (Nat.blt pc 409) (cond (Nat.beq pc 407) (some (.iload 9, 2)) none) (cond (Nat.beq pc 409) (some (.ifCond .le 27, 3)) none))) (cond (Nat.blt pc 415) (cond (Nat.blt pc 413) (cond (Nat.beq pc 412) (some (.aload_n 0, 1)) none) (cond (Nat.beq pc 413) (some (.iload 9, 2)) none)) (cond (Nat.blt pc 416) (cond (Nat.beq pc 415) (some (.iconst 1, 1)) none) (cond (Nat.beq pc 416) (some (.isub, 1)) none)))) (cond (Nat.blt pc 425) (cond (Nat.blt pc 421) (cond (Nat.blt pc 418) (cond (Nat.beq pc 417) (some (.iconst 0, 1)) none) (cond (Nat.beq pc 418) (some (.invokevirtual 66, 3)) none)) (cond (Nat.blt pc 423) (cond (Nat.beq pc 421) (some (.istore 11, 2)) none) (cond (Nat.beq pc 423) (some (.iload 11, 2)) none))) (cond (Nat.blt pc 430) (cond (Nat.blt pc 428) (cond (Nat.beq pc 425) (some (.ifCond .lt 9, 3)) none) (cond (Nat.beq pc 428) (some (.iload 11, 2)) none)) (cond (Nat.blt pc 431) (cond (Nat.beq pc 430) (some (.iconst 3, 1)) none) (cond (Nat.beq pc 431) (some (.if_icmp .le 5, 3)) none)))))) (cond (Nat.blt pc 458) (cond (Nat.blt pc 446) (cond (Nat.blt pc 441) (cond (Nat.blt pc 436) (cond (Nat.blt pc 435) (cond (Nat.beq pc 434) (some (.iconst 0, 1)) none) (cond (Nat.beq pc 435) (some (.ireturn, 1)) none)) (cond (Nat.blt pc 438) (cond (Nat.beq pc 436) (some (.iload 10, 2)) none) (cond (Nat.beq pc 438) (some (.ifCond .le 49, 3)) none))) (cond (Nat.blt pc 444) (cond (Nat.blt pc 442) (cond (Nat.beq pc 441) (some (.aload_n 0, 1)) none) (cond (Nat.beq pc 442) (some (.iload 10, 2)) none)) (cond (Nat.blt pc 445) (cond (Nat.beq pc 444) (some (.iconst 1, 1)) none) (cond (Nat.beq pc 445) (some (.isub, 1)) none)))) (cond (Nat.blt pc 453) (cond (Nat.blt pc 450) (cond (Nat.blt pc 447) (cond (Nat.beq pc 446) (some (.iconst 0, 1)) none) (cond (Nat.beq pc 447) (some (.invokevirtual 69, 3)) none)) (cond (Nat.blt pc 452) (cond (Nat.beq pc 450) (some (.istore 11, 2)) none) (cond (Nat.beq pc 452) (some (.aload_n 0, 1)) none))) (cond (Nat.blt pc 456) (cond (Nat.blt pc 455) (cond (Nat.beq pc 453) (some (.iload 10, 2)) none) (cond (Nat.beq pc 455) (some (.iconst 1, 1)) none)) (cond (Nat.blt pc 457) (cond (Nat.beq pc 456) (some (.isub, 1)) none) (cond (Nat.beq pc 457) (some (.iconst 2, 1)) none))))) (cond (Nat.blt pc 476) (cond (Nat.blt pc 468) (cond (Nat.blt pc 463) (cond (Nat.blt pc 461) (cond (Nat.beq pc 458) (some (.invokevirtual 69, 3)) none) (cond (Nat.beq pc 461) (some (.istore 12, 2)) none)) (cond (Nat.blt pc 465) (cond (Nat.beq pc 463) (some (.iload 11, 2)) none) (cond (Nat.beq pc 465) (some (.ifCond .lt 20, 3)) none))) (cond (Nat.blt pc 471) (cond (Nat.blt pc 470) (cond (Nat.beq pc 468) (some (.iload 11, 2)) none) (cond (Nat.beq pc 470) (some (.iload_n 1, 1)) none)) (cond (Nat.blt pc 474) (cond (Nat.beq pc 471) (some (.if_icmp .ge 14, 3)) none) (cond (Nat.beq pc 474) (some (.iload 12, 2)) none)))) (cond (Nat.blt pc 485) (cond (Nat.blt pc 481) (cond (Nat.blt pc 479) (cond (Nat.beq pc 476) (some (.ifCond .lt 9, 3)) none) (cond (Nat.beq pc 479) (some (.iload 12, 2)) none)) (cond (Nat.blt pc 482) (cond (Nat.beq pc 481) (some (.iconst 3, 1)) none) (cond (Nat.beq pc 482) (some (.if_icmp .le 5, 3)) none))) (cond (Nat.blt pc 487) (cond (Nat.blt pc 486) (cond (Nat.beq pc 485) (some (.iconst 0, 1)) none) (cond (Nat.beq pc 486) (some (.ireturn, 1)) none)) (cond (Nat.blt pc 488) (cond (Nat.beq pc 487) (some (.iconst 1, 1)) none) (cond (Nat.beq pc 488) (some (.ireturn, 1)) none))))))))) none
def LLcode : CodeT := fun q pc => cond (Nat.blt q 2) (cond (Nat.blt q 1) (cond (Nat.beq q 0) (lcd_0 pc) none) (cond (Nat.beq q 1) (lcd_1 pc) none)) none
def LLcst : Nat → Option OV := fun x => cond (Nat.blt x 21) (cond (Nat.beq x 20) (some (vi 2147483647)) none) none
def LLvm : Nat → Option Nat := fun x => cond (Nat.blt x 70) (cond (Nat.blt x 42) (cond (Nat.blt x 29) (cond (Nat.blt x 21) (cond (Nat.blt x 16) (cond (Nat.beq x 12) (some 2) none) (cond (Nat.beq x 16) (some 3) none)) (cond (Nat.blt x 25) (cond (Nat.beq x 21) (some 32) none) (cond (Nat.beq x 25) (some 22) none))) (cond (Nat.blt x 36) (cond (Nat.blt x 33) (cond (Nat.beq x 29) (some 33) none) (cond (Nat.beq x 33) (some 14) none)) (cond (Nat.blt x 39) (cond (Nat.beq x 36) (some 18) none) (cond (Nat.beq x 39) (some 19) none)))) (cond (Nat.blt x 60) (cond (Nat.blt x 54) (cond (Nat.blt x 51) (cond (Nat.beq x 42) (some 23) none) (cond (Nat.beq x 51) (some 13) none)) (cond (Nat.blt x 57) (cond (Nat.beq x 54) (some 15) none) (cond (Nat.beq x 57) (some 16) none))) (cond (Nat.blt x 66) (cond (Nat.blt x 63) (cond (Nat.beq x 60) (some 20) none) (cond (Nat.beq x 63) (some 21) none)) (cond (Nat.blt x 69) (cond (Nat.beq x 66) (some 30) none) (cond (Nat.beq x 69) (some 41) none))))) none
def LLmk : Nat → Bool := fun x => Nat.beq x 9
def LLsm : Nat → Option Nat := fun x => cond (Nat.blt x 46) (cond (Nat.beq x 45) (some 1) none) none
def LLcl : Nat → Bool := fun x => Nat.beq x 7
def LLinf : Nat → Option (List Nat × Nat × Nat × Nat × Nat) := fun x => cond (Nat.blt x 2) (cond (Nat.blt x 1) (cond (Nat.beq x 0) (some ([2], 20, 2, 6, 96)) none) (cond (Nat.beq x 1) (some ([1, 0, 2], 14, 2, 2, 24)) none)) none
def LLliv : LivT := fun q pc => cond (Nat.blt q 1) (cond (Nat.beq q 0) (cond (Nat.blt pc 300) (cond (Nat.blt pc 160) (cond (Nat.blt pc 129) (cond (Nat.blt pc 80) (cond (Nat.blt pc 19) (cond (Nat.beq pc 0) (some [true, false, false, false, false, false, false, false, false, false, false, false, false, false, false, false, false, false, false, false]) none) (cond (Nat.blt pc 28) (cond (Nat.beq pc 19) (some [true, true, true, true, false, true, false, false, false, false, false, false, false, false, false, false, false, false, false, false]) none) (cond (Nat.beq pc 28) (some [true, true, true, true, false, true, false, false, false, false, false, false, false, false, false, false, false, false, false, false]) none))) (cond (Nat.blt pc 85) (cond (Nat.blt pc 84) (cond (Nat.beq pc 80) (some [true, true, true, true, false, true, true, true, true, true, true, true, false, false, false, false, false, false, false, false]) none) (cond (Nat.beq pc 84) (some [true, true, true, true, false, true, true, true, true, true, true, true, false, false, false, false, false, false, false, false]) none)) (cond (Nat.blt pc 93) (cond (Nat.beq pc 85) (some [true, true, true, true, false, true, true, true, true, true, true, true, false, false, false, false, false, false, false, false]) none) (cond (Nat.beq pc 93) (some [true, true, true, true, false, true, false, true, true, true, true, false, true, false, false, false, false, false, false, false]) none)))) (cond (Nat.blt pc 147) (cond (Nat.blt pc 142) (cond (Nat.blt pc 135) (cond (Nat.beq pc 129) (some [true, true, true, true, false, true, false, false, false, false, false, false, false, true, true, false, false, false, false, false]) none) (cond (Nat.beq pc 135) (some [true, true, true, true, false, true, false, false, false, false, false, false, false, true, true, false, false, false, false, false]) none)) (cond (Nat.blt pc 146) (cond (Nat.beq pc 142) (some [true, true, true, true, false, true, false, false, false, false, false, false, false, false, true, false, false, false, false, false]) none) (cond (Nat.beq pc 146) (some [true, true, true, true, false, true, false, false, false, false, false, false, false, false, true, false, false, false, false, false]) none))) (cond (Nat.blt pc 152) (cond (Nat.blt pc 150) (cond (Nat.beq pc 147) (some [true, true, true, true, false, true, false, false, false, false, false, false, false, false, true, false, false, false, false, false]) none) (cond (Nat.beq pc 150) (some [false, false, false, false, false, false, false, false, false, false, false, false, false, false, false, false, false, false, false, false]) none)) (cond (Nat.blt pc 157) (cond (Nat.beq pc 152) (some [true, true, true, true, false, true, false, false, false, false, false, false, false, false, true, false, false, false, false, false]) none) (cond (Nat.beq pc 157) (some [true, true, true, true, false, true, false, false, false, false, false, false, false, false, false, false, false, false, false, false]) none))))) (cond (Nat.blt pc 249) (cond (Nat.blt pc 231) (cond (Nat.blt pc 169) (cond (Nat.blt pc 163) (cond (Nat.beq pc 160) (some [true, true, true, true, false, true, false, false, false, false, false, false, false, false, false, false, false, false, false, false]) none) (cond (Nat.beq pc 163) (some [true, true, true, true, false, true, true, true, true, true, false, true, true, false, false, false, false, false, false, false]) none)) (cond (Nat.blt pc 226) (cond (Nat.beq pc 169) (some [true, true, true, true, false, true, false, true, true, true, false, false, true, false, false, false, false, false, false, false]) none) (cond (Nat.beq pc 226) (some [true, true, true, true, false, true, false, false, true, false, false, false, false, true, true, true, true, true, false, false]) none))) (cond (Nat.blt pc 244) (cond (Nat.blt pc 238) (cond (Nat.beq pc 231) (some [true, true, true, true, false, true, false, false, true, false, false, false, false, true, true, true, true, true, false, false]) none) (cond (Nat.beq pc 238) (some [true, true, true, true, false, true, false, false, true, false, false, false, false, true, true, true, true, true, false, false]) none)) (cond (Nat.blt pc 248) (cond (Nat.beq pc 244) (some [true, true, true, true, false, true, false, false, true, false, false, false, false, true, true, true, true, true, false, false]) none) (cond (Nat.beq pc 248) (some [true, true, true, true, false, true, false, false, true, false, false, false, false, true, true, true, true, true, false, false]) none)))) (cond (Nat.blt pc 270) (cond (Nat.blt pc 254) (cond (Nat.blt pc 252) (cond (Nat.beq pc 249) (some [true, true, true, true, false, true, false, false, true, false, false, false, false, true, true, true, true, true, false, false]) none) (cond (Nat.beq pc 252) (some [false, false, false, false, false, false, false, false, false, false, false, false, false, false, false, false, false, false, false, false]) none)) (cond (Nat.blt pc 259) (cond (Nat.beq pc 254) (some [true, true, true, true, false, true, false, false, true, false, false, false, false, true, true, true, true, true, false, false]) none) (cond (Nat.beq pc 259) (some [true, true, true, true, false, true, false, false, true, false, false, false, false, true, true, true, true, true, false, false]) none))) (cond (Nat.blt pc 284) (cond (Nat.blt pc 282) (cond (Nat.beq pc 270) (some [true, true, true, true, false, true, false, false, false, false, false, false, false, true, true, true, true, true, false, false]) none) (cond (Nat.beq pc 282) (some [false, false, false, false, false, false, false, false, false, false, false, false, false, false, false, false, false, false, false, false]) none)) (cond (Nat.blt pc 289) (cond (Nat.beq pc 284) (some [true, true, true, true, false, true, false, false, false, false, false, false, false, true, false, true, true, true, false, false]) none) (cond (Nat.beq pc 289) (some [true, true, true, true, false, true, false, false, false, false, false, false, false, true, false, true, true, false, false, false]) none)))))) (cond (Nat.blt pc 448) (cond (Nat.blt pc 408) (cond (Nat.blt pc 384) (cond (Nat.blt pc 314) (cond (Nat.blt pc 312) (cond (Nat.beq pc 300) (some [true, true, true, true, false, true, false, false, false, false, false, false, false, true, false, false, true, false, false, false]) none) (cond (Nat.beq pc 312) (some [false, false, false, false, false, false, false, false, false, false, false, false, false, false, false, false, false, false, false, false]) none)) (cond (Nat.blt pc 317) (cond (Nat.beq pc 314) (some [true, true, true, true, false, true, false, false, false, false, false, false, false, false, false, false, false, false, false, false]) none) (cond (Nat.beq pc 317) (some [true, true, true, true, false, true, false, true, false, false, false, true, true, false, false, false, false, false, false, false]) none))) (cond (Nat.blt pc 396) (cond (Nat.blt pc 390) (cond (Nat.beq pc 384) (some [true, true, true, true, false, true, false, false, false, false, false, true, true, true, true, true, true, true, true, true]) none) (cond (Nat.beq pc 390) (some [true, true, true, true, false, true, false, false, false, false, false, true, true, true, true, true, true, true, true, true]) none)) (cond (Nat.blt pc 401) (cond (Nat.beq pc 396) (some [true, true, true, true, false, true, false, false, false, false, false, true, false, false, true, false, false, true, true, true]) none) (cond (Nat.beq pc 401) (some [true, true, true, true, false, true, false, false, false, false, false, true, false, false, true, false, false, true, true, true]) none)))) (cond (Nat.blt pc 429) (cond (Nat.blt pc 422) (cond (Nat.blt pc 417) (cond (Nat.beq pc 408) (some [true, true, true, true, false, true, false, false, false, false, false, false, false, false, true, false, false, true, false, true]) none) (cond (Nat.beq pc 417) (some [true, true, true, true, false, true, false, false, false, false, false, false, false, false, false, false, false, true, false, true]) none)) (cond (Nat.blt pc 424) (cond (Nat.beq pc 422) (some [false, false, false, false, false, false, false, false, false, false, false, false, false, false, false, false, false, false, false, false]) none) (cond (Nat.beq pc 424) (some [true, true, true, true, false, true, false, false, false, false, false, false, true, true, false, true, true, true, true, true]) none))) (cond (Nat.blt pc 441) (cond (Nat.blt pc 436) (cond (Nat.beq pc 429) (some [true, true, true, true, false, true, false, false, false, false, false, false, true, true, false, true, true, true, true, true]) none) (cond (Nat.beq pc 436) (some [true, true, true, true, false, true, false, false, false, false, false, false, true, true, false, true, true, true, true, true]) none)) (cond (Nat.blt pc 443) (cond (Nat.beq pc 441) (some [false, false, false, false, false, false, false, false, false, false, false, false, false, false, false, false, false, false, false, false]) none) (cond (Nat.beq pc 443) (some [true, true, true, true, false, true, false, false, false, false, false, false, true, true, false, true, true, true, true, true]) none))))) (cond (Nat.blt pc 489) (cond (Nat.blt pc 465) (cond (Nat.blt pc 458) (cond (Nat.blt pc 452) (cond (Nat.beq pc 448) (some [true, true, true, true, false, true, false, false, false, false, false, false, false, true, false, true, true, true, true, true]) none) (cond (Nat.beq pc 452) (some [true, true, true, true, false, true, false, false, false, false, false, false, false, true, false, true, true, true, true, true]) none)) (cond (Nat.blt pc 463) (cond (Nat.beq pc 458) (some [true, true, true, true, false, true, false, false, false, false, false, false, false, true, false, true, true, true, true, true]) none) (cond (Nat.beq pc 463) (some [false, false, false, false, false, false, false, false, false, false, false, false, false, false, false, false, false, false, false, false]) none))) (cond (Nat.blt pc 478) (cond (Nat.blt pc 471) (cond (Nat.beq pc 465) (some [true, true, true, true, false, true, false, false, false, false, false, false, false, true, false, true, true, true, true, true]) none) (cond (Nat.beq pc 471) (some [true, true, true, true, false, true, false, false, false, false, false, false, false, true, false, true, true, true, false, true]) none)) (cond (Nat.blt pc 480) (cond (Nat.beq pc 478) (some [false, false, false, false, false, false, false, false, false, false, false, false, false, false, false, false, false, false, false, false]) none) (cond (Nat.beq pc 480) (some [true, true, true, true, false, true, false, false, false, false, false, false, false, false, false, true, true, true, false, true]) none)))) (cond (Nat.blt pc 513) (cond (Nat.blt pc 505) (cond (Nat.blt pc 498) (cond (Nat.beq pc 489) (some [true, true, true, true, false, true, false, false, false, false, false, false, false, false, false, false, true, true, false, true]) none) (cond (Nat.beq pc 498) (some [true, true, true, true, false, true, false, false, false, false, false, false, false, false, false, false, false, true, false, true]) none)) (cond (Nat.blt pc 507) (cond (Nat.beq pc 505) (some [false, false, false, false, false, false, false, false, false, false, false, false, false, false, false, false, false, false, false, false]) none) (cond (Nat.beq pc 507) (some [true, true, true, true, false, true, false, false, false, false, false, false, false, false, false, false, false, true, false, false]) none))) (cond (Nat.blt pc 524) (cond (Nat.blt pc 522) (cond (Nat.beq pc 513) (some [true, true, true, true, false, true, false, false, false, false, false, false, false, false, false, false, false, false, false, false]) none) (cond (Nat.beq pc 522) (some [false, false, false, false, false, false, false, false, false, false, false, false, false, false, false, false, false, false, false, false]) none)) (cond (Nat.blt pc 530) (cond (Nat.beq pc 524) (some [true, true, true, true, false, true, false, false, false, false, false, false, false, false, false, false, false, false, false, false]) none) (cond (Nat.beq pc 530) (some [false, false, false, false, false, false, false, false, false, false, false, false, false, false, false, false, false, false, false, false]) none))))))) none) (cond (Nat.beq q 1) (cond (Nat.blt pc 218) (cond (Nat.blt pc 127) (cond (Nat.blt pc 82) (cond (Nat.blt pc 64) (cond (Nat.blt pc 53) (cond (Nat.blt pc 47) (cond (Nat.beq pc 0) (some [true, true, true, false, false, false, false, false, false, false, false, false, false, false]) none) (cond (Nat.beq pc 47) (some [true, true, true, false, true, true, true, true, true, true, true, false, false, false]) none)) (cond (Nat.blt pc 58) (cond (Nat.beq pc 53) (some [true, true, true, false, true, true, true, true, true, true, true, false, false, false]) none) (cond (Nat.beq pc 58) (some [true, true, true, false, true, true, true, true, true, true, true, false, false, false]) none))) (cond (Nat.blt pc 72) (cond (Nat.blt pc 66) (cond (Nat.beq pc 64) (some [false, false, false, false, false, false, false, false, false, false, false, false, false, false]) none) (cond (Nat.beq pc 66) (some [true, true, true, false, true, true, true, true, true, true, true, false, false, false]) none)) (cond (Nat.blt pc 76) (cond (Nat.beq pc 72) (some [true, true, true, false, true, true, true, true, true, true, true, false, false, false]) none) (cond (Nat.blt pc 77) (cond (Nat.beq pc 76) (some [true, true, true, false, true, true, true, true, true, true, true, false, false, false]) none) (cond (Nat.beq pc 77) (some [true, true, true, false, true, true, true, true, true, true, true, false, false, false]) none))))) (cond (Nat.blt pc 97) (cond (Nat.blt pc 87) (cond (Nat.blt pc 86) (cond (Nat.beq pc 82) (some [true, true, true, false, true, false, true, true, true, true, true, false, false, false]) none) (cond (Nat.beq pc 86) (some [true, true, true, false, true, false, true, true, true, true, true, false, false, false]) none)) (cond (Nat.blt pc 90) (cond (Nat.beq pc 87) (some [true, true, true, false, true, false, true, true, true, true, true, false, false, false]) none) (cond (Nat.blt pc 92) (cond (Nat.beq pc 90) (some [false, false, false, false, false, false, false, false, false, false, false, false, false, false]) none) (cond (Nat.beq pc 92) (some [true, true, true, false, true, false, true, true, true, true, true, false, false, false]) none)))) (cond (Nat.blt pc 108) (cond (Nat.blt pc 103) (cond (Nat.beq pc 97) (some [true, true, true, false, true, false, true, true, true, true, true, false, false, false]) none) (cond (Nat.beq pc 103) (some [true, true, true, false, true, false, true, true, true, true, true, false, false, false]) none)) (cond (Nat.blt pc 115) (cond (Nat.beq pc 108) (some [true, true, true, false, true, false, true, true, true, true, true, false, false, false]) none) (cond (Nat.blt pc 120) (cond (Nat.beq pc 115) (some [true, true, true, false, true, false, true, true, true, true, true, false, false, false]) none) (cond (Nat.beq pc 120) (some [true, true, true, false, true, false, true, true, true, true, true, false, false, false]) none)))))) (cond (Nat.blt pc 171) (cond (Nat.blt pc 146) (cond (Nat.blt pc 139) (cond (Nat.blt pc 132) (cond (Nat.beq pc 127) (some [true, true, true, false, true, false, true, true, true, true, true, false, false, false]) none) (cond (Nat.beq pc 132) (some [true, true, true, false, true, false, true, true, true, true, true, false, false, false]) none)) (cond (Nat.blt pc 141) (cond (Nat.beq pc 139) (some [false, false, false, false, false, false, false, false, false, false, false, false, false, false]) none) (cond (Nat.beq pc 141) (some [true, true, true, false, true, false, true, true, true, true, true, false, false, false]) none))) (cond (Nat.blt pc 153) (cond (Nat.blt pc 151) (cond (Nat.beq pc 146) (some [true, true, true, false, true, false, true, true, true, true, true, false, false, false]) none) (cond (Nat.beq pc 151) (some [false, false, false, false, false, false, false, false, false, false, false, false, false, false]) none)) (cond (Nat.blt pc 164) (cond (Nat.beq pc 153) (some [true, true, true, false, true, false, true, true, false, true, true, false, false, false]) none) (cond (Nat.blt pc 166) (cond (Nat.beq pc 164) (some [false, false, false, false, false, false, false, false, false, false, false, false, false, false]) none) (cond (Nat.beq pc 166) (some [true, true, true, false, true, false, true, true, false, true, true, false, false, false]) none))))) (cond (Nat.blt pc 197) (cond (Nat.blt pc 181) (cond (Nat.blt pc 176) (cond (Nat.beq pc 171) (some [true, true, true, false, true, false, true, true, false, true, true, false, false, false]) none) (cond (Nat.beq pc 176) (some [true, true, true, false, true, false, true, true, false, true, true, false, false, false]) none)) (cond (Nat.blt pc 186) (cond (Nat.beq pc 181) (some [true, true, true, false, true, false, true, true, false, true, true, false, false, false]) none) (cond (Nat.blt pc 191) (cond (Nat.beq pc 186) (some [true, true, true, false, true, false, true, true, false, true, true, false, false, false]) none) (cond (Nat.beq pc 191) (some [true, true, true, false, true, false, true, true, false, true, true, false, false, false]) none)))) (cond (Nat.blt pc 205) (cond (Nat.blt pc 199) (cond (Nat.beq pc 197) (some [false, false, false, false, false, false, false, false, false, false, false, false, false, false]) none) (cond (Nat.beq pc 199) (some [true, true, false, false, true, false, true, true, false, true, true, false, false, false]) none)) (cond (Nat.blt pc 211) (cond (Nat.beq pc 205) (some [true, true, false, false, true, false, true, true, false, true, true, false, false, false]) none) (cond (Nat.blt pc 216) (cond (Nat.beq pc 211) (some [true, true, false, false, true, false, true, true, false, true, true, false, false, false]) none) (cond (Nat.beq pc 216) (some [false, false, false, false, false, false, false, false, false, false, false, false, false, false]) none))))))) (cond (Nat.blt pc 347) (cond (Nat.blt pc 266) (cond (Nat.blt pc 241) (cond (Nat.blt pc 230) (cond (Nat.blt pc 224) (cond (Nat.beq pc 218) (some [true, true, false, false, true, false, true, false, false, true, true, false, false, false]) none) (cond (Nat.beq pc 224) (some [true, true, false, false, true, false, true, false, false, true, true, false, false, false]) none)) (cond (Nat.blt pc 235) (cond (Nat.beq pc 230) (some [true, true, false, false, false, false, true, false, false, true, true, false, false, false]) none) (cond (Nat.beq pc 235) (some [true, true, false, false, false, false, true, false, false, true, true, false, false, false]) none))) (cond (Nat.blt pc 252) (cond (Nat.blt pc 243) (cond (Nat.beq pc 241) (some [false, false, false, false, false, false, false, false, false, false, false, false, false, false]) none) (cond (Nat.beq pc 243) (some [true, true, false, false, false, false, false, false, false, true, true, false, false, false]) none)) (cond (Nat.blt pc 261) (cond (Nat.beq pc 252) (some [true, true, false, false, false, false, false, false, false, true, true, false, false, false]) none) (cond (Nat.blt pc 263) (cond (Nat.beq pc 261) (some [false, false, false, false, false, false, false, false, false, false, false, false, false, false]) none) (cond (Nat.beq pc 263) (some [true, true, false, false, false, false, false, false, false, true, true, false, false, false]) none))))) (cond (Nat.blt pc 300) (cond (Nat.blt pc 285) (cond (Nat.blt pc 272) (cond (Nat.beq pc 266) (some [true, true, false, false, false, false, false, false, false, true, true, true, false, false]) none) (cond (Nat.beq pc 272) (some [true, true, false, false, false, false, false, false, false, true, true, true, false, false]) none)) (cond (Nat.blt pc 291) (cond (Nat.beq pc 285) (some [true, true, false, false, false, false, false, false, false, true, true, true, true, false]) none) (cond (Nat.blt pc 298) (cond (Nat.beq pc 291) (some [true, true, false, false, false, false, false, false, false, true, true, true, true, false]) none) (cond (Nat.beq pc 298) (some [false, false, false, false, false, false, false, false, false, false, false, false, false, false]) none)))) (cond (Nat.blt pc 315) (cond (Nat.blt pc 306) (cond (Nat.beq pc 300) (some [true, true, false, false, false, false, false, false, false, true, true, true, false, false]) none) (cond (Nat.beq pc 306) (some [true, true, false, false, false, false, false, false, false, true, true, false, false, false]) none)) (cond (Nat.blt pc 326) (cond (Nat.beq pc 315) (some [true, true, false, false, false, false, false, false, false, true, true, false, false, false]) none) (cond (Nat.blt pc 337) (cond (Nat.beq pc 326) (some [true, true, false, false, false, false, false, false, false, true, true, false, false, false]) none) (cond (Nat.beq pc 337) (some [true, true, false, false, false, false, false, false, false, true, true, false, false, false]) none)))))) (cond (Nat.blt pc 412) (cond (Nat.blt pc 388) (cond (Nat.blt pc 352) (cond (Nat.blt pc 349) (cond (Nat.beq pc 347) (some [false, false, false, false, false, false, false, false, false, false, false, false, false, false]) none) (cond (Nat.beq pc 349) (some [true, true, false, false, false, false, false, false, false, true, true, false, false, false]) none)) (cond (Nat.blt pc 359) (cond (Nat.beq pc 352) (some [true, true, false, false, false, false, false, false, false, true, true, true, false, false]) none) (cond (Nat.blt pc 382) (cond (Nat.beq pc 359) (some [true, true, false, false, false, false, false, false, false, true, true, true, false, false]) none) (cond (Nat.beq pc 382) (some [true, true, false, false, false, false, false, false, false, true, true, true, true, true]) none)))) (cond (Nat.blt pc 399) (cond (Nat.blt pc 393) (cond (Nat.beq pc 388) (some [true, true, false, false, false, false, false, false, false, true, true, true, false, true]) none) (cond (Nat.beq pc 393) (some [true, true, false, false, false, false, false, false, false, true, true, true, false, true]) none)) (cond (Nat.blt pc 401) (cond (Nat.beq pc 399) (some [false, false, false, false, false, false, false, false, false, false, false, false, false, false]) none) (cond (Nat.blt pc 407) (cond (Nat.beq pc 401) (some [true, true, false, false, false, false, false, false, false, true, true, true, false, false]) none) (cond (Nat.beq pc 407) (some [true, true, false, false, false, false, false, false, false, true, true, false, false, false]) none))))) (cond (Nat.blt pc 468) (cond (Nat.blt pc 434) (cond (Nat.blt pc 428) (cond (Nat.beq pc 412) (some [true, true, false, false, false, false, false, false, false, true, true, false, false, false]) none) (cond (Nat.beq pc 428) (some [true, true, false, false, false, false, false, false, false, false, true, true, false, false]) none)) (cond (Nat.blt pc 436) (cond (Nat.beq pc 434) (some [false, false, false, false, false, false, false, false, false, false, false, false, false, false]) none) (cond (Nat.blt pc 441) (cond (Nat.beq pc 436) (some [true, true, false, false, false, false, false, false, false, false, true, false, false, false]) none) (cond (Nat.beq pc 441) (some [true, true, false, false, false, false, false, false, false, false, true, false, false, false]) none)))) (cond (Nat.blt pc 479) (cond (Nat.blt pc 474) (cond (Nat.beq pc 468) (some [false, true, false, false, false, false, false, false, false, false, false, true, true, false]) none) (cond (Nat.beq pc 474) (some [false, false, false, false, false, false, false, false, false, false, false, false, true, false]) none)) (cond (Nat.blt pc 485) (cond (Nat.beq pc 479) (some [false, false, false, false, false, false, false, false, false, false, false, false, true, false]) none) (cond (Nat.blt pc 487) (cond (Nat.beq pc 485) (some [false, false, false, false, false, false, false, false, false, false, false, false, false, false]) none) (cond (Nat.beq pc 487) (some [false, false, false, false, false, false, false, false, false, false, false, false, false, false]) none)))))))) none)
def LL : LT := (LLcode, LLcst, LLvm, LLmk, LLsm, LLcl, LLinf, LLliv)
abbrev RL (sl : Int) (sc : Int → Int) := runL PP LL 36 1 (true, sl, sc)
abbrev RLr (sl : Int) (sc : Int → Int) (n q pc : Nat) (L : OLs) (S : List OV) (y : Option OV × OWd) : RTL := RL sl sc n q pc L (pushR y.1 S) y.2
abbrev RLv (sl : Int) (sc : Int → Int) (n q pc : Nat) (L : OLs) (S : List OV) (W : OWd) (o : Nat) (y : Option OV × Nat × OMem) : RTL := RL sl sc n q pc L (pushR y.1 S) (wput W o y.2)
abbrev RLi (sl : Int) (sc : Int → Int) (n q pc : Nat) (L : OLs) (S : List OV) (W : OWd) (o : Nat) (y : Option OV × Nat × OMem) : RTL := cond (Nat.beq y.2.1 36) (RL sl sc n q pc L (pushR y.1 S) (wput W o y.2)) none
def l_inv_b64 (sl : Int) (sc : Int → Int) (m0 : OMem) : Option (Int) := some 0
set_option maxRecDepth 65536 in
set_option maxHeartbeats 16000000 in
theorem l_inv_b64_ok (sl : Int) (sc : Int → Int) (m0 : OMem) : Sim (l_inv_b64 sl sc m0) (fun r _ => some (some (vi r), [(36, m0)])) (fun n => RL sl sc n 1 64 [qn, qn, qn, qn, qn, qn, qn, qn, qn, qn, qn, qn, qn, qn] [] [(36, m0)]) :=
  Sim.shift 2 (G := (fun _ => some (some (vi 0), [(36, m0)]))) (fun _ => rfl) (Sim.pur _ _)
def l_inv_b139 (sl : Int) (sc : Int → Int) (m0 : OMem) : Option (Int) := some 0
set_option maxRecDepth 65536 in
set_option maxHeartbeats 16000000 in
theorem l_inv_b139_ok (sl : Int) (sc : Int → Int) (m0 : OMem) : Sim (l_inv_b139 sl sc m0) (fun r _ => some (some (vi r), [(36, m0)])) (fun n => RL sl sc n 1 139 [qn, qn, qn, qn, qn, qn, qn, qn, qn, qn, qn, qn, qn, qn] [] [(36, m0)]) :=
  Sim.shift 2 (G := (fun _ => some (some (vi 0), [(36, m0)]))) (fun _ => rfl) (Sim.pur _ _)
def l_inv_b241 (sl : Int) (sc : Int → Int) (m0 : OMem) : Option (Int) := some 0
set_option maxRecDepth 65536 in
set_option maxHeartbeats 16000000 in
theorem l_inv_b241_ok (sl : Int) (sc : Int → Int) (m0 : OMem) : Sim (l_inv_b241 sl sc m0) (fun r _ => some (some (vi r), [(36, m0)])) (fun n => RL sl sc n 1 241 [qn, qn, qn, qn, qn, qn, qn, qn, qn, qn, qn, qn, qn, qn] [] [(36, m0)]) :=
  Sim.shift 2 (G := (fun _ => some (some (vi 0), [(36, m0)]))) (fun _ => rfl) (Sim.pur _ _)
def l_inv_l266_H (sl : Int) (sc : Int → Int) (m0 : OMem) (x1 x9 x10 : Int) : Int → Nat → RTL := fun x11 n => RL sl sc n 1 266 [qr 1, qi x1, qn, qn, qn, qn, qn, qn, qn, qi x9, qi x10, qi x11, qn, qn] [] [(36, m0)]
def l_inv_l266_X (sl : Int) (sc : Int → Int) (m0 : OMem) (x1 x9 x10 : Int) : (Unit) ⊕ (Unit) → Nat → RTL := fun e n => match e with | (.inl _) => RL sl sc n 1 298 [qn, qn, qn, qn, qn, qn, qn, qn, qn, qn, qn, qn, qn, qn] [] [(36, m0)] | (.inr _) => RL sl sc n 1 306 [qr 1, qi x1, qn, qn, qn, qn, qn, qn, qn, qi x9, qi x10, qn, qn, qn] [] [(36, m0)]
def l_inv_l266 (sl : Int) (sc : Int → Int) (m0 : OMem) (x1 x9 x10 : Int) : Int → Option ((Int) ⊕ ((Unit) ⊕ (Unit))) := fun x11 => if x11 < x1 then ((f_join x11 m0).bind fun r_90 => (if r_90 < 0 then (some (.inr (.inl ()))) else (if x1 < r_90 then (some (.inr (.inl ()))) else (if r_90 = x11 then (some (.inr (.inl ()))) else (some (.inl (w32 (x11 + 1)))))))) else (some (.inr (.inr ())))
set_option maxRecDepth 65536 in
set_option maxHeartbeats 16000000 in
theorem l_inv_l266_ok (sl : Int) (sc : Int → Int) (m0 : OMem) (x1 x9 x10 : Int) (x11 : Int) : Sim (l_inv_l266 sl sc m0 x1 x9 x10 x11) (Sum.elim (l_inv_l266_H sl sc m0 x1 x9 x10 ) (l_inv_l266_X sl sc m0 x1 x9 x10 )) (l_inv_l266_H sl sc m0 x1 x9 x10 x11) :=
  Sim.shift 3 (G := fun n => if x11 < x1 then RL sl sc n 1 272 [qr 1, qi x1, qn, qn, qn, qn, qn, qn, qn, qi x9, qi x10, qi x11, qn, qn] [] [(36, m0)] else RL sl sc n 1 306 [qr 1, qi x1, qn, qn, qn, qn, qn, qn, qn, qi x9, qi x10, qi x11, qn, qn] [] [(36, m0)]) (fun _ => rfl) (Sim.ite (fun _ => Sim.shift 3 (G := fun n => (R n 20 0 [qr 0, qi x11] [] 36 m0).bind fun y => RLv sl sc n 1 278 [qr 1, qi x1, qn, qn, qn, qn, qn, qn, qn, qi x9, qi x10, qi x11, qn, qn] [] [(36, m0)] 0 y) (fun _ => rfl) (Sim.call (f_join_ok x11 m0) (fun _ _ => rfl) (runP_mono _ _ _ _ _ _) (fun _ => runL_mono _ _ _ _ _) (fun r_90 => Sim.shift 0 (G := fun n => RL sl sc n 1 278 [qr 1, qi x1, qn, qn, qn, qn, qn, qn, qn, qi x9, qi x10, qi x11, qn, qn] [vi r_90] [(36, m0)]) (fun _ => rfl) (Sim.shift 3 (G := fun n => if r_90 < 0 then RL sl sc n 1 298 [qr 1, qi x1, qn, qn, qn, qn, qn, qn, qn, qi x9, qi x10, qi x11, qi r_90, qn] [] [(36, m0)] else RL sl sc n 1 285 [qr 1, qi x1, qn, qn, qn, qn, qn, qn, qn, qi x9, qi x10, qi x11, qi r_90, qn] [] [(36, m0)]) (fun _ => rfl) (Sim.ite (fun _ => Sim.leaf rfl (fun _ => rfl)) (fun _ => Sim.shift 3 (G := fun n => if x1 < r_90 then RL sl sc n 1 298 [qr 1, qi x1, qn, qn, qn, qn, qn, qn, qn, qi x9, qi x10, qi x11, qi r_90, qn] [] [(36, m0)] else RL sl sc n 1 291 [qr 1, qi x1, qn, qn, qn, qn, qn, qn, qn, qi x9, qi x10, qi x11, qi r_90, qn] [] [(36, m0)]) (fun _ => rfl) (Sim.ite (fun _ => Sim.leaf rfl (fun _ => rfl)) (fun _ => Sim.shift 3 (G := fun n => if r_90 = x11 then RL sl sc n 1 298 [qr 1, qi x1, qn, qn, qn, qn, qn, qn, qn, qi x9, qi x10, qi x11, qi r_90, qn] [] [(36, m0)] else RL sl sc n 1 300 [qr 1, qi x1, qn, qn, qn, qn, qn, qn, qn, qi x9, qi x10, qi x11, qi r_90, qn] [] [(36, m0)]) (fun _ => rfl) (Sim.ite (fun _ => Sim.leaf rfl (fun _ => rfl)) (fun _ => Sim.shift 2 (G := fun n => RL sl sc n 1 266 [qr 1, qi x1, qn, qn, qn, qn, qn, qn, qn, qi x9, qi x10, qi (w32 (x11 + 1)), qn, qn] [] [(36, m0)]) (fun _ => rfl) (Sim.pur _ _))))))))))) (fun _ => Sim.leaf rfl (fun _ => rfl)))
def l_inv_b298 (sl : Int) (sc : Int → Int) (m0 : OMem) : Option (Int) := some 0
set_option maxRecDepth 65536 in
set_option maxHeartbeats 16000000 in
theorem l_inv_b298_ok (sl : Int) (sc : Int → Int) (m0 : OMem) : Sim (l_inv_b298 sl sc m0) (fun r _ => some (some (vi r), [(36, m0)])) (fun n => RL sl sc n 1 298 [qn, qn, qn, qn, qn, qn, qn, qn, qn, qn, qn, qn, qn, qn] [] [(36, m0)]) :=
  Sim.shift 2 (G := (fun _ => some (some (vi 0), [(36, m0)]))) (fun _ => rfl) (Sim.pur _ _)
def l_inv_l352_H (sl : Int) (sc : Int → Int) (m0 : OMem) (x1 x9 x10 : Int) : Int → Nat → RTL := fun x11 n => RL sl sc n 1 352 [qr 1, qi x1, qn, qn, qn, qn, qn, qn, qn, qi x9, qi x10, qi x11, qn, qn] [] [(36, m0)]
def l_inv_l352_X (sl : Int) (sc : Int → Int) (m0 : OMem) (x1 x9 x10 : Int) : (Unit) ⊕ (Unit) → Nat → RTL := fun e n => match e with | (.inl _) => RL sl sc n 1 399 [qn, qn, qn, qn, qn, qn, qn, qn, qn, qn, qn, qn, qn, qn] [] [(36, m0)] | (.inr _) => RL sl sc n 1 407 [qr 1, qi x1, qn, qn, qn, qn, qn, qn, qn, qi x9, qi x10, qn, qn, qn] [] [(36, m0)]
def l_inv_l352 (sl : Int) (sc : Int → Int) (m0 : OMem) (x1 x9 x10 : Int) : Int → Option ((Int) ⊕ ((Unit) ⊕ (Unit))) := fun x11 => if x11 < 8 then ((f_labelOf 0 x11 m0).bind fun r_95 => ((f_labelOf 1 x11 m0).bind fun r_96 => (if r_95 < 0 then (some (.inr (.inl ()))) else (if 3 < r_95 then (some (.inr (.inl ()))) else (if r_96 < 0 then (some (.inr (.inl ()))) else (if 3 < r_96 then (some (.inr (.inl ()))) else (some (.inl (w32 (x11 + 1)))))))))) else (some (.inr (.inr ())))
set_option maxRecDepth 65536 in
set_option maxHeartbeats 16000000 in
theorem l_inv_l352_ok (sl : Int) (sc : Int → Int) (m0 : OMem) (x1 x9 x10 : Int) (x11 : Int) : Sim (l_inv_l352 sl sc m0 x1 x9 x10 x11) (Sum.elim (l_inv_l352_H sl sc m0 x1 x9 x10 ) (l_inv_l352_X sl sc m0 x1 x9 x10 )) (l_inv_l352_H sl sc m0 x1 x9 x10 x11) :=
  Sim.shift 3 (G := fun n => if x11 < 8 then RL sl sc n 1 359 [qr 1, qi x1, qn, qn, qn, qn, qn, qn, qn, qi x9, qi x10, qi x11, qn, qn] [] [(36, m0)] else RL sl sc n 1 407 [qr 1, qi x1, qn, qn, qn, qn, qn, qn, qn, qi x9, qi x10, qi x11, qn, qn] [] [(36, m0)]) (fun _ => rfl) (Sim.ite (fun _ => Sim.shift 4 (G := fun n => (R n 22 0 [qr 0, qi 0, qi x11] [] 36 m0).bind fun y => RLv sl sc n 1 366 [qr 1, qi x1, qn, qn, qn, qn, qn, qn, qn, qi x9, qi x10, qi x11, qn, qn] [] [(36, m0)] 0 y) (fun _ => rfl) (Sim.call (f_labelOf_ok 0 x11 m0) (fun _ _ => rfl) (runP_mono _ _ _ _ _ _) (fun _ => runL_mono _ _ _ _ _) (fun r_95 => Sim.shift 0 (G := fun n => RL sl sc n 1 366 [qr 1, qi x1, qn, qn, qn, qn, qn, qn, qn, qi x9, qi x10, qi x11, qn, qn] [vi r_95] [(36, m0)]) (fun _ => rfl) (Sim.shift 5 (G := fun n => (R n 22 0 [qr 0, qi 1, qi x11] [] 36 m0).bind fun y => RLv sl sc n 1 375 [qr 1, qi x1, qn, qn, qn, qn, qn, qn, qn, qi x9, qi x10, qi x11, qi r_95, qn] [] [(36, m0)] 0 y) (fun _ => rfl) (Sim.call (f_labelOf_ok 1 x11 m0) (fun _ _ => rfl) (runP_mono _ _ _ _ _ _) (fun _ => runL_mono _ _ _ _ _) (fun r_96 => Sim.shift 0 (G := fun n => RL sl sc n 1 375 [qr 1, qi x1, qn, qn, qn, qn, qn, qn, qn, qi x9, qi x10, qi x11, qi r_95, qn] [vi r_96] [(36, m0)]) (fun _ => rfl) (Sim.shift 3 (G := fun n => if r_95 < 0 then RL sl sc n 1 399 [qr 1, qi x1, qn, qn, qn, qn, qn, qn, qn, qi x9, qi x10, qi x11, qi r_95, qi r_96] [] [(36, m0)] else RL sl sc n 1 382 [qr 1, qi x1, qn, qn, qn, qn, qn, qn, qn, qi x9, qi x10, qi x11, qi r_95, qi r_96] [] [(36, m0)]) (fun _ => rfl) (Sim.ite (fun _ => Sim.leaf rfl (fun _ => rfl)) (fun _ => Sim.shift 3 (G := fun n => if 3 < r_95 then RL sl sc n 1 399 [qr 1, qi x1, qn, qn, qn, qn, qn, qn, qn, qi x9, qi x10, qi x11, qi r_95, qi r_96] [] [(36, m0)] else RL sl sc n 1 388 [qr 1, qi x1, qn, qn, qn, qn, qn, qn, qn, qi x9, qi x10, qi x11, qi r_95, qi r_96] [] [(36, m0)]) (fun _ => rfl) (Sim.ite (fun _ => Sim.leaf rfl (fun _ => rfl)) (fun _ => Sim.shift 2 (G := fun n => if r_96 < 0 then RL sl sc n 1 399 [qr 1, qi x1, qn, qn, qn, qn, qn, qn, qn, qi x9, qi x10, qi x11, qn, qi r_96] [] [(36, m0)] else RL sl sc n 1 393 [qr 1, qi x1, qn, qn, qn, qn, qn, qn, qn, qi x9, qi x10, qi x11, qn, qi r_96] [] [(36, m0)]) (fun _ => rfl) (Sim.ite (fun _ => Sim.leaf rfl (fun _ => rfl)) (fun _ => Sim.shift 3 (G := fun n => if 3 < r_96 then RL sl sc n 1 399 [qr 1, qi x1, qn, qn, qn, qn, qn, qn, qn, qi x9, qi x10, qi x11, qn, qi r_96] [] [(36, m0)] else RL sl sc n 1 401 [qr 1, qi x1, qn, qn, qn, qn, qn, qn, qn, qi x9, qi x10, qi x11, qn, qi r_96] [] [(36, m0)]) (fun _ => rfl) (Sim.ite (fun _ => Sim.leaf rfl (fun _ => rfl)) (fun _ => Sim.shift 2 (G := fun n => RL sl sc n 1 352 [qr 1, qi x1, qn, qn, qn, qn, qn, qn, qn, qi x9, qi x10, qi (w32 (x11 + 1)), qn, qn] [] [(36, m0)]) (fun _ => rfl) (Sim.pur _ _)))))))))))))))) (fun _ => Sim.leaf rfl (fun _ => rfl)))
def l_inv_b399 (sl : Int) (sc : Int → Int) (m0 : OMem) : Option (Int) := some 0
set_option maxRecDepth 65536 in
set_option maxHeartbeats 16000000 in
theorem l_inv_b399_ok (sl : Int) (sc : Int → Int) (m0 : OMem) : Sim (l_inv_b399 sl sc m0) (fun r _ => some (some (vi r), [(36, m0)])) (fun n => RL sl sc n 1 399 [qn, qn, qn, qn, qn, qn, qn, qn, qn, qn, qn, qn, qn, qn] [] [(36, m0)]) :=
  Sim.shift 2 (G := (fun _ => some (some (vi 0), [(36, m0)]))) (fun _ => rfl) (Sim.pur _ _)
def l_inv_b434 (sl : Int) (sc : Int → Int) (m0 : OMem) : Option (Int) := some 0
set_option maxRecDepth 65536 in
set_option maxHeartbeats 16000000 in
theorem l_inv_b434_ok (sl : Int) (sc : Int → Int) (m0 : OMem) : Sim (l_inv_b434 sl sc m0) (fun r _ => some (some (vi r), [(36, m0)])) (fun n => RL sl sc n 1 434 [qn, qn, qn, qn, qn, qn, qn, qn, qn, qn, qn, qn, qn, qn] [] [(36, m0)]) :=
  Sim.shift 2 (G := (fun _ => some (some (vi 0), [(36, m0)]))) (fun _ => rfl) (Sim.pur _ _)
def l_inv_b485 (sl : Int) (sc : Int → Int) (m0 : OMem) : Option (Int) := some 0
set_option maxRecDepth 65536 in
set_option maxHeartbeats 16000000 in
theorem l_inv_b485_ok (sl : Int) (sc : Int → Int) (m0 : OMem) : Sim (l_inv_b485 sl sc m0) (fun r _ => some (some (vi r), [(36, m0)])) (fun n => RL sl sc n 1 485 [qn, qn, qn, qn, qn, qn, qn, qn, qn, qn, qn, qn, qn, qn] [] [(36, m0)]) :=
  Sim.shift 2 (G := (fun _ => some (some (vi 0), [(36, m0)]))) (fun _ => rfl) (Sim.pur _ _)
def l_inv_b487 (sl : Int) (sc : Int → Int) (m0 : OMem) : Option (Int) := some 1
set_option maxRecDepth 65536 in
set_option maxHeartbeats 16000000 in
theorem l_inv_b487_ok (sl : Int) (sc : Int → Int) (m0 : OMem) : Sim (l_inv_b487 sl sc m0) (fun r _ => some (some (vi r), [(36, m0)])) (fun n => RL sl sc n 1 487 [qn, qn, qn, qn, qn, qn, qn, qn, qn, qn, qn, qn, qn, qn] [] [(36, m0)]) :=
  Sim.shift 2 (G := (fun _ => some (some (vi 1), [(36, m0)]))) (fun _ => rfl) (Sim.pur _ _)
def l_inv_b436 (sl : Int) (sc : Int → Int) (x1 x10 : Int) (m0 : OMem) : Option (Int) := if 0 < x10 then ((f_auditEntry (w32 (x10 - 1)) 0 m0).bind fun r_98 => ((f_auditEntry (w32 (x10 - 1)) 2 m0).bind fun r_99 => (if r_98 < 0 then (l_inv_b485 sl sc m0) else (if r_98 < x1 then (if r_99 < 0 then (l_inv_b485 sl sc m0) else (if 3 < r_99 then (l_inv_b485 sl sc m0) else (l_inv_b487 sl sc m0))) else (l_inv_b485 sl sc m0))))) else (l_inv_b487 sl sc m0)
set_option maxRecDepth 65536 in
set_option maxHeartbeats 16000000 in
theorem l_inv_b436_ok (sl : Int) (sc : Int → Int) (x1 x10 : Int) (m0 : OMem) : Sim (l_inv_b436 sl sc x1 x10 m0) (fun r _ => some (some (vi r), [(36, m0)])) (fun n => RL sl sc n 1 436 [qr 1, qi x1, qn, qn, qn, qn, qn, qn, qn, qn, qi x10, qn, qn, qn] [] [(36, m0)]) :=
  Sim.shift 2 (G := fun n => if 0 < x10 then RL sl sc n 1 441 [qr 1, qi x1, qn, qn, qn, qn, qn, qn, qn, qn, qi x10, qn, qn, qn] [] [(36, m0)] else RL sl sc n 1 487 [qr 1, qi x1, qn, qn, qn, qn, qn, qn, qn, qn, qi x10, qn, qn, qn] [] [(36, m0)]) (fun _ => rfl) (Sim.ite (fun _ => Sim.shift 6 (G := fun n => (R n 41 0 [qr 0, qi (w32 (x10 - 1)), qi 0] [] 36 m0).bind fun y => RLv sl sc n 1 450 [qr 1, qi x1, qn, qn, qn, qn, qn, qn, qn, qn, qi x10, qn, qn, qn] [] [(36, m0)] 0 y) (fun _ => rfl) (Sim.call (f_auditEntry_ok (w32 (x10 - 1)) 0 m0) (fun _ _ => rfl) (runP_mono _ _ _ _ _ _) (fun _ => runL_mono _ _ _ _ _) (fun r_98 => Sim.shift 0 (G := fun n => RL sl sc n 1 450 [qr 1, qi x1, qn, qn, qn, qn, qn, qn, qn, qn, qi x10, qn, qn, qn] [vi r_98] [(36, m0)]) (fun _ => rfl) (Sim.shift 5 (G := fun n => RL sl sc n 1 457 [qr 1, qi x1, qn, qn, qn, qn, qn, qn, qn, qn, qi x10, qi r_98, qn, qn] [vi (w32 (x10 - 1)), vr 1] [(36, m0)]) (fun _ => rfl) (Sim.shift 2 (G := fun n => (R n 41 0 [qr 0, qi (w32 (x10 - 1)), qi 2] [] 36 m0).bind fun y => RLv sl sc n 1 461 [qr 1, qi x1, qn, qn, qn, qn, qn, qn, qn, qn, qi x10, qi r_98, qn, qn] [] [(36, m0)] 0 y) (fun _ => rfl) (Sim.call (f_auditEntry_ok (w32 (x10 - 1)) 2 m0) (fun _ _ => rfl) (runP_mono _ _ _ _ _ _) (fun _ => runL_mono _ _ _ _ _) (fun r_99 => Sim.shift 0 (G := fun n => RL sl sc n 1 461 [qr 1, qi x1, qn, qn, qn, qn, qn, qn, qn, qn, qi x10, qi r_98, qn, qn] [vi r_99] [(36, m0)]) (fun _ => rfl) (Sim.shift 3 (G := fun n => if r_98 < 0 then RL sl sc n 1 485 [qr 1, qi x1, qn, qn, qn, qn, qn, qn, qn, qn, qi x10, qi r_98, qi r_99, qn] [] [(36, m0)] else RL sl sc n 1 468 [qr 1, qi x1, qn, qn, qn, qn, qn, qn, qn, qn, qi x10, qi r_98, qi r_99, qn] [] [(36, m0)]) (fun _ => rfl) (Sim.ite (fun _ => Sim.jmp (l_inv_b485_ok sl sc m0) rfl (fun _ => rfl)) (fun _ => Sim.shift 3 (G := fun n => if r_98 < x1 then RL sl sc n 1 474 [qn, qi x1, qn, qn, qn, qn, qn, qn, qn, qn, qn, qi r_98, qi r_99, qn] [] [(36, m0)] else RL sl sc n 1 485 [qn, qi x1, qn, qn, qn, qn, qn, qn, qn, qn, qn, qi r_98, qi r_99, qn] [] [(36, m0)]) (fun _ => rfl) (Sim.ite (fun _ => Sim.shift 2 (G := fun n => if r_99 < 0 then RL sl sc n 1 485 [qn, qn, qn, qn, qn, qn, qn, qn, qn, qn, qn, qn, qi r_99, qn] [] [(36, m0)] else RL sl sc n 1 479 [qn, qn, qn, qn, qn, qn, qn, qn, qn, qn, qn, qn, qi r_99, qn] [] [(36, m0)]) (fun _ => rfl) (Sim.ite (fun _ => Sim.jmp (l_inv_b485_ok sl sc m0) rfl (fun _ => rfl)) (fun _ => Sim.shift 3 (G := fun n => if 3 < r_99 then RL sl sc n 1 485 [qn, qn, qn, qn, qn, qn, qn, qn, qn, qn, qn, qn, qi r_99, qn] [] [(36, m0)] else RL sl sc n 1 487 [qn, qn, qn, qn, qn, qn, qn, qn, qn, qn, qn, qn, qi r_99, qn] [] [(36, m0)]) (fun _ => rfl) (Sim.ite (fun _ => Sim.jmp (l_inv_b485_ok sl sc m0) rfl (fun _ => rfl)) (fun _ => Sim.jmp (l_inv_b487_ok sl sc m0) rfl (fun _ => rfl)))))) (fun _ => Sim.jmp (l_inv_b485_ok sl sc m0) rfl (fun _ => rfl))))))))))))) (fun _ => Sim.jmp (l_inv_b487_ok sl sc m0) rfl (fun _ => rfl)))
def l_inv_b347 (sl : Int) (sc : Int → Int) (m0 : OMem) : Option (Int) := some 0
set_option maxRecDepth 65536 in
set_option maxHeartbeats 16000000 in
theorem l_inv_b347_ok (sl : Int) (sc : Int → Int) (m0 : OMem) : Sim (l_inv_b347 sl sc m0) (fun r _ => some (some (vi r), [(36, m0)])) (fun n => RL sl sc n 1 347 [qn, qn, qn, qn, qn, qn, qn, qn, qn, qn, qn, qn, qn, qn] [] [(36, m0)]) :=
  Sim.shift 2 (G := (fun _ => some (some (vi 0), [(36, m0)]))) (fun _ => rfl) (Sim.pur _ _)
def l_inv_b261 (sl : Int) (sc : Int → Int) (m0 : OMem) : Option (Int) := some 0
set_option maxRecDepth 65536 in
set_option maxHeartbeats 16000000 in
theorem l_inv_b261_ok (sl : Int) (sc : Int → Int) (m0 : OMem) : Sim (l_inv_b261 sl sc m0) (fun r _ => some (some (vi r), [(36, m0)])) (fun n => RL sl sc n 1 261 [qn, qn, qn, qn, qn, qn, qn, qn, qn, qn, qn, qn, qn, qn] [] [(36, m0)]) :=
  Sim.shift 2 (G := (fun _ => some (some (vi 0), [(36, m0)]))) (fun _ => rfl) (Sim.pur _ _)
def l_inv_b243 (sl : Int) (sc : Int → Int) (x1 x9 x10 : Int) (m0 : OMem) : Option (Int) := (f_join x1 m0).bind fun r_88 => (if r_88 = (-1) then ((f_join (-1) m0).bind fun r_89 => (if r_89 = (-1) then ((lp (l_inv_l266 sl sc m0 x1 x9 x10) NN 0).bind fun e => match e with | (.inl _) => (l_inv_b298 sl sc m0) | (.inr _) => ((f_reg 8 m0).bind fun r_91 => (if r_91 = 0 then ((f_labelOf 0 8 m0).bind fun r_92 => (if r_92 = (-1) then ((f_labelOf 1 8 m0).bind fun r_93 => (if r_93 = (-1) then ((f_labelOf 2 0 m0).bind fun r_94 => (if r_94 = (-1) then ((lp (l_inv_l352 sl sc m0 x1 x9 x10) NN 0).bind fun e => match e with | (.inl _) => (l_inv_b399 sl sc m0) | (.inr _) => (if 0 < x9 then ((f_outEntry (w32 (x9 - 1)) 0 m0).bind fun r_97 => (if r_97 < 0 then (l_inv_b434 sl sc m0) else (if 3 < r_97 then (l_inv_b434 sl sc m0) else (l_inv_b436 sl sc x1 x10 m0)))) else (l_inv_b436 sl sc x1 x10 m0))) else (l_inv_b347 sl sc m0))) else (l_inv_b347 sl sc m0))) else (l_inv_b347 sl sc m0))) else (l_inv_b347 sl sc m0)))) else (l_inv_b261 sl sc m0))) else (l_inv_b261 sl sc m0))
set_option maxRecDepth 65536 in
set_option maxHeartbeats 16000000 in
theorem l_inv_b243_ok (sl : Int) (sc : Int → Int) (x1 x9 x10 : Int) (m0 : OMem) : Sim (l_inv_b243 sl sc x1 x9 x10 m0) (fun r _ => some (some (vi r), [(36, m0)])) (fun n => RL sl sc n 1 243 [qr 1, qi x1, qn, qn, qn, qn, qn, qn, qn, qi x9, qi x10, qn, qn, qn] [] [(36, m0)]) :=
  Sim.shift 3 (G := fun n => (R n 20 0 [qr 0, qi x1] [] 36 m0).bind fun y => RLv sl sc n 1 248 [qr 1, qi x1, qn, qn, qn, qn, qn, qn, qn, qi x9, qi x10, qn, qn, qn] [] [(36, m0)] 0 y) (fun _ => rfl) (Sim.call (f_join_ok x1 m0) (fun _ _ => rfl) (runP_mono _ _ _ _ _ _) (fun _ => runL_mono _ _ _ _ _) (fun r_88 => Sim.shift 0 (G := fun n => RL sl sc n 1 248 [qr 1, qi x1, qn, qn, qn, qn, qn, qn, qn, qi x9, qi x10, qn, qn, qn] [vi r_88] [(36, m0)]) (fun _ => rfl) (Sim.shift 2 (G := fun n => if r_88 = (-1) then RL sl sc n 1 252 [qr 1, qi x1, qn, qn, qn, qn, qn, qn, qn, qi x9, qi x10, qn, qn, qn] [] [(36, m0)] else RL sl sc n 1 261 [qr 1, qi x1, qn, qn, qn, qn, qn, qn, qn, qi x9, qi x10, qn, qn, qn] [] [(36, m0)]) (fun _ => rfl) (Sim.ite (fun _ => Sim.shift 3 (G := fun n => (R n 20 0 [qr 0, qi (-1)] [] 36 m0).bind fun y => RLv sl sc n 1 257 [qr 1, qi x1, qn, qn, qn, qn, qn, qn, qn, qi x9, qi x10, qn, qn, qn] [] [(36, m0)] 0 y) (fun _ => rfl) (Sim.call (f_join_ok (-1) m0) (fun _ _ => rfl) (runP_mono _ _ _ _ _ _) (fun _ => runL_mono _ _ _ _ _) (fun r_89 => Sim.shift 0 (G := fun n => RL sl sc n 1 257 [qr 1, qi x1, qn, qn, qn, qn, qn, qn, qn, qi x9, qi x10, qn, qn, qn] [vi r_89] [(36, m0)]) (fun _ => rfl) (Sim.shift 2 (G := fun n => if r_89 = (-1) then RL sl sc n 1 263 [qr 1, qi x1, qn, qn, qn, qn, qn, qn, qn, qi x9, qi x10, qn, qn, qn] [] [(36, m0)] else RL sl sc n 1 261 [qr 1, qi x1, qn, qn, qn, qn, qn, qn, qn, qi x9, qi x10, qn, qn, qn] [] [(36, m0)]) (fun _ => rfl) (Sim.ite (fun _ => Sim.shift 2 (G := fun n => RL sl sc n 1 266 [qr 1, qi x1, qn, qn, qn, qn, qn, qn, qn, qi x9, qi x10, qi 0, qn, qn] [] [(36, m0)]) (fun _ => rfl) (Sim.bind (Sim.lp (fun x11L => l_inv_l266_ok sl sc m0 x1 x9 x10 x11L) NN 0) (fun e => match e with | (.inl _) => l_inv_b298_ok sl sc m0 | (.inr _) => Sim.shift 3 (G := fun n => (R n 21 0 [qr 0, qi 8] [] 36 m0).bind fun y => RLv sl sc n 1 312 [qr 1, qi x1, qn, qn, qn, qn, qn, qn, qn, qi x9, qi x10, qn, qn, qn] [] [(36, m0)] 0 y) (fun _ => rfl) (Sim.call (f_reg_ok 8 m0) (fun _ _ => rfl) (runP_mono _ _ _ _ _ _) (fun _ => runL_mono _ _ _ _ _) (fun r_91 => Sim.shift 0 (G := fun n => RL sl sc n 1 312 [qr 1, qi x1, qn, qn, qn, qn, qn, qn, qn, qi x9, qi x10, qn, qn, qn] [vi r_91] [(36, m0)]) (fun _ => rfl) (Sim.shift 1 (G := fun n => if r_91 = 0 then RL sl sc n 1 315 [qr 1, qi x1, qn, qn, qn, qn, qn, qn, qn, qi x9, qi x10, qn, qn, qn] [] [(36, m0)] else RL sl sc n 1 347 [qr 1, qi x1, qn, qn, qn, qn, qn, qn, qn, qi x9, qi x10, qn, qn, qn] [] [(36, m0)]) (fun _ => rfl) (Sim.ite (fun _ => Sim.shift 4 (G := fun n => (R n 22 0 [qr 0, qi 0, qi 8] [] 36 m0).bind fun y => RLv sl sc n 1 322 [qr 1, qi x1, qn, qn, qn, qn, qn, qn, qn, qi x9, qi x10, qn, qn, qn] [] [(36, m0)] 0 y) (fun _ => rfl) (Sim.call (f_labelOf_ok 0 8 m0) (fun _ _ => rfl) (runP_mono _ _ _ _ _ _) (fun _ => runL_mono _ _ _ _ _) (fun r_92 => Sim.shift 0 (G := fun n => RL sl sc n 1 322 [qr 1, qi x1, qn, qn, qn, qn, qn, qn, qn, qi x9, qi x10, qn, qn, qn] [vi r_92] [(36, m0)]) (fun _ => rfl) (Sim.shift 2 (G := fun n => if r_92 = (-1) then RL sl sc n 1 326 [qr 1, qi x1, qn, qn, qn, qn, qn, qn, qn, qi x9, qi x10, qn, qn, qn] [] [(36, m0)] else RL sl sc n 1 347 [qr 1, qi x1, qn, qn, qn, qn, qn, qn, qn, qi x9, qi x10, qn, qn, qn] [] [(36, m0)]) (fun _ => rfl) (Sim.ite (fun _ => Sim.shift 4 (G := fun n => (R n 22 0 [qr 0, qi 1, qi 8] [] 36 m0).bind fun y => RLv sl sc n 1 333 [qr 1, qi x1, qn, qn, qn, qn, qn, qn, qn, qi x9, qi x10, qn, qn, qn] [] [(36, m0)] 0 y) (fun _ => rfl) (Sim.call (f_labelOf_ok 1 8 m0) (fun _ _ => rfl) (runP_mono _ _ _ _ _ _) (fun _ => runL_mono _ _ _ _ _) (fun r_93 => Sim.shift 0 (G := fun n => RL sl sc n 1 333 [qr 1, qi x1, qn, qn, qn, qn, qn, qn, qn, qi x9, qi x10, qn, qn, qn] [vi r_93] [(36, m0)]) (fun _ => rfl) (Sim.shift 2 (G := fun n => if r_93 = (-1) then RL sl sc n 1 337 [qr 1, qi x1, qn, qn, qn, qn, qn, qn, qn, qi x9, qi x10, qn, qn, qn] [] [(36, m0)] else RL sl sc n 1 347 [qr 1, qi x1, qn, qn, qn, qn, qn, qn, qn, qi x9, qi x10, qn, qn, qn] [] [(36, m0)]) (fun _ => rfl) (Sim.ite (fun _ => Sim.shift 4 (G := fun n => (R n 22 0 [qr 0, qi 2, qi 0] [] 36 m0).bind fun y => RLv sl sc n 1 343 [qr 1, qi x1, qn, qn, qn, qn, qn, qn, qn, qi x9, qi x10, qn, qn, qn] [] [(36, m0)] 0 y) (fun _ => rfl) (Sim.call (f_labelOf_ok 2 0 m0) (fun _ _ => rfl) (runP_mono _ _ _ _ _ _) (fun _ => runL_mono _ _ _ _ _) (fun r_94 => Sim.shift 0 (G := fun n => RL sl sc n 1 343 [qr 1, qi x1, qn, qn, qn, qn, qn, qn, qn, qi x9, qi x10, qn, qn, qn] [vi r_94] [(36, m0)]) (fun _ => rfl) (Sim.shift 2 (G := fun n => if r_94 = (-1) then RL sl sc n 1 349 [qr 1, qi x1, qn, qn, qn, qn, qn, qn, qn, qi x9, qi x10, qn, qn, qn] [] [(36, m0)] else RL sl sc n 1 347 [qr 1, qi x1, qn, qn, qn, qn, qn, qn, qn, qi x9, qi x10, qn, qn, qn] [] [(36, m0)]) (fun _ => rfl) (Sim.ite (fun _ => Sim.shift 2 (G := fun n => RL sl sc n 1 352 [qr 1, qi x1, qn, qn, qn, qn, qn, qn, qn, qi x9, qi x10, qi 0, qn, qn] [] [(36, m0)]) (fun _ => rfl) (Sim.bind (Sim.lp (fun x11L => l_inv_l352_ok sl sc m0 x1 x9 x10 x11L) NN 0) (fun e => match e with | (.inl _) => l_inv_b399_ok sl sc m0 | (.inr _) => Sim.shift 2 (G := fun n => if 0 < x9 then RL sl sc n 1 412 [qr 1, qi x1, qn, qn, qn, qn, qn, qn, qn, qi x9, qi x10, qn, qn, qn] [] [(36, m0)] else RL sl sc n 1 436 [qr 1, qi x1, qn, qn, qn, qn, qn, qn, qn, qi x9, qi x10, qn, qn, qn] [] [(36, m0)]) (fun _ => rfl) (Sim.ite (fun _ => Sim.shift 6 (G := fun n => (R n 30 0 [qr 0, qi (w32 (x9 - 1)), qi 0] [] 36 m0).bind fun y => RLv sl sc n 1 421 [qr 1, qi x1, qn, qn, qn, qn, qn, qn, qn, qi x9, qi x10, qn, qn, qn] [] [(36, m0)] 0 y) (fun _ => rfl) (Sim.call (f_outEntry_ok (w32 (x9 - 1)) 0 m0) (fun _ _ => rfl) (runP_mono _ _ _ _ _ _) (fun _ => runL_mono _ _ _ _ _) (fun r_97 => Sim.shift 0 (G := fun n => RL sl sc n 1 421 [qr 1, qi x1, qn, qn, qn, qn, qn, qn, qn, qi x9, qi x10, qn, qn, qn] [vi r_97] [(36, m0)]) (fun _ => rfl) (Sim.shift 3 (G := fun n => if r_97 < 0 then RL sl sc n 1 434 [qr 1, qi x1, qn, qn, qn, qn, qn, qn, qn, qi x9, qi x10, qi r_97, qn, qn] [] [(36, m0)] else RL sl sc n 1 428 [qr 1, qi x1, qn, qn, qn, qn, qn, qn, qn, qi x9, qi x10, qi r_97, qn, qn] [] [(36, m0)]) (fun _ => rfl) (Sim.ite (fun _ => Sim.jmp (l_inv_b434_ok sl sc m0) rfl (fun _ => rfl)) (fun _ => Sim.shift 3 (G := fun n => if 3 < r_97 then RL sl sc n 1 434 [qr 1, qi x1, qn, qn, qn, qn, qn, qn, qn, qn, qi x10, qi r_97, qn, qn] [] [(36, m0)] else RL sl sc n 1 436 [qr 1, qi x1, qn, qn, qn, qn, qn, qn, qn, qn, qi x10, qi r_97, qn, qn] [] [(36, m0)]) (fun _ => rfl) (Sim.ite (fun _ => Sim.jmp (l_inv_b434_ok sl sc m0) rfl (fun _ => rfl)) (fun _ => Sim.jmp (l_inv_b436_ok sl sc x1 x10 m0) rfl (fun _ => rfl))))))))) (fun _ => Sim.jmp (l_inv_b436_ok sl sc x1 x10 m0) rfl (fun _ => rfl)))))) (fun _ => Sim.jmp (l_inv_b347_ok sl sc m0) rfl (fun _ => rfl))))))) (fun _ => Sim.jmp (l_inv_b347_ok sl sc m0) rfl (fun _ => rfl))))))) (fun _ => Sim.jmp (l_inv_b347_ok sl sc m0) rfl (fun _ => rfl))))))) (fun _ => Sim.jmp (l_inv_b347_ok sl sc m0) rfl (fun _ => rfl))))))))) (fun _ => Sim.jmp (l_inv_b261_ok sl sc m0) rfl (fun _ => rfl))))))) (fun _ => Sim.jmp (l_inv_b261_ok sl sc m0) rfl (fun _ => rfl))))))
def l_inv_b230 (sl : Int) (sc : Int → Int) (x1 x6 x9 x10 : Int) (m0 : OMem) : Option (Int) := if x6 < 0 then (l_inv_b241 sl sc m0) else (if x6 < x1 then (l_inv_b243 sl sc x1 x9 x10 m0) else (l_inv_b241 sl sc m0))
set_option maxRecDepth 65536 in
set_option maxHeartbeats 16000000 in
theorem l_inv_b230_ok (sl : Int) (sc : Int → Int) (x1 x6 x9 x10 : Int) (m0 : OMem) : Sim (l_inv_b230 sl sc x1 x6 x9 x10 m0) (fun r _ => some (some (vi r), [(36, m0)])) (fun n => RL sl sc n 1 230 [qr 1, qi x1, qn, qn, qn, qn, qi x6, qn, qn, qi x9, qi x10, qn, qn, qn] [] [(36, m0)]) :=
  Sim.shift 2 (G := fun n => if x6 < 0 then RL sl sc n 1 241 [qr 1, qi x1, qn, qn, qn, qn, qi x6, qn, qn, qi x9, qi x10, qn, qn, qn] [] [(36, m0)] else RL sl sc n 1 235 [qr 1, qi x1, qn, qn, qn, qn, qi x6, qn, qn, qi x9, qi x10, qn, qn, qn] [] [(36, m0)]) (fun _ => rfl) (Sim.ite (fun _ => Sim.jmp (l_inv_b241_ok sl sc m0) rfl (fun _ => rfl)) (fun _ => Sim.shift 3 (G := fun n => if x6 < x1 then RL sl sc n 1 243 [qr 1, qi x1, qn, qn, qn, qn, qi x6, qn, qn, qi x9, qi x10, qn, qn, qn] [] [(36, m0)] else RL sl sc n 1 241 [qr 1, qi x1, qn, qn, qn, qn, qi x6, qn, qn, qi x9, qi x10, qn, qn, qn] [] [(36, m0)]) (fun _ => rfl) (Sim.ite (fun _ => Sim.jmp (l_inv_b243_ok sl sc x1 x9 x10 m0) rfl (fun _ => rfl)) (fun _ => Sim.jmp (l_inv_b241_ok sl sc m0) rfl (fun _ => rfl)))))
def l_inv_b218 (sl : Int) (sc : Int → Int) (x1 x4 x6 x9 x10 : Int) (m0 : OMem) : Option (Int) := if x4 = 1 then (l_inv_b230 sl sc x1 x6 x9 x10 m0) else (if x4 = 3 then (l_inv_b230 sl sc x1 x6 x9 x10 m0) else (l_inv_b243 sl sc x1 x9 x10 m0))
set_option maxRecDepth 65536 in
set_option maxHeartbeats 16000000 in
theorem l_inv_b218_ok (sl : Int) (sc : Int → Int) (x1 x4 x6 x9 x10 : Int) (m0 : OMem) : Sim (l_inv_b218 sl sc x1 x4 x6 x9 x10 m0) (fun r _ => some (some (vi r), [(36, m0)])) (fun n => RL sl sc n 1 218 [qr 1, qi x1, qn, qn, qi x4, qn, qi x6, qn, qn, qi x9, qi x10, qn, qn, qn] [] [(36, m0)]) :=
  Sim.shift 3 (G := fun n => if x4 = 1 then RL sl sc n 1 230 [qr 1, qi x1, qn, qn, qi x4, qn, qi x6, qn, qn, qi x9, qi x10, qn, qn, qn] [] [(36, m0)] else RL sl sc n 1 224 [qr 1, qi x1, qn, qn, qi x4, qn, qi x6, qn, qn, qi x9, qi x10, qn, qn, qn] [] [(36, m0)]) (fun _ => rfl) (Sim.ite (fun _ => Sim.jmp (l_inv_b230_ok sl sc x1 x6 x9 x10 m0) rfl (fun _ => rfl)) (fun _ => Sim.shift 3 (G := fun n => if x4 = 3 then RL sl sc n 1 230 [qr 1, qi x1, qn, qn, qi x4, qn, qi x6, qn, qn, qi x9, qi x10, qn, qn, qn] [] [(36, m0)] else RL sl sc n 1 243 [qr 1, qi x1, qn, qn, qi x4, qn, qi x6, qn, qn, qi x9, qi x10, qn, qn, qn] [] [(36, m0)]) (fun _ => rfl) (Sim.ite (fun _ => Sim.jmp (l_inv_b230_ok sl sc x1 x6 x9 x10 m0) rfl (fun _ => rfl)) (fun _ => Sim.jmp (l_inv_b243_ok sl sc x1 x9 x10 m0) rfl (fun _ => rfl)))))
def l_inv_b216 (sl : Int) (sc : Int → Int) (m0 : OMem) : Option (Int) := some 0
set_option maxRecDepth 65536 in
set_option maxHeartbeats 16000000 in
theorem l_inv_b216_ok (sl : Int) (sc : Int → Int) (m0 : OMem) : Sim (l_inv_b216 sl sc m0) (fun r _ => some (some (vi r), [(36, m0)])) (fun n => RL sl sc n 1 216 [qn, qn, qn, qn, qn, qn, qn, qn, qn, qn, qn, qn, qn, qn] [] [(36, m0)]) :=
  Sim.shift 2 (G := (fun _ => some (some (vi 0), [(36, m0)]))) (fun _ => rfl) (Sim.pur _ _)
def l_inv_b199 (sl : Int) (sc : Int → Int) (x1 x4 x6 x7 x9 x10 : Int) (m0 : OMem) : Option (Int) := if x4 = 2 then (if x6 = x1 then (if x7 = 0 then (l_inv_b218 sl sc x1 x4 x6 x9 x10 m0) else (l_inv_b216 sl sc m0)) else (l_inv_b216 sl sc m0)) else (l_inv_b218 sl sc x1 x4 x6 x9 x10 m0)
set_option maxRecDepth 65536 in
set_option maxHeartbeats 16000000 in
theorem l_inv_b199_ok (sl : Int) (sc : Int → Int) (x1 x4 x6 x7 x9 x10 : Int) (m0 : OMem) : Sim (l_inv_b199 sl sc x1 x4 x6 x7 x9 x10 m0) (fun r _ => some (some (vi r), [(36, m0)])) (fun n => RL sl sc n 1 199 [qr 1, qi x1, qn, qn, qi x4, qn, qi x6, qi x7, qn, qi x9, qi x10, qn, qn, qn] [] [(36, m0)]) :=
  Sim.shift 3 (G := fun n => if x4 = 2 then RL sl sc n 1 205 [qr 1, qi x1, qn, qn, qi x4, qn, qi x6, qi x7, qn, qi x9, qi x10, qn, qn, qn] [] [(36, m0)] else RL sl sc n 1 218 [qr 1, qi x1, qn, qn, qi x4, qn, qi x6, qi x7, qn, qi x9, qi x10, qn, qn, qn] [] [(36, m0)]) (fun _ => rfl) (Sim.ite (fun _ => Sim.shift 3 (G := fun n => if x6 = x1 then RL sl sc n 1 211 [qr 1, qi x1, qn, qn, qi x4, qn, qi x6, qi x7, qn, qi x9, qi x10, qn, qn, qn] [] [(36, m0)] else RL sl sc n 1 216 [qr 1, qi x1, qn, qn, qi x4, qn, qi x6, qi x7, qn, qi x9, qi x10, qn, qn, qn] [] [(36, m0)]) (fun _ => rfl) (Sim.ite (fun _ => Sim.shift 2 (G := fun n => if x7 = 0 then RL sl sc n 1 218 [qr 1, qi x1, qn, qn, qi x4, qn, qi x6, qi x7, qn, qi x9, qi x10, qn, qn, qn] [] [(36, m0)] else RL sl sc n 1 216 [qr 1, qi x1, qn, qn, qi x4, qn, qi x6, qi x7, qn, qi x9, qi x10, qn, qn, qn] [] [(36, m0)]) (fun _ => rfl) (Sim.ite (fun _ => Sim.jmp (l_inv_b218_ok sl sc x1 x4 x6 x9 x10 m0) rfl (fun _ => rfl)) (fun _ => Sim.jmp (l_inv_b216_ok sl sc m0) rfl (fun _ => rfl)))) (fun _ => Sim.jmp (l_inv_b216_ok sl sc m0) rfl (fun _ => rfl)))) (fun _ => Sim.jmp (l_inv_b218_ok sl sc x1 x4 x6 x9 x10 m0) rfl (fun _ => rfl)))
def l_inv_b197 (sl : Int) (sc : Int → Int) (m0 : OMem) : Option (Int) := some 0
set_option maxRecDepth 65536 in
set_option maxHeartbeats 16000000 in
theorem l_inv_b197_ok (sl : Int) (sc : Int → Int) (m0 : OMem) : Sim (l_inv_b197 sl sc m0) (fun r _ => some (some (vi r), [(36, m0)])) (fun n => RL sl sc n 1 197 [qn, qn, qn, qn, qn, qn, qn, qn, qn, qn, qn, qn, qn, qn] [] [(36, m0)]) :=
  Sim.shift 2 (G := (fun _ => some (some (vi 0), [(36, m0)]))) (fun _ => rfl) (Sim.pur _ _)
def l_inv_b153 (sl : Int) (sc : Int → Int) (x1 x2 x4 x6 x7 x9 x10 : Int) (m0 : OMem) : Option (Int) := if 0 < lcm (w32 (x9 + x10)) x2 then (some 0) else (if x4 = 0 then (if x6 = 0 then (if x7 = 0 then (if x9 = 0 then (if x10 = 0 then (if lcm x2 0 = 0 then (l_inv_b199 sl sc x1 x4 x6 x7 x9 x10 m0) else (l_inv_b197 sl sc m0)) else (l_inv_b197 sl sc m0)) else (l_inv_b197 sl sc m0)) else (l_inv_b197 sl sc m0)) else (l_inv_b197 sl sc m0)) else (l_inv_b199 sl sc x1 x4 x6 x7 x9 x10 m0))
set_option maxRecDepth 65536 in
set_option maxHeartbeats 16000000 in
theorem l_inv_b153_ok (sl : Int) (sc : Int → Int) (x1 x2 x4 x6 x7 x9 x10 : Int) (m0 : OMem) : Sim (l_inv_b153 sl sc x1 x2 x4 x6 x7 x9 x10 m0) (fun r _ => some (some (vi r), [(36, m0)])) (fun n => RL sl sc n 1 153 [qr 1, qi x1, qj x2, qn, qi x4, qn, qi x6, qi x7, qn, qi x9, qi x10, qn, qn, qn] [] [(36, m0)]) :=
  Sim.shift 6 (G := fun n => RL sl sc n 1 161 [qr 1, qi x1, qj x2, qn, qi x4, qn, qi x6, qi x7, qn, qi x9, qi x10, qn, qn, qn] [vi (lcm (w32 (x9 + x10)) x2)] [(36, m0)]) (fun _ => rfl) (Sim.shift 1 (G := fun n => if 0 < lcm (w32 (x9 + x10)) x2 then RL sl sc n 1 164 [qr 1, qi x1, qj x2, qn, qi x4, qn, qi x6, qi x7, qn, qi x9, qi x10, qn, qn, qn] [] [(36, m0)] else RL sl sc n 1 166 [qr 1, qi x1, qj x2, qn, qi x4, qn, qi x6, qi x7, qn, qi x9, qi x10, qn, qn, qn] [] [(36, m0)]) (fun _ => rfl) (Sim.ite (fun _ => Sim.shift 2 (G := (fun _ => some (some (vi 0), [(36, m0)]))) (fun _ => rfl) (Sim.pur _ _)) (fun _ => Sim.shift 2 (G := fun n => if x4 = 0 then RL sl sc n 1 171 [qr 1, qi x1, qj x2, qn, qi x4, qn, qi x6, qi x7, qn, qi x9, qi x10, qn, qn, qn] [] [(36, m0)] else RL sl sc n 1 199 [qr 1, qi x1, qj x2, qn, qi x4, qn, qi x6, qi x7, qn, qi x9, qi x10, qn, qn, qn] [] [(36, m0)]) (fun _ => rfl) (Sim.ite (fun _ => Sim.shift 2 (G := fun n => if x6 = 0 then RL sl sc n 1 176 [qr 1, qi x1, qj x2, qn, qi x4, qn, qi x6, qi x7, qn, qi x9, qi x10, qn, qn, qn] [] [(36, m0)] else RL sl sc n 1 197 [qr 1, qi x1, qj x2, qn, qi x4, qn, qi x6, qi x7, qn, qi x9, qi x10, qn, qn, qn] [] [(36, m0)]) (fun _ => rfl) (Sim.ite (fun _ => Sim.shift 2 (G := fun n => if x7 = 0 then RL sl sc n 1 181 [qr 1, qi x1, qj x2, qn, qi x4, qn, qi x6, qi x7, qn, qi x9, qi x10, qn, qn, qn] [] [(36, m0)] else RL sl sc n 1 197 [qr 1, qi x1, qj x2, qn, qi x4, qn, qi x6, qi x7, qn, qi x9, qi x10, qn, qn, qn] [] [(36, m0)]) (fun _ => rfl) (Sim.ite (fun _ => Sim.shift 2 (G := fun n => if x9 = 0 then RL sl sc n 1 186 [qr 1, qi x1, qj x2, qn, qi x4, qn, qi x6, qi x7, qn, qi x9, qi x10, qn, qn, qn] [] [(36, m0)] else RL sl sc n 1 197 [qr 1, qi x1, qj x2, qn, qi x4, qn, qi x6, qi x7, qn, qi x9, qi x10, qn, qn, qn] [] [(36, m0)]) (fun _ => rfl) (Sim.ite (fun _ => Sim.shift 2 (G := fun n => if x10 = 0 then RL sl sc n 1 191 [qr 1, qi x1, qj x2, qn, qi x4, qn, qi x6, qi x7, qn, qi x9, qi x10, qn, qn, qn] [] [(36, m0)] else RL sl sc n 1 197 [qr 1, qi x1, qj x2, qn, qi x4, qn, qi x6, qi x7, qn, qi x9, qi x10, qn, qn, qn] [] [(36, m0)]) (fun _ => rfl) (Sim.ite (fun _ => Sim.shift 4 (G := fun n => if lcm x2 0 = 0 then RL sl sc n 1 199 [qr 1, qi x1, qj x2, qn, qi x4, qn, qi x6, qi x7, qn, qi x9, qi x10, qn, qn, qn] [] [(36, m0)] else RL sl sc n 1 197 [qr 1, qi x1, qj x2, qn, qi x4, qn, qi x6, qi x7, qn, qi x9, qi x10, qn, qn, qn] [] [(36, m0)]) (fun _ => rfl) (Sim.ite (fun _ => Sim.jmp (l_inv_b199_ok sl sc x1 x4 x6 x7 x9 x10 m0) rfl (fun _ => rfl)) (fun _ => Sim.jmp (l_inv_b197_ok sl sc m0) rfl (fun _ => rfl)))) (fun _ => Sim.jmp (l_inv_b197_ok sl sc m0) rfl (fun _ => rfl)))) (fun _ => Sim.jmp (l_inv_b197_ok sl sc m0) rfl (fun _ => rfl)))) (fun _ => Sim.jmp (l_inv_b197_ok sl sc m0) rfl (fun _ => rfl)))) (fun _ => Sim.jmp (l_inv_b197_ok sl sc m0) rfl (fun _ => rfl)))) (fun _ => Sim.jmp (l_inv_b199_ok sl sc x1 x4 x6 x7 x9 x10 m0) rfl (fun _ => rfl))))))
def l_inv_b87 (sl : Int) (sc : Int → Int) (x1 x2 x4 x6 x7 x8 x9 x10 s0 s1 : Int) (m0 : OMem) : Option (Int) := if s0 = s1 then (if x8 < 0 then (l_inv_b139 sl sc m0) else (if 3 < x8 then (l_inv_b139 sl sc m0) else (if x7 < 0 then (l_inv_b139 sl sc m0) else (if 16 < x7 then (l_inv_b139 sl sc m0) else (if x9 < 0 then (l_inv_b139 sl sc m0) else (if 32 < x9 then (l_inv_b139 sl sc m0) else (if x10 < 0 then (l_inv_b139 sl sc m0) else (if 16 < x10 then (l_inv_b139 sl sc m0) else (if x7 = 0 then (if x8 = 0 then (l_inv_b153 sl sc x1 x2 x4 x6 x7 x9 x10 m0) else (some 0)) else (l_inv_b153 sl sc x1 x2 x4 x6 x7 x9 x10 m0)))))))))) else (some 0)
set_option maxRecDepth 65536 in
set_option maxHeartbeats 16000000 in
theorem l_inv_b87_ok (sl : Int) (sc : Int → Int) (x1 x2 x4 x6 x7 x8 x9 x10 s0 s1 : Int) (m0 : OMem) : Sim (l_inv_b87 sl sc x1 x2 x4 x6 x7 x8 x9 x10 s0 s1 m0) (fun r _ => some (some (vi r), [(36, m0)])) (fun n => RL sl sc n 1 87 [qr 1, qi x1, qj x2, qn, qi x4, qn, qi x6, qi x7, qi x8, qi x9, qi x10, qn, qn, qn] [vi s1, vi s0] [(36, m0)]) :=
  Sim.shift 1 (G := fun n => if s0 = s1 then RL sl sc n 1 92 [qr 1, qi x1, qj x2, qn, qi x4, qn, qi x6, qi x7, qi x8, qi x9, qi x10, qn, qn, qn] [] [(36, m0)] else RL sl sc n 1 90 [qr 1, qi x1, qj x2, qn, qi x4, qn, qi x6, qi x7, qi x8, qi x9, qi x10, qn, qn, qn] [] [(36, m0)]) (fun _ => rfl) (Sim.ite (fun _ => Sim.shift 2 (G := fun n => if x8 < 0 then RL sl sc n 1 139 [qr 1, qi x1, qj x2, qn, qi x4, qn, qi x6, qi x7, qi x8, qi x9, qi x10, qn, qn, qn] [] [(36, m0)] else RL sl sc n 1 97 [qr 1, qi x1, qj x2, qn, qi x4, qn, qi x6, qi x7, qi x8, qi x9, qi x10, qn, qn, qn] [] [(36, m0)]) (fun _ => rfl) (Sim.ite (fun _ => Sim.jmp (l_inv_b139_ok sl sc m0) rfl (fun _ => rfl)) (fun _ => Sim.shift 3 (G := fun n => if 3 < x8 then RL sl sc n 1 139 [qr 1, qi x1, qj x2, qn, qi x4, qn, qi x6, qi x7, qi x8, qi x9, qi x10, qn, qn, qn] [] [(36, m0)] else RL sl sc n 1 103 [qr 1, qi x1, qj x2, qn, qi x4, qn, qi x6, qi x7, qi x8, qi x9, qi x10, qn, qn, qn] [] [(36, m0)]) (fun _ => rfl) (Sim.ite (fun _ => Sim.jmp (l_inv_b139_ok sl sc m0) rfl (fun _ => rfl)) (fun _ => Sim.shift 2 (G := fun n => if x7 < 0 then RL sl sc n 1 139 [qr 1, qi x1, qj x2, qn, qi x4, qn, qi x6, qi x7, qi x8, qi x9, qi x10, qn, qn, qn] [] [(36, m0)] else RL sl sc n 1 108 [qr 1, qi x1, qj x2, qn, qi x4, qn, qi x6, qi x7, qi x8, qi x9, qi x10, qn, qn, qn] [] [(36, m0)]) (fun _ => rfl) (Sim.ite (fun _ => Sim.jmp (l_inv_b139_ok sl sc m0) rfl (fun _ => rfl)) (fun _ => Sim.shift 3 (G := fun n => if 16 < x7 then RL sl sc n 1 139 [qr 1, qi x1, qj x2, qn, qi x4, qn, qi x6, qi x7, qi x8, qi x9, qi x10, qn, qn, qn] [] [(36, m0)] else RL sl sc n 1 115 [qr 1, qi x1, qj x2, qn, qi x4, qn, qi x6, qi x7, qi x8, qi x9, qi x10, qn, qn, qn] [] [(36, m0)]) (fun _ => rfl) (Sim.ite (fun _ => Sim.jmp (l_inv_b139_ok sl sc m0) rfl (fun _ => rfl)) (fun _ => Sim.shift 2 (G := fun n => if x9 < 0 then RL sl sc n 1 139 [qr 1, qi x1, qj x2, qn, qi x4, qn, qi x6, qi x7, qi x8, qi x9, qi x10, qn, qn, qn] [] [(36, m0)] else RL sl sc n 1 120 [qr 1, qi x1, qj x2, qn, qi x4, qn, qi x6, qi x7, qi x8, qi x9, qi x10, qn, qn, qn] [] [(36, m0)]) (fun _ => rfl) (Sim.ite (fun _ => Sim.jmp (l_inv_b139_ok sl sc m0) rfl (fun _ => rfl)) (fun _ => Sim.shift 3 (G := fun n => if 32 < x9 then RL sl sc n 1 139 [qr 1, qi x1, qj x2, qn, qi x4, qn, qi x6, qi x7, qi x8, qi x9, qi x10, qn, qn, qn] [] [(36, m0)] else RL sl sc n 1 127 [qr 1, qi x1, qj x2, qn, qi x4, qn, qi x6, qi x7, qi x8, qi x9, qi x10, qn, qn, qn] [] [(36, m0)]) (fun _ => rfl) (Sim.ite (fun _ => Sim.jmp (l_inv_b139_ok sl sc m0) rfl (fun _ => rfl)) (fun _ => Sim.shift 2 (G := fun n => if x10 < 0 then RL sl sc n 1 139 [qr 1, qi x1, qj x2, qn, qi x4, qn, qi x6, qi x7, qi x8, qi x9, qi x10, qn, qn, qn] [] [(36, m0)] else RL sl sc n 1 132 [qr 1, qi x1, qj x2, qn, qi x4, qn, qi x6, qi x7, qi x8, qi x9, qi x10, qn, qn, qn] [] [(36, m0)]) (fun _ => rfl) (Sim.ite (fun _ => Sim.jmp (l_inv_b139_ok sl sc m0) rfl (fun _ => rfl)) (fun _ => Sim.shift 3 (G := fun n => if 16 < x10 then RL sl sc n 1 139 [qr 1, qi x1, qj x2, qn, qi x4, qn, qi x6, qi x7, qi x8, qi x9, qi x10, qn, qn, qn] [] [(36, m0)] else RL sl sc n 1 141 [qr 1, qi x1, qj x2, qn, qi x4, qn, qi x6, qi x7, qi x8, qi x9, qi x10, qn, qn, qn] [] [(36, m0)]) (fun _ => rfl) (Sim.ite (fun _ => Sim.jmp (l_inv_b139_ok sl sc m0) rfl (fun _ => rfl)) (fun _ => Sim.shift 2 (G := fun n => if x7 = 0 then RL sl sc n 1 146 [qr 1, qi x1, qj x2, qn, qi x4, qn, qi x6, qi x7, qi x8, qi x9, qi x10, qn, qn, qn] [] [(36, m0)] else RL sl sc n 1 153 [qr 1, qi x1, qj x2, qn, qi x4, qn, qi x6, qi x7, qi x8, qi x9, qi x10, qn, qn, qn] [] [(36, m0)]) (fun _ => rfl) (Sim.ite (fun _ => Sim.shift 2 (G := fun n => if x8 = 0 then RL sl sc n 1 153 [qr 1, qi x1, qj x2, qn, qi x4, qn, qi x6, qi x7, qi x8, qi x9, qi x10, qn, qn, qn] [] [(36, m0)] else RL sl sc n 1 151 [qr 1, qi x1, qj x2, qn, qi x4, qn, qi x6, qi x7, qi x8, qi x9, qi x10, qn, qn, qn] [] [(36, m0)]) (fun _ => rfl) (Sim.ite (fun _ => Sim.jmp (l_inv_b153_ok sl sc x1 x2 x4 x6 x7 x9 x10 m0) rfl (fun _ => rfl)) (fun _ => Sim.shift 2 (G := (fun _ => some (some (vi 0), [(36, m0)]))) (fun _ => rfl) (Sim.pur _ _)))) (fun _ => Sim.jmp (l_inv_b153_ok sl sc x1 x2 x4 x6 x7 x9 x10 m0) rfl (fun _ => rfl)))))))))))))))))))) (fun _ => Sim.shift 2 (G := (fun _ => some (some (vi 0), [(36, m0)]))) (fun _ => rfl) (Sim.pur _ _)))
def l_inv_b77 (sl : Int) (sc : Int → Int) (x1 x2 x4 x5 x6 x7 x8 x9 x10 s0 : Int) (m0 : OMem) : Option (Int) := if x5 = 0 then (l_inv_b87 sl sc x1 x2 x4 x6 x7 x8 x9 x10 s0 0 m0) else (l_inv_b87 sl sc x1 x2 x4 x6 x7 x8 x9 x10 s0 1 m0)
set_option maxRecDepth 65536 in
set_option maxHeartbeats 16000000 in
theorem l_inv_b77_ok (sl : Int) (sc : Int → Int) (x1 x2 x4 x5 x6 x7 x8 x9 x10 s0 : Int) (m0 : OMem) : Sim (l_inv_b77 sl sc x1 x2 x4 x5 x6 x7 x8 x9 x10 s0 m0) (fun r _ => some (some (vi r), [(36, m0)])) (fun n => RL sl sc n 1 77 [qr 1, qi x1, qj x2, qn, qi x4, qi x5, qi x6, qi x7, qi x8, qi x9, qi x10, qn, qn, qn] [vi s0] [(36, m0)]) :=
  Sim.shift 2 (G := fun n => if x5 = 0 then RL sl sc n 1 86 [qr 1, qi x1, qj x2, qn, qi x4, qi x5, qi x6, qi x7, qi x8, qi x9, qi x10, qn, qn, qn] [vi s0] [(36, m0)] else RL sl sc n 1 82 [qr 1, qi x1, qj x2, qn, qi x4, qi x5, qi x6, qi x7, qi x8, qi x9, qi x10, qn, qn, qn] [vi s0] [(36, m0)]) (fun _ => rfl) (Sim.ite (fun _ => Sim.shift 1 (G := fun n => RL sl sc n 1 87 [qr 1, qi x1, qj x2, qn, qi x4, qn, qi x6, qi x7, qi x8, qi x9, qi x10, qn, qn, qn] [vi 0, vi s0] [(36, m0)]) (fun _ => rfl) (l_inv_b87_ok sl sc x1 x2 x4 x6 x7 x8 x9 x10 s0 0 m0)) (fun _ => Sim.shift 2 (G := fun n => RL sl sc n 1 87 [qr 1, qi x1, qj x2, qn, qi x4, qn, qi x6, qi x7, qi x8, qi x9, qi x10, qn, qn, qn] [vi 1, vi s0] [(36, m0)]) (fun _ => rfl) (l_inv_b87_ok sl sc x1 x2 x4 x6 x7 x8 x9 x10 s0 1 m0)))
def l_inv (sl : Int) (sc : Int → Int) (x1 x2 : Int) (m0 : OMem) : Option (Int) := (f_status m0).bind fun r_81 => ((f_stopKind m0).bind fun r_82 => ((f_pc m0).bind fun r_83 => ((f_depth m0).bind fun r_84 => ((f_pcLabel m0).bind fun r_85 => ((f_outCount m0).bind fun r_86 => ((f_auditCount m0).bind fun r_87 => (if r_81 < 0 then (l_inv_b64 sl sc m0) else (if 3 < r_81 then (l_inv_b64 sl sc m0) else (if r_82 < 0 then (l_inv_b64 sl sc m0) else (if 5 < r_82 then (l_inv_b64 sl sc m0) else (if r_81 = 3 then (l_inv_b77 sl sc x1 x2 r_81 r_82 r_83 r_84 r_85 r_86 r_87 1 m0) else (l_inv_b77 sl sc x1 x2 r_81 r_82 r_83 r_84 r_85 r_86 r_87 0 m0))))))))))))
set_option maxRecDepth 65536 in
set_option maxHeartbeats 16000000 in
theorem l_inv_ok (sl : Int) (sc : Int → Int) (x1 x2 : Int) (m0 : OMem) : Sim (l_inv sl sc x1 x2 m0) (fun r _ => some (some (vi r), [(36, m0)])) (fun n => RL sl sc n 1 0 [qr 1, qi x1, qj x2, qn, qn, qn, qn, qn, qn, qn, qn, qn, qn, qn] [] [(36, m0)]) :=
  Sim.shift 2 (G := fun n => (R n 2 0 [qr 0] [] 36 m0).bind fun y => RLv sl sc n 1 4 [qr 1, qi x1, qj x2, qn, qn, qn, qn, qn, qn, qn, qn, qn, qn, qn] [] [(36, m0)] 0 y) (fun _ => rfl) (Sim.call (f_status_ok 36 m0) (fun _ _ => rfl) (runP_mono _ _ _ _ _ _) (fun _ => runL_mono _ _ _ _ _) (fun r_81 => Sim.shift 0 (G := fun n => RL sl sc n 1 4 [qr 1, qi x1, qj x2, qn, qn, qn, qn, qn, qn, qn, qn, qn, qn, qn] [vi r_81] [(36, m0)]) (fun _ => rfl) (Sim.shift 3 (G := fun n => (R n 13 0 [qr 0] [] 36 m0).bind fun y => RLv sl sc n 1 10 [qr 1, qi x1, qj x2, qn, qi r_81, qn, qn, qn, qn, qn, qn, qn, qn, qn] [] [(36, m0)] 0 y) (fun _ => rfl) (Sim.call (f_stopKind_ok 36 m0) (fun _ _ => rfl) (runP_mono _ _ _ _ _ _) (fun _ => runL_mono _ _ _ _ _) (fun r_82 => Sim.shift 0 (G := fun n => RL sl sc n 1 10 [qr 1, qi x1, qj x2, qn, qi r_81, qn, qn, qn, qn, qn, qn, qn, qn, qn] [vi r_82] [(36, m0)]) (fun _ => rfl) (Sim.shift 3 (G := fun n => (R n 14 0 [qr 0] [] 36 m0).bind fun y => RLv sl sc n 1 16 [qr 1, qi x1, qj x2, qn, qi r_81, qi r_82, qn, qn, qn, qn, qn, qn, qn, qn] [] [(36, m0)] 0 y) (fun _ => rfl) (Sim.call (f_pc_ok 36 m0) (fun _ _ => rfl) (runP_mono _ _ _ _ _ _) (fun _ => runL_mono _ _ _ _ _) (fun r_83 => Sim.shift 0 (G := fun n => RL sl sc n 1 16 [qr 1, qi x1, qj x2, qn, qi r_81, qi r_82, qn, qn, qn, qn, qn, qn, qn, qn] [vi r_83] [(36, m0)]) (fun _ => rfl) (Sim.shift 3 (G := fun n => (R n 15 0 [qr 0] [] 36 m0).bind fun y => RLv sl sc n 1 22 [qr 1, qi x1, qj x2, qn, qi r_81, qi r_82, qi r_83, qn, qn, qn, qn, qn, qn, qn] [] [(36, m0)] 0 y) (fun _ => rfl) (Sim.call (f_depth_ok 36 m0) (fun _ _ => rfl) (runP_mono _ _ _ _ _ _) (fun _ => runL_mono _ _ _ _ _) (fun r_84 => Sim.shift 0 (G := fun n => RL sl sc n 1 22 [qr 1, qi x1, qj x2, qn, qi r_81, qi r_82, qi r_83, qn, qn, qn, qn, qn, qn, qn] [vi r_84] [(36, m0)]) (fun _ => rfl) (Sim.shift 3 (G := fun n => (R n 16 0 [qr 0] [] 36 m0).bind fun y => RLv sl sc n 1 28 [qr 1, qi x1, qj x2, qn, qi r_81, qi r_82, qi r_83, qi r_84, qn, qn, qn, qn, qn, qn] [] [(36, m0)] 0 y) (fun _ => rfl) (Sim.call (f_pcLabel_ok m0) (fun _ _ => rfl) (runP_mono _ _ _ _ _ _) (fun _ => runL_mono _ _ _ _ _) (fun r_85 => Sim.shift 0 (G := fun n => RL sl sc n 1 28 [qr 1, qi x1, qj x2, qn, qi r_81, qi r_82, qi r_83, qi r_84, qn, qn, qn, qn, qn, qn] [vi r_85] [(36, m0)]) (fun _ => rfl) (Sim.shift 3 (G := fun n => (R n 18 0 [qr 0] [] 36 m0).bind fun y => RLv sl sc n 1 34 [qr 1, qi x1, qj x2, qn, qi r_81, qi r_82, qi r_83, qi r_84, qi r_85, qn, qn, qn, qn, qn] [] [(36, m0)] 0 y) (fun _ => rfl) (Sim.call (f_outCount_ok 36 m0) (fun _ _ => rfl) (runP_mono _ _ _ _ _ _) (fun _ => runL_mono _ _ _ _ _) (fun r_86 => Sim.shift 0 (G := fun n => RL sl sc n 1 34 [qr 1, qi x1, qj x2, qn, qi r_81, qi r_82, qi r_83, qi r_84, qi r_85, qn, qn, qn, qn, qn] [vi r_86] [(36, m0)]) (fun _ => rfl) (Sim.shift 3 (G := fun n => (R n 19 0 [qr 0] [] 36 m0).bind fun y => RLv sl sc n 1 40 [qr 1, qi x1, qj x2, qn, qi r_81, qi r_82, qi r_83, qi r_84, qi r_85, qi r_86, qn, qn, qn, qn] [] [(36, m0)] 0 y) (fun _ => rfl) (Sim.call (f_auditCount_ok 36 m0) (fun _ _ => rfl) (runP_mono _ _ _ _ _ _) (fun _ => runL_mono _ _ _ _ _) (fun r_87 => Sim.shift 0 (G := fun n => RL sl sc n 1 40 [qr 1, qi x1, qj x2, qn, qi r_81, qi r_82, qi r_83, qi r_84, qi r_85, qi r_86, qn, qn, qn, qn] [vi r_87] [(36, m0)]) (fun _ => rfl) (Sim.shift 3 (G := fun n => if r_81 < 0 then RL sl sc n 1 64 [qr 1, qi x1, qj x2, qn, qi r_81, qi r_82, qi r_83, qi r_84, qi r_85, qi r_86, qi r_87, qn, qn, qn] [] [(36, m0)] else RL sl sc n 1 47 [qr 1, qi x1, qj x2, qn, qi r_81, qi r_82, qi r_83, qi r_84, qi r_85, qi r_86, qi r_87, qn, qn, qn] [] [(36, m0)]) (fun _ => rfl) (Sim.ite (fun _ => Sim.jmp (l_inv_b64_ok sl sc m0) rfl (fun _ => rfl)) (fun _ => Sim.shift 3 (G := fun n => if 3 < r_81 then RL sl sc n 1 64 [qr 1, qi x1, qj x2, qn, qi r_81, qi r_82, qi r_83, qi r_84, qi r_85, qi r_86, qi r_87, qn, qn, qn] [] [(36, m0)] else RL sl sc n 1 53 [qr 1, qi x1, qj x2, qn, qi r_81, qi r_82, qi r_83, qi r_84, qi r_85, qi r_86, qi r_87, qn, qn, qn] [] [(36, m0)]) (fun _ => rfl) (Sim.ite (fun _ => Sim.jmp (l_inv_b64_ok sl sc m0) rfl (fun _ => rfl)) (fun _ => Sim.shift 2 (G := fun n => if r_82 < 0 then RL sl sc n 1 64 [qr 1, qi x1, qj x2, qn, qi r_81, qi r_82, qi r_83, qi r_84, qi r_85, qi r_86, qi r_87, qn, qn, qn] [] [(36, m0)] else RL sl sc n 1 58 [qr 1, qi x1, qj x2, qn, qi r_81, qi r_82, qi r_83, qi r_84, qi r_85, qi r_86, qi r_87, qn, qn, qn] [] [(36, m0)]) (fun _ => rfl) (Sim.ite (fun _ => Sim.jmp (l_inv_b64_ok sl sc m0) rfl (fun _ => rfl)) (fun _ => Sim.shift 3 (G := fun n => if 5 < r_82 then RL sl sc n 1 64 [qr 1, qi x1, qj x2, qn, qi r_81, qi r_82, qi r_83, qi r_84, qi r_85, qi r_86, qi r_87, qn, qn, qn] [] [(36, m0)] else RL sl sc n 1 66 [qr 1, qi x1, qj x2, qn, qi r_81, qi r_82, qi r_83, qi r_84, qi r_85, qi r_86, qi r_87, qn, qn, qn] [] [(36, m0)]) (fun _ => rfl) (Sim.ite (fun _ => Sim.jmp (l_inv_b64_ok sl sc m0) rfl (fun _ => rfl)) (fun _ => Sim.shift 3 (G := fun n => if r_81 = 3 then RL sl sc n 1 72 [qr 1, qi x1, qj x2, qn, qi r_81, qi r_82, qi r_83, qi r_84, qi r_85, qi r_86, qi r_87, qn, qn, qn] [] [(36, m0)] else RL sl sc n 1 76 [qr 1, qi x1, qj x2, qn, qi r_81, qi r_82, qi r_83, qi r_84, qi r_85, qi r_86, qi r_87, qn, qn, qn] [] [(36, m0)]) (fun _ => rfl) (Sim.ite (fun _ => Sim.shift 2 (G := fun n => RL sl sc n 1 77 [qr 1, qi x1, qj x2, qn, qi r_81, qi r_82, qi r_83, qi r_84, qi r_85, qi r_86, qi r_87, qn, qn, qn] [vi 1] [(36, m0)]) (fun _ => rfl) (l_inv_b77_ok sl sc x1 x2 r_81 r_82 r_83 r_84 r_85 r_86 r_87 1 m0)) (fun _ => Sim.shift 1 (G := fun n => RL sl sc n 1 77 [qr 1, qi x1, qj x2, qn, qi r_81, qi r_82, qi r_83, qi r_84, qi r_85, qi r_86, qi r_87, qn, qn, qn] [vi 0] [(36, m0)]) (fun _ => rfl) (l_inv_b77_ok sl sc x1 x2 r_81 r_82 r_83 r_84 r_85 r_86 r_87 0 m0))))))))))))))))))))))))))))))))
def l_law_l19_H (sl : Int) (sc : Int → Int) : Int × Int × Int × OMem → Nat → RTL := fun (x2, x3, x5, m0) n => RL sl sc n 0 19 [qr 0, qr 1, qi x2, qj x3, qn, qi x5, qn, qn, qn, qn, qn, qn, qn, qn, qn, qn, qn, qn, qn, qn] [] [(36, m0)]
def l_law_l19_X (sl : Int) (sc : Int → Int) : (OMem) ⊕ (OMem) ⊕ (OMem) ⊕ (OMem) ⊕ (OMem) ⊕ (OMem) ⊕ (OMem) ⊕ (OMem) ⊕ (OMem) ⊕ (OMem) ⊕ (OMem) → Nat → RTL := fun e n => match e with | (.inl w0) => RL sl sc n 0 150 [qn, qn, qn, qn, qn, qn, qn, qn, qn, qn, qn, qn, qn, qn, qn, qn, qn, qn, qn, qn] [] [(36, w0)] | (.inr (.inl w0)) => RL sl sc n 0 252 [qn, qn, qn, qn, qn, qn, qn, qn, qn, qn, qn, qn, qn, qn, qn, qn, qn, qn, qn, qn] [] [(36, w0)] | (.inr (.inr (.inl w0))) => RL sl sc n 0 282 [qn, qn, qn, qn, qn, qn, qn, qn, qn, qn, qn, qn, qn, qn, qn, qn, qn, qn, qn, qn] [] [(36, w0)] | (.inr (.inr (.inr (.inl w0)))) => RL sl sc n 0 312 [qn, qn, qn, qn, qn, qn, qn, qn, qn, qn, qn, qn, qn, qn, qn, qn, qn, qn, qn, qn] [] [(36, w0)] | (.inr (.inr (.inr (.inr (.inl w0))))) => RL sl sc n 0 422 [qn, qn, qn, qn, qn, qn, qn, qn, qn, qn, qn, qn, qn, qn, qn, qn, qn, qn, qn, qn] [] [(36, w0)] | (.inr (.inr (.inr (.inr (.inr (.inl w0)))))) => RL sl sc n 0 441 [qn, qn, qn, qn, qn, qn, qn, qn, qn, qn, qn, qn, qn, qn, qn, qn, qn, qn, qn, qn] [] [(36, w0)] | (.inr (.inr (.inr (.inr (.inr (.inr (.inl w0))))))) => RL sl sc n 0 463 [qn, qn, qn, qn, qn, qn, qn, qn, qn, qn, qn, qn, qn, qn, qn, qn, qn, qn, qn, qn] [] [(36, w0)] | (.inr (.inr (.inr (.inr (.inr (.inr (.inr (.inl w0)))))))) => RL sl sc n 0 478 [qn, qn, qn, qn, qn, qn, qn, qn, qn, qn, qn, qn, qn, qn, qn, qn, qn, qn, qn, qn] [] [(36, w0)] | (.inr (.inr (.inr (.inr (.inr (.inr (.inr (.inr (.inl w0))))))))) => RL sl sc n 0 505 [qn, qn, qn, qn, qn, qn, qn, qn, qn, qn, qn, qn, qn, qn, qn, qn, qn, qn, qn, qn] [] [(36, w0)] | (.inr (.inr (.inr (.inr (.inr (.inr (.inr (.inr (.inr (.inl w0)))))))))) => RL sl sc n 0 522 [qn, qn, qn, qn, qn, qn, qn, qn, qn, qn, qn, qn, qn, qn, qn, qn, qn, qn, qn, qn] [] [(36, w0)] | (.inr (.inr (.inr (.inr (.inr (.inr (.inr (.inr (.inr (.inr w0)))))))))) => RL sl sc n 0 530 [qn, qn, qn, qn, qn, qn, qn, qn, qn, qn, qn, qn, qn, qn, qn, qn, qn, qn, qn, qn] [] [(36, w0)]
def l_law_b513 (sl : Int) (sc : Int → Int) (x2 x3 x5 : Int) (m0 : OMem) : Option ((Int × Int × Int × OMem) ⊕ ((OMem) ⊕ (OMem) ⊕ (OMem) ⊕ (OMem) ⊕ (OMem) ⊕ (OMem) ⊕ (OMem) ⊕ (OMem) ⊕ (OMem) ⊕ (OMem) ⊕ (OMem))) := (l_inv sl sc x2 x3 m0).bind fun r_100 => (if r_100 = 0 then (some (.inr (.inr (.inr (.inr (.inr (.inr (.inr (.inr (.inr (.inr (.inl m0)))))))))))) else (some (.inl (x2, x3, w32 (x5 + 5), m0))))
set_option maxRecDepth 65536 in
set_option maxHeartbeats 16000000 in
theorem l_law_b513_ok (sl : Int) (sc : Int → Int) (x2 x3 x5 : Int) (m0 : OMem) : Sim (l_law_b513 sl sc x2 x3 x5 m0) (Sum.elim (l_law_l19_H sl sc ) (l_law_l19_X sl sc )) (fun n => RL sl sc n 0 513 [qr 0, qr 1, qi x2, qj x3, qn, qi x5, qn, qn, qn, qn, qn, qn, qn, qn, qn, qn, qn, qn, qn, qn] [] [(36, m0)]) :=
  Sim.shift 4 (G := fun n => (RL sl sc n 1 0 [qr 1, qi x2, qj x3, qn, qn, qn, qn, qn, qn, qn, qn, qn, qn, qn] [] [(36, m0)]).bind fun y => RLr sl sc n 0 519 [qr 0, qr 1, qi x2, qj x3, qn, qi x5, qn, qn, qn, qn, qn, qn, qn, qn, qn, qn, qn, qn, qn, qn] [] y) (fun _ => rfl) (Sim.call (l_inv_ok sl sc x2 x3 m0) (fun _ _ => rfl) (runL_mono _ _ _ _ _) (fun _ => runL_mono _ _ _ _ _) (fun r_100 => Sim.shift 0 (G := fun n => RL sl sc n 0 519 [qr 0, qr 1, qi x2, qj x3, qn, qi x5, qn, qn, qn, qn, qn, qn, qn, qn, qn, qn, qn, qn, qn, qn] [vi r_100] [(36, m0)]) (fun _ => rfl) (Sim.shift 1 (G := fun n => if r_100 = 0 then RL sl sc n 0 522 [qr 0, qr 1, qi x2, qj x3, qn, qi x5, qn, qn, qn, qn, qn, qn, qn, qn, qn, qn, qn, qn, qn, qn] [] [(36, m0)] else RL sl sc n 0 524 [qr 0, qr 1, qi x2, qj x3, qn, qi x5, qn, qn, qn, qn, qn, qn, qn, qn, qn, qn, qn, qn, qn, qn] [] [(36, m0)]) (fun _ => rfl) (Sim.ite (fun _ => Sim.leaf rfl (fun _ => rfl)) (fun _ => Sim.shift 2 (G := fun n => RL sl sc n 0 19 [qr 0, qr 1, qi x2, qj x3, qn, qi (w32 (x5 + 5)), qn, qn, qn, qn, qn, qn, qn, qn, qn, qn, qn, qn, qn, qn] [] [(36, m0)]) (fun _ => rfl) (Sim.pur _ _))))))
def l_law_b160 (sl : Int) (sc : Int → Int) (x2 x3 x5 : Int) (m0 : OMem) : Option ((Int × Int × Int × OMem) ⊕ ((OMem) ⊕ (OMem) ⊕ (OMem) ⊕ (OMem) ⊕ (OMem) ⊕ (OMem) ⊕ (OMem) ⊕ (OMem) ⊕ (OMem) ⊕ (OMem) ⊕ (OMem))) := l_law_b513 sl sc x2 x3 x5 m0
set_option maxRecDepth 65536 in
set_option maxHeartbeats 16000000 in
theorem l_law_b160_ok (sl : Int) (sc : Int → Int) (x2 x3 x5 : Int) (m0 : OMem) : Sim (l_law_b160 sl sc x2 x3 x5 m0) (Sum.elim (l_law_l19_H sl sc ) (l_law_l19_X sl sc )) (fun n => RL sl sc n 0 160 [qr 0, qr 1, qi x2, qj x3, qn, qi x5, qn, qn, qn, qn, qn, qn, qn, qn, qn, qn, qn, qn, qn, qn] [] [(36, m0)]) :=
  Sim.shift 1 (G := fun n => RL sl sc n 0 513 [qr 0, qr 1, qi x2, qj x3, qn, qi x5, qn, qn, qn, qn, qn, qn, qn, qn, qn, qn, qn, qn, qn, qn] [] [(36, m0)]) (fun _ => rfl) (l_law_b513_ok sl sc x2 x3 x5 m0)
def l_law_b147 (sl : Int) (sc : Int → Int) (x2 x3 x5 x14 s0 s1 : Int) (m0 : OMem) : Option ((Int × Int × Int × OMem) ⊕ ((OMem) ⊕ (OMem) ⊕ (OMem) ⊕ (OMem) ⊕ (OMem) ⊕ (OMem) ⊕ (OMem) ⊕ (OMem) ⊕ (OMem) ⊕ (OMem) ⊕ (OMem))) := if s0 = s1 then (if x14 = 0 then (l_law_b160 sl sc x2 x3 x5 m0) else (l_law_b160 sl sc (w32 (x2 + 1)) x3 x5 m0)) else (some (.inr (.inl m0)))
set_option maxRecDepth 65536 in
set_option maxHeartbeats 16000000 in
theorem l_law_b147_ok (sl : Int) (sc : Int → Int) (x2 x3 x5 x14 s0 s1 : Int) (m0 : OMem) : Sim (l_law_b147 sl sc x2 x3 x5 x14 s0 s1 m0) (Sum.elim (l_law_l19_H sl sc ) (l_law_l19_X sl sc )) (fun n => RL sl sc n 0 147 [qr 0, qr 1, qi x2, qj x3, qn, qi x5, qn, qn, qn, qn, qn, qn, qn, qn, qi x14, qn, qn, qn, qn, qn] [vi s1, vi s0] [(36, m0)]) :=
  Sim.shift 1 (G := fun n => if s0 = s1 then RL sl sc n 0 152 [qr 0, qr 1, qi x2, qj x3, qn, qi x5, qn, qn, qn, qn, qn, qn, qn, qn, qi x14, qn, qn, qn, qn, qn] [] [(36, m0)] else RL sl sc n 0 150 [qr 0, qr 1, qi x2, qj x3, qn, qi x5, qn, qn, qn, qn, qn, qn, qn, qn, qi x14, qn, qn, qn, qn, qn] [] [(36, m0)]) (fun _ => rfl) (Sim.ite (fun _ => Sim.shift 2 (G := fun n => if x14 = 0 then RL sl sc n 0 160 [qr 0, qr 1, qi x2, qj x3, qn, qi x5, qn, qn, qn, qn, qn, qn, qn, qn, qi x14, qn, qn, qn, qn, qn] [] [(36, m0)] else RL sl sc n 0 157 [qr 0, qr 1, qi x2, qj x3, qn, qi x5, qn, qn, qn, qn, qn, qn, qn, qn, qi x14, qn, qn, qn, qn, qn] [] [(36, m0)]) (fun _ => rfl) (Sim.ite (fun _ => Sim.jmp (l_law_b160_ok sl sc x2 x3 x5 m0) rfl (fun _ => rfl)) (fun _ => Sim.shift 1 (G := fun n => RL sl sc n 0 160 [qr 0, qr 1, qi (w32 (x2 + 1)), qj x3, qn, qi x5, qn, qn, qn, qn, qn, qn, qn, qn, qn, qn, qn, qn, qn, qn] [] [(36, m0)]) (fun _ => rfl) (l_law_b160_ok sl sc (w32 (x2 + 1)) x3 x5 m0)))) (fun _ => Sim.leaf rfl (fun _ => rfl)))
def l_law_b146 (sl : Int) (sc : Int → Int) (x2 x3 x5 x14 s0 : Int) (m0 : OMem) : Option ((Int × Int × Int × OMem) ⊕ ((OMem) ⊕ (OMem) ⊕ (OMem) ⊕ (OMem) ⊕ (OMem) ⊕ (OMem) ⊕ (OMem) ⊕ (OMem) ⊕ (OMem) ⊕ (OMem) ⊕ (OMem))) := l_law_b147 sl sc x2 x3 x5 x14 s0 0 m0
set_option maxRecDepth 65536 in
set_option maxHeartbeats 16000000 in
theorem l_law_b146_ok (sl : Int) (sc : Int → Int) (x2 x3 x5 x14 s0 : Int) (m0 : OMem) : Sim (l_law_b146 sl sc x2 x3 x5 x14 s0 m0) (Sum.elim (l_law_l19_H sl sc ) (l_law_l19_X sl sc )) (fun n => RL sl sc n 0 146 [qr 0, qr 1, qi x2, qj x3, qn, qi x5, qn, qn, qn, qn, qn, qn, qn, qn, qi x14, qn, qn, qn, qn, qn] [vi s0] [(36, m0)]) :=
  Sim.shift 1 (G := fun n => RL sl sc n 0 147 [qr 0, qr 1, qi x2, qj x3, qn, qi x5, qn, qn, qn, qn, qn, qn, qn, qn, qi x14, qn, qn, qn, qn, qn] [vi 0, vi s0] [(36, m0)]) (fun _ => rfl) (l_law_b147_ok sl sc x2 x3 x5 x14 s0 0 m0)
def l_law_b314 (sl : Int) (sc : Int → Int) (x2 x3 x5 : Int) (m0 : OMem) : Option ((Int × Int × Int × OMem) ⊕ ((OMem) ⊕ (OMem) ⊕ (OMem) ⊕ (OMem) ⊕ (OMem) ⊕ (OMem) ⊕ (OMem) ⊕ (OMem) ⊕ (OMem) ⊕ (OMem) ⊕ (OMem))) := l_law_b513 sl sc x2 x3 x5 m0
set_option maxRecDepth 65536 in
set_option maxHeartbeats 16000000 in
theorem l_law_b314_ok (sl : Int) (sc : Int → Int) (x2 x3 x5 : Int) (m0 : OMem) : Sim (l_law_b314 sl sc x2 x3 x5 m0) (Sum.elim (l_law_l19_H sl sc ) (l_law_l19_X sl sc )) (fun n => RL sl sc n 0 314 [qr 0, qr 1, qi x2, qj x3, qn, qi x5, qn, qn, qn, qn, qn, qn, qn, qn, qn, qn, qn, qn, qn, qn] [] [(36, m0)]) :=
  Sim.shift 1 (G := fun n => RL sl sc n 0 513 [qr 0, qr 1, qi x2, qj x3, qn, qi x5, qn, qn, qn, qn, qn, qn, qn, qn, qn, qn, qn, qn, qn, qn] [] [(36, m0)]) (fun _ => rfl) (l_law_b513_ok sl sc x2 x3 x5 m0)
def l_law_b284 (sl : Int) (sc : Int → Int) (x2 x3 x5 x13 x15 x16 x17 : Int) (m0 : OMem) : Option ((Int × Int × Int × OMem) ⊕ ((OMem) ⊕ (OMem) ⊕ (OMem) ⊕ (OMem) ⊕ (OMem) ⊕ (OMem) ⊕ (OMem) ⊕ (OMem) ⊕ (OMem) ⊕ (OMem) ⊕ (OMem))) := if x17 = 0 then ((f_mem x13 m0).bind fun r_105 => (if r_105 = x15 then ((f_labelOf 1 x13 m0).bind fun r_106 => (if r_106 = x16 then (l_law_b314 sl sc x2 x3 x5 m0) else (some (.inr (.inr (.inr (.inr (.inl m0)))))))) else (some (.inr (.inr (.inr (.inr (.inl m0)))))))) else (l_law_b314 sl sc x2 x3 x5 m0)
set_option maxRecDepth 65536 in
set_option maxHeartbeats 16000000 in
theorem l_law_b284_ok (sl : Int) (sc : Int → Int) (x2 x3 x5 x13 x15 x16 x17 : Int) (m0 : OMem) : Sim (l_law_b284 sl sc x2 x3 x5 x13 x15 x16 x17 m0) (Sum.elim (l_law_l19_H sl sc ) (l_law_l19_X sl sc )) (fun n => RL sl sc n 0 284 [qr 0, qr 1, qi x2, qj x3, qn, qi x5, qn, qn, qn, qn, qn, qn, qn, qi x13, qn, qi x15, qi x16, qi x17, qn, qn] [] [(36, m0)]) :=
  Sim.shift 2 (G := fun n => if x17 = 0 then RL sl sc n 0 289 [qr 0, qr 1, qi x2, qj x3, qn, qi x5, qn, qn, qn, qn, qn, qn, qn, qi x13, qn, qi x15, qi x16, qi x17, qn, qn] [] [(36, m0)] else RL sl sc n 0 314 [qr 0, qr 1, qi x2, qj x3, qn, qi x5, qn, qn, qn, qn, qn, qn, qn, qi x13, qn, qi x15, qi x16, qi x17, qn, qn] [] [(36, m0)]) (fun _ => rfl) (Sim.ite (fun _ => Sim.shift 3 (G := fun n => (R n 32 0 [qr 0, qi x13] [] 36 m0).bind fun y => RLv sl sc n 0 295 [qr 0, qr 1, qi x2, qj x3, qn, qi x5, qn, qn, qn, qn, qn, qn, qn, qi x13, qn, qi x15, qi x16, qn, qn, qn] [] [(36, m0)] 0 y) (fun _ => rfl) (Sim.call (f_mem_ok x13 m0) (fun _ _ => rfl) (runP_mono _ _ _ _ _ _) (fun _ => runL_mono _ _ _ _ _) (fun r_105 => Sim.shift 0 (G := fun n => RL sl sc n 0 295 [qr 0, qr 1, qi x2, qj x3, qn, qi x5, qn, qn, qn, qn, qn, qn, qn, qi x13, qn, qi x15, qi x16, qn, qn, qn] [vi r_105] [(36, m0)]) (fun _ => rfl) (Sim.shift 2 (G := fun n => if r_105 = x15 then RL sl sc n 0 300 [qr 0, qr 1, qi x2, qj x3, qn, qi x5, qn, qn, qn, qn, qn, qn, qn, qi x13, qn, qi x15, qi x16, qn, qn, qn] [] [(36, m0)] else RL sl sc n 0 312 [qr 0, qr 1, qi x2, qj x3, qn, qi x5, qn, qn, qn, qn, qn, qn, qn, qi x13, qn, qi x15, qi x16, qn, qn, qn] [] [(36, m0)]) (fun _ => rfl) (Sim.ite (fun _ => Sim.shift 4 (G := fun n => (R n 22 0 [qr 0, qi 1, qi x13] [] 36 m0).bind fun y => RLv sl sc n 0 307 [qr 0, qr 1, qi x2, qj x3, qn, qi x5, qn, qn, qn, qn, qn, qn, qn, qi x13, qn, qn, qi x16, qn, qn, qn] [] [(36, m0)] 0 y) (fun _ => rfl) (Sim.call (f_labelOf_ok 1 x13 m0) (fun _ _ => rfl) (runP_mono _ _ _ _ _ _) (fun _ => runL_mono _ _ _ _ _) (fun r_106 => Sim.shift 0 (G := fun n => RL sl sc n 0 307 [qr 0, qr 1, qi x2, qj x3, qn, qi x5, qn, qn, qn, qn, qn, qn, qn, qi x13, qn, qn, qi x16, qn, qn, qn] [vi r_106] [(36, m0)]) (fun _ => rfl) (Sim.shift 2 (G := fun n => if r_106 = x16 then RL sl sc n 0 314 [qr 0, qr 1, qi x2, qj x3, qn, qi x5, qn, qn, qn, qn, qn, qn, qn, qi x13, qn, qn, qi x16, qn, qn, qn] [] [(36, m0)] else RL sl sc n 0 312 [qr 0, qr 1, qi x2, qj x3, qn, qi x5, qn, qn, qn, qn, qn, qn, qn, qi x13, qn, qn, qi x16, qn, qn, qn] [] [(36, m0)]) (fun _ => rfl) (Sim.ite (fun _ => Sim.jmp (l_law_b314_ok sl sc x2 x3 x5 m0) rfl (fun _ => rfl)) (fun _ => Sim.leaf rfl (fun _ => rfl))))))) (fun _ => Sim.leaf rfl (fun _ => rfl))))))) (fun _ => Sim.jmp (l_law_b314_ok sl sc x2 x3 x5 m0) rfl (fun _ => rfl)))
def l_law_b249 (sl : Int) (sc : Int → Int) (x2 x3 x5 x8 x13 x14 x15 x16 x17 s0 s1 : Int) (m0 : OMem) : Option ((Int × Int × Int × OMem) ⊕ ((OMem) ⊕ (OMem) ⊕ (OMem) ⊕ (OMem) ⊕ (OMem) ⊕ (OMem) ⊕ (OMem) ⊕ (OMem) ⊕ (OMem) ⊕ (OMem) ⊕ (OMem))) := if s0 = s1 then (if x17 = 0 then (l_law_b284 sl sc x2 x3 x5 x13 x15 x16 x17 m0) else ((f_mem x13 m0).bind fun r_107 => (if r_107 = x8 then ((f_labelOf 1 x13 m0).bind fun r_108 => (if r_108 = x14 then (l_law_b284 sl sc x2 x3 x5 x13 x15 x16 x17 m0) else (some (.inr (.inr (.inr (.inl m0))))))) else (some (.inr (.inr (.inr (.inl m0)))))))) else (some (.inr (.inr (.inl m0))))
set_option maxRecDepth 65536 in
set_option maxHeartbeats 16000000 in
theorem l_law_b249_ok (sl : Int) (sc : Int → Int) (x2 x3 x5 x8 x13 x14 x15 x16 x17 s0 s1 : Int) (m0 : OMem) : Sim (l_law_b249 sl sc x2 x3 x5 x8 x13 x14 x15 x16 x17 s0 s1 m0) (Sum.elim (l_law_l19_H sl sc ) (l_law_l19_X sl sc )) (fun n => RL sl sc n 0 249 [qr 0, qr 1, qi x2, qj x3, qn, qi x5, qn, qn, qi x8, qn, qn, qn, qn, qi x13, qi x14, qi x15, qi x16, qi x17, qn, qn] [vi s1, vi s0] [(36, m0)]) :=
  Sim.shift 1 (G := fun n => if s0 = s1 then RL sl sc n 0 254 [qr 0, qr 1, qi x2, qj x3, qn, qi x5, qn, qn, qi x8, qn, qn, qn, qn, qi x13, qi x14, qi x15, qi x16, qi x17, qn, qn] [] [(36, m0)] else RL sl sc n 0 252 [qr 0, qr 1, qi x2, qj x3, qn, qi x5, qn, qn, qi x8, qn, qn, qn, qn, qi x13, qi x14, qi x15, qi x16, qi x17, qn, qn] [] [(36, m0)]) (fun _ => rfl) (Sim.ite (fun _ => Sim.shift 2 (G := fun n => if x17 = 0 then RL sl sc n 0 284 [qr 0, qr 1, qi x2, qj x3, qn, qi x5, qn, qn, qi x8, qn, qn, qn, qn, qi x13, qi x14, qi x15, qi x16, qi x17, qn, qn] [] [(36, m0)] else RL sl sc n 0 259 [qr 0, qr 1, qi x2, qj x3, qn, qi x5, qn, qn, qi x8, qn, qn, qn, qn, qi x13, qi x14, qi x15, qi x16, qi x17, qn, qn] [] [(36, m0)]) (fun _ => rfl) (Sim.ite (fun _ => Sim.jmp (l_law_b284_ok sl sc x2 x3 x5 x13 x15 x16 x17 m0) rfl (fun _ => rfl)) (fun _ => Sim.shift 3 (G := fun n => (R n 32 0 [qr 0, qi x13] [] 36 m0).bind fun y => RLv sl sc n 0 265 [qr 0, qr 1, qi x2, qj x3, qn, qi x5, qn, qn, qi x8, qn, qn, qn, qn, qi x13, qi x14, qi x15, qi x16, qi x17, qn, qn] [] [(36, m0)] 0 y) (fun _ => rfl) (Sim.call (f_mem_ok x13 m0) (fun _ _ => rfl) (runP_mono _ _ _ _ _ _) (fun _ => runL_mono _ _ _ _ _) (fun r_107 => Sim.shift 0 (G := fun n => RL sl sc n 0 265 [qr 0, qr 1, qi x2, qj x3, qn, qi x5, qn, qn, qi x8, qn, qn, qn, qn, qi x13, qi x14, qi x15, qi x16, qi x17, qn, qn] [vi r_107] [(36, m0)]) (fun _ => rfl) (Sim.shift 2 (G := fun n => if r_107 = x8 then RL sl sc n 0 270 [qr 0, qr 1, qi x2, qj x3, qn, qi x5, qn, qn, qi x8, qn, qn, qn, qn, qi x13, qi x14, qi x15, qi x16, qi x17, qn, qn] [] [(36, m0)] else RL sl sc n 0 282 [qr 0, qr 1, qi x2, qj x3, qn, qi x5, qn, qn, qi x8, qn, qn, qn, qn, qi x13, qi x14, qi x15, qi x16, qi x17, qn, qn] [] [(36, m0)]) (fun _ => rfl) (Sim.ite (fun _ => Sim.shift 4 (G := fun n => (R n 22 0 [qr 0, qi 1, qi x13] [] 36 m0).bind fun y => RLv sl sc n 0 277 [qr 0, qr 1, qi x2, qj x3, qn, qi x5, qn, qn, qn, qn, qn, qn, qn, qi x13, qi x14, qi x15, qi x16, qi x17, qn, qn] [] [(36, m0)] 0 y) (fun _ => rfl) (Sim.call (f_labelOf_ok 1 x13 m0) (fun _ _ => rfl) (runP_mono _ _ _ _ _ _) (fun _ => runL_mono _ _ _ _ _) (fun r_108 => Sim.shift 0 (G := fun n => RL sl sc n 0 277 [qr 0, qr 1, qi x2, qj x3, qn, qi x5, qn, qn, qn, qn, qn, qn, qn, qi x13, qi x14, qi x15, qi x16, qi x17, qn, qn] [vi r_108] [(36, m0)]) (fun _ => rfl) (Sim.shift 2 (G := fun n => if r_108 = x14 then RL sl sc n 0 284 [qr 0, qr 1, qi x2, qj x3, qn, qi x5, qn, qn, qn, qn, qn, qn, qn, qi x13, qi x14, qi x15, qi x16, qi x17, qn, qn] [] [(36, m0)] else RL sl sc n 0 282 [qr 0, qr 1, qi x2, qj x3, qn, qi x5, qn, qn, qn, qn, qn, qn, qn, qi x13, qi x14, qi x15, qi x16, qi x17, qn, qn] [] [(36, m0)]) (fun _ => rfl) (Sim.ite (fun _ => Sim.jmp (l_law_b284_ok sl sc x2 x3 x5 x13 x15 x16 x17 m0) rfl (fun _ => rfl)) (fun _ => Sim.leaf rfl (fun _ => rfl))))))) (fun _ => Sim.leaf rfl (fun _ => rfl))))))))) (fun _ => Sim.leaf rfl (fun _ => rfl)))
def l_law_b248 (sl : Int) (sc : Int → Int) (x2 x3 x5 x8 x13 x14 x15 x16 x17 s0 : Int) (m0 : OMem) : Option ((Int × Int × Int × OMem) ⊕ ((OMem) ⊕ (OMem) ⊕ (OMem) ⊕ (OMem) ⊕ (OMem) ⊕ (OMem) ⊕ (OMem) ⊕ (OMem) ⊕ (OMem) ⊕ (OMem) ⊕ (OMem))) := l_law_b249 sl sc x2 x3 x5 x8 x13 x14 x15 x16 x17 s0 0 m0
set_option maxRecDepth 65536 in
set_option maxHeartbeats 16000000 in
theorem l_law_b248_ok (sl : Int) (sc : Int → Int) (x2 x3 x5 x8 x13 x14 x15 x16 x17 s0 : Int) (m0 : OMem) : Sim (l_law_b248 sl sc x2 x3 x5 x8 x13 x14 x15 x16 x17 s0 m0) (Sum.elim (l_law_l19_H sl sc ) (l_law_l19_X sl sc )) (fun n => RL sl sc n 0 248 [qr 0, qr 1, qi x2, qj x3, qn, qi x5, qn, qn, qi x8, qn, qn, qn, qn, qi x13, qi x14, qi x15, qi x16, qi x17, qn, qn] [vi s0] [(36, m0)]) :=
  Sim.shift 1 (G := fun n => RL sl sc n 0 249 [qr 0, qr 1, qi x2, qj x3, qn, qi x5, qn, qn, qi x8, qn, qn, qn, qn, qi x13, qi x14, qi x15, qi x16, qi x17, qn, qn] [vi 0, vi s0] [(36, m0)]) (fun _ => rfl) (l_law_b249_ok sl sc x2 x3 x5 x8 x13 x14 x15 x16 x17 s0 0 m0)
def l_law_b507 (sl : Int) (sc : Int → Int) (x2 x3 x5 x17 : Int) (m0 : OMem) : Option ((Int × Int × Int × OMem) ⊕ ((OMem) ⊕ (OMem) ⊕ (OMem) ⊕ (OMem) ⊕ (OMem) ⊕ (OMem) ⊕ (OMem) ⊕ (OMem) ⊕ (OMem) ⊕ (OMem) ⊕ (OMem))) := l_law_b513 sl sc x2 (w64 (x3 + x17)) x5 m0
set_option maxRecDepth 65536 in
set_option maxHeartbeats 16000000 in
theorem l_law_b507_ok (sl : Int) (sc : Int → Int) (x2 x3 x5 x17 : Int) (m0 : OMem) : Sim (l_law_b507 sl sc x2 x3 x5 x17 m0) (Sum.elim (l_law_l19_H sl sc ) (l_law_l19_X sl sc )) (fun n => RL sl sc n 0 507 [qr 0, qr 1, qi x2, qj x3, qn, qi x5, qn, qn, qn, qn, qn, qn, qn, qn, qn, qn, qn, qi x17, qn, qn] [] [(36, m0)]) :=
  Sim.shift 5 (G := fun n => RL sl sc n 0 513 [qr 0, qr 1, qi x2, qj (w64 (x3 + x17)), qn, qi x5, qn, qn, qn, qn, qn, qn, qn, qn, qn, qn, qn, qi x17, qn, qn] [] [(36, m0)]) (fun _ => rfl) (Sim.jmp (l_law_b513_ok sl sc x2 (w64 (x3 + x17)) x5 m0) rfl (fun _ => rfl))
def l_law_b396 (sl : Int) (sc : Int → Int) (x2 x3 x5 x11 x14 x17 x18 x19 : Int) (m0 : OMem) : Option ((Int × Int × Int × OMem) ⊕ ((OMem) ⊕ (OMem) ⊕ (OMem) ⊕ (OMem) ⊕ (OMem) ⊕ (OMem) ⊕ (OMem) ⊕ (OMem) ⊕ (OMem) ⊕ (OMem) ⊕ (OMem))) := if x17 = 0 then (if x18 = x11 then ((f_pc m0).bind fun r_117 => (if r_117 = x14 then (if x19 = 0 then (l_law_b507 sl sc x2 x3 x5 x17 m0) else (some (.inr (.inr (.inr (.inr (.inr (.inl m0)))))))) else (some (.inr (.inr (.inr (.inr (.inr (.inl m0))))))))) else (some (.inr (.inr (.inr (.inr (.inr (.inl m0)))))))) else (some (.inr (.inr (.inr (.inr (.inr (.inl m0)))))))
set_option maxRecDepth 65536 in
set_option maxHeartbeats 16000000 in
theorem l_law_b396_ok (sl : Int) (sc : Int → Int) (x2 x3 x5 x11 x14 x17 x18 x19 : Int) (m0 : OMem) : Sim (l_law_b396 sl sc x2 x3 x5 x11 x14 x17 x18 x19 m0) (Sum.elim (l_law_l19_H sl sc ) (l_law_l19_X sl sc )) (fun n => RL sl sc n 0 396 [qr 0, qr 1, qi x2, qj x3, qn, qi x5, qn, qn, qn, qn, qn, qi x11, qn, qn, qi x14, qn, qn, qi x17, qi x18, qi x19] [] [(36, m0)]) :=
  Sim.shift 2 (G := fun n => if x17 = 0 then RL sl sc n 0 401 [qr 0, qr 1, qi x2, qj x3, qn, qi x5, qn, qn, qn, qn, qn, qi x11, qn, qn, qi x14, qn, qn, qi x17, qi x18, qi x19] [] [(36, m0)] else RL sl sc n 0 422 [qr 0, qr 1, qi x2, qj x3, qn, qi x5, qn, qn, qn, qn, qn, qi x11, qn, qn, qi x14, qn, qn, qi x17, qi x18, qi x19] [] [(36, m0)]) (fun _ => rfl) (Sim.ite (fun _ => Sim.shift 3 (G := fun n => if x18 = x11 then RL sl sc n 0 408 [qr 0, qr 1, qi x2, qj x3, qn, qi x5, qn, qn, qn, qn, qn, qi x11, qn, qn, qi x14, qn, qn, qi x17, qi x18, qi x19] [] [(36, m0)] else RL sl sc n 0 422 [qr 0, qr 1, qi x2, qj x3, qn, qi x5, qn, qn, qn, qn, qn, qi x11, qn, qn, qi x14, qn, qn, qi x17, qi x18, qi x19] [] [(36, m0)]) (fun _ => rfl) (Sim.ite (fun _ => Sim.shift 2 (G := fun n => (R n 14 0 [qr 0] [] 36 m0).bind fun y => RLv sl sc n 0 412 [qr 0, qr 1, qi x2, qj x3, qn, qi x5, qn, qn, qn, qn, qn, qn, qn, qn, qi x14, qn, qn, qi x17, qn, qi x19] [] [(36, m0)] 0 y) (fun _ => rfl) (Sim.call (f_pc_ok 36 m0) (fun _ _ => rfl) (runP_mono _ _ _ _ _ _) (fun _ => runL_mono _ _ _ _ _) (fun r_117 => Sim.shift 0 (G := fun n => RL sl sc n 0 412 [qr 0, qr 1, qi x2, qj x3, qn, qi x5, qn, qn, qn, qn, qn, qn, qn, qn, qi x14, qn, qn, qi x17, qn, qi x19] [vi r_117] [(36, m0)]) (fun _ => rfl) (Sim.shift 2 (G := fun n => if r_117 = x14 then RL sl sc n 0 417 [qr 0, qr 1, qi x2, qj x3, qn, qi x5, qn, qn, qn, qn, qn, qn, qn, qn, qi x14, qn, qn, qi x17, qn, qi x19] [] [(36, m0)] else RL sl sc n 0 422 [qr 0, qr 1, qi x2, qj x3, qn, qi x5, qn, qn, qn, qn, qn, qn, qn, qn, qi x14, qn, qn, qi x17, qn, qi x19] [] [(36, m0)]) (fun _ => rfl) (Sim.ite (fun _ => Sim.shift 2 (G := fun n => if x19 = 0 then RL sl sc n 0 507 [qr 0, qr 1, qi x2, qj x3, qn, qi x5, qn, qn, qn, qn, qn, qn, qn, qn, qn, qn, qn, qi x17, qn, qi x19] [] [(36, m0)] else RL sl sc n 0 422 [qr 0, qr 1, qi x2, qj x3, qn, qi x5, qn, qn, qn, qn, qn, qn, qn, qn, qn, qn, qn, qi x17, qn, qi x19] [] [(36, m0)]) (fun _ => rfl) (Sim.ite (fun _ => Sim.jmp (l_law_b507_ok sl sc x2 x3 x5 x17 m0) rfl (fun _ => rfl)) (fun _ => Sim.leaf rfl (fun _ => rfl)))) (fun _ => Sim.leaf rfl (fun _ => rfl))))))) (fun _ => Sim.leaf rfl (fun _ => rfl)))) (fun _ => Sim.leaf rfl (fun _ => rfl)))
def l_law_b480 (sl : Int) (sc : Int → Int) (x2 x3 x5 x15 x16 x17 x19 : Int) (m0 : OMem) : Option ((Int × Int × Int × OMem) ⊕ ((OMem) ⊕ (OMem) ⊕ (OMem) ⊕ (OMem) ⊕ (OMem) ⊕ (OMem) ⊕ (OMem) ⊕ (OMem) ⊕ (OMem) ⊕ (OMem) ⊕ (OMem))) := (f_outCount m0).bind fun r_118 => (if r_118 < x15 then (some (.inr (.inr (.inr (.inr (.inr (.inr (.inr (.inr (.inr (.inl m0))))))))))) else ((f_auditCount m0).bind fun r_119 => (if r_119 < x16 then (some (.inr (.inr (.inr (.inr (.inr (.inr (.inr (.inr (.inr (.inl m0))))))))))) else (if x17 < x19 then (some (.inr (.inr (.inr (.inr (.inr (.inr (.inr (.inr (.inr (.inl m0))))))))))) else (l_law_b507 sl sc x2 x3 x5 x17 m0)))))
set_option maxRecDepth 65536 in
set_option maxHeartbeats 16000000 in
theorem l_law_b480_ok (sl : Int) (sc : Int → Int) (x2 x3 x5 x15 x16 x17 x19 : Int) (m0 : OMem) : Sim (l_law_b480 sl sc x2 x3 x5 x15 x16 x17 x19 m0) (Sum.elim (l_law_l19_H sl sc ) (l_law_l19_X sl sc )) (fun n => RL sl sc n 0 480 [qr 0, qr 1, qi x2, qj x3, qn, qi x5, qn, qn, qn, qn, qn, qn, qn, qn, qn, qi x15, qi x16, qi x17, qn, qi x19] [] [(36, m0)]) :=
  Sim.shift 2 (G := fun n => (R n 18 0 [qr 0] [] 36 m0).bind fun y => RLv sl sc n 0 484 [qr 0, qr 1, qi x2, qj x3, qn, qi x5, qn, qn, qn, qn, qn, qn, qn, qn, qn, qi x15, qi x16, qi x17, qn, qi x19] [] [(36, m0)] 0 y) (fun _ => rfl) (Sim.call (f_outCount_ok 36 m0) (fun _ _ => rfl) (runP_mono _ _ _ _ _ _) (fun _ => runL_mono _ _ _ _ _) (fun r_118 => Sim.shift 0 (G := fun n => RL sl sc n 0 484 [qr 0, qr 1, qi x2, qj x3, qn, qi x5, qn, qn, qn, qn, qn, qn, qn, qn, qn, qi x15, qi x16, qi x17, qn, qi x19] [vi r_118] [(36, m0)]) (fun _ => rfl) (Sim.shift 2 (G := fun n => if r_118 < x15 then RL sl sc n 0 505 [qr 0, qr 1, qi x2, qj x3, qn, qi x5, qn, qn, qn, qn, qn, qn, qn, qn, qn, qi x15, qi x16, qi x17, qn, qi x19] [] [(36, m0)] else RL sl sc n 0 489 [qr 0, qr 1, qi x2, qj x3, qn, qi x5, qn, qn, qn, qn, qn, qn, qn, qn, qn, qi x15, qi x16, qi x17, qn, qi x19] [] [(36, m0)]) (fun _ => rfl) (Sim.ite (fun _ => Sim.leaf rfl (fun _ => rfl)) (fun _ => Sim.shift 2 (G := fun n => (R n 19 0 [qr 0] [] 36 m0).bind fun y => RLv sl sc n 0 493 [qr 0, qr 1, qi x2, qj x3, qn, qi x5, qn, qn, qn, qn, qn, qn, qn, qn, qn, qn, qi x16, qi x17, qn, qi x19] [] [(36, m0)] 0 y) (fun _ => rfl) (Sim.call (f_auditCount_ok 36 m0) (fun _ _ => rfl) (runP_mono _ _ _ _ _ _) (fun _ => runL_mono _ _ _ _ _) (fun r_119 => Sim.shift 0 (G := fun n => RL sl sc n 0 493 [qr 0, qr 1, qi x2, qj x3, qn, qi x5, qn, qn, qn, qn, qn, qn, qn, qn, qn, qn, qi x16, qi x17, qn, qi x19] [vi r_119] [(36, m0)]) (fun _ => rfl) (Sim.shift 2 (G := fun n => if r_119 < x16 then RL sl sc n 0 505 [qr 0, qr 1, qi x2, qj x3, qn, qi x5, qn, qn, qn, qn, qn, qn, qn, qn, qn, qn, qi x16, qi x17, qn, qi x19] [] [(36, m0)] else RL sl sc n 0 498 [qr 0, qr 1, qi x2, qj x3, qn, qi x5, qn, qn, qn, qn, qn, qn, qn, qn, qn, qn, qi x16, qi x17, qn, qi x19] [] [(36, m0)]) (fun _ => rfl) (Sim.ite (fun _ => Sim.leaf rfl (fun _ => rfl)) (fun _ => Sim.shift 3 (G := fun n => if x17 < x19 then RL sl sc n 0 505 [qr 0, qr 1, qi x2, qj x3, qn, qi x5, qn, qn, qn, qn, qn, qn, qn, qn, qn, qn, qn, qi x17, qn, qi x19] [] [(36, m0)] else RL sl sc n 0 507 [qr 0, qr 1, qi x2, qj x3, qn, qi x5, qn, qn, qn, qn, qn, qn, qn, qn, qn, qn, qn, qi x17, qn, qi x19] [] [(36, m0)]) (fun _ => rfl) (Sim.ite (fun _ => Sim.leaf rfl (fun _ => rfl)) (fun _ => Sim.jmp (l_law_b507_ok sl sc x2 x3 x5 x17 m0) rfl (fun _ => rfl)))))))))))))
def l_law_b465 (sl : Int) (sc : Int → Int) (x2 x3 x5 x13 x15 x16 x17 x18 x19 : Int) (m0 : OMem) : Option ((Int × Int × Int × OMem) ⊕ ((OMem) ⊕ (OMem) ⊕ (OMem) ⊕ (OMem) ⊕ (OMem) ⊕ (OMem) ⊕ (OMem) ⊕ (OMem) ⊕ (OMem) ⊕ (OMem) ⊕ (OMem))) := if x18 = 1 then (if x17 = x13 then (l_law_b480 sl sc x2 x3 x5 x15 x16 x17 x19 m0) else (some (.inr (.inr (.inr (.inr (.inr (.inr (.inr (.inr (.inl m0))))))))))) else (l_law_b480 sl sc x2 x3 x5 x15 x16 x17 x19 m0)
set_option maxRecDepth 65536 in
set_option maxHeartbeats 16000000 in
theorem l_law_b465_ok (sl : Int) (sc : Int → Int) (x2 x3 x5 x13 x15 x16 x17 x18 x19 : Int) (m0 : OMem) : Sim (l_law_b465 sl sc x2 x3 x5 x13 x15 x16 x17 x18 x19 m0) (Sum.elim (l_law_l19_H sl sc ) (l_law_l19_X sl sc )) (fun n => RL sl sc n 0 465 [qr 0, qr 1, qi x2, qj x3, qn, qi x5, qn, qn, qn, qn, qn, qn, qn, qi x13, qn, qi x15, qi x16, qi x17, qi x18, qi x19] [] [(36, m0)]) :=
  Sim.shift 3 (G := fun n => if x18 = 1 then RL sl sc n 0 471 [qr 0, qr 1, qi x2, qj x3, qn, qi x5, qn, qn, qn, qn, qn, qn, qn, qi x13, qn, qi x15, qi x16, qi x17, qi x18, qi x19] [] [(36, m0)] else RL sl sc n 0 480 [qr 0, qr 1, qi x2, qj x3, qn, qi x5, qn, qn, qn, qn, qn, qn, qn, qi x13, qn, qi x15, qi x16, qi x17, qi x18, qi x19] [] [(36, m0)]) (fun _ => rfl) (Sim.ite (fun _ => Sim.shift 3 (G := fun n => if x17 = x13 then RL sl sc n 0 480 [qr 0, qr 1, qi x2, qj x3, qn, qi x5, qn, qn, qn, qn, qn, qn, qn, qi x13, qn, qi x15, qi x16, qi x17, qn, qi x19] [] [(36, m0)] else RL sl sc n 0 478 [qr 0, qr 1, qi x2, qj x3, qn, qi x5, qn, qn, qn, qn, qn, qn, qn, qi x13, qn, qi x15, qi x16, qi x17, qn, qi x19] [] [(36, m0)]) (fun _ => rfl) (Sim.ite (fun _ => Sim.jmp (l_law_b480_ok sl sc x2 x3 x5 x15 x16 x17 x19 m0) rfl (fun _ => rfl)) (fun _ => Sim.leaf rfl (fun _ => rfl)))) (fun _ => Sim.jmp (l_law_b480_ok sl sc x2 x3 x5 x15 x16 x17 x19 m0) rfl (fun _ => rfl)))
def l_law_b85 (sl : Int) (sc : Int → Int) (x2 x3 x5 x6 x7 x8 x9 x10 x11 s0 : Int) (m0 : OMem) : Option ((Int × Int × Int × OMem) ⊕ ((OMem) ⊕ (OMem) ⊕ (OMem) ⊕ (OMem) ⊕ (OMem) ⊕ (OMem) ⊕ (OMem) ⊕ (OMem) ⊕ (OMem) ⊕ (OMem) ⊕ (OMem))) := if x6 < 5 then ((f_addInstr (and32 x7 15) (and32 x8 7) (and32 x9 15) (and32 x10 3) m0).bind fun (r_79, m_80) => (if s0 = 0 then (l_law_b146 sl sc x2 x3 x5 r_79 r_79 m_80) else (if x2 < 16 then (if and32 x7 15 < 15 then (l_law_b147 sl sc x2 x3 x5 r_79 r_79 1 m_80) else (l_law_b146 sl sc x2 x3 x5 r_79 r_79 m_80)) else (l_law_b146 sl sc x2 x3 x5 r_79 r_79 m_80)))) else (if x6 = 5 then ((f_mem (w32 ((rem32 (and32 x7 2147483647) 10) - 1)) m0).bind fun r_101 => ((f_labelOf 1 (w32 ((rem32 (and32 x7 2147483647) 10) - 1)) m0).bind fun r_102 => ((f_setMem (w32 ((rem32 (and32 x7 2147483647) 10) - 1)) x8 (rem32 (and32 x9 2147483647) 5) m0).bind fun (r_103, m_104) => (if s0 = 0 then (l_law_b248 sl sc x2 x3 x5 x8 (w32 ((rem32 (and32 x7 2147483647) 10) - 1)) (rem32 (and32 x9 2147483647) 5) r_101 r_102 r_103 r_103 m_104) else (if w32 ((rem32 (and32 x7 2147483647) 10) - 1) < 0 then (l_law_b248 sl sc x2 x3 x5 x8 (w32 ((rem32 (and32 x7 2147483647) 10) - 1)) (rem32 (and32 x9 2147483647) 5) r_101 r_102 r_103 r_103 m_104) else (if w32 ((rem32 (and32 x7 2147483647) 10) - 1) < 8 then (if 3 < rem32 (and32 x9 2147483647) 5 then (l_law_b248 sl sc x2 x3 x5 x8 (w32 ((rem32 (and32 x7 2147483647) 10) - 1)) (rem32 (and32 x9 2147483647) 5) r_101 r_102 r_103 r_103 m_104) else (l_law_b249 sl sc x2 x3 x5 x8 (w32 ((rem32 (and32 x7 2147483647) 10) - 1)) (rem32 (and32 x9 2147483647) 5) r_101 r_102 r_103 r_103 1 m_104)) else (l_law_b248 sl sc x2 x3 x5 x8 (w32 ((rem32 (and32 x7 2147483647) 10) - 1)) (rem32 (and32 x9 2147483647) 5) r_101 r_102 r_103 r_103 m_104))))))) else ((f_pc m0).bind fun r_109 => ((f_outCount m0).bind fun r_110 => ((f_auditCount m0).bind fun r_111 => ((f_run (w32 ((rem32 (and32 x7 2147483647) 40) - 1)) m0).bind fun (r_112, m_113) => ((f_status m_113).bind fun r_114 => ((f_outCount m_113).bind fun r_115 => ((f_auditCount m_113).bind fun r_116 => (if w32 ((rem32 (and32 x7 2147483647) 40) - 1) < 1 then (l_law_b396 sl sc x2 x3 x5 x11 r_109 r_112 r_114 (w32 ((w32 ((w32 (r_115 - r_110)) + r_116)) - r_111)) m_113) else (if x11 = 2 then (l_law_b396 sl sc x2 x3 x5 x11 r_109 r_112 r_114 (w32 ((w32 ((w32 (r_115 - r_110)) + r_116)) - r_111)) m_113) else (if x11 = 3 then (l_law_b396 sl sc x2 x3 x5 x11 r_109 r_112 r_114 (w32 ((w32 ((w32 (r_115 - r_110)) + r_116)) - r_111)) m_113) else (if r_112 < 0 then (some (.inr (.inr (.inr (.inr (.inr (.inr (.inl m_113)))))))) else (if w32 ((rem32 (and32 x7 2147483647) 40) - 1) < r_112 then (some (.inr (.inr (.inr (.inr (.inr (.inr (.inl m_113)))))))) else (if r_114 = 0 then (some (.inr (.inr (.inr (.inr (.inr (.inr (.inl m_113)))))))) else (if s0 = 0 then (l_law_b465 sl sc x2 x3 x5 (w32 ((rem32 (and32 x7 2147483647) 40) - 1)) r_110 r_111 r_112 r_114 (w32 ((w32 ((w32 (r_115 - r_110)) + r_116)) - r_111)) m_113) else (if x2 = 0 then (if r_114 = 2 then (if r_112 = 0 then (l_law_b465 sl sc x2 x3 x5 (w32 ((rem32 (and32 x7 2147483647) 40) - 1)) r_110 r_111 r_112 r_114 (w32 ((w32 ((w32 (r_115 - r_110)) + r_116)) - r_111)) m_113) else (some (.inr (.inr (.inr (.inr (.inr (.inr (.inr (.inl m_113)))))))))) else (some (.inr (.inr (.inr (.inr (.inr (.inr (.inr (.inl m_113)))))))))) else (l_law_b465 sl sc x2 x3 x5 (w32 ((rem32 (and32 x7 2147483647) 40) - 1)) r_110 r_111 r_112 r_114 (w32 ((w32 ((w32 (r_115 - r_110)) + r_116)) - r_111)) m_113)))))))))))))))))
set_option maxRecDepth 65536 in
set_option maxHeartbeats 16000000 in
theorem l_law_b85_ok (sl : Int) (sc : Int → Int) (x2 x3 x5 x6 x7 x8 x9 x10 x11 s0 : Int) (m0 : OMem) : Sim (l_law_b85 sl sc x2 x3 x5 x6 x7 x8 x9 x10 x11 s0 m0) (Sum.elim (l_law_l19_H sl sc ) (l_law_l19_X sl sc )) (fun n => RL sl sc n 0 85 [qr 0, qr 1, qi x2, qj x3, qn, qi x5, qi x6, qi x7, qi x8, qi x9, qi x10, qi x11, qn, qn, qn, qn, qn, qn, qn, qn] [vi s0] [(36, m0)]) :=
  Sim.shift 4 (G := fun n => if x6 < 5 then RL sl sc n 0 93 [qr 0, qr 1, qi x2, qj x3, qn, qi x5, qi x6, qi x7, qi x8, qi x9, qi x10, qi x11, qi s0, qn, qn, qn, qn, qn, qn, qn] [] [(36, m0)] else RL sl sc n 0 163 [qr 0, qr 1, qi x2, qj x3, qn, qi x5, qi x6, qi x7, qi x8, qi x9, qi x10, qi x11, qi s0, qn, qn, qn, qn, qn, qn, qn] [] [(36, m0)]) (fun _ => rfl) (Sim.ite (fun _ => Sim.shift 5 (G := fun n => RL sl sc n 0 101 [qr 0, qr 1, qi x2, qj x3, qn, qi x5, qn, qi x7, qi x8, qi x9, qi x10, qn, qi s0, qi (and32 x7 15), qn, qn, qn, qn, qn, qn] [vr 1] [(36, m0)]) (fun _ => rfl) (Sim.shift 7 (G := fun n => RL sl sc n 0 113 [qr 0, qr 1, qi x2, qj x3, qn, qi x5, qn, qi x7, qi x8, qi x9, qi x10, qn, qi s0, qi (and32 x7 15), qn, qn, qn, qn, qn, qn] [vi (and32 x9 15), vi (and32 x8 7), vi (and32 x7 15), vr 1] [(36, m0)]) (fun _ => rfl) (Sim.shift 4 (G := fun n => (R n 3 0 [qr 0, qi (and32 x7 15), qi (and32 x8 7), qi (and32 x9 15), qi (and32 x10 3)] [] 36 m0).bind fun y => RLv sl sc n 0 120 [qr 0, qr 1, qi x2, qj x3, qn, qi x5, qn, qi x7, qi x8, qi x9, qi x10, qn, qi s0, qi (and32 x7 15), qn, qn, qn, qn, qn, qn] [] [(36, m0)] 0 y) (fun _ => rfl) (Sim.call (f_addInstr_ok (and32 x7 15) (and32 x8 7) (and32 x9 15) (and32 x10 3) m0) (fun _ _ => rfl) (runP_mono _ _ _ _ _ _) (fun _ => runL_mono _ _ _ _ _) (fun ⟨r_79, m_80⟩ => Sim.shift 0 (G := fun n => RL sl sc n 0 120 [qr 0, qr 1, qi x2, qj x3, qn, qi x5, qn, qi x7, qi x8, qi x9, qi x10, qn, qi s0, qi (and32 x7 15), qn, qn, qn, qn, qn, qn] [vi r_79] [(36, m_80)]) (fun _ => rfl) (Sim.shift 4 (G := fun n => if s0 = 0 then RL sl sc n 0 146 [qr 0, qr 1, qi x2, qj x3, qn, qi x5, qn, qi x7, qi x8, qi x9, qi x10, qn, qi s0, qi (and32 x7 15), qi r_79, qn, qn, qn, qn, qn] [vi r_79] [(36, m_80)] else RL sl sc n 0 129 [qr 0, qr 1, qi x2, qj x3, qn, qi x5, qn, qi x7, qi x8, qi x9, qi x10, qn, qi s0, qi (and32 x7 15), qi r_79, qn, qn, qn, qn, qn] [vi r_79] [(36, m_80)]) (fun _ => rfl) (Sim.ite (fun _ => Sim.jmp (l_law_b146_ok sl sc x2 x3 x5 r_79 r_79 m_80) rfl (fun _ => rfl)) (fun _ => Sim.shift 3 (G := fun n => if x2 < 16 then RL sl sc n 0 135 [qr 0, qr 1, qi x2, qj x3, qn, qi x5, qn, qn, qn, qn, qn, qn, qn, qi (and32 x7 15), qi r_79, qn, qn, qn, qn, qn] [vi r_79] [(36, m_80)] else RL sl sc n 0 146 [qr 0, qr 1, qi x2, qj x3, qn, qi x5, qn, qn, qn, qn, qn, qn, qn, qi (and32 x7 15), qi r_79, qn, qn, qn, qn, qn] [vi r_79] [(36, m_80)]) (fun _ => rfl) (Sim.ite (fun _ => Sim.shift 3 (G := fun n => if and32 x7 15 < 15 then RL sl sc n 0 142 [qr 0, qr 1, qi x2, qj x3, qn, qi x5, qn, qn, qn, qn, qn, qn, qn, qi (and32 x7 15), qi r_79, qn, qn, qn, qn, qn] [vi r_79] [(36, m_80)] else RL sl sc n 0 146 [qr 0, qr 1, qi x2, qj x3, qn, qi x5, qn, qn, qn, qn, qn, qn, qn, qi (and32 x7 15), qi r_79, qn, qn, qn, qn, qn] [vi r_79] [(36, m_80)]) (fun _ => rfl) (Sim.ite (fun _ => Sim.shift 2 (G := fun n => RL sl sc n 0 147 [qr 0, qr 1, qi x2, qj x3, qn, qi x5, qn, qn, qn, qn, qn, qn, qn, qn, qi r_79, qn, qn, qn, qn, qn] [vi 1, vi r_79] [(36, m_80)]) (fun _ => rfl) (l_law_b147_ok sl sc x2 x3 x5 r_79 r_79 1 m_80)) (fun _ => Sim.jmp (l_law_b146_ok sl sc x2 x3 x5 r_79 r_79 m_80) rfl (fun _ => rfl)))) (fun _ => Sim.jmp (l_law_b146_ok sl sc x2 x3 x5 r_79 r_79 m_80) rfl (fun _ => rfl))))))))))) (fun _ => Sim.shift 3 (G := fun n => if x6 = 5 then RL sl sc n 0 169 [qr 0, qr 1, qi x2, qj x3, qn, qi x5, qi x6, qi x7, qi x8, qi x9, qn, qi x11, qi s0, qn, qn, qn, qn, qn, qn, qn] [] [(36, m0)] else RL sl sc n 0 317 [qr 0, qr 1, qi x2, qj x3, qn, qi x5, qi x6, qi x7, qi x8, qi x9, qn, qi x11, qi s0, qn, qn, qn, qn, qn, qn, qn] [] [(36, m0)]) (fun _ => rfl) (Sim.ite (fun _ => Sim.shift 5 (G := fun n => RL sl sc n 0 177 [qr 0, qr 1, qi x2, qj x3, qn, qi x5, qn, qi x7, qi x8, qi x9, qn, qn, qi s0, qn, qn, qn, qn, qn, qn, qn] [vi (rem32 (and32 x7 2147483647) 10)] [(36, m0)]) (fun _ => rfl) (Sim.shift 5 (G := fun n => RL sl sc n 0 185 [qr 0, qr 1, qi x2, qj x3, qn, qi x5, qn, qi x7, qi x8, qi x9, qn, qn, qi s0, qi (w32 ((rem32 (and32 x7 2147483647) 10) - 1)), qn, qn, qn, qn, qn, qn] [vi 2147483647, vi x9] [(36, m0)]) (fun _ => rfl) (Sim.shift 4 (G := fun n => RL sl sc n 0 190 [qr 0, qr 1, qi x2, qj x3, qn, qi x5, qn, qi x7, qi x8, qi x9, qn, qn, qi s0, qi (w32 ((rem32 (and32 x7 2147483647) 10) - 1)), qi (rem32 (and32 x9 2147483647) 5), qn, qn, qn, qn, qn] [] [(36, m0)]) (fun _ => rfl) (Sim.shift 3 (G := fun n => (R n 32 0 [qr 0, qi (w32 ((rem32 (and32 x7 2147483647) 10) - 1))] [] 36 m0).bind fun y => RLv sl sc n 0 196 [qr 0, qr 1, qi x2, qj x3, qn, qi x5, qn, qi x7, qi x8, qi x9, qn, qn, qi s0, qi (w32 ((rem32 (and32 x7 2147483647) 10) - 1)), qi (rem32 (and32 x9 2147483647) 5), qn, qn, qn, qn, qn] [] [(36, m0)] 0 y) (fun _ => rfl) (Sim.call (f_mem_ok (w32 ((rem32 (and32 x7 2147483647) 10) - 1)) m0) (fun _ _ => rfl) (runP_mono _ _ _ _ _ _) (fun _ => runL_mono _ _ _ _ _) (fun r_101 => Sim.shift 0 (G := fun n => RL sl sc n 0 196 [qr 0, qr 1, qi x2, qj x3, qn, qi x5, qn, qi x7, qi x8, qi x9, qn, qn, qi s0, qi (w32 ((rem32 (and32 x7 2147483647) 10) - 1)), qi (rem32 (and32 x9 2147483647) 5), qn, qn, qn, qn, qn] [vi r_101] [(36, m0)]) (fun _ => rfl) (Sim.shift 5 (G := fun n => (R n 22 0 [qr 0, qi 1, qi (w32 ((rem32 (and32 x7 2147483647) 10) - 1))] [] 36 m0).bind fun y => RLv sl sc n 0 205 [qr 0, qr 1, qi x2, qj x3, qn, qi x5, qn, qi x7, qi x8, qi x9, qn, qn, qi s0, qi (w32 ((rem32 (and32 x7 2147483647) 10) - 1)), qi (rem32 (and32 x9 2147483647) 5), qi r_101, qn, qn, qn, qn] [] [(36, m0)] 0 y) (fun _ => rfl) (Sim.call (f_labelOf_ok 1 (w32 ((rem32 (and32 x7 2147483647) 10) - 1)) m0) (fun _ _ => rfl) (runP_mono _ _ _ _ _ _) (fun _ => runL_mono _ _ _ _ _) (fun r_102 => Sim.shift 0 (G := fun n => RL sl sc n 0 205 [qr 0, qr 1, qi x2, qj x3, qn, qi x5, qn, qi x7, qi x8, qi x9, qn, qn, qi s0, qi (w32 ((rem32 (and32 x7 2147483647) 10) - 1)), qi (rem32 (and32 x9 2147483647) 5), qi r_101, qn, qn, qn, qn] [vi r_102] [(36, m0)]) (fun _ => rfl) (Sim.shift 6 (G := fun n => (R n 33 0 [qr 0, qi (w32 ((rem32 (and32 x7 2147483647) 10) - 1)), qi x8, qi (rem32 (and32 x9 2147483647) 5)] [] 36 m0).bind fun y => RLv sl sc n 0 217 [qr 0, qr 1, qi x2, qj x3, qn, qi x5, qn, qi x7, qi x8, qi x9, qn, qn, qi s0, qi (w32 ((rem32 (and32 x7 2147483647) 10) - 1)), qi (rem32 (and32 x9 2147483647) 5), qi r_101, qi r_102, qn, qn, qn] [] [(36, m0)] 0 y) (fun _ => rfl) (Sim.call (f_setMem_ok (w32 ((rem32 (and32 x7 2147483647) 10) - 1)) x8 (rem32 (and32 x9 2147483647) 5) m0) (fun _ _ => rfl) (runP_mono _ _ _ _ _ _) (fun _ => runL_mono _ _ _ _ _) (fun ⟨r_103, m_104⟩ => Sim.shift 0 (G := fun n => RL sl sc n 0 217 [qr 0, qr 1, qi x2, qj x3, qn, qi x5, qn, qi x7, qi x8, qi x9, qn, qn, qi s0, qi (w32 ((rem32 (and32 x7 2147483647) 10) - 1)), qi (rem32 (and32 x9 2147483647) 5), qi r_101, qi r_102, qn, qn, qn] [vi r_103] [(36, m_104)]) (fun _ => rfl) (Sim.shift 4 (G := fun n => if s0 = 0 then RL sl sc n 0 248 [qr 0, qr 1, qi x2, qj x3, qn, qi x5, qn, qi x7, qi x8, qi x9, qn, qn, qi s0, qi (w32 ((rem32 (and32 x7 2147483647) 10) - 1)), qi (rem32 (and32 x9 2147483647) 5), qi r_101, qi r_102, qi r_103, qn, qn] [vi r_103] [(36, m_104)] else RL sl sc n 0 226 [qr 0, qr 1, qi x2, qj x3, qn, qi x5, qn, qi x7, qi x8, qi x9, qn, qn, qi s0, qi (w32 ((rem32 (and32 x7 2147483647) 10) - 1)), qi (rem32 (and32 x9 2147483647) 5), qi r_101, qi r_102, qi r_103, qn, qn] [vi r_103] [(36, m_104)]) (fun _ => rfl) (Sim.ite (fun _ => Sim.jmp (l_law_b248_ok sl sc x2 x3 x5 x8 (w32 ((rem32 (and32 x7 2147483647) 10) - 1)) (rem32 (and32 x9 2147483647) 5) r_101 r_102 r_103 r_103 m_104) rfl (fun _ => rfl)) (fun _ => Sim.shift 2 (G := fun n => if w32 ((rem32 (and32 x7 2147483647) 10) - 1) < 0 then RL sl sc n 0 248 [qr 0, qr 1, qi x2, qj x3, qn, qi x5, qn, qn, qi x8, qn, qn, qn, qn, qi (w32 ((rem32 (and32 x7 2147483647) 10) - 1)), qi (rem32 (and32 x9 2147483647) 5), qi r_101, qi r_102, qi r_103, qn, qn] [vi r_103] [(36, m_104)] else RL sl sc n 0 231 [qr 0, qr 1, qi x2, qj x3, qn, qi x5, qn, qn, qi x8, qn, qn, qn, qn, qi (w32 ((rem32 (and32 x7 2147483647) 10) - 1)), qi (rem32 (and32 x9 2147483647) 5), qi r_101, qi r_102, qi r_103, qn, qn] [vi r_103] [(36, m_104)]) (fun _ => rfl) (Sim.ite (fun _ => l_law_b248_ok sl sc x2 x3 x5 x8 (w32 ((rem32 (and32 x7 2147483647) 10) - 1)) (rem32 (and32 x9 2147483647) 5) r_101 r_102 r_103 r_103 m_104) (fun _ => Sim.shift 3 (G := fun n => if w32 ((rem32 (and32 x7 2147483647) 10) - 1) < 8 then RL sl sc n 0 238 [qr 0, qr 1, qi x2, qj x3, qn, qi x5, qn, qn, qi x8, qn, qn, qn, qn, qi (w32 ((rem32 (and32 x7 2147483647) 10) - 1)), qi (rem32 (and32 x9 2147483647) 5), qi r_101, qi r_102, qi r_103, qn, qn] [vi r_103] [(36, m_104)] else RL sl sc n 0 248 [qr 0, qr 1, qi x2, qj x3, qn, qi x5, qn, qn, qi x8, qn, qn, qn, qn, qi (w32 ((rem32 (and32 x7 2147483647) 10) - 1)), qi (rem32 (and32 x9 2147483647) 5), qi r_101, qi r_102, qi r_103, qn, qn] [vi r_103] [(36, m_104)]) (fun _ => rfl) (Sim.ite (fun _ => Sim.shift 3 (G := fun n => if 3 < rem32 (and32 x9 2147483647) 5 then RL sl sc n 0 248 [qr 0, qr 1, qi x2, qj x3, qn, qi x5, qn, qn, qi x8, qn, qn, qn, qn, qi (w32 ((rem32 (and32 x7 2147483647) 10) - 1)), qi (rem32 (and32 x9 2147483647) 5), qi r_101, qi r_102, qi r_103, qn, qn] [vi r_103] [(36, m_104)] else RL sl sc n 0 244 [qr 0, qr 1, qi x2, qj x3, qn, qi x5, qn, qn, qi x8, qn, qn, qn, qn, qi (w32 ((rem32 (and32 x7 2147483647) 10) - 1)), qi (rem32 (and32 x9 2147483647) 5), qi r_101, qi r_102, qi r_103, qn, qn] [vi r_103] [(36, m_104)]) (fun _ => rfl) (Sim.ite (fun _ => l_law_b248_ok sl sc x2 x3 x5 x8 (w32 ((rem32 (and32 x7 2147483647) 10) - 1)) (rem32 (and32 x9 2147483647) 5) r_101 r_102 r_103 r_103 m_104) (fun _ => Sim.shift 2 (G := fun n => RL sl sc n 0 249 [qr 0, qr 1, qi x2, qj x3, qn, qi x5, qn, qn, qi x8, qn, qn, qn, qn, qi (w32 ((rem32 (and32 x7 2147483647) 10) - 1)), qi (rem32 (and32 x9 2147483647) 5), qi r_101, qi r_102, qi r_103, qn, qn] [vi 1, vi r_103] [(36, m_104)]) (fun _ => rfl) (l_law_b249_ok sl sc x2 x3 x5 x8 (w32 ((rem32 (and32 x7 2147483647) 10) - 1)) (rem32 (and32 x9 2147483647) 5) r_101 r_102 r_103 r_103 1 m_104)))) (fun _ => l_law_b248_ok sl sc x2 x3 x5 x8 (w32 ((rem32 (and32 x7 2147483647) 10) - 1)) (rem32 (and32 x9 2147483647) 5) r_101 r_102 r_103 r_103 m_104))))))))))))))))))) (fun _ => Sim.shift 5 (G := fun n => RL sl sc n 0 325 [qr 0, qr 1, qi x2, qj x3, qn, qi x5, qn, qi x7, qn, qn, qn, qi x11, qi s0, qn, qn, qn, qn, qn, qn, qn] [vi (rem32 (and32 x7 2147483647) 40)] [(36, m0)]) (fun _ => rfl) (Sim.shift 5 (G := fun n => (R n 14 0 [qr 0] [] 36 m0).bind fun y => RLv sl sc n 0 333 [qr 0, qr 1, qi x2, qj x3, qn, qi x5, qn, qi x7, qn, qn, qn, qi x11, qi s0, qi (w32 ((rem32 (and32 x7 2147483647) 40) - 1)), qn, qn, qn, qn, qn, qn] [] [(36, m0)] 0 y) (fun _ => rfl) (Sim.call (f_pc_ok 36 m0) (fun _ _ => rfl) (runP_mono _ _ _ _ _ _) (fun _ => runL_mono _ _ _ _ _) (fun r_109 => Sim.shift 0 (G := fun n => RL sl sc n 0 333 [qr 0, qr 1, qi x2, qj x3, qn, qi x5, qn, qi x7, qn, qn, qn, qi x11, qi s0, qi (w32 ((rem32 (and32 x7 2147483647) 40) - 1)), qn, qn, qn, qn, qn, qn] [vi r_109] [(36, m0)]) (fun _ => rfl) (Sim.shift 3 (G := fun n => (R n 18 0 [qr 0] [] 36 m0).bind fun y => RLv sl sc n 0 339 [qr 0, qr 1, qi x2, qj x3, qn, qi x5, qn, qi x7, qn, qn, qn, qi x11, qi s0, qi (w32 ((rem32 (and32 x7 2147483647) 40) - 1)), qi r_109, qn, qn, qn, qn, qn] [] [(36, m0)] 0 y) (fun _ => rfl) (Sim.call (f_outCount_ok 36 m0) (fun _ _ => rfl) (runP_mono _ _ _ _ _ _) (fun _ => runL_mono _ _ _ _ _) (fun r_110 => Sim.shift 0 (G := fun n => RL sl sc n 0 339 [qr 0, qr 1, qi x2, qj x3, qn, qi x5, qn, qi x7, qn, qn, qn, qi x11, qi s0, qi (w32 ((rem32 (and32 x7 2147483647) 40) - 1)), qi r_109, qn, qn, qn, qn, qn] [vi r_110] [(36, m0)]) (fun _ => rfl) (Sim.shift 3 (G := fun n => (R n 19 0 [qr 0] [] 36 m0).bind fun y => RLv sl sc n 0 345 [qr 0, qr 1, qi x2, qj x3, qn, qi x5, qn, qi x7, qn, qn, qn, qi x11, qi s0, qi (w32 ((rem32 (and32 x7 2147483647) 40) - 1)), qi r_109, qi r_110, qn, qn, qn, qn] [] [(36, m0)] 0 y) (fun _ => rfl) (Sim.call (f_auditCount_ok 36 m0) (fun _ _ => rfl) (runP_mono _ _ _ _ _ _) (fun _ => runL_mono _ _ _ _ _) (fun r_111 => Sim.shift 0 (G := fun n => RL sl sc n 0 345 [qr 0, qr 1, qi x2, qj x3, qn, qi x5, qn, qi x7, qn, qn, qn, qi x11, qi s0, qi (w32 ((rem32 (and32 x7 2147483647) 40) - 1)), qi r_109, qi r_110, qn, qn, qn, qn] [vi r_111] [(36, m0)]) (fun _ => rfl) (Sim.shift 4 (G := fun n => (R n 23 0 [qr 0, qi (w32 ((rem32 (and32 x7 2147483647) 40) - 1)), qn, qn, qn] [] 36 m0).bind fun y => RLv sl sc n 0 353 [qr 0, qr 1, qi x2, qj x3, qn, qi x5, qn, qi x7, qn, qn, qn, qi x11, qi s0, qi (w32 ((rem32 (and32 x7 2147483647) 40) - 1)), qi r_109, qi r_110, qi r_111, qn, qn, qn] [] [(36, m0)] 0 y) (fun _ => rfl) (Sim.call (f_run_ok (w32 ((rem32 (and32 x7 2147483647) 40) - 1)) m0) (fun _ _ => rfl) (runP_mono _ _ _ _ _ _) (fun _ => runL_mono _ _ _ _ _) (fun ⟨r_112, m_113⟩ => Sim.shift 0 (G := fun n => RL sl sc n 0 353 [qr 0, qr 1, qi x2, qj x3, qn, qi x5, qn, qi x7, qn, qn, qn, qi x11, qi s0, qi (w32 ((rem32 (and32 x7 2147483647) 40) - 1)), qi r_109, qi r_110, qi r_111, qn, qn, qn] [vi r_112] [(36, m_113)]) (fun _ => rfl) (Sim.shift 3 (G := fun n => (R n 2 0 [qr 0] [] 36 m_113).bind fun y => RLv sl sc n 0 359 [qr 0, qr 1, qi x2, qj x3, qn, qi x5, qn, qi x7, qn, qn, qn, qi x11, qi s0, qi (w32 ((rem32 (and32 x7 2147483647) 40) - 1)), qi r_109, qi r_110, qi r_111, qi r_112, qn, qn] [] [(36, m_113)] 0 y) (fun _ => rfl) (Sim.call (f_status_ok 36 m_113) (fun _ _ => rfl) (runP_mono _ _ _ _ _ _) (fun _ => runL_mono _ _ _ _ _) (fun r_114 => Sim.shift 0 (G := fun n => RL sl sc n 0 359 [qr 0, qr 1, qi x2, qj x3, qn, qi x5, qn, qi x7, qn, qn, qn, qi x11, qi s0, qi (w32 ((rem32 (and32 x7 2147483647) 40) - 1)), qi r_109, qi r_110, qi r_111, qi r_112, qn, qn] [vi r_114] [(36, m_113)]) (fun _ => rfl) (Sim.shift 3 (G := fun n => (R n 18 0 [qr 0] [] 36 m_113).bind fun y => RLv sl sc n 0 365 [qr 0, qr 1, qi x2, qj x3, qn, qi x5, qn, qi x7, qn, qn, qn, qi x11, qi s0, qi (w32 ((rem32 (and32 x7 2147483647) 40) - 1)), qi r_109, qi r_110, qi r_111, qi r_112, qi r_114, qn] [] [(36, m_113)] 0 y) (fun _ => rfl) (Sim.call (f_outCount_ok 36 m_113) (fun _ _ => rfl) (runP_mono _ _ _ _ _ _) (fun _ => runL_mono _ _ _ _ _) (fun r_115 => Sim.shift 0 (G := fun n => RL sl sc n 0 365 [qr 0, qr 1, qi x2, qj x3, qn, qi x5, qn, qi x7, qn, qn, qn, qi x11, qi s0, qi (w32 ((rem32 (and32 x7 2147483647) 40) - 1)), qi r_109, qi r_110, qi r_111, qi r_112, qi r_114, qn] [vi r_115] [(36, m_113)]) (fun _ => rfl) (Sim.shift 4 (G := fun n => (R n 19 0 [qr 0] [] 36 m_113).bind fun y => RLv sl sc n 0 372 [qr 0, qr 1, qi x2, qj x3, qn, qi x5, qn, qi x7, qn, qn, qn, qi x11, qi s0, qi (w32 ((rem32 (and32 x7 2147483647) 40) - 1)), qi r_109, qi r_110, qi r_111, qi r_112, qi r_114, qn] [vi (w32 (r_115 - r_110))] [(36, m_113)] 0 y) (fun _ => rfl) (Sim.call (f_auditCount_ok 36 m_113) (fun _ _ => rfl) (runP_mono _ _ _ _ _ _) (fun _ => runL_mono _ _ _ _ _) (fun r_116 => Sim.shift 0 (G := fun n => RL sl sc n 0 372 [qr 0, qr 1, qi x2, qj x3, qn, qi x5, qn, qi x7, qn, qn, qn, qi x11, qi s0, qi (w32 ((rem32 (and32 x7 2147483647) 40) - 1)), qi r_109, qi r_110, qi r_111, qi r_112, qi r_114, qn] [vi r_116, vi (w32 (r_115 - r_110))] [(36, m_113)]) (fun _ => rfl) (Sim.shift 4 (G := fun n => RL sl sc n 0 378 [qr 0, qr 1, qi x2, qj x3, qn, qi x5, qn, qi x7, qn, qn, qn, qi x11, qi s0, qi (w32 ((rem32 (and32 x7 2147483647) 40) - 1)), qi r_109, qi r_110, qi r_111, qi r_112, qi r_114, qi (w32 ((w32 ((w32 (r_115 - r_110)) + r_116)) - r_111))] [] [(36, m_113)]) (fun _ => rfl) (Sim.shift 3 (G := fun n => if w32 ((rem32 (and32 x7 2147483647) 40) - 1) < 1 then RL sl sc n 0 396 [qr 0, qr 1, qi x2, qj x3, qn, qi x5, qn, qi x7, qn, qn, qn, qi x11, qi s0, qi (w32 ((rem32 (and32 x7 2147483647) 40) - 1)), qi r_109, qi r_110, qi r_111, qi r_112, qi r_114, qi (w32 ((w32 ((w32 (r_115 - r_110)) + r_116)) - r_111))] [] [(36, m_113)] else RL sl sc n 0 384 [qr 0, qr 1, qi x2, qj x3, qn, qi x5, qn, qi x7, qn, qn, qn, qi x11, qi s0, qi (w32 ((rem32 (and32 x7 2147483647) 40) - 1)), qi r_109, qi r_110, qi r_111, qi r_112, qi r_114, qi (w32 ((w32 ((w32 (r_115 - r_110)) + r_116)) - r_111))] [] [(36, m_113)]) (fun _ => rfl) (Sim.ite (fun _ => Sim.jmp (l_law_b396_ok sl sc x2 x3 x5 x11 r_109 r_112 r_114 (w32 ((w32 ((w32 (r_115 - r_110)) + r_116)) - r_111)) m_113) rfl (fun _ => rfl)) (fun _ => Sim.shift 3 (G := fun n => if x11 = 2 then RL sl sc n 0 396 [qr 0, qr 1, qi x2, qj x3, qn, qi x5, qn, qn, qn, qn, qn, qi x11, qi s0, qi (w32 ((rem32 (and32 x7 2147483647) 40) - 1)), qi r_109, qi r_110, qi r_111, qi r_112, qi r_114, qi (w32 ((w32 ((w32 (r_115 - r_110)) + r_116)) - r_111))] [] [(36, m_113)] else RL sl sc n 0 390 [qr 0, qr 1, qi x2, qj x3, qn, qi x5, qn, qn, qn, qn, qn, qi x11, qi s0, qi (w32 ((rem32 (and32 x7 2147483647) 40) - 1)), qi r_109, qi r_110, qi r_111, qi r_112, qi r_114, qi (w32 ((w32 ((w32 (r_115 - r_110)) + r_116)) - r_111))] [] [(36, m_113)]) (fun _ => rfl) (Sim.ite (fun _ => Sim.jmp (l_law_b396_ok sl sc x2 x3 x5 x11 r_109 r_112 r_114 (w32 ((w32 ((w32 (r_115 - r_110)) + r_116)) - r_111)) m_113) rfl (fun _ => rfl)) (fun _ => Sim.shift 3 (G := fun n => if x11 = 3 then RL sl sc n 0 396 [qr 0, qr 1, qi x2, qj x3, qn, qi x5, qn, qn, qn, qn, qn, qi x11, qi s0, qi (w32 ((rem32 (and32 x7 2147483647) 40) - 1)), qi r_109, qi r_110, qi r_111, qi r_112, qi r_114, qi (w32 ((w32 ((w32 (r_115 - r_110)) + r_116)) - r_111))] [] [(36, m_113)] else RL sl sc n 0 424 [qr 0, qr 1, qi x2, qj x3, qn, qi x5, qn, qn, qn, qn, qn, qi x11, qi s0, qi (w32 ((rem32 (and32 x7 2147483647) 40) - 1)), qi r_109, qi r_110, qi r_111, qi r_112, qi r_114, qi (w32 ((w32 ((w32 (r_115 - r_110)) + r_116)) - r_111))] [] [(36, m_113)]) (fun _ => rfl) (Sim.ite (fun _ => Sim.jmp (l_law_b396_ok sl sc x2 x3 x5 x11 r_109 r_112 r_114 (w32 ((w32 ((w32 (r_115 - r_110)) + r_116)) - r_111)) m_113) rfl (fun _ => rfl)) (fun _ => Sim.shift 2 (G := fun n => if r_112 < 0 then RL sl sc n 0 441 [qr 0, qr 1, qi x2, qj x3, qn, qi x5, qn, qn, qn, qn, qn, qn, qi s0, qi (w32 ((rem32 (and32 x7 2147483647) 40) - 1)), qn, qi r_110, qi r_111, qi r_112, qi r_114, qi (w32 ((w32 ((w32 (r_115 - r_110)) + r_116)) - r_111))] [] [(36, m_113)] else RL sl sc n 0 429 [qr 0, qr 1, qi x2, qj x3, qn, qi x5, qn, qn, qn, qn, qn, qn, qi s0, qi (w32 ((rem32 (and32 x7 2147483647) 40) - 1)), qn, qi r_110, qi r_111, qi r_112, qi r_114, qi (w32 ((w32 ((w32 (r_115 - r_110)) + r_116)) - r_111))] [] [(36, m_113)]) (fun _ => rfl) (Sim.ite (fun _ => Sim.leaf rfl (fun _ => rfl)) (fun _ => Sim.shift 3 (G := fun n => if w32 ((rem32 (and32 x7 2147483647) 40) - 1) < r_112 then RL sl sc n 0 441 [qr 0, qr 1, qi x2, qj x3, qn, qi x5, qn, qn, qn, qn, qn, qn, qi s0, qi (w32 ((rem32 (and32 x7 2147483647) 40) - 1)), qn, qi r_110, qi r_111, qi r_112, qi r_114, qi (w32 ((w32 ((w32 (r_115 - r_110)) + r_116)) - r_111))] [] [(36, m_113)] else RL sl sc n 0 436 [qr 0, qr 1, qi x2, qj x3, qn, qi x5, qn, qn, qn, qn, qn, qn, qi s0, qi (w32 ((rem32 (and32 x7 2147483647) 40) - 1)), qn, qi r_110, qi r_111, qi r_112, qi r_114, qi (w32 ((w32 ((w32 (r_115 - r_110)) + r_116)) - r_111))] [] [(36, m_113)]) (fun _ => rfl) (Sim.ite (fun _ => Sim.leaf rfl (fun _ => rfl)) (fun _ => Sim.shift 2 (G := fun n => if r_114 = 0 then RL sl sc n 0 441 [qr 0, qr 1, qi x2, qj x3, qn, qi x5, qn, qn, qn, qn, qn, qn, qi s0, qi (w32 ((rem32 (and32 x7 2147483647) 40) - 1)), qn, qi r_110, qi r_111, qi r_112, qi r_114, qi (w32 ((w32 ((w32 (r_115 - r_110)) + r_116)) - r_111))] [] [(36, m_113)] else RL sl sc n 0 443 [qr 0, qr 1, qi x2, qj x3, qn, qi x5, qn, qn, qn, qn, qn, qn, qi s0, qi (w32 ((rem32 (and32 x7 2147483647) 40) - 1)), qn, qi r_110, qi r_111, qi r_112, qi r_114, qi (w32 ((w32 ((w32 (r_115 - r_110)) + r_116)) - r_111))] [] [(36, m_113)]) (fun _ => rfl) (Sim.ite (fun _ => Sim.leaf rfl (fun _ => rfl)) (fun _ => Sim.shift 2 (G := fun n => if s0 = 0 then RL sl sc n 0 465 [qr 0, qr 1, qi x2, qj x3, qn, qi x5, qn, qn, qn, qn, qn, qn, qi s0, qi (w32 ((rem32 (and32 x7 2147483647) 40) - 1)), qn, qi r_110, qi r_111, qi r_112, qi r_114, qi (w32 ((w32 ((w32 (r_115 - r_110)) + r_116)) - r_111))] [] [(36, m_113)] else RL sl sc n 0 448 [qr 0, qr 1, qi x2, qj x3, qn, qi x5, qn, qn, qn, qn, qn, qn, qi s0, qi (w32 ((rem32 (and32 x7 2147483647) 40) - 1)), qn, qi r_110, qi r_111, qi r_112, qi r_114, qi (w32 ((w32 ((w32 (r_115 - r_110)) + r_116)) - r_111))] [] [(36, m_113)]) (fun _ => rfl) (Sim.ite (fun _ => Sim.jmp (l_law_b465_ok sl sc x2 x3 x5 (w32 ((rem32 (and32 x7 2147483647) 40) - 1)) r_110 r_111 r_112 r_114 (w32 ((w32 ((w32 (r_115 - r_110)) + r_116)) - r_111)) m_113) rfl (fun _ => rfl)) (fun _ => Sim.shift 2 (G := fun n => if x2 = 0 then RL sl sc n 0 452 [qr 0, qr 1, qi x2, qj x3, qn, qi x5, qn, qn, qn, qn, qn, qn, qn, qi (w32 ((rem32 (and32 x7 2147483647) 40) - 1)), qn, qi r_110, qi r_111, qi r_112, qi r_114, qi (w32 ((w32 ((w32 (r_115 - r_110)) + r_116)) - r_111))] [] [(36, m_113)] else RL sl sc n 0 465 [qr 0, qr 1, qi x2, qj x3, qn, qi x5, qn, qn, qn, qn, qn, qn, qn, qi (w32 ((rem32 (and32 x7 2147483647) 40) - 1)), qn, qi r_110, qi r_111, qi r_112, qi r_114, qi (w32 ((w32 ((w32 (r_115 - r_110)) + r_116)) - r_111))] [] [(36, m_113)]) (fun _ => rfl) (Sim.ite (fun _ => Sim.shift 3 (G := fun n => if r_114 = 2 then RL sl sc n 0 458 [qr 0, qr 1, qi x2, qj x3, qn, qi x5, qn, qn, qn, qn, qn, qn, qn, qi (w32 ((rem32 (and32 x7 2147483647) 40) - 1)), qn, qi r_110, qi r_111, qi r_112, qi r_114, qi (w32 ((w32 ((w32 (r_115 - r_110)) + r_116)) - r_111))] [] [(36, m_113)] else RL sl sc n 0 463 [qr 0, qr 1, qi x2, qj x3, qn, qi x5, qn, qn, qn, qn, qn, qn, qn, qi (w32 ((rem32 (and32 x7 2147483647) 40) - 1)), qn, qi r_110, qi r_111, qi r_112, qi r_114, qi (w32 ((w32 ((w32 (r_115 - r_110)) + r_116)) - r_111))] [] [(36, m_113)]) (fun _ => rfl) (Sim.ite (fun _ => Sim.shift 2 (G := fun n => if r_112 = 0 then RL sl sc n 0 465 [qr 0, qr 1, qi x2, qj x3, qn, qi x5, qn, qn, qn, qn, qn, qn, qn, qi (w32 ((rem32 (and32 x7 2147483647) 40) - 1)), qn, qi r_110, qi r_111, qi r_112, qi r_114, qi (w32 ((w32 ((w32 (r_115 - r_110)) + r_116)) - r_111))] [] [(36, m_113)] else RL sl sc n 0 463 [qr 0, qr 1, qi x2, qj x3, qn, qi x5, qn, qn, qn, qn, qn, qn, qn, qi (w32 ((rem32 (and32 x7 2147483647) 40) - 1)), qn, qi r_110, qi r_111, qi r_112, qi r_114, qi (w32 ((w32 ((w32 (r_115 - r_110)) + r_116)) - r_111))] [] [(36, m_113)]) (fun _ => rfl) (Sim.ite (fun _ => l_law_b465_ok sl sc x2 x3 x5 (w32 ((rem32 (and32 x7 2147483647) 40) - 1)) r_110 r_111 r_112 r_114 (w32 ((w32 ((w32 (r_115 - r_110)) + r_116)) - r_111)) m_113) (fun _ => Sim.leaf rfl (fun _ => rfl)))) (fun _ => Sim.leaf rfl (fun _ => rfl)))) (fun _ => l_law_b465_ok sl sc x2 x3 x5 (w32 ((rem32 (and32 x7 2147483647) 40) - 1)) r_110 r_111 r_112 r_114 (w32 ((w32 ((w32 (r_115 - r_110)) + r_116)) - r_111)) m_113)))))))))))))))))))))))))))))))))))))))))))
def l_law_l19 (sl : Int) (sc : Int → Int) : Int × Int × Int × OMem → Option ((Int × Int × Int × OMem) ⊕ ((OMem) ⊕ (OMem) ⊕ (OMem) ⊕ (OMem) ⊕ (OMem) ⊕ (OMem) ⊕ (OMem) ⊕ (OMem) ⊕ (OMem) ⊕ (OMem) ⊕ (OMem))) := fun (x2, x3, x5, m0) => if w32 (x5 + 4) < sl then (if 0 ≤ x5 ∧ x5 < sl then (if 0 ≤ w32 (x5 + 1) ∧ w32 (x5 + 1) < sl then (if 0 ≤ w32 (x5 + 2) ∧ w32 (x5 + 2) < sl then (if 0 ≤ w32 (x5 + 3) ∧ w32 (x5 + 3) < sl then (if 0 ≤ w32 (x5 + 4) ∧ w32 (x5 + 4) < sl then ((f_status m0).bind fun r_78 => (if r_78 = 0 then (l_law_b85 sl sc x2 x3 x5 (and32 (sc x5) 7) (sc (w32 (x5 + 1))) (sc (w32 (x5 + 2))) (sc (w32 (x5 + 3))) (sc (w32 (x5 + 4))) r_78 1 m0) else (l_law_b85 sl sc x2 x3 x5 (and32 (sc x5) 7) (sc (w32 (x5 + 1))) (sc (w32 (x5 + 2))) (sc (w32 (x5 + 3))) (sc (w32 (x5 + 4))) r_78 0 m0))) else none) else none) else none) else none) else none) else (some (.inr (.inr (.inr (.inr (.inr (.inr (.inr (.inr (.inr (.inr (.inr m0))))))))))))
set_option maxRecDepth 65536 in
set_option maxHeartbeats 16000000 in
theorem l_law_l19_ok (sl : Int) (sc : Int → Int) (x2 x3 x5 : Int) (m0 : OMem) : Sim (l_law_l19 sl sc (x2, x3, x5, m0)) (Sum.elim (l_law_l19_H sl sc ) (l_law_l19_X sl sc )) (l_law_l19_H sl sc (x2, x3, x5, m0)) :=
  Sim.shift 6 (G := fun n => if w32 (x5 + 4) < sl then RL sl sc n 0 28 [qr 0, qr 1, qi x2, qj x3, qn, qi x5, qn, qn, qn, qn, qn, qn, qn, qn, qn, qn, qn, qn, qn, qn] [] [(36, m0)] else RL sl sc n 0 530 [qr 0, qr 1, qi x2, qj x3, qn, qi x5, qn, qn, qn, qn, qn, qn, qn, qn, qn, qn, qn, qn, qn, qn] [] [(36, m0)]) (fun _ => rfl) (Sim.ite (fun _ => Sim.shift 3 (G := fun n => if 0 ≤ x5 ∧ x5 < sl then RL sl sc n 0 32 [qr 0, qr 1, qi x2, qj x3, qn, qi x5, qn, qn, qn, qn, qn, qn, qn, qn, qn, qn, qn, qn, qn, qn] [vi (sc x5)] [(36, m0)] else none) (fun _ => rfl) (Sim.grd fun _ => Sim.shift 5 (G := fun n => RL sl sc n 0 40 [qr 0, qr 1, qi x2, qj x3, qn, qi x5, qi (and32 (sc x5) 7), qn, qn, qn, qn, qn, qn, qn, qn, qn, qn, qn, qn, qn] [vi x5, vr 0] [(36, m0)]) (fun _ => rfl) (Sim.shift 3 (G := fun n => if 0 ≤ w32 (x5 + 1) ∧ w32 (x5 + 1) < sl then RL sl sc n 0 43 [qr 0, qr 1, qi x2, qj x3, qn, qi x5, qi (and32 (sc x5) 7), qn, qn, qn, qn, qn, qn, qn, qn, qn, qn, qn, qn, qn] [vi (sc (w32 (x5 + 1)))] [(36, m0)] else none) (fun _ => rfl) (Sim.grd fun _ => Sim.shift 5 (G := fun n => RL sl sc n 0 50 [qr 0, qr 1, qi x2, qj x3, qn, qi x5, qi (and32 (sc x5) 7), qi (sc (w32 (x5 + 1))), qn, qn, qn, qn, qn, qn, qn, qn, qn, qn, qn, qn] [vi (w32 (x5 + 2)), vr 0] [(36, m0)]) (fun _ => rfl) (Sim.shift 1 (G := fun n => if 0 ≤ w32 (x5 + 2) ∧ w32 (x5 + 2) < sl then RL sl sc n 0 51 [qr 0, qr 1, qi x2, qj x3, qn, qi x5, qi (and32 (sc x5) 7), qi (sc (w32 (x5 + 1))), qn, qn, qn, qn, qn, qn, qn, qn, qn, qn, qn, qn] [vi (sc (w32 (x5 + 2)))] [(36, m0)] else none) (fun _ => rfl) (Sim.grd fun _ => Sim.shift 5 (G := fun n => RL sl sc n 0 58 [qr 0, qr 1, qi x2, qj x3, qn, qi x5, qi (and32 (sc x5) 7), qi (sc (w32 (x5 + 1))), qi (sc (w32 (x5 + 2))), qn, qn, qn, qn, qn, qn, qn, qn, qn, qn, qn] [vi (w32 (x5 + 3)), vr 0] [(36, m0)]) (fun _ => rfl) (Sim.shift 1 (G := fun n => if 0 ≤ w32 (x5 + 3) ∧ w32 (x5 + 3) < sl then RL sl sc n 0 59 [qr 0, qr 1, qi x2, qj x3, qn, qi x5, qi (and32 (sc x5) 7), qi (sc (w32 (x5 + 1))), qi (sc (w32 (x5 + 2))), qn, qn, qn, qn, qn, qn, qn, qn, qn, qn, qn] [vi (sc (w32 (x5 + 3)))] [(36, m0)] else none) (fun _ => rfl) (Sim.grd fun _ => Sim.shift 5 (G := fun n => RL sl sc n 0 66 [qr 0, qr 1, qi x2, qj x3, qn, qi x5, qi (and32 (sc x5) 7), qi (sc (w32 (x5 + 1))), qi (sc (w32 (x5 + 2))), qi (sc (w32 (x5 + 3))), qn, qn, qn, qn, qn, qn, qn, qn, qn, qn] [vi (w32 (x5 + 4)), vr 0] [(36, m0)]) (fun _ => rfl) (Sim.shift 1 (G := fun n => if 0 ≤ w32 (x5 + 4) ∧ w32 (x5 + 4) < sl then RL sl sc n 0 67 [qr 0, qr 1, qi x2, qj x3, qn, qi x5, qi (and32 (sc x5) 7), qi (sc (w32 (x5 + 1))), qi (sc (w32 (x5 + 2))), qi (sc (w32 (x5 + 3))), qn, qn, qn, qn, qn, qn, qn, qn, qn, qn] [vi (sc (w32 (x5 + 4)))] [(36, m0)] else none) (fun _ => rfl) (Sim.grd fun _ => Sim.shift 3 (G := fun n => (R n 2 0 [qr 0] [] 36 m0).bind fun y => RLv sl sc n 0 73 [qr 0, qr 1, qi x2, qj x3, qn, qi x5, qi (and32 (sc x5) 7), qi (sc (w32 (x5 + 1))), qi (sc (w32 (x5 + 2))), qi (sc (w32 (x5 + 3))), qi (sc (w32 (x5 + 4))), qn, qn, qn, qn, qn, qn, qn, qn, qn] [] [(36, m0)] 0 y) (fun _ => rfl) (Sim.call (f_status_ok 36 m0) (fun _ _ => rfl) (runP_mono _ _ _ _ _ _) (fun _ => runL_mono _ _ _ _ _) (fun r_78 => Sim.shift 0 (G := fun n => RL sl sc n 0 73 [qr 0, qr 1, qi x2, qj x3, qn, qi x5, qi (and32 (sc x5) 7), qi (sc (w32 (x5 + 1))), qi (sc (w32 (x5 + 2))), qi (sc (w32 (x5 + 3))), qi (sc (w32 (x5 + 4))), qn, qn, qn, qn, qn, qn, qn, qn, qn] [vi r_78] [(36, m0)]) (fun _ => rfl) (Sim.shift 3 (G := fun n => if r_78 = 0 then RL sl sc n 0 80 [qr 0, qr 1, qi x2, qj x3, qn, qi x5, qi (and32 (sc x5) 7), qi (sc (w32 (x5 + 1))), qi (sc (w32 (x5 + 2))), qi (sc (w32 (x5 + 3))), qi (sc (w32 (x5 + 4))), qi r_78, qn, qn, qn, qn, qn, qn, qn, qn] [] [(36, m0)] else RL sl sc n 0 84 [qr 0, qr 1, qi x2, qj x3, qn, qi x5, qi (and32 (sc x5) 7), qi (sc (w32 (x5 + 1))), qi (sc (w32 (x5 + 2))), qi (sc (w32 (x5 + 3))), qi (sc (w32 (x5 + 4))), qi r_78, qn, qn, qn, qn, qn, qn, qn, qn] [] [(36, m0)]) (fun _ => rfl) (Sim.ite (fun _ => Sim.shift 2 (G := fun n => RL sl sc n 0 85 [qr 0, qr 1, qi x2, qj x3, qn, qi x5, qi (and32 (sc x5) 7), qi (sc (w32 (x5 + 1))), qi (sc (w32 (x5 + 2))), qi (sc (w32 (x5 + 3))), qi (sc (w32 (x5 + 4))), qi r_78, qn, qn, qn, qn, qn, qn, qn, qn] [vi 1] [(36, m0)]) (fun _ => rfl) (l_law_b85_ok sl sc x2 x3 x5 (and32 (sc x5) 7) (sc (w32 (x5 + 1))) (sc (w32 (x5 + 2))) (sc (w32 (x5 + 3))) (sc (w32 (x5 + 4))) r_78 1 m0)) (fun _ => Sim.shift 1 (G := fun n => RL sl sc n 0 85 [qr 0, qr 1, qi x2, qj x3, qn, qi x5, qi (and32 (sc x5) 7), qi (sc (w32 (x5 + 1))), qi (sc (w32 (x5 + 2))), qi (sc (w32 (x5 + 3))), qi (sc (w32 (x5 + 4))), qi r_78, qn, qn, qn, qn, qn, qn, qn, qn] [vi 0] [(36, m0)]) (fun _ => rfl) (l_law_b85_ok sl sc x2 x3 x5 (and32 (sc x5) 7) (sc (w32 (x5 + 1))) (sc (w32 (x5 + 2))) (sc (w32 (x5 + 3))) (sc (w32 (x5 + 4))) r_78 0 m0)))))))))))))))) (fun _ => Sim.leaf rfl (fun _ => rfl)))
def l_law_b282 (sl : Int) (sc : Int → Int) (m0 : OMem) : Option (Int × OWd) := some (0, [(36, m0)])
set_option maxRecDepth 65536 in
set_option maxHeartbeats 16000000 in
theorem l_law_b282_ok (sl : Int) (sc : Int → Int) (m0 : OMem) : Sim (l_law_b282 sl sc m0) (fun (r, w) _ => some (some (vi r), w)) (fun n => RL sl sc n 0 282 [qn, qn, qn, qn, qn, qn, qn, qn, qn, qn, qn, qn, qn, qn, qn, qn, qn, qn, qn, qn] [] [(36, m0)]) :=
  Sim.shift 2 (G := (fun _ => some (some (vi 0), [(36, m0)]))) (fun _ => rfl) (Sim.pur _ _)
def l_law_b312 (sl : Int) (sc : Int → Int) (m0 : OMem) : Option (Int × OWd) := some (0, [(36, m0)])
set_option maxRecDepth 65536 in
set_option maxHeartbeats 16000000 in
theorem l_law_b312_ok (sl : Int) (sc : Int → Int) (m0 : OMem) : Sim (l_law_b312 sl sc m0) (fun (r, w) _ => some (some (vi r), w)) (fun n => RL sl sc n 0 312 [qn, qn, qn, qn, qn, qn, qn, qn, qn, qn, qn, qn, qn, qn, qn, qn, qn, qn, qn, qn] [] [(36, m0)]) :=
  Sim.shift 2 (G := (fun _ => some (some (vi 0), [(36, m0)]))) (fun _ => rfl) (Sim.pur _ _)
def l_law_b422 (sl : Int) (sc : Int → Int) (m0 : OMem) : Option (Int × OWd) := some (0, [(36, m0)])
set_option maxRecDepth 65536 in
set_option maxHeartbeats 16000000 in
theorem l_law_b422_ok (sl : Int) (sc : Int → Int) (m0 : OMem) : Sim (l_law_b422 sl sc m0) (fun (r, w) _ => some (some (vi r), w)) (fun n => RL sl sc n 0 422 [qn, qn, qn, qn, qn, qn, qn, qn, qn, qn, qn, qn, qn, qn, qn, qn, qn, qn, qn, qn] [] [(36, m0)]) :=
  Sim.shift 2 (G := (fun _ => some (some (vi 0), [(36, m0)]))) (fun _ => rfl) (Sim.pur _ _)
def l_law_b441 (sl : Int) (sc : Int → Int) (m0 : OMem) : Option (Int × OWd) := some (0, [(36, m0)])
set_option maxRecDepth 65536 in
set_option maxHeartbeats 16000000 in
theorem l_law_b441_ok (sl : Int) (sc : Int → Int) (m0 : OMem) : Sim (l_law_b441 sl sc m0) (fun (r, w) _ => some (some (vi r), w)) (fun n => RL sl sc n 0 441 [qn, qn, qn, qn, qn, qn, qn, qn, qn, qn, qn, qn, qn, qn, qn, qn, qn, qn, qn, qn] [] [(36, m0)]) :=
  Sim.shift 2 (G := (fun _ => some (some (vi 0), [(36, m0)]))) (fun _ => rfl) (Sim.pur _ _)
def l_law_b463 (sl : Int) (sc : Int → Int) (m0 : OMem) : Option (Int × OWd) := some (0, [(36, m0)])
set_option maxRecDepth 65536 in
set_option maxHeartbeats 16000000 in
theorem l_law_b463_ok (sl : Int) (sc : Int → Int) (m0 : OMem) : Sim (l_law_b463 sl sc m0) (fun (r, w) _ => some (some (vi r), w)) (fun n => RL sl sc n 0 463 [qn, qn, qn, qn, qn, qn, qn, qn, qn, qn, qn, qn, qn, qn, qn, qn, qn, qn, qn, qn] [] [(36, m0)]) :=
  Sim.shift 2 (G := (fun _ => some (some (vi 0), [(36, m0)]))) (fun _ => rfl) (Sim.pur _ _)
def l_law_b505 (sl : Int) (sc : Int → Int) (m0 : OMem) : Option (Int × OWd) := some (0, [(36, m0)])
set_option maxRecDepth 65536 in
set_option maxHeartbeats 16000000 in
theorem l_law_b505_ok (sl : Int) (sc : Int → Int) (m0 : OMem) : Sim (l_law_b505 sl sc m0) (fun (r, w) _ => some (some (vi r), w)) (fun n => RL sl sc n 0 505 [qn, qn, qn, qn, qn, qn, qn, qn, qn, qn, qn, qn, qn, qn, qn, qn, qn, qn, qn, qn] [] [(36, m0)]) :=
  Sim.shift 2 (G := (fun _ => some (some (vi 0), [(36, m0)]))) (fun _ => rfl) (Sim.pur _ _)
def l_law (sl : Int) (sc : Int → Int) : Option (Int × OWd) := (f_init 16 8 z0).bind fun m_77 => ((lp (l_law_l19 sl sc) NN (0, 0, 0, m_77)).bind fun e => match e with | (.inl m_120) => (some (0, [(36, m_120)])) | (.inr (.inl m_121)) => (some (0, [(36, m_121)])) | (.inr (.inr (.inl m_122))) => (l_law_b282 sl sc m_122) | (.inr (.inr (.inr (.inl m_123)))) => (l_law_b312 sl sc m_123) | (.inr (.inr (.inr (.inr (.inl m_124))))) => (l_law_b422 sl sc m_124) | (.inr (.inr (.inr (.inr (.inr (.inl m_125)))))) => (l_law_b441 sl sc m_125) | (.inr (.inr (.inr (.inr (.inr (.inr (.inl m_126))))))) => (l_law_b463 sl sc m_126) | (.inr (.inr (.inr (.inr (.inr (.inr (.inr (.inl m_127)))))))) => (some (0, [(36, m_127)])) | (.inr (.inr (.inr (.inr (.inr (.inr (.inr (.inr (.inl m_128))))))))) => (l_law_b505 sl sc m_128) | (.inr (.inr (.inr (.inr (.inr (.inr (.inr (.inr (.inr (.inl m_129)))))))))) => (some (0, [(36, m_129)])) | (.inr (.inr (.inr (.inr (.inr (.inr (.inr (.inr (.inr (.inr m_130)))))))))) => (some (1, [(36, m_130)])))
set_option maxRecDepth 65536 in
set_option maxHeartbeats 16000000 in
theorem l_law_ok (sl : Int) (sc : Int → Int) : Sim (l_law sl sc ) (fun (r, w) _ => some (some (vi r), w)) (fun n => RL sl sc n 0 0 [qr 0, qn, qn, qn, qn, qn, qn, qn, qn, qn, qn, qn, qn, qn, qn, qn, qn, qn, qn, qn] [] []) :=
  Sim.shift 5 (G := fun n => (R n 0 0 [qr 0, qi 16, qi 8] [] 0 z0).bind fun y => RLi sl sc n 0 11 [qr 0, qn, qn, qn, qn, qn, qn, qn, qn, qn, qn, qn, qn, qn, qn, qn, qn, qn, qn, qn] [vr 1] [(0, z0)] 0 y) (fun _ => rfl) (Sim.call (f_init_ok 16 8 z0) (fun _ _ => rfl) (runP_mono _ _ _ _ _ _) (fun _ => cond_Mono (runL_mono _ _ _ _ _)) (fun m_77 => Sim.shift 0 (G := fun n => RL sl sc n 0 11 [qr 0, qn, qn, qn, qn, qn, qn, qn, qn, qn, qn, qn, qn, qn, qn, qn, qn, qn, qn, qn] [vr 1] [(36, m_77)]) (fun _ => rfl) (Sim.shift 5 (G := fun n => RL sl sc n 0 16 [qr 0, qr 1, qi 0, qj 0, qn, qn, qn, qn, qn, qn, qn, qn, qn, qn, qn, qn, qn, qn, qn, qn] [] [(36, m_77)]) (fun _ => rfl) (Sim.shift 2 (G := fun n => RL sl sc n 0 19 [qr 0, qr 1, qi 0, qj 0, qn, qi 0, qn, qn, qn, qn, qn, qn, qn, qn, qn, qn, qn, qn, qn, qn] [] [(36, m_77)]) (fun _ => rfl) (Sim.bind (Sim.lp (fun ⟨x2L, x3L, x5L, m0L⟩ => l_law_l19_ok sl sc x2L x3L x5L m0L) NN (0, 0, 0, m_77)) (fun e => match e with | (.inl m_120) => Sim.shift 2 (G := (fun _ => some (some (vi 0), [(36, m_120)]))) (fun _ => rfl) (Sim.pur _ _) | (.inr (.inl m_121)) => Sim.shift 2 (G := (fun _ => some (some (vi 0), [(36, m_121)]))) (fun _ => rfl) (Sim.pur _ _) | (.inr (.inr (.inl m_122))) => l_law_b282_ok sl sc m_122 | (.inr (.inr (.inr (.inl m_123)))) => l_law_b312_ok sl sc m_123 | (.inr (.inr (.inr (.inr (.inl m_124))))) => l_law_b422_ok sl sc m_124 | (.inr (.inr (.inr (.inr (.inr (.inl m_125)))))) => l_law_b441_ok sl sc m_125 | (.inr (.inr (.inr (.inr (.inr (.inr (.inl m_126))))))) => l_law_b463_ok sl sc m_126 | (.inr (.inr (.inr (.inr (.inr (.inr (.inr (.inl m_127)))))))) => Sim.shift 2 (G := (fun _ => some (some (vi 0), [(36, m_127)]))) (fun _ => rfl) (Sim.pur _ _) | (.inr (.inr (.inr (.inr (.inr (.inr (.inr (.inr (.inl m_128))))))))) => l_law_b505_ok sl sc m_128 | (.inr (.inr (.inr (.inr (.inr (.inr (.inr (.inr (.inr (.inl m_129)))))))))) => Sim.shift 2 (G := (fun _ => some (some (vi 0), [(36, m_129)]))) (fun _ => rfl) (Sim.pur _ _) | (.inr (.inr (.inr (.inr (.inr (.inr (.inr (.inr (.inr (.inr m_130)))))))))) => Sim.shift 2 (G := (fun _ => some (some (vi 1), [(36, m_130)]))) (fun _ => rfl) (Sim.pur _ _)))))))
def nmT : Nat → MethodName := fun q => cond (Nat.blt q 21) (cond (Nat.blt q 10) (cond (Nat.blt q 5) (cond (Nat.blt q 2) (cond (Nat.blt q 1) (cond (Nat.beq q 0) ((⟨"FlowMonitorVM", "<init>", "(II)V"⟩ : MethodName)) (⟨"FlowMonitorVM", "<init>", "(II)V"⟩ : MethodName)) (cond (Nat.beq q 1) ((⟨"FlowMonitorVM", "clamp", "(I)I"⟩ : MethodName)) (⟨"FlowMonitorVM", "<init>", "(II)V"⟩ : MethodName))) (cond (Nat.blt q 3) (cond (Nat.beq q 2) ((⟨"FlowMonitorVM", "status", "()I"⟩ : MethodName)) (⟨"FlowMonitorVM", "<init>", "(II)V"⟩ : MethodName)) (cond (Nat.blt q 4) (cond (Nat.beq q 3) ((⟨"FlowMonitorVM", "addInstr", "(IIII)Z"⟩ : MethodName)) (⟨"FlowMonitorVM", "<init>", "(II)V"⟩ : MethodName)) (cond (Nat.beq q 4) ((⟨"FlowMonitorVM", "computeJoins", "()V"⟩ : MethodName)) (⟨"FlowMonitorVM", "<init>", "(II)V"⟩ : MethodName))))) (cond (Nat.blt q 7) (cond (Nat.blt q 6) (cond (Nat.beq q 5) ((⟨"FlowMonitorVM", "computeReach", "()V"⟩ : MethodName)) (⟨"FlowMonitorVM", "<init>", "(II)V"⟩ : MethodName)) (cond (Nat.beq q 6) ((⟨"FlowMonitorVM", "succReaches", "(I)Z"⟩ : MethodName)) (⟨"FlowMonitorVM", "<init>", "(II)V"⟩ : MethodName))) (cond (Nat.blt q 8) (cond (Nat.beq q 7) ((⟨"FlowMonitorVM", "succFirst", "(I)I"⟩ : MethodName)) (⟨"FlowMonitorVM", "<init>", "(II)V"⟩ : MethodName)) (cond (Nat.blt q 9) (cond (Nat.beq q 8) ((⟨"FlowMonitorVM", "succSecond", "(I)I"⟩ : MethodName)) (⟨"FlowMonitorVM", "<init>", "(II)V"⟩ : MethodName)) (cond (Nat.beq q 9) ((⟨"FlowMonitorVM", "computePdom", "()V"⟩ : MethodName)) (⟨"FlowMonitorVM", "<init>", "(II)V"⟩ : MethodName)))))) (cond (Nat.blt q 15) (cond (Nat.blt q 12) (cond (Nat.blt q 11) (cond (Nat.beq q 10) ((⟨"FlowMonitorVM", "allMask", "()J"⟩ : MethodName)) (⟨"FlowMonitorVM", "<init>", "(II)V"⟩ : MethodName)) (cond (Nat.beq q 11) ((⟨"FlowMonitorVM", "meetSucc", "(I)J"⟩ : MethodName)) (⟨"FlowMonitorVM", "<init>", "(II)V"⟩ : MethodName))) (cond (Nat.blt q 13) (cond (Nat.beq q 12) ((⟨"FlowMonitorVM", "pickJoin", "(I)I"⟩ : MethodName)) (⟨"FlowMonitorVM", "<init>", "(II)V"⟩ : MethodName)) (cond (Nat.blt q 14) (cond (Nat.beq q 13) ((⟨"FlowMonitorVM", "stopKind", "()I"⟩ : MethodName)) (⟨"FlowMonitorVM", "<init>", "(II)V"⟩ : MethodName)) (cond (Nat.beq q 14) ((⟨"FlowMonitorVM", "pc", "()I"⟩ : MethodName)) (⟨"FlowMonitorVM", "<init>", "(II)V"⟩ : MethodName))))) (cond (Nat.blt q 18) (cond (Nat.blt q 16) (cond (Nat.beq q 15) ((⟨"FlowMonitorVM", "depth", "()I"⟩ : MethodName)) (⟨"FlowMonitorVM", "<init>", "(II)V"⟩ : MethodName)) (cond (Nat.blt q 17) (cond (Nat.beq q 16) ((⟨"FlowMonitorVM", "pcLabel", "()I"⟩ : MethodName)) (⟨"FlowMonitorVM", "<init>", "(II)V"⟩ : MethodName)) (cond (Nat.beq q 17) ((⟨"FlowMonitorVM", "curLabel", "()I"⟩ : MethodName)) (⟨"FlowMonitorVM", "<init>", "(II)V"⟩ : MethodName)))) (cond (Nat.blt q 19) (cond (Nat.beq q 18) ((⟨"FlowMonitorVM", "outCount", "()I"⟩ : MethodName)) (⟨"FlowMonitorVM", "<init>", "(II)V"⟩ : MethodName)) (cond (Nat.blt q 20) (cond (Nat.beq q 19) ((⟨"FlowMonitorVM", "auditCount", "()I"⟩ : MethodName)) (⟨"FlowMonitorVM", "<init>", "(II)V"⟩ : MethodName)) (cond (Nat.beq q 20) ((⟨"FlowMonitorVM", "join", "(I)I"⟩ : MethodName)) (⟨"FlowMonitorVM", "<init>", "(II)V"⟩ : MethodName))))))) (cond (Nat.blt q 31) (cond (Nat.blt q 26) (cond (Nat.blt q 23) (cond (Nat.blt q 22) (cond (Nat.beq q 21) ((⟨"FlowMonitorVM", "reg", "(I)I"⟩ : MethodName)) (⟨"FlowMonitorVM", "<init>", "(II)V"⟩ : MethodName)) (cond (Nat.beq q 22) ((⟨"FlowMonitorVM", "labelOf", "(II)I"⟩ : MethodName)) (⟨"FlowMonitorVM", "<init>", "(II)V"⟩ : MethodName))) (cond (Nat.blt q 24) (cond (Nat.beq q 23) ((⟨"FlowMonitorVM", "run", "(I)I"⟩ : MethodName)) (⟨"FlowMonitorVM", "<init>", "(II)V"⟩ : MethodName)) (cond (Nat.blt q 25) (cond (Nat.beq q 24) ((⟨"FlowMonitorVM", "step", "()I"⟩ : MethodName)) (⟨"FlowMonitorVM", "<init>", "(II)V"⟩ : MethodName)) (cond (Nat.beq q 25) ((⟨"FlowMonitorVM", "execute", "(I)I"⟩ : MethodName)) (⟨"FlowMonitorVM", "<init>", "(II)V"⟩ : MethodName))))) (cond (Nat.blt q 28) (cond (Nat.blt q 27) (cond (Nat.beq q 26) ((⟨"FlowMonitorVM", "execOut", "(I)I"⟩ : MethodName)) (⟨"FlowMonitorVM", "<init>", "(II)V"⟩ : MethodName)) (cond (Nat.beq q 27) ((⟨"FlowMonitorVM", "flows", "(II)Z"⟩ : MethodName)) (⟨"FlowMonitorVM", "<init>", "(II)V"⟩ : MethodName))) (cond (Nat.blt q 29) (cond (Nat.beq q 28) ((⟨"FlowMonitorVM", "writeReg", "(III)I"⟩ : MethodName)) (⟨"FlowMonitorVM", "<init>", "(II)V"⟩ : MethodName)) (cond (Nat.blt q 30) (cond (Nat.beq q 29) ((⟨"FlowMonitorVM", "execRaise", "(I)I"⟩ : MethodName)) (⟨"FlowMonitorVM", "<init>", "(II)V"⟩ : MethodName)) (cond (Nat.beq q 30) ((⟨"FlowMonitorVM", "outEntry", "(II)I"⟩ : MethodName)) (⟨"FlowMonitorVM", "<init>", "(II)V"⟩ : MethodName)))))) (cond (Nat.blt q 36) (cond (Nat.blt q 33) (cond (Nat.blt q 32) (cond (Nat.beq q 31) ((⟨"FlowMonitorVM", "execArith", "(II)I"⟩ : MethodName)) (⟨"FlowMonitorVM", "<init>", "(II)V"⟩ : MethodName)) (cond (Nat.beq q 32) ((⟨"FlowMonitorVM", "mem", "(I)I"⟩ : MethodName)) (⟨"FlowMonitorVM", "<init>", "(II)V"⟩ : MethodName))) (cond (Nat.blt q 34) (cond (Nat.beq q 33) ((⟨"FlowMonitorVM", "setMem", "(III)Z"⟩ : MethodName)) (⟨"FlowMonitorVM", "<init>", "(II)V"⟩ : MethodName)) (cond (Nat.blt q 35) (cond (Nat.beq q 34) ((⟨"FlowMonitorVM", "target", "(I)I"⟩ : MethodName)) (⟨"FlowMonitorVM", "<init>", "(II)V"⟩ : MethodName)) (cond (Nat.beq q 35) ((⟨"FlowMonitorVM", "execBranch", "(I)I"⟩ : MethodName)) (⟨"FlowMonitorVM", "<init>", "(II)V"⟩ : MethodName))))) (cond (Nat.blt q 39) (cond (Nat.blt q 37) (cond (Nat.beq q 36) ((⟨"FlowMonitorVM", "execStore", "(I)I"⟩ : MethodName)) (⟨"FlowMonitorVM", "<init>", "(II)V"⟩ : MethodName)) (cond (Nat.blt q 38) (cond (Nat.beq q 37) ((⟨"FlowMonitorVM", "idx", "(I)I"⟩ : MethodName)) (⟨"FlowMonitorVM", "<init>", "(II)V"⟩ : MethodName)) (cond (Nat.beq q 38) ((⟨"FlowMonitorVM", "execMov", "(I)I"⟩ : MethodName)) (⟨"FlowMonitorVM", "<init>", "(II)V"⟩ : MethodName)))) (cond (Nat.blt q 40) (cond (Nat.beq q 39) ((⟨"FlowMonitorVM", "execLoad", "(I)I"⟩ : MethodName)) (⟨"FlowMonitorVM", "<init>", "(II)V"⟩ : MethodName)) (cond (Nat.blt q 41) (cond (Nat.beq q 40) ((⟨"FlowMonitorVM", "execDeclass", "(I)I"⟩ : MethodName)) (⟨"FlowMonitorVM", "<init>", "(II)V"⟩ : MethodName)) (cond (Nat.beq q 41) ((⟨"FlowMonitorVM", "auditEntry", "(II)I"⟩ : MethodName)) (⟨"FlowMonitorVM", "<init>", "(II)V"⟩ : MethodName)))))))
def byT : Nat → ByteArray := fun q => cond (Nat.blt q 21) (cond (Nat.blt q 10) (cond (Nat.blt q 5) (cond (Nat.blt q 2) (cond (Nat.blt q 1) (cond (Nat.beq q 0) (prog_1_method_1_code) prog_1_method_1_code) (cond (Nat.beq q 1) (prog_1_method_2_code) prog_1_method_1_code)) (cond (Nat.blt q 3) (cond (Nat.beq q 2) (prog_1_method_6_code) prog_1_method_1_code) (cond (Nat.blt q 4) (cond (Nat.beq q 3) (prog_1_method_3_code) prog_1_method_1_code) (cond (Nat.beq q 4) (prog_1_method_22_code) prog_1_method_1_code)))) (cond (Nat.blt q 7) (cond (Nat.blt q 6) (cond (Nat.beq q 5) (prog_1_method_24_code) prog_1_method_1_code) (cond (Nat.beq q 6) (prog_1_method_23_code) prog_1_method_1_code)) (cond (Nat.blt q 8) (cond (Nat.beq q 7) (prog_1_method_20_code) prog_1_method_1_code) (cond (Nat.blt q 9) (cond (Nat.beq q 8) (prog_1_method_21_code) prog_1_method_1_code) (cond (Nat.beq q 9) (prog_1_method_27_code) prog_1_method_1_code))))) (cond (Nat.blt q 15) (cond (Nat.blt q 12) (cond (Nat.blt q 11) (cond (Nat.beq q 10) (prog_1_method_25_code) prog_1_method_1_code) (cond (Nat.beq q 11) (prog_1_method_26_code) prog_1_method_1_code)) (cond (Nat.blt q 13) (cond (Nat.beq q 12) (prog_1_method_28_code) prog_1_method_1_code) (cond (Nat.blt q 14) (cond (Nat.beq q 13) (prog_1_method_7_code) prog_1_method_1_code) (cond (Nat.beq q 14) (prog_1_method_8_code) prog_1_method_1_code)))) (cond (Nat.blt q 18) (cond (Nat.blt q 16) (cond (Nat.beq q 15) (prog_1_method_10_code) prog_1_method_1_code) (cond (Nat.blt q 17) (cond (Nat.beq q 16) (prog_1_method_9_code) prog_1_method_1_code) (cond (Nat.beq q 17) (prog_1_method_29_code) prog_1_method_1_code))) (cond (Nat.blt q 19) (cond (Nat.beq q 18) (prog_1_method_14_code) prog_1_method_1_code) (cond (Nat.blt q 20) (cond (Nat.beq q 19) (prog_1_method_16_code) prog_1_method_1_code) (cond (Nat.beq q 20) (prog_1_method_18_code) prog_1_method_1_code)))))) (cond (Nat.blt q 31) (cond (Nat.blt q 26) (cond (Nat.blt q 23) (cond (Nat.blt q 22) (cond (Nat.beq q 21) (prog_1_method_11_code) prog_1_method_1_code) (cond (Nat.beq q 22) (prog_1_method_13_code) prog_1_method_1_code)) (cond (Nat.blt q 24) (cond (Nat.beq q 23) (prog_1_method_5_code) prog_1_method_1_code) (cond (Nat.blt q 25) (cond (Nat.beq q 24) (prog_1_method_32_code) prog_1_method_1_code) (cond (Nat.beq q 25) (prog_1_method_33_code) prog_1_method_1_code)))) (cond (Nat.blt q 28) (cond (Nat.blt q 27) (cond (Nat.beq q 26) (prog_1_method_40_code) prog_1_method_1_code) (cond (Nat.beq q 27) (prog_1_method_30_code) prog_1_method_1_code)) (cond (Nat.blt q 29) (cond (Nat.beq q 28) (prog_1_method_34_code) prog_1_method_1_code) (cond (Nat.blt q 30) (cond (Nat.beq q 29) (prog_1_method_41_code) prog_1_method_1_code) (cond (Nat.beq q 30) (prog_1_method_15_code) prog_1_method_1_code))))) (cond (Nat.blt q 36) (cond (Nat.blt q 33) (cond (Nat.blt q 32) (cond (Nat.beq q 31) (prog_1_method_36_code) prog_1_method_1_code) (cond (Nat.beq q 32) (prog_1_method_12_code) prog_1_method_1_code)) (cond (Nat.blt q 34) (cond (Nat.beq q 33) (prog_1_method_4_code) prog_1_method_1_code) (cond (Nat.blt q 35) (cond (Nat.beq q 34) (prog_1_method_19_code) prog_1_method_1_code) (cond (Nat.beq q 35) (prog_1_method_39_code) prog_1_method_1_code)))) (cond (Nat.blt q 39) (cond (Nat.blt q 37) (cond (Nat.beq q 36) (prog_1_method_38_code) prog_1_method_1_code) (cond (Nat.blt q 38) (cond (Nat.beq q 37) (prog_1_method_31_code) prog_1_method_1_code) (cond (Nat.beq q 38) (prog_1_method_35_code) prog_1_method_1_code))) (cond (Nat.blt q 40) (cond (Nat.beq q 39) (prog_1_method_37_code) prog_1_method_1_code) (cond (Nat.blt q 41) (cond (Nat.beq q 40) (prog_1_method_42_code) prog_1_method_1_code) (cond (Nat.beq q 41) (prog_1_method_17_code) prog_1_method_1_code))))))
def fnmN : Nat → String × String := fun n => cond (Nat.blt n 14) (cond (Nat.blt n 7) (cond (Nat.blt n 3) (cond (Nat.blt n 1) (cond (Nat.beq n 0) (("code", "[I")) ("", "")) (cond (Nat.blt n 2) (cond (Nat.beq n 1) (("argA", "[I")) ("", "")) (cond (Nat.beq n 2) (("argB", "[I")) ("", "")))) (cond (Nat.blt n 5) (cond (Nat.blt n 4) (cond (Nat.beq n 3) (("argC", "[I")) ("", "")) (cond (Nat.beq n 4) (("regVal", "[I")) ("", ""))) (cond (Nat.blt n 6) (cond (Nat.beq n 5) (("regLab", "[I")) ("", "")) (cond (Nat.beq n 6) (("memVal", "[I")) ("", ""))))) (cond (Nat.blt n 10) (cond (Nat.blt n 8) (cond (Nat.beq n 7) (("memLab", "[I")) ("", "")) (cond (Nat.blt n 9) (cond (Nat.beq n 8) (("stLab", "[I")) ("", "")) (cond (Nat.beq n 9) (("stJoin", "[I")) ("", "")))) (cond (Nat.blt n 12) (cond (Nat.blt n 11) (cond (Nat.beq n 10) (("outCh", "[I")) ("", "")) (cond (Nat.beq n 11) (("outVal", "[I")) ("", ""))) (cond (Nat.blt n 13) (cond (Nat.beq n 12) (("audPc", "[I")) ("", "")) (cond (Nat.beq n 13) (("audSrc", "[I")) ("", "")))))) (cond (Nat.blt n 21) (cond (Nat.blt n 17) (cond (Nat.blt n 15) (cond (Nat.beq n 14) (("audLvl", "[I")) ("", "")) (cond (Nat.blt n 16) (cond (Nat.beq n 15) (("joinOf", "[I")) ("", "")) (cond (Nat.beq n 16) (("reach", "[Z")) ("", "")))) (cond (Nat.blt n 19) (cond (Nat.blt n 18) (cond (Nat.beq n 17) (("pdom", "[J")) ("", "")) (cond (Nat.beq n 18) (("codeCap", "I")) ("", ""))) (cond (Nat.blt n 20) (cond (Nat.beq n 19) (("memSize", "I")) ("", "")) (cond (Nat.beq n 20) (("status", "I")) ("", ""))))) (cond (Nat.blt n 24) (cond (Nat.blt n 22) (cond (Nat.beq n 21) (("stop", "I")) ("", "")) (cond (Nat.blt n 23) (cond (Nat.beq n 22) (("n", "I")) ("", "")) (cond (Nat.beq n 23) (("pc", "I")) ("", "")))) (cond (Nat.blt n 26) (cond (Nat.blt n 25) (cond (Nat.beq n 24) (("sp", "I")) ("", "")) (cond (Nat.beq n 25) (("outN", "I")) ("", ""))) (cond (Nat.blt n 27) (cond (Nat.beq n 26) (("audN", "I")) ("", "")) (cond (Nat.beq n 27) (("nextPc", "I")) ("", ""))))))
def fkdN : Nat → Option (Nat × Nat × Bool) := fun n => cond (Nat.blt n 28) (cond (Nat.blt n 14) (cond (Nat.blt n 7) (cond (Nat.blt n 3) (cond (Nat.blt n 1) (cond (Nat.beq n 0) (some (0, 1, false)) none) (cond (Nat.blt n 2) (cond (Nat.beq n 1) (some (0, 2, false)) none) (cond (Nat.beq n 2) (some (0, 3, false)) none))) (cond (Nat.blt n 5) (cond (Nat.blt n 4) (cond (Nat.beq n 3) (some (0, 4, false)) none) (cond (Nat.beq n 4) (some (0, 5, false)) none)) (cond (Nat.blt n 6) (cond (Nat.beq n 5) (some (0, 6, false)) none) (cond (Nat.beq n 6) (some (0, 7, false)) none)))) (cond (Nat.blt n 10) (cond (Nat.blt n 8) (cond (Nat.beq n 7) (some (0, 8, false)) none) (cond (Nat.blt n 9) (cond (Nat.beq n 8) (some (0, 9, false)) none) (cond (Nat.beq n 9) (some (0, 10, false)) none))) (cond (Nat.blt n 12) (cond (Nat.blt n 11) (cond (Nat.beq n 10) (some (0, 11, false)) none) (cond (Nat.beq n 11) (some (0, 12, false)) none)) (cond (Nat.blt n 13) (cond (Nat.beq n 12) (some (0, 13, false)) none) (cond (Nat.beq n 13) (some (0, 14, false)) none))))) (cond (Nat.blt n 21) (cond (Nat.blt n 17) (cond (Nat.blt n 15) (cond (Nat.beq n 14) (some (0, 15, false)) none) (cond (Nat.blt n 16) (cond (Nat.beq n 15) (some (0, 16, false)) none) (cond (Nat.beq n 16) (some (0, 17, false)) none))) (cond (Nat.blt n 19) (cond (Nat.blt n 18) (cond (Nat.beq n 17) (some (0, 18, false)) none) (cond (Nat.beq n 18) (some (1, 0, false)) none)) (cond (Nat.blt n 20) (cond (Nat.beq n 19) (some (1, 0, false)) none) (cond (Nat.beq n 20) (some (1, 0, false)) none)))) (cond (Nat.blt n 24) (cond (Nat.blt n 22) (cond (Nat.beq n 21) (some (1, 0, false)) none) (cond (Nat.blt n 23) (cond (Nat.beq n 22) (some (1, 0, false)) none) (cond (Nat.beq n 23) (some (1, 0, false)) none))) (cond (Nat.blt n 26) (cond (Nat.blt n 25) (cond (Nat.beq n 24) (some (1, 0, false)) none) (cond (Nat.beq n 25) (some (1, 0, false)) none)) (cond (Nat.blt n 27) (cond (Nat.beq n 26) (some (1, 0, false)) none) (cond (Nat.beq n 27) (some (1, 0, false)) none)))))) none
def fnmT : FN := fnmOf fnmN
def fkdT : FK := fkdOf fkdN
set_option maxRecDepth 65536 in
set_option maxHeartbeats 8000000 in
theorem cdk_0 : ∀ pc i len, cd_0 pc = some (i, len) → decode prog_1_method_1_code pc = .ok (i, len) ∧ chk pc i len = true := code_all 177 (fun _ h => cond_ge h) (by decide +kernel)
set_option maxRecDepth 65536 in
set_option maxHeartbeats 8000000 in
theorem cdk_1 : ∀ pc i len, cd_1 pc = some (i, len) → decode prog_1_method_2_code pc = .ok (i, len) ∧ chk pc i len = true := code_all 20 (fun _ h => cond_ge h) (by decide +kernel)
set_option maxRecDepth 65536 in
set_option maxHeartbeats 8000000 in
theorem cdk_2 : ∀ pc i len, cd_2 pc = some (i, len) → decode prog_1_method_6_code pc = .ok (i, len) ∧ chk pc i len = true := code_all 5 (fun _ h => cond_ge h) (by decide +kernel)
set_option maxRecDepth 65536 in
set_option maxHeartbeats 8000000 in
theorem cdk_3 : ∀ pc i len, cd_3 pc = some (i, len) → decode prog_1_method_3_code pc = .ok (i, len) ∧ chk pc i len = true := code_all 91 (fun _ h => cond_ge h) (by decide +kernel)
set_option maxRecDepth 65536 in
set_option maxHeartbeats 8000000 in
theorem cdk_4 : ∀ pc i len, cd_4 pc = some (i, len) → decode prog_1_method_22_code pc = .ok (i, len) ∧ chk pc i len = true := code_all 36 (fun _ h => cond_ge h) (by decide +kernel)
set_option maxRecDepth 65536 in
set_option maxHeartbeats 8000000 in
theorem cdk_5 : ∀ pc i len, cd_5 pc = some (i, len) → decode prog_1_method_24_code pc = .ok (i, len) ∧ chk pc i len = true := code_all 102 (fun _ h => cond_ge h) (by decide +kernel)
set_option maxRecDepth 65536 in
set_option maxHeartbeats 8000000 in
theorem cdk_6 : ∀ pc i len, cd_6 pc = some (i, len) → decode prog_1_method_23_code pc = .ok (i, len) ∧ chk pc i len = true := code_all 62 (fun _ h => cond_ge h) (by decide +kernel)
set_option maxRecDepth 65536 in
set_option maxHeartbeats 8000000 in
theorem cdk_7 : ∀ pc i len, cd_7 pc = some (i, len) → decode prog_1_method_20_code pc = .ok (i, len) ∧ chk pc i len = true := code_all 68 (fun _ h => cond_ge h) (by decide +kernel)
set_option maxRecDepth 65536 in
set_option maxHeartbeats 8000000 in
theorem cdk_8 : ∀ pc i len, cd_8 pc = some (i, len) → decode prog_1_method_21_code pc = .ok (i, len) ∧ chk pc i len = true := code_all 31 (fun _ h => cond_ge h) (by decide +kernel)
set_option maxRecDepth 65536 in
set_option maxHeartbeats 8000000 in
theorem cdk_9 : ∀ pc i len, cd_9 pc = some (i, len) → decode prog_1_method_27_code pc = .ok (i, len) ∧ chk pc i len = true := code_all 150 (fun _ h => cond_ge h) (by decide +kernel)
set_option maxRecDepth 65536 in
set_option maxHeartbeats 8000000 in
theorem cdk_10 : ∀ pc i len, cd_10 pc = some (i, len) → decode prog_1_method_25_code pc = .ok (i, len) ∧ chk pc i len = true := code_all 11 (fun _ h => cond_ge h) (by decide +kernel)
set_option maxRecDepth 65536 in
set_option maxHeartbeats 8000000 in
theorem cdk_11 : ∀ pc i len, cd_11 pc = some (i, len) → decode prog_1_method_26_code pc = .ok (i, len) ∧ chk pc i len = true := code_all 89 (fun _ h => cond_ge h) (by decide +kernel)
set_option maxRecDepth 65536 in
set_option maxHeartbeats 8000000 in
theorem cdk_12 : ∀ pc i len, cd_12 pc = some (i, len) → decode prog_1_method_28_code pc = .ok (i, len) ∧ chk pc i len = true := code_all 78 (fun _ h => cond_ge h) (by decide +kernel)
set_option maxRecDepth 65536 in
set_option maxHeartbeats 8000000 in
theorem cdk_13 : ∀ pc i len, cd_13 pc = some (i, len) → decode prog_1_method_7_code pc = .ok (i, len) ∧ chk pc i len = true := code_all 17 (fun _ h => cond_ge h) (by decide +kernel)
set_option maxRecDepth 65536 in
set_option maxHeartbeats 8000000 in
theorem cdk_14 : ∀ pc i len, cd_14 pc = some (i, len) → decode prog_1_method_8_code pc = .ok (i, len) ∧ chk pc i len = true := code_all 16 (fun _ h => cond_ge h) (by decide +kernel)
set_option maxRecDepth 65536 in
set_option maxHeartbeats 8000000 in
theorem cdk_15 : ∀ pc i len, cd_15 pc = some (i, len) → decode prog_1_method_10_code pc = .ok (i, len) ∧ chk pc i len = true := code_all 5 (fun _ h => cond_ge h) (by decide +kernel)
set_option maxRecDepth 65536 in
set_option maxHeartbeats 8000000 in
theorem cdk_16 : ∀ pc i len, cd_16 pc = some (i, len) → decode prog_1_method_9_code pc = .ok (i, len) ∧ chk pc i len = true := code_all 5 (fun _ h => cond_ge h) (by decide +kernel)
set_option maxRecDepth 65536 in
set_option maxHeartbeats 8000000 in
theorem cdk_17 : ∀ pc i len, cd_17 pc = some (i, len) → decode prog_1_method_29_code pc = .ok (i, len) ∧ chk pc i len = true := code_all 21 (fun _ h => cond_ge h) (by decide +kernel)
set_option maxRecDepth 65536 in
set_option maxHeartbeats 8000000 in
theorem cdk_18 : ∀ pc i len, cd_18 pc = some (i, len) → decode prog_1_method_14_code pc = .ok (i, len) ∧ chk pc i len = true := code_all 5 (fun _ h => cond_ge h) (by decide +kernel)
set_option maxRecDepth 65536 in
set_option maxHeartbeats 8000000 in
theorem cdk_19 : ∀ pc i len, cd_19 pc = some (i, len) → decode prog_1_method_16_code pc = .ok (i, len) ∧ chk pc i len = true := code_all 5 (fun _ h => cond_ge h) (by decide +kernel)
set_option maxRecDepth 65536 in
set_option maxHeartbeats 8000000 in
theorem cdk_20 : ∀ pc i len, cd_20 pc = some (i, len) → decode prog_1_method_18_code pc = .ok (i, len) ∧ chk pc i len = true := code_all 21 (fun _ h => cond_ge h) (by decide +kernel)
set_option maxRecDepth 65536 in
set_option maxHeartbeats 8000000 in
theorem cdk_21 : ∀ pc i len, cd_21 pc = some (i, len) → decode prog_1_method_11_code pc = .ok (i, len) ∧ chk pc i len = true := code_all 19 (fun _ h => cond_ge h) (by decide +kernel)
set_option maxRecDepth 65536 in
set_option maxHeartbeats 8000000 in
theorem cdk_22 : ∀ pc i len, cd_22 pc = some (i, len) → decode prog_1_method_13_code pc = .ok (i, len) ∧ chk pc i len = true := code_all 51 (fun _ h => cond_ge h) (by decide +kernel)
set_option maxRecDepth 65536 in
set_option maxHeartbeats 8000000 in
theorem cdk_23 : ∀ pc i len, cd_23 pc = some (i, len) → decode prog_1_method_5_code pc = .ok (i, len) ∧ chk pc i len = true := code_all 113 (fun _ h => cond_ge h) (by decide +kernel)
set_option maxRecDepth 65536 in
set_option maxHeartbeats 8000000 in
theorem cdk_24 : ∀ pc i len, cd_24 pc = some (i, len) → decode prog_1_method_32_code pc = .ok (i, len) ∧ chk pc i len = true := code_all 148 (fun _ h => cond_ge h) (by decide +kernel)
set_option maxRecDepth 65536 in
set_option maxHeartbeats 8000000 in
theorem cdk_25 : ∀ pc i len, cd_25 pc = some (i, len) → decode prog_1_method_33_code pc = .ok (i, len) ∧ chk pc i len = true := code_all 177 (fun _ h => cond_ge h) (by decide +kernel)
set_option maxRecDepth 65536 in
set_option maxHeartbeats 8000000 in
theorem cdk_26 : ∀ pc i len, cd_26 pc = some (i, len) → decode prog_1_method_40_code pc = .ok (i, len) ∧ chk pc i len = true := code_all 92 (fun _ h => cond_ge h) (by decide +kernel)
set_option maxRecDepth 65536 in
set_option maxHeartbeats 8000000 in
theorem cdk_27 : ∀ pc i len, cd_27 pc = some (i, len) → decode prog_1_method_30_code pc = .ok (i, len) ∧ chk pc i len = true := code_all 13 (fun _ h => cond_ge h) (by decide +kernel)
set_option maxRecDepth 65536 in
set_option maxHeartbeats 8000000 in
theorem cdk_28 : ∀ pc i len, cd_28 pc = some (i, len) → decode prog_1_method_34_code pc = .ok (i, len) ∧ chk pc i len = true := code_all 51 (fun _ h => cond_ge h) (by decide +kernel)
set_option maxRecDepth 65536 in
set_option maxHeartbeats 8000000 in
theorem cdk_29 : ∀ pc i len, cd_29 pc = some (i, len) → decode prog_1_method_41_code pc = .ok (i, len) ∧ chk pc i len = true := code_all 38 (fun _ h => cond_ge h) (by decide +kernel)
set_option maxRecDepth 65536 in
set_option maxHeartbeats 8000000 in
theorem cdk_30 : ∀ pc i len, cd_30 pc = some (i, len) → decode prog_1_method_15_code pc = .ok (i, len) ∧ chk pc i len = true := code_all 39 (fun _ h => cond_ge h) (by decide +kernel)
set_option maxRecDepth 65536 in
set_option maxHeartbeats 8000000 in
theorem cdk_31 : ∀ pc i len, cd_31 pc = some (i, len) → decode prog_1_method_36_code pc = .ok (i, len) ∧ chk pc i len = true := code_all 151 (fun _ h => cond_ge h) (by decide +kernel)
set_option maxRecDepth 65536 in
set_option maxHeartbeats 8000000 in
theorem cdk_32 : ∀ pc i len, cd_32 pc = some (i, len) → decode prog_1_method_12_code pc = .ok (i, len) ∧ chk pc i len = true := code_all 21 (fun _ h => cond_ge h) (by decide +kernel)
set_option maxRecDepth 65536 in
set_option maxHeartbeats 8000000 in
theorem cdk_33 : ∀ pc i len, cd_33 pc = some (i, len) → decode prog_1_method_4_code pc = .ok (i, len) ∧ chk pc i len = true := code_all 50 (fun _ h => cond_ge h) (by decide +kernel)
set_option maxRecDepth 65536 in
set_option maxHeartbeats 8000000 in
theorem cdk_34 : ∀ pc i len, cd_34 pc = some (i, len) → decode prog_1_method_19_code pc = .ok (i, len) ∧ chk pc i len = true := code_all 19 (fun _ h => cond_ge h) (by decide +kernel)
set_option maxRecDepth 65536 in
set_option maxHeartbeats 8000000 in
theorem cdk_35 : ∀ pc i len, cd_35 pc = some (i, len) → decode prog_1_method_39_code pc = .ok (i, len) ∧ chk pc i len = true := code_all 157 (fun _ h => cond_ge h) (by decide +kernel)
set_option maxRecDepth 65536 in
set_option maxHeartbeats 8000000 in
theorem cdk_36 : ∀ pc i len, cd_36 pc = some (i, len) → decode prog_1_method_38_code pc = .ok (i, len) ∧ chk pc i len = true := code_all 143 (fun _ h => cond_ge h) (by decide +kernel)
set_option maxRecDepth 65536 in
set_option maxHeartbeats 8000000 in
theorem cdk_37 : ∀ pc i len, cd_37 pc = some (i, len) → decode prog_1_method_31_code pc = .ok (i, len) ∧ chk pc i len = true := code_all 17 (fun _ h => cond_ge h) (by decide +kernel)
set_option maxRecDepth 65536 in
set_option maxHeartbeats 8000000 in
theorem cdk_38 : ∀ pc i len, cd_38 pc = some (i, len) → decode prog_1_method_35_code pc = .ok (i, len) ∧ chk pc i len = true := code_all 39 (fun _ h => cond_ge h) (by decide +kernel)
set_option maxRecDepth 65536 in
set_option maxHeartbeats 8000000 in
theorem cdk_39 : ∀ pc i len, cd_39 pc = some (i, len) → decode prog_1_method_37_code pc = .ok (i, len) ∧ chk pc i len = true := code_all 59 (fun _ h => cond_ge h) (by decide +kernel)
set_option maxRecDepth 65536 in
set_option maxHeartbeats 8000000 in
theorem cdk_40 : ∀ pc i len, cd_40 pc = some (i, len) → decode prog_1_method_42_code pc = .ok (i, len) ∧ chk pc i len = true := code_all 122 (fun _ h => cond_ge h) (by decide +kernel)
set_option maxRecDepth 65536 in
set_option maxHeartbeats 8000000 in
theorem cdk_41 : ∀ pc i len, cd_41 pc = some (i, len) → decode prog_1_method_17_code pc = .ok (i, len) ∧ chk pc i len = true := code_all 51 (fun _ h => cond_ge h) (by decide +kernel)
theorem t_code : ∀ q pc i len, pcode PP q pc = some (i, len) → decode (byT q) pc = .ok (i, len) ∧ chk pc i len = true := by
  intro q
  by_cases hq : q < 42
  · exact allN (Q := fun q => ∀ pc i len, pcode PP q pc = some (i, len) → decode (byT q) pc = .ok (i, len) ∧ chk pc i len = true) (N := 42) (⟨⟨⟨⟨⟨⟨⟨⟨⟨⟨⟨⟨⟨⟨⟨⟨⟨⟨⟨⟨⟨⟨⟨⟨⟨⟨⟨⟨⟨⟨⟨⟨⟨⟨⟨⟨⟨⟨⟨⟨⟨⟨trivial, cdk_0⟩, cdk_1⟩, cdk_2⟩, cdk_3⟩, cdk_4⟩, cdk_5⟩, cdk_6⟩, cdk_7⟩, cdk_8⟩, cdk_9⟩, cdk_10⟩, cdk_11⟩, cdk_12⟩, cdk_13⟩, cdk_14⟩, cdk_15⟩, cdk_16⟩, cdk_17⟩, cdk_18⟩, cdk_19⟩, cdk_20⟩, cdk_21⟩, cdk_22⟩, cdk_23⟩, cdk_24⟩, cdk_25⟩, cdk_26⟩, cdk_27⟩, cdk_28⟩, cdk_29⟩, cdk_30⟩, cdk_31⟩, cdk_32⟩, cdk_33⟩, cdk_34⟩, cdk_35⟩, cdk_36⟩, cdk_37⟩, cdk_38⟩, cdk_39⟩, cdk_40⟩, cdk_41⟩) q hq
  · intro pc i len h
    have h0 : PPcode q pc = none := cond_ge (by omega)
    have h1 : PPcode q pc = some (i, len) := h
    rw [h0] at h1; cases h1
set_option maxRecDepth 65536 in
set_option maxHeartbeats 8000000 in
theorem t_fld0 {a0 : Array Value} {Z : State} (hw : ∀ d ∈ tables_1, d.before a0 Z = true) : ∀ x e, PPfld x = some e → (Jvm.Cond.fieldLink "FlowMonitorVM" x "FlowMonitorVM" (fnmT e.1).1 (fnmT e.1).2).before a0 Z = true ∧ fkdT e.1 = some (e.2.1, e.2.2.1, e.2.2.2) :=
  tab_all (f := PPfld) 141 [(7, (0, 0, 1, false)), (13, (1, 0, 2, false)), (16, (2, 0, 3, false)), (19, (3, 0, 4, false)), (22, (4, 0, 5, false)), (25, (5, 0, 6, false)), (28, (6, 0, 7, false)), (31, (7, 0, 8, false)), (34, (8, 0, 9, false)), (37, (9, 0, 10, false)), (40, (10, 0, 11, false)), (43, (11, 0, 12, false)), (46, (12, 0, 13, false)), (49, (13, 0, 14, false)), (52, (14, 0, 15, false)), (55, (15, 0, 16, false)), (58, (16, 0, 17, false)), (62, (17, 0, 18, false)), (70, (18, 1, 0, false)), (74, (19, 1, 0, false)), (77, (20, 1, 0, false)), (80, (21, 1, 0, false)), (83, (22, 1, 0, false)), (89, (23, 1, 0, false)), (92, (24, 1, 0, false)), (102, (25, 1, 0, false)), (105, (26, 1, 0, false)), (140, (27, 1, 0, false))] (fun _ h => cond_ge h) (by decide +kernel) (Q := fun x e => (Jvm.Cond.fieldLink "FlowMonitorVM" x "FlowMonitorVM" (fnmT e.1).1 (fnmT e.1).2).before a0 Z = true ∧ fkdT e.1 = some (e.2.1, e.2.2.1, e.2.2.2)) ⟨⟨hw _ (List.mem_of_getElem? (i := 10) rfl), rfl⟩, ⟨hw _ (List.mem_of_getElem? (i := 12) rfl), rfl⟩, ⟨hw _ (List.mem_of_getElem? (i := 14) rfl), rfl⟩, ⟨hw _ (List.mem_of_getElem? (i := 16) rfl), rfl⟩, ⟨hw _ (List.mem_of_getElem? (i := 18) rfl), rfl⟩, ⟨hw _ (List.mem_of_getElem? (i := 20) rfl), rfl⟩, ⟨hw _ (List.mem_of_getElem? (i := 22) rfl), rfl⟩, ⟨hw _ (List.mem_of_getElem? (i := 24) rfl), rfl⟩, ⟨hw _ (List.mem_of_getElem? (i := 26) rfl), rfl⟩, ⟨hw _ (List.mem_of_getElem? (i := 28) rfl), rfl⟩, ⟨hw _ (List.mem_of_getElem? (i := 30) rfl), rfl⟩, ⟨hw _ (List.mem_of_getElem? (i := 32) rfl), rfl⟩, ⟨hw _ (List.mem_of_getElem? (i := 34) rfl), rfl⟩, ⟨hw _ (List.mem_of_getElem? (i := 36) rfl), rfl⟩, ⟨hw _ (List.mem_of_getElem? (i := 38) rfl), rfl⟩, ⟨hw _ (List.mem_of_getElem? (i := 40) rfl), rfl⟩, ⟨hw _ (List.mem_of_getElem? (i := 43) rfl), rfl⟩, ⟨hw _ (List.mem_of_getElem? (i := 46) rfl), rfl⟩, ⟨hw _ (List.mem_of_getElem? (i := 52) rfl), rfl⟩, ⟨hw _ (List.mem_of_getElem? (i := 54) rfl), rfl⟩, ⟨hw _ (List.mem_of_getElem? (i := 56) rfl), rfl⟩, ⟨hw _ (List.mem_of_getElem? (i := 58) rfl), rfl⟩, ⟨hw _ (List.mem_of_getElem? (i := 70) rfl), rfl⟩, ⟨hw _ (List.mem_of_getElem? (i := 174) rfl), rfl⟩, ⟨hw _ (List.mem_of_getElem? (i := 128) rfl), rfl⟩, ⟨hw _ (List.mem_of_getElem? (i := 144) rfl), rfl⟩, ⟨hw _ (List.mem_of_getElem? (i := 151) rfl), rfl⟩, ⟨hw _ (List.mem_of_getElem? (i := 180) rfl), rfl⟩, trivial⟩
theorem t_fld {a0 : Array Value} {Z : State} (hw : ∀ d ∈ tables_1, d.before a0 Z = true) : ∀ x f kd j fin, pfld PP x = some (f, kd, j, fin) → (Jvm.Cond.fieldLink "FlowMonitorVM" x "FlowMonitorVM" (fnmT f).1 (fnmT f).2).before a0 Z = true ∧ fkdT f = some (kd, j, fin) := fun x f kd j fin h =>
  t_fld0 hw x (f, kd, j, fin) h
set_option maxRecDepth 65536 in
set_option maxHeartbeats 8000000 in
theorem t_fkd {a0 : Array Value} {Z : State} (hw : ∀ d ∈ tables_1, d.before a0 Z = true) : ∀ f kd j fin, fkdT f = some (kd, j, fin) → ((fin = false ∧ (Jvm.Cond.lays "FlowMonitorVM" "FlowMonitorVM" (fnmT f).1 (fnmT f).2).before a0 Z = true) ∨ (fin = true ∧ (Jvm.Cond.laysFinal "FlowMonitorVM" "FlowMonitorVM" (fnmT f).1 (fnmT f).2).before a0 Z = true)) ∧ parseFieldDescriptor (fnmT f).2 = some (fty PP kd j) ∧ (kd = 0 → 1 ≤ j) ∧ kd ≤ 4 :=
  fkd_all (f := fkdN) (tab_all 28 [(0, (0, 1, false)), (1, (0, 2, false)), (2, (0, 3, false)), (3, (0, 4, false)), (4, (0, 5, false)), (5, (0, 6, false)), (6, (0, 7, false)), (7, (0, 8, false)), (8, (0, 9, false)), (9, (0, 10, false)), (10, (0, 11, false)), (11, (0, 12, false)), (12, (0, 13, false)), (13, (0, 14, false)), (14, (0, 15, false)), (15, (0, 16, false)), (16, (0, 17, false)), (17, (0, 18, false)), (18, (1, 0, false)), (19, (1, 0, false)), (20, (1, 0, false)), (21, (1, 0, false)), (22, (1, 0, false)), (23, (1, 0, false)), (24, (1, 0, false)), (25, (1, 0, false)), (26, (1, 0, false)), (27, (1, 0, false))] (fun _ h => cond_ge h) (by decide +kernel) ⟨⟨Or.inl ⟨rfl, hw _ (List.mem_of_getElem? (i := 11) rfl)⟩, by decide +kernel, by decide, by decide⟩, ⟨Or.inl ⟨rfl, hw _ (List.mem_of_getElem? (i := 13) rfl)⟩, by decide +kernel, by decide, by decide⟩, ⟨Or.inl ⟨rfl, hw _ (List.mem_of_getElem? (i := 15) rfl)⟩, by decide +kernel, by decide, by decide⟩, ⟨Or.inl ⟨rfl, hw _ (List.mem_of_getElem? (i := 17) rfl)⟩, by decide +kernel, by decide, by decide⟩, ⟨Or.inl ⟨rfl, hw _ (List.mem_of_getElem? (i := 19) rfl)⟩, by decide +kernel, by decide, by decide⟩, ⟨Or.inl ⟨rfl, hw _ (List.mem_of_getElem? (i := 21) rfl)⟩, by decide +kernel, by decide, by decide⟩, ⟨Or.inl ⟨rfl, hw _ (List.mem_of_getElem? (i := 23) rfl)⟩, by decide +kernel, by decide, by decide⟩, ⟨Or.inl ⟨rfl, hw _ (List.mem_of_getElem? (i := 25) rfl)⟩, by decide +kernel, by decide, by decide⟩, ⟨Or.inl ⟨rfl, hw _ (List.mem_of_getElem? (i := 27) rfl)⟩, by decide +kernel, by decide, by decide⟩, ⟨Or.inl ⟨rfl, hw _ (List.mem_of_getElem? (i := 29) rfl)⟩, by decide +kernel, by decide, by decide⟩, ⟨Or.inl ⟨rfl, hw _ (List.mem_of_getElem? (i := 31) rfl)⟩, by decide +kernel, by decide, by decide⟩, ⟨Or.inl ⟨rfl, hw _ (List.mem_of_getElem? (i := 33) rfl)⟩, by decide +kernel, by decide, by decide⟩, ⟨Or.inl ⟨rfl, hw _ (List.mem_of_getElem? (i := 35) rfl)⟩, by decide +kernel, by decide, by decide⟩, ⟨Or.inl ⟨rfl, hw _ (List.mem_of_getElem? (i := 37) rfl)⟩, by decide +kernel, by decide, by decide⟩, ⟨Or.inl ⟨rfl, hw _ (List.mem_of_getElem? (i := 39) rfl)⟩, by decide +kernel, by decide, by decide⟩, ⟨Or.inl ⟨rfl, hw _ (List.mem_of_getElem? (i := 41) rfl)⟩, by decide +kernel, by decide, by decide⟩, ⟨Or.inl ⟨rfl, hw _ (List.mem_of_getElem? (i := 44) rfl)⟩, by decide +kernel, by decide, by decide⟩, ⟨Or.inl ⟨rfl, hw _ (List.mem_of_getElem? (i := 47) rfl)⟩, by decide +kernel, by decide, by decide⟩, ⟨Or.inl ⟨rfl, hw _ (List.mem_of_getElem? (i := 53) rfl)⟩, by decide +kernel, by decide, by decide⟩, ⟨Or.inl ⟨rfl, hw _ (List.mem_of_getElem? (i := 55) rfl)⟩, by decide +kernel, by decide, by decide⟩, ⟨Or.inl ⟨rfl, hw _ (List.mem_of_getElem? (i := 57) rfl)⟩, by decide +kernel, by decide, by decide⟩, ⟨Or.inl ⟨rfl, hw _ (List.mem_of_getElem? (i := 59) rfl)⟩, by decide +kernel, by decide, by decide⟩, ⟨Or.inl ⟨rfl, hw _ (List.mem_of_getElem? (i := 71) rfl)⟩, by decide +kernel, by decide, by decide⟩, ⟨Or.inl ⟨rfl, hw _ (List.mem_of_getElem? (i := 175) rfl)⟩, by decide +kernel, by decide, by decide⟩, ⟨Or.inl ⟨rfl, hw _ (List.mem_of_getElem? (i := 129) rfl)⟩, by decide +kernel, by decide, by decide⟩, ⟨Or.inl ⟨rfl, hw _ (List.mem_of_getElem? (i := 145) rfl)⟩, by decide +kernel, by decide, by decide⟩, ⟨Or.inl ⟨rfl, hw _ (List.mem_of_getElem? (i := 152) rfl)⟩, by decide +kernel, by decide, by decide⟩, ⟨Or.inl ⟨rfl, hw _ (List.mem_of_getElem? (i := 181) rfl)⟩, by decide +kernel, by decide, by decide⟩, trivial⟩)
set_option maxRecDepth 65536 in
set_option maxHeartbeats 8000000 in
theorem t_lay0 {a0 : Array Value} {Z : State} (hw : ∀ d ∈ tables_1, d.before a0 Z = true) : ∀ j e, PPlay j = some e → 1 ≤ j ∧ j ≤ 18 ∧ 0 ≤ e.2 ∧ e.2 ≤ 60000000 ∧ (e.1 = 1 ∨ e.1 = 2 ∨ e.1 = 3 ∨ e.1 = 4) ∧ (Jvm.Cond.arrayClass (kty e.1)).before a0 Z = true :=
  tab_all (f := PPlay) 19 [(1, (1, 32)), (2, (1, 32)), (3, (1, 32)), (4, (1, 32)), (5, (1, 8)), (6, (1, 8)), (7, (1, 32)), (8, (1, 32)), (9, (1, 16)), (10, (1, 16)), (11, (1, 32)), (12, (1, 32)), (13, (1, 16)), (14, (1, 16)), (15, (1, 16)), (16, (1, 32)), (17, (2, 33)), (18, (4, 33))] (fun _ h => cond_ge h) (by decide +kernel) (Q := fun j e => 1 ≤ j ∧ j ≤ 18 ∧ 0 ≤ e.2 ∧ e.2 ≤ 60000000 ∧ (e.1 = 1 ∨ e.1 = 2 ∨ e.1 = 3 ∨ e.1 = 4) ∧ (Jvm.Cond.arrayClass (kty e.1)).before a0 Z = true) ⟨⟨by decide, by decide, by decide, by decide, by decide, hw _ (List.mem_of_getElem? (i := 9) rfl)⟩, ⟨by decide, by decide, by decide, by decide, by decide, hw _ (List.mem_of_getElem? (i := 9) rfl)⟩, ⟨by decide, by decide, by decide, by decide, by decide, hw _ (List.mem_of_getElem? (i := 9) rfl)⟩, ⟨by decide, by decide, by decide, by decide, by decide, hw _ (List.mem_of_getElem? (i := 9) rfl)⟩, ⟨by decide, by decide, by decide, by decide, by decide, hw _ (List.mem_of_getElem? (i := 9) rfl)⟩, ⟨by decide, by decide, by decide, by decide, by decide, hw _ (List.mem_of_getElem? (i := 9) rfl)⟩, ⟨by decide, by decide, by decide, by decide, by decide, hw _ (List.mem_of_getElem? (i := 9) rfl)⟩, ⟨by decide, by decide, by decide, by decide, by decide, hw _ (List.mem_of_getElem? (i := 9) rfl)⟩, ⟨by decide, by decide, by decide, by decide, by decide, hw _ (List.mem_of_getElem? (i := 9) rfl)⟩, ⟨by decide, by decide, by decide, by decide, by decide, hw _ (List.mem_of_getElem? (i := 9) rfl)⟩, ⟨by decide, by decide, by decide, by decide, by decide, hw _ (List.mem_of_getElem? (i := 9) rfl)⟩, ⟨by decide, by decide, by decide, by decide, by decide, hw _ (List.mem_of_getElem? (i := 9) rfl)⟩, ⟨by decide, by decide, by decide, by decide, by decide, hw _ (List.mem_of_getElem? (i := 9) rfl)⟩, ⟨by decide, by decide, by decide, by decide, by decide, hw _ (List.mem_of_getElem? (i := 9) rfl)⟩, ⟨by decide, by decide, by decide, by decide, by decide, hw _ (List.mem_of_getElem? (i := 9) rfl)⟩, ⟨by decide, by decide, by decide, by decide, by decide, hw _ (List.mem_of_getElem? (i := 9) rfl)⟩, ⟨by decide, by decide, by decide, by decide, by decide, hw _ (List.mem_of_getElem? (i := 42) rfl)⟩, ⟨by decide, by decide, by decide, by decide, by decide, hw _ (List.mem_of_getElem? (i := 45) rfl)⟩, trivial⟩
theorem t_lay {a0 : Array Value} {Z : State} (hw : ∀ d ∈ tables_1, d.before a0 Z = true) : ∀ j kd n, play PP j = some (kd, n) → 1 ≤ j ∧ j ≤ 18 ∧ 0 ≤ n ∧ n ≤ 60000000 ∧ (kd = 1 ∨ kd = 2 ∨ kd = 3 ∨ kd = 4) ∧ (Jvm.Cond.arrayClass (kty kd)).before a0 Z = true := fun j kd n h =>
  t_lay0 hw j (kd, n) h
set_option maxRecDepth 65536 in
set_option maxHeartbeats 8000000 in
theorem t_cst0 {a0 : Array Value} {Z : State} (hw : ∀ d ∈ tables_1, d.before a0 Z = true) : ∀ x e, PPcst x = some e → (∀ z, e = .inl z → ∃ v : Int32, (Jvm.Cond.constant "FlowMonitorVM" x v).before a0 Z = true ∧ v.toInt = z) ∧ (∀ z, e = .inr (.inl z) → ∃ v : Int64, (Jvm.Cond.constantLong "FlowMonitorVM" x v).before a0 Z = true ∧ v.toInt = z) :=
  tab_all (f := PPcst) 139 [(138, (vl (-1)))] (fun _ h => cond_ge h) (by decide +kernel) ⟨⟨fun z h => (by cases h), fun z h => by cases h; exact ⟨(-1), hw _ (List.mem_of_getElem? (i := 108) rfl), by decide⟩⟩, trivial⟩
theorem t_cst {a0 : Array Value} {Z : State} (hw : ∀ d ∈ tables_1, d.before a0 Z = true) : ((∀ x z, pcst PP x = some (.inl z) → ∃ v : Int32, (Jvm.Cond.constant "FlowMonitorVM" x v).before a0 Z = true ∧ v.toInt = z) ∧ (∀ x z, pcst PP x = some (.inr (.inl z)) → ∃ v : Int64, (Jvm.Cond.constantLong "FlowMonitorVM" x v).before a0 Z = true ∧ v.toInt = z)) := ⟨fun x z h => (t_cst0 hw x _ h).1 z rfl, fun x z h => (t_cst0 hw x _ h).2 z rfl⟩
set_option maxRecDepth 65536 in
set_option maxHeartbeats 8000000 in
theorem t_mth {a0 : Array Value} {Z : State} (hw : ∀ d ∈ tables_1, d.before a0 Z = true) : ∀ x q, pmth PP x = some q → (Jvm.Cond.methodLink "FlowMonitorVM" x (nmT q)).before a0 Z = true :=
  tab_all (f := PPmth) 180 [(66, 1), (86, 4), (95, 24), (99, 17), (108, 34), (111, 5), (114, 9), (117, 12), (120, 7), (123, 8), (126, 6), (130, 10), (134, 11), (143, 25), (146, 28), (150, 38), (153, 39), (156, 36), (159, 35), (162, 26), (165, 29), (168, 40), (171, 31), (175, 27), (179, 37)] (fun _ h => cond_ge h) (by decide +kernel) ⟨hw _ (List.mem_of_getElem? (i := 48) rfl), hw _ (List.mem_of_getElem? (i := 72) rfl), hw _ (List.mem_of_getElem? (i := 176) rfl), hw _ (List.mem_of_getElem? (i := 135) rfl), hw _ (List.mem_of_getElem? (i := 221) rfl), hw _ (List.mem_of_getElem? (i := 76) rfl), hw _ (List.mem_of_getElem? (i := 92) rfl), hw _ (List.mem_of_getElem? (i := 104) rfl), hw _ (List.mem_of_getElem? (i := 84) rfl), hw _ (List.mem_of_getElem? (i := 88) rfl), hw _ (List.mem_of_getElem? (i := 80) rfl), hw _ (List.mem_of_getElem? (i := 96) rfl), hw _ (List.mem_of_getElem? (i := 100) rfl), hw _ (List.mem_of_getElem? (i := 182) rfl), hw _ (List.mem_of_getElem? (i := 194) rfl), hw _ (List.mem_of_getElem? (i := 237) rfl), hw _ (List.mem_of_getElem? (i := 241) rfl), hw _ (List.mem_of_getElem? (i := 229) rfl), hw _ (List.mem_of_getElem? (i := 225) rfl), hw _ (List.mem_of_getElem? (i := 186) rfl), hw _ (List.mem_of_getElem? (i := 198) rfl), hw _ (List.mem_of_getElem? (i := 245) rfl), hw _ (List.mem_of_getElem? (i := 207) rfl), hw _ (List.mem_of_getElem? (i := 190) rfl), hw _ (List.mem_of_getElem? (i := 233) rfl), trivial⟩
set_option maxRecDepth 65536 in
set_option maxHeartbeats 8000000 in
theorem t_inf0 {a0 : Array Value} {Z : State} (hw : ∀ d ∈ tables_1, d.before a0 Z = true) : ∀ q e, PPinf q = some e → (nmT q).cls = "FlowMonitorVM" ∧ (Jvm.Cond.instanceMethod (nmT q)).before a0 Z = true ∧ (Jvm.Cond.code (nmT q) (byT q) e.2.1 (rty e.2.2.1)).before a0 Z = true ∧ (q ≠ 0 → (Jvm.Cond.privateMethod (nmT q)).before a0 Z = true ∨ ((Jvm.Cond.declares (nmT q)).before a0 Z = true ∧ (Jvm.Cond.selects "FlowMonitorVM" (nmT q) (nmT q)).before a0 Z = true)) ∧ ∃ params, parseMethodDescriptor (nmT q).desc = some ⟨params, rty e.2.2.1⟩ ∧ params.length = e.1.length :=
  tab_all (f := PPinf) 42 [(0, ([false, false], 3, 0, 1, 14)), (1, ([false], 2, 1, 0, 0)), (2, ([], 1, 1, 0, 0)), (3, ([false, false, false, false], 5, 2, 5, 78)), (4, ([], 2, 0, 4, 65)), (5, ([], 4, 0, 3, 42)), (6, ([false], 4, 2, 2, 27)), (7, ([false], 3, 1, 1, 13)), (8, ([false], 2, 1, 0, 0)), (9, ([], 8, 0, 3, 46)), (10, ([], 1, 4, 0, 0)), (11, ([false], 6, 4, 2, 27)), (12, ([false], 5, 1, 0, 0)), (13, ([], 1, 1, 0, 0)), (14, ([], 1, 1, 0, 0)), (15, ([], 1, 1, 0, 0)), (16, ([], 1, 1, 1, 12)), (17, ([], 1, 1, 0, 0)), (18, ([], 1, 1, 0, 0)), (19, ([], 1, 1, 0, 0)), (20, ([false], 2, 1, 0, 0)), (21, ([false], 2, 1, 0, 0)), (22, ([false, false], 3, 1, 0, 0)), (23, ([false], 5, 1, 5, 80)), (24, ([], 3, 1, 4, 65)), (25, ([false], 3, 1, 3, 51)), (26, ([false], 5, 1, 1, 14)), (27, ([false, false], 3, 2, 0, 0)), (28, ([false, false, false], 6, 1, 1, 14)), (29, ([false], 3, 1, 1, 15)), (30, ([false, false], 3, 1, 0, 0)), (31, ([false, false], 9, 1, 2, 31)), (32, ([false], 2, 1, 0, 0)), (33, ([false, false, false], 4, 2, 0, 0)), (34, ([false], 2, 1, 0, 0)), (35, ([false], 5, 1, 1, 14)), (36, ([false], 8, 1, 1, 14)), (37, ([false], 2, 1, 0, 0)), (38, ([false], 5, 1, 2, 31)), (39, ([false], 6, 1, 2, 31)), (40, ([false], 6, 1, 1, 12)), (41, ([false, false], 3, 1, 0, 0))] (fun _ h => cond_ge h) (by decide +kernel) (Q := fun q e => (nmT q).cls = "FlowMonitorVM" ∧ (Jvm.Cond.instanceMethod (nmT q)).before a0 Z = true ∧ (Jvm.Cond.code (nmT q) (byT q) e.2.1 (rty e.2.2.1)).before a0 Z = true ∧ (q ≠ 0 → (Jvm.Cond.privateMethod (nmT q)).before a0 Z = true ∨ ((Jvm.Cond.declares (nmT q)).before a0 Z = true ∧ (Jvm.Cond.selects "FlowMonitorVM" (nmT q) (nmT q)).before a0 Z = true)) ∧ ∃ params, parseMethodDescriptor (nmT q).desc = some ⟨params, rty e.2.2.1⟩ ∧ params.length = e.1.length) ⟨⟨rfl, hw _ (List.mem_of_getElem? (i := 4) rfl), hw _ (List.mem_of_getElem? (i := 5) rfl), fun h => absurd rfl h, [.int, .int], by decide +kernel, rfl⟩, ⟨rfl, hw _ (List.mem_of_getElem? (i := 49) rfl), hw _ (List.mem_of_getElem? (i := 51) rfl), fun _ => Or.inl (hw _ (List.mem_of_getElem? (i := 50) rfl)), [.int], by decide +kernel, rfl⟩, ⟨rfl, hw _ (List.mem_of_getElem? (i := 62) rfl), hw _ (List.mem_of_getElem? (i := 64) rfl), fun _ => Or.inr ⟨hw _ (List.mem_of_getElem? (i := 61) rfl), hw _ (List.mem_of_getElem? (i := 63) rfl)⟩, [], by decide +kernel, rfl⟩, ⟨rfl, hw _ (List.mem_of_getElem? (i := 67) rfl), hw _ (List.mem_of_getElem? (i := 69) rfl), fun _ => Or.inr ⟨hw _ (List.mem_of_getElem? (i := 66) rfl), hw _ (List.mem_of_getElem? (i := 68) rfl)⟩, [.int, .int, .int, .int], by decide +kernel, rfl⟩, ⟨rfl, hw _ (List.mem_of_getElem? (i := 73) rfl), hw _ (List.mem_of_getElem? (i := 75) rfl), fun _ => Or.inl (hw _ (List.mem_of_getElem? (i := 74) rfl)), [], by decide +kernel, rfl⟩, ⟨rfl, hw _ (List.mem_of_getElem? (i := 77) rfl), hw _ (List.mem_of_getElem? (i := 79) rfl), fun _ => Or.inl (hw _ (List.mem_of_getElem? (i := 78) rfl)), [], by decide +kernel, rfl⟩, ⟨rfl, hw _ (List.mem_of_getElem? (i := 81) rfl), hw _ (List.mem_of_getElem? (i := 83) rfl), fun _ => Or.inl (hw _ (List.mem_of_getElem? (i := 82) rfl)), [.int], by decide +kernel, rfl⟩, ⟨rfl, hw _ (List.mem_of_getElem? (i := 85) rfl), hw _ (List.mem_of_getElem? (i := 87) rfl), fun _ => Or.inl (hw _ (List.mem_of_getElem? (i := 86) rfl)), [.int], by decide +kernel, rfl⟩, ⟨rfl, hw _ (List.mem_of_getElem? (i := 89) rfl), hw _ (List.mem_of_getElem? (i := 91) rfl), fun _ => Or.inl (hw _ (List.mem_of_getElem? (i := 90) rfl)), [.int], by decide +kernel, rfl⟩, ⟨rfl, hw _ (List.mem_of_getElem? (i := 93) rfl), hw _ (List.mem_of_getElem? (i := 95) rfl), fun _ => Or.inl (hw _ (List.mem_of_getElem? (i := 94) rfl)), [], by decide +kernel, rfl⟩, ⟨rfl, hw _ (List.mem_of_getElem? (i := 97) rfl), hw _ (List.mem_of_getElem? (i := 99) rfl), fun _ => Or.inl (hw _ (List.mem_of_getElem? (i := 98) rfl)), [], by decide +kernel, rfl⟩, ⟨rfl, hw _ (List.mem_of_getElem? (i := 101) rfl), hw _ (List.mem_of_getElem? (i := 103) rfl), fun _ => Or.inl (hw _ (List.mem_of_getElem? (i := 102) rfl)), [.int], by decide +kernel, rfl⟩, ⟨rfl, hw _ (List.mem_of_getElem? (i := 105) rfl), hw _ (List.mem_of_getElem? (i := 107) rfl), fun _ => Or.inl (hw _ (List.mem_of_getElem? (i := 106) rfl)), [.int], by decide +kernel, rfl⟩, ⟨rfl, hw _ (List.mem_of_getElem? (i := 115) rfl), hw _ (List.mem_of_getElem? (i := 117) rfl), fun _ => Or.inr ⟨hw _ (List.mem_of_getElem? (i := 114) rfl), hw _ (List.mem_of_getElem? (i := 116) rfl)⟩, [], by decide +kernel, rfl⟩, ⟨rfl, hw _ (List.mem_of_getElem? (i := 120) rfl), hw _ (List.mem_of_getElem? (i := 122) rfl), fun _ => Or.inr ⟨hw _ (List.mem_of_getElem? (i := 119) rfl), hw _ (List.mem_of_getElem? (i := 121) rfl)⟩, [], by decide +kernel, rfl⟩, ⟨rfl, hw _ (List.mem_of_getElem? (i := 125) rfl), hw _ (List.mem_of_getElem? (i := 127) rfl), fun _ => Or.inr ⟨hw _ (List.mem_of_getElem? (i := 124) rfl), hw _ (List.mem_of_getElem? (i := 126) rfl)⟩, [], by decide +kernel, rfl⟩, ⟨rfl, hw _ (List.mem_of_getElem? (i := 132) rfl), hw _ (List.mem_of_getElem? (i := 134) rfl), fun _ => Or.inr ⟨hw _ (List.mem_of_getElem? (i := 131) rfl), hw _ (List.mem_of_getElem? (i := 133) rfl)⟩, [], by decide +kernel, rfl⟩, ⟨rfl, hw _ (List.mem_of_getElem? (i := 136) rfl), hw _ (List.mem_of_getElem? (i := 138) rfl), fun _ => Or.inl (hw _ (List.mem_of_getElem? (i := 137) rfl)), [], by decide +kernel, rfl⟩, ⟨rfl, hw _ (List.mem_of_getElem? (i := 141) rfl), hw _ (List.mem_of_getElem? (i := 143) rfl), fun _ => Or.inr ⟨hw _ (List.mem_of_getElem? (i := 140) rfl), hw _ (List.mem_of_getElem? (i := 142) rfl)⟩, [], by decide +kernel, rfl⟩, ⟨rfl, hw _ (List.mem_of_getElem? (i := 148) rfl), hw _ (List.mem_of_getElem? (i := 150) rfl), fun _ => Or.inr ⟨hw _ (List.mem_of_getElem? (i := 147) rfl), hw _ (List.mem_of_getElem? (i := 149) rfl)⟩, [], by decide +kernel, rfl⟩, ⟨rfl, hw _ (List.mem_of_getElem? (i := 155) rfl), hw _ (List.mem_of_getElem? (i := 157) rfl), fun _ => Or.inr ⟨hw _ (List.mem_of_getElem? (i := 154) rfl), hw _ (List.mem_of_getElem? (i := 156) rfl)⟩, [.int], by decide +kernel, rfl⟩, ⟨rfl, hw _ (List.mem_of_getElem? (i := 160) rfl), hw _ (List.mem_of_getElem? (i := 162) rfl), fun _ => Or.inr ⟨hw _ (List.mem_of_getElem? (i := 159) rfl), hw _ (List.mem_of_getElem? (i := 161) rfl)⟩, [.int], by decide +kernel, rfl⟩, ⟨rfl, hw _ (List.mem_of_getElem? (i := 165) rfl), hw _ (List.mem_of_getElem? (i := 167) rfl), fun _ => Or.inr ⟨hw _ (List.mem_of_getElem? (i := 164) rfl), hw _ (List.mem_of_getElem? (i := 166) rfl)⟩, [.int, .int], by decide +kernel, rfl⟩, ⟨rfl, hw _ (List.mem_of_getElem? (i := 171) rfl), hw _ (List.mem_of_getElem? (i := 173) rfl), fun _ => Or.inr ⟨hw _ (List.mem_of_getElem? (i := 170) rfl), hw _ (List.mem_of_getElem? (i := 172) rfl)⟩, [.int], by decide +kernel, rfl⟩, ⟨rfl, hw _ (List.mem_of_getElem? (i := 177) rfl), hw _ (List.mem_of_getElem? (i := 179) rfl), fun _ => Or.inl (hw _ (List.mem_of_getElem? (i := 178) rfl)), [], by decide +kernel, rfl⟩, ⟨rfl, hw _ (List.mem_of_getElem? (i := 183) rfl), hw _ (List.mem_of_getElem? (i := 185) rfl), fun _ => Or.inl (hw _ (List.mem_of_getElem? (i := 184) rfl)), [.int], by decide +kernel, rfl⟩, ⟨rfl, hw _ (List.mem_of_getElem? (i := 187) rfl), hw _ (List.mem_of_getElem? (i := 189) rfl), fun _ => Or.inl (hw _ (List.mem_of_getElem? (i := 188) rfl)), [.int], by decide +kernel, rfl⟩, ⟨rfl, hw _ (List.mem_of_getElem? (i := 191) rfl), hw _ (List.mem_of_getElem? (i := 193) rfl), fun _ => Or.inl (hw _ (List.mem_of_getElem? (i := 192) rfl)), [.int, .int], by decide +kernel, rfl⟩, ⟨rfl, hw _ (List.mem_of_getElem? (i := 195) rfl), hw _ (List.mem_of_getElem? (i := 197) rfl), fun _ => Or.inl (hw _ (List.mem_of_getElem? (i := 196) rfl)), [.int, .int, .int], by decide +kernel, rfl⟩, ⟨rfl, hw _ (List.mem_of_getElem? (i := 199) rfl), hw _ (List.mem_of_getElem? (i := 201) rfl), fun _ => Or.inl (hw _ (List.mem_of_getElem? (i := 200) rfl)), [.int], by decide +kernel, rfl⟩, ⟨rfl, hw _ (List.mem_of_getElem? (i := 204) rfl), hw _ (List.mem_of_getElem? (i := 206) rfl), fun _ => Or.inr ⟨hw _ (List.mem_of_getElem? (i := 203) rfl), hw _ (List.mem_of_getElem? (i := 205) rfl)⟩, [.int, .int], by decide +kernel, rfl⟩, ⟨rfl, hw _ (List.mem_of_getElem? (i := 208) rfl), hw _ (List.mem_of_getElem? (i := 210) rfl), fun _ => Or.inl (hw _ (List.mem_of_getElem? (i := 209) rfl)), [.int, .int], by decide +kernel, rfl⟩, ⟨rfl, hw _ (List.mem_of_getElem? (i := 213) rfl), hw _ (List.mem_of_getElem? (i := 215) rfl), fun _ => Or.inr ⟨hw _ (List.mem_of_getElem? (i := 212) rfl), hw _ (List.mem_of_getElem? (i := 214) rfl)⟩, [.int], by decide +kernel, rfl⟩, ⟨rfl, hw _ (List.mem_of_getElem? (i := 218) rfl), hw _ (List.mem_of_getElem? (i := 220) rfl), fun _ => Or.inr ⟨hw _ (List.mem_of_getElem? (i := 217) rfl), hw _ (List.mem_of_getElem? (i := 219) rfl)⟩, [.int, .int, .int], by decide +kernel, rfl⟩, ⟨rfl, hw _ (List.mem_of_getElem? (i := 222) rfl), hw _ (List.mem_of_getElem? (i := 224) rfl), fun _ => Or.inl (hw _ (List.mem_of_getElem? (i := 223) rfl)), [.int], by decide +kernel, rfl⟩, ⟨rfl, hw _ (List.mem_of_getElem? (i := 226) rfl), hw _ (List.mem_of_getElem? (i := 228) rfl), fun _ => Or.inl (hw _ (List.mem_of_getElem? (i := 227) rfl)), [.int], by decide +kernel, rfl⟩, ⟨rfl, hw _ (List.mem_of_getElem? (i := 230) rfl), hw _ (List.mem_of_getElem? (i := 232) rfl), fun _ => Or.inl (hw _ (List.mem_of_getElem? (i := 231) rfl)), [.int], by decide +kernel, rfl⟩, ⟨rfl, hw _ (List.mem_of_getElem? (i := 234) rfl), hw _ (List.mem_of_getElem? (i := 236) rfl), fun _ => Or.inl (hw _ (List.mem_of_getElem? (i := 235) rfl)), [.int], by decide +kernel, rfl⟩, ⟨rfl, hw _ (List.mem_of_getElem? (i := 238) rfl), hw _ (List.mem_of_getElem? (i := 240) rfl), fun _ => Or.inl (hw _ (List.mem_of_getElem? (i := 239) rfl)), [.int], by decide +kernel, rfl⟩, ⟨rfl, hw _ (List.mem_of_getElem? (i := 242) rfl), hw _ (List.mem_of_getElem? (i := 244) rfl), fun _ => Or.inl (hw _ (List.mem_of_getElem? (i := 243) rfl)), [.int], by decide +kernel, rfl⟩, ⟨rfl, hw _ (List.mem_of_getElem? (i := 246) rfl), hw _ (List.mem_of_getElem? (i := 248) rfl), fun _ => Or.inl (hw _ (List.mem_of_getElem? (i := 247) rfl)), [.int], by decide +kernel, rfl⟩, ⟨rfl, hw _ (List.mem_of_getElem? (i := 251) rfl), hw _ (List.mem_of_getElem? (i := 253) rfl), fun _ => Or.inr ⟨hw _ (List.mem_of_getElem? (i := 250) rfl), hw _ (List.mem_of_getElem? (i := 252) rfl)⟩, [.int, .int], by decide +kernel, rfl⟩, trivial⟩
theorem t_inf {a0 : Array Value} {Z : State} (hw : ∀ d ∈ tables_1, d.before a0 Z = true) : ∀ q ps ml rk fr lc, pinf PP q = some (ps, ml, rk, fr, lc) → (nmT q).cls = "FlowMonitorVM" ∧ (Jvm.Cond.instanceMethod (nmT q)).before a0 Z = true ∧ (Jvm.Cond.code (nmT q) (byT q) ml (rty rk)).before a0 Z = true ∧ (q ≠ 0 → (Jvm.Cond.privateMethod (nmT q)).before a0 Z = true ∨ ((Jvm.Cond.declares (nmT q)).before a0 Z = true ∧ (Jvm.Cond.selects "FlowMonitorVM" (nmT q) (nmT q)).before a0 Z = true)) ∧ ∃ params, parseMethodDescriptor (nmT q).desc = some ⟨params, rty rk⟩ ∧ params.length = ps.length := fun q ps ml rk fr lc h =>
  t_inf0 hw q (ps, ml, rk, fr, lc) h
set_option maxRecDepth 65536 in
set_option maxHeartbeats 8000000 in
theorem tabP {a0 : Array Value} {Z : State} (hw : ∀ d ∈ tables_1, d.before a0 Z = true) : TabP PP "FlowMonitorVM" fnmT fkdT nmT byT 18 28 a0 Z :=
  ⟨t_code, t_fld hw, t_fkd hw, names_all 28 (fun _ h => cond_ge h) (by decide +kernel), ptrs_all 28 (fun _ h => cond_ge h) (by decide +kernel), t_lay hw, t_cst hw, t_mth hw, t_inf hw, fun x h => by cases Nat.eq_of_beq_eq_true h; exact hw _ (List.mem_of_getElem? (i := 6) rfl), ⟨hw _ (List.mem_of_getElem? (i := 7) rfl), hw _ (List.mem_of_getElem? (i := 8) rfl)⟩, hw _ (List.mem_of_getElem? (i := 1) rfl), hw _ (List.mem_of_getElem? (i := 2) rfl), by first | (simp [plainName, overriddenIn]; done) | decide +kernel, by decide, rfl, fun ps ml rk fr lc h => by cases h; rfl⟩
def lnmT : Nat → MethodName := fun q => cond (Nat.blt q 1) (cond (Nat.beq q 0) ((⟨"FlowMonitorVML6", "law", "([I)Z"⟩ : MethodName)) (⟨"FlowMonitorVML6", "law", "([I)Z"⟩ : MethodName)) (cond (Nat.beq q 1) ((⟨"FlowMonitorVML6", "inv", "(LFlowMonitorVM;IJ)Z"⟩ : MethodName)) (⟨"FlowMonitorVML6", "law", "([I)Z"⟩ : MethodName))
def lbyT : Nat → ByteArray := fun q => cond (Nat.blt q 1) (cond (Nat.beq q 0) (code) code) (cond (Nat.beq q 1) (method_3_code) code)
set_option maxRecDepth 65536 in
set_option maxHeartbeats 8000000 in
theorem lcdk_0 : ∀ pc i len, lcd_0 pc = some (i, len) → decode code pc = .ok (i, len) ∧ chk pc i len = true := code_all 532 (fun _ h => cond_ge h) (by decide +kernel)
set_option maxRecDepth 65536 in
set_option maxHeartbeats 8000000 in
theorem lcdk_1 : ∀ pc i len, lcd_1 pc = some (i, len) → decode method_3_code pc = .ok (i, len) ∧ chk pc i len = true := code_all 489 (fun _ h => cond_ge h) (by decide +kernel)
theorem tl_code : ∀ q pc i len, lcode LL q pc = some (i, len) → decode (lbyT q) pc = .ok (i, len) ∧ chk pc i len = true := by
  intro q
  by_cases hq : q < 2
  · exact allN (Q := fun q => ∀ pc i len, lcode LL q pc = some (i, len) → decode (lbyT q) pc = .ok (i, len) ∧ chk pc i len = true) (N := 2) (⟨⟨trivial, lcdk_0⟩, lcdk_1⟩) q hq
  · intro pc i len h
    have h0 : LLcode q pc = none := cond_ge (by omega)
    have h1 : LLcode q pc = some (i, len) := h
    rw [h0] at h1; cases h1
set_option maxRecDepth 65536 in
set_option maxHeartbeats 8000000 in
theorem tl_cst0 {a0 : Array Value} {Z : State} (hw : ∀ d ∈ tables_1, d.before a0 Z = true) : ∀ x e, LLcst x = some e → (∀ z, e = .inl z → ∃ v : Int32, (Jvm.Cond.constant "FlowMonitorVML6" x v).before a0 Z = true ∧ v.toInt = z) ∧ (∀ z, e = .inr (.inl z) → ∃ v : Int64, (Jvm.Cond.constantLong "FlowMonitorVML6" x v).before a0 Z = true ∧ v.toInt = z) :=
  tab_all (f := LLcst) 21 [(20, (vi 2147483647))] (fun _ h => cond_ge h) (by decide +kernel) ⟨⟨fun z h => (by cases h; exact ⟨2147483647, hw _ (List.mem_of_getElem? (i := 168) rfl), by decide⟩), fun z h => (by cases h)⟩, trivial⟩
theorem tl_cst {a0 : Array Value} {Z : State} (hw : ∀ d ∈ tables_1, d.before a0 Z = true) : ((∀ x z, lcst LL x = some (.inl z) → ∃ v : Int32, (Jvm.Cond.constant "FlowMonitorVML6" x v).before a0 Z = true ∧ v.toInt = z) ∧ (∀ x z, lcst LL x = some (.inr (.inl z)) → ∃ v : Int64, (Jvm.Cond.constantLong "FlowMonitorVML6" x v).before a0 Z = true ∧ v.toInt = z)) := ⟨fun x z h => (tl_cst0 hw x _ h).1 z rfl, fun x z h => (tl_cst0 hw x _ h).2 z rfl⟩
set_option maxRecDepth 65536 in
set_option maxHeartbeats 8000000 in
theorem tl_vm {a0 : Array Value} {Z : State} (hw : ∀ d ∈ tables_1, d.before a0 Z = true) : ∀ x q, lvm LL x = some q → (Jvm.Cond.methodLink "FlowMonitorVML6" x (nmT q)).before a0 Z = true ∧ (Jvm.Cond.declares (nmT q)).before a0 Z = true ∧ (Jvm.Cond.selects "FlowMonitorVM" (nmT q) (nmT q)).before a0 Z = true :=
  tab_all (f := LLvm) 70 [(12, 2), (16, 3), (21, 32), (25, 22), (29, 33), (33, 14), (36, 18), (39, 19), (42, 23), (51, 13), (54, 15), (57, 16), (60, 20), (63, 21), (66, 30), (69, 41)] (fun _ h => cond_ge h) (by decide +kernel) ⟨⟨hw _ (List.mem_of_getElem? (i := 60) rfl), hw _ (List.mem_of_getElem? (i := 61) rfl), hw _ (List.mem_of_getElem? (i := 63) rfl)⟩, ⟨hw _ (List.mem_of_getElem? (i := 65) rfl), hw _ (List.mem_of_getElem? (i := 66) rfl), hw _ (List.mem_of_getElem? (i := 68) rfl)⟩, ⟨hw _ (List.mem_of_getElem? (i := 211) rfl), hw _ (List.mem_of_getElem? (i := 212) rfl), hw _ (List.mem_of_getElem? (i := 214) rfl)⟩, ⟨hw _ (List.mem_of_getElem? (i := 163) rfl), hw _ (List.mem_of_getElem? (i := 164) rfl), hw _ (List.mem_of_getElem? (i := 166) rfl)⟩, ⟨hw _ (List.mem_of_getElem? (i := 216) rfl), hw _ (List.mem_of_getElem? (i := 217) rfl), hw _ (List.mem_of_getElem? (i := 219) rfl)⟩, ⟨hw _ (List.mem_of_getElem? (i := 118) rfl), hw _ (List.mem_of_getElem? (i := 119) rfl), hw _ (List.mem_of_getElem? (i := 121) rfl)⟩, ⟨hw _ (List.mem_of_getElem? (i := 139) rfl), hw _ (List.mem_of_getElem? (i := 140) rfl), hw _ (List.mem_of_getElem? (i := 142) rfl)⟩, ⟨hw _ (List.mem_of_getElem? (i := 146) rfl), hw _ (List.mem_of_getElem? (i := 147) rfl), hw _ (List.mem_of_getElem? (i := 149) rfl)⟩, ⟨hw _ (List.mem_of_getElem? (i := 169) rfl), hw _ (List.mem_of_getElem? (i := 170) rfl), hw _ (List.mem_of_getElem? (i := 172) rfl)⟩, ⟨hw _ (List.mem_of_getElem? (i := 113) rfl), hw _ (List.mem_of_getElem? (i := 114) rfl), hw _ (List.mem_of_getElem? (i := 116) rfl)⟩, ⟨hw _ (List.mem_of_getElem? (i := 123) rfl), hw _ (List.mem_of_getElem? (i := 124) rfl), hw _ (List.mem_of_getElem? (i := 126) rfl)⟩, ⟨hw _ (List.mem_of_getElem? (i := 130) rfl), hw _ (List.mem_of_getElem? (i := 131) rfl), hw _ (List.mem_of_getElem? (i := 133) rfl)⟩, ⟨hw _ (List.mem_of_getElem? (i := 153) rfl), hw _ (List.mem_of_getElem? (i := 154) rfl), hw _ (List.mem_of_getElem? (i := 156) rfl)⟩, ⟨hw _ (List.mem_of_getElem? (i := 158) rfl), hw _ (List.mem_of_getElem? (i := 159) rfl), hw _ (List.mem_of_getElem? (i := 161) rfl)⟩, ⟨hw _ (List.mem_of_getElem? (i := 202) rfl), hw _ (List.mem_of_getElem? (i := 203) rfl), hw _ (List.mem_of_getElem? (i := 205) rfl)⟩, ⟨hw _ (List.mem_of_getElem? (i := 249) rfl), hw _ (List.mem_of_getElem? (i := 250) rfl), hw _ (List.mem_of_getElem? (i := 252) rfl)⟩, trivial⟩
set_option maxRecDepth 65536 in
set_option maxHeartbeats 8000000 in
theorem tl_sm {a0 : Array Value} {Z : State} (hw : ∀ d ∈ tables_1, d.before a0 Z = true) : ∀ x q, lsm LL x = some q → (Jvm.Cond.methodLink "FlowMonitorVML6" x (lnmT q)).before a0 Z = true :=
  tab_all (f := LLsm) 46 [(45, 1)] (fun _ h => cond_ge h) (by decide +kernel) ⟨hw _ (List.mem_of_getElem? (i := 109) rfl), trivial⟩
set_option maxRecDepth 65536 in
set_option maxHeartbeats 8000000 in
theorem tl_inf {a0 : Array Value} {Z : State} (hw : ∀ d ∈ tables_1, d.before a0 Z = true) : ∀ q ps ml rk fr lc, linf LL q = some (ps, ml, rk, fr, lc) → q ≠ 0 → (lnmT q).cls = "FlowMonitorVML6" ∧ (Jvm.Cond.static (lnmT q)).before a0 Z = true ∧ (Jvm.Cond.initialized "FlowMonitorVML6").before a0 Z = true ∧ (Jvm.Cond.code (lnmT q) (lbyT q) ml (rty rk)).before a0 Z = true ∧ ∃ params, parseMethodDescriptor (lnmT q).desc = some ⟨params, rty rk⟩ ∧ params.length = ps.length := fun q ps ml rk fr lc h =>
  tab_all (f := LLinf) 2 [(0, ([2], 20, 2, 6, 96)), (1, ([1, 0, 2], 14, 2, 2, 24))] (fun _ h => cond_ge h) (by decide +kernel) (Q := fun q e => q ≠ 0 → (lnmT q).cls = "FlowMonitorVML6" ∧ (Jvm.Cond.static (lnmT q)).before a0 Z = true ∧ (Jvm.Cond.initialized "FlowMonitorVML6").before a0 Z = true ∧ (Jvm.Cond.code (lnmT q) (lbyT q) e.2.1 (rty e.2.2.1)).before a0 Z = true ∧ ∃ params, parseMethodDescriptor (lnmT q).desc = some ⟨params, rty e.2.2.1⟩ ∧ params.length = e.1.length) ⟨fun h => absurd rfl h, fun _ => ⟨rfl, hw _ (List.mem_of_getElem? (i := 110) rfl), hw _ (List.mem_of_getElem? (i := 111) rfl), hw _ (List.mem_of_getElem? (i := 112) rfl), [.object "FlowMonitorVM", .int, .long], by decide +kernel, rfl⟩, trivial⟩ q _ h
theorem tabL {a0 : Array Value} {Z : State} (hw : ∀ d ∈ tables_1, d.before a0 Z = true) : TabL PP LL "FlowMonitorVM" "FlowMonitorVML6" nmT lnmT lbyT a0 Z :=
  ⟨tl_code, tl_cst hw, tl_vm hw, fun x h => by cases Nat.eq_of_beq_eq_true h; exact hw _ (List.mem_of_getElem? (i := 3) rfl), tl_sm hw, fun x h => by cases Nat.eq_of_beq_eq_true h; exact hw _ (List.mem_of_getElem? (i := 0) rfl), tl_inf hw, by first | (simp [plainName, overriddenIn]; done) | decide +kernel, by decide⟩
theorem u_f_clamp {x1 : Int} {m : OMem} {Q : (Int) → Prop} (h : Ok ((if x1 < 8 then (some 8) else (if 32 < x1 then (some 32) else (some x1))) : Option (Int)) Q) : Ok (f_clamp x1 m) Q := h
theorem u_f_init {x1 x2 : Int} {m : OMem} {Q : (OMem) → Prop} (h : Ok (((f_clamp x1 m).bind fun r_1 => ((f_clamp x2 (sto m 0 18 r_1)).bind fun r_2 => (some (sto (sto (sto (sto m 0 18 r_1) 0 19 r_2) 0 20 0) 0 21 0)))) : Option (OMem)) Q) : Ok (f_init x1 x2 m) Q := h
theorem u_f_status {m : OMem} {Q : (Int) → Prop} (h : Ok ((some (m 0 20)) : Option (Int)) Q) : Ok (f_status m) Q := h
theorem u_f_target_b14 {m : OMem} {Q : (Int) → Prop} (h : Ok ((some (m 0 22)) : Option (Int)) Q) : Ok (f_target_b14 m) Q := h
theorem u_f_target {x1 : Int} {m : OMem} {Q : (Int) → Prop} (h : Ok ((if x1 < 0 then (f_target_b14 m) else (if x1 < m 0 22 then (some x1) else (f_target_b14 m))) : Option (Int)) Q) : Ok (f_target x1 m) Q := h
theorem u_f_succFirst_b12 {m : OMem} {Q : (Int) → Prop} (h : Ok ((some (-1)) : Option (Int)) Q) : Ok (f_succFirst_b12 m) Q := h
theorem u_f_succFirst {x1 : Int} {m : OMem} {Q : (Int) → Prop} (h : Ok ((if x1 < 0 then (f_succFirst_b12 m) else (if x1 < m 0 22 then (if 0 ≤ x1 ∧ x1 < 32 then (if m 1 x1 = 0 then (some (m 0 22)) else (if m 1 x1 = 10 then (if 0 ≤ x1 ∧ x1 < 32 then ((f_target (m 2 x1) m).bind fun r_4 => (some r_4)) else none) else (if m 1 x1 = 11 then (if 0 ≤ x1 ∧ x1 < 32 then ((f_target (m 3 x1) m).bind fun r_5 => (some r_5)) else none) else (some (w32 (x1 + 1)))))) else none) else (f_succFirst_b12 m))) : Option (Int)) Q) : Ok (f_succFirst x1 m) Q := h
theorem u_f_succSecond_b12 {m : OMem} {Q : (Int) → Prop} (h : Ok ((some (-1)) : Option (Int)) Q) : Ok (f_succSecond_b12 m) Q := h
theorem u_f_succSecond {x1 : Int} {m : OMem} {Q : (Int) → Prop} (h : Ok ((if x1 < 0 then (f_succSecond_b12 m) else (if x1 < m 0 22 then (if 0 ≤ x1 ∧ x1 < 32 then (if m 1 x1 = 11 then (some (w32 (x1 + 1))) else (some (-1))) else none) else (f_succSecond_b12 m))) : Option (Int)) Q) : Ok (f_succSecond x1 m) Q := h
theorem u_f_succReaches_b61 {s0 : Int} {m : OMem} {Q : (Int) → Prop} (h : Ok ((some (s0 % 2)) : Option (Int)) Q) : Ok (f_succReaches_b61 s0 m) Q := h
theorem u_f_succReaches_b60 {m : OMem} {Q : (Int) → Prop} (h : Ok ((f_succReaches_b61 0 m) : Option (Int)) Q) : Ok (f_succReaches_b60 m) Q := h
theorem u_f_succReaches_b35 {x3 : Int} {m : OMem} {Q : (Int) → Prop} (h : Ok ((if x3 < 0 then (f_succReaches_b60 m) else (if m 0 22 < x3 then (f_succReaches_b60 m) else (if 0 ≤ x3 ∧ x3 < 33 then (if m 17 x3 = 0 then (f_succReaches_b60 m) else (f_succReaches_b61 1 m)) else none))) : Option (Int)) Q) : Ok (f_succReaches_b35 x3 m) Q := h
theorem u_f_succReaches {x1 : Int} {m : OMem} {Q : (Int) → Prop} (h : Ok (((f_succFirst x1 m).bind fun r_6 => ((f_succSecond x1 m).bind fun r_7 => (if r_6 < 0 then (f_succReaches_b35 r_7 m) else (if m 0 22 < r_6 then (f_succReaches_b35 r_7 m) else (if 0 ≤ r_6 ∧ r_6 < 33 then (if m 17 r_6 = 0 then (f_succReaches_b35 r_7 m) else (some 1)) else none))))) : Option (Int)) Q) : Ok (f_succReaches x1 m) Q := h
theorem u_f_computeReach_b28 {x1 s1 s2 : Int} {m : OMem} {Q : ((Int × OMem) ⊕ ((OMem))) → Prop} (h : Ok ((if 0 ≤ s1 ∧ s1 < 33 then (some (.inl (w32 (x1 + 1), sto m 17 s1 (s2 % 2)))) else none) : Option ((Int × OMem) ⊕ ((OMem)))) Q) : Ok (f_computeReach_b28 x1 s1 s2 m) Q := h
theorem u_f_computeReach_l2  {x1 : Int} {m : OMem} {Q : ((Int × OMem) ⊕ ((OMem))) → Prop} (h : Ok ((if m 0 22 < x1 then (some (.inr m)) else (if x1 = m 0 22 then (f_computeReach_b28 x1 x1 1 m) else (f_computeReach_b28 x1 x1 0 m))) : Option ((Int × OMem) ⊕ ((OMem)))) Q) : Ok (f_computeReach_l2 (x1, m)) Q := h
theorem u_f_computeReach_b82 {x1 x2 x3 : Int} {m : OMem} {Q : ((Int × Int × OMem) ⊕ ((Int × OMem))) → Prop} (h : Ok ((some (.inl (x2, w32 (x3 + (-1)), m))) : Option ((Int × Int × OMem) ⊕ ((Int × OMem)))) Q) : Ok (f_computeReach_b82 x1 x2 x3 m) Q := h
theorem u_f_computeReach_l52 {x1 : Int} {x2 : Int} {x3 : Int} {m : OMem} {Q : ((Int × Int × OMem) ⊕ ((Int × OMem))) → Prop} (h : Ok ((if x3 < 0 then (some (.inr (x2, m))) else (if 0 ≤ x3 ∧ x3 < 33 then (if m 17 x3 = 0 then ((f_succReaches x3 m).bind fun r_8 => (if r_8 = 0 then (f_computeReach_b82 x1 x2 x3 m) else (if 0 ≤ x3 ∧ x3 < 33 then (f_computeReach_b82 x1 1 x3 (sto m 17 x3 1)) else none))) else (f_computeReach_b82 x1 x2 x3 m)) else none)) : Option ((Int × Int × OMem) ⊕ ((Int × OMem)))) Q) : Ok (f_computeReach_l52 x1 (x2, x3, m)) Q := h
theorem u_f_computeReach_l37  {x1 : Int} {m : OMem} {Q : ((Int × OMem) ⊕ ((OMem) ⊕ (OMem))) → Prop} (h : Ok ((if x1 < 40 then ((lp (f_computeReach_l52 x1) NN (0, w32 ((m 0 22) - 1), m)).bind fun (x2_9, m_10) => (if x2_9 = 0 then (some (.inr (.inl m_10))) else (some (.inl (w32 (x1 + 1), m_10))))) else (some (.inr (.inr m)))) : Option ((Int × OMem) ⊕ ((OMem) ⊕ (OMem)))) Q) : Ok (f_computeReach_l37 (x1, m)) Q := h
theorem u_f_computeReach_b101 {m : OMem} {Q : (OMem) → Prop} (h : Ok ((some m) : Option (OMem)) Q) : Ok (f_computeReach_b101 m) Q := h
theorem u_f_computeReach {m : OMem} {Q : (OMem) → Prop} (h : Ok (((lp (f_computeReach_l2 ) NN (0, m)).bind fun m_3 => ((lp (f_computeReach_l37 ) NN (0, m_3)).bind fun e => match e with | (.inl m_11) => (f_computeReach_b101 m_11) | (.inr m_12) => (f_computeReach_b101 m_12))) : Option (OMem)) Q) : Ok (f_computeReach m) Q := h
theorem u_f_allMask {m : OMem} {Q : (Int) → Prop} (h : Ok ((some (w64 ((shl64 1 (w32 ((m 0 22) + 1))) - 1))) : Option (Int)) Q) : Ok (f_allMask m) Q := h
theorem u_f_meetSucc_b87 {x2 : Int} {m : OMem} {Q : (Int) → Prop} (h : Ok ((some x2) : Option (Int)) Q) : Ok (f_meetSucc_b87 x2 m) Q := h
theorem u_f_meetSucc_b53 {x2 x5 : Int} {m : OMem} {Q : (Int) → Prop} (h : Ok ((if x5 < 0 then (f_meetSucc_b87 x2 m) else (if m 0 22 < x5 then (f_meetSucc_b87 x2 m) else (if 0 ≤ x5 ∧ x5 < 33 then (if m 17 x5 = 0 then (f_meetSucc_b87 x2 m) else (if 0 ≤ x5 ∧ x5 < 33 then (f_meetSucc_b87 (and64 x2 (m 18 x5)) m) else none)) else none))) : Option (Int)) Q) : Ok (f_meetSucc_b53 x2 x5 m) Q := h
theorem u_f_meetSucc {x1 : Int} {m : OMem} {Q : (Int) → Prop} (h : Ok (((f_allMask m).bind fun r_16 => ((f_succFirst x1 m).bind fun r_17 => ((f_succSecond x1 m).bind fun r_18 => (if r_17 < 0 then (f_meetSucc_b53 r_16 r_18 m) else (if m 0 22 < r_17 then (f_meetSucc_b53 r_16 r_18 m) else (if 0 ≤ r_17 ∧ r_17 < 33 then (if m 17 r_17 = 0 then (f_meetSucc_b53 r_16 r_18 m) else (if 0 ≤ r_17 ∧ r_17 < 33 then (f_meetSucc_b53 (and64 r_16 (m 18 r_17)) r_18 m) else none)) else none)))))) : Option (Int)) Q) : Ok (f_meetSucc x1 m) Q := h
theorem u_f_computePdom_b34 {x1 x3 s1 s2 : Int} {m : OMem} {Q : ((Int × OMem) ⊕ ((OMem))) → Prop} (h : Ok ((if 0 ≤ s1 ∧ s1 < 33 then (some (.inl (w32 (x3 + 1), sto m 18 s1 s2))) else none) : Option ((Int × OMem) ⊕ ((OMem)))) Q) : Ok (f_computePdom_b34 x1 x3 s1 s2 m) Q := h
theorem u_f_computePdom_l7 {x1 : Int} {x3 : Int} {m : OMem} {Q : ((Int × OMem) ⊕ ((OMem))) → Prop} (h : Ok ((if x3 < m 0 22 then (if 0 ≤ x3 ∧ x3 < 33 then (if m 17 x3 = 0 then (f_computePdom_b34 x1 x3 x3 0 m) else (f_computePdom_b34 x1 x3 x3 x1 m)) else none) else (some (.inr m))) : Option ((Int × OMem) ⊕ ((OMem)))) Q) : Ok (f_computePdom_l7 x1 (x3, m)) Q := h
theorem u_f_computePdom_b129 {x3 x4 x5 : Int} {m : OMem} {Q : ((Int × Int × OMem) ⊕ ((Int × OMem))) → Prop} (h : Ok ((some (.inl (x4, w32 (x5 + (-1)), m))) : Option ((Int × Int × OMem) ⊕ ((Int × OMem)))) Q) : Ok (f_computePdom_b129 x3 x4 x5 m) Q := h
theorem u_f_computePdom_l76 {x3 : Int} {x4 : Int} {x5 : Int} {m : OMem} {Q : ((Int × Int × OMem) ⊕ ((Int × OMem))) → Prop} (h : Ok ((if x5 < 0 then (some (.inr (x4, m))) else (if 0 ≤ x5 ∧ x5 < 33 then (if m 17 x5 = 0 then (f_computePdom_b129 x3 x4 x5 m) else ((f_meetSucc x5 m).bind fun r_19 => (if 0 ≤ x5 ∧ x5 < 33 then (if lcm (or64 (shl64 1 x5) r_19) (m 18 x5) = 0 then (f_computePdom_b129 x3 x4 x5 m) else (if 0 ≤ x5 ∧ x5 < 33 then (f_computePdom_b129 x3 1 x5 (sto m 18 x5 (or64 (shl64 1 x5) r_19))) else none)) else none))) else none)) : Option ((Int × Int × OMem) ⊕ ((Int × OMem)))) Q) : Ok (f_computePdom_l76 x3 (x4, x5, m)) Q := h
theorem u_f_computePdom_l58  {x3 : Int} {m : OMem} {Q : ((Int × OMem) ⊕ ((OMem) ⊕ (OMem))) → Prop} (h : Ok ((if x3 < 1200 then ((lp (f_computePdom_l76 x3) NN (0, w32 ((m 0 22) - 1), m)).bind fun (x4_20, m_21) => (if x4_20 = 0 then (some (.inr (.inl m_21))) else (some (.inl (w32 (x3 + 1), m_21))))) else (some (.inr (.inr m)))) : Option ((Int × OMem) ⊕ ((OMem) ⊕ (OMem)))) Q) : Ok (f_computePdom_l58 (x3, m)) Q := h
theorem u_f_computePdom_b149 {m : OMem} {Q : (OMem) → Prop} (h : Ok ((some m) : Option (OMem)) Q) : Ok (f_computePdom_b149 m) Q := h
theorem u_f_computePdom {m : OMem} {Q : (OMem) → Prop} (h : Ok (((f_allMask m).bind fun r_14 => ((lp (f_computePdom_l7 r_14) NN (0, m)).bind fun m_15 => (if 0 ≤ m_15 0 22 ∧ m_15 0 22 < 33 then ((lp (f_computePdom_l58 ) NN (0, sto m_15 18 (m_15 0 22) (shl64 1 (m_15 0 22)))).bind fun e => match e with | (.inl m_22) => (f_computePdom_b149 m_22) | (.inr m_23) => (f_computePdom_b149 m_23)) else none))) : Option (OMem)) Q) : Ok (f_computePdom m) Q := h
theorem u_f_pickJoin_b67 {x2 x4 : Int} {m : OMem} {Q : ((Int) ⊕ ((Int) ⊕ (Unit))) → Prop} (h : Ok ((some (.inl (w32 (x4 + 1)))) : Option ((Int) ⊕ ((Int) ⊕ (Unit)))) Q) : Ok (f_pickJoin_b67 x2 x4 m) Q := h
theorem u_f_pickJoin_l32 {m : OMem} {x2 : Int} {x4 : Int} {Q : ((Int) ⊕ ((Int) ⊕ (Unit))) → Prop} (h : Ok ((if m 0 22 < x4 then (some (.inr (.inr ()))) else (if lcm (and64 (ushr64 x2 x4) 1) 0 = 0 then (f_pickJoin_b67 x2 x4 m) else (if 0 ≤ x4 ∧ x4 < 33 then (if lcm (m 18 x4) x2 = 0 then (some (.inr (.inl x4))) else (f_pickJoin_b67 x2 x4 m)) else none))) : Option ((Int) ⊕ ((Int) ⊕ (Unit)))) Q) : Ok (f_pickJoin_l32 m x2 x4) Q := h
theorem u_f_pickJoin {x1 : Int} {m : OMem} {Q : (Int) → Prop} (h : Ok ((if 0 ≤ x1 ∧ x1 < 33 then (if m 17 x1 = 0 then (some (m 0 22)) else (if 0 ≤ x1 ∧ x1 < 33 then ((lp (f_pickJoin_l32 m (and64 (m 18 x1) (xor64 (shl64 1 x1) (-1)))) NN 0).bind fun e => match e with | (.inl x4_25) => (some x4_25) | (.inr _) => (some (m 0 22))) else none)) else none) : Option (Int)) Q) : Ok (f_pickJoin x1 m) Q := h
theorem u_f_computeJoins_l10  {x1 : Int} {m : OMem} {Q : ((Int × OMem) ⊕ ((OMem))) → Prop} (h : Ok ((if x1 < m 0 22 then ((f_pickJoin x1 m).bind fun r_26 => (if 0 ≤ x1 ∧ x1 < 32 then (some (.inl (w32 (x1 + 1), sto m 16 x1 r_26))) else none)) else (some (.inr m))) : Option ((Int × OMem) ⊕ ((OMem)))) Q) : Ok (f_computeJoins_l10 (x1, m)) Q := h
theorem u_f_computeJoins {m : OMem} {Q : (OMem) → Prop} (h : Ok (((f_computeReach m).bind fun m_13 => ((f_computePdom m_13).bind fun m_24 => ((lp (f_computeJoins_l10 ) NN (0, m_24)).bind fun m_27 => (some m_27)))) : Option (OMem)) Q) : Ok (f_computeJoins m) Q := h
theorem u_f_addInstr_b32 {m : OMem} {Q : (Int × OMem) → Prop} (h : Ok ((some (0, m)) : Option (Int × OMem)) Q) : Ok (f_addInstr_b32 m) Q := h
theorem u_f_addInstr {x1 x2 x3 x4 : Int} {m : OMem} {Q : (Int × OMem) → Prop} (h : Ok ((if m 0 20 = 0 then (if m 0 22 = m 0 18 then (some (0, m)) else (if x1 < 0 then (f_addInstr_b32 m) else (if x1 < 15 then (if 0 ≤ m 0 22 ∧ m 0 22 < 32 then (if 0 ≤ m 0 22 ∧ m 0 22 < 32 then (if 0 ≤ m 0 22 ∧ m 0 22 < 32 then (if 0 ≤ m 0 22 ∧ m 0 22 < 32 then ((f_computeJoins (sto (sto (sto (sto (sto m 1 (m 0 22) x1) 2 (m 0 22) x2) 3 (m 0 22) x3) 4 (m 0 22) x4) 0 22 (w32 ((m 0 22) + 1)))).bind fun m_28 => (some (1, m_28))) else none) else none) else none) else none) else (f_addInstr_b32 m)))) else (some (0, m))) : Option (Int × OMem)) Q) : Ok (f_addInstr x1 x2 x3 x4 m) Q := h
theorem u_f_stopKind_b16 {s0 : Int} {m : OMem} {Q : (Int) → Prop} (h : Ok ((some s0) : Option (Int)) Q) : Ok (f_stopKind_b16 s0 m) Q := h
theorem u_f_stopKind {m : OMem} {Q : (Int) → Prop} (h : Ok ((if m 0 20 = 3 then (f_stopKind_b16 (m 0 21) m) else (f_stopKind_b16 0 m)) : Option (Int)) Q) : Ok (f_stopKind m) Q := h
theorem u_f_pc_b15 {s0 : Int} {m : OMem} {Q : (Int) → Prop} (h : Ok ((some s0) : Option (Int)) Q) : Ok (f_pc_b15 s0 m) Q := h
theorem u_f_pc {m : OMem} {Q : (Int) → Prop} (h : Ok ((if m 0 20 = 0 then (f_pc_b15 0 m) else (f_pc_b15 (m 0 23) m)) : Option (Int)) Q) : Ok (f_pc m) Q := h
theorem u_f_depth {m : OMem} {Q : (Int) → Prop} (h : Ok ((some (m 0 24)) : Option (Int)) Q) : Ok (f_depth m) Q := h
theorem u_f_curLabel {m : OMem} {Q : (Int) → Prop} (h : Ok ((if 0 < m 0 24 then (if 0 ≤ w32 ((m 0 24) - 1) ∧ w32 ((m 0 24) - 1) < 16 then (some (m 9 (w32 ((m 0 24) - 1)))) else none) else (some 0)) : Option (Int)) Q) : Ok (f_curLabel m) Q := h
theorem u_f_pcLabel {m : OMem} {Q : (Int) → Prop} (h : Ok (((f_curLabel m).bind fun r_29 => (some r_29)) : Option (Int)) Q) : Ok (f_pcLabel m) Q := h
theorem u_f_outCount {m : OMem} {Q : (Int) → Prop} (h : Ok ((some (m 0 25)) : Option (Int)) Q) : Ok (f_outCount m) Q := h
theorem u_f_auditCount {m : OMem} {Q : (Int) → Prop} (h : Ok ((some (m 0 26)) : Option (Int)) Q) : Ok (f_auditCount m) Q := h
theorem u_f_join_b12 {m : OMem} {Q : (Int) → Prop} (h : Ok ((some (-1)) : Option (Int)) Q) : Ok (f_join_b12 m) Q := h
theorem u_f_join {x1 : Int} {m : OMem} {Q : (Int) → Prop} (h : Ok ((if x1 < 0 then (f_join_b12 m) else (if x1 < m 0 22 then (if 0 ≤ x1 ∧ x1 < 32 then (some (m 16 x1)) else none) else (f_join_b12 m))) : Option (Int)) Q) : Ok (f_join x1 m) Q := h
theorem u_f_reg_b10 {m : OMem} {Q : (Int) → Prop} (h : Ok ((some 0) : Option (Int)) Q) : Ok (f_reg_b10 m) Q := h
theorem u_f_reg {x1 : Int} {m : OMem} {Q : (Int) → Prop} (h : Ok ((if x1 < 0 then (f_reg_b10 m) else (if x1 < 8 then (if 0 ≤ x1 ∧ x1 < 8 then (some (m 5 x1)) else none) else (f_reg_b10 m))) : Option (Int)) Q) : Ok (f_reg x1 m) Q := h
theorem u_f_labelOf_b14 {m : OMem} {Q : (Int) → Prop} (h : Ok ((some (-1)) : Option (Int)) Q) : Ok (f_labelOf_b14 m) Q := h
theorem u_f_labelOf_b40 {m : OMem} {Q : (Int) → Prop} (h : Ok ((some (-1)) : Option (Int)) Q) : Ok (f_labelOf_b40 m) Q := h
theorem u_f_labelOf {x1 x2 : Int} {m : OMem} {Q : (Int) → Prop} (h : Ok ((if x1 = 0 then (if x2 < 0 then (f_labelOf_b14 m) else (if x2 < 8 then (if 0 ≤ x2 ∧ x2 < 8 then (some (m 6 x2)) else none) else (f_labelOf_b14 m))) else (if x1 = 1 then (if x2 < 0 then (f_labelOf_b40 m) else (if x2 < m 0 19 then (if 0 ≤ x2 ∧ x2 < 32 then (some (m 8 x2)) else none) else (f_labelOf_b40 m))) else (some (-1)))) : Option (Int)) Q) : Ok (f_labelOf x1 x2 m) Q := h
theorem u_f_flows_b12 {s0 : Int} {m : OMem} {Q : (Int) → Prop} (h : Ok ((some (s0 % 2)) : Option (Int)) Q) : Ok (f_flows_b12 s0 m) Q := h
theorem u_f_flows {x1 x2 : Int} {m : OMem} {Q : (Int) → Prop} (h : Ok ((if or32 x1 x2 = x2 then (f_flows_b12 1 m) else (f_flows_b12 0 m)) : Option (Int)) Q) : Ok (f_flows x1 x2 m) Q := h
theorem u_f_writeReg {x1 x2 x3 : Int} {m : OMem} {Q : (Int × OMem) → Prop} (h : Ok (((f_curLabel m).bind fun r_31 => (if 0 ≤ and32 x1 7 ∧ and32 x1 7 < 8 then ((f_flows r_31 (m 6 (and32 x1 7)) m).bind fun r_32 => (if r_32 = 0 then (some (1, m)) else (if 0 ≤ and32 x1 7 ∧ and32 x1 7 < 8 then (if 0 ≤ and32 x1 7 ∧ and32 x1 7 < 8 then (some (0, sto (sto m 5 (and32 x1 7) x2) 6 (and32 x1 7) (or32 r_31 x3))) else none) else none))) else none)) : Option (Int × OMem)) Q) : Ok (f_writeReg x1 x2 x3 m) Q := h
theorem u_f_execArith_b136 {x1 x7 x8 : Int} {m : OMem} {Q : (Int × OMem) → Prop} (h : Ok ((if 0 ≤ x1 ∧ x1 < 32 then ((f_writeReg (m 2 x1) x8 x7 m).bind fun (r_33, m_34) => (some (r_33, m_34))) else none) : Option (Int × OMem)) Q) : Ok (f_execArith_b136 x1 x7 x8 m) Q := h
theorem u_f_execArith_b117 {x1 x7 s0 : Int} {m : OMem} {Q : (Int × OMem) → Prop} (h : Ok ((f_execArith_b136 x1 x7 s0 m) : Option (Int × OMem)) Q) : Ok (f_execArith_b117 x1 x7 s0 m) Q := h
theorem u_f_execArith_b134 {x1 x7 s0 : Int} {m : OMem} {Q : (Int × OMem) → Prop} (h : Ok ((f_execArith_b136 x1 x7 s0 m) : Option (Int × OMem)) Q) : Ok (f_execArith_b134 x1 x7 s0 m) Q := h
theorem u_f_execArith {x1 x2 : Int} {m : OMem} {Q : (Int × OMem) → Prop} (h : Ok ((if 0 ≤ x1 ∧ x1 < 32 then (if 0 ≤ x1 ∧ x1 < 32 then (if 0 ≤ and32 (m 3 x1) 7 ∧ and32 (m 3 x1) 7 < 8 then (if 0 ≤ and32 (m 4 x1) 7 ∧ and32 (m 4 x1) 7 < 8 then (if 0 ≤ and32 (m 3 x1) 7 ∧ and32 (m 3 x1) 7 < 8 then (if 0 ≤ and32 (m 4 x1) 7 ∧ and32 (m 4 x1) 7 < 8 then (if x2 = 3 then (f_execArith_b136 x1 (or32 (m 6 (and32 (m 3 x1) 7)) (m 6 (and32 (m 4 x1) 7))) (w32 ((m 5 (and32 (m 3 x1) 7)) + (m 5 (and32 (m 4 x1) 7)))) m) else (if x2 = 4 then (f_execArith_b136 x1 (or32 (m 6 (and32 (m 3 x1) 7)) (m 6 (and32 (m 4 x1) 7))) (w32 ((m 5 (and32 (m 3 x1) 7)) - (m 5 (and32 (m 4 x1) 7)))) m) else (if x2 = 5 then (f_execArith_b136 x1 (or32 (m 6 (and32 (m 3 x1) 7)) (m 6 (and32 (m 4 x1) 7))) (w32 ((m 5 (and32 (m 3 x1) 7)) * (m 5 (and32 (m 4 x1) 7)))) m) else (if x2 = 6 then (if m 5 (and32 (m 3 x1) 7) < m 5 (and32 (m 4 x1) 7) then (f_execArith_b117 x1 (or32 (m 6 (and32 (m 3 x1) 7)) (m 6 (and32 (m 4 x1) 7))) 1 m) else (f_execArith_b117 x1 (or32 (m 6 (and32 (m 3 x1) 7)) (m 6 (and32 (m 4 x1) 7))) 0 m)) else (if m 5 (and32 (m 3 x1) 7) = m 5 (and32 (m 4 x1) 7) then (f_execArith_b134 x1 (or32 (m 6 (and32 (m 3 x1) 7)) (m 6 (and32 (m 4 x1) 7))) 1 m) else (f_execArith_b134 x1 (or32 (m 6 (and32 (m 3 x1) 7)) (m 6 (and32 (m 4 x1) 7))) 0 m)))))) else none) else none) else none) else none) else none) else none) : Option (Int × OMem)) Q) : Ok (f_execArith x1 x2 m) Q := h
theorem u_f_execDeclass {x1 : Int} {m : OMem} {Q : (Int × OMem) → Prop} (h : Ok ((if 0 ≤ x1 ∧ x1 < 32 then ((f_curLabel m).bind fun r_37 => (if r_37 = 0 then (if m 0 26 < 16 then (if 0 ≤ x1 ∧ x1 < 32 then (if 0 ≤ x1 ∧ x1 < 32 then (if 0 ≤ and32 (m 3 x1) 7 ∧ and32 (m 3 x1) 7 < 8 then (if 0 ≤ m 0 26 ∧ m 0 26 < 16 then (if 0 ≤ and32 (m 3 x1) 7 ∧ and32 (m 3 x1) 7 < 8 then (if 0 ≤ m 0 26 ∧ m 0 26 < 16 then (if 0 ≤ m 0 26 ∧ m 0 26 < 16 then (if 0 ≤ and32 (m 2 x1) 7 ∧ and32 (m 2 x1) 7 < 8 then (if 0 ≤ and32 (m 2 x1) 7 ∧ and32 (m 2 x1) 7 < 8 then (some (0, sto (sto (sto (sto (sto (sto m 13 (m 0 26) x1) 14 (m 0 26) (m 6 (and32 (m 3 x1) 7))) 15 (m 0 26) (and32 (m 4 x1) 3)) 0 26 (w32 ((m 0 26) + 1))) 5 (and32 (m 2 x1) 7) (m 5 (and32 (m 3 x1) 7))) 6 (and32 (m 2 x1) 7) (and32 (m 4 x1) 3))) else none) else none) else none) else none) else none) else none) else none) else none) else none) else (some (5, m))) else (some (3, m)))) else none) : Option (Int × OMem)) Q) : Ok (f_execDeclass x1 m) Q := h
theorem u_f_execRaise {x1 : Int} {m : OMem} {Q : (Int × OMem) → Prop} (h : Ok ((if 0 ≤ x1 ∧ x1 < 32 then (if 0 ≤ and32 (m 2 x1) 7 ∧ and32 (m 2 x1) 7 < 8 then (if 0 ≤ x1 ∧ x1 < 32 then ((f_curLabel m).bind fun r_40 => (if 0 ≤ and32 (m 2 x1) 7 ∧ and32 (m 2 x1) 7 < 8 then (some (0, sto m 6 (and32 (m 2 x1) 7) (or32 (or32 (m 6 (and32 (m 2 x1) 7)) (and32 (m 3 x1) 3)) r_40))) else none)) else none) else none) else none) : Option (Int × OMem)) Q) : Ok (f_execRaise x1 m) Q := h
theorem u_f_execOut {x1 : Int} {m : OMem} {Q : (Int × OMem) → Prop} (h : Ok ((if 0 ≤ x1 ∧ x1 < 32 then (if 0 ≤ x1 ∧ x1 < 32 then ((f_curLabel m).bind fun r_43 => (if 0 ≤ and32 (m 3 x1) 7 ∧ and32 (m 3 x1) 7 < 8 then ((f_flows (or32 r_43 (m 6 (and32 (m 3 x1) 7))) (and32 (m 2 x1) 3) m).bind fun r_44 => (if r_44 = 0 then (some (2, m)) else (if m 0 25 < 32 then (if 0 ≤ m 0 25 ∧ m 0 25 < 32 then (if 0 ≤ and32 (m 3 x1) 7 ∧ and32 (m 3 x1) 7 < 8 then (if 0 ≤ m 0 25 ∧ m 0 25 < 32 then (some (0, sto (sto (sto m 11 (m 0 25) (and32 (m 2 x1) 3)) 12 (m 0 25) (m 5 (and32 (m 3 x1) 7))) 0 25 (w32 ((m 0 25) + 1)))) else none) else none) else none) else (some (5, m))))) else none)) else none) else none) : Option (Int × OMem)) Q) : Ok (f_execOut x1 m) Q := h
theorem u_f_execBranch_b155 {m : OMem} {Q : (Int × OMem) → Prop} (h : Ok ((some (0, m)) : Option (Int × OMem)) Q) : Ok (f_execBranch_b155 m) Q := h
theorem u_f_execBranch_b122 {x1 x2 : Int} {m : OMem} {Q : (Int × OMem) → Prop} (h : Ok ((if 0 ≤ x2 ∧ x2 < 8 then (if m 5 x2 = 0 then (f_execBranch_b155 (sto m 0 27 (w32 (x1 + 1)))) else (if 0 ≤ x1 ∧ x1 < 32 then ((f_target (m 3 x1) m).bind fun r_48 => (f_execBranch_b155 (sto m 0 27 r_48))) else none)) else none) : Option (Int × OMem)) Q) : Ok (f_execBranch_b122 x1 x2 m) Q := h
theorem u_f_execBranch_b80 {x1 x2 x3 x4 : Int} {m : OMem} {Q : (Int × OMem) → Prop} (h : Ok ((if m 0 24 < 16 then (if 0 ≤ m 0 24 ∧ m 0 24 < 16 then (if 0 ≤ m 0 24 ∧ m 0 24 < 16 then (f_execBranch_b122 x1 x2 (sto (sto (sto m 9 (m 0 24) x3) 10 (m 0 24) x4) 0 24 (w32 ((m 0 24) + 1)))) else none) else none) else (some (4, m))) : Option (Int × OMem)) Q) : Ok (f_execBranch_b80 x1 x2 x3 x4 m) Q := h
theorem u_f_execBranch {x1 : Int} {m : OMem} {Q : (Int × OMem) → Prop} (h : Ok ((if 0 ≤ x1 ∧ x1 < 32 then ((f_curLabel m).bind fun r_47 => (if 0 ≤ and32 (m 2 x1) 7 ∧ and32 (m 2 x1) 7 < 8 then (if 0 ≤ x1 ∧ x1 < 32 then (if 0 < m 0 24 then (if 0 ≤ w32 ((m 0 24) - 1) ∧ w32 ((m 0 24) - 1) < 16 then (if m 10 (w32 ((m 0 24) - 1)) = m 16 x1 then (if 0 ≤ w32 ((m 0 24) - 1) ∧ w32 ((m 0 24) - 1) < 16 then (if 0 ≤ w32 ((m 0 24) - 1) ∧ w32 ((m 0 24) - 1) < 16 then (f_execBranch_b122 x1 (and32 (m 2 x1) 7) (sto m 9 (w32 ((m 0 24) - 1)) (or32 (m 9 (w32 ((m 0 24) - 1))) (or32 r_47 (m 6 (and32 (m 2 x1) 7)))))) else none) else none) else (f_execBranch_b80 x1 (and32 (m 2 x1) 7) (or32 r_47 (m 6 (and32 (m 2 x1) 7))) (m 16 x1) m)) else none) else (f_execBranch_b80 x1 (and32 (m 2 x1) 7) (or32 r_47 (m 6 (and32 (m 2 x1) 7))) (m 16 x1) m)) else none) else none)) else none) : Option (Int × OMem)) Q) : Ok (f_execBranch x1 m) Q := h
theorem u_f_idx {x1 : Int} {m : OMem} {Q : (Int) → Prop} (h : Ok ((if (m 0 19) = 0 then none else (if (m 0 19) = 0 then none else (some (rem32 (w32 ((rem32 x1 (m 0 19)) + (m 0 19))) (m 0 19))))) : Option (Int)) Q) : Ok (f_idx x1 m) Q := h
theorem u_f_execStore_b112 {x3 x4 x6 : Int} {m : OMem} {Q : (Int × OMem) → Prop} (h : Ok ((if 0 ≤ x3 ∧ x3 < 8 then (if 0 ≤ x4 ∧ x4 < 32 then (if 0 ≤ x3 ∧ x3 < 8 then (if 0 ≤ x4 ∧ x4 < 32 then (some (0, sto (sto m 7 x4 (m 5 x3)) 8 x4 (or32 x6 (m 6 x3)))) else none) else none) else none) else none) : Option (Int × OMem)) Q) : Ok (f_execStore_b112 x3 x4 x6 m) Q := h
theorem u_f_execStore_l79 {m : OMem} {x3 x4 x6 : Int} {x7 : Int} {Q : ((Int) ⊕ ((Unit) ⊕ (Unit))) → Prop} (h : Ok ((if x7 < m 0 19 then (if 0 ≤ x7 ∧ x7 < 32 then ((f_flows x6 (m 8 x7) m).bind fun r_55 => (if r_55 = 0 then (some (.inr (.inl ()))) else (some (.inl (w32 (x7 + 1)))))) else none) else (some (.inr (.inr ())))) : Option ((Int) ⊕ ((Unit) ⊕ (Unit)))) Q) : Ok (f_execStore_l79 m x3 x4 x6 x7) Q := h
theorem u_f_execStore {x1 : Int} {m : OMem} {Q : (Int × OMem) → Prop} (h : Ok ((if 0 ≤ x1 ∧ x1 < 32 then (if 0 ≤ x1 ∧ x1 < 32 then (if 0 ≤ and32 (m 2 x1) 7 ∧ and32 (m 2 x1) 7 < 8 then ((f_idx (m 5 (and32 (m 2 x1) 7)) m).bind fun r_52 => ((f_curLabel m).bind fun r_53 => (if 0 ≤ and32 (m 2 x1) 7 ∧ and32 (m 2 x1) 7 < 8 then (if 0 ≤ and32 (m 2 x1) 7 ∧ and32 (m 2 x1) 7 < 8 then (if m 6 (and32 (m 2 x1) 7) = 0 then (if 0 ≤ r_52 ∧ r_52 < 32 then ((f_flows r_53 (m 8 r_52) m).bind fun r_54 => (if r_54 = 0 then (some (1, m)) else (f_execStore_b112 (and32 (m 3 x1) 7) r_52 (or32 r_53 (m 6 (and32 (m 2 x1) 7))) m))) else none) else ((lp (f_execStore_l79 m (and32 (m 3 x1) 7) r_52 (or32 r_53 (m 6 (and32 (m 2 x1) 7)))) NN 0).bind fun e => match e with | (.inl _) => (some (1, m)) | (.inr _) => (f_execStore_b112 (and32 (m 3 x1) 7) r_52 (or32 r_53 (m 6 (and32 (m 2 x1) 7))) m))) else none) else none))) else none) else none) else none) : Option (Int × OMem)) Q) : Ok (f_execStore x1 m) Q := h
theorem u_f_execLoad {x1 : Int} {m : OMem} {Q : (Int × OMem) → Prop} (h : Ok ((if 0 ≤ x1 ∧ x1 < 32 then (if 0 ≤ and32 (m 3 x1) 7 ∧ and32 (m 3 x1) 7 < 8 then ((f_idx (m 5 (and32 (m 3 x1) 7)) m).bind fun r_58 => (if 0 ≤ r_58 ∧ r_58 < 32 then (if 0 ≤ and32 (m 3 x1) 7 ∧ and32 (m 3 x1) 7 < 8 then (if 0 ≤ r_58 ∧ r_58 < 32 then (if 0 ≤ x1 ∧ x1 < 32 then ((f_writeReg (m 2 x1) (m 7 r_58) (or32 (m 6 (and32 (m 3 x1) 7)) (m 8 r_58)) m).bind fun (r_59, m_60) => (some (r_59, m_60))) else none) else none) else none) else none)) else none) else none) : Option (Int × OMem)) Q) : Ok (f_execLoad x1 m) Q := h
theorem u_f_execMov {x1 : Int} {m : OMem} {Q : (Int × OMem) → Prop} (h : Ok ((if 0 ≤ x1 ∧ x1 < 32 then (if 0 ≤ and32 (m 3 x1) 7 ∧ and32 (m 3 x1) 7 < 8 then (if 0 ≤ and32 (m 3 x1) 7 ∧ and32 (m 3 x1) 7 < 8 then (if 0 ≤ x1 ∧ x1 < 32 then ((f_writeReg (m 2 x1) (m 5 (and32 (m 3 x1) 7)) (m 6 (and32 (m 3 x1) 7)) m).bind fun (r_63, m_64) => (some (r_63, m_64))) else none) else none) else none) else none) : Option (Int × OMem)) Q) : Ok (f_execMov x1 m) Q := h
theorem u_f_execute_b170 {x1 x2 : Int} {m : OMem} {Q : (Int × OMem) → Prop} (h : Ok (((f_execArith x1 x2 m).bind fun (r_35, m_36) => (some (r_35, m_36))) : Option (Int × OMem)) Q) : Ok (f_execute_b170 x1 x2 m) Q := h
theorem u_f_execute {x1 : Int} {m : OMem} {Q : (Int × OMem) → Prop} (h : Ok ((if 0 ≤ x1 ∧ x1 < 32 then (if m 1 x1 = 0 then (some (0, sto m 0 27 (m 0 22))) else (if m 1 x1 = 1 then (if 0 ≤ x1 ∧ x1 < 32 then (if 0 ≤ x1 ∧ x1 < 32 then ((f_writeReg (m 2 x1) (m 3 x1) 0 m).bind fun (r_67, m_68) => (some (r_67, m_68))) else none) else none) else (if m 1 x1 = 2 then ((f_execMov x1 m).bind fun (r_65, m_66) => (some (r_65, m_66))) else (if m 1 x1 = 3 then (f_execute_b170 x1 (m 1 x1) m) else (if m 1 x1 = 4 then (f_execute_b170 x1 (m 1 x1) m) else (if m 1 x1 = 5 then (f_execute_b170 x1 (m 1 x1) m) else (if m 1 x1 = 6 then (f_execute_b170 x1 (m 1 x1) m) else (if m 1 x1 = 7 then (f_execute_b170 x1 (m 1 x1) m) else (if m 1 x1 = 8 then ((f_execLoad x1 m).bind fun (r_61, m_62) => (some (r_61, m_62))) else (if m 1 x1 = 9 then ((f_execStore x1 m).bind fun (r_56, m_57) => (some (r_56, m_57))) else (if m 1 x1 = 10 then (if 0 ≤ x1 ∧ x1 < 32 then ((f_target (m 2 x1) m).bind fun r_51 => (some (0, sto m 0 27 r_51))) else none) else (if m 1 x1 = 11 then ((f_execBranch x1 m).bind fun (r_49, m_50) => (some (r_49, m_50))) else (if m 1 x1 = 12 then ((f_execOut x1 m).bind fun (r_45, m_46) => (some (r_45, m_46))) else (if m 1 x1 = 13 then ((f_execRaise x1 m).bind fun (r_41, m_42) => (some (r_41, m_42))) else (if m 1 x1 = 14 then ((f_execDeclass x1 m).bind fun (r_38, m_39) => (some (r_38, m_39))) else (f_execute_b170 x1 (m 1 x1) m)))))))))))))))) else none) : Option (Int × OMem)) Q) : Ok (f_execute x1 m) Q := h
theorem u_f_step_b17 {m : OMem} {Q : (Int × OMem) → Prop} (h : Ok ((some (0, sto (sto (sto m 0 23 (m 0 22)) 0 24 0) 0 20 2)) : Option (Int × OMem)) Q) : Ok (f_step_b17 m) Q := h
theorem u_f_step_l39 {x1 : Int} {x2 : Int} {m : OMem} {Q : ((Int × OMem) ⊕ ((OMem))) → Prop} (h : Ok ((if x2 < 16 then (if 0 < m 0 24 then (if 0 ≤ w32 ((m 0 24) - 1) ∧ w32 ((m 0 24) - 1) < 16 then (if m 10 (w32 ((m 0 24) - 1)) = x1 then (some (.inl (w32 (x2 + 1), sto m 0 24 (w32 ((m 0 24) - 1))))) else (some (.inr m))) else none) else (some (.inr m))) else (some (.inr m))) : Option ((Int × OMem) ⊕ ((OMem)))) Q) : Ok (f_step_l39 x1 (x2, m)) Q := h
theorem u_f_step_b146 {m : OMem} {Q : (Int × OMem) → Prop} (h : Ok ((some (1, m)) : Option (Int × OMem)) Q) : Ok (f_step_b146 m) Q := h
theorem u_f_step_b83 {x1 : Int} {m : OMem} {Q : (Int × OMem) → Prop} (h : Ok (((f_execute x1 (sto m 0 27 (w32 (x1 + 1)))).bind fun (r_69, m_70) => (if r_69 = 0 then (if m_70 0 27 = m_70 0 22 then (f_step_b146 (sto (sto (sto m_70 0 23 (m_70 0 27)) 0 24 0) 0 20 2)) else (f_step_b146 (sto m_70 0 23 (m_70 0 27)))) else (some (0, sto (sto (sto m_70 0 20 3) 0 21 r_69) 0 23 x1)))) : Option (Int × OMem)) Q) : Ok (f_step_b83 x1 m) Q := h
theorem u_f_step {m : OMem} {Q : (Int × OMem) → Prop} (h : Ok ((if m 0 23 < 0 then (f_step_b17 m) else (if m 0 23 < m 0 22 then ((lp (f_step_l39 (m 0 23)) NN (0, m)).bind fun m_30 => (f_step_b83 (m 0 23) m_30)) else (f_step_b17 m))) : Option (Int × OMem)) Q) : Ok (f_step m) Q := h
theorem u_f_run_b23 {m : OMem} {Q : (Int × OMem) → Prop} (h : Ok ((some (0, m)) : Option (Int × OMem)) Q) : Ok (f_run_b23 m) Q := h
theorem u_f_run_l81 {x2 : Int} {x3 : Int} {x4 : Int} {m : OMem} {Q : ((Int × Int × OMem) ⊕ ((Int × OMem) ⊕ (Int × OMem))) → Prop} (h : Ok ((if x4 < x2 then (if m 0 20 = 1 then ((f_step m).bind fun (r_71, m_72) => (some (.inl (w32 (x3 + r_71), w32 (x4 + 1), m_72)))) else (some (.inr (.inl (x3, m))))) else (some (.inr (.inr (x3, m))))) : Option ((Int × Int × OMem) ⊕ ((Int × OMem) ⊕ (Int × OMem)))) Q) : Ok (f_run_l81 x2 (x3, x4, m)) Q := h
theorem u_f_run_b111 {x3 : Int} {m : OMem} {Q : (Int × OMem) → Prop} (h : Ok ((some (x3, m)) : Option (Int × OMem)) Q) : Ok (f_run_b111 x3 m) Q := h
theorem u_f_run_b76 {x2 : Int} {m : OMem} {Q : (Int × OMem) → Prop} (h : Ok (((lp (f_run_l81 x2) NN (0, 0, m)).bind fun e => match e with | (.inl (x3_73, m_74)) => (f_run_b111 x3_73 m_74) | (.inr (x3_75, m_76)) => (f_run_b111 x3_75 m_76)) : Option (Int × OMem)) Q) : Ok (f_run_b76 x2 m) Q := h
theorem u_f_run_b39 {s0 : Int} {m : OMem} {Q : (Int × OMem) → Prop} (h : Ok ((if m 0 20 = 0 then (if m 0 22 = 0 then (some (0, sto (sto (sto (sto m 0 20 1) 0 23 0) 0 24 0) 0 20 2)) else (f_run_b76 s0 (sto (sto m 0 20 1) 0 23 0))) else (f_run_b76 s0 m)) : Option (Int × OMem)) Q) : Ok (f_run_b39 s0 m) Q := h
theorem u_f_run {x1 : Int} {m : OMem} {Q : (Int × OMem) → Prop} (h : Ok ((if x1 < 1 then (some (0, m)) else (if m 0 20 = 2 then (f_run_b23 m) else (if m 0 20 = 3 then (f_run_b23 m) else (if 256 < x1 then (f_run_b39 256 m) else (f_run_b39 x1 m))))) : Option (Int × OMem)) Q) : Ok (f_run x1 m) Q := h
theorem u_f_outEntry_b12 {m : OMem} {Q : (Int) → Prop} (h : Ok ((some 0) : Option (Int)) Q) : Ok (f_outEntry_b12 m) Q := h
theorem u_f_outEntry {x1 x2 : Int} {m : OMem} {Q : (Int) → Prop} (h : Ok ((if x1 < 0 then (f_outEntry_b12 m) else (if x1 < m 0 25 then (if x2 = 0 then (if 0 ≤ x1 ∧ x1 < 32 then (some (m 11 x1)) else none) else (if x2 = 1 then (if 0 ≤ x1 ∧ x1 < 32 then (some (m 12 x1)) else none) else (some 0))) else (f_outEntry_b12 m))) : Option (Int)) Q) : Ok (f_outEntry x1 x2 m) Q := h
theorem u_f_mem_b12 {m : OMem} {Q : (Int) → Prop} (h : Ok ((some 0) : Option (Int)) Q) : Ok (f_mem_b12 m) Q := h
theorem u_f_mem {x1 : Int} {m : OMem} {Q : (Int) → Prop} (h : Ok ((if x1 < 0 then (f_mem_b12 m) else (if x1 < m 0 19 then (if 0 ≤ x1 ∧ x1 < 32 then (some (m 7 x1)) else none) else (f_mem_b12 m))) : Option (Int)) Q) : Ok (f_mem x1 m) Q := h
theorem u_f_setMem_b21 {m : OMem} {Q : (Int × OMem) → Prop} (h : Ok ((some (0, m)) : Option (Int × OMem)) Q) : Ok (f_setMem_b21 m) Q := h
theorem u_f_setMem_b32 {m : OMem} {Q : (Int × OMem) → Prop} (h : Ok ((some (0, m)) : Option (Int × OMem)) Q) : Ok (f_setMem_b32 m) Q := h
theorem u_f_setMem {x1 x2 x3 : Int} {m : OMem} {Q : (Int × OMem) → Prop} (h : Ok ((if m 0 20 = 0 then (if x1 < 0 then (f_setMem_b21 m) else (if x1 < m 0 19 then (if x3 < 0 then (f_setMem_b32 m) else (if 3 < x3 then (f_setMem_b32 m) else (if 0 ≤ x1 ∧ x1 < 32 then (if 0 ≤ x1 ∧ x1 < 32 then (some (1, sto (sto m 7 x1 x2) 8 x1 x3)) else none) else none))) else (f_setMem_b21 m))) else (some (0, m))) : Option (Int × OMem)) Q) : Ok (f_setMem x1 x2 x3 m) Q := h
theorem u_f_auditEntry_b12 {m : OMem} {Q : (Int) → Prop} (h : Ok ((some (-1)) : Option (Int)) Q) : Ok (f_auditEntry_b12 m) Q := h
theorem u_f_auditEntry {x1 x2 : Int} {m : OMem} {Q : (Int) → Prop} (h : Ok ((if x1 < 0 then (f_auditEntry_b12 m) else (if x1 < m 0 26 then (if x2 = 0 then (if 0 ≤ x1 ∧ x1 < 16 then (some (m 13 x1)) else none) else (if x2 = 1 then (if 0 ≤ x1 ∧ x1 < 16 then (some (m 14 x1)) else none) else (if x2 = 2 then (if 0 ≤ x1 ∧ x1 < 16 then (some (m 15 x1)) else none) else (some (-1))))) else (f_auditEntry_b12 m))) : Option (Int)) Q) : Ok (f_auditEntry x1 x2 m) Q := h
theorem u_l_inv_b64 {sl : Int} {sc : Int → Int} {m0 : OMem} {Q : (Int) → Prop} (h : Ok ((some 0) : Option (Int)) Q) : Ok (l_inv_b64 sl sc m0) Q := h
theorem u_l_inv_b139 {sl : Int} {sc : Int → Int} {m0 : OMem} {Q : (Int) → Prop} (h : Ok ((some 0) : Option (Int)) Q) : Ok (l_inv_b139 sl sc m0) Q := h
theorem u_l_inv_b241 {sl : Int} {sc : Int → Int} {m0 : OMem} {Q : (Int) → Prop} (h : Ok ((some 0) : Option (Int)) Q) : Ok (l_inv_b241 sl sc m0) Q := h
theorem u_l_inv_l266 {sl : Int} {sc : Int → Int} {m0 : OMem} {x1 x9 x10 : Int} {x11 : Int} {Q : ((Int) ⊕ ((Unit) ⊕ (Unit))) → Prop} (h : Ok ((if x11 < x1 then ((f_join x11 m0).bind fun r_90 => (if r_90 < 0 then (some (.inr (.inl ()))) else (if x1 < r_90 then (some (.inr (.inl ()))) else (if r_90 = x11 then (some (.inr (.inl ()))) else (some (.inl (w32 (x11 + 1)))))))) else (some (.inr (.inr ())))) : Option ((Int) ⊕ ((Unit) ⊕ (Unit)))) Q) : Ok (l_inv_l266 sl sc m0 x1 x9 x10 x11) Q := h
theorem u_l_inv_b298 {sl : Int} {sc : Int → Int} {m0 : OMem} {Q : (Int) → Prop} (h : Ok ((some 0) : Option (Int)) Q) : Ok (l_inv_b298 sl sc m0) Q := h
theorem u_l_inv_l352 {sl : Int} {sc : Int → Int} {m0 : OMem} {x1 x9 x10 : Int} {x11 : Int} {Q : ((Int) ⊕ ((Unit) ⊕ (Unit))) → Prop} (h : Ok ((if x11 < 8 then ((f_labelOf 0 x11 m0).bind fun r_95 => ((f_labelOf 1 x11 m0).bind fun r_96 => (if r_95 < 0 then (some (.inr (.inl ()))) else (if 3 < r_95 then (some (.inr (.inl ()))) else (if r_96 < 0 then (some (.inr (.inl ()))) else (if 3 < r_96 then (some (.inr (.inl ()))) else (some (.inl (w32 (x11 + 1)))))))))) else (some (.inr (.inr ())))) : Option ((Int) ⊕ ((Unit) ⊕ (Unit)))) Q) : Ok (l_inv_l352 sl sc m0 x1 x9 x10 x11) Q := h
theorem u_l_inv_b399 {sl : Int} {sc : Int → Int} {m0 : OMem} {Q : (Int) → Prop} (h : Ok ((some 0) : Option (Int)) Q) : Ok (l_inv_b399 sl sc m0) Q := h
theorem u_l_inv_b434 {sl : Int} {sc : Int → Int} {m0 : OMem} {Q : (Int) → Prop} (h : Ok ((some 0) : Option (Int)) Q) : Ok (l_inv_b434 sl sc m0) Q := h
theorem u_l_inv_b485 {sl : Int} {sc : Int → Int} {m0 : OMem} {Q : (Int) → Prop} (h : Ok ((some 0) : Option (Int)) Q) : Ok (l_inv_b485 sl sc m0) Q := h
theorem u_l_inv_b487 {sl : Int} {sc : Int → Int} {m0 : OMem} {Q : (Int) → Prop} (h : Ok ((some 1) : Option (Int)) Q) : Ok (l_inv_b487 sl sc m0) Q := h
theorem u_l_inv_b436 {sl : Int} {sc : Int → Int} {x1 x10 : Int} {m0 : OMem} {Q : (Int) → Prop} (h : Ok ((if 0 < x10 then ((f_auditEntry (w32 (x10 - 1)) 0 m0).bind fun r_98 => ((f_auditEntry (w32 (x10 - 1)) 2 m0).bind fun r_99 => (if r_98 < 0 then (l_inv_b485 sl sc m0) else (if r_98 < x1 then (if r_99 < 0 then (l_inv_b485 sl sc m0) else (if 3 < r_99 then (l_inv_b485 sl sc m0) else (l_inv_b487 sl sc m0))) else (l_inv_b485 sl sc m0))))) else (l_inv_b487 sl sc m0)) : Option (Int)) Q) : Ok (l_inv_b436 sl sc x1 x10 m0) Q := h
theorem u_l_inv_b347 {sl : Int} {sc : Int → Int} {m0 : OMem} {Q : (Int) → Prop} (h : Ok ((some 0) : Option (Int)) Q) : Ok (l_inv_b347 sl sc m0) Q := h
theorem u_l_inv_b261 {sl : Int} {sc : Int → Int} {m0 : OMem} {Q : (Int) → Prop} (h : Ok ((some 0) : Option (Int)) Q) : Ok (l_inv_b261 sl sc m0) Q := h
theorem u_l_inv_b243 {sl : Int} {sc : Int → Int} {x1 x9 x10 : Int} {m0 : OMem} {Q : (Int) → Prop} (h : Ok (((f_join x1 m0).bind fun r_88 => (if r_88 = (-1) then ((f_join (-1) m0).bind fun r_89 => (if r_89 = (-1) then ((lp (l_inv_l266 sl sc m0 x1 x9 x10) NN 0).bind fun e => match e with | (.inl _) => (l_inv_b298 sl sc m0) | (.inr _) => ((f_reg 8 m0).bind fun r_91 => (if r_91 = 0 then ((f_labelOf 0 8 m0).bind fun r_92 => (if r_92 = (-1) then ((f_labelOf 1 8 m0).bind fun r_93 => (if r_93 = (-1) then ((f_labelOf 2 0 m0).bind fun r_94 => (if r_94 = (-1) then ((lp (l_inv_l352 sl sc m0 x1 x9 x10) NN 0).bind fun e => match e with | (.inl _) => (l_inv_b399 sl sc m0) | (.inr _) => (if 0 < x9 then ((f_outEntry (w32 (x9 - 1)) 0 m0).bind fun r_97 => (if r_97 < 0 then (l_inv_b434 sl sc m0) else (if 3 < r_97 then (l_inv_b434 sl sc m0) else (l_inv_b436 sl sc x1 x10 m0)))) else (l_inv_b436 sl sc x1 x10 m0))) else (l_inv_b347 sl sc m0))) else (l_inv_b347 sl sc m0))) else (l_inv_b347 sl sc m0))) else (l_inv_b347 sl sc m0)))) else (l_inv_b261 sl sc m0))) else (l_inv_b261 sl sc m0))) : Option (Int)) Q) : Ok (l_inv_b243 sl sc x1 x9 x10 m0) Q := h
theorem u_l_inv_b230 {sl : Int} {sc : Int → Int} {x1 x6 x9 x10 : Int} {m0 : OMem} {Q : (Int) → Prop} (h : Ok ((if x6 < 0 then (l_inv_b241 sl sc m0) else (if x6 < x1 then (l_inv_b243 sl sc x1 x9 x10 m0) else (l_inv_b241 sl sc m0))) : Option (Int)) Q) : Ok (l_inv_b230 sl sc x1 x6 x9 x10 m0) Q := h
theorem u_l_inv_b218 {sl : Int} {sc : Int → Int} {x1 x4 x6 x9 x10 : Int} {m0 : OMem} {Q : (Int) → Prop} (h : Ok ((if x4 = 1 then (l_inv_b230 sl sc x1 x6 x9 x10 m0) else (if x4 = 3 then (l_inv_b230 sl sc x1 x6 x9 x10 m0) else (l_inv_b243 sl sc x1 x9 x10 m0))) : Option (Int)) Q) : Ok (l_inv_b218 sl sc x1 x4 x6 x9 x10 m0) Q := h
theorem u_l_inv_b216 {sl : Int} {sc : Int → Int} {m0 : OMem} {Q : (Int) → Prop} (h : Ok ((some 0) : Option (Int)) Q) : Ok (l_inv_b216 sl sc m0) Q := h
theorem u_l_inv_b199 {sl : Int} {sc : Int → Int} {x1 x4 x6 x7 x9 x10 : Int} {m0 : OMem} {Q : (Int) → Prop} (h : Ok ((if x4 = 2 then (if x6 = x1 then (if x7 = 0 then (l_inv_b218 sl sc x1 x4 x6 x9 x10 m0) else (l_inv_b216 sl sc m0)) else (l_inv_b216 sl sc m0)) else (l_inv_b218 sl sc x1 x4 x6 x9 x10 m0)) : Option (Int)) Q) : Ok (l_inv_b199 sl sc x1 x4 x6 x7 x9 x10 m0) Q := h
theorem u_l_inv_b197 {sl : Int} {sc : Int → Int} {m0 : OMem} {Q : (Int) → Prop} (h : Ok ((some 0) : Option (Int)) Q) : Ok (l_inv_b197 sl sc m0) Q := h
theorem u_l_inv_b153 {sl : Int} {sc : Int → Int} {x1 x2 x4 x6 x7 x9 x10 : Int} {m0 : OMem} {Q : (Int) → Prop} (h : Ok ((if 0 < lcm (w32 (x9 + x10)) x2 then (some 0) else (if x4 = 0 then (if x6 = 0 then (if x7 = 0 then (if x9 = 0 then (if x10 = 0 then (if lcm x2 0 = 0 then (l_inv_b199 sl sc x1 x4 x6 x7 x9 x10 m0) else (l_inv_b197 sl sc m0)) else (l_inv_b197 sl sc m0)) else (l_inv_b197 sl sc m0)) else (l_inv_b197 sl sc m0)) else (l_inv_b197 sl sc m0)) else (l_inv_b199 sl sc x1 x4 x6 x7 x9 x10 m0))) : Option (Int)) Q) : Ok (l_inv_b153 sl sc x1 x2 x4 x6 x7 x9 x10 m0) Q := h
theorem u_l_inv_b87 {sl : Int} {sc : Int → Int} {x1 x2 x4 x6 x7 x8 x9 x10 s0 s1 : Int} {m0 : OMem} {Q : (Int) → Prop} (h : Ok ((if s0 = s1 then (if x8 < 0 then (l_inv_b139 sl sc m0) else (if 3 < x8 then (l_inv_b139 sl sc m0) else (if x7 < 0 then (l_inv_b139 sl sc m0) else (if 16 < x7 then (l_inv_b139 sl sc m0) else (if x9 < 0 then (l_inv_b139 sl sc m0) else (if 32 < x9 then (l_inv_b139 sl sc m0) else (if x10 < 0 then (l_inv_b139 sl sc m0) else (if 16 < x10 then (l_inv_b139 sl sc m0) else (if x7 = 0 then (if x8 = 0 then (l_inv_b153 sl sc x1 x2 x4 x6 x7 x9 x10 m0) else (some 0)) else (l_inv_b153 sl sc x1 x2 x4 x6 x7 x9 x10 m0)))))))))) else (some 0)) : Option (Int)) Q) : Ok (l_inv_b87 sl sc x1 x2 x4 x6 x7 x8 x9 x10 s0 s1 m0) Q := h
theorem u_l_inv_b77 {sl : Int} {sc : Int → Int} {x1 x2 x4 x5 x6 x7 x8 x9 x10 s0 : Int} {m0 : OMem} {Q : (Int) → Prop} (h : Ok ((if x5 = 0 then (l_inv_b87 sl sc x1 x2 x4 x6 x7 x8 x9 x10 s0 0 m0) else (l_inv_b87 sl sc x1 x2 x4 x6 x7 x8 x9 x10 s0 1 m0)) : Option (Int)) Q) : Ok (l_inv_b77 sl sc x1 x2 x4 x5 x6 x7 x8 x9 x10 s0 m0) Q := h
theorem u_l_inv {sl : Int} {sc : Int → Int} {x1 x2 : Int} {m0 : OMem} {Q : (Int) → Prop} (h : Ok (((f_status m0).bind fun r_81 => ((f_stopKind m0).bind fun r_82 => ((f_pc m0).bind fun r_83 => ((f_depth m0).bind fun r_84 => ((f_pcLabel m0).bind fun r_85 => ((f_outCount m0).bind fun r_86 => ((f_auditCount m0).bind fun r_87 => (if r_81 < 0 then (l_inv_b64 sl sc m0) else (if 3 < r_81 then (l_inv_b64 sl sc m0) else (if r_82 < 0 then (l_inv_b64 sl sc m0) else (if 5 < r_82 then (l_inv_b64 sl sc m0) else (if r_81 = 3 then (l_inv_b77 sl sc x1 x2 r_81 r_82 r_83 r_84 r_85 r_86 r_87 1 m0) else (l_inv_b77 sl sc x1 x2 r_81 r_82 r_83 r_84 r_85 r_86 r_87 0 m0))))))))))))) : Option (Int)) Q) : Ok (l_inv sl sc x1 x2 m0) Q := h
theorem u_l_law_b513 {sl : Int} {sc : Int → Int} {x2 x3 x5 : Int} {m0 : OMem} {Q : ((Int × Int × Int × OMem) ⊕ ((OMem) ⊕ (OMem) ⊕ (OMem) ⊕ (OMem) ⊕ (OMem) ⊕ (OMem) ⊕ (OMem) ⊕ (OMem) ⊕ (OMem) ⊕ (OMem) ⊕ (OMem))) → Prop} (h : Ok (((l_inv sl sc x2 x3 m0).bind fun r_100 => (if r_100 = 0 then (some (.inr (.inr (.inr (.inr (.inr (.inr (.inr (.inr (.inr (.inr (.inl m0)))))))))))) else (some (.inl (x2, x3, w32 (x5 + 5), m0))))) : Option ((Int × Int × Int × OMem) ⊕ ((OMem) ⊕ (OMem) ⊕ (OMem) ⊕ (OMem) ⊕ (OMem) ⊕ (OMem) ⊕ (OMem) ⊕ (OMem) ⊕ (OMem) ⊕ (OMem) ⊕ (OMem)))) Q) : Ok (l_law_b513 sl sc x2 x3 x5 m0) Q := h
theorem u_l_law_b160 {sl : Int} {sc : Int → Int} {x2 x3 x5 : Int} {m0 : OMem} {Q : ((Int × Int × Int × OMem) ⊕ ((OMem) ⊕ (OMem) ⊕ (OMem) ⊕ (OMem) ⊕ (OMem) ⊕ (OMem) ⊕ (OMem) ⊕ (OMem) ⊕ (OMem) ⊕ (OMem) ⊕ (OMem))) → Prop} (h : Ok ((l_law_b513 sl sc x2 x3 x5 m0) : Option ((Int × Int × Int × OMem) ⊕ ((OMem) ⊕ (OMem) ⊕ (OMem) ⊕ (OMem) ⊕ (OMem) ⊕ (OMem) ⊕ (OMem) ⊕ (OMem) ⊕ (OMem) ⊕ (OMem) ⊕ (OMem)))) Q) : Ok (l_law_b160 sl sc x2 x3 x5 m0) Q := h
theorem u_l_law_b147 {sl : Int} {sc : Int → Int} {x2 x3 x5 x14 s0 s1 : Int} {m0 : OMem} {Q : ((Int × Int × Int × OMem) ⊕ ((OMem) ⊕ (OMem) ⊕ (OMem) ⊕ (OMem) ⊕ (OMem) ⊕ (OMem) ⊕ (OMem) ⊕ (OMem) ⊕ (OMem) ⊕ (OMem) ⊕ (OMem))) → Prop} (h : Ok ((if s0 = s1 then (if x14 = 0 then (l_law_b160 sl sc x2 x3 x5 m0) else (l_law_b160 sl sc (w32 (x2 + 1)) x3 x5 m0)) else (some (.inr (.inl m0)))) : Option ((Int × Int × Int × OMem) ⊕ ((OMem) ⊕ (OMem) ⊕ (OMem) ⊕ (OMem) ⊕ (OMem) ⊕ (OMem) ⊕ (OMem) ⊕ (OMem) ⊕ (OMem) ⊕ (OMem) ⊕ (OMem)))) Q) : Ok (l_law_b147 sl sc x2 x3 x5 x14 s0 s1 m0) Q := h
theorem u_l_law_b146 {sl : Int} {sc : Int → Int} {x2 x3 x5 x14 s0 : Int} {m0 : OMem} {Q : ((Int × Int × Int × OMem) ⊕ ((OMem) ⊕ (OMem) ⊕ (OMem) ⊕ (OMem) ⊕ (OMem) ⊕ (OMem) ⊕ (OMem) ⊕ (OMem) ⊕ (OMem) ⊕ (OMem) ⊕ (OMem))) → Prop} (h : Ok ((l_law_b147 sl sc x2 x3 x5 x14 s0 0 m0) : Option ((Int × Int × Int × OMem) ⊕ ((OMem) ⊕ (OMem) ⊕ (OMem) ⊕ (OMem) ⊕ (OMem) ⊕ (OMem) ⊕ (OMem) ⊕ (OMem) ⊕ (OMem) ⊕ (OMem) ⊕ (OMem)))) Q) : Ok (l_law_b146 sl sc x2 x3 x5 x14 s0 m0) Q := h
theorem u_l_law_b314 {sl : Int} {sc : Int → Int} {x2 x3 x5 : Int} {m0 : OMem} {Q : ((Int × Int × Int × OMem) ⊕ ((OMem) ⊕ (OMem) ⊕ (OMem) ⊕ (OMem) ⊕ (OMem) ⊕ (OMem) ⊕ (OMem) ⊕ (OMem) ⊕ (OMem) ⊕ (OMem) ⊕ (OMem))) → Prop} (h : Ok ((l_law_b513 sl sc x2 x3 x5 m0) : Option ((Int × Int × Int × OMem) ⊕ ((OMem) ⊕ (OMem) ⊕ (OMem) ⊕ (OMem) ⊕ (OMem) ⊕ (OMem) ⊕ (OMem) ⊕ (OMem) ⊕ (OMem) ⊕ (OMem) ⊕ (OMem)))) Q) : Ok (l_law_b314 sl sc x2 x3 x5 m0) Q := h
theorem u_l_law_b284 {sl : Int} {sc : Int → Int} {x2 x3 x5 x13 x15 x16 x17 : Int} {m0 : OMem} {Q : ((Int × Int × Int × OMem) ⊕ ((OMem) ⊕ (OMem) ⊕ (OMem) ⊕ (OMem) ⊕ (OMem) ⊕ (OMem) ⊕ (OMem) ⊕ (OMem) ⊕ (OMem) ⊕ (OMem) ⊕ (OMem))) → Prop} (h : Ok ((if x17 = 0 then ((f_mem x13 m0).bind fun r_105 => (if r_105 = x15 then ((f_labelOf 1 x13 m0).bind fun r_106 => (if r_106 = x16 then (l_law_b314 sl sc x2 x3 x5 m0) else (some (.inr (.inr (.inr (.inr (.inl m0)))))))) else (some (.inr (.inr (.inr (.inr (.inl m0)))))))) else (l_law_b314 sl sc x2 x3 x5 m0)) : Option ((Int × Int × Int × OMem) ⊕ ((OMem) ⊕ (OMem) ⊕ (OMem) ⊕ (OMem) ⊕ (OMem) ⊕ (OMem) ⊕ (OMem) ⊕ (OMem) ⊕ (OMem) ⊕ (OMem) ⊕ (OMem)))) Q) : Ok (l_law_b284 sl sc x2 x3 x5 x13 x15 x16 x17 m0) Q := h
theorem u_l_law_b249 {sl : Int} {sc : Int → Int} {x2 x3 x5 x8 x13 x14 x15 x16 x17 s0 s1 : Int} {m0 : OMem} {Q : ((Int × Int × Int × OMem) ⊕ ((OMem) ⊕ (OMem) ⊕ (OMem) ⊕ (OMem) ⊕ (OMem) ⊕ (OMem) ⊕ (OMem) ⊕ (OMem) ⊕ (OMem) ⊕ (OMem) ⊕ (OMem))) → Prop} (h : Ok ((if s0 = s1 then (if x17 = 0 then (l_law_b284 sl sc x2 x3 x5 x13 x15 x16 x17 m0) else ((f_mem x13 m0).bind fun r_107 => (if r_107 = x8 then ((f_labelOf 1 x13 m0).bind fun r_108 => (if r_108 = x14 then (l_law_b284 sl sc x2 x3 x5 x13 x15 x16 x17 m0) else (some (.inr (.inr (.inr (.inl m0))))))) else (some (.inr (.inr (.inr (.inl m0)))))))) else (some (.inr (.inr (.inl m0))))) : Option ((Int × Int × Int × OMem) ⊕ ((OMem) ⊕ (OMem) ⊕ (OMem) ⊕ (OMem) ⊕ (OMem) ⊕ (OMem) ⊕ (OMem) ⊕ (OMem) ⊕ (OMem) ⊕ (OMem) ⊕ (OMem)))) Q) : Ok (l_law_b249 sl sc x2 x3 x5 x8 x13 x14 x15 x16 x17 s0 s1 m0) Q := h
theorem u_l_law_b248 {sl : Int} {sc : Int → Int} {x2 x3 x5 x8 x13 x14 x15 x16 x17 s0 : Int} {m0 : OMem} {Q : ((Int × Int × Int × OMem) ⊕ ((OMem) ⊕ (OMem) ⊕ (OMem) ⊕ (OMem) ⊕ (OMem) ⊕ (OMem) ⊕ (OMem) ⊕ (OMem) ⊕ (OMem) ⊕ (OMem) ⊕ (OMem))) → Prop} (h : Ok ((l_law_b249 sl sc x2 x3 x5 x8 x13 x14 x15 x16 x17 s0 0 m0) : Option ((Int × Int × Int × OMem) ⊕ ((OMem) ⊕ (OMem) ⊕ (OMem) ⊕ (OMem) ⊕ (OMem) ⊕ (OMem) ⊕ (OMem) ⊕ (OMem) ⊕ (OMem) ⊕ (OMem) ⊕ (OMem)))) Q) : Ok (l_law_b248 sl sc x2 x3 x5 x8 x13 x14 x15 x16 x17 s0 m0) Q := h
theorem u_l_law_b507 {sl : Int} {sc : Int → Int} {x2 x3 x5 x17 : Int} {m0 : OMem} {Q : ((Int × Int × Int × OMem) ⊕ ((OMem) ⊕ (OMem) ⊕ (OMem) ⊕ (OMem) ⊕ (OMem) ⊕ (OMem) ⊕ (OMem) ⊕ (OMem) ⊕ (OMem) ⊕ (OMem) ⊕ (OMem))) → Prop} (h : Ok ((l_law_b513 sl sc x2 (w64 (x3 + x17)) x5 m0) : Option ((Int × Int × Int × OMem) ⊕ ((OMem) ⊕ (OMem) ⊕ (OMem) ⊕ (OMem) ⊕ (OMem) ⊕ (OMem) ⊕ (OMem) ⊕ (OMem) ⊕ (OMem) ⊕ (OMem) ⊕ (OMem)))) Q) : Ok (l_law_b507 sl sc x2 x3 x5 x17 m0) Q := h
theorem u_l_law_b396 {sl : Int} {sc : Int → Int} {x2 x3 x5 x11 x14 x17 x18 x19 : Int} {m0 : OMem} {Q : ((Int × Int × Int × OMem) ⊕ ((OMem) ⊕ (OMem) ⊕ (OMem) ⊕ (OMem) ⊕ (OMem) ⊕ (OMem) ⊕ (OMem) ⊕ (OMem) ⊕ (OMem) ⊕ (OMem) ⊕ (OMem))) → Prop} (h : Ok ((if x17 = 0 then (if x18 = x11 then ((f_pc m0).bind fun r_117 => (if r_117 = x14 then (if x19 = 0 then (l_law_b507 sl sc x2 x3 x5 x17 m0) else (some (.inr (.inr (.inr (.inr (.inr (.inl m0)))))))) else (some (.inr (.inr (.inr (.inr (.inr (.inl m0))))))))) else (some (.inr (.inr (.inr (.inr (.inr (.inl m0)))))))) else (some (.inr (.inr (.inr (.inr (.inr (.inl m0)))))))) : Option ((Int × Int × Int × OMem) ⊕ ((OMem) ⊕ (OMem) ⊕ (OMem) ⊕ (OMem) ⊕ (OMem) ⊕ (OMem) ⊕ (OMem) ⊕ (OMem) ⊕ (OMem) ⊕ (OMem) ⊕ (OMem)))) Q) : Ok (l_law_b396 sl sc x2 x3 x5 x11 x14 x17 x18 x19 m0) Q := h
theorem u_l_law_b480 {sl : Int} {sc : Int → Int} {x2 x3 x5 x15 x16 x17 x19 : Int} {m0 : OMem} {Q : ((Int × Int × Int × OMem) ⊕ ((OMem) ⊕ (OMem) ⊕ (OMem) ⊕ (OMem) ⊕ (OMem) ⊕ (OMem) ⊕ (OMem) ⊕ (OMem) ⊕ (OMem) ⊕ (OMem) ⊕ (OMem))) → Prop} (h : Ok (((f_outCount m0).bind fun r_118 => (if r_118 < x15 then (some (.inr (.inr (.inr (.inr (.inr (.inr (.inr (.inr (.inr (.inl m0))))))))))) else ((f_auditCount m0).bind fun r_119 => (if r_119 < x16 then (some (.inr (.inr (.inr (.inr (.inr (.inr (.inr (.inr (.inr (.inl m0))))))))))) else (if x17 < x19 then (some (.inr (.inr (.inr (.inr (.inr (.inr (.inr (.inr (.inr (.inl m0))))))))))) else (l_law_b507 sl sc x2 x3 x5 x17 m0)))))) : Option ((Int × Int × Int × OMem) ⊕ ((OMem) ⊕ (OMem) ⊕ (OMem) ⊕ (OMem) ⊕ (OMem) ⊕ (OMem) ⊕ (OMem) ⊕ (OMem) ⊕ (OMem) ⊕ (OMem) ⊕ (OMem)))) Q) : Ok (l_law_b480 sl sc x2 x3 x5 x15 x16 x17 x19 m0) Q := h
theorem u_l_law_b465 {sl : Int} {sc : Int → Int} {x2 x3 x5 x13 x15 x16 x17 x18 x19 : Int} {m0 : OMem} {Q : ((Int × Int × Int × OMem) ⊕ ((OMem) ⊕ (OMem) ⊕ (OMem) ⊕ (OMem) ⊕ (OMem) ⊕ (OMem) ⊕ (OMem) ⊕ (OMem) ⊕ (OMem) ⊕ (OMem) ⊕ (OMem))) → Prop} (h : Ok ((if x18 = 1 then (if x17 = x13 then (l_law_b480 sl sc x2 x3 x5 x15 x16 x17 x19 m0) else (some (.inr (.inr (.inr (.inr (.inr (.inr (.inr (.inr (.inl m0))))))))))) else (l_law_b480 sl sc x2 x3 x5 x15 x16 x17 x19 m0)) : Option ((Int × Int × Int × OMem) ⊕ ((OMem) ⊕ (OMem) ⊕ (OMem) ⊕ (OMem) ⊕ (OMem) ⊕ (OMem) ⊕ (OMem) ⊕ (OMem) ⊕ (OMem) ⊕ (OMem) ⊕ (OMem)))) Q) : Ok (l_law_b465 sl sc x2 x3 x5 x13 x15 x16 x17 x18 x19 m0) Q := h
theorem u_l_law_b85 {sl : Int} {sc : Int → Int} {x2 x3 x5 x6 x7 x8 x9 x10 x11 s0 : Int} {m0 : OMem} {Q : ((Int × Int × Int × OMem) ⊕ ((OMem) ⊕ (OMem) ⊕ (OMem) ⊕ (OMem) ⊕ (OMem) ⊕ (OMem) ⊕ (OMem) ⊕ (OMem) ⊕ (OMem) ⊕ (OMem) ⊕ (OMem))) → Prop} (h : Ok ((if x6 < 5 then ((f_addInstr (and32 x7 15) (and32 x8 7) (and32 x9 15) (and32 x10 3) m0).bind fun (r_79, m_80) => (if s0 = 0 then (l_law_b146 sl sc x2 x3 x5 r_79 r_79 m_80) else (if x2 < 16 then (if and32 x7 15 < 15 then (l_law_b147 sl sc x2 x3 x5 r_79 r_79 1 m_80) else (l_law_b146 sl sc x2 x3 x5 r_79 r_79 m_80)) else (l_law_b146 sl sc x2 x3 x5 r_79 r_79 m_80)))) else (if x6 = 5 then ((f_mem (w32 ((rem32 (and32 x7 2147483647) 10) - 1)) m0).bind fun r_101 => ((f_labelOf 1 (w32 ((rem32 (and32 x7 2147483647) 10) - 1)) m0).bind fun r_102 => ((f_setMem (w32 ((rem32 (and32 x7 2147483647) 10) - 1)) x8 (rem32 (and32 x9 2147483647) 5) m0).bind fun (r_103, m_104) => (if s0 = 0 then (l_law_b248 sl sc x2 x3 x5 x8 (w32 ((rem32 (and32 x7 2147483647) 10) - 1)) (rem32 (and32 x9 2147483647) 5) r_101 r_102 r_103 r_103 m_104) else (if w32 ((rem32 (and32 x7 2147483647) 10) - 1) < 0 then (l_law_b248 sl sc x2 x3 x5 x8 (w32 ((rem32 (and32 x7 2147483647) 10) - 1)) (rem32 (and32 x9 2147483647) 5) r_101 r_102 r_103 r_103 m_104) else (if w32 ((rem32 (and32 x7 2147483647) 10) - 1) < 8 then (if 3 < rem32 (and32 x9 2147483647) 5 then (l_law_b248 sl sc x2 x3 x5 x8 (w32 ((rem32 (and32 x7 2147483647) 10) - 1)) (rem32 (and32 x9 2147483647) 5) r_101 r_102 r_103 r_103 m_104) else (l_law_b249 sl sc x2 x3 x5 x8 (w32 ((rem32 (and32 x7 2147483647) 10) - 1)) (rem32 (and32 x9 2147483647) 5) r_101 r_102 r_103 r_103 1 m_104)) else (l_law_b248 sl sc x2 x3 x5 x8 (w32 ((rem32 (and32 x7 2147483647) 10) - 1)) (rem32 (and32 x9 2147483647) 5) r_101 r_102 r_103 r_103 m_104))))))) else ((f_pc m0).bind fun r_109 => ((f_outCount m0).bind fun r_110 => ((f_auditCount m0).bind fun r_111 => ((f_run (w32 ((rem32 (and32 x7 2147483647) 40) - 1)) m0).bind fun (r_112, m_113) => ((f_status m_113).bind fun r_114 => ((f_outCount m_113).bind fun r_115 => ((f_auditCount m_113).bind fun r_116 => (if w32 ((rem32 (and32 x7 2147483647) 40) - 1) < 1 then (l_law_b396 sl sc x2 x3 x5 x11 r_109 r_112 r_114 (w32 ((w32 ((w32 (r_115 - r_110)) + r_116)) - r_111)) m_113) else (if x11 = 2 then (l_law_b396 sl sc x2 x3 x5 x11 r_109 r_112 r_114 (w32 ((w32 ((w32 (r_115 - r_110)) + r_116)) - r_111)) m_113) else (if x11 = 3 then (l_law_b396 sl sc x2 x3 x5 x11 r_109 r_112 r_114 (w32 ((w32 ((w32 (r_115 - r_110)) + r_116)) - r_111)) m_113) else (if r_112 < 0 then (some (.inr (.inr (.inr (.inr (.inr (.inr (.inl m_113)))))))) else (if w32 ((rem32 (and32 x7 2147483647) 40) - 1) < r_112 then (some (.inr (.inr (.inr (.inr (.inr (.inr (.inl m_113)))))))) else (if r_114 = 0 then (some (.inr (.inr (.inr (.inr (.inr (.inr (.inl m_113)))))))) else (if s0 = 0 then (l_law_b465 sl sc x2 x3 x5 (w32 ((rem32 (and32 x7 2147483647) 40) - 1)) r_110 r_111 r_112 r_114 (w32 ((w32 ((w32 (r_115 - r_110)) + r_116)) - r_111)) m_113) else (if x2 = 0 then (if r_114 = 2 then (if r_112 = 0 then (l_law_b465 sl sc x2 x3 x5 (w32 ((rem32 (and32 x7 2147483647) 40) - 1)) r_110 r_111 r_112 r_114 (w32 ((w32 ((w32 (r_115 - r_110)) + r_116)) - r_111)) m_113) else (some (.inr (.inr (.inr (.inr (.inr (.inr (.inr (.inl m_113)))))))))) else (some (.inr (.inr (.inr (.inr (.inr (.inr (.inr (.inl m_113)))))))))) else (l_law_b465 sl sc x2 x3 x5 (w32 ((rem32 (and32 x7 2147483647) 40) - 1)) r_110 r_111 r_112 r_114 (w32 ((w32 ((w32 (r_115 - r_110)) + r_116)) - r_111)) m_113)))))))))))))))))) : Option ((Int × Int × Int × OMem) ⊕ ((OMem) ⊕ (OMem) ⊕ (OMem) ⊕ (OMem) ⊕ (OMem) ⊕ (OMem) ⊕ (OMem) ⊕ (OMem) ⊕ (OMem) ⊕ (OMem) ⊕ (OMem)))) Q) : Ok (l_law_b85 sl sc x2 x3 x5 x6 x7 x8 x9 x10 x11 s0 m0) Q := h
theorem u_l_law_l19 {sl : Int} {sc : Int → Int} {x2 : Int} {x3 : Int} {x5 : Int} {m0 : OMem} {Q : ((Int × Int × Int × OMem) ⊕ ((OMem) ⊕ (OMem) ⊕ (OMem) ⊕ (OMem) ⊕ (OMem) ⊕ (OMem) ⊕ (OMem) ⊕ (OMem) ⊕ (OMem) ⊕ (OMem) ⊕ (OMem))) → Prop} (h : Ok ((if w32 (x5 + 4) < sl then (if 0 ≤ x5 ∧ x5 < sl then (if 0 ≤ w32 (x5 + 1) ∧ w32 (x5 + 1) < sl then (if 0 ≤ w32 (x5 + 2) ∧ w32 (x5 + 2) < sl then (if 0 ≤ w32 (x5 + 3) ∧ w32 (x5 + 3) < sl then (if 0 ≤ w32 (x5 + 4) ∧ w32 (x5 + 4) < sl then ((f_status m0).bind fun r_78 => (if r_78 = 0 then (l_law_b85 sl sc x2 x3 x5 (and32 (sc x5) 7) (sc (w32 (x5 + 1))) (sc (w32 (x5 + 2))) (sc (w32 (x5 + 3))) (sc (w32 (x5 + 4))) r_78 1 m0) else (l_law_b85 sl sc x2 x3 x5 (and32 (sc x5) 7) (sc (w32 (x5 + 1))) (sc (w32 (x5 + 2))) (sc (w32 (x5 + 3))) (sc (w32 (x5 + 4))) r_78 0 m0))) else none) else none) else none) else none) else none) else (some (.inr (.inr (.inr (.inr (.inr (.inr (.inr (.inr (.inr (.inr (.inr m0))))))))))))) : Option ((Int × Int × Int × OMem) ⊕ ((OMem) ⊕ (OMem) ⊕ (OMem) ⊕ (OMem) ⊕ (OMem) ⊕ (OMem) ⊕ (OMem) ⊕ (OMem) ⊕ (OMem) ⊕ (OMem) ⊕ (OMem)))) Q) : Ok (l_law_l19 sl sc (x2, x3, x5, m0)) Q := h
theorem u_l_law_b282 {sl : Int} {sc : Int → Int} {m0 : OMem} {Q : (Int × OWd) → Prop} (h : Ok ((some (0, [(36, m0)])) : Option (Int × OWd)) Q) : Ok (l_law_b282 sl sc m0) Q := h
theorem u_l_law_b312 {sl : Int} {sc : Int → Int} {m0 : OMem} {Q : (Int × OWd) → Prop} (h : Ok ((some (0, [(36, m0)])) : Option (Int × OWd)) Q) : Ok (l_law_b312 sl sc m0) Q := h
theorem u_l_law_b422 {sl : Int} {sc : Int → Int} {m0 : OMem} {Q : (Int × OWd) → Prop} (h : Ok ((some (0, [(36, m0)])) : Option (Int × OWd)) Q) : Ok (l_law_b422 sl sc m0) Q := h
theorem u_l_law_b441 {sl : Int} {sc : Int → Int} {m0 : OMem} {Q : (Int × OWd) → Prop} (h : Ok ((some (0, [(36, m0)])) : Option (Int × OWd)) Q) : Ok (l_law_b441 sl sc m0) Q := h
theorem u_l_law_b463 {sl : Int} {sc : Int → Int} {m0 : OMem} {Q : (Int × OWd) → Prop} (h : Ok ((some (0, [(36, m0)])) : Option (Int × OWd)) Q) : Ok (l_law_b463 sl sc m0) Q := h
theorem u_l_law_b505 {sl : Int} {sc : Int → Int} {m0 : OMem} {Q : (Int × OWd) → Prop} (h : Ok ((some (0, [(36, m0)])) : Option (Int × OWd)) Q) : Ok (l_law_b505 sl sc m0) Q := h
theorem u_l_law {sl : Int} {sc : Int → Int} {Q : (Int × OWd) → Prop} (h : Ok (((f_init 16 8 z0).bind fun m_77 => ((lp (l_law_l19 sl sc) NN (0, 0, 0, m_77)).bind fun e => match e with | (.inl m_120) => (some (0, [(36, m_120)])) | (.inr (.inl m_121)) => (some (0, [(36, m_121)])) | (.inr (.inr (.inl m_122))) => (l_law_b282 sl sc m_122) | (.inr (.inr (.inr (.inl m_123)))) => (l_law_b312 sl sc m_123) | (.inr (.inr (.inr (.inr (.inl m_124))))) => (l_law_b422 sl sc m_124) | (.inr (.inr (.inr (.inr (.inr (.inl m_125)))))) => (l_law_b441 sl sc m_125) | (.inr (.inr (.inr (.inr (.inr (.inr (.inl m_126))))))) => (l_law_b463 sl sc m_126) | (.inr (.inr (.inr (.inr (.inr (.inr (.inr (.inl m_127)))))))) => (some (0, [(36, m_127)])) | (.inr (.inr (.inr (.inr (.inr (.inr (.inr (.inr (.inl m_128))))))))) => (l_law_b505 sl sc m_128) | (.inr (.inr (.inr (.inr (.inr (.inr (.inr (.inr (.inr (.inl m_129)))))))))) => (some (0, [(36, m_129)])) | (.inr (.inr (.inr (.inr (.inr (.inr (.inr (.inr (.inr (.inr m_130)))))))))) => (some (1, [(36, m_130)])))) : Option (Int × OWd)) Q) : Ok (l_law sl sc) Q := h
/- what the analysis leaves alone -/
def own_Fj (m m' : OMem) : Prop := ∀ k i, k ≠ 16 → k ≠ 17 → k ≠ 18 → m' k i = m k i
set_option maxRecDepth 65536 in
set_option maxHeartbeats 16000000 in
theorem own_Fj16 {m m' : OMem} (i z : Int) (h : own_Fj m m') : own_Fj m (sto m' 16 i z) := fun k j a b c => by
  rw [← h k j a b c]; exact sto_k _ _ _ _ a
set_option maxRecDepth 65536 in
set_option maxHeartbeats 16000000 in
theorem own_Fj17 {m m' : OMem} (i z : Int) (h : own_Fj m m') : own_Fj m (sto m' 17 i z) := fun k j a b c => by
  rw [← h k j a b c]; exact sto_k _ _ _ _ b
set_option maxRecDepth 65536 in
set_option maxHeartbeats 16000000 in
theorem own_Fj18 {m m' : OMem} (i z : Int) (h : own_Fj m m') : own_Fj m (sto m' 18 i z) := fun k j a b c => by
  rw [← h k j a b c]; exact sto_k _ _ _ _ c
set_option maxRecDepth 65536 in
set_option maxHeartbeats 16000000 in
theorem own_ss (m : OMem) (i : Int) (hn : m 0 22 ≤ 32) : Ok (f_succSecond i m) (fun _ => True) := by
  repeat' (first | ((with_reducible refine Ok.grd ?_ ?_); (focus (first | omega | ((try simp only [w32_al, w32_ar, w32_sl, w32_sr, w32_m4, w32_m6, w32_m10, w32_m16, w32_m24]); (repeat rw [w32_id (by omega)]); omega) | ((try simp only [w32_al, w32_ar, w32_sl, w32_sr, w32_m4, w32_m6, w32_m10, w32_m16, w32_m24]); unfold w32; omega) | (simp [sto, z0_at, w32]; done) | (simp [sto, z0_at, w32]; omega)))) | ((with_reducible refine Ok.ite (fun h => ?_) (fun h => ?_)) <;> (try simp [sto, z0_at, w32] at h) <;> (try (exfalso; omega))) | (with_reducible refine Ok.bind' ?_) | ((with_reducible refine Ok.ret ?_); (try dsimp only)) | (with_reducible refine Ok.lpNN ?_) | (with_reducible refine Ok.lp1 ?_) | (with_reducible refine u_f_succSecond ?_) | (with_reducible refine u_f_succSecond_b12 ?_))
  all_goals (first | trivial | omega | ((try simp only [w32_al, w32_ar, w32_sl, w32_sr, w32_m4, w32_m6, w32_m10, w32_m16, w32_m24]); (repeat rw [w32_id (by omega)]); omega) | ((try simp only [w32_al, w32_ar, w32_sl, w32_sr, w32_m4, w32_m6, w32_m10, w32_m16, w32_m24]); unfold w32; omega) | (simp [sto, z0_at, w32]; done) | (simp [sto, z0_at, w32]; omega))
set_option maxRecDepth 65536 in
set_option maxHeartbeats 16000000 in
theorem own_sr (m : OMem) (i : Int) (hn : m 0 22 ≤ 32) (hs : Ok (f_succFirst i m) (fun _ => True)) : Ok (f_succReaches i m) (fun _ => True) := by
  unfold f_succReaches
  refine Ok.bind hs fun r _ => ?_
  refine Ok.bind (own_ss m i hn) fun r2 _ => ?_
  repeat' (first | ((with_reducible refine Ok.grd ?_ ?_); (focus (first | omega | ((try simp only [w32_al, w32_ar, w32_sl, w32_sr, w32_m4, w32_m6, w32_m10, w32_m16, w32_m24]); (repeat rw [w32_id (by omega)]); omega) | ((try simp only [w32_al, w32_ar, w32_sl, w32_sr, w32_m4, w32_m6, w32_m10, w32_m16, w32_m24]); unfold w32; omega) | (simp [sto, z0_at, w32]; done) | (simp [sto, z0_at, w32]; omega)))) | ((with_reducible refine Ok.ite (fun h => ?_) (fun h => ?_)) <;> (try simp [sto, z0_at, w32] at h) <;> (try (exfalso; omega))) | (with_reducible refine Ok.bind' ?_) | ((with_reducible refine Ok.ret ?_); (try dsimp only)) | (with_reducible refine Ok.lpNN ?_) | (with_reducible refine Ok.lp1 ?_) | (with_reducible refine u_f_succReaches_b35 ?_) | (with_reducible refine u_f_succReaches_b60 ?_) | (with_reducible refine u_f_succReaches_b61 ?_))
  all_goals (first | trivial | omega | ((try simp only [w32_al, w32_ar, w32_sl, w32_sr, w32_m4, w32_m6, w32_m10, w32_m16, w32_m24]); (repeat rw [w32_id (by omega)]); omega) | ((try simp only [w32_al, w32_ar, w32_sl, w32_sr, w32_m4, w32_m6, w32_m10, w32_m16, w32_m24]); unfold w32; omega) | (simp [sto, z0_at, w32]; done) | (simp [sto, z0_at, w32]; omega))
set_option maxRecDepth 65536 in
set_option maxHeartbeats 16000000 in
theorem own_cr (m : OMem) (hn : 0 ≤ m 0 22 ∧ m 0 22 ≤ 32) (hs : ∀ m' i, own_Fj m m' → 0 ≤ i → i < m 0 22 → Ok (f_succFirst i m') (fun _ => True)) : Ok (f_computeReach m) (fun m' => own_Fj m m') := by
  unfold f_computeReach
  refine Ok.bind (P := fun m' => own_Fj m m') ?_ fun m1 hm1 => ?_
  · refine Ok.loop (fun s => 0 ≤ s.1 ∧ own_Fj m s.2) (fun s => (33 - s.1).toNat) ⟨by simp, fun _ _ _ _ _ => rfl⟩ (by simp) ?_
    rintro ⟨x, m1⟩ ⟨h1, h2⟩
    dsimp only at h1 h2
    have e22 : m1 0 22 = m 0 22 := h2 0 22 (by decide) (by decide) (by decide)
    repeat' (first | ((with_reducible refine Ok.grd ?_ ?_); (focus (first | omega | ((try simp only [w32_al, w32_ar, w32_sl, w32_sr, w32_m4, w32_m6, w32_m10, w32_m16, w32_m24]); (repeat rw [w32_id (by omega)]); omega) | ((try simp only [w32_al, w32_ar, w32_sl, w32_sr, w32_m4, w32_m6, w32_m10, w32_m16, w32_m24]); unfold w32; omega) | (simp [sto, z0_at, w32]; done) | (simp [sto, z0_at, w32]; omega)))) | ((with_reducible refine Ok.ite (fun h => ?_) (fun h => ?_)) <;> (try simp [sto, z0_at, w32] at h) <;> (try (exfalso; omega))) | (with_reducible refine Ok.bind' ?_) | ((with_reducible refine Ok.ret ?_); (try dsimp only)) | (with_reducible refine Ok.lpNN ?_) | (with_reducible refine Ok.lp1 ?_) | (with_reducible refine u_f_computeReach_l2 ?_) | (with_reducible refine u_f_computeReach_b28 ?_))
    · exact h2
    all_goals (rw [w32_id (by omega)]; exact ⟨⟨by omega, own_Fj17 _ _ h2⟩, by omega⟩)
  · refine Ok.bind (P := fun e => match e with | .inl m' => own_Fj m m' | .inr m' => own_Fj m m') ?_ fun e he => ?_
    · refine Ok.loop (fun s => 0 ≤ s.1 ∧ own_Fj m s.2) (fun s => (40 - s.1).toNat) ⟨by simp, hm1⟩ (by simp) ?_
      rintro ⟨x, m1⟩ ⟨h1, h2⟩
      dsimp only at h1 h2
      have e22 : m1 0 22 = m 0 22 := h2 0 22 (by decide) (by decide) (by decide)
      unfold f_computeReach_l37
      dsimp only
      refine Ok.ite (fun hx => ?_) (fun hx => Ok.ret h2)
      refine Ok.bind (P := fun r => own_Fj m r.2) ?_ fun r hr => ?_
      · refine Ok.loop (fun s => -1 ≤ s.2.1 ∧ s.2.1 < m 0 22 ∧ own_Fj m s.2.2) (fun s => (s.2.1 + 1).toNat) ⟨?_, ?_, h2⟩ ?_ ?_
        · dsimp only; rw [w32_id (by omega)]; omega
        · dsimp only; rw [w32_id (by omega)]; omega
        · dsimp only; rw [w32_id (by omega)]; omega
        rintro ⟨x2, x3, m2⟩ ⟨g1, g2, g3⟩
        dsimp only at g1 g2 g3
        have e2 : m2 0 22 = m 0 22 := g3 0 22 (by decide) (by decide) (by decide)
        unfold f_computeReach_l52 f_computeReach_b82
        dsimp only
        refine Ok.ite (fun hx => Ok.ret g3) (fun hx => ?_)
        refine Ok.grd (by omega) ?_
        refine Ok.ite (fun hy => ?_) (fun hy => ?_)
        · refine Ok.bind (own_sr m2 x3 (by omega) (hs m2 x3 g3 (by omega) (by omega))) fun r _ => ?_
          refine Ok.ite (fun hz => ?_) (fun hz => Ok.grd (by omega) ?_)
          · refine Ok.ret ?_
            dsimp only
            rw [w32_id (by omega)]
            exact ⟨⟨by omega, by omega, g3⟩, by omega⟩
          · refine Ok.ret ?_
            dsimp only
            rw [w32_id (by omega)]
            exact ⟨⟨by omega, by omega, own_Fj17 _ _ g3⟩, by omega⟩
        · refine Ok.ret ?_
          dsimp only
          rw [w32_id (by omega)]
          exact ⟨⟨by omega, by omega, g3⟩, by omega⟩
      · obtain ⟨a, m2⟩ := r
        dsimp only at hr ⊢
        refine Ok.ite (fun hz => Ok.ret hr) (fun hz => Ok.ret ?_)
        dsimp only
        rw [w32_id (by omega)]
        exact ⟨⟨by omega, hr⟩, by omega⟩
    · unfold f_computeReach_b101
      cases e with
      | inl m' => exact Ok.ret he
      | inr m' => exact Ok.ret he
set_option maxRecDepth 65536 in
set_option maxHeartbeats 16000000 in
theorem own_ms (m : OMem) (i : Int) (hn : m 0 22 ≤ 32) (hs : Ok (f_succFirst i m) (fun _ => True)) : Ok (f_meetSucc i m) (fun _ => True) := by
  unfold f_meetSucc f_allMask
  refine Ok.bind (P := fun _ => True) (Ok.ret trivial) fun r0 _ => ?_
  refine Ok.bind hs fun r _ => ?_
  refine Ok.bind (own_ss m i hn) fun r2 _ => ?_
  repeat' (first | ((with_reducible refine Ok.grd ?_ ?_); (focus (first | omega | ((try simp only [w32_al, w32_ar, w32_sl, w32_sr, w32_m4, w32_m6, w32_m10, w32_m16, w32_m24]); (repeat rw [w32_id (by omega)]); omega) | ((try simp only [w32_al, w32_ar, w32_sl, w32_sr, w32_m4, w32_m6, w32_m10, w32_m16, w32_m24]); unfold w32; omega) | (simp [sto, z0_at, w32]; done) | (simp [sto, z0_at, w32]; omega)))) | ((with_reducible refine Ok.ite (fun h => ?_) (fun h => ?_)) <;> (try simp [sto, z0_at, w32] at h) <;> (try (exfalso; omega))) | (with_reducible refine Ok.bind' ?_) | ((with_reducible refine Ok.ret ?_); (try dsimp only)) | (with_reducible refine Ok.lpNN ?_) | (with_reducible refine Ok.lp1 ?_) | (with_reducible refine u_f_meetSucc_b53 ?_) | (with_reducible refine u_f_meetSucc_b87 ?_))
  all_goals (first | trivial | omega | ((try simp only [w32_al, w32_ar, w32_sl, w32_sr, w32_m4, w32_m6, w32_m10, w32_m16, w32_m24]); (repeat rw [w32_id (by omega)]); omega) | ((try simp only [w32_al, w32_ar, w32_sl, w32_sr, w32_m4, w32_m6, w32_m10, w32_m16, w32_m24]); unfold w32; omega) | (simp [sto, z0_at, w32]; done) | (simp [sto, z0_at, w32]; omega))
set_option maxRecDepth 65536 in
set_option maxHeartbeats 16000000 in
theorem own_cp (m : OMem) (hn : 0 ≤ m 0 22 ∧ m 0 22 ≤ 32) (hs : ∀ m' i, own_Fj m m' → 0 ≤ i → i < m 0 22 → Ok (f_succFirst i m') (fun _ => True)) : Ok (f_computePdom m) (fun m' => own_Fj m m') := by
  unfold f_computePdom f_allMask
  refine Ok.bind (P := fun _ => True) (Ok.ret trivial) fun r0 _ => ?_
  refine Ok.bind (P := fun m' => own_Fj m m') ?_ fun m1 hm1 => ?_
  · refine Ok.loop (fun s => 0 ≤ s.1 ∧ own_Fj m s.2) (fun s => (33 - s.1).toNat) ⟨by simp, fun _ _ _ _ _ => rfl⟩ (by simp) ?_
    rintro ⟨x, m1⟩ ⟨h1, h2⟩
    dsimp only at h1 h2
    have e22 : m1 0 22 = m 0 22 := h2 0 22 (by decide) (by decide) (by decide)
    repeat' (first | ((with_reducible refine Ok.grd ?_ ?_); (focus (first | omega | ((try simp only [w32_al, w32_ar, w32_sl, w32_sr, w32_m4, w32_m6, w32_m10, w32_m16, w32_m24]); (repeat rw [w32_id (by omega)]); omega) | ((try simp only [w32_al, w32_ar, w32_sl, w32_sr, w32_m4, w32_m6, w32_m10, w32_m16, w32_m24]); unfold w32; omega) | (simp [sto, z0_at, w32]; done) | (simp [sto, z0_at, w32]; omega)))) | ((with_reducible refine Ok.ite (fun h => ?_) (fun h => ?_)) <;> (try simp [sto, z0_at, w32] at h) <;> (try (exfalso; omega))) | (with_reducible refine Ok.bind' ?_) | ((with_reducible refine Ok.ret ?_); (try dsimp only)) | (with_reducible refine Ok.lpNN ?_) | (with_reducible refine Ok.lp1 ?_) | (with_reducible refine u_f_computePdom_l7 ?_) | (with_reducible refine u_f_computePdom_b34 ?_))
    · rw [w32_id (by omega)]; exact ⟨⟨by omega, own_Fj18 _ _ h2⟩, by omega⟩
    · rw [w32_id (by omega)]; exact ⟨⟨by omega, own_Fj18 _ _ h2⟩, by omega⟩
    · exact h2
  · have e22 : m1 0 22 = m 0 22 := hm1 0 22 (by decide) (by decide) (by decide)
    refine Ok.grd (by omega) ?_
    refine Ok.bind (P := fun e => match e with | .inl m' => own_Fj m m' | .inr m' => own_Fj m m') ?_ fun e he => ?_
    · refine Ok.loop (fun s => 0 ≤ s.1 ∧ own_Fj m s.2) (fun s => (1200 - s.1).toNat) ⟨by simp, own_Fj18 _ _ hm1⟩ (by simp) ?_
      rintro ⟨x, m1⟩ ⟨h1, h2⟩
      dsimp only at h1 h2
      have e22 : m1 0 22 = m 0 22 := h2 0 22 (by decide) (by decide) (by decide)
      unfold f_computePdom_l58
      dsimp only
      refine Ok.ite (fun hx => ?_) (fun hx => Ok.ret h2)
      refine Ok.bind (P := fun r => own_Fj m r.2) ?_ fun r hr => ?_
      · refine Ok.loop (fun s => -1 ≤ s.2.1 ∧ s.2.1 < m 0 22 ∧ own_Fj m s.2.2) (fun s => (s.2.1 + 1).toNat) ⟨?_, ?_, h2⟩ ?_ ?_
        · dsimp only; rw [w32_id (by omega)]; omega
        · dsimp only; rw [w32_id (by omega)]; omega
        · dsimp only; rw [w32_id (by omega)]; omega
        rintro ⟨x2, x3, m2⟩ ⟨g1, g2, g3⟩
        dsimp only at g1 g2 g3
        have e2 : m2 0 22 = m 0 22 := g3 0 22 (by decide) (by decide) (by decide)
        unfold f_computePdom_l76 f_computePdom_b129
        dsimp only
        refine Ok.ite (fun hx => Ok.ret g3) (fun hx => ?_)
        refine Ok.grd (by omega) ?_
        refine Ok.ite (fun hy => ?_) (fun hy => ?_)
        · refine Ok.ret ?_
          dsimp only
          rw [w32_id (by omega)]
          exact ⟨⟨by omega, by omega, g3⟩, by omega⟩
        · refine Ok.bind (own_ms m2 x3 (by omega) (hs m2 x3 g3 (by omega) (by omega))) fun r _ => ?_
          refine Ok.grd (by omega) ?_
          refine Ok.ite (fun hz => ?_) (fun hz => Ok.grd (by omega) ?_)
          · refine Ok.ret ?_
            dsimp only
            rw [w32_id (by omega)]
            exact ⟨⟨by omega, by omega, g3⟩, by omega⟩
          · refine Ok.ret ?_
            dsimp only
            rw [w32_id (by omega)]
            exact ⟨⟨by omega, by omega, own_Fj18 _ _ g3⟩, by omega⟩
      · obtain ⟨a, m2⟩ := r
        dsimp only at hr ⊢
        refine Ok.ite (fun hz => Ok.ret hr) (fun hz => Ok.ret ?_)
        dsimp only
        rw [w32_id (by omega)]
        exact ⟨⟨by omega, hr⟩, by omega⟩
    · unfold f_computePdom_b149
      cases e with
      | inl m' => exact Ok.ret he
      | inr m' => exact Ok.ret he
set_option maxRecDepth 65536 in
set_option maxHeartbeats 16000000 in
theorem own_pj (m : OMem) (i : Int) (hn : 0 ≤ m 0 22 ∧ m 0 22 ≤ 32) (hi : 0 ≤ i ∧ i < m 0 22) : Ok (f_pickJoin i m) (fun r => 0 ≤ r ∧ r ≤ m 0 22) := by
  unfold f_pickJoin
  refine Ok.grd (by omega) ?_
  refine Ok.ite (fun h => Ok.ret (by omega)) (fun h => Ok.grd (by omega) ?_)
  refine Ok.bind (P := fun e => match e with | .inl d => 0 ≤ d ∧ d ≤ m 0 22 | .inr _ => True) ?_ fun e he => ?_
  · refine Ok.loop (fun s => 0 ≤ s) (fun s => (33 - s).toNat) (by simp) (by simp) ?_
    intro x h1
    repeat' (first | ((with_reducible refine Ok.grd ?_ ?_); (focus (first | omega | ((try simp only [w32_al, w32_ar, w32_sl, w32_sr, w32_m4, w32_m6, w32_m10, w32_m16, w32_m24]); (repeat rw [w32_id (by omega)]); omega) | ((try simp only [w32_al, w32_ar, w32_sl, w32_sr, w32_m4, w32_m6, w32_m10, w32_m16, w32_m24]); unfold w32; omega) | (simp [sto, z0_at, w32]; done) | (simp [sto, z0_at, w32]; omega)))) | ((with_reducible refine Ok.ite (fun h => ?_) (fun h => ?_)) <;> (try simp [sto, z0_at, w32] at h) <;> (try (exfalso; omega))) | (with_reducible refine Ok.bind' ?_) | ((with_reducible refine Ok.ret ?_); (try dsimp only)) | (with_reducible refine Ok.lpNN ?_) | (with_reducible refine Ok.lp1 ?_) | (with_reducible refine u_f_pickJoin_l32 ?_) | (with_reducible refine u_f_pickJoin_b67 ?_))
    all_goals (first | trivial | omega | (rw [w32_id (by omega)]; omega))
  · cases e with
    | inl d => exact Ok.ret he
    | inr _ => exact Ok.ret (by omega)
set_option maxRecDepth 65536 in
set_option maxHeartbeats 16000000 in
theorem own_cj (m : OMem) (hn : 0 ≤ m 0 22 ∧ m 0 22 ≤ 32) (hs : ∀ m' i, own_Fj m m' → 0 ≤ i → i < m 0 22 → Ok (f_succFirst i m') (fun _ => True)) : Ok (f_computeJoins m) (fun m' => own_Fj m m') := by
  unfold f_computeJoins
  refine Ok.bind (own_cr m hn hs) fun m1 h1 => ?_
  have e1 : m1 0 22 = m 0 22 := h1 0 22 (by decide) (by decide) (by decide)
  refine Ok.bind (own_cp m1 (by omega) fun m' i a b c => hs m' i (fun k j x y z => (a k j x y z).trans (h1 k j x y z)) b (by omega)) fun m2 h2 => ?_
  refine Ok.bind (P := fun m' => own_Fj m m') ?_ fun m3 h3 => Ok.ret h3
  refine Ok.loop (fun s => 0 ≤ s.1 ∧ own_Fj m s.2) (fun s => (32 - s.1).toNat) ⟨by simp, fun k j x y z => (h2 k j x y z).trans (h1 k j x y z)⟩ (by simp) ?_
  rintro ⟨x, m1⟩ ⟨h1, h2⟩
  dsimp only at h1 h2
  have e22 : m1 0 22 = m 0 22 := h2 0 22 (by decide) (by decide) (by decide)
  unfold f_computeJoins_l10
  dsimp only
  refine Ok.ite (fun hx => ?_) (fun hx => Ok.ret h2)
  refine Ok.bind (own_pj m1 x (by omega) (by omega)) fun r hr => ?_
  refine Ok.grd (by omega) (Ok.ret ?_)
  dsimp only
  rw [w32_id (by omega)]
  exact ⟨⟨by omega, own_Fj16 _ _ h2⟩, by omega⟩

/- the figures -/
abbrev own_S (m : OMem) (n : Int) : Prop := m 0 18 = 16 ∧ m 0 19 = 8 ∧ m 0 22 = n ∧ 0 ≤ n ∧ n ≤ 16 ∧ 0 ≤ m 0 24 ∧ m 0 24 ≤ 16 ∧ 0 ≤ m 0 25 ∧ m 0 25 ≤ 32 ∧ 0 ≤ m 0 26 ∧ m 0 26 ≤ 16
/- the labels -/
def own_L (m : OMem) : Prop := (∀ i, 0 ≤ m 6 i ∧ m 6 i ≤ 3) ∧ (∀ i, 0 ≤ m 8 i ∧ m 8 i ≤ 3) ∧ (∀ i, 0 ≤ m 9 i ∧ m 9 i ≤ 3) ∧ (∀ i, 0 ≤ m 11 i ∧ m 11 i ≤ 3) ∧ (∀ i, 0 ≤ m 15 i ∧ m 15 i ≤ 3)
def own_A (m : OMem) (n : Int) : Prop := ∀ i, 0 ≤ i → i < m 0 26 → 0 ≤ m 13 i ∧ m 13 i < n
def own_J (m : OMem) (n : Int) : Prop := ∀ i, 0 ≤ i → i < n → 0 ≤ m 16 i ∧ m 16 i ≤ n ∧ m 16 i ≠ i
set_option maxRecDepth 65536 in
set_option maxHeartbeats 16000000 in
theorem own_L1 {m : OMem} {k : Nat} {i z : Int} (h : own_L m) (hk : k ≠ 6 ∧ k ≠ 8 ∧ k ≠ 9 ∧ k ≠ 11 ∧ k ≠ 15 ∨ 0 ≤ z ∧ z ≤ 3) : own_L (sto m k i z) := by
  obtain ⟨a, b, c, d, e⟩ := h
  refine ⟨fun j => ?_, fun j => ?_, fun j => ?_, fun j => ?_, fun j => ?_⟩
  all_goals (simp only [sto]; split)
  · omega
  · exact a j
  · omega
  · exact b j
  · omega
  · exact c j
  · omega
  · exact d j
  · omega
  · exact e j
set_option maxRecDepth 65536 in
set_option maxHeartbeats 16000000 in
theorem own_A1 {m : OMem} {n : Int} {k : Nat} {i z : Int} (h : own_A m n) (hk : k ≠ 13 ∧ (k = 0 → i ≠ 26)) : own_A (sto m k i z) n := by
  intro j a b
  have e1 : sto m k i z 0 26 = m 0 26 := by
    by_cases q : k = 0
    · subst q; exact sto_i _ _ _ _ (fun r => hk.2 rfl r.symm)
    · exact sto_k _ _ _ _ (fun r => q r.symm)
  rw [e1] at b
  rw [sto_k _ _ _ _ (fun r => hk.1 r.symm)]
  exact h j a b
set_option maxRecDepth 65536 in
set_option maxHeartbeats 16000000 in
theorem own_A2 {m : OMem} {n p : Int} (h : own_A m n) (hp : 0 ≤ p ∧ p < n) (h26 : 0 ≤ m 0 26 ∧ m 0 26 < 16) (m' : OMem) (e1 : ∀ i, m' 13 i = if i = m 0 26 then p else m 13 i) (e2 : m' 0 26 = m 0 26 + 1) : own_A m' n := by
  intro j a b
  rw [e2] at b
  rw [e1]
  split
  · exact hp
  · exact h j a (by omega)
set_option maxRecDepth 65536 in
set_option maxHeartbeats 16000000 in
theorem own_J1 {m : OMem} {n : Int} {k : Nat} {i z : Int} (h : own_J m n) (hk : k ≠ 16) : own_J (sto m k i z) n := by
  intro j a b
  rw [sto_k _ _ _ _ (fun r => hk r.symm)]
  exact h j a b
set_option maxRecDepth 65536 in
set_option maxHeartbeats 16000000 in
theorem own_or_dec : ∀ a b : Fin 4, 0 ≤ or32 (a.val : Int) (b.val : Int) ∧ or32 (a.val : Int) (b.val : Int) ≤ 3 := by decide +kernel
set_option maxRecDepth 65536 in
set_option maxHeartbeats 16000000 in
theorem own_or (a b : Int) (ha : 0 ≤ a ∧ a ≤ 3) (hb : 0 ≤ b ∧ b ≤ 3) : 0 ≤ or32 a b ∧ or32 a b ≤ 3 := by
  have := own_or_dec ⟨a.toNat, by omega⟩ ⟨b.toNat, by omega⟩
  simp only [Int.toNat_of_nonneg ha.1, Int.toNat_of_nonneg hb.1] at this
  exact this
/- what a step asks and keeps -/
abbrev own_Q (m : OMem) (n : Int) : Prop := own_S m n ∧ own_L m ∧ own_A m n ∧ own_J m n
set_option maxRecDepth 65536 in
set_option maxHeartbeats 16000000 in
theorem own_QS {m : OMem} {n : Int} {k : Nat} {i z : Int} (h : own_Q m n) (hk : k ≠ 0 ∧ k ≠ 13 ∧ k ≠ 16) (hl : k ≠ 6 ∧ k ≠ 8 ∧ k ≠ 9 ∧ k ≠ 11 ∧ k ≠ 15 ∨ 0 ≤ z ∧ z ≤ 3) : own_Q (sto m k i z) n := by
  obtain ⟨hS, hL, hA, hJ⟩ := h
  refine ⟨?_, own_L1 hL hl, own_A1 hA ⟨hk.2.1, fun q => absurd q hk.1⟩, own_J1 hJ hk.2.2⟩
  have e : ∀ j, sto m k i z 0 j = m 0 j := fun j => sto_k _ _ _ _ (fun r => hk.1 r.symm)
  simp only [own_S, e]
  exact hS
set_option maxRecDepth 65536 in
set_option maxHeartbeats 16000000 in
theorem own_QF {m : OMem} {n i z : Int} (h : own_Q m n) (hi : (i ≠ 18 ∧ i ≠ 19 ∧ i ≠ 22 ∧ i ≠ 24 ∧ i ≠ 25 ∧ i ≠ 26) ∨ (i = 24 ∧ 0 ≤ z ∧ z ≤ 16) ∨ (i = 25 ∧ 0 ≤ z ∧ z ≤ 32)) : own_Q (sto m 0 i z) n := by
  obtain ⟨⟨s1, s2, s3, s4, s5, s6, s7, s8, s9, s10, s11⟩, hL, hA, hJ⟩ := h
  refine ⟨⟨?_, ?_, ?_, ?_, ?_, ?_, ?_, ?_, ?_, ?_, ?_⟩, own_L1 hL (Or.inl (by decide)), own_A1 hA ⟨by decide, fun _ => by omega⟩, own_J1 hJ (by decide)⟩
  all_goals (try simp only [sto])
  all_goals (first | omega | (split <;> omega))
set_option maxRecDepth 65536 in
set_option maxHeartbeats 16000000 in
theorem own_QA {m : OMem} {n p v lv : Int} (h : own_Q m n) (hp : 0 ≤ p ∧ p < n) (h26 : m 0 26 < 16) (hlv : 0 ≤ lv ∧ lv ≤ 3) : own_Q (sto (sto (sto (sto m 13 (m 0 26) p) 14 (m 0 26) v) 15 (m 0 26) lv) 0 26 (w32 (m 0 26 + 1))) n := by
  obtain ⟨⟨s1, s2, s3, s4, s5, s6, s7, s8, s9, s10, s11⟩, hL, hA, hJ⟩ := h
  rw [w32_id (z := m 0 26 + 1) (by omega)]
  refine ⟨?_, own_L1 (own_L1 (own_L1 (own_L1 hL (Or.inl (by decide))) (Or.inl (by decide))) (Or.inr hlv)) (Or.inl (by decide)), ?_, own_J1 (own_J1 (own_J1 (own_J1 hJ (by decide)) (by decide)) (by decide)) (by decide)⟩
  · simp [own_S, sto]; omega
  · exact own_A2 hA hp ⟨s10, h26⟩ _ (fun i => by simp [sto]) (by simp [sto])
abbrev own_R (m : OMem) (n : Int) (r : Int × OMem) : Prop := own_Q r.2 n ∧ r.2 0 20 = m 0 20 ∧ r.2 0 23 = m 0 23 ∧ 0 ≤ r.1 ∧ r.1 ≤ 5 ∧ (r.1 = 0 → 0 ≤ r.2 0 27 ∧ r.2 0 27 ≤ n) ∧ m 0 25 ≤ r.2 0 25 ∧ m 0 26 ≤ r.2 0 26 ∧ r.2 0 25 + r.2 0 26 ≤ m 0 25 + m 0 26 + (if r.1 = 0 then 1 else 0)
set_option maxRecDepth 65536 in
set_option maxHeartbeats 16000000 in
theorem own_ro (m : OMem) (n : Int) (r : Int) (h : own_Q m n) (hr : 1 ≤ r ∧ r ≤ 5) : own_R m n (r, m) := by
  refine ⟨h, rfl, rfl, ?_, ?_, ?_, ?_, ?_, ?_⟩
  all_goals (try dsimp only)
  all_goals (first | omega | (rw [if_neg (by omega)]; omega))
set_option maxRecDepth 65536 in
set_option maxHeartbeats 16000000 in
theorem own_R0 {m m' : OMem} {n : Int} (h : own_Q m' n) (e20 : m' 0 20 = m 0 20) (e23 : m' 0 23 = m 0 23) (e27 : 0 ≤ m' 0 27 ∧ m' 0 27 ≤ n) (e25 : m 0 25 ≤ m' 0 25) (e26 : m 0 26 ≤ m' 0 26) (es : m' 0 25 + m' 0 26 ≤ m 0 25 + m 0 26 + 1) : own_R m n (0, m') := by
  refine ⟨h, e20, e23, ?_, ?_, fun _ => e27, e25, e26, ?_⟩
  all_goals (try dsimp only)
  · omega
  · omega
  · rw [if_pos rfl]; exact es
set_option maxRecDepth 65536 in
set_option maxHeartbeats 16000000 in
theorem own_cl (m : OMem) (n : Int) (h : own_Q m n) : Ok (f_curLabel m) (fun r => (0 ≤ r ∧ r ≤ 3) ∧ (m 0 24 = 0 → r = 0)) := by
  obtain ⟨⟨s1, s2, s3, s4, s5, s6, s7, s8, s9, s10, s11⟩, hL, _, _⟩ := h
  unfold f_curLabel
  refine Ok.ite (fun a => ?_) (fun a => Ok.ret ⟨by omega, fun _ => rfl⟩)
  rw [w32_id (by omega)]
  exact Ok.grd (by omega) (Ok.ret ⟨hL.2.2.1 _, fun q => by omega⟩)
set_option maxRecDepth 65536 in
set_option maxHeartbeats 16000000 in
theorem own_fl (m : OMem) (x y : Int) : Ok (f_flows x y m) (fun _ => True) := by
  repeat' (first | ((with_reducible refine Ok.grd ?_ ?_); (focus (first | omega | ((try simp only [w32_al, w32_ar, w32_sl, w32_sr, w32_m4, w32_m6, w32_m10, w32_m16, w32_m24]); (repeat rw [w32_id (by omega)]); omega) | ((try simp only [w32_al, w32_ar, w32_sl, w32_sr, w32_m4, w32_m6, w32_m10, w32_m16, w32_m24]); unfold w32; omega) | (simp [sto, z0_at, w32]; done) | (simp [sto, z0_at, w32]; omega)))) | ((with_reducible refine Ok.ite (fun h => ?_) (fun h => ?_)) <;> (try simp [sto, z0_at, w32] at h) <;> (try (exfalso; omega))) | (with_reducible refine Ok.bind' ?_) | ((with_reducible refine Ok.ret ?_); (try dsimp only)) | (with_reducible refine Ok.lpNN ?_) | (with_reducible refine Ok.lp1 ?_) | (with_reducible refine u_f_flows ?_) | (with_reducible refine u_f_flows_b12 ?_))
  all_goals (first | trivial | omega | ((try simp only [w32_al, w32_ar, w32_sl, w32_sr, w32_m4, w32_m6, w32_m10, w32_m16, w32_m24]); (repeat rw [w32_id (by omega)]); omega) | ((try simp only [w32_al, w32_ar, w32_sl, w32_sr, w32_m4, w32_m6, w32_m10, w32_m16, w32_m24]); unfold w32; omega) | (simp [sto, z0_at, w32]; done) | (simp [sto, z0_at, w32]; omega))
set_option maxRecDepth 65536 in
set_option maxHeartbeats 16000000 in
theorem own_tg (m : OMem) (n x : Int) (h : own_Q m n) : Ok (f_target x m) (fun r => 0 ≤ r ∧ r ≤ n) := by
  obtain ⟨⟨s1, s2, s3, s4, s5, s6, s7, s8, s9, s10, s11⟩, hL, _, _⟩ := h
  repeat' (first | ((with_reducible refine Ok.grd ?_ ?_); (focus (first | omega | ((try simp only [w32_al, w32_ar, w32_sl, w32_sr, w32_m4, w32_m6, w32_m10, w32_m16, w32_m24]); (repeat rw [w32_id (by omega)]); omega) | ((try simp only [w32_al, w32_ar, w32_sl, w32_sr, w32_m4, w32_m6, w32_m10, w32_m16, w32_m24]); unfold w32; omega) | (simp [sto, z0_at, w32]; done) | (simp [sto, z0_at, w32]; omega)))) | ((with_reducible refine Ok.ite (fun h => ?_) (fun h => ?_)) <;> (try simp [sto, z0_at, w32] at h) <;> (try (exfalso; omega))) | (with_reducible refine Ok.bind' ?_) | ((with_reducible refine Ok.ret ?_); (try dsimp only)) | (with_reducible refine Ok.lpNN ?_) | (with_reducible refine Ok.lp1 ?_) | (with_reducible refine u_f_target ?_) | (with_reducible refine u_f_target_b14 ?_))
  all_goals (first | trivial | omega | ((try simp only [w32_al, w32_ar, w32_sl, w32_sr, w32_m4, w32_m6, w32_m10, w32_m16, w32_m24]); (repeat rw [w32_id (by omega)]); omega) | ((try simp only [w32_al, w32_ar, w32_sl, w32_sr, w32_m4, w32_m6, w32_m10, w32_m16, w32_m24]); unfold w32; omega) | (simp [sto, z0_at, w32]; done) | (simp [sto, z0_at, w32]; omega))
set_option maxRecDepth 65536 in
set_option maxHeartbeats 16000000 in
theorem own_wr (m : OMem) (n x y z : Int) (h : own_Q m n) (h27 : 0 ≤ m 0 27 ∧ m 0 27 ≤ n) (hz : 0 ≤ z ∧ z ≤ 3) : Ok (f_writeReg x y z m) (own_R m n) := by
  unfold f_writeReg
  refine Ok.bind (own_cl m n h) fun r hr => ?_
  have ho := own_or r z hr.1 hz
  refine Ok.grd (by rw [and32_7]; omega) (Ok.bind (own_fl _ _ _) fun q _ => ?_)
  refine Ok.ite (fun _ => Ok.ret (own_ro m n 1 h (by omega))) (fun _ => ?_)
  refine Ok.grd (by rw [and32_7]; omega) (Ok.grd (by rw [and32_7]; omega) (Ok.ret ?_))
  exact own_R0 (own_QS (own_QS h (by decide) (Or.inl (by decide))) (by decide) (Or.inr ho)) (by simp [sto]) (by simp [sto]) (by simp [sto]; omega) (by simp [sto]) (by simp [sto]) (by simp [sto]; omega)
set_option maxRecDepth 65536 in
set_option maxHeartbeats 16000000 in
theorem own_ar (m : OMem) (n p o : Int) (h : own_Q m n) (h27 : 0 ≤ m 0 27 ∧ m 0 27 ≤ n) (hp : 0 ≤ p ∧ p < n) : Ok (f_execArith p o m) (own_R m n) := by
  have l6 := h.2.1.1
  have hn := h.1.2.2.2.2.1
  have hW : ∀ a b c, 0 ≤ c ∧ c ≤ 3 → Ok ((f_writeReg a b c m).bind fun (r_33, m_34) => (some (r_33, m_34))) (own_R m n) := fun a b c hc => Ok.bind (own_wr m n a b c h h27 hc) fun r hr => Ok.ret hr
  repeat' (first | (exact hW _ _ _ (own_or _ _ (l6 _) (l6 _))) | ((with_reducible refine Ok.grd ?_ ?_); (focus (first | omega | ((try simp only [w32_al, w32_ar, w32_sl, w32_sr, w32_m4, w32_m6, w32_m10, w32_m16, w32_m24]); (repeat rw [w32_id (by omega)]); omega) | ((try simp only [w32_al, w32_ar, w32_sl, w32_sr, w32_m4, w32_m6, w32_m10, w32_m16, w32_m24]); unfold w32; omega) | (simp [sto, z0_at, w32, and32_7, and32_3]; done) | (simp [sto, z0_at, w32, and32_7, and32_3]; omega)))) | ((with_reducible refine Ok.ite (fun h => ?_) (fun h => ?_)) <;> (try simp [sto, z0_at, w32, and32_7, and32_3] at h) <;> (try (exfalso; omega))) | (with_reducible refine Ok.bind' ?_) | ((with_reducible refine Ok.ret ?_); (try dsimp only)) | (with_reducible refine Ok.lpNN ?_) | (with_reducible refine Ok.lp1 ?_) | (with_reducible refine u_f_execArith ?_) | (with_reducible refine u_f_execArith_b136 ?_) | (with_reducible refine u_f_execArith_b117 ?_) | (with_reducible refine u_f_execArith_b134 ?_))
set_option maxRecDepth 65536 in
set_option maxHeartbeats 16000000 in
theorem own_mv (m : OMem) (n p : Int) (h : own_Q m n) (h27 : 0 ≤ m 0 27 ∧ m 0 27 ≤ n) (hp : 0 ≤ p ∧ p < n) : Ok (f_execMov p m) (own_R m n) := by
  have l6 := h.2.1.1
  have hn := h.1.2.2.2.2.1
  have hW : ∀ a b c, 0 ≤ c ∧ c ≤ 3 → Ok ((f_writeReg a b c m).bind fun (r_33, m_34) => (some (r_33, m_34))) (own_R m n) := fun a b c hc => Ok.bind (own_wr m n a b c h h27 hc) fun r hr => Ok.ret hr
  repeat' (first | (exact hW _ _ _ (l6 _)) | ((with_reducible refine Ok.grd ?_ ?_); (focus (first | omega | ((try simp only [w32_al, w32_ar, w32_sl, w32_sr, w32_m4, w32_m6, w32_m10, w32_m16, w32_m24]); (repeat rw [w32_id (by omega)]); omega) | ((try simp only [w32_al, w32_ar, w32_sl, w32_sr, w32_m4, w32_m6, w32_m10, w32_m16, w32_m24]); unfold w32; omega) | (simp [sto, z0_at, w32, and32_7, and32_3]; done) | (simp [sto, z0_at, w32, and32_7, and32_3]; omega)))) | ((with_reducible refine Ok.ite (fun h => ?_) (fun h => ?_)) <;> (try simp [sto, z0_at, w32, and32_7, and32_3] at h) <;> (try (exfalso; omega))) | (with_reducible refine Ok.bind' ?_) | ((with_reducible refine Ok.ret ?_); (try dsimp only)) | (with_reducible refine Ok.lpNN ?_) | (with_reducible refine Ok.lp1 ?_) | (with_reducible refine u_f_execMov ?_))
set_option maxRecDepth 65536 in
set_option maxHeartbeats 16000000 in
theorem own_ix (m : OMem) (n x : Int) (h : own_Q m n) : Ok (f_idx x m) (fun r => 0 ≤ r ∧ r < 8) := by
  have e19 := h.1.2.1
  unfold f_idx
  rw [e19]
  refine Ok.neg (by decide) (Ok.neg (by decide) (Ok.ret ?_))
  have h1 : -8 < Int.tmod x 8 ∧ Int.tmod x 8 < 8 := ⟨Int.lt_tmod_of_pos x (by decide), Int.tmod_lt_of_pos x (by decide)⟩
  have h2 : 0 ≤ w32 (rem32 x 8 + 8) := by unfold rem32; rw [w32_id (by omega)]; omega
  rw [rem32_nn h2]
  omega
set_option maxRecDepth 65536 in
set_option maxHeartbeats 16000000 in
theorem own_ld (m : OMem) (n p : Int) (h : own_Q m n) (h27 : 0 ≤ m 0 27 ∧ m 0 27 ≤ n) (hp : 0 ≤ p ∧ p < n) : Ok (f_execLoad p m) (own_R m n) := by
  have l6 := h.2.1.1
  have l8 := h.2.1.2.1
  have hn := h.1.2.2.2.2.1
  have hW : ∀ a b c, 0 ≤ c ∧ c ≤ 3 → Ok ((f_writeReg a b c m).bind fun (r_33, m_34) => (some (r_33, m_34))) (own_R m n) := fun a b c hc => Ok.bind (own_wr m n a b c h h27 hc) fun r hr => Ok.ret hr
  repeat' (first | (with_reducible refine Ok.bind (own_ix _ n _ h) fun r hr => ?_) | (exact hW _ _ _ (own_or _ _ (l6 _) (l8 _))) | ((with_reducible refine Ok.grd ?_ ?_); (focus (first | omega | ((try simp only [w32_al, w32_ar, w32_sl, w32_sr, w32_m4, w32_m6, w32_m10, w32_m16, w32_m24]); (repeat rw [w32_id (by omega)]); omega) | ((try simp only [w32_al, w32_ar, w32_sl, w32_sr, w32_m4, w32_m6, w32_m10, w32_m16, w32_m24]); unfold w32; omega) | (simp [sto, z0_at, w32, and32_7, and32_3]; done) | (simp [sto, z0_at, w32, and32_7, and32_3]; omega)))) | ((with_reducible refine Ok.ite (fun h => ?_) (fun h => ?_)) <;> (try simp [sto, z0_at, w32, and32_7, and32_3] at h) <;> (try (exfalso; omega))) | (with_reducible refine Ok.bind' ?_) | ((with_reducible refine Ok.ret ?_); (try dsimp only)) | (with_reducible refine Ok.lpNN ?_) | (with_reducible refine Ok.lp1 ?_) | (with_reducible refine u_f_execLoad ?_))
set_option maxRecDepth 65536 in
set_option maxHeartbeats 16000000 in
theorem own_st (m : OMem) (n p : Int) (h : own_Q m n) (h27 : 0 ≤ m 0 27 ∧ m 0 27 ≤ n) (hp : 0 ≤ p ∧ p < n) : Ok (f_execStore p m) (own_R m n) := by
  have l6 := h.2.1.1
  have hn := h.1.2.2.2.2.1
  have e19 := h.1.2.1
  have Lp : ∀ a b c, Ok (lp (f_execStore_l79 m a b c) NN 0) (fun _ => True) := by
    intro a b c
    refine Ok.loop (fun s => 0 ≤ s) (fun s => (32 - s).toNat) (by simp) (by simp) ?_
    intro x h1
    repeat' (first | (with_reducible refine Ok.bind (own_fl _ _ _) fun r hr => ?_) | ((with_reducible refine Ok.grd ?_ ?_); (focus (first | omega | ((try simp only [w32_al, w32_ar, w32_sl, w32_sr, w32_m4, w32_m6, w32_m10, w32_m16, w32_m24]); (repeat rw [w32_id (by omega)]); omega) | ((try simp only [w32_al, w32_ar, w32_sl, w32_sr, w32_m4, w32_m6, w32_m10, w32_m16, w32_m24]); unfold w32; omega) | (simp [sto, z0_at, w32]; done) | (simp [sto, z0_at, w32]; omega)))) | ((with_reducible refine Ok.ite (fun h => ?_) (fun h => ?_)) <;> (try simp [sto, z0_at, w32] at h) <;> (try (exfalso; omega))) | (with_reducible refine Ok.bind' ?_) | ((with_reducible refine Ok.ret ?_); (try dsimp only)) | (with_reducible refine Ok.lpNN ?_) | (with_reducible refine Ok.lp1 ?_) | (with_reducible refine u_f_execStore_l79 ?_))
    all_goals (first | trivial | omega | ((try simp only [w32_al, w32_ar, w32_sl, w32_sr, w32_m4, w32_m6, w32_m10, w32_m16, w32_m24]); (repeat rw [w32_id (by omega)]); omega) | ((try simp only [w32_al, w32_ar, w32_sl, w32_sr, w32_m4, w32_m6, w32_m10, w32_m16, w32_m24]); unfold w32; omega) | (simp [sto, z0_at, w32]; done) | (simp [sto, z0_at, w32]; omega))
  have b112 : ∀ a b c, 0 ≤ b ∧ b < 8 → 0 ≤ c ∧ c ≤ 3 → Ok (f_execStore_b112 (and32 a 7) b c m) (own_R m n) := by
    intro a b c hb hc
    have h7 : 0 ≤ and32 a 7 ∧ and32 a 7 < 8 := by rw [and32_7]; omega
    have ho := own_or c (m 6 (and32 a 7)) hc (l6 _)
    unfold f_execStore_b112
    refine Ok.grd h7 (Ok.grd (by omega) (Ok.grd h7 (Ok.grd (by omega) (Ok.ret ?_))))
    exact own_R0 (own_QS (own_QS h (by decide) (Or.inl (by decide))) (by decide) (Or.inr ho)) (by simp [sto]) (by simp [sto]) (by simp [sto]; omega) (by simp [sto]) (by simp [sto]) (by simp [sto]; omega)
  unfold f_execStore
  refine Ok.grd (by omega) (Ok.grd (by omega) (Ok.grd (by rw [and32_7]; omega) ?_))
  refine Ok.bind (own_ix _ n _ h) fun b hb => ?_
  refine Ok.bind (own_cl _ n h) fun r hr => ?_
  refine Ok.grd (by rw [and32_7]; omega) (Ok.grd (by rw [and32_7]; omega) ?_)
  refine Ok.ite (fun _ => ?_) (fun _ => ?_)
  · refine Ok.grd (by omega) (Ok.bind (own_fl _ _ _) fun q _ => ?_)
    exact Ok.ite (fun _ => Ok.ret (own_ro m n 1 h (by omega))) (fun _ => b112 _ _ _ hb (own_or _ _ hr.1 (l6 _)))
  · refine Ok.bind (Lp _ _ _) fun e _ => ?_
    cases e with
    | inl _ => exact Ok.ret (own_ro m n 1 h (by omega))
    | inr _ => exact b112 _ _ _ hb (own_or _ _ hr.1 (l6 _))
set_option maxRecDepth 65536 in
set_option maxHeartbeats 16000000 in
theorem own_br (m : OMem) (n p : Int) (h : own_Q m n) (h27 : 0 ≤ m 0 27 ∧ m 0 27 ≤ n) (hp : 0 ≤ p ∧ p < n) : Ok (f_execBranch p m) (own_R m n) := by
  have l6 := h.2.1.1
  have l9 := h.2.1.2.2.1
  have hn := h.1.2.2.2.2.1
  have hs := h.1.2.2.2.2.2
  have b122 : ∀ m' a, own_Q m' n → m' 0 20 = m 0 20 → m' 0 23 = m 0 23 → m' 0 25 = m 0 25 → m' 0 26 = m 0 26 → Ok (f_execBranch_b122 p (and32 a 7) m') (own_R m n) := by
    intro m' a h' e20 e23 e25 e26
    have fin : ∀ z, 0 ≤ z ∧ z ≤ n → Ok (f_execBranch_b155 (sto m' 0 27 z)) (own_R m n) := by
      intro z hz
      unfold f_execBranch_b155
      refine Ok.ret ?_
      exact own_R0 (own_QF h' (Or.inl (by omega))) (by simp [sto]; omega) (by simp [sto]; omega) (by simp [sto]; omega) (by simp [sto]; omega) (by simp [sto]; omega) (by simp [sto]; omega)
    unfold f_execBranch_b122
    refine Ok.grd (by rw [and32_7]; omega) (Ok.ite (fun _ => fin _ (by rw [w32_id (by omega)]; omega)) (fun _ => Ok.grd (by omega) ?_))
    exact Ok.bind (own_tg _ n _ h') fun r hr => fin _ hr
  have b80 : ∀ a c d, 0 ≤ c ∧ c ≤ 3 → Ok (f_execBranch_b80 p (and32 a 7) c d m) (own_R m n) := by
    intro a c d hc
    unfold f_execBranch_b80
    refine Ok.ite (fun h16 => Ok.grd (by omega) (Ok.grd (by omega) ?_)) (fun _ => Ok.ret (own_ro m n 4 h (by omega)))
    rw [w32_id (z := m 0 24 + 1) (by omega)]
    exact b122 _ _ (own_QF (own_QS (own_QS h (by decide) (Or.inr hc)) (by decide) (Or.inl (by decide))) (Or.inr (Or.inl ⟨rfl, by omega, by omega⟩))) (by simp [sto]) (by simp [sto]) (by simp [sto]) (by simp [sto])
  unfold f_execBranch
  refine Ok.grd (by omega) (Ok.bind (own_cl _ n h) fun r hr => ?_)
  have ho := fun a => own_or r (m 6 a) hr.1 (l6 a)
  refine Ok.grd (by rw [and32_7]; omega) (Ok.grd (by omega) (Ok.ite (fun h0 => ?_) (fun _ => b80 _ _ _ (ho _))))
  rw [w32_id (z := m 0 24 - 1) (by omega)]
  refine Ok.grd (by omega) (Ok.ite (fun _ => ?_) (fun _ => b80 _ _ _ (ho _)))
  refine Ok.grd (by omega) (Ok.grd (by omega) ?_)
  exact b122 _ _ (own_QS h (by decide) (Or.inr (own_or _ _ (l9 _) (ho _)))) (by simp [sto]) (by simp [sto]) (by simp [sto]) (by simp [sto])
set_option maxRecDepth 65536 in
set_option maxHeartbeats 16000000 in
theorem own_out (m : OMem) (n p : Int) (h : own_Q m n) (h27 : 0 ≤ m 0 27 ∧ m 0 27 ≤ n) (hp : 0 ≤ p ∧ p < n) : Ok (f_execOut p m) (own_R m n) := by
  have hn := h.1.2.2.2.2.1
  have hs := h.1.2.2.2.2.2
  unfold f_execOut
  refine Ok.grd (by omega) (Ok.grd (by omega) (Ok.bind (own_cl _ n h) fun r hr => ?_))
  refine Ok.grd (by rw [and32_7]; omega) (Ok.bind (own_fl _ _ _) fun q _ => ?_)
  refine Ok.ite (fun _ => Ok.ret (own_ro m n 2 h (by omega))) (fun _ => ?_)
  refine Ok.ite (fun h32 => ?_) (fun _ => Ok.ret (own_ro m n 5 h (by omega)))
  refine Ok.grd (by omega) (Ok.grd (by rw [and32_7]; omega) (Ok.grd (by omega) (Ok.ret ?_)))
  rw [w32_id (z := m 0 25 + 1) (by omega)]
  have h3 : 0 ≤ and32 (m 2 p) 3 ∧ and32 (m 2 p) 3 ≤ 3 := by rw [and32_3]; omega
  exact own_R0 (own_QF (own_QS (own_QS h (by decide) (Or.inr h3)) (by decide) (Or.inl (by decide))) (Or.inr (Or.inr ⟨rfl, by omega, by omega⟩))) (by simp [sto]) (by simp [sto]) (by simp [sto]; omega) (by simp [sto]; omega) (by simp [sto]) (by simp [sto]; omega)
set_option maxRecDepth 65536 in
set_option maxHeartbeats 16000000 in
theorem own_ra (m : OMem) (n p : Int) (h : own_Q m n) (h27 : 0 ≤ m 0 27 ∧ m 0 27 ≤ n) (hp : 0 ≤ p ∧ p < n) : Ok (f_execRaise p m) (own_R m n) := by
  have l6 := h.2.1.1
  have hn := h.1.2.2.2.2.1
  unfold f_execRaise
  refine Ok.grd (by omega) (Ok.grd (by rw [and32_7]; omega) (Ok.grd (by omega) (Ok.bind (own_cl _ n h) fun r hr => ?_)))
  refine Ok.grd (by rw [and32_7]; omega) (Ok.ret ?_)
  have h3 : 0 ≤ and32 (m 3 p) 3 ∧ and32 (m 3 p) 3 ≤ 3 := by rw [and32_3]; omega
  exact own_R0 (own_QS h (by decide) (Or.inr (own_or _ _ (own_or _ _ (l6 _) h3) hr.1))) (by simp [sto]) (by simp [sto]) (by simp [sto]; omega) (by simp [sto]) (by simp [sto]) (by simp [sto]; omega)
set_option maxRecDepth 65536 in
set_option maxHeartbeats 16000000 in
theorem own_de (m : OMem) (n p : Int) (h : own_Q m n) (h27 : 0 ≤ m 0 27 ∧ m 0 27 ≤ n) (hp : 0 ≤ p ∧ p < n) : Ok (f_execDeclass p m) (own_R m n) := by
  have hn := h.1.2.2.2.2.1
  have hs := h.1.2.2.2.2.2
  unfold f_execDeclass
  refine Ok.grd (by omega) (Ok.bind (own_cl _ n h) fun r hr => ?_)
  refine Ok.ite (fun _ => ?_) (fun _ => Ok.ret (own_ro m n 3 h (by omega)))
  refine Ok.ite (fun h16 => ?_) (fun _ => Ok.ret (own_ro m n 5 h (by omega)))
  refine Ok.grd (by omega) (Ok.grd (by omega) (Ok.grd (by rw [and32_7]; omega) (Ok.grd (by omega) (Ok.grd (by rw [and32_7]; omega) (Ok.grd (by omega) (Ok.grd (by omega) (Ok.grd (by rw [and32_7]; omega) (Ok.grd (by rw [and32_7]; omega) (Ok.ret ?_)))))))))
  have h3 : 0 ≤ and32 (m 4 p) 3 ∧ and32 (m 4 p) 3 ≤ 3 := by rw [and32_3]; omega
  have e := w32_id (z := m 0 26 + 1) (by omega)
  exact own_R0 (own_QS (own_QS (own_QA h hp h16 h3) (by decide) (Or.inl (by decide))) (by decide) (Or.inr h3)) (by simp [sto]) (by simp [sto]) (by simp [sto]; omega) (by simp [sto]) (by simp [sto]; omega) (by simp [sto]; omega)
set_option maxRecDepth 65536 in
set_option maxHeartbeats 16000000 in
theorem own_ex (m : OMem) (n p : Int) (h : own_Q m n) (h27 : 0 ≤ m 0 27 ∧ m 0 27 ≤ n) (hp : 0 ≤ p ∧ p < n) : Ok (f_execute p m) (own_R m n) := by
  have hn := h.1.2.2.2.2.1
  have hq := h
  have e22 := h.1.2.2.1
  have fin : ∀ z, 0 ≤ z ∧ z ≤ n → own_R m n (0, sto m 0 27 z) := by
    intro z hz
    exact own_R0 (own_QF h (Or.inl (by omega))) (by simp [sto]) (by simp [sto]) (by simp [sto]; omega) (by simp [sto]) (by simp [sto]) (by simp [sto]; omega)
  repeat' (first | (exact Ok.bind (own_wr m n _ _ 0 hq h27 (by decide)) fun r hr => Ok.ret hr) | (exact Ok.bind (own_mv m n _ hq h27 hp) fun r hr => Ok.ret hr) | (exact Ok.bind (own_ar m n _ _ hq h27 hp) fun r hr => Ok.ret hr) | (exact Ok.bind (own_ld m n _ hq h27 hp) fun r hr => Ok.ret hr) | (exact Ok.bind (own_st m n _ hq h27 hp) fun r hr => Ok.ret hr) | (exact Ok.bind (own_br m n _ hq h27 hp) fun r hr => Ok.ret hr) | (exact Ok.bind (own_out m n _ hq h27 hp) fun r hr => Ok.ret hr) | (exact Ok.bind (own_ra m n _ hq h27 hp) fun r hr => Ok.ret hr) | (exact Ok.bind (own_de m n _ hq h27 hp) fun r hr => Ok.ret hr) | (exact Ok.bind (own_tg m n _ hq) fun r hr => Ok.ret (fin _ hr)) | ((with_reducible refine Ok.grd ?_ ?_); (focus (first | omega | ((try simp only [w32_al, w32_ar, w32_sl, w32_sr, w32_m4, w32_m6, w32_m10, w32_m16, w32_m24]); (repeat rw [w32_id (by omega)]); omega) | ((try simp only [w32_al, w32_ar, w32_sl, w32_sr, w32_m4, w32_m6, w32_m10, w32_m16, w32_m24]); unfold w32; omega) | (simp [sto, z0_at, w32]; done) | (simp [sto, z0_at, w32]; omega)))) | ((with_reducible refine Ok.ite (fun h => ?_) (fun h => ?_)) <;> (try simp [sto, z0_at, w32] at h) <;> (try (exfalso; omega))) | (with_reducible refine Ok.bind' ?_) | ((with_reducible refine Ok.ret ?_); (try dsimp only)) | (with_reducible refine Ok.lpNN ?_) | (with_reducible refine Ok.lp1 ?_) | (with_reducible refine u_f_execute ?_) | (with_reducible refine u_f_execute_b170 ?_))
  all_goals (exact fin _ (by omega))
/- how the machine stands -/
abbrev own_T (m : OMem) (n : Int) : Prop := (m 0 20 = 3 → 1 ≤ m 0 21 ∧ m 0 21 ≤ 5 ∧ 0 ≤ m 0 23 ∧ m 0 23 < n) ∧ (m 0 20 = 1 → 0 ≤ m 0 23 ∧ m 0 23 < n) ∧ (m 0 20 = 2 → m 0 23 = n ∧ m 0 24 = 0) ∧ (m 0 20 = 0 → m 0 24 = 0 ∧ m 0 25 = 0 ∧ m 0 26 = 0) ∧ 0 ≤ m 0 20 ∧ m 0 20 ≤ 3
abbrev own_G (m : OMem) (n : Int) (r : Int × OMem) : Prop := own_Q r.2 n ∧ own_T r.2 n ∧ 0 ≤ r.1 ∧ 1 ≤ r.2 0 20 ∧ m 0 25 ≤ r.2 0 25 ∧ m 0 26 ≤ r.2 0 26 ∧ r.2 0 25 + r.2 0 26 ≤ m 0 25 + m 0 26 + r.1
set_option maxRecDepth 65536 in
set_option maxHeartbeats 16000000 in
theorem own_step (m : OMem) (n : Int) (h : own_Q m n) (h20 : m 0 20 = 1) (hp : 0 ≤ m 0 23 ∧ m 0 23 < n) : Ok (f_step m) (fun r => own_G m n r ∧ r.1 ≤ 1 ∧ (r.2 0 20 = 1 → r.1 = 1)) := by
  have hn := h.1.2.2.2.2.1
  have e22 := h.1.2.2.1
  unfold f_step
  refine Ok.neg (by omega) (Ok.pos (by omega) ?_)
  refine Ok.bind (P := fun m' => own_Q m' n ∧ m' 0 20 = m 0 20 ∧ m' 0 23 = m 0 23 ∧ m' 0 25 = m 0 25 ∧ m' 0 26 = m 0 26) ?_ fun m1 h1 => ?_
  · refine Ok.loop (fun s => 0 ≤ s.1 ∧ own_Q s.2 n ∧ s.2 0 20 = m 0 20 ∧ s.2 0 23 = m 0 23 ∧ s.2 0 25 = m 0 25 ∧ s.2 0 26 = m 0 26) (fun s => (16 - s.1).toNat) ⟨by simp, h, rfl, rfl, rfl, rfl⟩ (by simp) ?_
    rintro ⟨x, m1⟩ ⟨a, b, c⟩
    dsimp only at a b c
    have hs := b.1.2.2.2.2.2
    unfold f_step_l39
    dsimp only
    refine Ok.ite (fun hx => ?_) (fun _ => Ok.ret ⟨b, c⟩)
    refine Ok.ite (fun h0 => ?_) (fun _ => Ok.ret ⟨b, c⟩)
    rw [w32_id (z := m1 0 24 - 1) (by omega), w32_id (z := x + 1) (by omega)]
    refine Ok.grd (by omega) (Ok.ite (fun _ => Ok.ret ?_) (fun _ => Ok.ret ⟨b, c⟩))
    dsimp only
    exact ⟨⟨by omega, own_QF b (Or.inr (Or.inl ⟨rfl, by omega, by omega⟩)), by simp [sto]; omega⟩, by omega⟩
  · obtain ⟨hQ1, e20, e23, e25, e26⟩ := h1
    unfold f_step_b83
    rw [w32_id (z := m 0 23 + 1) (by omega)]
    refine Ok.bind (own_ex (sto m1 0 27 (m 0 23 + 1)) n (m 0 23) (own_QF hQ1 (Or.inl (by omega))) (by simp [sto]; omega) hp) fun r hr => ?_
    obtain ⟨r, m2⟩ := r
    obtain ⟨hQ2, g20, g23, hr0, hr5, g27, g25, g26, gs⟩ := hr
    simp only [sto] at g20 g23 g25 g26 gs
    simp at g20 g23 g25 g26 gs
    dsimp only at hQ2 hr0 hr5 g27 ⊢
    have s22 := hQ2.1.2.2.1
    refine Ok.ite (fun h0 => ?_) (fun h0 => Ok.ret ?_)
    · have g27 := g27 h0
      rw [if_pos h0] at gs
      refine Ok.ite (fun h1 => ?_) (fun h1 => ?_)
      · unfold f_step_b146
        refine Ok.ret ⟨⟨own_QF (own_QF (own_QF hQ2 (Or.inl (by omega))) (Or.inr (Or.inl ⟨rfl, by omega, by omega⟩))) (Or.inl (by omega)), ?_, ?_⟩, ?_⟩
        all_goals (simp [own_T, own_S, sto])
        all_goals omega
      · unfold f_step_b146
        refine Ok.ret ⟨⟨own_QF hQ2 (Or.inl (by omega)), ?_, ?_⟩, ?_⟩
        all_goals (simp [own_T, own_S, sto])
        all_goals omega
    · rw [if_neg h0] at gs
      refine ⟨⟨own_QF (own_QF (own_QF hQ2 (Or.inl (by omega))) (Or.inl (by omega))) (Or.inl (by omega)), ?_, ?_⟩, ?_⟩
      all_goals (simp [own_T, own_S, sto])
      all_goals omega
set_option maxRecDepth 65536 in
set_option maxHeartbeats 16000000 in
theorem own_b76 (m : OMem) (n k : Int) (h : own_Q m n) (hT : own_T m n) (h20 : m 0 20 = 1) (hk : 1 ≤ k ∧ k ≤ 256) : Ok (f_run_b76 k m) (fun r => own_G m n r ∧ r.1 ≤ k ∧ (r.2 0 20 = 1 → r.1 = k)) := by
  unfold f_run_b76
  refine Ok.bind (P := fun e => match e with | .inl r => own_G m n r ∧ r.1 ≤ k ∧ (r.2 0 20 = 1 → r.1 = k) | .inr r => own_G m n r ∧ r.1 ≤ k ∧ (r.2 0 20 = 1 → r.1 = k)) ?_ fun e he => ?_
  · refine Ok.loop (fun s => 0 ≤ s.2.1 ∧ s.2.1 ≤ k ∧ own_G m n (s.1, s.2.2) ∧ s.1 ≤ s.2.1 ∧ (s.2.2 0 20 = 1 → s.1 = s.2.1)) (fun s => (k - s.2.1).toNat) ⟨by simp, by simp; omega, ⟨h, hT, by simp, by simp; omega, by simp, by simp, by simp⟩, by simp, by simp⟩ (by simp; omega) ?_
    rintro ⟨x, y, m1⟩ ⟨a, b, c, d, e⟩
    dsimp only at a b c d e
    obtain ⟨c1, c2, c3, c4, c5, c6, c7⟩ := c
    dsimp only at c1 c2 c3 c4 c5 c6 c7
    unfold f_run_l81
    dsimp only
    refine Ok.ite (fun hy => ?_) (fun hy => Ok.ret ?_)
    · refine Ok.ite (fun h1 => ?_) (fun h1 => Ok.ret ?_)
      · refine Ok.bind (own_step m1 n c1 h1 (c2.2.1 h1)) fun r hr => ?_
        obtain ⟨r, m2⟩ := r
        obtain ⟨⟨d1, d2, d3, d4, d5, d6, d7⟩, d8, d9⟩ := hr
        dsimp only at d1 d2 d3 d4 d5 d6 d7 d8 d9 ⊢
        rw [w32_id (z := x + r) (by omega), w32_id (z := y + 1) (by omega)]
        have e := e h1
        refine Ok.ret ⟨⟨by dsimp only; omega, by dsimp only; omega, ⟨d1, d2, ?_, ?_, ?_, ?_, ?_⟩, ?_, ?_⟩, ?_⟩
        all_goals (try dsimp only)
        all_goals omega
      · refine ⟨⟨c1, c2, ?_, ?_, ?_, ?_, ?_⟩, ?_, ?_⟩
        all_goals (try dsimp only)
        all_goals omega
    · refine ⟨⟨c1, c2, ?_, ?_, ?_, ?_, ?_⟩, ?_, ?_⟩
      all_goals (try dsimp only)
      all_goals omega
  · cases e with
    | inl r => exact Ok.ret he
    | inr r => exact Ok.ret he
set_option maxRecDepth 65536 in
set_option maxHeartbeats 16000000 in
theorem own_run (m : OMem) (n k : Int) (h : own_Q m n) (hT : own_T m n) (h20 : m 0 20 = 0 ∨ m 0 20 = 1) (hk : 1 ≤ k ∧ k ≤ 256) : Ok (f_run k m) (fun r => own_G m n r ∧ r.1 ≤ k ∧ (r.2 0 20 = 1 → r.1 = k) ∧ (m 0 20 = 0 ∧ n = 0 → r.2 0 20 = 2 ∧ r.1 = 0)) := by
  have e22 := h.1.2.2.1
  have hs := h.1.2.2.2
  unfold f_run
  refine Ok.neg (by omega) (Ok.neg (by omega) (Ok.neg (by omega) (Ok.neg (by omega) ?_)))
  unfold f_run_b39
  refine Ok.ite (fun h0 => ?_) (fun h0 => ?_)
  · refine Ok.ite (fun hn => Ok.ret ?_) (fun hn => ?_)
    · refine ⟨⟨own_QF (own_QF (own_QF (own_QF h (Or.inl (by omega))) (Or.inl (by omega))) (Or.inr (Or.inl ⟨rfl, by omega, by omega⟩))) (Or.inl (by omega)), ?_, ?_⟩, ?_⟩
      all_goals (simp [own_T, own_S, sto])
      all_goals omega
    · refine Ok.mono (own_b76 (sto (sto m 0 20 1) 0 23 0) n k (own_QF (own_QF h (Or.inl (by omega))) (Or.inl (by omega))) ?_ (by simp [sto]) hk) fun r hr => ?_
      · simp [own_T, sto]; omega
      · obtain ⟨⟨d1, d2, d3, d4, d5, d6, d7⟩, d8, d9⟩ := hr
        simp [sto] at d5 d6 d7
        exact ⟨⟨d1, d2, d3, d4, d5, d6, d7⟩, d8, d9, by omega⟩
  · refine Ok.mono (own_b76 m n k h hT (by omega) hk) fun r hr => ?_
    exact ⟨hr.1, hr.2.1, hr.2.2, by omega⟩
/- the joins -/
set_option maxRecDepth 65536 in
set_option maxHeartbeats 16000000 in
theorem own_cdec : ∀ i : Fin 33, (Int64.ofInt (xor64 (shl64 1 (i.val : Int)) (-1))).toBitVec = ~~~(1#64 <<< i.val) := by decide +kernel
set_option maxRecDepth 65536 in
set_option maxHeartbeats 16000000 in
theorem own_sdec : ∀ i : Fin 33, (((Int32.ofInt (i.val : Int)).toInt64.toUInt64 &&& Int64.toUInt64 63).toBitVec % 64).toNat = i.val := by decide +kernel
set_option maxRecDepth 65536 in
set_option maxHeartbeats 16000000 in
theorem own_bv (P : BitVec 64) (i : Nat) (h : i < 64) : ((P &&& ~~~(1#64 <<< i)) >>> i) &&& 1#64 = 0#64 := by
  apply BitVec.eq_of_getLsbD_eq
  intro j hj
  by_cases q : j = 0
  · subst q
    simp [h]
  · simp [q]
set_option maxRecDepth 65536 in
set_option maxHeartbeats 16000000 in
theorem own_bit (P i : Int) (hi : 0 ≤ i ∧ i < 33) : and64 (ushr64 (and64 P (xor64 (shl64 1 i) (-1))) i) 1 = 0 := by
  have h1 := own_cdec ⟨i.toNat, by omega⟩
  have h2 := own_sdec ⟨i.toNat, by omega⟩
  simp only [Int.toNat_of_nonneg hi.1] at h1 h2
  generalize hc : Int64.ofInt (xor64 (shl64 1 i) (-1)) = c at h1
  have e : (Jvm.Free.XT.ushrL (Int64.ofInt P &&& c) (Int32.ofInt i)) &&& Int64.ofInt 1 = 0 := by
    apply Int64.toBitVec_inj.mp
    have g : (Jvm.Free.XT.ushrL (Int64.ofInt P &&& c) (Int32.ofInt i) &&& Int64.ofInt 1).toBitVec = (((Int64.ofInt P).toBitVec &&& c.toBitVec) >>> (((Int32.ofInt i).toInt64.toUInt64 &&& Int64.toUInt64 63).toBitVec % 64).toNat) &&& 1#64 := rfl
    rw [g, h1, h2, own_bv _ _ (by omega)]
    rfl
  unfold and64
  rw [hc]
  unfold ushr64
  rw [Int64.ofInt_toInt, Int64.ofInt_toInt, e]
  rfl
set_option maxRecDepth 65536 in
set_option maxHeartbeats 16000000 in
theorem own_pj2 (m : OMem) (i : Int) (hn : 0 ≤ m 0 22 ∧ m 0 22 ≤ 32) (hi : 0 ≤ i ∧ i < m 0 22) : Ok (f_pickJoin i m) (fun r => 0 ≤ r ∧ r ≤ m 0 22 ∧ r ≠ i) := by
  unfold f_pickJoin
  refine Ok.grd (by omega) ?_
  refine Ok.ite (fun h => Ok.ret (by omega)) (fun h => Ok.grd (by omega) ?_)
  refine Ok.bind (P := fun e => match e with | .inl d => 0 ≤ d ∧ d ≤ m 0 22 ∧ d ≠ i | .inr _ => True) ?_ fun e he => ?_
  · refine Ok.loop (fun s => 0 ≤ s) (fun s => (33 - s).toNat) (by simp) (by simp) ?_
    intro x h1
    unfold f_pickJoin_l32 f_pickJoin_b67
    try dsimp only
    refine Ok.ite (fun _ => Ok.ret trivial) (fun hx => ?_)
    rw [w32_id (z := x + 1) (by omega)]
    refine Ok.ite (fun _ => Ok.ret (by dsimp only; omega)) (fun hb => ?_)
    refine Ok.grd (by omega) (Ok.ite (fun _ => Ok.ret ?_) (fun _ => Ok.ret (by dsimp only; omega)))
    dsimp only
    refine ⟨by omega, by omega, fun q => ?_⟩
    subst q
    rw [own_bit _ _ (by omega)] at hb
    exact hb rfl
  · cases e with
    | inl d => exact Ok.ret he
    | inr _ => exact Ok.ret (by omega)
set_option maxRecDepth 65536 in
set_option maxHeartbeats 16000000 in
theorem own_cj2 (m : OMem) (hn : 0 ≤ m 0 22 ∧ m 0 22 ≤ 32) (hs : ∀ m' i, own_Fj m m' → 0 ≤ i → i < m 0 22 → Ok (f_succFirst i m') (fun _ => True)) : Ok (f_computeJoins m) (fun m' => own_Fj m m' ∧ own_J m' (m 0 22)) := by
  unfold f_computeJoins
  refine Ok.bind (own_cr m hn hs) fun m1 h1 => ?_
  have e1 : m1 0 22 = m 0 22 := h1 0 22 (by decide) (by decide) (by decide)
  refine Ok.bind (own_cp m1 (by omega) fun m' i a b c => hs m' i (fun k j x y z => (a k j x y z).trans (h1 k j x y z)) b (by omega)) fun m2 h2 => ?_
  refine Ok.bind (P := fun m' => own_Fj m m' ∧ own_J m' (m 0 22)) ?_ fun m3 h3 => Ok.ret h3
  refine Ok.loop (fun s => 0 ≤ s.1 ∧ own_Fj m s.2 ∧ (∀ i, 0 ≤ i → i < s.1 → 0 ≤ s.2 16 i ∧ s.2 16 i ≤ m 0 22 ∧ s.2 16 i ≠ i)) (fun s => (32 - s.1).toNat) ⟨by simp, fun k j x y z => (h2 k j x y z).trans (h1 k j x y z), fun i a b => by dsimp only at b; omega⟩ (by simp) ?_
  rintro ⟨x, m1⟩ ⟨h1, h2, h3⟩
  dsimp only at h1 h2 h3
  have e22 : m1 0 22 = m 0 22 := h2 0 22 (by decide) (by decide) (by decide)
  unfold f_computeJoins_l10
  dsimp only
  refine Ok.ite (fun hx => ?_) (fun hx => Ok.ret ⟨h2, fun i a b => h3 i a (by omega)⟩)
  refine Ok.bind (own_pj2 m1 x (by omega) (by omega)) fun r hr => ?_
  refine Ok.grd (by omega) (Ok.ret ?_)
  dsimp only
  rw [w32_id (by omega)]
  refine ⟨⟨by omega, own_Fj16 _ _ h2, fun i a b => ?_⟩, by omega⟩
  have b : i < x + 1 := b
  have es : sto m1 16 x r 16 i = if i = x then r else m1 16 i := by simp [sto]
  rw [es]
  split
  · omega
  · exact h3 i a (by omega)
set_option maxRecDepth 65536 in
set_option maxHeartbeats 16000000 in
theorem own_tg0 (m : OMem) (x : Int) (h : 0 ≤ m 0 22) : Ok (f_target x m) (fun r => 0 ≤ r ∧ r ≤ m 0 22) := by
  repeat' (first | ((with_reducible refine Ok.grd ?_ ?_); (focus (first | omega | ((try simp only [w32_al, w32_ar, w32_sl, w32_sr, w32_m4, w32_m6, w32_m10, w32_m16, w32_m24]); (repeat rw [w32_id (by omega)]); omega) | ((try simp only [w32_al, w32_ar, w32_sl, w32_sr, w32_m4, w32_m6, w32_m10, w32_m16, w32_m24]); unfold w32; omega) | (simp [sto, z0_at, w32]; done) | (simp [sto, z0_at, w32]; omega)))) | ((with_reducible refine Ok.ite (fun h => ?_) (fun h => ?_)) <;> (try simp [sto, z0_at, w32] at h) <;> (try (exfalso; omega))) | (with_reducible refine Ok.bind' ?_) | ((with_reducible refine Ok.ret ?_); (try dsimp only)) | (with_reducible refine Ok.lpNN ?_) | (with_reducible refine Ok.lp1 ?_) | (with_reducible refine u_f_target ?_) | (with_reducible refine u_f_target_b14 ?_))
  all_goals (first | trivial | omega | ((try simp only [w32_al, w32_ar, w32_sl, w32_sr, w32_m4, w32_m6, w32_m10, w32_m16, w32_m24]); (repeat rw [w32_id (by omega)]); omega) | ((try simp only [w32_al, w32_ar, w32_sl, w32_sr, w32_m4, w32_m6, w32_m10, w32_m16, w32_m24]); unfold w32; omega) | (simp [sto, z0_at, w32]; done) | (simp [sto, z0_at, w32]; omega))
set_option maxRecDepth 65536 in
set_option maxHeartbeats 16000000 in
theorem own_sf0 (m : OMem) (i : Int) (h : 0 ≤ m 0 22 ∧ m 0 22 ≤ 32) (a : 0 ≤ i) (b : i < m 0 22) : Ok (f_succFirst i m) (fun _ => True) := by
  repeat' (first | (with_reducible refine Ok.bind (own_tg0 _ _ (by omega)) fun r hr => ?_) | ((with_reducible refine Ok.grd ?_ ?_); (focus (first | omega | ((try simp only [w32_al, w32_ar, w32_sl, w32_sr, w32_m4, w32_m6, w32_m10, w32_m16, w32_m24]); (repeat rw [w32_id (by omega)]); omega) | ((try simp only [w32_al, w32_ar, w32_sl, w32_sr, w32_m4, w32_m6, w32_m10, w32_m16, w32_m24]); unfold w32; omega) | (simp [sto, z0_at, w32]; done) | (simp [sto, z0_at, w32]; omega)))) | ((with_reducible refine Ok.ite (fun h => ?_) (fun h => ?_)) <;> (try simp [sto, z0_at, w32] at h) <;> (try (exfalso; omega))) | (with_reducible refine Ok.bind' ?_) | ((with_reducible refine Ok.ret ?_); (try dsimp only)) | (with_reducible refine Ok.lpNN ?_) | (with_reducible refine Ok.lp1 ?_) | (with_reducible refine u_f_succFirst ?_) | (with_reducible refine u_f_succFirst_b12 ?_))
  all_goals (first | trivial | omega | ((try simp only [w32_al, w32_ar, w32_sl, w32_sr, w32_m4, w32_m6, w32_m10, w32_m16, w32_m24]); (repeat rw [w32_id (by omega)]); omega) | ((try simp only [w32_al, w32_ar, w32_sl, w32_sr, w32_m4, w32_m6, w32_m10, w32_m16, w32_m24]); unfold w32; omega) | (simp [sto, z0_at, w32]; done) | (simp [sto, z0_at, w32]; omega))
set_option maxRecDepth 65536 in
set_option maxHeartbeats 16000000 in
theorem own_ai (m : OMem) (n a b c d : Int) (h : own_Q m n) (hT : own_T m n) (ha : 0 ≤ a) : Ok (f_addInstr a b c d m) (fun r => (m 0 20 = 0 ∧ n < 16 ∧ a < 15 → r.1 = 1 ∧ own_Q r.2 (n + 1) ∧ own_T r.2 (n + 1) ∧ r.2 0 20 = 0 ∧ r.2 0 25 = m 0 25 ∧ r.2 0 26 = m 0 26) ∧ (¬ (m 0 20 = 0 ∧ n < 16 ∧ a < 15) → r = (0, m))) := by
  have h' := h
  obtain ⟨⟨s1, s2, s3, s4, s5, s6, s7, s8, s9, s10, s11⟩, hL, hA, hJ⟩ := h
  unfold f_addInstr f_addInstr_b32
  refine Ok.ite (fun h => ?_) (fun h => Ok.ret ⟨fun q => absurd q.1 h, fun _ => rfl⟩)
  refine Ok.ite (fun h1 => Ok.ret ⟨fun q => by omega, fun _ => rfl⟩) (fun h1 => ?_)
  refine Ok.neg (by omega) ?_
  refine Ok.ite (fun h3 => ?_) (fun h3 => Ok.ret ⟨fun q => absurd q.2.2 h3, fun _ => rfl⟩)
  refine Ok.grd (by omega) (Ok.grd (by omega) (Ok.grd (by omega) (Ok.grd (by omega) ?_)))
  rw [w32_id (z := m 0 22 + 1) (by omega)]
  generalize hM : sto (sto (sto (sto (sto m 1 (m 0 22) a) 2 (m 0 22) b) 3 (m 0 22) c) 4 (m 0 22) d) 0 22 (m 0 22 + 1) = M
  have g : ∀ j, j ≠ 22 → M 0 j = m 0 j := fun j hj => by subst hM; simp [sto, hj]
  have g22 : M 0 22 = n + 1 := by subst hM; simp [sto]; omega
  have gk : ∀ k j, k ≠ 0 → k ≠ 1 → k ≠ 2 → k ≠ 3 → k ≠ 4 → M k j = m k j := fun k j a b c d e => by subst hM; simp [sto, a, b, c, d, e]
  refine Ok.bind (own_cj2 M (by omega) fun m' i hF p q => own_sf0 m' i (by rw [hF 0 22 (by decide) (by decide) (by decide)]; omega) p (by rw [hF 0 22 (by decide) (by decide) (by decide)]; exact q)) fun m' hm' => Ok.ret ?_
  obtain ⟨hF, hJ'⟩ := hm'
  have f0 : ∀ j, m' 0 j = M 0 j := fun j => hF 0 j (by decide) (by decide) (by decide)
  have fk : ∀ k j, k ≠ 0 → k ≠ 1 → k ≠ 2 → k ≠ 3 → k ≠ 4 → k ≠ 16 → k ≠ 17 → k ≠ 18 → m' k j = m k j := fun k j a b c d e f g h => (hF k j f g h).trans (gk k j a b c d e)
  have i18 : m' 0 18 = m 0 18 := (f0 18).trans (g 18 (by decide))
  have i19 : m' 0 19 = m 0 19 := (f0 19).trans (g 19 (by decide))
  have i20 : m' 0 20 = m 0 20 := (f0 20).trans (g 20 (by decide))
  have i22 : m' 0 22 = n + 1 := (f0 22).trans g22
  have i23 : m' 0 23 = m 0 23 := (f0 23).trans (g 23 (by decide))
  have i24 : m' 0 24 = m 0 24 := (f0 24).trans (g 24 (by decide))
  have i25 : m' 0 25 = m 0 25 := (f0 25).trans (g 25 (by decide))
  have i26 : m' 0 26 = m 0 26 := (f0 26).trans (g 26 (by decide))
  have k6 : ∀ j, m' 6 j = m 6 j := fun j => fk 6 j (by decide) (by decide) (by decide) (by decide) (by decide) (by decide) (by decide) (by decide)
  have k8 : ∀ j, m' 8 j = m 8 j := fun j => fk 8 j (by decide) (by decide) (by decide) (by decide) (by decide) (by decide) (by decide) (by decide)
  have k9 : ∀ j, m' 9 j = m 9 j := fun j => fk 9 j (by decide) (by decide) (by decide) (by decide) (by decide) (by decide) (by decide) (by decide)
  have k11 : ∀ j, m' 11 j = m 11 j := fun j => fk 11 j (by decide) (by decide) (by decide) (by decide) (by decide) (by decide) (by decide) (by decide)
  have k13 : ∀ j, m' 13 j = m 13 j := fun j => fk 13 j (by decide) (by decide) (by decide) (by decide) (by decide) (by decide) (by decide) (by decide)
  have k15 : ∀ j, m' 15 j = m 15 j := fun j => fk 15 j (by decide) (by decide) (by decide) (by decide) (by decide) (by decide) (by decide) (by decide)
  refine ⟨fun q => ⟨rfl, ⟨⟨?_, ?_, ?_, ?_, ?_, ?_, ?_, ?_, ?_, ?_, ?_⟩, ?_, ?_, ?_⟩, ?_, ?_, i25, i26⟩, fun q => absurd ⟨h, by omega, h3⟩ q⟩
  case refine_12 =>
    dsimp only
    unfold own_L
    simp only [k6, k8, k9, k11, k15]
    exact hL
  case refine_13 =>
    dsimp only
    unfold own_A
    simp only [k13, i26]
    intro j a b
    have := hA j a b
    omega
  case refine_14 =>
    dsimp only
    rw [g22] at hJ'
    exact hJ'
  all_goals (try dsimp only)
  all_goals omega
set_option maxRecDepth 65536 in
set_option maxHeartbeats 16000000 in
theorem own_sm (m : OMem) (n a b c : Int) (h : own_Q m n) : Ok (f_setMem a b c m) (fun r => (m 0 20 = 0 ∧ 0 ≤ a ∧ a < 8 ∧ 0 ≤ c ∧ c ≤ 3 → r = (1, sto (sto m 7 a b) 8 a c)) ∧ (¬ (m 0 20 = 0 ∧ 0 ≤ a ∧ a < 8 ∧ 0 ≤ c ∧ c ≤ 3) → r = (0, m))) := by
  have e19 := h.1.2.1
  repeat' (first | ((with_reducible refine Ok.grd ?_ ?_); (focus (first | omega | ((try simp only [w32_al, w32_ar, w32_sl, w32_sr, w32_m4, w32_m6, w32_m10, w32_m16, w32_m24]); (repeat rw [w32_id (by omega)]); omega) | ((try simp only [w32_al, w32_ar, w32_sl, w32_sr, w32_m4, w32_m6, w32_m10, w32_m16, w32_m24]); unfold w32; omega) | (simp [sto, z0_at, w32]; done) | (simp [sto, z0_at, w32]; omega)))) | ((with_reducible refine Ok.ite (fun h => ?_) (fun h => ?_)) <;> (try simp [sto, z0_at, w32] at h) <;> (try (exfalso; omega))) | (with_reducible refine Ok.bind' ?_) | ((with_reducible refine Ok.ret ?_); (try dsimp only)) | (with_reducible refine Ok.lpNN ?_) | (with_reducible refine Ok.lp1 ?_) | (with_reducible refine u_f_setMem ?_) | (with_reducible refine u_f_setMem_b21 ?_) | (with_reducible refine u_f_setMem_b32 ?_))
  all_goals (first | (exact ⟨fun q => by omega, fun _ => rfl⟩) | (exact ⟨fun _ => rfl, fun q => by omega⟩))
set_option maxRecDepth 65536 in
set_option maxHeartbeats 16000000 in
theorem own_init : Ok (f_init 16 8 z0) (fun m => own_Q m 0 ∧ own_T m 0 ∧ m 0 20 = 0) := by
  have h : Ok (f_init 16 8 z0) (fun m => m = sto (sto (sto (sto z0 0 18 16) 0 19 8) 0 20 0) 0 21 0) := by
    repeat' (first | ((with_reducible refine Ok.grd ?_ ?_); (focus (first | omega | ((try simp only [w32_al, w32_ar, w32_sl, w32_sr, w32_m4, w32_m6, w32_m10, w32_m16, w32_m24]); (repeat rw [w32_id (by omega)]); omega) | ((try simp only [w32_al, w32_ar, w32_sl, w32_sr, w32_m4, w32_m6, w32_m10, w32_m16, w32_m24]); unfold w32; omega) | (simp [sto, z0_at, w32]; done) | (simp [sto, z0_at, w32]; omega)))) | ((with_reducible refine Ok.ite (fun h => ?_) (fun h => ?_)) <;> (try simp [sto, z0_at, w32] at h) <;> (try (exfalso; omega))) | (with_reducible refine Ok.bind' ?_) | ((with_reducible refine Ok.ret ?_); (try dsimp only)) | (with_reducible refine Ok.lpNN ?_) | (with_reducible refine Ok.lp1 ?_) | (with_reducible refine u_f_init ?_) | (with_reducible refine u_f_clamp ?_))
    all_goals rfl
  refine Ok.mono h fun m e => ?_
  subst e
  refine ⟨⟨by simp [own_S, sto, z0_at], ⟨fun i => ?_, fun i => ?_, fun i => ?_, fun i => ?_, fun i => ?_⟩, fun i a b => ?_, fun i a b => ?_⟩, by simp [own_T, sto, z0_at], by simp [sto, z0_at]⟩
  all_goals (first | omega | (simp [sto, z0_at]; done) | (simp [sto, z0_at] at b; omega))
set_option maxRecDepth 65536 in
set_option maxHeartbeats 16000000 in
theorem own_mem (m : OMem) (n x : Int) (h : own_Q m n) : f_mem x m = some (if 0 ≤ x ∧ x < 8 then m 7 x else 0) := by
  have e19 := h.1.2.1
  have : Ok (f_mem x m) (fun r => r = if 0 ≤ x ∧ x < 8 then m 7 x else 0) := by
    repeat' (first | ((with_reducible refine Ok.grd ?_ ?_); (focus (first | omega | ((try simp only [w32_al, w32_ar, w32_sl, w32_sr, w32_m4, w32_m6, w32_m10, w32_m16, w32_m24]); (repeat rw [w32_id (by omega)]); omega) | ((try simp only [w32_al, w32_ar, w32_sl, w32_sr, w32_m4, w32_m6, w32_m10, w32_m16, w32_m24]); unfold w32; omega) | (simp [sto, z0_at, w32]; done) | (simp [sto, z0_at, w32]; omega)))) | ((with_reducible refine Ok.ite (fun h => ?_) (fun h => ?_)) <;> (try simp [sto, z0_at, w32] at h) <;> (try (exfalso; omega))) | (with_reducible refine Ok.bind' ?_) | ((with_reducible refine Ok.ret ?_); (try dsimp only)) | (with_reducible refine Ok.lpNN ?_) | (with_reducible refine Ok.lp1 ?_) | (with_reducible refine u_f_mem ?_) | (with_reducible refine u_f_mem_b12 ?_))
    all_goals (first | (rw [if_pos (by omega)]) | (rw [if_neg (by omega)]))
  obtain ⟨r, e, rfl⟩ := this
  exact e
set_option maxRecDepth 65536 in
set_option maxHeartbeats 16000000 in
theorem own_lab1 (m : OMem) (n x : Int) (h : own_Q m n) : f_labelOf 1 x m = some (if 0 ≤ x ∧ x < 8 then m 8 x else -1) := by
  have e19 := h.1.2.1
  have : Ok (f_labelOf 1 x m) (fun r => r = if 0 ≤ x ∧ x < 8 then m 8 x else -1) := by
    repeat' (first | ((with_reducible refine Ok.grd ?_ ?_); (focus (first | omega | ((try simp only [w32_al, w32_ar, w32_sl, w32_sr, w32_m4, w32_m6, w32_m10, w32_m16, w32_m24]); (repeat rw [w32_id (by omega)]); omega) | ((try simp only [w32_al, w32_ar, w32_sl, w32_sr, w32_m4, w32_m6, w32_m10, w32_m16, w32_m24]); unfold w32; omega) | (simp [sto, z0_at, w32]; done) | (simp [sto, z0_at, w32]; omega)))) | ((with_reducible refine Ok.ite (fun h => ?_) (fun h => ?_)) <;> (try simp [sto, z0_at, w32] at h) <;> (try (exfalso; omega))) | (with_reducible refine Ok.bind' ?_) | ((with_reducible refine Ok.ret ?_); (try dsimp only)) | (with_reducible refine Ok.lpNN ?_) | (with_reducible refine Ok.lp1 ?_) | (with_reducible refine u_f_labelOf ?_) | (with_reducible refine u_f_labelOf_b14 ?_) | (with_reducible refine u_f_labelOf_b40 ?_))
    all_goals (first | (rw [if_pos (by omega)]) | (rw [if_neg (by omega)]))
  obtain ⟨r, e, rfl⟩ := this
  exact e
set_option maxRecDepth 65536 in
set_option maxHeartbeats 16000000 in
theorem own_inv (sl : Int) (sc : Int → Int) (m : OMem) (n t : Int) (h : own_Q m n) (hT : own_T m n) (ht : m 0 25 + m 0 26 ≤ t) (h0 : m 0 20 = 0 → t = 0) : Ok (l_inv sl sc n t m) (fun r => r = 1) := by
  have h' := h
  obtain ⟨⟨s1, s2, s3, s4, s5, s6, s7, s8, s9, s10, s11⟩, hL, hA, hJ⟩ := h
  obtain ⟨t3, t1, t2, t0, tl, tu⟩ := hT
  have L1 : Ok (lp (l_inv_l266 sl sc m n (m 0 25) (m 0 26)) NN 0) (fun e => e = .inr ()) := by
    refine Ok.loop (fun s => 0 ≤ s) (fun s => (32 - s).toNat) (by simp) (by simp) ?_
    intro x hx
    unfold l_inv_l266 f_join f_join_b12
    try dsimp only
    refine Ok.ite (fun a => ?_) (fun a => Ok.ret rfl)
    have j := hJ x hx a
    refine Ok.bind (P := fun r => r = m 16 x) (Ok.neg (by omega) (Ok.pos (by omega) (Ok.grd (by omega) (Ok.ret rfl)))) fun r hr => ?_
    subst hr
    refine Ok.neg (by omega) (Ok.neg (by omega) (Ok.neg (by omega) (Ok.ret ?_)))
    dsimp only
    rw [w32_id (by omega)]
    omega
  have L2 : Ok (lp (l_inv_l352 sl sc m n (m 0 25) (m 0 26)) NN 0) (fun e => e = .inr ()) := by
    refine Ok.loop (fun s => 0 ≤ s) (fun s => (8 - s).toNat) (by simp) (by simp) ?_
    intro x hx
    unfold l_inv_l352
    try dsimp only
    refine Ok.ite (fun a => ?_) (fun a => Ok.ret rfl)
    have a6 := hL.1 x
    have a8 := hL.2.1 x
    refine Ok.bind (P := fun r => r = m 6 x) ?_ fun r hr => ?_
    · unfold f_labelOf f_labelOf_b14 f_labelOf_b40
      exact Ok.pos rfl (Ok.neg (by omega) (Ok.pos (by omega) (Ok.grd (by omega) (Ok.ret rfl))))
    subst hr
    have el := own_lab1 m n x h'
    rw [if_pos (by omega)] at el
    refine Ok.bindE el ?_
    refine Ok.neg (by omega) (Ok.neg (by omega) (Ok.neg (by omega) (Ok.neg (by omega) (Ok.ret ?_))))
    dsimp only
    rw [w32_id (by omega)]
    omega
  have b436 : Ok (l_inv_b436 sl sc n (m 0 26) m) (fun r => r = 1) := by
    unfold l_inv_b436
    refine Ok.ite (fun a => ?_) (fun a => Ok.ret rfl)
    rw [w32_id (z := m 0 26 - 1) (by omega)]
    have a13 := hA (m 0 26 - 1) (by omega) (by omega)
    have a15 := hL.2.2.2.2 (m 0 26 - 1)
    unfold f_auditEntry f_auditEntry_b12
    refine Ok.bind (P := fun r => r = m 13 (m 0 26 - 1)) (Ok.neg (by omega) (Ok.pos (by omega) (Ok.pos rfl (Ok.grd (by omega) (Ok.ret rfl))))) fun r hr => ?_
    subst hr
    refine Ok.bind (P := fun r => r = m 15 (m 0 26 - 1)) (Ok.neg (by omega) (Ok.pos (by omega) (Ok.neg (by decide) (Ok.neg (by decide) (Ok.pos rfl (Ok.grd (by omega) (Ok.ret rfl))))))) fun r hr => ?_
    subst hr
    exact Ok.neg (by omega) (Ok.pos (by omega) (Ok.neg (by omega) (Ok.neg (by omega) (Ok.ret rfl))))
  have b243 : Ok (l_inv_b243 sl sc n (m 0 25) (m 0 26) m) (fun r => r = 1) := by
    unfold l_inv_b243
    have j1 : Ok (f_join n m) (fun r => r = -1) := by
      repeat' (first | ((with_reducible refine Ok.grd ?_ ?_); (focus (first | omega | ((try simp only [w32_al, w32_ar, w32_sl, w32_sr, w32_m4, w32_m6, w32_m10, w32_m16, w32_m24]); (repeat rw [w32_id (by omega)]); omega) | ((try simp only [w32_al, w32_ar, w32_sl, w32_sr, w32_m4, w32_m6, w32_m10, w32_m16, w32_m24]); unfold w32; omega) | (simp [sto, z0_at, w32]; done) | (simp [sto, z0_at, w32]; omega)))) | ((with_reducible refine Ok.ite (fun h => ?_) (fun h => ?_)) <;> (try simp [sto, z0_at, w32] at h) <;> (try (exfalso; omega))) | (with_reducible refine Ok.bind' ?_) | ((with_reducible refine Ok.ret ?_); (try dsimp only)) | (with_reducible refine Ok.lpNN ?_) | (with_reducible refine Ok.lp1 ?_) | (with_reducible refine u_f_join ?_) | (with_reducible refine u_f_join_b12 ?_))
      all_goals (first | trivial | omega | ((try simp only [w32_al, w32_ar, w32_sl, w32_sr, w32_m4, w32_m6, w32_m10, w32_m16, w32_m24]); (repeat rw [w32_id (by omega)]); omega) | ((try simp only [w32_al, w32_ar, w32_sl, w32_sr, w32_m4, w32_m6, w32_m10, w32_m16, w32_m24]); unfold w32; omega) | (simp [sto, z0_at, w32]; done) | (simp [sto, z0_at, w32]; omega))
    have j2 : Ok (f_join (-1) m) (fun r => r = -1) := by
      repeat' (first | ((with_reducible refine Ok.grd ?_ ?_); (focus (first | omega | ((try simp only [w32_al, w32_ar, w32_sl, w32_sr, w32_m4, w32_m6, w32_m10, w32_m16, w32_m24]); (repeat rw [w32_id (by omega)]); omega) | ((try simp only [w32_al, w32_ar, w32_sl, w32_sr, w32_m4, w32_m6, w32_m10, w32_m16, w32_m24]); unfold w32; omega) | (simp [sto, z0_at, w32]; done) | (simp [sto, z0_at, w32]; omega)))) | ((with_reducible refine Ok.ite (fun h => ?_) (fun h => ?_)) <;> (try simp [sto, z0_at, w32] at h) <;> (try (exfalso; omega))) | (with_reducible refine Ok.bind' ?_) | ((with_reducible refine Ok.ret ?_); (try dsimp only)) | (with_reducible refine Ok.lpNN ?_) | (with_reducible refine Ok.lp1 ?_) | (with_reducible refine u_f_join ?_) | (with_reducible refine u_f_join_b12 ?_))
      all_goals (first | trivial | omega | ((try simp only [w32_al, w32_ar, w32_sl, w32_sr, w32_m4, w32_m6, w32_m10, w32_m16, w32_m24]); (repeat rw [w32_id (by omega)]); omega) | ((try simp only [w32_al, w32_ar, w32_sl, w32_sr, w32_m4, w32_m6, w32_m10, w32_m16, w32_m24]); unfold w32; omega) | (simp [sto, z0_at, w32]; done) | (simp [sto, z0_at, w32]; omega))
    have g8 : Ok (f_reg 8 m) (fun r => r = 0) := by
      repeat' (first | ((with_reducible refine Ok.grd ?_ ?_); (focus (first | omega | ((try simp only [w32_al, w32_ar, w32_sl, w32_sr, w32_m4, w32_m6, w32_m10, w32_m16, w32_m24]); (repeat rw [w32_id (by omega)]); omega) | ((try simp only [w32_al, w32_ar, w32_sl, w32_sr, w32_m4, w32_m6, w32_m10, w32_m16, w32_m24]); unfold w32; omega) | (simp [sto, z0_at, w32]; done) | (simp [sto, z0_at, w32]; omega)))) | ((with_reducible refine Ok.ite (fun h => ?_) (fun h => ?_)) <;> (try simp [sto, z0_at, w32] at h) <;> (try (exfalso; omega))) | (with_reducible refine Ok.bind' ?_) | ((with_reducible refine Ok.ret ?_); (try dsimp only)) | (with_reducible refine Ok.lpNN ?_) | (with_reducible refine Ok.lp1 ?_) | (with_reducible refine u_f_reg ?_) | (with_reducible refine u_f_reg_b10 ?_))
      all_goals (first | trivial | omega | ((try simp only [w32_al, w32_ar, w32_sl, w32_sr, w32_m4, w32_m6, w32_m10, w32_m16, w32_m24]); (repeat rw [w32_id (by omega)]); omega) | ((try simp only [w32_al, w32_ar, w32_sl, w32_sr, w32_m4, w32_m6, w32_m10, w32_m16, w32_m24]); unfold w32; omega) | (simp [sto, z0_at, w32]; done) | (simp [sto, z0_at, w32]; omega))
    have la : Ok (f_labelOf 0 8 m) (fun r => r = -1) := by
      repeat' (first | ((with_reducible refine Ok.grd ?_ ?_); (focus (first | omega | ((try simp only [w32_al, w32_ar, w32_sl, w32_sr, w32_m4, w32_m6, w32_m10, w32_m16, w32_m24]); (repeat rw [w32_id (by omega)]); omega) | ((try simp only [w32_al, w32_ar, w32_sl, w32_sr, w32_m4, w32_m6, w32_m10, w32_m16, w32_m24]); unfold w32; omega) | (simp [sto, z0_at, w32]; done) | (simp [sto, z0_at, w32]; omega)))) | ((with_reducible refine Ok.ite (fun h => ?_) (fun h => ?_)) <;> (try simp [sto, z0_at, w32] at h) <;> (try (exfalso; omega))) | (with_reducible refine Ok.bind' ?_) | ((with_reducible refine Ok.ret ?_); (try dsimp only)) | (with_reducible refine Ok.lpNN ?_) | (with_reducible refine Ok.lp1 ?_) | (with_reducible refine u_f_labelOf ?_) | (with_reducible refine u_f_labelOf_b14 ?_) | (with_reducible refine u_f_labelOf_b40 ?_))
      all_goals (first | trivial | omega | ((try simp only [w32_al, w32_ar, w32_sl, w32_sr, w32_m4, w32_m6, w32_m10, w32_m16, w32_m24]); (repeat rw [w32_id (by omega)]); omega) | ((try simp only [w32_al, w32_ar, w32_sl, w32_sr, w32_m4, w32_m6, w32_m10, w32_m16, w32_m24]); unfold w32; omega) | (simp [sto, z0_at, w32]; done) | (simp [sto, z0_at, w32]; omega))
    have lb : Ok (f_labelOf 1 8 m) (fun r => r = -1) := by
      repeat' (first | ((with_reducible refine Ok.grd ?_ ?_); (focus (first | omega | ((try simp only [w32_al, w32_ar, w32_sl, w32_sr, w32_m4, w32_m6, w32_m10, w32_m16, w32_m24]); (repeat rw [w32_id (by omega)]); omega) | ((try simp only [w32_al, w32_ar, w32_sl, w32_sr, w32_m4, w32_m6, w32_m10, w32_m16, w32_m24]); unfold w32; omega) | (simp [sto, z0_at, w32]; done) | (simp [sto, z0_at, w32]; omega)))) | ((with_reducible refine Ok.ite (fun h => ?_) (fun h => ?_)) <;> (try simp [sto, z0_at, w32] at h) <;> (try (exfalso; omega))) | (with_reducible refine Ok.bind' ?_) | ((with_reducible refine Ok.ret ?_); (try dsimp only)) | (with_reducible refine Ok.lpNN ?_) | (with_reducible refine Ok.lp1 ?_) | (with_reducible refine u_f_labelOf ?_) | (with_reducible refine u_f_labelOf_b14 ?_) | (with_reducible refine u_f_labelOf_b40 ?_))
      all_goals (first | trivial | omega | ((try simp only [w32_al, w32_ar, w32_sl, w32_sr, w32_m4, w32_m6, w32_m10, w32_m16, w32_m24]); (repeat rw [w32_id (by omega)]); omega) | ((try simp only [w32_al, w32_ar, w32_sl, w32_sr, w32_m4, w32_m6, w32_m10, w32_m16, w32_m24]); unfold w32; omega) | (simp [sto, z0_at, w32]; done) | (simp [sto, z0_at, w32]; omega))
    have lc : Ok (f_labelOf 2 0 m) (fun r => r = -1) := by
      repeat' (first | ((with_reducible refine Ok.grd ?_ ?_); (focus (first | omega | ((try simp only [w32_al, w32_ar, w32_sl, w32_sr, w32_m4, w32_m6, w32_m10, w32_m16, w32_m24]); (repeat rw [w32_id (by omega)]); omega) | ((try simp only [w32_al, w32_ar, w32_sl, w32_sr, w32_m4, w32_m6, w32_m10, w32_m16, w32_m24]); unfold w32; omega) | (simp [sto, z0_at, w32]; done) | (simp [sto, z0_at, w32]; omega)))) | ((with_reducible refine Ok.ite (fun h => ?_) (fun h => ?_)) <;> (try simp [sto, z0_at, w32] at h) <;> (try (exfalso; omega))) | (with_reducible refine Ok.bind' ?_) | ((with_reducible refine Ok.ret ?_); (try dsimp only)) | (with_reducible refine Ok.lpNN ?_) | (with_reducible refine Ok.lp1 ?_) | (with_reducible refine u_f_labelOf ?_) | (with_reducible refine u_f_labelOf_b14 ?_) | (with_reducible refine u_f_labelOf_b40 ?_))
      all_goals (first | trivial | omega | ((try simp only [w32_al, w32_ar, w32_sl, w32_sr, w32_m4, w32_m6, w32_m10, w32_m16, w32_m24]); (repeat rw [w32_id (by omega)]); omega) | ((try simp only [w32_al, w32_ar, w32_sl, w32_sr, w32_m4, w32_m6, w32_m10, w32_m16, w32_m24]); unfold w32; omega) | (simp [sto, z0_at, w32]; done) | (simp [sto, z0_at, w32]; omega))
    refine Ok.bind j1 fun r hr => Ok.pos hr ?_
    refine Ok.bind j2 fun r hr => Ok.pos hr ?_
    refine Ok.bind L1 fun e he => ?_
    subst he
    dsimp only
    refine Ok.bind g8 fun r hr => Ok.pos hr ?_
    refine Ok.bind la fun r hr => Ok.pos hr ?_
    refine Ok.bind lb fun r hr => Ok.pos hr ?_
    refine Ok.bind lc fun r hr => Ok.pos hr ?_
    refine Ok.bind L2 fun e he => ?_
    subst he
    dsimp only
    refine Ok.ite (fun a => ?_) (fun a => b436)
    rw [w32_id (z := m 0 25 - 1) (by omega)]
    have a11 := hL.2.2.2.1 (m 0 25 - 1)
    unfold f_outEntry f_outEntry_b12
    refine Ok.bind (P := fun r => r = m 11 (m 0 25 - 1)) (Ok.neg (by omega) (Ok.pos (by omega) (Ok.pos rfl (Ok.grd (by omega) (Ok.ret rfl))))) fun r hr => ?_
    subst hr
    exact Ok.neg (by omega) (Ok.neg (by omega) b436)
  have hp : Ok (f_pcLabel m) (fun r => (0 ≤ r ∧ r ≤ 3) ∧ (m 0 24 = 0 → r = 0)) := by
    unfold f_pcLabel
    exact Ok.bind (own_cl m n h') fun r hr => Ok.ret hr
  have b153 : ∀ x6, (m 0 20 = 0 → x6 = 0) → (m 0 20 ≠ 0 → x6 = m 0 23) → Ok (l_inv_b153 sl sc n t (m 0 20) x6 (m 0 24) (m 0 25) (m 0 26) m) (fun r => r = 1) := by
    intro x6 hx hy
    have e0 : ¬ 0 < lcm (w32 (m 0 25 + m 0 26)) t := by
      rw [w32_id (by omega)]; unfold lcm
      repeat' split
      all_goals omega
    have e1 : m 0 20 = 0 → lcm t 0 = 0 := fun q => by rw [h0 q]; rfl
    repeat' (first | exact b243 | (with_reducible refine Ok.neg e0 ?_) | (with_reducible refine Ok.pos (e1 (by omega)) ?_) | ((with_reducible refine Ok.grd ?_ ?_); (focus (first | omega | ((try simp only [w32_al, w32_ar, w32_sl, w32_sr, w32_m4, w32_m6, w32_m10, w32_m16, w32_m24]); (repeat rw [w32_id (by omega)]); omega) | ((try simp only [w32_al, w32_ar, w32_sl, w32_sr, w32_m4, w32_m6, w32_m10, w32_m16, w32_m24]); unfold w32; omega) | (simp [sto, z0_at, w32]; done) | (simp [sto, z0_at, w32]; omega)))) | ((with_reducible refine Ok.ite (fun h => ?_) (fun h => ?_)) <;> (try simp [sto, z0_at, w32] at h) <;> (try (exfalso; omega))) | (with_reducible refine Ok.bind' ?_) | ((with_reducible refine Ok.ret ?_); (try dsimp only)) | (with_reducible refine Ok.lpNN ?_) | (with_reducible refine Ok.lp1 ?_) | (with_reducible refine u_l_inv_b153 ?_) | (with_reducible refine u_l_inv_b199 ?_) | (with_reducible refine u_l_inv_b218 ?_) | (with_reducible refine u_l_inv_b230 ?_) | (with_reducible refine u_l_inv_b241 ?_) | (with_reducible refine u_l_inv_b216 ?_) | (with_reducible refine u_l_inv_b197 ?_))
    all_goals omega
  unfold l_inv f_status f_stopKind f_stopKind_b16 f_pc f_pc_b15 f_depth f_outCount f_auditCount
  refine Ok.bind (P := fun r => r = m 0 20) (Ok.ret rfl) fun r hr => ?_
  subst hr
  refine Ok.bind (P := fun r => (m 0 20 = 3 → r = m 0 21) ∧ (m 0 20 ≠ 3 → r = 0)) (Ok.ite (fun a => Ok.ret ⟨fun _ => rfl, fun b => absurd a b⟩) (fun a => Ok.ret ⟨fun b => absurd b a, fun _ => rfl⟩)) fun sk hsk => ?_
  refine Ok.bind (P := fun r => (m 0 20 = 0 → r = 0) ∧ (m 0 20 ≠ 0 → r = m 0 23)) (Ok.ite (fun a => Ok.ret ⟨fun _ => rfl, fun b => absurd a b⟩) (fun a => Ok.ret ⟨fun b => absurd b a, fun _ => rfl⟩)) fun pc hpc => ?_
  refine Ok.bind (P := fun r => r = m 0 24) (Ok.ret rfl) fun r hr => ?_
  subst hr
  refine Ok.bind hp fun pl hpl => ?_
  refine Ok.bind (P := fun r => r = m 0 25) (Ok.ret rfl) fun r hr => ?_
  subst hr
  refine Ok.bind (P := fun r => r = m 0 26) (Ok.ret rfl) fun r hr => ?_
  subst hr
  have B := b153 pc hpc.1 hpc.2
  clear b153 b243 b436 L1 L2 hp
  repeat' (first | exact B | ((with_reducible refine Ok.grd ?_ ?_); (focus (first | omega | ((try simp only [w32_al, w32_ar, w32_sl, w32_sr, w32_m4, w32_m6, w32_m10, w32_m16, w32_m24]); (repeat rw [w32_id (by omega)]); omega) | ((try simp only [w32_al, w32_ar, w32_sl, w32_sr, w32_m4, w32_m6, w32_m10, w32_m16, w32_m24]); unfold w32; omega) | (simp [sto, z0_at, w32]; done) | (simp [sto, z0_at, w32]; omega)))) | ((with_reducible refine Ok.ite (fun h => ?_) (fun h => ?_)) <;> (try simp [sto, z0_at, w32] at h) <;> (try (exfalso; omega))) | (with_reducible refine Ok.bind' ?_) | ((with_reducible refine Ok.ret ?_); (try dsimp only)) | (with_reducible refine Ok.lpNN ?_) | (with_reducible refine Ok.lp1 ?_) | (with_reducible refine u_l_inv_b77 ?_) | (with_reducible refine u_l_inv_b87 ?_) | (with_reducible refine u_l_inv_b139 ?_) | (with_reducible refine u_l_inv_b64 ?_))
  all_goals omega
abbrev own_E : Type := OMem ⊕ OMem ⊕ OMem ⊕ OMem ⊕ OMem ⊕ OMem ⊕ OMem ⊕ OMem ⊕ OMem ⊕ OMem ⊕ OMem
abbrev own_I (sl : Int) (s : Int × Int × Int × OMem) : Prop := 0 ≤ s.2.2.1 ∧ s.2.2.1 ≤ sl ∧ own_Q s.2.2.2 s.1 ∧ own_T s.2.2.2 s.1 ∧ s.2.2.2 0 25 + s.2.2.2 0 26 ≤ s.2.1 ∧ (s.2.2.2 0 20 = 0 → s.2.1 = 0) ∧ s.2.1 ≤ 40 * s.2.2.1
def own_W (sl x5 : Int) (e : (Int × Int × Int × OMem) ⊕ own_E) : Prop := match e with | .inl s => own_I sl s ∧ (sl - s.2.2.1).toNat < (sl - x5).toNat | .inr e => ∃ M, e = .inr (.inr (.inr (.inr (.inr (.inr (.inr (.inr (.inr (.inr M)))))))))
set_option maxRecDepth 65536 in
set_option maxHeartbeats 16000000 in
theorem own_b513 (sl : Int) (sc : Int → Int) (hl : 0 ≤ sl ∧ sl ≤ 260) (x2 x3 x5 : Int) (m : OMem) (h5 : 0 ≤ x5 ∧ x5 + 4 < sl) (h : own_Q m x2) (hT : own_T m x2) (hs : m 0 25 + m 0 26 ≤ x3) (h0 : m 0 20 = 0 → x3 = 0) (h3 : x3 ≤ 40 * (x5 + 5)) : Ok (l_law_b513 sl sc x2 x3 x5 m) (own_W sl x5) := by
  unfold l_law_b513
  refine Ok.bind (own_inv sl sc m x2 x3 h hT hs h0) fun r hr => Ok.neg (by omega) (Ok.ret ?_)
  rw [w32_id (by omega)]
  refine ⟨⟨?_, ?_, h, hT, hs, h0, h3⟩, ?_⟩
  all_goals (dsimp only; omega)
set_option maxRecDepth 65536 in
set_option maxHeartbeats 16000000 in
theorem own_pc (m : OMem) : f_pc m = some (if m 0 20 = 0 then 0 else m 0 23) := by
  unfold f_pc f_pc_b15
  split <;> rfl
set_option maxRecDepth 65536 in
set_option maxHeartbeats 16000000 in
theorem own_run0 (m : OMem) (K : Int) (h : K < 1 ∨ m 0 20 = 2 ∨ m 0 20 = 3) : f_run K m = some (0, m) := by
  unfold f_run f_run_b23
  by_cases a : K < 1
  · rw [if_pos a]
  · rw [if_neg a]
    by_cases b : m 0 20 = 2
    · rw [if_pos b]
    · rw [if_neg b, if_pos (by omega)]
set_option maxRecDepth 65536 in
set_option maxHeartbeats 16000000 in
theorem own_sel0 (sl : Int) (sc : Int → Int) (hl : 0 ≤ sl ∧ sl ≤ 260) (x2 x3 x5 x6 x7 x8 x9 x10 s0 : Int) (m : OMem) (h5 : 0 ≤ x5 ∧ x5 + 4 < sl) (h : own_Q m x2) (hT : own_T m x2) (hs : m 0 25 + m 0 26 ≤ x3) (h0 : m 0 20 = 0 → x3 = 0) (h3 : x3 ≤ 40 * x5) (hs0 : (m 0 20 = 0 ∧ s0 = 1) ∨ (m 0 20 ≠ 0 ∧ s0 = 0)) (h6 : x6 < 5) : Ok (l_law_b85 sl sc x2 x3 x5 x6 x7 x8 x9 x10 (m 0 20) s0 m) (own_W sl x5) := by
  have hn := h.1.2.2.2
  unfold l_law_b85
  refine Ok.pos h6 ?_
  refine Ok.bind (own_ai m x2 _ _ _ _ h hT (by rw [and32_15]; omega)) fun r hr => ?_
  obtain ⟨r, m1⟩ := r
  dsimp only at hr ⊢
  by_cases hc : m 0 20 = 0 ∧ x2 < 16 ∧ and32 x7 15 < 15
  · obtain ⟨e1, hQ, hT1, e20, e25, e26⟩ := hr.1 hc
    subst e1
    refine Ok.neg (by omega) (Ok.pos hc.2.1 (Ok.pos hc.2.2 ?_))
    unfold l_law_b147 l_law_b160
    refine Ok.pos rfl (Ok.neg (by decide) ?_)
    rw [w32_id (z := x2 + 1) (by omega)]
    exact own_b513 sl sc hl _ _ _ _ h5 hQ hT1 (by omega) (fun _ => h0 hc.1) (by omega)
  · obtain ⟨rfl, rfl⟩ := Prod.mk.inj (hr.2 hc)
    have B : Ok (l_law_b146 sl sc x2 x3 x5 0 0 m1) (own_W sl x5) := by
      unfold l_law_b146 l_law_b147 l_law_b160
      refine Ok.pos rfl (Ok.pos rfl ?_)
      exact own_b513 sl sc hl _ _ _ _ h5 h hT hs h0 (by omega)
    exact Ok.ite (fun _ => B) (fun q => Ok.ite (fun a => Ok.ite (fun b => absurd ⟨by omega, a, b⟩ hc) (fun _ => B)) (fun _ => B))
set_option maxRecDepth 65536 in
set_option maxHeartbeats 16000000 in
theorem own_sel5 (sl : Int) (sc : Int → Int) (hl : 0 ≤ sl ∧ sl ≤ 260) (x2 x3 x5 x6 x7 x8 x9 x10 s0 : Int) (m : OMem) (h5 : 0 ≤ x5 ∧ x5 + 4 < sl) (h : own_Q m x2) (hT : own_T m x2) (hs : m 0 25 + m 0 26 ≤ x3) (h0 : m 0 20 = 0 → x3 = 0) (h3 : x3 ≤ 40 * x5) (hs0 : (m 0 20 = 0 ∧ s0 = 1) ∨ (m 0 20 ≠ 0 ∧ s0 = 0)) (h6 : x6 = 5) : Ok (l_law_b85 sl sc x2 x3 x5 x6 x7 x8 x9 x10 (m 0 20) s0 m) (own_W sl x5) := by
  unfold l_law_b85
  refine Ok.neg (by omega) (Ok.pos h6 ?_)
  have hB : 0 ≤ rem32 (and32 x9 2147483647) 5 := by rw [and32_max, rem32_nn (by omega)]; omega
  generalize w32 (rem32 (and32 x7 2147483647) 10 - 1) = A
  generalize rem32 (and32 x9 2147483647) 5 = B at hB ⊢
  refine Ok.bindE (own_mem m x2 A h) (Ok.bindE (own_lab1 m x2 A h) (Ok.bind (own_sm m x2 A x8 B h) fun r hr => ?_))
  obtain ⟨r, m1⟩ := r
  dsimp only at hr ⊢
  by_cases hc : m 0 20 = 0 ∧ 0 ≤ A ∧ A < 8 ∧ 0 ≤ B ∧ B ≤ 3
  · obtain ⟨rfl, rfl⟩ := Prod.mk.inj (hr.1 hc)
    have hQ : own_Q (sto (sto m 7 A x8) 8 A B) x2 := own_QS (own_QS h (by decide) (Or.inl (by decide))) (by decide) (Or.inr (by omega))
    refine Ok.neg (by omega) (Ok.neg (by omega) (Ok.pos (by omega) (Ok.neg (by omega) ?_)))
    unfold l_law_b249
    refine Ok.pos rfl (Ok.neg (by decide) (Ok.bindE (own_mem _ x2 A hQ) ?_))
    refine Ok.pos (by rw [if_pos (by omega)]; simp [sto]) (Ok.bindE (own_lab1 _ x2 A hQ) ?_)
    refine Ok.pos (by rw [if_pos (by omega)]; simp [sto]) ?_
    unfold l_law_b284 l_law_b314
    refine Ok.neg (by decide) ?_
    refine own_b513 sl sc hl _ _ _ _ h5 hQ ?_ (by simp [sto]; omega) (fun _ => h0 hc.1) (by omega)
    simp only [own_T, sto]
    simp
    exact hT
  · obtain ⟨rfl, rfl⟩ := Prod.mk.inj (hr.2 hc)
    have Z : ∀ x, Ok (l_law_b248 sl sc x2 x3 x5 x A B (if 0 ≤ A ∧ A < 8 then m1 7 A else 0) (if 0 ≤ A ∧ A < 8 then m1 8 A else -1) 0 0 m1) (own_W sl x5) := by
      intro x
      unfold l_law_b248 l_law_b249 l_law_b284 l_law_b314
      refine Ok.pos rfl (Ok.pos rfl (Ok.pos rfl (Ok.bindE (own_mem m1 x2 A h) (Ok.pos rfl (Ok.bindE (own_lab1 m1 x2 A h) (Ok.pos rfl ?_))))))
      exact own_b513 sl sc hl _ _ _ _ h5 h hT hs h0 (by omega)
    refine Ok.ite (fun _ => Z _) (fun q => Ok.ite (fun _ => Z _) (fun a => Ok.ite (fun b => Ok.ite (fun _ => Z _) (fun c => ?_)) (fun _ => Z _)))
    exact absurd ⟨by omega, by omega, b, hB, by omega⟩ hc
set_option maxRecDepth 65536 in
set_option maxHeartbeats 16000000 in
theorem own_sel6 (sl : Int) (sc : Int → Int) (hl : 0 ≤ sl ∧ sl ≤ 260) (x2 x3 x5 x6 x7 x8 x9 x10 s0 : Int) (m : OMem) (h5 : 0 ≤ x5 ∧ x5 + 4 < sl) (h : own_Q m x2) (hT : own_T m x2) (hs : m 0 25 + m 0 26 ≤ x3) (h0 : m 0 20 = 0 → x3 = 0) (h3 : x3 ≤ 40 * x5) (hs0 : (m 0 20 = 0 ∧ s0 = 1) ∨ (m 0 20 ≠ 0 ∧ s0 = 0)) (h6 : 5 < x6) : Ok (l_law_b85 sl sc x2 x3 x5 x6 x7 x8 x9 x10 (m 0 20) s0 m) (own_W sl x5) := by
  have hn := h.1.2.2.2.2.2
  unfold l_law_b85
  refine Ok.neg (by omega) (Ok.neg (by omega) ?_)
  have hK : w32 (rem32 (and32 x7 2147483647) 40 - 1) ≤ 38 := by
    rw [and32_max, rem32_nn (by omega), w32_id (by omega)]; omega
  generalize w32 (rem32 (and32 x7 2147483647) 40 - 1) = K at hK ⊢
  refine Ok.bindE (own_pc m) (Ok.bindE (b := m 0 25) rfl (Ok.bindE (b := m 0 26) rfl ?_))
  by_cases hc : K < 1 ∨ m 0 20 = 2 ∨ m 0 20 = 3
  · refine Ok.bindE (own_run0 m K hc) ?_
    refine Ok.bindE (b := m 0 20) rfl (Ok.bindE (b := m 0 25) rfl (Ok.bindE (b := m 0 26) rfl ?_))
    have e19 : w32 (w32 (w32 (m 0 25 - m 0 25) + m 0 26) - m 0 26) = 0 := by
      rw [w32_id (z := m 0 25 - m 0 25) (by omega), w32_id (z := m 0 25 - m 0 25 + m 0 26) (by omega), w32_id (by omega)]; omega
    rw [e19]
    have Z : Ok (l_law_b396 sl sc x2 x3 x5 (m 0 20) (if m 0 20 = 0 then 0 else m 0 23) 0 (m 0 20) 0 m) (own_W sl x5) := by
      unfold l_law_b396 l_law_b507
      refine Ok.pos rfl (Ok.pos rfl (Ok.bindE (own_pc m) (Ok.pos rfl (Ok.pos rfl ?_))))
      rw [w64_id (z := x3 + 0) (by omega), Int.add_zero]
      exact own_b513 sl sc hl _ _ _ _ h5 h hT hs h0 (by omega)
    refine Ok.ite (fun _ => Z) (fun a => Ok.ite (fun _ => Z) (fun b => Ok.pos (by omega) Z))
  · refine Ok.bind (own_run m x2 K h hT (by omega) (by omega)) fun r hr => ?_
    obtain ⟨r, m1⟩ := r
    obtain ⟨⟨d1, d2, d3, d4, d5, d6, d7⟩, d8, d9, d10⟩ := hr
    dsimp only at d1 d2 d3 d4 d5 d6 d7 d8 d9 d10 ⊢
    have hn1 := d1.1.2.2.2.2.2
    refine Ok.bindE (b := m1 0 20) rfl (Ok.bindE (b := m1 0 25) rfl (Ok.bindE (b := m1 0 26) rfl ?_))
    have e19 : w32 (w32 (w32 (m1 0 25 - m 0 25) + m1 0 26) - m 0 26) = m1 0 25 - m 0 25 + m1 0 26 - m 0 26 := by
      rw [w32_id (z := m1 0 25 - m 0 25) (by omega), w32_id (z := m1 0 25 - m 0 25 + m1 0 26) (by omega), w32_id (by omega)]
    rw [e19]
    have Z2 : Ok (l_law_b480 sl sc x2 x3 x5 (m 0 25) (m 0 26) r (m1 0 25 - m 0 25 + m1 0 26 - m 0 26) m1) (own_W sl x5) := by
      unfold l_law_b480 l_law_b507
      refine Ok.bindE (b := m1 0 25) rfl (Ok.neg (by omega) (Ok.bindE (b := m1 0 26) rfl (Ok.neg (by omega) (Ok.neg (by omega) ?_))))
      rw [w64_id (z := x3 + r) (by omega)]
      exact own_b513 sl sc hl _ _ _ _ h5 d1 d2 (by omega) (by omega) (by omega)
    have Z : Ok (l_law_b465 sl sc x2 x3 x5 K (m 0 25) (m 0 26) r (m1 0 20) (m1 0 25 - m 0 25 + m1 0 26 - m 0 26) m1) (own_W sl x5) := by
      unfold l_law_b465
      exact Ok.ite (fun a => Ok.pos (d9 a) Z2) (fun _ => Z2)
    refine Ok.neg (by omega) (Ok.neg (by omega) (Ok.neg (by omega) (Ok.neg (by omega) (Ok.neg (by omega) (Ok.neg (by omega) ?_)))))
    refine Ok.ite (fun _ => Z) (fun a => Ok.ite (fun b => ?_) (fun _ => Z))
    have q := d10 ⟨by omega, b⟩
    exact Ok.pos q.1 (Ok.pos q.2 Z)
set_option maxRecDepth 65536 in
set_option maxHeartbeats 16000000 in
theorem law_true (sl : Int) (sc : Int → Int) (hl : 0 ≤ sl ∧ sl ≤ 260) (hr : ∀ i, -2147483648 ≤ sc i ∧ sc i < 2147483648) : ∃ W, l_law sl sc = some (1, W) := by
  refine Ok.law ?_
  unfold l_law
  refine Ok.bind own_init fun m hm => ?_
  refine Ok.bind (P := fun q => ∃ M, q = .inr (.inr (.inr (.inr (.inr (.inr (.inr (.inr (.inr (.inr M)))))))))) ?_ fun q hq => ?_
  · have t0 := hm.2.1.2.2.2.1 hm.2.2
    refine Ok.loop (own_I sl) (fun s => (sl - s.2.2.1).toNat) ⟨by simp, hl.1, hm.1, hm.2.1, by dsimp only; omega, fun _ => rfl, by simp⟩ (by dsimp only; omega) ?_
    rintro ⟨x2, x3, x5, m0⟩ ⟨h1, h2, h3, h4, h5, h6, h7⟩
    dsimp only at h1 h2 h3 h4 h5 h6 h7
    have R : Ok (l_law_l19 sl sc (x2, x3, x5, m0)) (own_W sl x5) := by
      unfold l_law_l19
      dsimp only
      rw [w32_id (z := x5 + 1) (by omega), w32_id (z := x5 + 2) (by omega), w32_id (z := x5 + 3) (by omega), w32_id (z := x5 + 4) (by omega)]
      refine Ok.ite (fun hx => ?_) (fun hx => Ok.ret ⟨_, rfl⟩)
      refine Ok.grd (by omega) (Ok.grd (by omega) (Ok.grd (by omega) (Ok.grd (by omega) (Ok.grd (by omega) ?_))))
      refine Ok.bindE (b := m0 0 20) rfl ?_
      have go : ∀ x6 a b c d s0, (m0 0 20 = 0 ∧ s0 = 1) ∨ (m0 0 20 ≠ 0 ∧ s0 = 0) → Ok (l_law_b85 sl sc x2 x3 x5 x6 a b c d (m0 0 20) s0 m0) (own_W sl x5) := by
        intro x6 a b c d s0 hs0
        rcases (by omega : x6 < 5 ∨ x6 = 5 ∨ 5 < x6) with q | q | q
        · exact own_sel0 sl sc hl _ _ _ _ _ _ _ _ _ _ ⟨h1, hx⟩ h3 h4 h5 h6 h7 hs0 q
        · exact own_sel5 sl sc hl _ _ _ _ _ _ _ _ _ _ ⟨h1, hx⟩ h3 h4 h5 h6 h7 hs0 q
        · exact own_sel6 sl sc hl _ _ _ _ _ _ _ _ _ _ ⟨h1, hx⟩ h3 h4 h5 h6 h7 hs0 q
      exact Ok.ite (fun a => go _ _ _ _ _ _ (Or.inl ⟨a, rfl⟩)) (fun a => go _ _ _ _ _ _ (Or.inr ⟨a, rfl⟩))
    refine Ok.mono R fun e he => ?_
    cases e with
    | inl s => exact he
    | inr e => exact he
  · obtain ⟨M, rfl⟩ := hq
    dsimp only
    exact Ok.ret rfl

set_option maxRecDepth 65536 in
set_option maxHeartbeats 8000000 in
set_option maxHeartbeats 4000000 in
theorem comes_1 {Post : Tables → Env → Array Value → State → Outcome → State → Prop} (hpost : ∀ tb e args s v u, (limb_1_1.after args s (.returned v) u = true ∧ limb_1_2.after args s (.returned v) u = true ∧ True) → FrameEnd s (.returned v) u (Jvm.fieldLocs frame_1_writes args s ++ Jvm.arrayLocs frame_1_arrays args s ++ Jvm.staticLocs frame_1_statics s) 48 1024 → Post tb e args s (.returned v) u) :
    ArmFor flags0 classFile x code maxLocals ret World_1 tables_1 room_1 Calls_1 rest_1 Pre_1 Post := by
  intro l hfl _ _ p e ha hc hk s m args below hf hA hF happ hP
  obtain ⟨hcalls, hrest, hpre⟩ := hP
  obtain ⟨-, -, -, hnamed, -, -, -, hat⟩ := (Spec.applies_iff hf).mp happ
  obtain ⟨hg, hn⟩ := and_e (Cond.before_iff.mp (show (Jvm.Cond.and given_1 narrow_1).before args s = true from hpre))
  have hw := fun d (hd : d ∈ tables_1) => atoms_spec (ws := Jvm.Cond.code x code maxLocals ret :: tables_1) hat d (List.mem_cons_of_mem _ hd)
  have hfit : Fit s := fun {y c} hc i hi => by
    obtain ⟨ha, rfl⟩ := Array.getElem?_eq_some_iff.mp hc
    have q := List.all_eq_true.mp ((Array.all_eq_true_iff_forall_mem.mp hF) _ (Array.getElem_mem ha)) i (List.mem_range.mpr hi)
    simpa [Array.getElem?_eq_getElem hi] using q
  obtain ⟨hcnt, g0⟩ := and_e hg
  obtain ⟨w0, rfl⟩ : ∃ w0 : Value, args = #[w0] := by
    have hs : args.size = 1 := by simpa [Cond.value, given_1] using hcnt
    obtain ⟨L⟩ := args
    match L, hs with
    | [w0], _ => exact ⟨w0, rfl⟩
  obtain ⟨hn1, hn2⟩ := and_e hn
  obtain ⟨a, ea⟩ := arr_v hn1
  obtain rfl : w0 = .ref a := Option.some.inj ea
  obtain ⟨cl, hAr⟩ := Arr.start ea hn1
  obtain ⟨hlen0, hlen⟩ := own_len hn2 ea hAr
  have hel : ∀ i : Nat, i < cl.slots.size → ∃ x : Int32, cl.slots[i]? = some (.int x) := fun i hi => own_elem hfit hAr hi hlen0
  obtain ⟨W, hlaw⟩ := law_true (cl.slots.size : Int) (own_sc cl) ⟨by omega, hlen⟩ (own_sc_rng cl)
  obtain ⟨N, hN⟩ := l_law_ok (cl.slots.size : Int) (own_sc cl) _ hlaw _ ⟨0, rfl⟩
  have hM := lawMet (sc := (true, (cl.slots.size : Int), own_sc cl)) (mo := 1) (as := [vr 0]) (vals := [.ref a]) (A := (fun _ => a)) (rm := room_1) (n0 := s.heap.size) (h := s.heap) (tabP hw) (tabL hw) (by decide) l (x := x) rfl (ps := [2]) (ml := 20) (fr := 6) (lc := 96) rfl hN (Nat.le_of_eq rfl) tables_1 (by decide) (by decide) (by decide) (by decide +kernel) (Nat.le_refl _) (fun _ => ⟨(Array.getElem?_eq_some_iff.mp hAr.1).1, cl, hAr, rfl, by show (cl.slots.size : Int) < 2147483648; omega, fun i hi => by obtain ⟨x, hx⟩ := hel i hi; exact ⟨x, hx, (own_sc_at hx).symm⟩⟩) ⟨⟨Nat.le_refl _, rfl⟩, trivial⟩
  obtain ⟨n, o, h1, h2, h3, L, rfl, N, hq⟩ := hM p e ha hc hk s m _ below hf ((Spec.applies_iff_loose hf).mp happ).1 ⟨rfl, State.Warmed39.refl s, rfl⟩ trivial
  exact ⟨n, _, h1, h2, h3, hpost _ _ _ _ _ _ ⟨Cond.after_iff.mpr rfl, Cond.after_iff.mpr (eq_i res_at (Term.int_eval (1)) rfl), trivial⟩ ⟨hq.1, hq.2.1, (hq.2.2.sift fun y hy => Or.inr (N y hy)).mono (by decide) (by decide)⟩⟩
theorem main_1_1 : Claimed_1_1 := comes_1 fun _ _ _ _ _ _ h hF => ⟨h.1, hF⟩
theorem main_1_2 : Claimed_1_2 := comes_1 fun _ _ _ _ _ _ h hF => ⟨h.2.1, hF⟩
end Jvm.Pilot.@@N@@
namespace Jvm.Pilot.@@N@@
open Jvm Jvm.ClassFile Sem Op Lib Jvm.Free Jvm.Stand Jvm.Pilot.@@N@@.Jvm.D
/-! MADE BY PROGRAM (witnessworld.py) out of the Statement's table words and the real class files: 13 classes; the members and pool entries that the words name. The judged class is class 1, her method 1. -/
namespace start1
open Jvm.ClassFile
def u (s : String) : CpInfo := .utf8 (stringToUtf16 s)
/-- a pool by its gaps: so many unusable entries, then the entry; so many at the end -/
def gap : Nat → List CpInfo → List CpInfo
  | 0, r => r
  | n + 1, r => .unusable :: gap n r
def poolList (es : List (Nat × CpInfo)) (last : Nat) : List CpInfo := es.foldr (fun e r => gap e.1 (e.2 :: r)) (gap last [])
def pool (es : List (Nat × CpInfo)) (last : Nat) : Array CpInfo := ⟨poolList es last⟩
def fileOf (pool : Array CpInfo) (this : Nat) (attrs : Array Attribute := #[]) (ms : Array MethodInfo := #[]) (fl : Nat := 33) (sup : Nat := 0) (ifs : Array Nat := #[]) (fds : Array FieldInfo := #[]) : ClassFile where
  minorVersion := 0
  majorVersion := 65
  constantPool := pool
  accessFlags := fl
  thisClass := this
  superClass := sup
  interfaces := ifs
  fields := fds
  methods := ms
  attributes := attrs
def plain (name : String) (sup : Option ClassId) : Class where
  name := name
  kind := .ordinary
  loader := none
  accessFlags := 33
  super := sup
  interfaces := #[]
  cf := none
  fields := #[]
  methods := #[]
  instanceTypes := #[]
  staticTypes := #[]
  resolved := #[]
  callSites := []
  init := .initialized
  statics := none
  mirror := none

def pool0 : Array CpInfo := pool [(5, u "<init>"), (0, u "()V"), (1, .class_ 10), (1, u "java/lang/Object")] 113

def k0c0 : Code := { maxStack := 0, maxLocals := 1, code := object_method_1_code, exceptionTable := #[], attributes := #[] }
def k0m0 : Method := { name := "<init>", desc := "()V", sig := { parameters := [], returnType := none }, accessFlags := 1, code := some k0c0 }
/-- java/lang/Object -/
def k0 : Class := { plain "java/lang/Object" none with
  accessFlags := 33
  interfaces := #[]
  cf := some (fileOf pool0 8 #[] #[{ accessFlags := 1, nameIndex := 5, descriptorIndex := 6, attributes := #[] }] 33 0 #[] #[])
  fields := #[]
  methods := #[k0m0]
  instanceTypes := #[]
  staticTypes := #[]
  resolved := Array.replicate 124 none
  statics := none }

def pool1 : Array CpInfo := pool [(2, .class_ 4), (1, u "java/lang/Object"), (0, u "<init>"), (0, u "()V"), (0, .class_ 8), (0, u "FlowMonitorVM"), (0, .methodref 7 10), (0, .nameAndType 5 11), (0, u "(II)V"), (0, .methodref 7 13), (0, .nameAndType 14 15), (0, u "status"), (0, u "()I"), (0, .methodref 7 17), (0, .nameAndType 18 19), (0, u "addInstr"), (0, u "(IIII)Z"), (0, .integer 2147483647), (0, .methodref 7 22), (0, .nameAndType 23 24), (0, u "mem"), (0, u "(I)I"), (0, .methodref 7 26), (0, .nameAndType 27 28), (0, u "labelOf"), (0, u "(II)I"), (0, .methodref 7 30), (0, .nameAndType 31 32), (0, u "setMem"), (0, u "(III)Z"), (0, .methodref 7 34), (0, .nameAndType 35 15), (0, u "pc"), (0, .methodref 7 37), (0, .nameAndType 38 15), (0, u "outCount"), (0, .methodref 7 40), (0, .nameAndType 41 15), (0, u "auditCount"), (0, .methodref 7 43), (0, .nameAndType 44 24), (0, u "run"), (0, .methodref 46 47), (0, .class_ 48), (0, .nameAndType 49 50), (0, u "FlowMonitorVML6"), (0, u "inv"), (0, u "(LFlowMonitorVM;IJ)Z"), (0, .methodref 7 52), (0, .nameAndType 53 15), (0, u "stopKind"), (0, .methodref 7 55), (0, .nameAndType 56 15), (0, u "depth"), (0, .methodref 7 58), (0, .nameAndType 59 15), (0, u "pcLabel"), (0, .methodref 7 61), (0, .nameAndType 62 24), (0, u "join"), (0, .methodref 7 64), (0, .nameAndType 65 24), (0, u "reg"), (0, .methodref 7 67), (0, .nameAndType 68 28), (0, u "outEntry"), (0, .methodref 7 70), (0, .nameAndType 71 28), (0, u "auditEntry"), (2, u "law"), (0, u "([I)Z")] 5

def k1m0 : Method := { name := "<init>", desc := "()V", sig := { parameters := [], returnType := none }, accessFlags := 1, code := none }
def k1c1 : Code := { maxStack := 6, maxLocals := 20, code := code, exceptionTable := #[], attributes := #[] }
def k1m1 : Method := { name := "law", desc := "([I)Z", sig := { parameters := [(.array .int)], returnType := some .boolean }, accessFlags := 9, code := some k1c1 }
def k1c2 : Code := { maxStack := 4, maxLocals := 14, code := method_3_code, exceptionTable := #[], attributes := #[] }
def k1m2 : Method := { name := "inv", desc := "(LFlowMonitorVM;IJ)Z", sig := { parameters := [(.object "FlowMonitorVM"), .int, .long], returnType := some .boolean }, accessFlags := 10, code := some k1c2 }
/-- FlowMonitorVML6 -/
def k1 : Class := { plain "FlowMonitorVML6" (some 0) with
  accessFlags := 33
  interfaces := #[]
  cf := some (fileOf pool1 46 #[] #[{ accessFlags := 1, nameIndex := 5, descriptorIndex := 6, attributes := #[] }, { accessFlags := 9, nameIndex := 74, descriptorIndex := 75, attributes := #[] }, { accessFlags := 10, nameIndex := 49, descriptorIndex := 50, attributes := #[] }] 33 2 #[] #[])
  fields := #[]
  methods := #[k1m0, k1m1, k1m2]
  instanceTypes := #[]
  staticTypes := #[]
  resolved := Array.replicate 81 none
  statics := none }

def pool2 : Array CpInfo := pool [(1, .methodref 2 3), (0, .class_ 4), (0, .nameAndType 5 6), (0, u "java/lang/Object"), (0, u "<init>"), (0, u "()V"), (0, .fieldref 8 9), (0, .class_ 10), (0, .nameAndType 11 12), (0, u "FlowMonitorVM"), (0, u "code"), (0, u "[I"), (0, .fieldref 8 14), (0, .nameAndType 15 12), (0, u "argA"), (0, .fieldref 8 17), (0, .nameAndType 18 12), (0, u "argB"), (0, .fieldref 8 20), (0, .nameAndType 21 12), (0, u "argC"), (0, .fieldref 8 23), (0, .nameAndType 24 12), (0, u "regVal"), (0, .fieldref 8 26), (0, .nameAndType 27 12), (0, u "regLab"), (0, .fieldref 8 29), (0, .nameAndType 30 12), (0, u "memVal"), (0, .fieldref 8 32), (0, .nameAndType 33 12), (0, u "memLab"), (0, .fieldref 8 35), (0, .nameAndType 36 12), (0, u "stLab"), (0, .fieldref 8 38), (0, .nameAndType 39 12), (0, u "stJoin"), (0, .fieldref 8 41), (0, .nameAndType 42 12), (0, u "outCh"), (0, .fieldref 8 44), (0, .nameAndType 45 12), (0, u "outVal"), (0, .fieldref 8 47), (0, .nameAndType 48 12), (0, u "audPc"), (0, .fieldref 8 50), (0, .nameAndType 51 12), (0, u "audSrc"), (0, .fieldref 8 53), (0, .nameAndType 54 12), (0, u "audLvl"), (0, .fieldref 8 56), (0, .nameAndType 57 12), (0, u "joinOf"), (0, .fieldref 8 59), (0, .nameAndType 60 61), (0, u "reach"), (0, u "[Z"), (0, .fieldref 8 63), (0, .nameAndType 64 65), (0, u "pdom"), (0, u "[J"), (0, .methodref 8 67), (0, .nameAndType 68 69), (0, u "clamp"), (0, u "(I)I"), (0, .fieldref 8 71), (0, .nameAndType 72 73), (0, u "codeCap"), (0, u "I"), (0, .fieldref 8 75), (0, .nameAndType 76 73), (0, u "memSize"), (0, .fieldref 8 78), (0, .nameAndType 79 73), (0, u "status"), (0, .fieldref 8 81), (0, .nameAndType 82 73), (0, u "stop"), (0, .fieldref 8 84), (0, .nameAndType 85 73), (0, u "n"), (0, .methodref 8 87), (0, .nameAndType 88 6), (0, u "computeJoins"), (0, .fieldref 8 90), (0, .nameAndType 91 73), (0, u "pc"), (0, .fieldref 8 93), (0, .nameAndType 94 73), (0, u "sp"), (0, .methodref 8 96), (0, .nameAndType 97 98), (0, u "step"), (0, u "()I"), (0, .methodref 8 100), (0, .nameAndType 101 98), (0, u "curLabel"), (0, .fieldref 8 103), (0, .nameAndType 104 73), (0, u "outN"), (0, .fieldref 8 106), (0, .nameAndType 107 73), (0, u "audN"), (0, .methodref 8 109), (0, .nameAndType 110 69), (0, u "target"), (0, .methodref 8 112), (0, .nameAndType 113 6), (0, u "computeReach"), (0, .methodref 8 115), (0, .nameAndType 116 6), (0, u "computePdom"), (0, .methodref 8 118), (0, .nameAndType 119 69), (0, u "pickJoin"), (0, .methodref 8 121), (0, .nameAndType 122 69), (0, u "succFirst"), (0, .methodref 8 124), (0, .nameAndType 125 69), (0, u "succSecond"), (0, .methodref 8 127), (0, .nameAndType 128 129), (0, u "succReaches"), (0, u "(I)Z"), (0, .methodref 8 131), (0, .nameAndType 132 133), (0, u "allMask"), (0, u "()J"), (0, .methodref 8 135), (0, .nameAndType 136 137), (0, u "meetSucc"), (0, u "(I)J"), (0, .long 18446744073709551615), (1, .fieldref 8 141), (0, .nameAndType 142 73), (0, u "nextPc"), (0, .methodref 8 144), (0, .nameAndType 145 69), (0, u "execute"), (0, .methodref 8 147), (0, .nameAndType 148 149), (0, u "writeReg"), (0, u "(III)I"), (0, .methodref 8 151), (0, .nameAndType 152 69), (0, u "execMov"), (0, .methodref 8 154), (0, .nameAndType 155 69), (0, u "execLoad"), (0, .methodref 8 157), (0, .nameAndType 158 69), (0, u "execStore"), (0, .methodref 8 160), (0, .nameAndType 161 69), (0, u "execBranch"), (0, .methodref 8 163), (0, .nameAndType 164 69), (0, u "execOut"), (0, .methodref 8 166), (0, .nameAndType 167 69), (0, u "execRaise"), (0, .methodref 8 169), (0, .nameAndType 170 69), (0, u "execDeclass"), (0, .methodref 8 172), (0, .nameAndType 173 174), (0, u "execArith"), (0, u "(II)I"), (0, .methodref 8 176), (0, .nameAndType 177 178), (0, u "flows"), (0, u "(II)Z"), (0, .methodref 8 180), (0, .nameAndType 181 69), (0, u "idx"), (0, u "LOW"), (2, u "LEFT"), (1, u "RIGHT"), (1, u "HIGH"), (1, u "OP_HALT"), (0, u "OP_CONST"), (0, u "OP_MOV"), (0, u "OP_ADD"), (0, u "OP_SUB"), (1, u "OP_MUL"), (1, u "OP_LT"), (1, u "OP_EQ"), (1, u "OP_LOAD"), (1, u "OP_STORE"), (1, u "OP_JMP"), (1, u "OP_BR"), (1, u "OP_OUT"), (1, u "OP_RAISE"), (1, u "OP_DECLASS"), (1, u "NUM_OPS"), (1, u "LOADING"), (0, u "RUNNING"), (0, u "HALTED"), (0, u "STOPPED"), (0, u "STOP_NONE"), (0, u "STOP_NSU"), (0, u "STOP_LEAK"), (0, u "STOP_DECLASS"), (0, u "STOP_DEPTH"), (0, u "STOP_FULL"), (0, u "REGS"), (0, u "MAX_DEPTH"), (1, u "OUT_CAP"), (1, u "AUDIT_CAP"), (0, u "MAX_RUN"), (1, u "(II)V"), (3, u "addInstr"), (0, u "(IIII)Z"), (0, u "setMem"), (0, u "(III)Z"), (0, u "run"), (0, u "stopKind"), (0, u "pcLabel"), (0, u "depth"), (0, u "reg"), (0, u "mem"), (0, u "labelOf"), (0, u "outCount"), (0, u "outEntry"), (0, u "auditCount"), (0, u "auditEntry"), (0, u "join")] 4

def k2c0 : Code := { maxStack := 3, maxLocals := 3, code := prog_1_method_1_code, exceptionTable := #[], attributes := #[] }
def k2m0 : Method := { name := "<init>", desc := "(II)V", sig := { parameters := [.int, .int], returnType := none }, accessFlags := 1, code := some k2c0 }
def k2c1 : Code := { maxStack := 2, maxLocals := 2, code := prog_1_method_2_code, exceptionTable := #[], attributes := #[] }
def k2m1 : Method := { name := "clamp", desc := "(I)I", sig := { parameters := [.int], returnType := some .int }, accessFlags := 2, code := some k2c1 }
def k2c2 : Code := { maxStack := 3, maxLocals := 5, code := prog_1_method_3_code, exceptionTable := #[], attributes := #[] }
def k2m2 : Method := { name := "addInstr", desc := "(IIII)Z", sig := { parameters := [.int, .int, .int, .int], returnType := some .boolean }, accessFlags := 1, code := some k2c2 }
def k2c3 : Code := { maxStack := 3, maxLocals := 4, code := prog_1_method_4_code, exceptionTable := #[], attributes := #[] }
def k2m3 : Method := { name := "setMem", desc := "(III)Z", sig := { parameters := [.int, .int, .int], returnType := some .boolean }, accessFlags := 1, code := some k2c3 }
def k2c4 : Code := { maxStack := 2, maxLocals := 5, code := prog_1_method_5_code, exceptionTable := #[], attributes := #[] }
def k2m4 : Method := { name := "run", desc := "(I)I", sig := { parameters := [.int], returnType := some .int }, accessFlags := 1, code := some k2c4 }
def k2c5 : Code := { maxStack := 1, maxLocals := 1, code := prog_1_method_6_code, exceptionTable := #[], attributes := #[] }
def k2m5 : Method := { name := "status", desc := "()I", sig := { parameters := [], returnType := some .int }, accessFlags := 1, code := some k2c5 }
def k2c6 : Code := { maxStack := 2, maxLocals := 1, code := prog_1_method_7_code, exceptionTable := #[], attributes := #[] }
def k2m6 : Method := { name := "stopKind", desc := "()I", sig := { parameters := [], returnType := some .int }, accessFlags := 1, code := some k2c6 }
def k2c7 : Code := { maxStack := 1, maxLocals := 1, code := prog_1_method_8_code, exceptionTable := #[], attributes := #[] }
def k2m7 : Method := { name := "pc", desc := "()I", sig := { parameters := [], returnType := some .int }, accessFlags := 1, code := some k2c7 }
def k2c8 : Code := { maxStack := 1, maxLocals := 1, code := prog_1_method_9_code, exceptionTable := #[], attributes := #[] }
def k2m8 : Method := { name := "pcLabel", desc := "()I", sig := { parameters := [], returnType := some .int }, accessFlags := 1, code := some k2c8 }
def k2c9 : Code := { maxStack := 1, maxLocals := 1, code := prog_1_method_10_code, exceptionTable := #[], attributes := #[] }
def k2m9 : Method := { name := "depth", desc := "()I", sig := { parameters := [], returnType := some .int }, accessFlags := 1, code := some k2c9 }
def k2c10 : Code := { maxStack := 2, maxLocals := 2, code := prog_1_method_11_code, exceptionTable := #[], attributes := #[] }
def k2m10 : Method := { name := "reg", desc := "(I)I", sig := { parameters := [.int], returnType := some .int }, accessFlags := 1, code := some k2c10 }
def k2c11 : Code := { maxStack := 2, maxLocals := 2, code := prog_1_method_12_code, exceptionTable := #[], attributes := #[] }
def k2m11 : Method := { name := "mem", desc := "(I)I", sig := { parameters := [.int], returnType := some .int }, accessFlags := 1, code := some k2c11 }
def k2c12 : Code := { maxStack := 2, maxLocals := 3, code := prog_1_method_13_code, exceptionTable := #[], attributes := #[] }
def k2m12 : Method := { name := "labelOf", desc := "(II)I", sig := { parameters := [.int, .int], returnType := some .int }, accessFlags := 1, code := some k2c12 }
def k2c13 : Code := { maxStack := 1, maxLocals := 1, code := prog_1_method_14_code, exceptionTable := #[], attributes := #[] }
def k2m13 : Method := { name := "outCount", desc := "()I", sig := { parameters := [], returnType := some .int }, accessFlags := 1, code := some k2c13 }
def k2c14 : Code := { maxStack := 2, maxLocals := 3, code := prog_1_method_15_code, exceptionTable := #[], attributes := #[] }
def k2m14 : Method := { name := "outEntry", desc := "(II)I", sig := { parameters := [.int, .int], returnType := some .int }, accessFlags := 1, code := some k2c14 }
def k2c15 : Code := { maxStack := 1, maxLocals := 1, code := prog_1_method_16_code, exceptionTable := #[], attributes := #[] }
def k2m15 : Method := { name := "auditCount", desc := "()I", sig := { parameters := [], returnType := some .int }, accessFlags := 1, code := some k2c15 }
def k2c16 : Code := { maxStack := 2, maxLocals := 3, code := prog_1_method_17_code, exceptionTable := #[], attributes := #[] }
def k2m16 : Method := { name := "auditEntry", desc := "(II)I", sig := { parameters := [.int, .int], returnType := some .int }, accessFlags := 1, code := some k2c16 }
def k2c17 : Code := { maxStack := 2, maxLocals := 2, code := prog_1_method_18_code, exceptionTable := #[], attributes := #[] }
def k2m17 : Method := { name := "join", desc := "(I)I", sig := { parameters := [.int], returnType := some .int }, accessFlags := 1, code := some k2c17 }
def k2c18 : Code := { maxStack := 2, maxLocals := 2, code := prog_1_method_19_code, exceptionTable := #[], attributes := #[] }
def k2m18 : Method := { name := "target", desc := "(I)I", sig := { parameters := [.int], returnType := some .int }, accessFlags := 2, code := some k2c18 }
def k2c19 : Code := { maxStack := 3, maxLocals := 3, code := prog_1_method_20_code, exceptionTable := #[], attributes := #[] }
def k2m19 : Method := { name := "succFirst", desc := "(I)I", sig := { parameters := [.int], returnType := some .int }, accessFlags := 2, code := some k2c19 }
def k2c20 : Code := { maxStack := 2, maxLocals := 2, code := prog_1_method_21_code, exceptionTable := #[], attributes := #[] }
def k2m20 : Method := { name := "succSecond", desc := "(I)I", sig := { parameters := [.int], returnType := some .int }, accessFlags := 2, code := some k2c20 }
def k2c21 : Code := { maxStack := 4, maxLocals := 2, code := prog_1_method_22_code, exceptionTable := #[], attributes := #[] }
def k2m21 : Method := { name := "computeJoins", desc := "()V", sig := { parameters := [], returnType := none }, accessFlags := 2, code := some k2c21 }
def k2c22 : Code := { maxStack := 2, maxLocals := 4, code := prog_1_method_23_code, exceptionTable := #[], attributes := #[] }
def k2m22 : Method := { name := "succReaches", desc := "(I)Z", sig := { parameters := [.int], returnType := some .boolean }, accessFlags := 2, code := some k2c22 }
def k2c23 : Code := { maxStack := 4, maxLocals := 4, code := prog_1_method_24_code, exceptionTable := #[], attributes := #[] }
def k2m23 : Method := { name := "computeReach", desc := "()V", sig := { parameters := [], returnType := none }, accessFlags := 2, code := some k2c23 }
def k2c24 : Code := { maxStack := 4, maxLocals := 1, code := prog_1_method_25_code, exceptionTable := #[], attributes := #[] }
def k2m24 : Method := { name := "allMask", desc := "()J", sig := { parameters := [], returnType := some .long }, accessFlags := 2, code := some k2c24 }
def k2c25 : Code := { maxStack := 4, maxLocals := 6, code := prog_1_method_26_code, exceptionTable := #[], attributes := #[] }
def k2m25 : Method := { name := "meetSucc", desc := "(I)J", sig := { parameters := [.int], returnType := some .long }, accessFlags := 2, code := some k2c25 }
def k2c26 : Code := { maxStack := 5, maxLocals := 8, code := prog_1_method_27_code, exceptionTable := #[], attributes := #[] }
def k2m26 : Method := { name := "computePdom", desc := "()V", sig := { parameters := [], returnType := none }, accessFlags := 2, code := some k2c26 }
def k2c27 : Code := { maxStack := 6, maxLocals := 5, code := prog_1_method_28_code, exceptionTable := #[], attributes := #[] }
def k2m27 : Method := { name := "pickJoin", desc := "(I)I", sig := { parameters := [.int], returnType := some .int }, accessFlags := 2, code := some k2c27 }
def k2c28 : Code := { maxStack := 3, maxLocals := 1, code := prog_1_method_29_code, exceptionTable := #[], attributes := #[] }
def k2m28 : Method := { name := "curLabel", desc := "()I", sig := { parameters := [], returnType := some .int }, accessFlags := 2, code := some k2c28 }
def k2c29 : Code := { maxStack := 2, maxLocals := 3, code := prog_1_method_30_code, exceptionTable := #[], attributes := #[] }
def k2m29 : Method := { name := "flows", desc := "(II)Z", sig := { parameters := [.int, .int], returnType := some .boolean }, accessFlags := 2, code := some k2c29 }
def k2c30 : Code := { maxStack := 2, maxLocals := 2, code := prog_1_method_31_code, exceptionTable := #[], attributes := #[] }
def k2m30 : Method := { name := "idx", desc := "(I)I", sig := { parameters := [.int], returnType := some .int }, accessFlags := 2, code := some k2c30 }
def k2c31 : Code := { maxStack := 3, maxLocals := 3, code := prog_1_method_32_code, exceptionTable := #[], attributes := #[] }
def k2m31 : Method := { name := "step", desc := "()I", sig := { parameters := [], returnType := some .int }, accessFlags := 2, code := some k2c31 }
def k2c32 : Code := { maxStack := 4, maxLocals := 3, code := prog_1_method_33_code, exceptionTable := #[], attributes := #[] }
def k2m32 : Method := { name := "execute", desc := "(I)I", sig := { parameters := [.int], returnType := some .int }, accessFlags := 2, code := some k2c32 }
def k2c33 : Code := { maxStack := 4, maxLocals := 6, code := prog_1_method_34_code, exceptionTable := #[], attributes := #[] }
def k2m33 : Method := { name := "writeReg", desc := "(III)I", sig := { parameters := [.int, .int, .int], returnType := some .int }, accessFlags := 2, code := some k2c33 }
def k2c34 : Code := { maxStack := 4, maxLocals := 5, code := prog_1_method_35_code, exceptionTable := #[], attributes := #[] }
def k2m34 : Method := { name := "execMov", desc := "(I)I", sig := { parameters := [.int], returnType := some .int }, accessFlags := 2, code := some k2c34 }
def k2c35 : Code := { maxStack := 4, maxLocals := 9, code := prog_1_method_36_code, exceptionTable := #[], attributes := #[] }
def k2m35 : Method := { name := "execArith", desc := "(II)I", sig := { parameters := [.int, .int], returnType := some .int }, accessFlags := 2, code := some k2c35 }
def k2c36 : Code := { maxStack := 4, maxLocals := 6, code := prog_1_method_37_code, exceptionTable := #[], attributes := #[] }
def k2m36 : Method := { name := "execLoad", desc := "(I)I", sig := { parameters := [.int], returnType := some .int }, accessFlags := 2, code := some k2c36 }
def k2c37 : Code := { maxStack := 5, maxLocals := 8, code := prog_1_method_38_code, exceptionTable := #[], attributes := #[] }
def k2m37 : Method := { name := "execStore", desc := "(I)I", sig := { parameters := [.int], returnType := some .int }, accessFlags := 2, code := some k2c37 }
def k2c38 : Code := { maxStack := 5, maxLocals := 5, code := prog_1_method_39_code, exceptionTable := #[], attributes := #[] }
def k2m38 : Method := { name := "execBranch", desc := "(I)I", sig := { parameters := [.int], returnType := some .int }, accessFlags := 2, code := some k2c38 }
def k2c39 : Code := { maxStack := 4, maxLocals := 5, code := prog_1_method_40_code, exceptionTable := #[], attributes := #[] }
def k2m39 : Method := { name := "execOut", desc := "(I)I", sig := { parameters := [.int], returnType := some .int }, accessFlags := 2, code := some k2c39 }
def k2c40 : Code := { maxStack := 5, maxLocals := 3, code := prog_1_method_41_code, exceptionTable := #[], attributes := #[] }
def k2m40 : Method := { name := "execRaise", desc := "(I)I", sig := { parameters := [.int], returnType := some .int }, accessFlags := 2, code := some k2c40 }
def k2c41 : Code := { maxStack := 4, maxLocals := 6, code := prog_1_method_42_code, exceptionTable := #[], attributes := #[] }
def k2m41 : Method := { name := "execDeclass", desc := "(I)I", sig := { parameters := [.int], returnType := some .int }, accessFlags := 2, code := some k2c41 }
/-- FlowMonitorVM -/
def k2 : Class := { plain "FlowMonitorVM" (some 0) with
  accessFlags := 49
  interfaces := #[]
  cf := some (fileOf pool2 8 #[] #[{ accessFlags := 1, nameIndex := 5, descriptorIndex := 237, attributes := #[] }, { accessFlags := 2, nameIndex := 68, descriptorIndex := 69, attributes := #[] }, { accessFlags := 1, nameIndex := 241, descriptorIndex := 242, attributes := #[] }, { accessFlags := 1, nameIndex := 243, descriptorIndex := 244, attributes := #[] }, { accessFlags := 1, nameIndex := 245, descriptorIndex := 69, attributes := #[] }, { accessFlags := 1, nameIndex := 79, descriptorIndex := 98, attributes := #[] }, { accessFlags := 1, nameIndex := 246, descriptorIndex := 98, attributes := #[] }, { accessFlags := 1, nameIndex := 91, descriptorIndex := 98, attributes := #[] }, { accessFlags := 1, nameIndex := 247, descriptorIndex := 98, attributes := #[] }, { accessFlags := 1, nameIndex := 248, descriptorIndex := 98, attributes := #[] }, { accessFlags := 1, nameIndex := 249, descriptorIndex := 69, attributes := #[] }, { accessFlags := 1, nameIndex := 250, descriptorIndex := 69, attributes := #[] }, { accessFlags := 1, nameIndex := 251, descriptorIndex := 174, attributes := #[] }, { accessFlags := 1, nameIndex := 252, descriptorIndex := 98, attributes := #[] }, { accessFlags := 1, nameIndex := 253, descriptorIndex := 174, attributes := #[] }, { accessFlags := 1, nameIndex := 254, descriptorIndex := 98, attributes := #[] }, { accessFlags := 1, nameIndex := 255, descriptorIndex := 174, attributes := #[] }, { accessFlags := 1, nameIndex := 256, descriptorIndex := 69, attributes := #[] }, { accessFlags := 2, nameIndex := 110, descriptorIndex := 69, attributes := #[] }, { accessFlags := 2, nameIndex := 122, descriptorIndex := 69, attributes := #[] }, { accessFlags := 2, nameIndex := 125, descriptorIndex := 69, attributes := #[] }, { accessFlags := 2, nameIndex := 88, descriptorIndex := 6, attributes := #[] }, { accessFlags := 2, nameIndex := 128, descriptorIndex := 129, attributes := #[] }, { accessFlags := 2, nameIndex := 113, descriptorIndex := 6, attributes := #[] }, { accessFlags := 2, nameIndex := 132, descriptorIndex := 133, attributes := #[] }, { accessFlags := 2, nameIndex := 136, descriptorIndex := 137, attributes := #[] }, { accessFlags := 2, nameIndex := 116, descriptorIndex := 6, attributes := #[] }, { accessFlags := 2, nameIndex := 119, descriptorIndex := 69, attributes := #[] }, { accessFlags := 2, nameIndex := 101, descriptorIndex := 98, attributes := #[] }, { accessFlags := 2, nameIndex := 177, descriptorIndex := 178, attributes := #[] }, { accessFlags := 2, nameIndex := 181, descriptorIndex := 69, attributes := #[] }, { accessFlags := 2, nameIndex := 97, descriptorIndex := 98, attributes := #[] }, { accessFlags := 2, nameIndex := 145, descriptorIndex := 69, attributes := #[] }, { accessFlags := 2, nameIndex := 148, descriptorIndex := 149, attributes := #[] }, { accessFlags := 2, nameIndex := 152, descriptorIndex := 69, attributes := #[] }, { accessFlags := 2, nameIndex := 173, descriptorIndex := 174, attributes := #[] }, { accessFlags := 2, nameIndex := 155, descriptorIndex := 69, attributes := #[] }, { accessFlags := 2, nameIndex := 158, descriptorIndex := 69, attributes := #[] }, { accessFlags := 2, nameIndex := 161, descriptorIndex := 69, attributes := #[] }, { accessFlags := 2, nameIndex := 164, descriptorIndex := 69, attributes := #[] }, { accessFlags := 2, nameIndex := 167, descriptorIndex := 69, attributes := #[] }, { accessFlags := 2, nameIndex := 170, descriptorIndex := 69, attributes := #[] }] 49 2 #[] #[{ accessFlags := 25, nameIndex := 182, descriptorIndex := 73, attributes := #[] }, { accessFlags := 25, nameIndex := 185, descriptorIndex := 73, attributes := #[] }, { accessFlags := 25, nameIndex := 187, descriptorIndex := 73, attributes := #[] }, { accessFlags := 25, nameIndex := 189, descriptorIndex := 73, attributes := #[] }, { accessFlags := 25, nameIndex := 191, descriptorIndex := 73, attributes := #[] }, { accessFlags := 25, nameIndex := 192, descriptorIndex := 73, attributes := #[] }, { accessFlags := 25, nameIndex := 193, descriptorIndex := 73, attributes := #[] }, { accessFlags := 25, nameIndex := 194, descriptorIndex := 73, attributes := #[] }, { accessFlags := 25, nameIndex := 195, descriptorIndex := 73, attributes := #[] }, { accessFlags := 25, nameIndex := 197, descriptorIndex := 73, attributes := #[] }, { accessFlags := 25, nameIndex := 199, descriptorIndex := 73, attributes := #[] }, { accessFlags := 25, nameIndex := 201, descriptorIndex := 73, attributes := #[] }, { accessFlags := 25, nameIndex := 203, descriptorIndex := 73, attributes := #[] }, { accessFlags := 25, nameIndex := 205, descriptorIndex := 73, attributes := #[] }, { accessFlags := 25, nameIndex := 207, descriptorIndex := 73, attributes := #[] }, { accessFlags := 25, nameIndex := 209, descriptorIndex := 73, attributes := #[] }, { accessFlags := 25, nameIndex := 211, descriptorIndex := 73, attributes := #[] }, { accessFlags := 25, nameIndex := 213, descriptorIndex := 73, attributes := #[] }, { accessFlags := 25, nameIndex := 215, descriptorIndex := 73, attributes := #[] }, { accessFlags := 25, nameIndex := 217, descriptorIndex := 73, attributes := #[] }, { accessFlags := 25, nameIndex := 219, descriptorIndex := 73, attributes := #[] }, { accessFlags := 25, nameIndex := 220, descriptorIndex := 73, attributes := #[] }, { accessFlags := 25, nameIndex := 221, descriptorIndex := 73, attributes := #[] }, { accessFlags := 25, nameIndex := 222, descriptorIndex := 73, attributes := #[] }, { accessFlags := 25, nameIndex := 223, descriptorIndex := 73, attributes := #[] }, { accessFlags := 25, nameIndex := 224, descriptorIndex := 73, attributes := #[] }, { accessFlags := 25, nameIndex := 225, descriptorIndex := 73, attributes := #[] }, { accessFlags := 25, nameIndex := 226, descriptorIndex := 73, attributes := #[] }, { accessFlags := 25, nameIndex := 227, descriptorIndex := 73, attributes := #[] }, { accessFlags := 25, nameIndex := 228, descriptorIndex := 73, attributes := #[] }, { accessFlags := 25, nameIndex := 229, descriptorIndex := 73, attributes := #[] }, { accessFlags := 25, nameIndex := 230, descriptorIndex := 73, attributes := #[] }, { accessFlags := 25, nameIndex := 232, descriptorIndex := 73, attributes := #[] }, { accessFlags := 25, nameIndex := 234, descriptorIndex := 73, attributes := #[] }, { accessFlags := 25, nameIndex := 235, descriptorIndex := 73, attributes := #[] }, { accessFlags := 2, nameIndex := 72, descriptorIndex := 73, attributes := #[] }, { accessFlags := 2, nameIndex := 76, descriptorIndex := 73, attributes := #[] }, { accessFlags := 2, nameIndex := 79, descriptorIndex := 73, attributes := #[] }, { accessFlags := 2, nameIndex := 85, descriptorIndex := 73, attributes := #[] }, { accessFlags := 2, nameIndex := 91, descriptorIndex := 73, attributes := #[] }, { accessFlags := 2, nameIndex := 82, descriptorIndex := 73, attributes := #[] }, { accessFlags := 2, nameIndex := 142, descriptorIndex := 73, attributes := #[] }, { accessFlags := 2, nameIndex := 11, descriptorIndex := 12, attributes := #[] }, { accessFlags := 2, nameIndex := 15, descriptorIndex := 12, attributes := #[] }, { accessFlags := 2, nameIndex := 18, descriptorIndex := 12, attributes := #[] }, { accessFlags := 2, nameIndex := 21, descriptorIndex := 12, attributes := #[] }, { accessFlags := 2, nameIndex := 24, descriptorIndex := 12, attributes := #[] }, { accessFlags := 2, nameIndex := 27, descriptorIndex := 12, attributes := #[] }, { accessFlags := 2, nameIndex := 30, descriptorIndex := 12, attributes := #[] }, { accessFlags := 2, nameIndex := 33, descriptorIndex := 12, attributes := #[] }, { accessFlags := 2, nameIndex := 36, descriptorIndex := 12, attributes := #[] }, { accessFlags := 2, nameIndex := 39, descriptorIndex := 12, attributes := #[] }, { accessFlags := 2, nameIndex := 94, descriptorIndex := 73, attributes := #[] }, { accessFlags := 2, nameIndex := 42, descriptorIndex := 12, attributes := #[] }, { accessFlags := 2, nameIndex := 45, descriptorIndex := 12, attributes := #[] }, { accessFlags := 2, nameIndex := 104, descriptorIndex := 73, attributes := #[] }, { accessFlags := 2, nameIndex := 48, descriptorIndex := 12, attributes := #[] }, { accessFlags := 2, nameIndex := 51, descriptorIndex := 12, attributes := #[] }, { accessFlags := 2, nameIndex := 54, descriptorIndex := 12, attributes := #[] }, { accessFlags := 2, nameIndex := 107, descriptorIndex := 73, attributes := #[] }, { accessFlags := 2, nameIndex := 57, descriptorIndex := 12, attributes := #[] }, { accessFlags := 2, nameIndex := 60, descriptorIndex := 61, attributes := #[] }, { accessFlags := 2, nameIndex := 64, descriptorIndex := 65, attributes := #[] }])
  fields := #[{ name := "LOW", type := .int, accessFlags := 25, slot := 0, constantValue := 0 }, { name := "LEFT", type := .int, accessFlags := 25, slot := 1, constantValue := 0 }, { name := "RIGHT", type := .int, accessFlags := 25, slot := 2, constantValue := 0 }, { name := "HIGH", type := .int, accessFlags := 25, slot := 3, constantValue := 0 }, { name := "OP_HALT", type := .int, accessFlags := 25, slot := 4, constantValue := 0 }, { name := "OP_CONST", type := .int, accessFlags := 25, slot := 5, constantValue := 0 }, { name := "OP_MOV", type := .int, accessFlags := 25, slot := 6, constantValue := 0 }, { name := "OP_ADD", type := .int, accessFlags := 25, slot := 7, constantValue := 0 }, { name := "OP_SUB", type := .int, accessFlags := 25, slot := 8, constantValue := 0 }, { name := "OP_MUL", type := .int, accessFlags := 25, slot := 9, constantValue := 0 }, { name := "OP_LT", type := .int, accessFlags := 25, slot := 10, constantValue := 0 }, { name := "OP_EQ", type := .int, accessFlags := 25, slot := 11, constantValue := 0 }, { name := "OP_LOAD", type := .int, accessFlags := 25, slot := 12, constantValue := 0 }, { name := "OP_STORE", type := .int, accessFlags := 25, slot := 13, constantValue := 0 }, { name := "OP_JMP", type := .int, accessFlags := 25, slot := 14, constantValue := 0 }, { name := "OP_BR", type := .int, accessFlags := 25, slot := 15, constantValue := 0 }, { name := "OP_OUT", type := .int, accessFlags := 25, slot := 16, constantValue := 0 }, { name := "OP_RAISE", type := .int, accessFlags := 25, slot := 17, constantValue := 0 }, { name := "OP_DECLASS", type := .int, accessFlags := 25, slot := 18, constantValue := 0 }, { name := "NUM_OPS", type := .int, accessFlags := 25, slot := 19, constantValue := 0 }, { name := "LOADING", type := .int, accessFlags := 25, slot := 20, constantValue := 0 }, { name := "RUNNING", type := .int, accessFlags := 25, slot := 21, constantValue := 0 }, { name := "HALTED", type := .int, accessFlags := 25, slot := 22, constantValue := 0 }, { name := "STOPPED", type := .int, accessFlags := 25, slot := 23, constantValue := 0 }, { name := "STOP_NONE", type := .int, accessFlags := 25, slot := 24, constantValue := 0 }, { name := "STOP_NSU", type := .int, accessFlags := 25, slot := 25, constantValue := 0 }, { name := "STOP_LEAK", type := .int, accessFlags := 25, slot := 26, constantValue := 0 }, { name := "STOP_DECLASS", type := .int, accessFlags := 25, slot := 27, constantValue := 0 }, { name := "STOP_DEPTH", type := .int, accessFlags := 25, slot := 28, constantValue := 0 }, { name := "STOP_FULL", type := .int, accessFlags := 25, slot := 29, constantValue := 0 }, { name := "REGS", type := .int, accessFlags := 25, slot := 30, constantValue := 0 }, { name := "MAX_DEPTH", type := .int, accessFlags := 25, slot := 31, constantValue := 0 }, { name := "OUT_CAP", type := .int, accessFlags := 25, slot := 32, constantValue := 0 }, { name := "AUDIT_CAP", type := .int, accessFlags := 25, slot := 33, constantValue := 0 }, { name := "MAX_RUN", type := .int, accessFlags := 25, slot := 34, constantValue := 0 }, { name := "codeCap", type := .int, accessFlags := 2, slot := 0, constantValue := 0 }, { name := "memSize", type := .int, accessFlags := 2, slot := 1, constantValue := 0 }, { name := "status", type := .int, accessFlags := 2, slot := 2, constantValue := 0 }, { name := "n", type := .int, accessFlags := 2, slot := 3, constantValue := 0 }, { name := "pc", type := .int, accessFlags := 2, slot := 4, constantValue := 0 }, { name := "stop", type := .int, accessFlags := 2, slot := 5, constantValue := 0 }, { name := "nextPc", type := .int, accessFlags := 2, slot := 6, constantValue := 0 }, { name := "code", type := (.array .int), accessFlags := 2, slot := 7, constantValue := 0 }, { name := "argA", type := (.array .int), accessFlags := 2, slot := 8, constantValue := 0 }, { name := "argB", type := (.array .int), accessFlags := 2, slot := 9, constantValue := 0 }, { name := "argC", type := (.array .int), accessFlags := 2, slot := 10, constantValue := 0 }, { name := "regVal", type := (.array .int), accessFlags := 2, slot := 11, constantValue := 0 }, { name := "regLab", type := (.array .int), accessFlags := 2, slot := 12, constantValue := 0 }, { name := "memVal", type := (.array .int), accessFlags := 2, slot := 13, constantValue := 0 }, { name := "memLab", type := (.array .int), accessFlags := 2, slot := 14, constantValue := 0 }, { name := "stLab", type := (.array .int), accessFlags := 2, slot := 15, constantValue := 0 }, { name := "stJoin", type := (.array .int), accessFlags := 2, slot := 16, constantValue := 0 }, { name := "sp", type := .int, accessFlags := 2, slot := 17, constantValue := 0 }, { name := "outCh", type := (.array .int), accessFlags := 2, slot := 18, constantValue := 0 }, { name := "outVal", type := (.array .int), accessFlags := 2, slot := 19, constantValue := 0 }, { name := "outN", type := .int, accessFlags := 2, slot := 20, constantValue := 0 }, { name := "audPc", type := (.array .int), accessFlags := 2, slot := 21, constantValue := 0 }, { name := "audSrc", type := (.array .int), accessFlags := 2, slot := 22, constantValue := 0 }, { name := "audLvl", type := (.array .int), accessFlags := 2, slot := 23, constantValue := 0 }, { name := "audN", type := .int, accessFlags := 2, slot := 24, constantValue := 0 }, { name := "joinOf", type := (.array .int), accessFlags := 2, slot := 25, constantValue := 0 }, { name := "reach", type := (.array .boolean), accessFlags := 2, slot := 26, constantValue := 0 }, { name := "pdom", type := (.array .long), accessFlags := 2, slot := 27, constantValue := 0 }]
  methods := #[k2m0, k2m1, k2m2, k2m3, k2m4, k2m5, k2m6, k2m7, k2m8, k2m9, k2m10, k2m11, k2m12, k2m13, k2m14, k2m15, k2m16, k2m17, k2m18, k2m19, k2m20, k2m21, k2m22, k2m23, k2m24, k2m25, k2m26, k2m27, k2m28, k2m29, k2m30, k2m31, k2m32, k2m33, k2m34, k2m35, k2m36, k2m37, k2m38, k2m39, k2m40, k2m41]
  instanceTypes := #[.int, .int, .int, .int, .int, .int, .int, (.array .int), (.array .int), (.array .int), (.array .int), (.array .int), (.array .int), (.array .int), (.array .int), (.array .int), (.array .int), .int, (.array .int), (.array .int), .int, (.array .int), (.array .int), (.array .int), .int, (.array .int), (.array .boolean), (.array .long)]
  staticTypes := #[.int, .int, .int, .int, .int, .int, .int, .int, .int, .int, .int, .int, .int, .int, .int, .int, .int, .int, .int, .int, .int, .int, .int, .int, .int, .int, .int, .int, .int, .int, .int, .int, .int, .int, .int]
  resolved := Array.replicate 261 none
  statics := none }

def pool3 : Array CpInfo := pool [(1, u "java/lang/Cloneable"), (0, .class_ 1), (0, u "java/lang/Object"), (0, .class_ 3)] 3

/-- java/lang/Cloneable -/
def k3 : Class := { plain "java/lang/Cloneable" (some 0) with
  accessFlags := 1537
  interfaces := #[]
  cf := some (fileOf pool3 2 #[] #[] 1537 4 #[] #[])
  fields := #[]
  methods := #[]
  instanceTypes := #[]
  staticTypes := #[]
  resolved := Array.replicate 8 none
  statics := none }

def pool4 : Array CpInfo := pool [(1, u "java/io/Serializable"), (0, .class_ 1), (0, u "java/lang/Object"), (0, .class_ 3)] 3

/-- java/io/Serializable -/
def k4 : Class := { plain "java/io/Serializable" (some 0) with
  accessFlags := 1537
  interfaces := #[]
  cf := some (fileOf pool4 2 #[] #[] 1537 4 #[] #[])
  fields := #[]
  methods := #[]
  instanceTypes := #[]
  staticTypes := #[]
  resolved := Array.replicate 8 none
  statics := none }

/-- the primitive boolean -/
def k5 : Class := { plain "boolean" none with kind := .primitive 'Z', accessFlags := 0x411 }
/-- [Z -/
def k6 : Class := { plain "[Z" (some 0) with kind := .array 5 .boolean, interfaces := #[3, 4], accessFlags := 1041 }

/-- the primitive byte -/
def k7 : Class := { plain "byte" none with kind := .primitive 'B', accessFlags := 0x411 }
/-- [B -/
def k8 : Class := { plain "[B" (some 0) with kind := .array 7 .byte, interfaces := #[3, 4], accessFlags := 1041 }

/-- the primitive int -/
def k9 : Class := { plain "int" none with kind := .primitive 'I', accessFlags := 0x411 }
/-- [I -/
def k10 : Class := { plain "[I" (some 0) with kind := .array 9 .int, interfaces := #[3, 4], accessFlags := 1041 }

/-- the primitive long -/
def k11 : Class := { plain "long" none with kind := .primitive 'J', accessFlags := 0x411 }
/-- [J -/
def k12 : Class := { plain "[J" (some 0) with kind := .array 11 .long, interfaces := #[3, 4], accessFlags := 1041 }

def heap : Heap := #[{ cls := 10, slots := #[.int 0, .int 3], vm := .none }]
def classes : Array Class := #[k0, k1, k2, k3, k4, k5, k6, k7, k8, k9, k10, k11, k12]
def interned : List (Array UInt16 × Addr) := []
def slotsUsed : Nat := 2
def theMethod : MethodId := ⟨1, 1⟩
def args0 : Array Value := #[.ref 0]
def aboutOver (below : List Frame) : State where
  vm := { classes := classes, interned := interned.toArray }
  heap := heap
  slotsUsed := slotsUsed
  threads := #[{ frames := .invoking theMethod args0 :: below }]
def below0 : List Frame := [.native { method := ⟨0, 0⟩, args := #[] }]
def about1 : State := aboutOver below0
def p0 : Program := .bare "" "" ""
def e0 : Env := launch0.env 0 0 0
theorem w_frames : about1.frames = Frame.invoking theMethod args0 :: below0 := rfl
set_option maxRecDepth 65536 in
theorem w_args : argsFit about1.vm theMethod args0 = true := by decide +kernel
set_option maxRecDepth 65536 in
theorem w_heap : heapFits about1 = true := by decide +kernel
set_option maxRecDepth 65536 in
theorem w_runnable : about1.curStatus? = some .runnable := by decide +kernel
set_option maxRecDepth 65536 in
theorem w_alone : about1.alone = true := by decide +kernel
set_option maxRecDepth 65536 in
theorem w_named : about1.methodNamed? x = some theMethod := by decide +kernel
set_option maxRecDepth 65536 in
theorem w_hears : about1.hears theMethod below0 = true := by decide +kernel
set_option maxRecDepth 65536 in
theorem w_ripe : about1.ripe theMethod args0 below0 = true := by decide +kernel
theorem w_running : about1.status = .running := rfl
set_option maxRecDepth 65536 in
theorem w_room : about1.hasRoom e0.platform room_1 = true :=
  launch0.hasRoom_least _ room_1 (by decide +kernel) (by decide +kernel) (by decide +kernel) (by decide +kernel) (by decide +kernel) (by decide +kernel)
theorem allAtoms_all (ts : List Jvm.Cond) (a : Array Jvm.Value) (st : Jvm.State) : (allAtoms ts).before a st = ts.all (fun c => c.before a st) := by
  induction ts with
  | nil => rfl
  | cons c t ih =>
    show (Jvm.Cond.and c (allAtoms t)).before a st = _
    rw [Jvm.Cond.before_and, ih, List.all_cons]
def words1 : List Jvm.Cond := Jvm.Cond.code x code maxLocals ret :: tables_1
/-- a 'code' word, met by the world's own term for the bytes: nothing is compared byte by byte -/
theorem code_word {y : MethodName} {bytes : ByteArray} {mx : Nat} {rt : Option FieldType} {a : Array Value} {s : State} {m : MethodId} {meth : Method} {c : Code} (h1 : s.methodNamed? y = some m) (h2 : s.vm.method? m = some meth) (h3 : meth.code = some c) (h4 : c.code = bytes)
    (h5 : (c.maxLocals == mx && c.exceptionTable.isEmpty && decide (c.maxStack ≤ mostOperands) && decide (meth.sig.returnType = rt) && !meth.locks && decide (parseMethodDescriptor y.desc = some meth.sig)) = true) : (Jvm.Cond.code y bytes mx rt).before a s = true := by
  simp only [Bool.and_eq_true, beq_iff_eq, Bool.not_eq_true', decide_eq_true_eq] at h5
  obtain ⟨⟨⟨⟨⟨g1, g2⟩, g3⟩, g4⟩, g5⟩, g6⟩ := h5
  simp [Cond.before, Cond.holds, Cond.value, h1, h2, h3, h4, g1, g2, g3, g4, g5, g6]
def isCode : Jvm.Cond → Bool
  | .code _ _ _ _ => true
  | _ => false
theorem all_split {L : List Jvm.Cond} {P : Jvm.Cond → Bool} (h1 : L.all (fun c => isCode c || P c) = true) (h2 : ∀ c ∈ L.filter isCode, P c = true) : L.all P = true := by
  refine List.all_eq_true.mpr fun c hc => ?_
  have h := List.all_eq_true.mp h1 c hc
  rcases Bool.eq_false_or_eq_true (isCode c) with hi | hi
  · exact h2 c (List.mem_filter.mpr ⟨hc, hi⟩)
  · simpa [hi] using h
set_option maxRecDepth 65536 in
theorem w_c0 : (Jvm.Cond.code x code maxLocals ret).before args0 about1 = true := code_word (m := ⟨1, 1⟩) (meth := k1m1) (c := k1c1) (by decide +kernel) rfl rfl rfl (by decide +kernel)
set_option maxRecDepth 65536 in
theorem w_c1 : (Jvm.Cond.code ({ cls := "FlowMonitorVM", name := "<init>", desc := "(II)V" } : Jvm.MethodName) prog_1_method_1_code (3 : Nat) (Option.none : Option Jvm.ClassFile.FieldType)).before args0 about1 = true := code_word (m := ⟨2, 0⟩) (meth := k2m0) (c := k2c0) (by decide +kernel) rfl rfl rfl (by decide +kernel)
set_option maxRecDepth 65536 in
theorem w_c2 : (Jvm.Cond.code ({ cls := "java/lang/Object", name := "<init>", desc := "()V" } : Jvm.MethodName) object_method_1_code (1 : Nat) (Option.none : Option Jvm.ClassFile.FieldType)).before args0 about1 = true := code_word (m := ⟨0, 0⟩) (meth := k0m0) (c := k0c0) (by decide +kernel) rfl rfl rfl (by decide +kernel)
set_option maxRecDepth 65536 in
theorem w_c3 : (Jvm.Cond.code ({ cls := "FlowMonitorVM", name := "clamp", desc := "(I)I" } : Jvm.MethodName) prog_1_method_2_code (2 : Nat) (Option.some Jvm.ClassFile.FieldType.int)).before args0 about1 = true := code_word (m := ⟨2, 1⟩) (meth := k2m1) (c := k2c1) (by decide +kernel) rfl rfl rfl (by decide +kernel)
set_option maxRecDepth 65536 in
theorem w_c4 : (Jvm.Cond.code ({ cls := "FlowMonitorVM", name := "status", desc := "()I" } : Jvm.MethodName) prog_1_method_6_code (1 : Nat) (Option.some Jvm.ClassFile.FieldType.int)).before args0 about1 = true := code_word (m := ⟨2, 5⟩) (meth := k2m5) (c := k2c5) (by decide +kernel) rfl rfl rfl (by decide +kernel)
set_option maxRecDepth 65536 in
theorem w_c5 : (Jvm.Cond.code ({ cls := "FlowMonitorVM", name := "addInstr", desc := "(IIII)Z" } : Jvm.MethodName) prog_1_method_3_code (5 : Nat) (Option.some Jvm.ClassFile.FieldType.boolean)).before args0 about1 = true := code_word (m := ⟨2, 2⟩) (meth := k2m2) (c := k2c2) (by decide +kernel) rfl rfl rfl (by decide +kernel)
set_option maxRecDepth 65536 in
theorem w_c6 : (Jvm.Cond.code ({ cls := "FlowMonitorVM", name := "computeJoins", desc := "()V" } : Jvm.MethodName) prog_1_method_22_code (2 : Nat) (Option.none : Option Jvm.ClassFile.FieldType)).before args0 about1 = true := code_word (m := ⟨2, 21⟩) (meth := k2m21) (c := k2c21) (by decide +kernel) rfl rfl rfl (by decide +kernel)
set_option maxRecDepth 65536 in
theorem w_c7 : (Jvm.Cond.code ({ cls := "FlowMonitorVM", name := "computeReach", desc := "()V" } : Jvm.MethodName) prog_1_method_24_code (4 : Nat) (Option.none : Option Jvm.ClassFile.FieldType)).before args0 about1 = true := code_word (m := ⟨2, 23⟩) (meth := k2m23) (c := k2c23) (by decide +kernel) rfl rfl rfl (by decide +kernel)
set_option maxRecDepth 65536 in
theorem w_c8 : (Jvm.Cond.code ({ cls := "FlowMonitorVM", name := "succReaches", desc := "(I)Z" } : Jvm.MethodName) prog_1_method_23_code (4 : Nat) (Option.some Jvm.ClassFile.FieldType.boolean)).before args0 about1 = true := code_word (m := ⟨2, 22⟩) (meth := k2m22) (c := k2c22) (by decide +kernel) rfl rfl rfl (by decide +kernel)
set_option maxRecDepth 65536 in
theorem w_c9 : (Jvm.Cond.code ({ cls := "FlowMonitorVM", name := "succFirst", desc := "(I)I" } : Jvm.MethodName) prog_1_method_20_code (3 : Nat) (Option.some Jvm.ClassFile.FieldType.int)).before args0 about1 = true := code_word (m := ⟨2, 19⟩) (meth := k2m19) (c := k2c19) (by decide +kernel) rfl rfl rfl (by decide +kernel)
set_option maxRecDepth 65536 in
theorem w_c10 : (Jvm.Cond.code ({ cls := "FlowMonitorVM", name := "succSecond", desc := "(I)I" } : Jvm.MethodName) prog_1_method_21_code (2 : Nat) (Option.some Jvm.ClassFile.FieldType.int)).before args0 about1 = true := code_word (m := ⟨2, 20⟩) (meth := k2m20) (c := k2c20) (by decide +kernel) rfl rfl rfl (by decide +kernel)
set_option maxRecDepth 65536 in
theorem w_c11 : (Jvm.Cond.code ({ cls := "FlowMonitorVM", name := "computePdom", desc := "()V" } : Jvm.MethodName) prog_1_method_27_code (8 : Nat) (Option.none : Option Jvm.ClassFile.FieldType)).before args0 about1 = true := code_word (m := ⟨2, 26⟩) (meth := k2m26) (c := k2c26) (by decide +kernel) rfl rfl rfl (by decide +kernel)
set_option maxRecDepth 65536 in
theorem w_c12 : (Jvm.Cond.code ({ cls := "FlowMonitorVM", name := "allMask", desc := "()J" } : Jvm.MethodName) prog_1_method_25_code (1 : Nat) (Option.some Jvm.ClassFile.FieldType.long)).before args0 about1 = true := code_word (m := ⟨2, 24⟩) (meth := k2m24) (c := k2c24) (by decide +kernel) rfl rfl rfl (by decide +kernel)
set_option maxRecDepth 65536 in
theorem w_c13 : (Jvm.Cond.code ({ cls := "FlowMonitorVM", name := "meetSucc", desc := "(I)J" } : Jvm.MethodName) prog_1_method_26_code (6 : Nat) (Option.some Jvm.ClassFile.FieldType.long)).before args0 about1 = true := code_word (m := ⟨2, 25⟩) (meth := k2m25) (c := k2c25) (by decide +kernel) rfl rfl rfl (by decide +kernel)
set_option maxRecDepth 65536 in
theorem w_c14 : (Jvm.Cond.code ({ cls := "FlowMonitorVM", name := "pickJoin", desc := "(I)I" } : Jvm.MethodName) prog_1_method_28_code (5 : Nat) (Option.some Jvm.ClassFile.FieldType.int)).before args0 about1 = true := code_word (m := ⟨2, 27⟩) (meth := k2m27) (c := k2c27) (by decide +kernel) rfl rfl rfl (by decide +kernel)
set_option maxRecDepth 65536 in
theorem w_c15 : (Jvm.Cond.code ({ cls := "FlowMonitorVML6", name := "inv", desc := "(LFlowMonitorVM;IJ)Z" } : Jvm.MethodName) method_3_code (14 : Nat) (Option.some Jvm.ClassFile.FieldType.boolean)).before args0 about1 = true := code_word (m := ⟨1, 2⟩) (meth := k1m2) (c := k1c2) (by decide +kernel) rfl rfl rfl (by decide +kernel)
set_option maxRecDepth 65536 in
theorem w_c16 : (Jvm.Cond.code ({ cls := "FlowMonitorVM", name := "stopKind", desc := "()I" } : Jvm.MethodName) prog_1_method_7_code (1 : Nat) (Option.some Jvm.ClassFile.FieldType.int)).before args0 about1 = true := code_word (m := ⟨2, 6⟩) (meth := k2m6) (c := k2c6) (by decide +kernel) rfl rfl rfl (by decide +kernel)
set_option maxRecDepth 65536 in
theorem w_c17 : (Jvm.Cond.code ({ cls := "FlowMonitorVM", name := "pc", desc := "()I" } : Jvm.MethodName) prog_1_method_8_code (1 : Nat) (Option.some Jvm.ClassFile.FieldType.int)).before args0 about1 = true := code_word (m := ⟨2, 7⟩) (meth := k2m7) (c := k2c7) (by decide +kernel) rfl rfl rfl (by decide +kernel)
set_option maxRecDepth 65536 in
theorem w_c18 : (Jvm.Cond.code ({ cls := "FlowMonitorVM", name := "depth", desc := "()I" } : Jvm.MethodName) prog_1_method_10_code (1 : Nat) (Option.some Jvm.ClassFile.FieldType.int)).before args0 about1 = true := code_word (m := ⟨2, 9⟩) (meth := k2m9) (c := k2c9) (by decide +kernel) rfl rfl rfl (by decide +kernel)
set_option maxRecDepth 65536 in
theorem w_c19 : (Jvm.Cond.code ({ cls := "FlowMonitorVM", name := "pcLabel", desc := "()I" } : Jvm.MethodName) prog_1_method_9_code (1 : Nat) (Option.some Jvm.ClassFile.FieldType.int)).before args0 about1 = true := code_word (m := ⟨2, 8⟩) (meth := k2m8) (c := k2c8) (by decide +kernel) rfl rfl rfl (by decide +kernel)
set_option maxRecDepth 65536 in
theorem w_c20 : (Jvm.Cond.code ({ cls := "FlowMonitorVM", name := "curLabel", desc := "()I" } : Jvm.MethodName) prog_1_method_29_code (1 : Nat) (Option.some Jvm.ClassFile.FieldType.int)).before args0 about1 = true := code_word (m := ⟨2, 28⟩) (meth := k2m28) (c := k2c28) (by decide +kernel) rfl rfl rfl (by decide +kernel)
set_option maxRecDepth 65536 in
theorem w_c21 : (Jvm.Cond.code ({ cls := "FlowMonitorVM", name := "outCount", desc := "()I" } : Jvm.MethodName) prog_1_method_14_code (1 : Nat) (Option.some Jvm.ClassFile.FieldType.int)).before args0 about1 = true := code_word (m := ⟨2, 13⟩) (meth := k2m13) (c := k2c13) (by decide +kernel) rfl rfl rfl (by decide +kernel)
set_option maxRecDepth 65536 in
theorem w_c22 : (Jvm.Cond.code ({ cls := "FlowMonitorVM", name := "auditCount", desc := "()I" } : Jvm.MethodName) prog_1_method_16_code (1 : Nat) (Option.some Jvm.ClassFile.FieldType.int)).before args0 about1 = true := code_word (m := ⟨2, 15⟩) (meth := k2m15) (c := k2c15) (by decide +kernel) rfl rfl rfl (by decide +kernel)
set_option maxRecDepth 65536 in
theorem w_c23 : (Jvm.Cond.code ({ cls := "FlowMonitorVM", name := "join", desc := "(I)I" } : Jvm.MethodName) prog_1_method_18_code (2 : Nat) (Option.some Jvm.ClassFile.FieldType.int)).before args0 about1 = true := code_word (m := ⟨2, 17⟩) (meth := k2m17) (c := k2c17) (by decide +kernel) rfl rfl rfl (by decide +kernel)
set_option maxRecDepth 65536 in
theorem w_c24 : (Jvm.Cond.code ({ cls := "FlowMonitorVM", name := "reg", desc := "(I)I" } : Jvm.MethodName) prog_1_method_11_code (2 : Nat) (Option.some Jvm.ClassFile.FieldType.int)).before args0 about1 = true := code_word (m := ⟨2, 10⟩) (meth := k2m10) (c := k2c10) (by decide +kernel) rfl rfl rfl (by decide +kernel)
set_option maxRecDepth 65536 in
theorem w_c25 : (Jvm.Cond.code ({ cls := "FlowMonitorVM", name := "labelOf", desc := "(II)I" } : Jvm.MethodName) prog_1_method_13_code (3 : Nat) (Option.some Jvm.ClassFile.FieldType.int)).before args0 about1 = true := code_word (m := ⟨2, 12⟩) (meth := k2m12) (c := k2c12) (by decide +kernel) rfl rfl rfl (by decide +kernel)
set_option maxRecDepth 65536 in
theorem w_c26 : (Jvm.Cond.code ({ cls := "FlowMonitorVM", name := "run", desc := "(I)I" } : Jvm.MethodName) prog_1_method_5_code (5 : Nat) (Option.some Jvm.ClassFile.FieldType.int)).before args0 about1 = true := code_word (m := ⟨2, 4⟩) (meth := k2m4) (c := k2c4) (by decide +kernel) rfl rfl rfl (by decide +kernel)
set_option maxRecDepth 65536 in
theorem w_c27 : (Jvm.Cond.code ({ cls := "FlowMonitorVM", name := "step", desc := "()I" } : Jvm.MethodName) prog_1_method_32_code (3 : Nat) (Option.some Jvm.ClassFile.FieldType.int)).before args0 about1 = true := code_word (m := ⟨2, 31⟩) (meth := k2m31) (c := k2c31) (by decide +kernel) rfl rfl rfl (by decide +kernel)
set_option maxRecDepth 65536 in
theorem w_c28 : (Jvm.Cond.code ({ cls := "FlowMonitorVM", name := "execute", desc := "(I)I" } : Jvm.MethodName) prog_1_method_33_code (3 : Nat) (Option.some Jvm.ClassFile.FieldType.int)).before args0 about1 = true := code_word (m := ⟨2, 32⟩) (meth := k2m32) (c := k2c32) (by decide +kernel) rfl rfl rfl (by decide +kernel)
set_option maxRecDepth 65536 in
theorem w_c29 : (Jvm.Cond.code ({ cls := "FlowMonitorVM", name := "execOut", desc := "(I)I" } : Jvm.MethodName) prog_1_method_40_code (5 : Nat) (Option.some Jvm.ClassFile.FieldType.int)).before args0 about1 = true := code_word (m := ⟨2, 39⟩) (meth := k2m39) (c := k2c39) (by decide +kernel) rfl rfl rfl (by decide +kernel)
set_option maxRecDepth 65536 in
theorem w_c30 : (Jvm.Cond.code ({ cls := "FlowMonitorVM", name := "flows", desc := "(II)Z" } : Jvm.MethodName) prog_1_method_30_code (3 : Nat) (Option.some Jvm.ClassFile.FieldType.boolean)).before args0 about1 = true := code_word (m := ⟨2, 29⟩) (meth := k2m29) (c := k2c29) (by decide +kernel) rfl rfl rfl (by decide +kernel)
set_option maxRecDepth 65536 in
theorem w_c31 : (Jvm.Cond.code ({ cls := "FlowMonitorVM", name := "writeReg", desc := "(III)I" } : Jvm.MethodName) prog_1_method_34_code (6 : Nat) (Option.some Jvm.ClassFile.FieldType.int)).before args0 about1 = true := code_word (m := ⟨2, 33⟩) (meth := k2m33) (c := k2c33) (by decide +kernel) rfl rfl rfl (by decide +kernel)
set_option maxRecDepth 65536 in
theorem w_c32 : (Jvm.Cond.code ({ cls := "FlowMonitorVM", name := "execRaise", desc := "(I)I" } : Jvm.MethodName) prog_1_method_41_code (3 : Nat) (Option.some Jvm.ClassFile.FieldType.int)).before args0 about1 = true := code_word (m := ⟨2, 40⟩) (meth := k2m40) (c := k2c40) (by decide +kernel) rfl rfl rfl (by decide +kernel)
set_option maxRecDepth 65536 in
theorem w_c33 : (Jvm.Cond.code ({ cls := "FlowMonitorVM", name := "outEntry", desc := "(II)I" } : Jvm.MethodName) prog_1_method_15_code (3 : Nat) (Option.some Jvm.ClassFile.FieldType.int)).before args0 about1 = true := code_word (m := ⟨2, 14⟩) (meth := k2m14) (c := k2c14) (by decide +kernel) rfl rfl rfl (by decide +kernel)
set_option maxRecDepth 65536 in
theorem w_c34 : (Jvm.Cond.code ({ cls := "FlowMonitorVM", name := "execArith", desc := "(II)I" } : Jvm.MethodName) prog_1_method_36_code (9 : Nat) (Option.some Jvm.ClassFile.FieldType.int)).before args0 about1 = true := code_word (m := ⟨2, 35⟩) (meth := k2m35) (c := k2c35) (by decide +kernel) rfl rfl rfl (by decide +kernel)
set_option maxRecDepth 65536 in
theorem w_c35 : (Jvm.Cond.code ({ cls := "FlowMonitorVM", name := "mem", desc := "(I)I" } : Jvm.MethodName) prog_1_method_12_code (2 : Nat) (Option.some Jvm.ClassFile.FieldType.int)).before args0 about1 = true := code_word (m := ⟨2, 11⟩) (meth := k2m11) (c := k2c11) (by decide +kernel) rfl rfl rfl (by decide +kernel)
set_option maxRecDepth 65536 in
theorem w_c36 : (Jvm.Cond.code ({ cls := "FlowMonitorVM", name := "setMem", desc := "(III)Z" } : Jvm.MethodName) prog_1_method_4_code (4 : Nat) (Option.some Jvm.ClassFile.FieldType.boolean)).before args0 about1 = true := code_word (m := ⟨2, 3⟩) (meth := k2m3) (c := k2c3) (by decide +kernel) rfl rfl rfl (by decide +kernel)
set_option maxRecDepth 65536 in
theorem w_c37 : (Jvm.Cond.code ({ cls := "FlowMonitorVM", name := "target", desc := "(I)I" } : Jvm.MethodName) prog_1_method_19_code (2 : Nat) (Option.some Jvm.ClassFile.FieldType.int)).before args0 about1 = true := code_word (m := ⟨2, 18⟩) (meth := k2m18) (c := k2c18) (by decide +kernel) rfl rfl rfl (by decide +kernel)
set_option maxRecDepth 65536 in
theorem w_c38 : (Jvm.Cond.code ({ cls := "FlowMonitorVM", name := "execBranch", desc := "(I)I" } : Jvm.MethodName) prog_1_method_39_code (5 : Nat) (Option.some Jvm.ClassFile.FieldType.int)).before args0 about1 = true := code_word (m := ⟨2, 38⟩) (meth := k2m38) (c := k2c38) (by decide +kernel) rfl rfl rfl (by decide +kernel)
set_option maxRecDepth 65536 in
theorem w_c39 : (Jvm.Cond.code ({ cls := "FlowMonitorVM", name := "execStore", desc := "(I)I" } : Jvm.MethodName) prog_1_method_38_code (8 : Nat) (Option.some Jvm.ClassFile.FieldType.int)).before args0 about1 = true := code_word (m := ⟨2, 37⟩) (meth := k2m37) (c := k2c37) (by decide +kernel) rfl rfl rfl (by decide +kernel)
set_option maxRecDepth 65536 in
theorem w_c40 : (Jvm.Cond.code ({ cls := "FlowMonitorVM", name := "idx", desc := "(I)I" } : Jvm.MethodName) prog_1_method_31_code (2 : Nat) (Option.some Jvm.ClassFile.FieldType.int)).before args0 about1 = true := code_word (m := ⟨2, 30⟩) (meth := k2m30) (c := k2c30) (by decide +kernel) rfl rfl rfl (by decide +kernel)
set_option maxRecDepth 65536 in
theorem w_c41 : (Jvm.Cond.code ({ cls := "FlowMonitorVM", name := "execMov", desc := "(I)I" } : Jvm.MethodName) prog_1_method_35_code (5 : Nat) (Option.some Jvm.ClassFile.FieldType.int)).before args0 about1 = true := code_word (m := ⟨2, 34⟩) (meth := k2m34) (c := k2c34) (by decide +kernel) rfl rfl rfl (by decide +kernel)
set_option maxRecDepth 65536 in
theorem w_c42 : (Jvm.Cond.code ({ cls := "FlowMonitorVM", name := "execLoad", desc := "(I)I" } : Jvm.MethodName) prog_1_method_37_code (6 : Nat) (Option.some Jvm.ClassFile.FieldType.int)).before args0 about1 = true := code_word (m := ⟨2, 36⟩) (meth := k2m36) (c := k2c36) (by decide +kernel) rfl rfl rfl (by decide +kernel)
set_option maxRecDepth 65536 in
theorem w_c43 : (Jvm.Cond.code ({ cls := "FlowMonitorVM", name := "execDeclass", desc := "(I)I" } : Jvm.MethodName) prog_1_method_42_code (6 : Nat) (Option.some Jvm.ClassFile.FieldType.int)).before args0 about1 = true := code_word (m := ⟨2, 41⟩) (meth := k2m41) (c := k2c41) (by decide +kernel) rfl rfl rfl (by decide +kernel)
set_option maxRecDepth 65536 in
theorem w_c44 : (Jvm.Cond.code ({ cls := "FlowMonitorVM", name := "auditEntry", desc := "(II)I" } : Jvm.MethodName) prog_1_method_17_code (3 : Nat) (Option.some Jvm.ClassFile.FieldType.int)).before args0 about1 = true := code_word (m := ⟨2, 16⟩) (meth := k2m16) (c := k2c16) (by decide +kernel) rfl rfl rfl (by decide +kernel)
def codes1 : List Jvm.Cond := [Jvm.Cond.code x code maxLocals ret, Jvm.Cond.code ({ cls := "FlowMonitorVM", name := "<init>", desc := "(II)V" } : Jvm.MethodName) prog_1_method_1_code (3 : Nat) (Option.none : Option Jvm.ClassFile.FieldType), Jvm.Cond.code ({ cls := "java/lang/Object", name := "<init>", desc := "()V" } : Jvm.MethodName) object_method_1_code (1 : Nat) (Option.none : Option Jvm.ClassFile.FieldType), Jvm.Cond.code ({ cls := "FlowMonitorVM", name := "clamp", desc := "(I)I" } : Jvm.MethodName) prog_1_method_2_code (2 : Nat) (Option.some Jvm.ClassFile.FieldType.int), Jvm.Cond.code ({ cls := "FlowMonitorVM", name := "status", desc := "()I" } : Jvm.MethodName) prog_1_method_6_code (1 : Nat) (Option.some Jvm.ClassFile.FieldType.int), Jvm.Cond.code ({ cls := "FlowMonitorVM", name := "addInstr", desc := "(IIII)Z" } : Jvm.MethodName) prog_1_method_3_code (5 : Nat) (Option.some Jvm.ClassFile.FieldType.boolean), Jvm.Cond.code ({ cls := "FlowMonitorVM", name := "computeJoins", desc := "()V" } : Jvm.MethodName) prog_1_method_22_code (2 : Nat) (Option.none : Option Jvm.ClassFile.FieldType), Jvm.Cond.code ({ cls := "FlowMonitorVM", name := "computeReach", desc := "()V" } : Jvm.MethodName) prog_1_method_24_code (4 : Nat) (Option.none : Option Jvm.ClassFile.FieldType), Jvm.Cond.code ({ cls := "FlowMonitorVM", name := "succReaches", desc := "(I)Z" } : Jvm.MethodName) prog_1_method_23_code (4 : Nat) (Option.some Jvm.ClassFile.FieldType.boolean), Jvm.Cond.code ({ cls := "FlowMonitorVM", name := "succFirst", desc := "(I)I" } : Jvm.MethodName) prog_1_method_20_code (3 : Nat) (Option.some Jvm.ClassFile.FieldType.int), Jvm.Cond.code ({ cls := "FlowMonitorVM", name := "succSecond", desc := "(I)I" } : Jvm.MethodName) prog_1_method_21_code (2 : Nat) (Option.some Jvm.ClassFile.FieldType.int), Jvm.Cond.code ({ cls := "FlowMonitorVM", name := "computePdom", desc := "()V" } : Jvm.MethodName) prog_1_method_27_code (8 : Nat) (Option.none : Option Jvm.ClassFile.FieldType), Jvm.Cond.code ({ cls := "FlowMonitorVM", name := "allMask", desc := "()J" } : Jvm.MethodName) prog_1_method_25_code (1 : Nat) (Option.some Jvm.ClassFile.FieldType.long), Jvm.Cond.code ({ cls := "FlowMonitorVM", name := "meetSucc", desc := "(I)J" } : Jvm.MethodName) prog_1_method_26_code (6 : Nat) (Option.some Jvm.ClassFile.FieldType.long), Jvm.Cond.code ({ cls := "FlowMonitorVM", name := "pickJoin", desc := "(I)I" } : Jvm.MethodName) prog_1_method_28_code (5 : Nat) (Option.some Jvm.ClassFile.FieldType.int), Jvm.Cond.code ({ cls := "FlowMonitorVML6", name := "inv", desc := "(LFlowMonitorVM;IJ)Z" } : Jvm.MethodName) method_3_code (14 : Nat) (Option.some Jvm.ClassFile.FieldType.boolean), Jvm.Cond.code ({ cls := "FlowMonitorVM", name := "stopKind", desc := "()I" } : Jvm.MethodName) prog_1_method_7_code (1 : Nat) (Option.some Jvm.ClassFile.FieldType.int), Jvm.Cond.code ({ cls := "FlowMonitorVM", name := "pc", desc := "()I" } : Jvm.MethodName) prog_1_method_8_code (1 : Nat) (Option.some Jvm.ClassFile.FieldType.int), Jvm.Cond.code ({ cls := "FlowMonitorVM", name := "depth", desc := "()I" } : Jvm.MethodName) prog_1_method_10_code (1 : Nat) (Option.some Jvm.ClassFile.FieldType.int), Jvm.Cond.code ({ cls := "FlowMonitorVM", name := "pcLabel", desc := "()I" } : Jvm.MethodName) prog_1_method_9_code (1 : Nat) (Option.some Jvm.ClassFile.FieldType.int), Jvm.Cond.code ({ cls := "FlowMonitorVM", name := "curLabel", desc := "()I" } : Jvm.MethodName) prog_1_method_29_code (1 : Nat) (Option.some Jvm.ClassFile.FieldType.int), Jvm.Cond.code ({ cls := "FlowMonitorVM", name := "outCount", desc := "()I" } : Jvm.MethodName) prog_1_method_14_code (1 : Nat) (Option.some Jvm.ClassFile.FieldType.int), Jvm.Cond.code ({ cls := "FlowMonitorVM", name := "auditCount", desc := "()I" } : Jvm.MethodName) prog_1_method_16_code (1 : Nat) (Option.some Jvm.ClassFile.FieldType.int), Jvm.Cond.code ({ cls := "FlowMonitorVM", name := "join", desc := "(I)I" } : Jvm.MethodName) prog_1_method_18_code (2 : Nat) (Option.some Jvm.ClassFile.FieldType.int), Jvm.Cond.code ({ cls := "FlowMonitorVM", name := "reg", desc := "(I)I" } : Jvm.MethodName) prog_1_method_11_code (2 : Nat) (Option.some Jvm.ClassFile.FieldType.int), Jvm.Cond.code ({ cls := "FlowMonitorVM", name := "labelOf", desc := "(II)I" } : Jvm.MethodName) prog_1_method_13_code (3 : Nat) (Option.some Jvm.ClassFile.FieldType.int), Jvm.Cond.code ({ cls := "FlowMonitorVM", name := "run", desc := "(I)I" } : Jvm.MethodName) prog_1_method_5_code (5 : Nat) (Option.some Jvm.ClassFile.FieldType.int), Jvm.Cond.code ({ cls := "FlowMonitorVM", name := "step", desc := "()I" } : Jvm.MethodName) prog_1_method_32_code (3 : Nat) (Option.some Jvm.ClassFile.FieldType.int), Jvm.Cond.code ({ cls := "FlowMonitorVM", name := "execute", desc := "(I)I" } : Jvm.MethodName) prog_1_method_33_code (3 : Nat) (Option.some Jvm.ClassFile.FieldType.int), Jvm.Cond.code ({ cls := "FlowMonitorVM", name := "execOut", desc := "(I)I" } : Jvm.MethodName) prog_1_method_40_code (5 : Nat) (Option.some Jvm.ClassFile.FieldType.int), Jvm.Cond.code ({ cls := "FlowMonitorVM", name := "flows", desc := "(II)Z" } : Jvm.MethodName) prog_1_method_30_code (3 : Nat) (Option.some Jvm.ClassFile.FieldType.boolean), Jvm.Cond.code ({ cls := "FlowMonitorVM", name := "writeReg", desc := "(III)I" } : Jvm.MethodName) prog_1_method_34_code (6 : Nat) (Option.some Jvm.ClassFile.FieldType.int), Jvm.Cond.code ({ cls := "FlowMonitorVM", name := "execRaise", desc := "(I)I" } : Jvm.MethodName) prog_1_method_41_code (3 : Nat) (Option.some Jvm.ClassFile.FieldType.int), Jvm.Cond.code ({ cls := "FlowMonitorVM", name := "outEntry", desc := "(II)I" } : Jvm.MethodName) prog_1_method_15_code (3 : Nat) (Option.some Jvm.ClassFile.FieldType.int), Jvm.Cond.code ({ cls := "FlowMonitorVM", name := "execArith", desc := "(II)I" } : Jvm.MethodName) prog_1_method_36_code (9 : Nat) (Option.some Jvm.ClassFile.FieldType.int), Jvm.Cond.code ({ cls := "FlowMonitorVM", name := "mem", desc := "(I)I" } : Jvm.MethodName) prog_1_method_12_code (2 : Nat) (Option.some Jvm.ClassFile.FieldType.int), Jvm.Cond.code ({ cls := "FlowMonitorVM", name := "setMem", desc := "(III)Z" } : Jvm.MethodName) prog_1_method_4_code (4 : Nat) (Option.some Jvm.ClassFile.FieldType.boolean), Jvm.Cond.code ({ cls := "FlowMonitorVM", name := "target", desc := "(I)I" } : Jvm.MethodName) prog_1_method_19_code (2 : Nat) (Option.some Jvm.ClassFile.FieldType.int), Jvm.Cond.code ({ cls := "FlowMonitorVM", name := "execBranch", desc := "(I)I" } : Jvm.MethodName) prog_1_method_39_code (5 : Nat) (Option.some Jvm.ClassFile.FieldType.int), Jvm.Cond.code ({ cls := "FlowMonitorVM", name := "execStore", desc := "(I)I" } : Jvm.MethodName) prog_1_method_38_code (8 : Nat) (Option.some Jvm.ClassFile.FieldType.int), Jvm.Cond.code ({ cls := "FlowMonitorVM", name := "idx", desc := "(I)I" } : Jvm.MethodName) prog_1_method_31_code (2 : Nat) (Option.some Jvm.ClassFile.FieldType.int), Jvm.Cond.code ({ cls := "FlowMonitorVM", name := "execMov", desc := "(I)I" } : Jvm.MethodName) prog_1_method_35_code (5 : Nat) (Option.some Jvm.ClassFile.FieldType.int), Jvm.Cond.code ({ cls := "FlowMonitorVM", name := "execLoad", desc := "(I)I" } : Jvm.MethodName) prog_1_method_37_code (6 : Nat) (Option.some Jvm.ClassFile.FieldType.int), Jvm.Cond.code ({ cls := "FlowMonitorVM", name := "execDeclass", desc := "(I)I" } : Jvm.MethodName) prog_1_method_42_code (6 : Nat) (Option.some Jvm.ClassFile.FieldType.int), Jvm.Cond.code ({ cls := "FlowMonitorVM", name := "auditEntry", desc := "(II)I" } : Jvm.MethodName) prog_1_method_17_code (3 : Nat) (Option.some Jvm.ClassFile.FieldType.int)]
set_option maxRecDepth 65536 in
theorem codes_eq : words1.filter isCode = codes1 := rfl
theorem w_codes : ∀ c ∈ words1.filter isCode, c.before args0 about1 = true := by
  rw [codes_eq]
  intro c hc
  simp only [codes1, List.mem_cons, List.not_mem_nil, or_false] at hc
  rcases hc with rfl | rfl | rfl | rfl | rfl | rfl | rfl | rfl | rfl | rfl | rfl | rfl | rfl | rfl | rfl | rfl | rfl | rfl | rfl | rfl | rfl | rfl | rfl | rfl | rfl | rfl | rfl | rfl | rfl | rfl | rfl | rfl | rfl | rfl | rfl | rfl | rfl | rfl | rfl | rfl | rfl | rfl | rfl | rfl | rfl
  · exact w_c0
  · exact w_c1
  · exact w_c2
  · exact w_c3
  · exact w_c4
  · exact w_c5
  · exact w_c6
  · exact w_c7
  · exact w_c8
  · exact w_c9
  · exact w_c10
  · exact w_c11
  · exact w_c12
  · exact w_c13
  · exact w_c14
  · exact w_c15
  · exact w_c16
  · exact w_c17
  · exact w_c18
  · exact w_c19
  · exact w_c20
  · exact w_c21
  · exact w_c22
  · exact w_c23
  · exact w_c24
  · exact w_c25
  · exact w_c26
  · exact w_c27
  · exact w_c28
  · exact w_c29
  · exact w_c30
  · exact w_c31
  · exact w_c32
  · exact w_c33
  · exact w_c34
  · exact w_c35
  · exact w_c36
  · exact w_c37
  · exact w_c38
  · exact w_c39
  · exact w_c40
  · exact w_c41
  · exact w_c42
  · exact w_c43
  · exact w_c44
set_option maxRecDepth 65536 in
theorem w_t1 : (words1.take 24).all (fun c => isCode c || c.before args0 about1) = true := by decide +kernel
set_option maxRecDepth 65536 in
theorem w_t2 : ((words1.drop 24).take 24).all (fun c => isCode c || c.before args0 about1) = true := by decide +kernel
set_option maxRecDepth 65536 in
theorem w_t3 : (((words1.drop 24).drop 24).take 24).all (fun c => isCode c || c.before args0 about1) = true := by decide +kernel
set_option maxRecDepth 65536 in
theorem w_t4 : ((((words1.drop 24).drop 24).drop 24).take 24).all (fun c => isCode c || c.before args0 about1) = true := by decide +kernel
set_option maxRecDepth 65536 in
theorem w_t5 : (((((words1.drop 24).drop 24).drop 24).drop 24).take 24).all (fun c => isCode c || c.before args0 about1) = true := by decide +kernel
set_option maxRecDepth 65536 in
theorem w_t6 : ((((((words1.drop 24).drop 24).drop 24).drop 24).drop 24).take 24).all (fun c => isCode c || c.before args0 about1) = true := by decide +kernel
set_option maxRecDepth 65536 in
theorem w_t7 : (((((((words1.drop 24).drop 24).drop 24).drop 24).drop 24).drop 24).take 24).all (fun c => isCode c || c.before args0 about1) = true := by decide +kernel
set_option maxRecDepth 65536 in
theorem w_t8 : ((((((((words1.drop 24).drop 24).drop 24).drop 24).drop 24).drop 24).drop 24).take 24).all (fun c => isCode c || c.before args0 about1) = true := by decide +kernel
set_option maxRecDepth 65536 in
theorem w_t9 : (((((((((words1.drop 24).drop 24).drop 24).drop 24).drop 24).drop 24).drop 24).drop 24).take 24).all (fun c => isCode c || c.before args0 about1) = true := by decide +kernel
set_option maxRecDepth 65536 in
theorem w_t10 : ((((((((((words1.drop 24).drop 24).drop 24).drop 24).drop 24).drop 24).drop 24).drop 24).drop 24).take 24).all (fun c => isCode c || c.before args0 about1) = true := by decide +kernel
set_option maxRecDepth 65536 in
theorem w_t11 : ((((((((((words1.drop 24).drop 24).drop 24).drop 24).drop 24).drop 24).drop 24).drop 24).drop 24).drop 24).all (fun c => isCode c || c.before args0 about1) = true := by decide +kernel
theorem w_tables : (allAtoms (Jvm.Cond.code x code maxLocals ret :: tables_1)).before args0 about1 = true := by
  rw [allAtoms_all]
  show words1.all (fun c => c.before args0 about1) = true
  refine all_split ?_ w_codes
  rw [← List.take_append_drop 24 words1, List.all_append, w_t1, ← List.take_append_drop 24 (words1.drop 24), List.all_append, w_t2, ← List.take_append_drop 24 ((words1.drop 24).drop 24), List.all_append, w_t3, ← List.take_append_drop 24 (((words1.drop 24).drop 24).drop 24), List.all_append, w_t4, ← List.take_append_drop 24 ((((words1.drop 24).drop 24).drop 24).drop 24), List.all_append, w_t5, ← List.take_append_drop 24 (((((words1.drop 24).drop 24).drop 24).drop 24).drop 24), List.all_append, w_t6, ← List.take_append_drop 24 ((((((words1.drop 24).drop 24).drop 24).drop 24).drop 24).drop 24), List.all_append, w_t7, ← List.take_append_drop 24 (((((((words1.drop 24).drop 24).drop 24).drop 24).drop 24).drop 24).drop 24), List.all_append, w_t8, ← List.take_append_drop 24 ((((((((words1.drop 24).drop 24).drop 24).drop 24).drop 24).drop 24).drop 24).drop 24), List.all_append, w_t9, ← List.take_append_drop 24 (((((((((words1.drop 24).drop 24).drop 24).drop 24).drop 24).drop 24).drop 24).drop 24).drop 24), List.all_append, w_t10, w_t11]
  rfl
set_option maxRecDepth 65536 in
theorem w_rest : rest_1_c.before args0 about1 = true := by decide +kernel
set_option maxRecDepth 65536 in
theorem w_case : (Jvm.Cond.and given_1 narrow_1).before args0 about1 = true := by decide +kernel
theorem w_applies : (headSpec (Jvm.Cond.code x code maxLocals ret :: tables_1) room_1).applies x e0.platform about1 = true :=
  (Spec.applies_iff w_frames).mpr ⟨w_running, w_runnable, w_alone, w_named, w_hears, w_ripe, w_room, w_tables⟩
theorem atStart : AtStart classFile x code maxLocals ret World_1 tables_1 room_1 Calls_1 rest_1 Pre_1 launch0 p0 e0 about1 theMethod args0 below0 :=
  ⟨lists_1, trivial, launch0.admits_env _ _ _, launch0.least_env, fairChoices_fair.cas, fairChoices_fair.clock, w_frames, w_args, w_heap, w_applies, trivial, w_rest, w_case⟩
end start1
theorem witness_1 : WitnessClaimed_1 := ⟨start1.p0, start1.e0, start1.about1, start1.theMethod, start1.args0, start1.below0, start1.atStart⟩
end Jvm.Pilot.@@N@@
