import JvmDerived
import JvmDerived.Pilot.@@N@@Statement
import JvmDerived.Pilot.@@N@@Code
set_option linter.unusedVariables false
set_option linter.unusedSimpArgs false
@@BLOCK:NumsL.lean.txt@@
@@BLOCK:Masks.lean.txt@@
namespace Jvm.OwnMini
open Jvm Jvm.ClassFile Sem Op Lib Jvm.Free Jvm.Stand Jvm.LawKit Jvm.RoadKit
/-! A small machine over plain integers. A value: an int, a long or a reference (a cell's number). -/
abbrev OV := Sum Int (Sum Int Nat)
abbrev vi (z : Int) : OV := .inl z
abbrev vl (z : Int) : OV := .inr (.inl z)
abbrev vr (k : Nat) : OV := .inr (.inr k)
/-- an object's memory: cell (0: its scalar fields; j: its j-th array), index -/
abbrev OMem := Nat → Int → Int
abbrev OLs := List (Option OV)
def w32 (z : Int) : Int := (z + 2147483648) % 4294967296 - 2147483648
def w64 (z : Int) : Int := (z + 9223372036854775808) % 18446744073709551616 - 9223372036854775808
def and32 (a b : Int) : Int := (Int32.ofInt a &&& Int32.ofInt b).toInt
def or32 (a b : Int) : Int := (Int32.ofInt a ||| Int32.ofInt b).toInt
def xor32 (a b : Int) : Int := (Int32.ofInt a ^^^ Int32.ofInt b).toInt
def shl32 (a b : Int) : Int := (Int32.ofInt a <<< (Int32.ofInt b &&& 31)).toInt
def shr32 (a b : Int) : Int := (Int32.ofInt a >>> (Int32.ofInt b &&& 31)).toInt
def ushr32 (a b : Int) : Int := (XT.ushr (Int32.ofInt a) (Int32.ofInt b)).toInt
def and64 (a b : Int) : Int := (Int64.ofInt a &&& Int64.ofInt b).toInt
def or64 (a b : Int) : Int := (Int64.ofInt a ||| Int64.ofInt b).toInt
def xor64 (a b : Int) : Int := (Int64.ofInt a ^^^ Int64.ofInt b).toInt
def shl64 (a b : Int) : Int := (Int64.ofInt a <<< ((Int32.ofInt b).toInt64 &&& 63)).toInt
def shr64 (a b : Int) : Int := (Int64.ofInt a >>> ((Int32.ofInt b).toInt64 &&& 63)).toInt
def ushr64 (a b : Int) : Int := (XT.ushrL (Int64.ofInt a) (Int32.ofInt b)).toInt
def div32 (a b : Int) : Int := w32 (Int.tdiv a b)
def rem32 (a b : Int) : Int := Int.tmod a b
def div64 (a b : Int) : Int := w64 (Int.tdiv a b)
def rem64 (a b : Int) : Int := Int.tmod a b
def b8 (a : Int) : Int := (a + 128) % 256 - 128
def lcm (a b : Int) : Int := if b < a then 1 else if a = b then 0 else -1
def sto (m : OMem) (k : Nat) (i z : Int) : OMem := fun k' i' => if k' = k ∧ i' = i then z else m k' i'
def lget : OLs → Nat → Option OV
  | [], _ => none
  | x :: _, 0 => x
  | _ :: xs, n + 1 => lget xs n
def lput : OLs → Nat → Option OV → OLs
  | [], _, _ => []
  | _ :: xs, 0, v => v :: xs
  | x :: xs, n + 1, v => x :: lput xs n v
def killPrev (L : OLs) : Nat → OLs
  | 0 => L
  | j + 1 => match lget L j with
    | some (.inr (.inl _)) => lput L j none
    | _ => L
def lst1 (L : OLs) (k : Nat) (v : OV) : OLs := lput (killPrev L k) k (some v)
def lst2 (L : OLs) (k : Nat) (v : OV) : OLs := lput (lput (killPrev L k) k (some v)) (k + 1) none
def mask : Option (List Bool) → OLs → OLs
  | some (true :: bs), x :: xs => x :: mask (some bs) xs
  | some (false :: bs), _ :: xs => none :: mask (some bs) xs
  | _, xs => xs
section Pop
variable {β : Type}
def pi1 (S : List OV) (f : Int → List OV → Option β) : Option β := match S with | .inl a :: S' => f a S' | _ => none
def pi2 (S : List OV) (f : Int → Int → List OV → Option β) : Option β := match S with | .inl b :: .inl a :: S' => f a b S' | _ => none
def pl1 (S : List OV) (f : Int → List OV → Option β) : Option β := match S with | .inr (.inl a) :: S' => f a S' | _ => none
def pl2 (S : List OV) (f : Int → Int → List OV → Option β) : Option β := match S with | .inr (.inl b) :: .inr (.inl a) :: S' => f a b S' | _ => none
def pli (S : List OV) (f : Int → Int → List OV → Option β) : Option β := match S with | .inl b :: .inr (.inl a) :: S' => f a b S' | _ => none
def pr1 (S : List OV) (f : Nat → List OV → Option β) : Option β := match S with | .inr (.inr a) :: S' => f a S' | _ => none
def gi (L : OLs) (k : Nat) (f : Int → Option β) : Option β := match lget L k with | some (.inl a) => f a | _ => none
def gl (L : OLs) (k : Nat) (f : Int → Option β) : Option β := match lget L k with | some (.inr (.inl a)) => f a | _ => none
def gr (L : OLs) (k : Nat) (f : Nat → Option β) : Option β := match lget L k with | some (.inr (.inr a)) => f a | _ => none
def inL (L : OLs) (k : Nat) (x : Option β) : Option β := if k < L.length then x else none
def br (c : ClassFile.Cond) (a b : Int) (x y : Option β) : Option β := match c with
  | .eq => if a = b then x else y
  | .ne => if a = b then y else x
  | .lt => if a < b then x else y
  | .ge => if a < b then y else x
  | .gt => if b < a then x else y
  | .le => if b < a then y else x
def tsw (a : Int) : Int → List Int → (Int → Option β) → Option β → Option β
  | _, [], _, d => d
  | lo, o :: os, f, d => if a = lo then f o else tsw a (lo + 1) os f d
end Pop
def tgt (pc : Nat) (o : Int) : Nat := ((pc : Int) + o).toNat
def mcat : OV → Nat
  | .inr (.inl _) => 2
  | _ => 1
/-- the steps that touch no heap -/
def pstep {β : Type} (cst : Nat → Option OV) (i : Instr) (pc len : Nat) (L : OLs) (S : List OV) (k : Nat → OLs → List OV → Option β) : Option β :=
  match i with
  | .iconst z => k (pc + len) L (vi z :: S)
  | .bipush z => k (pc + len) L (vi z :: S)
  | .sipush z => k (pc + len) L (vi z :: S)
  | .lconst z => k (pc + len) L (vl (Int.ofNat z.val) :: S)
  | .ldc x => match cst x with | some (.inl z) => k (pc + len) L (vi z :: S) | _ => none
  | .ldc_w x => match cst x with | some (.inl z) => k (pc + len) L (vi z :: S) | _ => none
  | .ldc2_w x => match cst x with | some (.inr (.inl z)) => k (pc + len) L (vl z :: S) | _ => none
  | .iload x => gi L x fun z => k (pc + len) L (vi z :: S)
  | .iload_n x => gi L x.val fun z => k (pc + len) L (vi z :: S)
  | .lload x => gl L x fun z => k (pc + len) L (vl z :: S)
  | .lload_n x => gl L x.val fun z => k (pc + len) L (vl z :: S)
  | .aload x => gr L x fun z => k (pc + len) L (vr z :: S)
  | .aload_n x => gr L x.val fun z => k (pc + len) L (vr z :: S)
  | .istore x => pi1 S fun z S => inL L x (k (pc + len) (lst1 L x (vi z)) S)
  | .istore_n x => pi1 S fun z S => inL L x.val (k (pc + len) (lst1 L x.val (vi z)) S)
  | .lstore x => pl1 S fun z S => inL L (x + 1) (k (pc + len) (lst2 L x (vl z)) S)
  | .lstore_n x => pl1 S fun z S => inL L (x.val + 1) (k (pc + len) (lst2 L x.val (vl z)) S)
  | .astore x => pr1 S fun z S => inL L x (k (pc + len) (lst1 L x (vr z)) S)
  | .astore_n x => pr1 S fun z S => inL L x.val (k (pc + len) (lst1 L x.val (vr z)) S)
  | .iinc x c => gi L x fun z => inL L x (k (pc + len) (lst1 L x (vi (w32 (z + c)))) S)
  | .iadd => pi2 S fun a b S => k (pc + len) L (vi (w32 (a + b)) :: S)
  | .isub => pi2 S fun a b S => k (pc + len) L (vi (w32 (a - b)) :: S)
  | .imul => pi2 S fun a b S => k (pc + len) L (vi (w32 (a * b)) :: S)
  | .idiv => pi2 S fun a b S => if b = 0 then none else k (pc + len) L (vi (div32 a b) :: S)
  | .irem => pi2 S fun a b S => if b = 0 then none else k (pc + len) L (vi (rem32 a b) :: S)
  | .ineg => pi1 S fun a S => k (pc + len) L (vi (w32 (-a)) :: S)
  | .iand => pi2 S fun a b S => k (pc + len) L (vi (and32 a b) :: S)
  | .ior => pi2 S fun a b S => k (pc + len) L (vi (or32 a b) :: S)
  | .ixor => pi2 S fun a b S => k (pc + len) L (vi (xor32 a b) :: S)
  | .ishl => pi2 S fun a b S => k (pc + len) L (vi (shl32 a b) :: S)
  | .ishr => pi2 S fun a b S => k (pc + len) L (vi (shr32 a b) :: S)
  | .iushr => pi2 S fun a b S => k (pc + len) L (vi (ushr32 a b) :: S)
  | .ladd => pl2 S fun a b S => k (pc + len) L (vl (w64 (a + b)) :: S)
  | .lsub => pl2 S fun a b S => k (pc + len) L (vl (w64 (a - b)) :: S)
  | .lmul => pl2 S fun a b S => k (pc + len) L (vl (w64 (a * b)) :: S)
  | .ldiv => pl2 S fun a b S => if b = 0 then none else k (pc + len) L (vl (div64 a b) :: S)
  | .lrem => pl2 S fun a b S => if b = 0 then none else k (pc + len) L (vl (rem64 a b) :: S)
  | .lneg => pl1 S fun a S => k (pc + len) L (vl (w64 (-a)) :: S)
  | .land => pl2 S fun a b S => k (pc + len) L (vl (and64 a b) :: S)
  | .lor => pl2 S fun a b S => k (pc + len) L (vl (or64 a b) :: S)
  | .lxor => pl2 S fun a b S => k (pc + len) L (vl (xor64 a b) :: S)
  | .lshl => pli S fun a b S => k (pc + len) L (vl (shl64 a b) :: S)
  | .lshr => pli S fun a b S => k (pc + len) L (vl (shr64 a b) :: S)
  | .lushr => pli S fun a b S => k (pc + len) L (vl (ushr64 a b) :: S)
  | .lcmp => pl2 S fun a b S => k (pc + len) L (vi (lcm a b) :: S)
  | .i2l => pi1 S fun a S => k (pc + len) L (vl a :: S)
  | .l2i => pl1 S fun a S => k (pc + len) L (vi (w32 a) :: S)
  | .i2b => pi1 S fun a S => k (pc + len) L (vi (b8 a) :: S)
  | .goto o => k (tgt pc o) L S
  | .if_icmp c o => pi2 S fun a b S => br c a b (k (tgt pc o) L S) (k (pc + len) L S)
  | .ifCond c o => pi1 S fun a S => br c a 0 (k (tgt pc o) L S) (k (pc + len) L S)
  | .tableswitch d lo _ os => pi1 S fun a S => tsw a lo os.toList (fun o => k (tgt pc o) L S) (k (tgt pc d) L S)
  | .dup => match S with
    | .inr (.inl _) :: _ => none
    | v :: S' => k (pc + len) L (v :: v :: S')
    | _ => none
  | .dup2 => match S with
    | .inr (.inl z) :: S' => k (pc + len) L (vl z :: vl z :: S')
    | _ :: .inr (.inl _) :: _ => none
    | u :: v :: S' => k (pc + len) L (u :: v :: u :: v :: S')
    | _ => none
  | .pop => match S with
    | .inr (.inl _) :: _ => none
    | _ :: S' => k (pc + len) L S'
    | _ => none
  | _ => none
def ilen : Instr → Nat
  | .bipush _ | .iload _ | .lload _ | .aload _ | .istore _ | .lstore _ | .astore _ | .ldc _ | .newarray _ => 2
  | .sipush _ | .iinc _ _ | .goto _ | .if_icmp _ _ | .ifCond _ _ | .ldc_w _ | .ldc2_w _ | .getfield _ | .putfield _ | .invokevirtual _ | .invokespecial _ | .invokestatic _ | .new _ => 3
  | _ => 1
/-- what of an instruction's figures the laws ask -/
def chk (pc : Nat) (i : Instr) (len : Nat) : Bool :=
  match i with
  | .iconst z => len == 1 && decide (-32768 ≤ z) && decide (z ≤ 32767)
  | .bipush z => len == 2 && decide (-128 ≤ z) && decide (z ≤ 127)
  | .sipush z => len == 3 && decide (-32768 ≤ z) && decide (z ≤ 32767)
  | .iinc _ z => len == 3 && decide (-32768 ≤ z) && decide (z ≤ 32767)
  | .goto o => len == 3 && decide (0 ≤ (pc : Int) + o)
  | .if_icmp _ o => len == 3 && decide (0 ≤ (pc : Int) + o)
  | .ifCond _ o => len == 3 && decide (0 ≤ (pc : Int) + o)
  | .tableswitch d lo hi os => decide (0 ≤ (pc : Int) + d) && os.toList.all (fun o => decide (0 ≤ (pc : Int) + o)) && decide (hi = lo + os.toList.length - 1) && decide (-2147483648 ≤ lo) && decide (hi ≤ 2147483647)
  | i => len == ilen i
end Jvm.OwnMini
namespace Jvm.OwnMini
open Jvm Jvm.ClassFile Sem Op Lib Jvm.Free Jvm.Stand Jvm.LawKit Jvm.RoadKit
/-! The project's own methods: one object, its scalar fields (cell 0) and its arrays (cells 1, 2, ..). t: how far its maker has come (2 j: the first j arrays are made and laid). -/
abbrev CodeT := Nat → Nat → Option (Instr × Nat)
/-- by the pool's index: the field's number, its kind (0: array, 1 int, 2 boolean, 3 byte, 4 long), its cell, is it final -/
abbrev FldT := Nat → Option (Int × Nat × Nat × Bool)
/-- by the cell: kind, length -/
abbrev LayT := Nat → Option (Nat × Int)
/-- by the method: its parameters from the last to the first (is it a long), locals, kind of the result (0 none, 1 int, 2 boolean, 4 long), frames and words that it asks -/
abbrev InfT := Nat → Option (List Bool × Nat × Nat × Nat × Nat)
abbrev LivT := Nat → Nat → Option (List Bool)
abbrev PT := CodeT × FldT × LayT × (Nat → Option OV) × (Nat → Option Nat) × InfT × (Nat → Bool) × LivT
abbrev pcode (P : PT) : CodeT := P.1
abbrev pfld (P : PT) : FldT := P.2.1
abbrev play (P : PT) : LayT := P.2.2.1
abbrev pcst (P : PT) : Nat → Option OV := P.2.2.2.1
abbrev pmth (P : PT) : Nat → Option Nat := P.2.2.2.2.1
abbrev pinf (P : PT) : InfT := P.2.2.2.2.2.1
abbrev pobi (P : PT) : Nat → Bool := P.2.2.2.2.2.2.1
abbrev pliv (P : PT) : LivT := P.2.2.2.2.2.2.2
abbrev RT := Option (Option OV × Nat × OMem)
def akind : ArrayType → Nat
  | .int => 1
  | .boolean => 2
  | .byte => 3
  | .long => 4
  | _ => 0
def popA : List Bool → List OV → List OV → Option (List OV × List OV)
  | [], S, acc => some (acc, S)
  | false :: ts, .inl z :: S, acc => popA ts S (vi z :: acc)
  | true :: ts, .inr (.inl z) :: S, acc => popA ts S (vl z :: acc)
  | _, _, _ => none
def laid : List OV → OLs
  | [] => []
  | .inr (.inl z) :: as => some (vl z) :: none :: laid as
  | .inl z :: as => some (vi z) :: laid as
  | .inr (.inr z) :: as => some (vr z) :: laid as
def initL (as : List OV) (n : Nat) : OLs := laid as ++ List.replicate (n - (laid as).length) none
def cats : List OV → Nat
  | [] => 0
  | v :: S => mcat v + cats S
def pushR : Option OV → List OV → List OV
  | none, S => S
  | some v, S => v :: S
def ald (P : PT) (kd : Nat → Bool) (S : List OV) (t : Nat) (f : Nat → Int → List OV → RT) : RT :=
  match S with
  | .inl i :: .inr (.inr j) :: S' =>
    match play P j with
    | some (k, n) => cond (kd k && Nat.ble j (t / 2)) (if 0 ≤ i ∧ i < n then f j i S' else none) none
    | none => none
  | _ => none
def asi (P : PT) (kd : Nat → Bool) (S : List OV) (t : Nat) (f : Nat → Nat → Int → Int → List OV → RT) : RT :=
  match S with
  | .inl z :: .inl i :: .inr (.inr j) :: S' =>
    match play P j with
    | some (k, n) => cond (kd k && Nat.ble j (t / 2)) (if 0 ≤ i ∧ i < n then f k j i z S' else none) none
    | none => none
  | _ => none
def asl (P : PT) (kd : Nat → Bool) (S : List OV) (t : Nat) (f : Nat → Int → Int → List OV → RT) : RT :=
  match S with
  | .inr (.inl z) :: .inl i :: .inr (.inr j) :: S' =>
    match play P j with
    | some (k, n) => cond (kd k && Nat.ble j (t / 2)) (if 0 ≤ i ∧ i < n then f j i z S' else none) none
    | none => none
  | _ => none
/-- the instructions that touch the object, call or return -/
def isSpec : Instr → Bool
  | .getfield _ | .putfield _ | .iaload | .baload | .laload | .iastore | .bastore | .lastore | .arraylength | .newarray _ | .invokespecial _ | .invokevirtual _ | .ireturn | .lreturn | .return_ => true
  | _ => false
def stepS (P : PT) (k : Nat → Nat → OLs → List OV → Nat → OMem → RT) (q pc : Nat) (L : OLs) (S : List OV) (t : Nat) (m : OMem) (i : Instr) (len : Nat) : RT :=
  match i with
  | .getfield x =>
    match S with
    | .inr (.inr 0) :: S' =>
      match pfld P x with
      | some (_, 0, j, _) => cond (Nat.ble j (t / 2)) (k q (pc + len) L (vr j :: S') t m) none
      | some (f, 1, _, _) => k q (pc + len) L (vi (m 0 f) :: S') t m
      | some (f, 2, _, _) => k q (pc + len) L (vi (m 0 f) :: S') t m
      | some (f, 4, _, _) => k q (pc + len) L (vl (m 0 f) :: S') t m
      | _ => none
    | _ => none
  | .putfield x =>
    match pfld P x with
    | some (_, 0, j, fin) =>
      match S with
      | .inr (.inr j') :: .inr (.inr 0) :: S' => cond (Nat.beq j' j && Nat.beq (t + 1) (2 * j) && Nat.beq q 0) (k q (pc + len) L S' (t + 1) m) none
      | _ => none
    | some (f, 1, _, fin) =>
      match S with
      | .inl z :: .inr (.inr 0) :: S' => cond (!fin || Nat.beq q 0) (k q (pc + len) L S' t (sto m 0 f z)) none
      | _ => none
    | some (f, 2, _, fin) =>
      match S with
      | .inl z :: .inr (.inr 0) :: S' => cond (!fin || Nat.beq q 0) (k q (pc + len) L S' t (sto m 0 f (z % 2))) none
      | _ => none
    | some (f, 4, _, fin) =>
      match S with
      | .inr (.inl z) :: .inr (.inr 0) :: S' => cond (!fin || Nat.beq q 0) (k q (pc + len) L S' t (sto m 0 f z)) none
      | _ => none
    | _ => none
  | .iaload => ald P (fun kd => Nat.beq kd 1) S t fun j i S' => k q (pc + len) L (vi (m j i) :: S') t m
  | .baload => ald P (fun kd => Nat.beq kd 2 || Nat.beq kd 3) S t fun j i S' => k q (pc + len) L (vi (m j i) :: S') t m
  | .laload => ald P (fun kd => Nat.beq kd 4) S t fun j i S' => k q (pc + len) L (vl (m j i) :: S') t m
  | .iastore => asi P (fun kd => Nat.beq kd 1) S t fun _ j i z S' => k q (pc + len) L S' t (sto m j i z)
  | .bastore => asi P (fun kd => Nat.beq kd 2 || Nat.beq kd 3) S t fun kd j i z S' => k q (pc + len) L S' t (sto m j i (cond (Nat.beq kd 2) (z % 2) (b8 z)))
  | .lastore => asl P (fun kd => Nat.beq kd 4) S t fun j i z S' => k q (pc + len) L S' t (sto m j i z)
  | .arraylength =>
    match S with
    | .inr (.inr j) :: S' =>
      match play P j with
      | some (_, n) => cond (Nat.ble j (t / 2)) (k q (pc + len) L (vi n :: S') t m) none
      | none => none
    | _ => none
  | .newarray a =>
    match S with
    | .inl z :: S' =>
      match play P (t / 2 + 1) with
      | some (kd, n) => cond (Nat.beq (t % 2) 0 && Nat.beq kd (akind a) && Nat.beq q 0) (if z = n then k q (pc + len) L (vr (t / 2 + 1) :: S') (t + 1) m else none) none
      | none => none
    | _ => none
  | .invokespecial x =>
    match S with
    | .inr (.inr 0) :: S' =>
      match pinf P q with
      | some (_, _, _, fr, lc) => cond (pobi P x && Nat.ble 1 fr && Nat.ble (cats S' + 12) lc) (k q (pc + len) L S' t m) none
      | none => none
    | _ => none
  | .invokevirtual x =>
    match pmth P x with
    | some q' =>
      match pinf P q', pinf P q with
      | some (ps, ml, _, fr', lc'), some (_, _, _, fr, lc) =>
        match popA ps S [] with
        | some (as, .inr (.inr 0) :: S') =>
          cond (Nat.ble (fr' + 1) fr && Nat.ble (cats S' + (ml + 11) + lc') lc && !(Nat.beq q' 0) && Nat.ble (initL (vr 0 :: as) ml).length ml)
            ((k q' 0 (initL (vr 0 :: as) ml) [] t m).bind fun y => k q (pc + len) L (pushR y.1 S') y.2.1 y.2.2) none
        | _ => none
      | _, _ => none
    | none => none
  | .ireturn =>
    match S with
    | .inl z :: _ =>
      match pinf P q with
      | some (_, _, 1, _) => some (some (vi z), t, m)
      | some (_, _, 2, _) => some (some (vi (z % 2)), t, m)
      | _ => none
    | _ => none
  | .lreturn =>
    match S with
    | .inr (.inl z) :: _ =>
      match pinf P q with
      | some (_, _, 4, _) => some (some (vl z), t, m)
      | _ => none
    | _ => none
  | .return_ =>
    match S with
    | [] =>
      match pinf P q with
      | some (_, _, 0, _) => some (none, t, m)
      | _ => none
    | _ => none
  | _ => none
def stepI (P : PT) (k : Nat → Nat → OLs → List OV → Nat → OMem → RT) (q pc : Nat) (L : OLs) (S : List OV) (t : Nat) (m : OMem) (i : Instr) (len : Nat) : RT :=
  cond (isSpec i) (stepS P k q pc L S t m i len) (pstep (pcst P) i pc len L S fun pc' L' S' => k q pc' L' S' t m)
def stepP (P : PT) (k : Nat → Nat → OLs → List OV → Nat → OMem → RT) (q pc : Nat) (L : OLs) (S : List OV) (t : Nat) (m : OMem) : RT :=
  match pcode P q pc with
  | some (i, len) => stepI P k q pc (mask (pliv P q pc) L) S t m i len
  | none => none
def runP (P : PT) : Nat → Nat → Nat → OLs → List OV → Nat → OMem → RT
  | 0 => fun _ _ _ _ _ _ => none
  | n + 1 => stepP P (runP P n)
end Jvm.OwnMini
namespace Jvm.OwnMini
/-- a local variable, written short -/
abbrev qi (z : Int) : Option OV := some (vi z)
abbrev qj (z : Int) : Option OV := some (vl z)
abbrev qr (k : Nat) : Option OV := some (vr k)
abbrev qn : Option OV := none
end Jvm.OwnMini
namespace Jvm.OwnMini
open Jvm Jvm.ClassFile Sem Op Lib Jvm.Free Jvm.Stand Jvm.LawKit Jvm.RoadKit
/-! How the small machine's values stand for the JVM's. -/
def VR (A : Nat → Addr) (b : Nat) : OV → Value → Prop
  | .inl z, v => ∃ x : Int32, v = .int x ∧ x.toInt = z
  | .inr (.inl z), v => ∃ x : Int64, v = .long x ∧ x.toInt = z
  | .inr (.inr k), v => k ≤ b ∧ v = .ref (A k)
def SR (A : Nat → Addr) (b : Nat) : List OV → List Value → Prop
  | [], [] => True
  | v :: S, x :: X => VR A b v x ∧ SR A b S X
  | _, _ => False
/-- the local variables are well laid: behind a long (or double) its second half, and nowhere else -/
def WF (l : Array Slot) : Prop := (∀ k, l[k]? = some .second → ∃ j v, k = j + 1 ∧ l[j]? = some (.val v) ∧ v.category = 2) ∧ (∀ k v, l[k]? = some (.val v) → v.category = 2 → l[k + 1]? = some .second)
def LR (A : Nat → Addr) (b : Nat) (L : OLs) (Ls : Array Slot) : Prop := L.length = Ls.size ∧ (∀ k v, lget L k = some v → ∃ x, Ls[k]? = some (.val x) ∧ VR A b v x) ∧ WF Ls
section Rel
variable {A A' : Nat → Addr} {b b' : Nat}
theorem VR.mono {v : OV} {x : Value} (h : VR A b v x) (hA : ∀ j, j ≤ b → A' j = A j) (hb : b ≤ b') : VR A' b' v x := by
  rcases v with z | z | k
  · exact h
  · exact h
  · obtain ⟨h1, h2⟩ := h
    exact ⟨Nat.le_trans h1 hb, by rw [h2, hA k h1]⟩
theorem SR.mono (hA : ∀ j, j ≤ b → A' j = A j) (hb : b ≤ b') : ∀ {S : List OV} {X : List Value}, SR A b S X → SR A' b' S X
  | [], [], _ => trivial
  | _ :: _, _ :: _, ⟨h1, h2⟩ => ⟨h1.mono hA hb, SR.mono hA hb h2⟩
theorem LR.mono {L : OLs} {Ls : Array Slot} (h : LR A b L Ls) (hA : ∀ j, j ≤ b → A' j = A j) (hb : b ≤ b') : LR A' b' L Ls :=
  ⟨h.1, fun k v hk => by obtain ⟨x, h1, h2⟩ := h.2.1 k v hk; exact ⟨x, h1, h2.mono hA hb⟩, h.2.2⟩
theorem VR.cat {v : OV} {x : Value} (h : VR A b v x) (hv : mcat v = 1) : x.category = 1 := by
  rcases v with z | z | k
  · obtain ⟨y, rfl, -⟩ := h; rfl
  · cases hv
  · obtain ⟨-, rfl⟩ := h; rfl
theorem VR.cats {v : OV} {x : Value} (h : VR A b v x) : x.category = mcat v := by
  rcases v with z | z | k
  · obtain ⟨y, rfl, -⟩ := h; rfl
  · obtain ⟨y, rfl, -⟩ := h; rfl
  · obtain ⟨-, rfl⟩ := h; rfl
theorem SR.catsum : ∀ {S : List OV} {X : List Value}, SR A b S X → (X.map fun v => v.category).sum = cats S
  | [], [], _ => rfl
  | v :: S, x :: X, ⟨h1, h2⟩ => by
    show ((x.category :: X.map fun v => v.category)).sum = mcat v + cats S
    rw [List.sum_cons, h1.cats, SR.catsum h2]
theorem SR.i1 {z : Int} {S : List OV} {X : List Value} (h : SR A b (.inl z :: S) X) : ∃ y X', X = .int y :: X' ∧ y.toInt = z ∧ SR A b S X' := by
  cases X with
  | nil => exact h.elim
  | cons x X' => obtain ⟨⟨y, rfl, e⟩, h2⟩ := h; exact ⟨y, X', rfl, e, h2⟩
theorem SR.l1 {z : Int} {S : List OV} {X : List Value} (h : SR A b (.inr (.inl z) :: S) X) : ∃ y X', X = .long y :: X' ∧ y.toInt = z ∧ SR A b S X' := by
  cases X with
  | nil => exact h.elim
  | cons x X' => obtain ⟨⟨y, rfl, e⟩, h2⟩ := h; exact ⟨y, X', rfl, e, h2⟩
theorem SR.r1 {k : Nat} {S : List OV} {X : List Value} (h : SR A b (.inr (.inr k) :: S) X) : k ≤ b ∧ ∃ X', X = .ref (A k) :: X' ∧ SR A b S X' := by
  cases X with
  | nil => exact h.elim
  | cons x X' => obtain ⟨⟨hb, rfl⟩, h2⟩ := h; exact ⟨hb, X', rfl, h2⟩
theorem SR.i2 {z w : Int} {S : List OV} {X : List Value} (h : SR A b (.inl w :: .inl z :: S) X) : ∃ y x X', X = .int y :: .int x :: X' ∧ y.toInt = w ∧ x.toInt = z ∧ SR A b S X' := by
  obtain ⟨y, X', rfl, e, h⟩ := SR.i1 h
  obtain ⟨x, X', rfl, e', h⟩ := SR.i1 h
  exact ⟨y, x, X', rfl, e, e', h⟩
theorem SR.l2 {z w : Int} {S : List OV} {X : List Value} (h : SR A b (.inr (.inl w) :: .inr (.inl z) :: S) X) : ∃ y x X', X = .long y :: .long x :: X' ∧ y.toInt = w ∧ x.toInt = z ∧ SR A b S X' := by
  obtain ⟨y, X', rfl, e, h⟩ := SR.l1 h
  obtain ⟨x, X', rfl, e', h⟩ := SR.l1 h
  exact ⟨y, x, X', rfl, e, e', h⟩
theorem SR.li {z w : Int} {S : List OV} {X : List Value} (h : SR A b (.inl w :: .inr (.inl z) :: S) X) : ∃ y x X', X = .int y :: .long x :: X' ∧ y.toInt = w ∧ x.toInt = z ∧ SR A b S X' := by
  obtain ⟨y, X', rfl, e, h⟩ := SR.i1 h
  obtain ⟨x, X', rfl, e', h⟩ := SR.l1 h
  exact ⟨y, x, X', rfl, e, e', h⟩
theorem SR.ci {z : Int} {y : Int32} {S : List OV} {X : List Value} (hy : y.toInt = z) (h : SR A b S X) : SR A b (vi z :: S) (.int y :: X) := ⟨⟨y, rfl, hy⟩, h⟩
theorem SR.cj {z : Int} {y : Int64} {S : List OV} {X : List Value} (hy : y.toInt = z) (h : SR A b S X) : SR A b (vl z :: S) (.long y :: X) := ⟨⟨y, rfl, hy⟩, h⟩
theorem SR.cr {k : Nat} {S : List OV} {X : List Value} (hb : k ≤ b) (h : SR A b S X) : SR A b (vr k :: S) (.ref (A k) :: X) := ⟨⟨hb, rfl⟩, h⟩
theorem SR.cv {v : OV} {x : Value} {S : List OV} {X : List Value} (h1 : VR A b v x) (h : SR A b S X) : SR A b (v :: S) (x :: X) := ⟨h1, h⟩
end Rel
section Pops
variable {β : Type} {S : List OV} {L : OLs} {b : β}
theorem pi1_some {f : Int → List OV → Option β} (h : pi1 S f = some b) : ∃ a S', S = .inl a :: S' ∧ f a S' = some b := by
  match S, h with
  | .inl a :: S', h => exact ⟨a, S', rfl, h⟩
theorem pl1_some {f : Int → List OV → Option β} (h : pl1 S f = some b) : ∃ a S', S = .inr (.inl a) :: S' ∧ f a S' = some b := by
  match S, h with
  | .inr (.inl a) :: S', h => exact ⟨a, S', rfl, h⟩
theorem pr1_some {f : Nat → List OV → Option β} (h : pr1 S f = some b) : ∃ a S', S = .inr (.inr a) :: S' ∧ f a S' = some b := by
  match S, h with
  | .inr (.inr a) :: S', h => exact ⟨a, S', rfl, h⟩
theorem pi2_some {f : Int → Int → List OV → Option β} (h : pi2 S f = some b) : ∃ x y S', S = .inl y :: .inl x :: S' ∧ f x y S' = some b := by
  match S, h with
  | .inl y :: .inl x :: S', h => exact ⟨x, y, S', rfl, h⟩
theorem pl2_some {f : Int → Int → List OV → Option β} (h : pl2 S f = some b) : ∃ x y S', S = .inr (.inl y) :: .inr (.inl x) :: S' ∧ f x y S' = some b := by
  match S, h with
  | .inr (.inl y) :: .inr (.inl x) :: S', h => exact ⟨x, y, S', rfl, h⟩
theorem pli_some {f : Int → Int → List OV → Option β} (h : pli S f = some b) : ∃ x y S', S = .inl y :: .inr (.inl x) :: S' ∧ f x y S' = some b := by
  match S, h with
  | .inl y :: .inr (.inl x) :: S', h => exact ⟨x, y, S', rfl, h⟩
theorem gi_some {k : Nat} {f : Int → Option β} (h : gi L k f = some b) : ∃ z, lget L k = some (.inl z) ∧ f z = some b := by
  unfold gi at h
  split at h
  · exact ⟨_, by assumption, h⟩
  · cases h
theorem gl_some {k : Nat} {f : Int → Option β} (h : gl L k f = some b) : ∃ z, lget L k = some (.inr (.inl z)) ∧ f z = some b := by
  unfold gl at h
  split at h
  · exact ⟨_, by assumption, h⟩
  · cases h
theorem gr_some {k : Nat} {f : Nat → Option β} (h : gr L k f = some b) : ∃ z, lget L k = some (.inr (.inr z)) ∧ f z = some b := by
  unfold gr at h
  split at h
  · exact ⟨_, by assumption, h⟩
  · cases h
theorem inL_some {k : Nat} {x : Option β} (h : inL L k x = some b) : k < L.length ∧ x = some b := by
  unfold inL at h
  split at h
  · exact ⟨by assumption, h⟩
  · cases h
def brP (c : ClassFile.Cond) (x y : Int) : Prop := match c with
  | .eq => x = y
  | .ne => ¬ x = y
  | .lt => x < y
  | .ge => ¬ x < y
  | .gt => y < x
  | .le => ¬ y < x
theorem br_some {c : ClassFile.Cond} {x y : Int} {u v : Option β} (h : br c x y u v = some b) : (brP c x y ∧ u = some b) ∨ (¬ brP c x y ∧ v = some b) := by
  cases c <;> simp only [br] at h <;> split at h <;> rename_i q <;> simp only [brP] <;> first | exact Or.inl ⟨q, h⟩ | exact Or.inr ⟨q, h⟩ | exact Or.inr ⟨fun r => r q, h⟩
theorem icmp_holds {c : ClassFile.Cond} {x y : Int32} (h : brP c x.toInt y.toInt) : if_icmp.holds c x y = true := by
  cases c <;> simp only [brP] at h
  · exact (teq (Int32.toInt_inj.mp h)).1
  · exact (feq (fun q => h (by rw [q]))).2
  · exact (tlt (Int32.lt_iff_toInt_lt.mpr h)).1
  · exact (flt (fun q => h (Int32.lt_iff_toInt_lt.mp q))).2.1
  · exact (tlt (Int32.lt_iff_toInt_lt.mpr h)).2.2.1
  · exact (flt (fun q => h (Int32.lt_iff_toInt_lt.mp q))).2.2.2
theorem icmp_fails {c : ClassFile.Cond} {x y : Int32} (h : ¬ brP c x.toInt y.toInt) : if_icmp.holds c x y = false := by
  cases c <;> simp only [brP] at h
  · exact (feq (fun q => h (by rw [q]))).1
  · exact (teq (Int32.toInt_inj.mp (Classical.not_not.mp h))).2
  · exact (flt (fun q => h (Int32.lt_iff_toInt_lt.mp q))).1
  · exact (tlt (Int32.lt_iff_toInt_lt.mpr (Classical.not_not.mp h))).2.1
  · exact (flt (fun q => h (Int32.lt_iff_toInt_lt.mp q))).2.2.1
  · exact (tlt (Int32.lt_iff_toInt_lt.mpr (Classical.not_not.mp h))).2.2.2
theorem tsw_some (a : Int) : ∀ (lo : Int) (os : List Int) {f : Int → Option β} {d : Option β}, tsw a lo os f d = some b → (∃ o n, a = lo + (n : Nat) ∧ os[n]? = some o ∧ f o = some b) ∨ ((a < lo ∨ lo + os.length - 1 < a) ∧ d = some b)
  | lo, [], f, d, h => by
    refine Or.inr ⟨?_, h⟩
    simp only [List.length_nil]; omega
  | lo, o :: os, f, d, h => by
    unfold tsw at h
    split at h
    · rename_i q
      exact Or.inl ⟨o, 0, by simpa using q, rfl, h⟩
    · rename_i q
      rcases tsw_some a (lo + 1) os h with ⟨o', n, h1, h2, h3⟩ | ⟨h1, h2⟩
      · exact Or.inl ⟨o', n + 1, by rw [h1]; simp only [Int.natCast_add]; omega, by simpa using h2, h3⟩
      · refine Or.inr ⟨?_, h2⟩
        simp only [List.length_cons]; omega
theorem dup_some {cst : Nat → Option OV} {pc len : Nat} {k : Nat → OLs → List OV → Option β} (h : pstep cst .dup pc len L S k = some b) : ∃ v S', S = v :: S' ∧ mcat v = 1 ∧ k (pc + len) L (v :: v :: S') = some b := by
  match S, h with
  | .inl z :: S', h => exact ⟨_, S', rfl, rfl, h⟩
  | .inr (.inr z) :: S', h => exact ⟨_, S', rfl, rfl, h⟩
theorem pop_some {cst : Nat → Option OV} {pc len : Nat} {k : Nat → OLs → List OV → Option β} (h : pstep cst .pop pc len L S k = some b) : ∃ v S', S = v :: S' ∧ mcat v = 1 ∧ k (pc + len) L S' = some b := by
  match S, h with
  | .inl z :: S', h => exact ⟨_, S', rfl, rfl, h⟩
  | .inr (.inr z) :: S', h => exact ⟨_, S', rfl, rfl, h⟩
theorem dup2_some {cst : Nat → Option OV} {pc len : Nat} {k : Nat → OLs → List OV → Option β} (h : pstep cst .dup2 pc len L S k = some b) : (∃ z S', S = .inr (.inl z) :: S' ∧ k (pc + len) L (vl z :: vl z :: S') = some b) ∨ ∃ u v S', S = u :: v :: S' ∧ mcat u = 1 ∧ mcat v = 1 ∧ k (pc + len) L (u :: v :: u :: v :: S') = some b := by
  match S, h with
  | .inr (.inl z) :: S', h => exact Or.inl ⟨z, S', rfl, h⟩
  | .inl y :: .inl z :: S', h => exact Or.inr ⟨_, _, S', rfl, rfl, rfl, h⟩
  | .inl y :: .inr (.inr z) :: S', h => exact Or.inr ⟨_, _, S', rfl, rfl, rfl, h⟩
  | .inr (.inr y) :: .inl z :: S', h => exact Or.inr ⟨_, _, S', rfl, rfl, rfl, h⟩
  | .inr (.inr y) :: .inr (.inr z) :: S', h => exact Or.inr ⟨_, _, S', rfl, rfl, rfl, h⟩
end Pops
/-! numbers -/
theorem w32_eq (z : Int) : w32 z = z.bmod (2 ^ 32) := by
  unfold w32
  rw [Int.bmod_def]
  split <;> omega
theorem w64_eq (z : Int) : w64 z = z.bmod (2 ^ 64) := by
  unfold w64
  rw [Int.bmod_def]
  split <;> omega
theorem b8_eq (x : Int32) : (x.toInt8.toInt32).toInt = b8 x.toInt := by
  obtain ⟨h1, h2, h3⟩ := c_i2b x
  unfold b8
  omega
theorem cmpL_toInt (x y : Int64) : (XT.cmpL x y).toInt = lcm x.toInt y.toInt := by
  unfold XT.cmpL lcm
  by_cases h : y < x
  · rw [if_pos h, if_pos (Int64.lt_iff_toInt_lt.mp h)]; rfl
  · rw [if_neg h, if_neg (fun q => h (Int64.lt_iff_toInt_lt.mpr q))]
    by_cases h2 : x = y
    · rw [if_pos h2, if_pos (by rw [h2])]; rfl
    · rw [if_neg h2, if_neg (fun q => h2 (Int64.toInt_inj.mp q))]; rfl
theorem and1_eq (x : Int32) : (x &&& 1).toInt = x.toInt % 2 := c_mask x 1 1 (by decide) (by decide)
/-! the local variables -/
theorem lget_lput : ∀ (L : OLs) (k j : Nat) (v : Option OV), lget (lput L k v) j = if j = k ∧ k < L.length then v else lget L j
  | [], k, j, v => by simp [lput, lget]
  | x :: xs, 0, 0, v => by simp [lput, lget]
  | x :: xs, 0, j + 1, v => by simp [lput, lget]
  | x :: xs, k + 1, 0, v => by simp [lput, lget]
  | x :: xs, k + 1, j + 1, v => by
    have := lget_lput xs k j v
    simp only [lput, lget, this, List.length_cons]
    by_cases h : j = k ∧ k < xs.length
    · rw [if_pos h, if_pos (by omega)]
    · rw [if_neg h, if_neg (by omega)]
theorem length_lput : ∀ (L : OLs) (k : Nat) (v : Option OV), (lput L k v).length = L.length
  | [], _, _ => rfl
  | _ :: _, 0, _ => rfl
  | x :: xs, k + 1, v => by simp [lput, length_lput xs k v]
theorem length_killPrev (L : OLs) (k : Nat) : (killPrev L k).length = L.length := by
  cases k with
  | zero => rfl
  | succ j =>
    simp only [killPrev]
    split
    · exact length_lput _ _ _
    · rfl
theorem lget_killPrev {L : OLs} {k j : Nat} {v : OV} (h : lget (killPrev L k) j = some v) : lget L j = some v ∧ (j + 1 = k → mcat v = 1) := by
  cases k with
  | zero => exact ⟨h, fun q => by omega⟩
  | succ i =>
    simp only [killPrev] at h
    split at h
    · rename_i z hz
      rw [lget_lput] at h
      split at h
      · cases h
      · rename_i hn
        refine ⟨h, fun q => ?_⟩
        have e : j = i := by omega
        subst e
        rw [hz] at h
        by_cases hl : j < L.length
        · exact absurd ⟨rfl, hl⟩ hn
        · exfalso
          have : lget L j = none := by
            clear h hz hn
            induction L generalizing j with
            | nil => rfl
            | cons x xs ih =>
              cases j with
              | zero => simp at hl
              | succ j => exact ih (by omega) (by simpa using hl)
          rw [this] at hz; cases hz
    · rename_i hn
      refine ⟨h, fun q => ?_⟩
      have e : j = i := by omega
      subst e
      rcases v with z | z | z
      · rfl
      · exact absurd h (hn z)
      · rfl
theorem lget_mask : ∀ (bs : Option (List Bool)) (L : OLs) (k : Nat) {v : OV}, lget (mask bs L) k = some v → lget L k = some v
  | none, L, k, v, h => by simpa [mask] using h
  | some [], L, k, v, h => by simpa [mask] using h
  | some (true :: bs), [], k, v, h => by simpa [mask] using h
  | some (false :: bs), [], k, v, h => by simpa [mask] using h
  | some (true :: bs), x :: xs, 0, v, h => h
  | some (true :: bs), x :: xs, k + 1, v, h => lget_mask (some bs) xs k h
  | some (false :: bs), x :: xs, 0, v, h => by cases h
  | some (false :: bs), x :: xs, k + 1, v, h => lget_mask (some bs) xs k h
theorem length_mask : ∀ (bs : Option (List Bool)) (L : OLs), (mask bs L).length = L.length
  | none, L => by simp [mask]
  | some [], L => by simp [mask]
  | some (true :: bs), [] => by simp [mask]
  | some (false :: bs), [] => by simp [mask]
  | some (true :: bs), x :: xs => by simp [mask, length_mask (some bs) xs]
  | some (false :: bs), x :: xs => by simp [mask, length_mask (some bs) xs]
theorem LR.mask {A : Nat → Addr} {b : Nat} {L : OLs} {Ls : Array Slot} (h : LR A b L Ls) (bs : Option (List Bool)) : LR A b (mask bs L) Ls :=
  ⟨by rw [length_mask]; exact h.1, fun k v hk => h.2.1 k v (lget_mask bs L k hk), h.2.2⟩
/-- what a store of one word makes of the slots, slot by slot -/
theorem store1_at {l : Array Slot} (hw : WF l) {k : Nat} (hk : k < l.size) {x : Value} (hc : x.category = 1) :
    ∃ l', storeLocals l k x = some l' ∧ l'.size = l.size ∧ l'[k]? = some (.val x) ∧
      (∀ j, j ≠ k → l'[j]? = l[j]? ∨ (l'[j]? = some .unset ∧ ((j + 1 = k ∧ l[k]? = some .second) ∨ (j = k + 1 ∧ l[j]? = some .second ∧ ∃ v, l[k]? = some (.val v) ∧ v.category = 2)))) ∧
      (l[k]? = some .second → ∀ j, j + 1 = k → l'[j]? = some .unset) ∧ (∀ v, l[k]? = some (.val v) → v.category = 2 → l'[k + 1]? = some .unset) := by
  have hx : l[k]? = some l[k] := Array.getElem?_eq_getElem hk
  have hc2 : ¬ x.category = 2 := by omega
  cases ho : l[k] with
  | unset =>
    rw [ho] at hx
    refine ⟨l.setIfInBounds k (.val x), by simp [storeLocals, storeSelf, setAt, ho, hk, hc2], by simp, by simp [hk], fun j hj => Or.inl (Array.getElem?_setIfInBounds_ne (Ne.symm hj)), (fun q => by rw [hx] at q; cases q), (fun v q => by rw [hx] at q; cases q)⟩
  | second =>
    rw [ho] at hx
    obtain ⟨j, v, rfl, hj, -⟩ := hw.1 k hx
    have hj' : j < l.size := by omega
    refine ⟨(l.setIfInBounds j .unset).setIfInBounds (j + 1) (.val x), by simp [storeLocals, storeSelf, setAt, ho, hk, hj', hc2], by simp, by simp [hk], fun i hi => ?_, fun _ i hi => ?_, (fun v q => by rw [hx] at q; cases q)⟩
    · rw [Array.getElem?_setIfInBounds_ne (Ne.symm hi)]
      by_cases e : i = j
      · subst e
        exact Or.inr ⟨by simp [hj'], Or.inl ⟨rfl, hx⟩⟩
      · exact Or.inl (Array.getElem?_setIfInBounds_ne (Ne.symm e))
    · have e : i = j := by omega
      subst e
      rw [Array.getElem?_setIfInBounds_ne (by omega)]
      simp [hj']
  | val old =>
    rw [ho] at hx
    by_cases h2 : old.category = 2
    · have hs := hw.2 k old hx h2
      have hk1 : k + 1 < l.size := (Array.getElem?_eq_some_iff.mp hs).1
      refine ⟨(l.setIfInBounds (k + 1) .unset).setIfInBounds k (.val x), by simp [storeLocals, storeSelf, setAt, ho, hk, hk1, hc2, h2], by simp, by simp [hk], fun i hi => ?_, (fun q => by rw [hx] at q; cases q), fun v _ _ => ?_⟩
      · rw [Array.getElem?_setIfInBounds_ne (Ne.symm hi)]
        by_cases e : i = k + 1
        · subst e
          exact Or.inr ⟨by simp [hk1], Or.inr ⟨rfl, hs, old, hx, h2⟩⟩
        · exact Or.inl (Array.getElem?_setIfInBounds_ne (Ne.symm e))
      · rw [Array.getElem?_setIfInBounds_ne (by omega)]
        simp [hk1]
    · refine ⟨l.setIfInBounds k (.val x), by simp [storeLocals, storeSelf, setAt, ho, hk, hc2, h2], by simp, by simp [hk], fun j hj => Or.inl (Array.getElem?_setIfInBounds_ne (Ne.symm hj)), (fun q => by rw [hx] at q; cases q), (fun v q qq => by rw [hx] at q; cases q; exact absurd qq h2)⟩
theorem LR.st1 {A : Nat → Addr} {b : Nat} {L : OLs} {Ls : Array Slot} (h : LR A b L Ls) {k : Nat} (hk : k < L.length) {v : OV} {x : Value} (hv : VR A b v x) (hc : x.category = 1) :
    ∃ Ls', storeLocals Ls k x = some Ls' ∧ LR A b (lst1 L k v) Ls' ∧ Ls'.size = Ls.size := by
  obtain ⟨l', h1, h2, h3, h4, h5, h6⟩ := store1_at h.2.2 (by rw [← h.1]; exact hk) hc
  refine ⟨l', h1, ⟨?_, ?_, ?_, ?_⟩, h2⟩
  · rw [lst1, length_lput, length_killPrev, h.1, h2]
  · intro j w hj
    rw [lst1, lget_lput, length_killPrev] at hj
    by_cases e : j = k ∧ k < L.length
    · rw [if_pos e] at hj
      cases hj
      obtain ⟨rfl, -⟩ := e
      exact ⟨x, h3, hv⟩
    · rw [if_neg e] at hj
      have hne : j ≠ k := fun q => e ⟨q, hk⟩
      obtain ⟨g1, g2⟩ := lget_killPrev hj
      obtain ⟨y, g3, g4⟩ := h.2.1 j w g1
      rcases h4 j hne with q | ⟨-, q | q⟩
      · exact ⟨y, q.trans g3, g4⟩
      · exfalso
        obtain ⟨i, u, q1, q2, q3⟩ := h.2.2.1 k q.2
        have : i = j := by omega
        subst this
        cases g3.symm.trans q2
        rw [g4.cat (g2 q.1)] at q3; cases q3
      · exfalso
        cases g3.symm.trans q.2.1
  · intro j hj
    by_cases e : j = k
    · subst e; rw [h3] at hj; cases hj
    · have hj0 : Ls[j]? = some .second := by
        rcases h4 j e with q | ⟨q, -⟩
        · exact q ▸ hj
        · rw [q] at hj; cases hj
      obtain ⟨i, u, rfl, q2, q3⟩ := h.2.2.1 j hj0
      refine ⟨i, u, rfl, ?_, q3⟩
      have hi : i ≠ k := fun q => by
        subst q
        rw [h6 u q2 q3] at hj; cases hj
      rcases h4 i hi with q | ⟨-, q | q⟩
      · rw [q]; exact q2
      · exact absurd q.1 e
      · rw [q2] at q; cases q.2.1
  · intro j u hj hu
    by_cases e : j = k
    · subst e; rw [h3] at hj; cases hj; omega
    · have hj0 : Ls[j]? = some (.val u) := by
        rcases h4 j e with q | ⟨q, -⟩
        · exact q ▸ hj
        · rw [q] at hj; cases hj
      have q2 := h.2.2.2 j u hj0 hu
      have hi : j + 1 ≠ k := fun q => by
        subst q
        rw [h5 q2 j rfl] at hj; cases hj
      rcases h4 (j + 1) hi with q | ⟨-, q | q⟩
      · rw [q]; exact q2
      · exfalso
        obtain ⟨i, w, r1, r2, r3⟩ := h.2.2.1 k q.2
        have : i = j + 1 := by omega
        subst this
        rw [q2] at r2; cases r2
      · exact absurd (by omega : j = k) e
/-- what a store of two words makes of the slots -/
theorem store2_at {l : Array Slot} (hw : WF l) {k : Nat} (hk : k + 1 < l.size) {x : Value} (hc : x.category = 2) :
    ∃ l', storeLocals l k x = some l' ∧ l'.size = l.size ∧ l'[k]? = some (.val x) ∧ l'[k + 1]? = some .second ∧
      (∀ j, j ≠ k → j ≠ k + 1 → l'[j]? = l[j]? ∨ (l'[j]? = some .unset ∧ ((j + 1 = k ∧ l[k]? = some .second) ∨ (j = k + 2 ∧ l[j]? = some .second ∧ ∃ v, l[k + 1]? = some (.val v) ∧ v.category = 2)))) ∧
      (l[k]? = some .second → ∀ j, j + 1 = k → l'[j]? = some .unset) ∧ (∀ v, l[k + 1]? = some (.val v) → v.category = 2 → l'[k + 2]? = some .unset) := by
  have hk0 : k < l.size := by omega
  have hx : l[k]? = some l[k] := Array.getElem?_eq_getElem hk0
  have hy : l[k + 1]? = some l[k + 1] := Array.getElem?_eq_getElem hk
  have key : ∀ l1 : Array Slot, l1.size = l.size → ∀ s1, l1[k + 1]? = some s1 → (∀ v, s1 = .val v → v.category = 2 → k + 2 < l.size) → ∃ l', storeSelf l1 k x = some l' ∧ l'.size = l.size ∧ l'[k]? = some (.val x) ∧ l'[k + 1]? = some .second ∧ (∀ j, j ≠ k → j ≠ k + 1 → l'[j]? = l1[j]? ∨ (j = k + 2 ∧ l'[j]? = some .unset ∧ ∃ v, s1 = .val v ∧ v.category = 2)) ∧ (∀ v, s1 = .val v → v.category = 2 → l'[k + 2]? = some .unset) := by
    intro l1 hs1 s1 hl1 h2
    have a1 : k < l1.size := by omega
    have a2 : k + 1 < l1.size := by omega
    have hg : (l1.setIfInBounds k (.val x))[k + 1]? = some s1 := by rw [Array.getElem?_setIfInBounds_ne (by omega)]; exact hl1
    have plain : (∀ v, s1 = .val v → v.category ≠ 2) → storeSelf l1 k x = some ((l1.setIfInBounds k (.val x)).setIfInBounds (k + 1) .second) := by
      intro q
      simp only [storeSelf, setAt, a1, if_true, Option.bind_eq_bind, Option.bind_some, hc]
      rw [hg]
      cases s1 with
      | unset => simp [a2]
      | second => simp [a2]
      | val v => simp [a2, q v rfl]
    have done : (∀ v, s1 = .val v → v.category ≠ 2) → ∃ l', storeSelf l1 k x = some l' ∧ l'.size = l.size ∧ l'[k]? = some (.val x) ∧ l'[k + 1]? = some .second ∧ (∀ j, j ≠ k → j ≠ k + 1 → l'[j]? = l1[j]? ∨ (j = k + 2 ∧ l'[j]? = some .unset ∧ ∃ v, s1 = .val v ∧ v.category = 2)) ∧ (∀ v, s1 = .val v → v.category = 2 → l'[k + 2]? = some .unset) := by
      intro q
      refine ⟨_, plain q, by simp [hs1], ?_, by simp [a2], fun j h1 h2 => Or.inl ?_, fun v e1 e2 => absurd e2 (q v e1)⟩
      · rw [Array.getElem?_setIfInBounds_ne (by omega)]; simp [a1]
      · rw [Array.getElem?_setIfInBounds_ne (Ne.symm h2), Array.getElem?_setIfInBounds_ne (Ne.symm h1)]
    cases s1 with
    | unset => exact done (fun v q => by cases q)
    | second => exact done (fun v q => by cases q)
    | val v =>
      by_cases hv : v.category = 2
      · have a3 : k + 2 < l1.size := by rw [hs1]; exact h2 v rfl hv
        refine ⟨((l1.setIfInBounds k (.val x)).setIfInBounds (k + 2) .unset).setIfInBounds (k + 1) .second, ?_, by simp [hs1], ?_, by simp [a2], fun j q1 q2 => ?_, fun _ _ _ => ?_⟩
        · simp only [storeSelf, setAt, a1, if_true, Option.bind_eq_bind, Option.bind_some, hc]
          rw [hg]
          simp [hv, a2, a3]
        · rw [Array.getElem?_setIfInBounds_ne (by omega), Array.getElem?_setIfInBounds_ne (by omega)]; simp [a1]
        · rw [Array.getElem?_setIfInBounds_ne (Ne.symm q2)]
          by_cases e : j = k + 2
          · subst e
            exact Or.inr ⟨rfl, by simp [a3], v, rfl, hv⟩
          · rw [Array.getElem?_setIfInBounds_ne (Ne.symm e), Array.getElem?_setIfInBounds_ne (Ne.symm q1)]
            exact Or.inl rfl
        · rw [Array.getElem?_setIfInBounds_ne (by omega)]; simp [a3]
      · exact done (fun v' q => by cases q; exact hv)
  have room2 : ∀ v, l[k + 1]? = some (.val v) → v.category = 2 → k + 2 < l.size := fun v q1 q2 => (Array.getElem?_eq_some_iff.mp (hw.2 (k + 1) v q1 q2)).1
  cases ho : l[k] with
  | unset =>
    rw [ho] at hx
    obtain ⟨l', g1, g2, g3, g4, g5, g6⟩ := key l rfl _ hy (fun v q1 q2 => room2 v (by rw [hy, q1]) q2)
    refine ⟨l', by simp [storeLocals, ho, hk0, g1], g2, g3, g4, fun j q1 q2 => ?_, (fun q => by rw [hx] at q; cases q), fun v q1 q2 => g6 v (by rw [hy] at q1; exact Option.some.inj q1) q2⟩
    rcases g5 j q1 q2 with q | ⟨rfl, q, v, r1, r2⟩
    · exact Or.inl q
    · exact Or.inr ⟨q, Or.inr ⟨rfl, hw.2 (k + 1) v (by rw [hy, r1]) r2, v, by rw [hy, r1], r2⟩⟩
  | second =>
    rw [ho] at hx
    obtain ⟨i, u, rfl, hi, -⟩ := hw.1 k hx
    have hi' : i < l.size := by omega
    obtain ⟨l', g1, g2, g3, g4, g5, g6⟩ := key (l.setIfInBounds i .unset) (by simp) _ (by rw [Array.getElem?_setIfInBounds_ne (by omega)]; exact hy) (fun v q1 q2 => room2 v (by rw [hy, q1]) q2)
    refine ⟨l', by simp [storeLocals, setAt, ho, hk0, hi', g1], g2, g3, g4, fun j q1 q2 => ?_, fun _ j hj => ?_, fun v q1 q2 => g6 v (by rw [hy] at q1; exact Option.some.inj q1) q2⟩
    · rcases g5 j q1 q2 with q | ⟨rfl, q, v, r1, r2⟩
      · by_cases e : j = i
        · subst e
          exact Or.inr ⟨by rw [q]; simp [hi'], Or.inl ⟨rfl, hx⟩⟩
        · exact Or.inl (by rw [q, Array.getElem?_setIfInBounds_ne (Ne.symm e)])
      · exact Or.inr ⟨q, Or.inr ⟨rfl, hw.2 (i + 1 + 1) v (by rw [hy, r1]) r2, v, by rw [hy, r1], r2⟩⟩
    · have e : j = i := by omega
      subst e
      rcases g5 j (by omega) (by omega) with q | ⟨q, -⟩
      · rw [q]; simp [hi']
      · omega
  | val old =>
    rw [ho] at hx
    by_cases h2 : old.category = 2
    · have hs := hw.2 k old hx h2
      have hy2 : l[k + 1] = .second := by rw [hy] at hs; exact Option.some.inj hs
      obtain ⟨l', g1, g2, g3, g4, g5, g6⟩ := key (l.setIfInBounds (k + 1) .unset) (by simp) .unset (by simp [hk]) (fun v q1 => by cases q1)
      refine ⟨l', by simp [storeLocals, setAt, ho, hk0, hk, h2, g1], g2, g3, g4, fun j q1 q2 => ?_, (fun q => by rw [hx] at q; cases q), fun v q1 q2 => by rw [hs] at q1; cases q1⟩
      rcases g5 j q1 q2 with q | ⟨_, _, v, r1, _⟩
      · exact Or.inl (by rw [q, Array.getElem?_setIfInBounds_ne (Ne.symm q2)])
      · cases r1
    · obtain ⟨l', g1, g2, g3, g4, g5, g6⟩ := key l rfl _ hy (fun v q1 q2 => room2 v (by rw [hy, q1]) q2)
      refine ⟨l', by simp [storeLocals, ho, hk0, h2, g1], g2, g3, g4, fun j q1 q2 => ?_, (fun q => by rw [hx] at q; cases q), fun v q1 q2 => g6 v (by rw [hy] at q1; exact Option.some.inj q1) q2⟩
      rcases g5 j q1 q2 with q | ⟨rfl, q, v, r1, r2⟩
      · exact Or.inl q
      · exact Or.inr ⟨q, Or.inr ⟨rfl, hw.2 (k + 1) v (by rw [hy, r1]) r2, v, by rw [hy, r1], r2⟩⟩
theorem LR.st2 {A : Nat → Addr} {b : Nat} {L : OLs} {Ls : Array Slot} (h : LR A b L Ls) {k : Nat} (hk : k + 1 < L.length) {v : OV} {x : Value} (hv : VR A b v x) (hc : x.category = 2) :
    ∃ Ls', storeLocals Ls k x = some Ls' ∧ LR A b (lst2 L k v) Ls' ∧ Ls'.size = Ls.size := by
  obtain ⟨l', h1, h2, h3, h3', h4, h5, h6⟩ := store2_at h.2.2 (by rw [← h.1]; exact hk) hc
  refine ⟨l', h1, ⟨?_, ?_, ?_, ?_⟩, h2⟩
  · rw [lst2, length_lput, length_lput, length_killPrev, h.1, h2]
  · intro j w hj
    rw [lst2, lget_lput, length_lput, length_killPrev, lget_lput, length_killPrev] at hj
    by_cases e1 : j = k + 1 ∧ k + 1 < L.length
    · rw [if_pos e1] at hj; cases hj
    rw [if_neg e1] at hj
    have hne1 : j ≠ k + 1 := fun q => e1 ⟨q, hk⟩
    by_cases e : j = k ∧ k < L.length
    · rw [if_pos e] at hj
      cases hj
      obtain ⟨rfl, -⟩ := e
      exact ⟨x, h3, hv⟩
    · rw [if_neg e] at hj
      have hne : j ≠ k := fun q => e ⟨q, by omega⟩
      obtain ⟨g1, g2⟩ := lget_killPrev hj
      obtain ⟨y, g3, g4⟩ := h.2.1 j w g1
      rcases h4 j hne hne1 with q | ⟨-, q | q⟩
      · exact ⟨y, q.trans g3, g4⟩
      · exfalso
        obtain ⟨i, u, q1, q2, q3⟩ := h.2.2.1 k q.2
        have : i = j := by omega
        subst this
        cases g3.symm.trans q2
        rw [g4.cat (g2 q.1)] at q3; cases q3
      · exfalso
        cases g3.symm.trans q.2.1
  · intro j hj
    by_cases e : j = k
    · subst e; rw [h3] at hj; cases hj
    by_cases e' : j = k + 1
    · exact ⟨k, x, e', h3, hc⟩
    · have hj0 : Ls[j]? = some .second := by
        rcases h4 j e e' with q | ⟨q, -⟩
        · exact q ▸ hj
        · rw [q] at hj; cases hj
      obtain ⟨i, u, rfl, q2, q3⟩ := h.2.2.1 j hj0
      refine ⟨i, u, rfl, ?_, q3⟩
      have hi : i ≠ k := fun q => e' (by omega)
      have hi' : i ≠ k + 1 := fun q => by
        subst q
        rw [h6 u q2 q3] at hj; cases hj
      rcases h4 i hi hi' with q | ⟨-, q | q⟩
      · rw [q]; exact q2
      · exact absurd q.1 e
      · rw [q2] at q; cases q.2.1
  · intro j u hj hu
    by_cases e : j = k
    · subst e; exact h3'
    by_cases e' : j = k + 1
    · subst e'; rw [h3'] at hj; cases hj
    · have hj0 : Ls[j]? = some (.val u) := by
        rcases h4 j e e' with q | ⟨q, -⟩
        · exact q ▸ hj
        · rw [q] at hj; cases hj
      have q2 := h.2.2.2 j u hj0 hu
      have hi : j + 1 ≠ k := fun q => by
        subst q
        rw [h5 q2 j rfl] at hj; cases hj
      rcases h4 (j + 1) hi (by omega) with q | ⟨-, q | q⟩
      · rw [q]; exact q2
      · exfalso
        obtain ⟨i, w, r1, r2, r3⟩ := h.2.2.1 k q.2
        have : i = j + 1 := by omega
        subst this
        rw [q2] at r2; cases r2
      · exact absurd (by omega : j = k + 1) e'
end Jvm.OwnMini
namespace Jvm.OwnMini
open Jvm Jvm.ClassFile Sem Op Lib Jvm.Free Jvm.Stand Jvm.LawKit Jvm.RoadKit
set_option maxHeartbeats 4000000 in
theorem pstep_sound {p : Program} {l : Launch} {e : Env} {R : Room} {s : State} {m : MethodId} {args : Array Value} {below : List Frame} {meth : Method} {c : Code} {T : State} {locs : List Loc} {cells slots : Nat}
    (X : Stand p l e R s m args below meth c T locs cells slots) (hx : p.tables.exec = Jvm.exec) {own : String} (hown : s.vm.findClass own = some m.cls) {cst : Nat → Option OV}
    (hcst : (∀ x z, cst x = some (.inl z) → ∃ v : Int32, (Jvm.Cond.constant own x v).before args s = true ∧ v.toInt = z) ∧ (∀ x z, cst x = some (.inr (.inl z)) → ∃ v : Int64, (Jvm.Cond.constantLong own x v).before args s = true ∧ v.toInt = z))
    {A : Nat → Addr} {b : Nat} {L : OLs} {Ls : Array Slot} {S : List OV} {St : List Value} (hL : LR A b L Ls) (hS : SR A b S St) {i : Instr} {pc len : Nat} (hd : decode c.code pc = .ok (i, len)) (hchk : chk pc i len = true)
    {β : Type} {k : Nat → OLs → List OV → Option β} {r : β} (h : pstep cst i pc len L S k = some r) :
    ∃ pc' L' S' Ls' St', k pc' L' S' = some r ∧ LR A b L' Ls' ∧ SR A b S' St' ∧ Ls'.size = Ls.size ∧ ∀ target, Steps p.tables e below (T.setTop (mkF m pc' Ls' St')) target → Steps p.tables e below (T.setTop (mkF m pc Ls St)) target := by
  cases i
  case iconst z =>
    have hc : (len = 1 ∧ -32768 ≤ z) ∧ z ≤ 32767 := by simpa [chk] using hchk
    obtain ⟨⟨rfl, h1⟩, h2⟩ := hc
    exact ⟨_, _, _, _, _, h, hL, SR.ci (Int32.toInt_ofInt_of_le (by omega) (by omega)) hS, rfl, fun target hr => XS.iconst X.here hx rfl hd hr⟩
  case bipush z =>
    have hc : (len = 2 ∧ -128 ≤ z) ∧ z ≤ 127 := by simpa [chk] using hchk
    obtain ⟨⟨rfl, h1⟩, h2⟩ := hc
    exact ⟨_, _, _, _, _, h, hL, SR.ci (by rw [Int8.toInt_toInt32, Int8.toInt_ofInt_of_le (by omega) (by omega)]) hS, rfl, fun target hr => XS.bipush X.here hx rfl hd hr⟩
  case sipush z =>
    have hc : (len = 3 ∧ -32768 ≤ z) ∧ z ≤ 32767 := by simpa [chk] using hchk
    obtain ⟨⟨rfl, h1⟩, h2⟩ := hc
    exact ⟨_, _, _, _, _, h, hL, SR.ci (by rw [Int16.toInt_toInt32, Int16.toInt_ofInt_of_le (by omega) (by omega)]) hS, rfl, fun target hr => XS.sipush X.here hx rfl hd hr⟩
  case lconst z =>
    obtain rfl : len = 1 := by simpa [chk, ilen] using hchk
    refine ⟨_, _, _, _, _, h, hL, SR.cj (y := Int64.ofNat z.val) ?_ hS, rfl, fun target hr => XT.lconst X.here hx rfl hd hr⟩
    match z with
    | ⟨0, _⟩ => rfl
    | ⟨1, _⟩ => rfl
  case ldc x =>
    obtain rfl : len = 2 := by simpa [chk, ilen] using hchk
    simp only [pstep] at h
    cases hq : cst x with
    | none => simp [hq] at h
    | some v =>
      cases v with
      | inr v => simp [hq] at h
      | inl z =>
        simp only [hq] at h
        obtain ⟨cv, hcv, rfl⟩ := hcst.1 x z hq
        exact ⟨_, _, _, _, _, h, hL, SR.ci rfl hS, rfl, fun target hr => X.ldcI hx hown hcv rfl hd hr⟩
  case ldc_w x =>
    obtain rfl : len = 3 := by simpa [chk, ilen] using hchk
    simp only [pstep] at h
    cases hq : cst x with
    | none => simp [hq] at h
    | some v =>
      cases v with
      | inr v => simp [hq] at h
      | inl z =>
        simp only [hq] at h
        obtain ⟨cv, hcv, rfl⟩ := hcst.1 x z hq
        exact ⟨_, _, _, _, _, h, hL, SR.ci rfl hS, rfl, fun target hr => X.ldcWI hx hown hcv rfl hd hr⟩
  case ldc2_w x =>
    obtain rfl : len = 3 := by simpa [chk, ilen] using hchk
    simp only [pstep] at h
    cases hq : cst x with
    | none => simp [hq] at h
    | some v =>
      cases v with
      | inl z => simp [hq] at h
      | inr v =>
        cases v with
        | inr z => simp [hq] at h
        | inl z =>
          simp only [hq] at h
          obtain ⟨cv, hcv, rfl⟩ := hcst.2 x z hq
          exact ⟨_, _, _, _, _, h, hL, SR.cj rfl hS, rfl, fun target hr => X.ldc2J hx hown hcv rfl hd hr⟩
  case iload x =>
    obtain rfl : len = 2 := by simpa [chk, ilen] using hchk
    obtain ⟨z, hg, h⟩ := gi_some h
    obtain ⟨w, hw, hv⟩ := hL.2.1 _ _ hg
    obtain ⟨y, rfl, rfl⟩ := hv
    exact ⟨_, _, _, _, _, h, hL, SR.ci rfl hS, rfl, fun target hr => XS.iload X.here hx rfl hd hw hr⟩
  case iload_n x =>
    obtain rfl : len = 1 := by simpa [chk, ilen] using hchk
    obtain ⟨z, hg, h⟩ := gi_some h
    obtain ⟨w, hw, hv⟩ := hL.2.1 _ _ hg
    obtain ⟨y, rfl, rfl⟩ := hv
    exact ⟨_, _, _, _, _, h, hL, SR.ci rfl hS, rfl, fun target hr => XS.iloadN X.here hx rfl hd hw hr⟩
  case lload x =>
    obtain rfl : len = 2 := by simpa [chk, ilen] using hchk
    obtain ⟨z, hg, h⟩ := gl_some h
    obtain ⟨w, hw, hv⟩ := hL.2.1 _ _ hg
    obtain ⟨y, rfl, rfl⟩ := hv
    exact ⟨_, _, _, _, _, h, hL, SR.cj rfl hS, rfl, fun target hr => XT.lload X.here hx rfl hd hw hr⟩
  case lload_n x =>
    obtain rfl : len = 1 := by simpa [chk, ilen] using hchk
    obtain ⟨z, hg, h⟩ := gl_some h
    obtain ⟨w, hw, hv⟩ := hL.2.1 _ _ hg
    obtain ⟨y, rfl, rfl⟩ := hv
    exact ⟨_, _, _, _, _, h, hL, SR.cj rfl hS, rfl, fun target hr => XT.lloadN X.here hx rfl hd hw hr⟩
  case aload x =>
    obtain rfl : len = 2 := by simpa [chk, ilen] using hchk
    obtain ⟨z, hg, h⟩ := gr_some h
    obtain ⟨w, hw, hv⟩ := hL.2.1 _ _ hg
    obtain ⟨hb, rfl⟩ := hv
    exact ⟨_, _, _, _, _, h, hL, SR.cr hb hS, rfl, fun target hr => XS.aload X.here hx rfl hd hw rfl hr⟩
  case aload_n x =>
    obtain rfl : len = 1 := by simpa [chk, ilen] using hchk
    obtain ⟨z, hg, h⟩ := gr_some h
    obtain ⟨w, hw, hv⟩ := hL.2.1 _ _ hg
    obtain ⟨hb, rfl⟩ := hv
    exact ⟨_, _, _, _, _, h, hL, SR.cr hb hS, rfl, fun target hr => XS.aloadN X.here hx rfl hd hw rfl hr⟩
  case istore x =>
    obtain rfl : len = 2 := by simpa [chk, ilen] using hchk
    obtain ⟨z, S', rfl, h⟩ := pi1_some h
    obtain ⟨hk, h⟩ := inL_some h
    obtain ⟨y, St', rfl, hy, hS'⟩ := SR.i1 hS
    obtain ⟨Ls', hst, hL', hsz⟩ := hL.st1 hk (v := vi z) (x := .int y) ⟨y, rfl, hy⟩ rfl
    exact ⟨_, _, _, _, _, h, hL', hS', hsz, fun target hr => XS.istore X.here hx rfl hd rfl hst hr⟩
  case istore_n x =>
    obtain rfl : len = 1 := by simpa [chk, ilen] using hchk
    obtain ⟨z, S', rfl, h⟩ := pi1_some h
    obtain ⟨hk, h⟩ := inL_some h
    obtain ⟨y, St', rfl, hy, hS'⟩ := SR.i1 hS
    obtain ⟨Ls', hst, hL', hsz⟩ := hL.st1 hk (v := vi z) (x := .int y) ⟨y, rfl, hy⟩ rfl
    exact ⟨_, _, _, _, _, h, hL', hS', hsz, fun target hr => XS.istoreN X.here hx rfl hd rfl hst hr⟩
  case lstore x =>
    obtain rfl : len = 2 := by simpa [chk, ilen] using hchk
    obtain ⟨z, S', rfl, h⟩ := pl1_some h
    obtain ⟨hk, h⟩ := inL_some h
    obtain ⟨y, St', rfl, hy, hS'⟩ := SR.l1 hS
    obtain ⟨Ls', hst, hL', hsz⟩ := hL.st2 hk (v := vl z) (x := .long y) ⟨y, rfl, hy⟩ rfl
    exact ⟨_, _, _, _, _, h, hL', hS', hsz, fun target hr => XT.lstore X.here hx rfl hd rfl hst hr⟩
  case lstore_n x =>
    obtain rfl : len = 1 := by simpa [chk, ilen] using hchk
    obtain ⟨z, S', rfl, h⟩ := pl1_some h
    obtain ⟨hk, h⟩ := inL_some h
    obtain ⟨y, St', rfl, hy, hS'⟩ := SR.l1 hS
    obtain ⟨Ls', hst, hL', hsz⟩ := hL.st2 hk (v := vl z) (x := .long y) ⟨y, rfl, hy⟩ rfl
    exact ⟨_, _, _, _, _, h, hL', hS', hsz, fun target hr => XT.lstoreN X.here hx rfl hd rfl hst hr⟩
  case astore x =>
    obtain rfl : len = 2 := by simpa [chk, ilen] using hchk
    obtain ⟨z, S', rfl, h⟩ := pr1_some h
    obtain ⟨hk, h⟩ := inL_some h
    obtain ⟨hb, St', rfl, hS'⟩ := SR.r1 hS
    obtain ⟨Ls', hst, hL', hsz⟩ := hL.st1 hk (v := vr z) (x := .ref (A z)) ⟨hb, rfl⟩ rfl
    exact ⟨_, _, _, _, _, h, hL', hS', hsz, fun target hr => XS.astore X.here hx rfl hd rfl rfl hst hr⟩
  case astore_n x =>
    obtain rfl : len = 1 := by simpa [chk, ilen] using hchk
    obtain ⟨z, S', rfl, h⟩ := pr1_some h
    obtain ⟨hk, h⟩ := inL_some h
    obtain ⟨hb, St', rfl, hS'⟩ := SR.r1 hS
    obtain ⟨Ls', hst, hL', hsz⟩ := hL.st1 hk (v := vr z) (x := .ref (A z)) ⟨hb, rfl⟩ rfl
    exact ⟨_, _, _, _, _, h, hL', hS', hsz, fun target hr => XS.astoreN X.here hx rfl hd rfl rfl hst hr⟩
  case iinc x z =>
    have hc : (len = 3 ∧ -32768 ≤ z) ∧ z ≤ 32767 := by simpa [chk] using hchk
    obtain ⟨⟨rfl, h1⟩, h2⟩ := hc
    obtain ⟨a, hg, h⟩ := gi_some h
    obtain ⟨hk, h⟩ := inL_some h
    obtain ⟨w, hw, y, rfl, rfl⟩ := hL.2.1 _ _ hg
    obtain ⟨Ls', hst, hL', hsz⟩ := hL.st1 hk (v := vi (w32 (y.toInt + z))) (x := .int (y + Int32.ofInt z)) ⟨_, rfl, by rw [Int32.toInt_add, Int32.toInt_ofInt_of_le (by omega) (by omega), w32_eq]⟩ rfl
    exact ⟨_, _, _, _, _, h, hL', hS, hsz, fun target hr => XS.iinc X.here hx rfl hd hw hst hr⟩
  case iadd =>
    obtain rfl : len = 1 := by simpa [chk, ilen] using hchk
    obtain ⟨a, b', S', rfl, h⟩ := pi2_some h
    obtain ⟨y, x, St', rfl, rfl, rfl, hS'⟩ := SR.i2 hS
    exact ⟨_, _, _, _, _, h, hL, SR.ci (by rw [Int32.toInt_add, w32_eq]) hS', rfl, fun target hr => XS.iadd X.here hx rfl hd rfl hr⟩
  case isub =>
    obtain rfl : len = 1 := by simpa [chk, ilen] using hchk
    obtain ⟨a, b', S', rfl, h⟩ := pi2_some h
    obtain ⟨y, x, St', rfl, rfl, rfl, hS'⟩ := SR.i2 hS
    exact ⟨_, _, _, _, _, h, hL, SR.ci (by rw [Int32.toInt_sub, w32_eq]) hS', rfl, fun target hr => XS.isub X.here hx rfl hd rfl hr⟩
  case imul =>
    obtain rfl : len = 1 := by simpa [chk, ilen] using hchk
    obtain ⟨a, b', S', rfl, h⟩ := pi2_some h
    obtain ⟨y, x, St', rfl, rfl, rfl, hS'⟩ := SR.i2 hS
    exact ⟨_, _, _, _, _, h, hL, SR.ci (by rw [Int32.toInt_mul, w32_eq]) hS', rfl, fun target hr => XS.imul X.here hx rfl hd rfl hr⟩
  case idiv =>
    obtain rfl : len = 1 := by simpa [chk, ilen] using hchk
    obtain ⟨a, b', S', rfl, h⟩ := pi2_some h
    obtain ⟨y, x, St', rfl, rfl, rfl, hS'⟩ := SR.i2 hS
    simp only [pstep, pi2] at h
    by_cases hz : y.toInt = 0
    · simp [hz] at h
    rw [if_neg hz] at h
    have hy : y ≠ 0 := fun q => hz (by rw [q]; rfl)
    exact ⟨_, _, _, _, _, h, hL, SR.ci (by rw [Int32.toInt_div, div32, w32_eq]) hS', rfl, fun target hr => XS.idiv X.here hx rfl hd rfl hy hr⟩
  case irem =>
    obtain rfl : len = 1 := by simpa [chk, ilen] using hchk
    obtain ⟨a, b', S', rfl, h⟩ := pi2_some h
    obtain ⟨y, x, St', rfl, rfl, rfl, hS'⟩ := SR.i2 hS
    simp only [pstep, pi2] at h
    by_cases hz : y.toInt = 0
    · simp [hz] at h
    rw [if_neg hz] at h
    have hy : y ≠ 0 := fun q => hz (by rw [q]; rfl)
    exact ⟨_, _, _, _, _, h, hL, SR.ci (by rw [Int32.toInt_mod, rem32]) hS', rfl, fun target hr => iremM X hx rfl hd rfl hy hr⟩
  case iand =>
    obtain rfl : len = 1 := by simpa [chk, ilen] using hchk
    obtain ⟨a, b', S', rfl, h⟩ := pi2_some h
    obtain ⟨y, x, St', rfl, rfl, rfl, hS'⟩ := SR.i2 hS
    exact ⟨_, _, _, _, _, h, hL, SR.ci (by simp only [and32, Int32.ofInt_toInt]) hS', rfl, fun target hr => XS.iand X.here hx rfl hd rfl hr⟩
  case ior =>
    obtain rfl : len = 1 := by simpa [chk, ilen] using hchk
    obtain ⟨a, b', S', rfl, h⟩ := pi2_some h
    obtain ⟨y, x, St', rfl, rfl, rfl, hS'⟩ := SR.i2 hS
    exact ⟨_, _, _, _, _, h, hL, SR.ci (by simp only [or32, Int32.ofInt_toInt]) hS', rfl, fun target hr => XT.ior X.here hx rfl hd rfl hr⟩
  case ixor =>
    obtain rfl : len = 1 := by simpa [chk, ilen] using hchk
    obtain ⟨a, b', S', rfl, h⟩ := pi2_some h
    obtain ⟨y, x, St', rfl, rfl, rfl, hS'⟩ := SR.i2 hS
    exact ⟨_, _, _, _, _, h, hL, SR.ci (by simp only [xor32, Int32.ofInt_toInt]) hS', rfl, fun target hr => XT.ixor X.here hx rfl hd rfl hr⟩
  case ishl =>
    obtain rfl : len = 1 := by simpa [chk, ilen] using hchk
    obtain ⟨a, b', S', rfl, h⟩ := pi2_some h
    obtain ⟨y, x, St', rfl, rfl, rfl, hS'⟩ := SR.i2 hS
    exact ⟨_, _, _, _, _, h, hL, SR.ci (by simp only [shl32, Int32.ofInt_toInt]) hS', rfl, fun target hr => XT.ishl X.here hx rfl hd rfl hr⟩
  case ishr =>
    obtain rfl : len = 1 := by simpa [chk, ilen] using hchk
    obtain ⟨a, b', S', rfl, h⟩ := pi2_some h
    obtain ⟨y, x, St', rfl, rfl, rfl, hS'⟩ := SR.i2 hS
    exact ⟨_, _, _, _, _, h, hL, SR.ci (by simp only [shr32, Int32.ofInt_toInt]) hS', rfl, fun target hr => XT.ishr X.here hx rfl hd rfl hr⟩
  case iushr =>
    obtain rfl : len = 1 := by simpa [chk, ilen] using hchk
    obtain ⟨a, b', S', rfl, h⟩ := pi2_some h
    obtain ⟨y, x, St', rfl, rfl, rfl, hS'⟩ := SR.i2 hS
    exact ⟨_, _, _, _, _, h, hL, SR.ci (by simp only [ushr32, Int32.ofInt_toInt]) hS', rfl, fun target hr => XT.iushr X.here hx rfl hd rfl hr⟩
  case ladd =>
    obtain rfl : len = 1 := by simpa [chk, ilen] using hchk
    obtain ⟨a, b', S', rfl, h⟩ := pl2_some h
    obtain ⟨y, x, St', rfl, rfl, rfl, hS'⟩ := SR.l2 hS
    exact ⟨_, _, _, _, _, h, hL, SR.cj (by rw [Int64.toInt_add, w64_eq]) hS', rfl, fun target hr => XT.ladd X.here hx rfl hd rfl hr⟩
  case lsub =>
    obtain rfl : len = 1 := by simpa [chk, ilen] using hchk
    obtain ⟨a, b', S', rfl, h⟩ := pl2_some h
    obtain ⟨y, x, St', rfl, rfl, rfl, hS'⟩ := SR.l2 hS
    exact ⟨_, _, _, _, _, h, hL, SR.cj (by rw [Int64.toInt_sub, w64_eq]) hS', rfl, fun target hr => XT.lsub X.here hx rfl hd rfl hr⟩
  case lmul =>
    obtain rfl : len = 1 := by simpa [chk, ilen] using hchk
    obtain ⟨a, b', S', rfl, h⟩ := pl2_some h
    obtain ⟨y, x, St', rfl, rfl, rfl, hS'⟩ := SR.l2 hS
    exact ⟨_, _, _, _, _, h, hL, SR.cj (by rw [Int64.toInt_mul, w64_eq]) hS', rfl, fun target hr => XT.lmul X.here hx rfl hd rfl hr⟩
  case ldiv =>
    obtain rfl : len = 1 := by simpa [chk, ilen] using hchk
    obtain ⟨a, b', S', rfl, h⟩ := pl2_some h
    obtain ⟨y, x, St', rfl, rfl, rfl, hS'⟩ := SR.l2 hS
    simp only [pstep, pl2] at h
    by_cases hz : y.toInt = 0
    · simp [hz] at h
    rw [if_neg hz] at h
    have hy : y ≠ 0 := fun q => hz (by rw [q]; rfl)
    exact ⟨_, _, _, _, _, h, hL, SR.cj (by rw [Int64.toInt_div, div64, w64_eq]) hS', rfl, fun target hr => XT.ldiv X.here hx rfl hd rfl hy hr⟩
  case lrem =>
    obtain rfl : len = 1 := by simpa [chk, ilen] using hchk
    obtain ⟨a, b', S', rfl, h⟩ := pl2_some h
    obtain ⟨y, x, St', rfl, rfl, rfl, hS'⟩ := SR.l2 hS
    simp only [pstep, pl2] at h
    by_cases hz : y.toInt = 0
    · simp [hz] at h
    rw [if_neg hz] at h
    have hy : y ≠ 0 := fun q => hz (by rw [q]; rfl)
    exact ⟨_, _, _, _, _, h, hL, SR.cj (by rw [lrem_mod, Int64.toInt_mod, rem64]) hS', rfl, fun target hr => XT.lrem X.here hx rfl hd rfl hy hr⟩
  case land =>
    obtain rfl : len = 1 := by simpa [chk, ilen] using hchk
    obtain ⟨a, b', S', rfl, h⟩ := pl2_some h
    obtain ⟨y, x, St', rfl, rfl, rfl, hS'⟩ := SR.l2 hS
    exact ⟨_, _, _, _, _, h, hL, SR.cj (by simp only [and64, Int64.ofInt_toInt]) hS', rfl, fun target hr => XT.land X.here hx rfl hd rfl hr⟩
  case lor =>
    obtain rfl : len = 1 := by simpa [chk, ilen] using hchk
    obtain ⟨a, b', S', rfl, h⟩ := pl2_some h
    obtain ⟨y, x, St', rfl, rfl, rfl, hS'⟩ := SR.l2 hS
    exact ⟨_, _, _, _, _, h, hL, SR.cj (by simp only [or64, Int64.ofInt_toInt]) hS', rfl, fun target hr => XT.lor X.here hx rfl hd rfl hr⟩
  case lxor =>
    obtain rfl : len = 1 := by simpa [chk, ilen] using hchk
    obtain ⟨a, b', S', rfl, h⟩ := pl2_some h
    obtain ⟨y, x, St', rfl, rfl, rfl, hS'⟩ := SR.l2 hS
    exact ⟨_, _, _, _, _, h, hL, SR.cj (by simp only [xor64, Int64.ofInt_toInt]) hS', rfl, fun target hr => XT.lxor X.here hx rfl hd rfl hr⟩
  case lshl =>
    obtain rfl : len = 1 := by simpa [chk, ilen] using hchk
    obtain ⟨a, b', S', rfl, h⟩ := pli_some h
    obtain ⟨y, x, St', rfl, rfl, rfl, hS'⟩ := SR.li hS
    exact ⟨_, _, _, _, _, h, hL, SR.cj (by simp only [shl64, Int64.ofInt_toInt, Int32.ofInt_toInt]) hS', rfl, fun target hr => XT.lshl X.here hx rfl hd rfl hr⟩
  case lshr =>
    obtain rfl : len = 1 := by simpa [chk, ilen] using hchk
    obtain ⟨a, b', S', rfl, h⟩ := pli_some h
    obtain ⟨y, x, St', rfl, rfl, rfl, hS'⟩ := SR.li hS
    exact ⟨_, _, _, _, _, h, hL, SR.cj (by simp only [shr64, Int64.ofInt_toInt, Int32.ofInt_toInt]) hS', rfl, fun target hr => XT.lshr X.here hx rfl hd rfl hr⟩
  case lushr =>
    obtain rfl : len = 1 := by simpa [chk, ilen] using hchk
    obtain ⟨a, b', S', rfl, h⟩ := pli_some h
    obtain ⟨y, x, St', rfl, rfl, rfl, hS'⟩ := SR.li hS
    exact ⟨_, _, _, _, _, h, hL, SR.cj (by simp only [ushr64, Int64.ofInt_toInt, Int32.ofInt_toInt]) hS', rfl, fun target hr => XT.lushr X.here hx rfl hd rfl hr⟩
  case lcmp =>
    obtain rfl : len = 1 := by simpa [chk, ilen] using hchk
    obtain ⟨a, b', S', rfl, h⟩ := pl2_some h
    obtain ⟨y, x, St', rfl, rfl, rfl, hS'⟩ := SR.l2 hS
    exact ⟨_, _, _, _, _, h, hL, SR.ci (cmpL_toInt _ _) hS', rfl, fun target hr => XT.lcmp X.here hx rfl hd rfl hr⟩
  case ineg =>
    obtain rfl : len = 1 := by simpa [chk, ilen] using hchk
    obtain ⟨a, S', rfl, h⟩ := pi1_some h
    obtain ⟨y, St', rfl, rfl, hS'⟩ := SR.i1 hS
    exact ⟨_, _, _, _, _, h, hL, SR.ci (by rw [Int32.toInt_neg, w32_eq]) hS', rfl, fun target hr => XS.ineg X.here hx rfl hd rfl hr⟩
  case lneg =>
    obtain rfl : len = 1 := by simpa [chk, ilen] using hchk
    obtain ⟨a, S', rfl, h⟩ := pl1_some h
    obtain ⟨y, St', rfl, rfl, hS'⟩ := SR.l1 hS
    exact ⟨_, _, _, _, _, h, hL, SR.cj (by rw [Int64.toInt_neg, w64_eq]) hS', rfl, fun target hr => XT.lneg X.here hx rfl hd rfl hr⟩
  case i2l =>
    obtain rfl : len = 1 := by simpa [chk, ilen] using hchk
    obtain ⟨a, S', rfl, h⟩ := pi1_some h
    obtain ⟨y, St', rfl, rfl, hS'⟩ := SR.i1 hS
    exact ⟨_, _, _, _, _, h, hL, SR.cj (Int32.toInt_toInt64 _) hS', rfl, fun target hr => XT.i2l X.here hx rfl hd rfl hr⟩
  case l2i =>
    obtain rfl : len = 1 := by simpa [chk, ilen] using hchk
    obtain ⟨a, S', rfl, h⟩ := pl1_some h
    obtain ⟨y, St', rfl, rfl, hS'⟩ := SR.l1 hS
    exact ⟨_, _, _, _, _, h, hL, SR.ci (by rw [Int64.toInt_toInt32, w32_eq]) hS', rfl, fun target hr => XT.l2i X.here hx rfl hd rfl hr⟩
  case i2b =>
    obtain rfl : len = 1 := by simpa [chk, ilen] using hchk
    obtain ⟨a, S', rfl, h⟩ := pi1_some h
    obtain ⟨y, St', rfl, rfl, hS'⟩ := SR.i1 hS
    exact ⟨_, _, _, _, _, h, hL, SR.ci (b8_eq _) hS', rfl, fun target hr => XT.i2b X.here hx rfl hd rfl hr⟩
  case goto o =>
    have hc : len = 3 ∧ 0 ≤ (pc : Int) + o := by simpa [chk] using hchk
    obtain ⟨rfl, h1⟩ := hc
    exact ⟨_, _, _, _, _, h, hL, hS, rfl, fun target hr => XS.goto X.here hx rfl rfl hd h1 rfl hr⟩
  case if_icmp c o =>
    have hc : len = 3 ∧ 0 ≤ (pc : Int) + o := by simpa [chk] using hchk
    obtain ⟨rfl, h1⟩ := hc
    obtain ⟨a, b', S', rfl, h⟩ := pi2_some h
    obtain ⟨y, x, St', rfl, rfl, rfl, hS'⟩ := SR.i2 hS
    rcases br_some h with ⟨hq, h⟩ | ⟨hq, h⟩
    · exact ⟨_, _, _, _, _, h, hL, hS', rfl, fun target hr => XS.icmpYes X.here hx rfl rfl hd rfl (icmp_holds hq) h1 rfl hr⟩
    · exact ⟨_, _, _, _, _, h, hL, hS', rfl, fun target hr => XS.icmpNo X.here hx rfl hd rfl (icmp_fails hq) hr⟩
  case ifCond c o =>
    have hc : len = 3 ∧ 0 ≤ (pc : Int) + o := by simpa [chk] using hchk
    obtain ⟨rfl, h1⟩ := hc
    obtain ⟨a, S', rfl, h⟩ := pi1_some h
    obtain ⟨x, St', rfl, rfl, hS'⟩ := SR.i1 hS
    rcases br_some h with ⟨hq, h⟩ | ⟨hq, h⟩
    · exact ⟨_, _, _, _, _, h, hL, hS', rfl, fun target hr => XS.ifYes X.here hx rfl rfl hd rfl (by rw [if0]; exact icmp_holds (y := 0) hq) h1 rfl hr⟩
    · exact ⟨_, _, _, _, _, h, hL, hS', rfl, fun target hr => XS.ifNo X.here hx rfl hd rfl (by rw [if0]; exact icmp_fails (y := 0) hq) hr⟩
  case tableswitch d lo hi os =>
    have hc : (((0 ≤ (pc : Int) + d ∧ ∀ o ∈ os.toList, 0 ≤ (pc : Int) + o) ∧ hi = lo + os.toList.length - 1) ∧ -2147483648 ≤ lo) ∧ hi ≤ 2147483647 := by simpa only [chk, Bool.and_eq_true, decide_eq_true_eq, List.all_eq_true] using hchk
    obtain ⟨⟨⟨⟨h1, h2⟩, h3⟩, h4⟩, h5⟩ := hc
    obtain ⟨a, S', rfl, h⟩ := pi1_some h
    obtain ⟨x, St', rfl, rfl, hS'⟩ := SR.i1 hS
    rcases tsw_some _ _ _ h with ⟨o, n, hn, ho, h⟩ | ⟨hout, h⟩
    · refine ⟨_, _, _, _, _, h, hL, hS', rfl, fun target hr => XS.tswIn X.here hx rfl rfl hd rfl (o := o) ?_ ?_ (h2 o (List.mem_of_getElem? ho)) rfl hr⟩
      · have := (List.getElem?_eq_some_iff.mp ho).1
        omega
      · have e : (x.toInt - lo).toNat = n := by omega
        rw [e, ← Array.getElem?_toList]; exact ho
    · refine ⟨_, _, _, _, _, h, hL, hS', rfl, fun target hr => XS.tswOut X.here hx rfl rfl hd rfl ?_ h1 rfl hr⟩
      omega
  case dup =>
    obtain rfl : len = 1 := by simpa [chk, ilen] using hchk
    obtain ⟨v, S', rfl, hv, h⟩ := dup_some h
    cases St with
    | nil => exact hS.elim
    | cons x St' =>
      obtain ⟨h1, h2⟩ := hS
      exact ⟨_, _, _, _, _, h, hL, SR.cv h1 (SR.cv h1 h2), rfl, fun target hr => XS.dup X.here hx rfl hd rfl (h1.cat hv) hr⟩
  case pop =>
    obtain rfl : len = 1 := by simpa [chk, ilen] using hchk
    obtain ⟨v, S', rfl, hv, h⟩ := pop_some h
    cases St with
    | nil => exact hS.elim
    | cons x St' =>
      obtain ⟨h1, h2⟩ := hS
      exact ⟨_, _, _, _, _, h, hL, h2, rfl, fun target hr => XT.pop X.here hx rfl hd rfl (h1.cat hv) hr⟩
  case dup2 =>
    obtain rfl : len = 1 := by simpa [chk, ilen] using hchk
    rcases dup2_some h with ⟨z, S', rfl, h⟩ | ⟨u, v, S', rfl, hu, hv, h⟩
    · obtain ⟨y, St', rfl, hy, hS'⟩ := SR.l1 hS
      exact ⟨_, _, _, _, _, h, hL, SR.cj hy (SR.cj hy hS'), rfl, fun target hr => XT.dup2L X.here hx rfl hd rfl hr⟩
    · match St, hS with
      | x :: y :: St', ⟨h1, h2, h3⟩ => exact ⟨_, _, _, _, _, h, hL, SR.cv h1 (SR.cv h2 (SR.cv h1 (SR.cv h2 h3))), rfl, fun target hr => XT.dup2 X.here hx rfl hd rfl (h1.cat hu) (h2.cat hv) hr⟩
  all_goals cases h
end Jvm.OwnMini
namespace Jvm.OwnMini
open Jvm Jvm.ClassFile Sem Op Lib Jvm.Free Jvm.Stand Jvm.LawKit Jvm.RoadKit
/-! How an object of the small machine lies in the JVM's heap. -/
def rty : Nat → Option FieldType
  | 1 => some .int
  | 2 => some .boolean
  | 4 => some .long
  | _ => none
def kty : Nat → FieldType
  | 2 => .boolean
  | 3 => .byte
  | 4 => .long
  | _ => .int
def EV (kd : Nat) (v : Value) (z : Int) : Prop := (kd = 4 ∧ ∃ x : Int64, v = .long x ∧ x.toInt = z) ∨ (kd ≠ 4 ∧ ∃ x : Int32, v = .int x ∧ x.toInt = z)
def AOK (Z : State) (h : Heap) (a : Addr) (kd : Nat) (n : Int) (f : Int → Int) : Prop := ∃ c : Cell, Arr Z h a c (kty kd) ∧ (c.slots.size : Int) = n ∧ ∀ i : Nat, i < c.slots.size → ∃ v, c.slots[i]? = some v ∧ EV kd v (f i)
abbrev FK := Int → Option (Nat × Nat × Bool)
abbrev FN := Int → String × String
def RepO (P : PT) (C : String) (fnm : FN) (fkd : FK) (Z : State) (h : Heap) (A : Nat → Addr) (n0 t : Nat) (m : OMem) : Prop :=
  Exa Z h (A 0) C ∧ n0 ≤ A 0 ∧
  (∀ f kd j fin, fkd f = some (kd, j, fin) → ∃ v, Fld Z h (A 0) C (fnm f).1 (fnm f).2 v ∧ (kd = 0 → j ≤ t / 2 → v = .ref (A j)) ∧ (kd ≠ 0 → EV kd v (m 0 f))) ∧
  (∀ j, 1 ≤ j → j ≤ (t + 1) / 2 → n0 ≤ A j ∧ ∃ kd n, play P j = some (kd, n) ∧ AOK Z h (A j) kd n (m j)) ∧
  (∀ j j', j ≤ (t + 1) / 2 → j' ≤ (t + 1) / 2 → A j = A j' → j = j') ∧
  (∀ j, (t + 1) / 2 < j → ∀ i, m j i = 0)
def psum (P : PT) : Nat → Nat
  | 0 => 0
  | j + 1 => psum P j + (match play P (j + 1) with | some (_, n) => n.toNat | none => 0)
def fty (P : PT) (kd j : Nat) : FieldType := match kd with
  | 0 => .array (match play P j with | some (k, _) => kty k | none => .int)
  | k => kty k
def TabP (P : PT) (C : String) (fnm : FN) (fkd : FK) (nm : Nat → MethodName) (bys : Nat → ByteArray) (nA nf : Nat) (a0 : Array Value) (Z : State) : Prop :=
  (∀ q pc i len, pcode P q pc = some (i, len) → decode (bys q) pc = .ok (i, len) ∧ chk pc i len = true) ∧
  (∀ x f kd j fin, pfld P x = some (f, kd, j, fin) → (Jvm.Cond.fieldLink C x C (fnm f).1 (fnm f).2).before a0 Z = true ∧ fkd f = some (kd, j, fin)) ∧
  (∀ f kd j fin, fkd f = some (kd, j, fin) → ((fin = false ∧ (Jvm.Cond.lays C C (fnm f).1 (fnm f).2).before a0 Z = true) ∨ (fin = true ∧ (Jvm.Cond.laysFinal C C (fnm f).1 (fnm f).2).before a0 Z = true)) ∧ parseFieldDescriptor (fnm f).2 = some (fty P kd j) ∧ (kd = 0 → 1 ≤ j) ∧ kd ≤ 4) ∧
  (∀ f f' x x', fkd f = some x → fkd f' = some x' → f ≠ f' → (fnm f).1 ≠ (fnm f').1) ∧
  (∀ f f' j fin fin', fkd f = some (0, j, fin) → fkd f' = some (0, j, fin') → f = f') ∧
  (∀ j kd n, play P j = some (kd, n) → 1 ≤ j ∧ j ≤ nA ∧ 0 ≤ n ∧ n ≤ 60000000 ∧ (kd = 1 ∨ kd = 2 ∨ kd = 3 ∨ kd = 4) ∧ (Jvm.Cond.arrayClass (kty kd)).before a0 Z = true) ∧
  ((∀ x z, pcst P x = some (.inl z) → ∃ v : Int32, (Jvm.Cond.constant C x v).before a0 Z = true ∧ v.toInt = z) ∧ (∀ x z, pcst P x = some (.inr (.inl z)) → ∃ v : Int64, (Jvm.Cond.constantLong C x v).before a0 Z = true ∧ v.toInt = z)) ∧
  (∀ x q, pmth P x = some q → (Jvm.Cond.methodLink C x (nm q)).before a0 Z = true) ∧
  (∀ q ps ml rk fr lc, pinf P q = some (ps, ml, rk, fr, lc) → (nm q).cls = C ∧ (Jvm.Cond.instanceMethod (nm q)).before a0 Z = true ∧ (Jvm.Cond.code (nm q) (bys q) ml (rty rk)).before a0 Z = true ∧
    (q ≠ 0 → (Jvm.Cond.privateMethod (nm q)).before a0 Z = true ∨ ((Jvm.Cond.declares (nm q)).before a0 Z = true ∧ (Jvm.Cond.selects C (nm q) (nm q)).before a0 Z = true)) ∧ ∃ params, parseMethodDescriptor (nm q).desc = some ⟨params, rty rk⟩ ∧ params.length = ps.length) ∧
  (∀ x, pobi P x = true → (Jvm.Cond.methodLink C x Lib.objectInit).before a0 Z = true) ∧
  ((Jvm.Cond.instanceMethod Lib.objectInit).before a0 Z = true ∧ (Jvm.Cond.code Lib.objectInit ⟨#[0xb1]⟩ 1 none).before a0 Z = true) ∧
  (Jvm.Cond.instantiable C nf).before a0 Z = true ∧ (Jvm.Cond.initialized C).before a0 Z = true ∧ plainName C = true ∧ (C ≠ "java/lang/invoke/MethodHandle" ∧ C ≠ "java/lang/invoke/VarHandle") ∧ (nm 0).name = "<init>" ∧
  (∀ ps ml rk fr lc, pinf P 0 = some (ps, ml, rk, fr, lc) → rk = 0)
section Rep
variable {P : PT} {C : String} {fnm : FN} {fkd : FK} {nm : Nat → MethodName} {bys : Nat → ByteArray} {nA nf : Nat} {a0 : Array Value} {Z : State} {h h' : Heap} {A : Nat → Addr} {n0 t : Nat} {m : OMem}
theorem TabP.laid (HT : TabP P C fnm fkd nm bys nA nf a0 Z) {f : Int} {kd j : Nat} {fin : Bool} (hf : fkd f = some (kd, j, fin)) : Laid Z a0 C C (fnm f).1 (fnm f).2 := by
  obtain ⟨-, -, h3, -⟩ := HT
  rcases (h3 f kd j fin hf).1 with q | q
  · exact Or.inl q.2
  · exact Or.inr q.2
theorem TabP.slot (HT : TabP P C fnm fkd nm bys nA nf a0 Z) {f f' : Int} {x x' : Nat × Nat × Bool} (hf : fkd f = some x) (hf' : fkd f' = some x') (hne : f ≠ f') : RoadKit.slotOf Z C (fnm f).1 (fnm f).2 ≠ RoadKit.slotOf Z C (fnm f').1 (fnm f').2 := by
  obtain ⟨kd, j, fin⟩ := x
  obtain ⟨kd', j', fin'⟩ := x'
  have L1 := HT.laid hf
  have L2 := HT.laid hf'
  obtain ⟨-, -, h3, h4, -⟩ := HT
  exact slot_ne L1 L2 (h4 f f' _ _ hf hf' hne) (h3 f _ _ _ hf).2.1 (h3 f' _ _ _ hf').2.1
theorem RepO.ext (hR : RepO P C fnm fkd Z h A n0 t m) (E : Ext h h') : RepO P C fnm fkd Z h' A n0 t m := by
  obtain ⟨r1, r2, r3, r4, r5, r6⟩ := hR
  refine ⟨r1.ext E, r2, fun f kd j fin hf => ?_, fun j h1 h2 => ?_, r5, r6⟩
  · obtain ⟨v, q1, q2⟩ := r3 f kd j fin hf
    exact ⟨v, q1.ext E, q2⟩
  · obtain ⟨g1, kd, n, g2, c, g3, g4⟩ := r4 j h1 h2
    exact ⟨g1, kd, n, g2, c, g3.ext E, g4⟩
/-- the heap may change where the object isn't -/
theorem RepO.keep (hR : RepO P C fnm fkd Z h A n0 t m) (hk : ∀ a c, h[a]? = some c → (∃ j, j ≤ (t + 1) / 2 ∧ a = A j) → h'[a]? = some c) : RepO P C fnm fkd Z h' A n0 t m := by
  obtain ⟨r1, r2, r3, r4, r5, r6⟩ := hR
  refine ⟨?_, r2, fun f kd j fin hf => ?_, fun j h1 h2 => ?_, r5, r6⟩
  · obtain ⟨cell, k, q, r⟩ := r1
    exact ⟨cell, k, hk _ _ q ⟨0, by omega, rfl⟩, r⟩
  · obtain ⟨v, ⟨cell, cf, k, i, ff, q, r⟩, q2⟩ := r3 f kd j fin hf
    exact ⟨v, ⟨cell, cf, k, i, ff, hk _ _ q ⟨0, by omega, rfl⟩, r⟩, q2⟩
  · obtain ⟨g1, kd, n, g2, c, g3, g4⟩ := r4 j h1 h2
    exact ⟨g1, kd, n, g2, c, ⟨hk _ _ g3.1 ⟨j, h2, rfl⟩, g3.2⟩, g4⟩
theorem sto_ne {k k' : Nat} {i z : Int} (hk : k' ≠ k) : sto m k i z k' = m k' := by
  funext i'
  unfold sto
  rw [if_neg (fun q => hk q.1)]
theorem RepO.wrF (HT : TabP P C fnm fkd nm bys nA nf a0 Z) (hR : RepO P C fnm fkd Z h A n0 t m) {f : Int} {kd j : Nat} {fin : Bool} (hf : fkd f = some (kd, j, fin)) (hkd : kd ≠ 0) {v : Value} {z : Int} (hv : EV kd v z)
    (W : Wr h h' (A 0) (RoadKit.slotOf Z C (fnm f).1 (fnm f).2) v) : RepO P C fnm fkd Z h' A n0 t (sto m 0 f z) := by
  obtain ⟨r1, r2, r3, r4, r5, r6⟩ := hR
  refine ⟨r1.wr W, r2, fun f' kd' j' fin' hf' => ?_, fun j' h1 h2 => ?_, r5, fun j' hj' i => ?_⟩
  · obtain ⟨v', q1, q2, q3⟩ := r3 f' kd' j' fin' hf'
    by_cases e : f' = f
    · subst e
      cases hf.symm.trans hf'
      exact ⟨v, q1.same W, fun q => absurd q hkd, fun _ => by simpa [sto] using hv⟩
    · refine ⟨v', q1.other W (Or.inr (HT.slot hf' hf e)), q2, fun q => ?_⟩
      have : sto m 0 f z 0 f' = m 0 f' := by unfold sto; rw [if_neg (fun q => e q.2)]
      rw [this]; exact q3 q
  · obtain ⟨g1, kd', n, g2, c, g3, g4⟩ := r4 j' h1 h2
    rw [sto_ne (by omega)]
    exact ⟨g1, kd', n, g2, c, g3.other W (fun q => by have := r5 j' 0 h2 (by omega) q; omega), g4⟩
  · rw [sto_ne (by omega)]; exact r6 j' hj' i
theorem RepO.wrP (HT : TabP P C fnm fkd nm bys nA nf a0 Z) (hR : RepO P C fnm fkd Z h A n0 t m) {f : Int} {j : Nat} {fin : Bool} (hf : fkd f = some (0, j, fin)) (ht : t + 1 = 2 * j)
    (W : Wr h h' (A 0) (RoadKit.slotOf Z C (fnm f).1 (fnm f).2) (.ref (A j))) : RepO P C fnm fkd Z h' A n0 (t + 1) m := by
  obtain ⟨r1, r2, r3, r4, r5, r6⟩ := hR
  have e1 : (t + 1 + 1) / 2 = (t + 1) / 2 := by omega
  refine ⟨r1.wr W, r2, fun f' kd' j' fin' hf' => ?_, fun j' h1 h2 => ?_, by rw [e1]; exact r5, by rw [e1]; exact r6⟩
  · obtain ⟨v', q1, q2, q3⟩ := r3 f' kd' j' fin' hf'
    by_cases e : f' = f
    · subst e
      cases hf.symm.trans hf'
      exact ⟨_, q1.same W, fun _ _ => rfl, fun q => absurd rfl q⟩
    · refine ⟨v', q1.other W (Or.inr (HT.slot hf' hf e)), fun q1 q2' => q2 q1 ?_, q3⟩
      have hne : j' ≠ j := fun q => by
        subst q1 q
        obtain ⟨-, -, -, -, h5, -⟩ := HT
        exact e (h5 f' f j' fin' fin hf' hf)
      omega
  · rw [e1] at h2
    obtain ⟨g1, kd', n, g2, c, g3, g4⟩ := r4 j' h1 h2
    exact ⟨g1, kd', n, g2, c, g3.other W (fun q => by have := r5 j' 0 h2 (by omega) q; omega), g4⟩
theorem RepO.wrA (hR : RepO P C fnm fkd Z h A n0 t m) {j : Nat} (h1 : 1 ≤ j) (h2 : j ≤ (t + 1) / 2) {i : Nat} {v : Value} {z : Int} {kd : Nat} {n : Int} (hl : play P j = some (kd, n)) (hv : EV kd v z)
    (W : Wr h h' (A j) i v) : RepO P C fnm fkd Z h' A n0 t (sto m j i z) := by
  obtain ⟨r1, r2, r3, r4, r5, r6⟩ := hR
  refine ⟨r1.wr W, r2, fun f' kd' j' fin' hf' => ?_, fun j' g1 g2 => ?_, r5, fun j' hj' i' => ?_⟩
  · obtain ⟨v', q1, q2, q3⟩ := r3 f' kd' j' fin' hf'
    refine ⟨v', q1.other W (Or.inl fun q => by have := r5 0 j (by omega) h2 q; omega), q2, fun q => ?_⟩
    rw [sto_ne (by omega)]; exact q3 q
  · obtain ⟨k1, kd', n', k2, c, k3, k4, k5⟩ := r4 j' g1 g2
    by_cases e : j' = j
    · subst e
      cases hl.symm.trans k2
      refine ⟨k1, kd, n, hl, c.setSlot i v, k3.same W, by rw [sz_set]; exact k4, fun i' hi' => ?_⟩
      rw [sz_set] at hi'
      by_cases ei : i' = i
      · subst ei
        exact ⟨v, by simp [Cell.setSlot, hi'], by simpa [sto] using hv⟩
      · obtain ⟨w, w1, w2⟩ := k5 i' hi'
        refine ⟨w, ?_, ?_⟩
        · show (c.slots.setIfInBounds i v)[i']? = _
          rw [Array.getElem?_setIfInBounds_ne (fun q => ei q.symm)]; exact w1
        · have : sto m j' i z j' i' = m j' i' := by unfold sto; rw [if_neg (fun q => ei (by have := q.2; omega))]
          rw [this]; exact w2
    · rw [sto_ne e]
      exact ⟨k1, kd', n', k2, c, k3.other W (fun q => e (r5 j' j g2 h2 q)), k4, k5⟩
  · rw [sto_ne (by omega)]; exact r6 j' hj' i'
theorem RepO.lt (hR : RepO P C fnm fkd Z h A n0 t m) {j : Nat} (hj : j ≤ (t + 1) / 2) : A j < h.size := by
  obtain ⟨r1, r2, r3, r4, r5, r6⟩ := hR
  by_cases e : j = 0
  · subst e; exact r1.lt
  · obtain ⟨k1, kd', n', k2, c, k3, -⟩ := r4 j (by omega) hj
    exact k3.lt
def updA (A : Nat → Addr) (j : Nat) (a : Addr) : Nat → Addr := fun i => if i = j then a else A i
theorem updA_ne {j i : Nat} {a : Addr} (h : i ≠ j) : updA A j a i = A i := by unfold updA; rw [if_neg h]
theorem updA_eq {j : Nat} {a : Addr} : updA A j a j = a := by unfold updA; rw [if_pos rfl]
theorem RepO.new (hR : RepO P C fnm fkd Z h A n0 t m) (ht : t % 2 = 0) (hn : n0 ≤ h.size) {kd : Nat} {n : Int} (hl : play P (t / 2 + 1) = some (kd, n)) (hkd : kd = 1 ∨ kd = 2 ∨ kd = 3 ∨ kd = 4) (E : Ext h h') {x : Int32} (hx : x.toInt = n) (hx0 : 0 ≤ n) {cA : ClassId}
    (hA : Arr Z h' h.size (newA cA (kty kd) x) (kty kd)) : RepO P C fnm fkd Z h' (updA A (t / 2 + 1) h.size) n0 (t + 1) m := by
  have hlt := fun j (hj : j ≤ (t + 1) / 2) => hR.lt hj
  obtain ⟨r1, r2, r3, r4, r5, r6⟩ := hR
  have e0 : updA A (t / 2 + 1) h.size 0 = A 0 := updA_ne (by omega)
  refine ⟨by rw [e0]; exact r1.ext E, by rw [e0]; exact r2, fun f kd j fin hf => ?_, fun j h1 h2 => ?_, fun j j' h1 h2 hq => ?_, fun j hj => r6 j (by omega)⟩
  · rw [e0]
    obtain ⟨v, q1, q2, q3⟩ := r3 f kd j fin hf
    refine ⟨v, q1.ext E, fun q4 q5 => ?_, q3⟩
    rw [q2 q4 (by omega), updA_ne (by omega)]
  · by_cases e : j = t / 2 + 1
    · subst e
      rw [updA_eq]
      have sz : (newA cA (kty kd) x).slots.size = x.toNatClampNeg := sz_new cA (kty kd) x
      have hc : (x.toNatClampNeg : Int) = n := by simp only [Int32.toNatClampNeg]; omega
      refine ⟨hn, kd, n, hl, _, hA, by rw [sz]; exact hc, fun i hi => ⟨defaultValue (kty kd), ?_, ?_⟩⟩
      · rw [sz] at hi
        show (Array.replicate x.toNatClampNeg (defaultValue (kty kd)))[i]? = _
        simp [hi]
      · rw [r6 (t / 2 + 1) (by omega)]
        rcases hkd with rfl | rfl | rfl | rfl
        · exact Or.inr ⟨by decide, 0, rfl, rfl⟩
        · exact Or.inr ⟨by decide, 0, rfl, rfl⟩
        · exact Or.inr ⟨by decide, 0, rfl, rfl⟩
        · exact Or.inl ⟨rfl, 0, rfl, rfl⟩
    · rw [updA_ne e]
      obtain ⟨g1, kd, n, g2, c, g3, g4⟩ := r4 j h1 (by omega)
      exact ⟨g1, kd, n, g2, c, g3.ext E, g4⟩
  · by_cases e : j = t / 2 + 1
    · by_cases e' : j' = t / 2 + 1
      · omega
      · subst e
        rw [updA_eq, updA_ne e'] at hq
        exact (Nat.ne_of_gt (hlt j' (by omega)) hq).elim
    · by_cases e' : j' = t / 2 + 1
      · subst e'
        rw [updA_eq, updA_ne e] at hq
        exact (Nat.ne_of_lt (hlt j (by omega)) hq).elim
      · rw [updA_ne e, updA_ne e'] at hq
        exact r5 j j' (by omega) (by omega) hq
/-- nothing but the object's own cells has changed -/
def Sam (h h' : Heap) (A : Nat → Addr) (b : Nat) : Prop := h.size ≤ h'.size ∧ ∀ (a : Addr) (c : Cell), h[a]? = some c → (∀ j, j ≤ b → a ≠ A j) → h'[a]? = some c
theorem Sam.refl (h : Heap) (A : Nat → Addr) (b : Nat) : Sam h h A b := ⟨Nat.le_refl _, fun _ _ q _ => q⟩
theorem Sam.ext (E : Ext h h') (b : Nat) : Sam h h' A b := ⟨E.1, fun a c q _ => E.2 a c q⟩
theorem Sam.wr {j i b : Nat} {v : Value} (W : Wr h h' (A j) i v) (hj : j ≤ b) : Sam h h' A b := by
  refine ⟨by rw [W.size]; exact Nat.le_refl _, fun a c q hq => ?_⟩
  obtain ⟨cell, -, -, -, rfl⟩ := W
  rw [Array.getElem?_setIfInBounds_ne (fun e => hq j hj e.symm)]; exact q
theorem Sam.trans {h1 : Heap} {A1 : Nat → Addr} {b b1 : Nat} (S1 : Sam h h1 A b) (S2 : Sam h1 h' A1 b1) (hA : ∀ j, j ≤ b → A1 j = A j) (hn : ∀ j, b < j → j ≤ b1 → h.size ≤ A1 j) : Sam h h' A b := by
  refine ⟨Nat.le_trans S1.1 S2.1, fun a c q hq => S2.2 a c (S1.2 a c q hq) fun j hj e => ?_⟩
  by_cases hb : j ≤ b
  · exact hq j hb (by rw [e, hA j hb])
  · have h1 := (Array.getElem?_eq_some_iff.mp q).1
    exact Nat.not_lt.mpr (hn j (by omega) hj) (e ▸ h1)
end Rep
/-! entering a method -/
theorem lget_append_none : ∀ (L : OLs) (n k : Nat) {v : OV}, lget (L ++ List.replicate n none) k = some v → lget L k = some v
  | [], n, k, v, h => by
    exfalso
    simp only [List.nil_append] at h
    induction n generalizing k with
    | zero => simp [lget] at h
    | succ n ih =>
      cases k with
      | zero => simp [List.replicate_succ, lget] at h
      | succ k => exact ih k (by simpa [List.replicate_succ, lget] using h)
  | x :: xs, n, 0, v, h => h
  | x :: xs, n, k + 1, v, h => lget_append_none xs n k h
theorem laid_rel {A : Nat → Addr} {b : Nat} : ∀ {as : List OV} {vs : List Value}, SR A b as vs → (laid as).length = (Jvm.Sym.laidSlots vs).length ∧ (∀ k v, lget (laid as) k = some v → ∃ x, (Jvm.Sym.laidSlots vs)[k]? = some (.val x) ∧ VR A b v x) ∧
    (∀ k, (Jvm.Sym.laidSlots vs)[k]? = some .second → ∃ j v, k = j + 1 ∧ (Jvm.Sym.laidSlots vs)[j]? = some (.val v) ∧ v.category = 2) ∧ (∀ k v, (Jvm.Sym.laidSlots vs)[k]? = some (.val v) → v.category = 2 → (Jvm.Sym.laidSlots vs)[k + 1]? = some .second)
  | [], [], _ => ⟨rfl, fun k v h => by simp [laid, lget] at h, fun k h => by simp [Jvm.Sym.laidSlots] at h, fun k v h => by simp [Jvm.Sym.laidSlots] at h⟩
  | a :: as, x :: xs, ⟨h1, h2⟩ => by
    obtain ⟨g1, g2, g3, g4⟩ := laid_rel h2
    by_cases hc : mcat a = 2
    · have hx : x.category = 2 := by rw [h1.cats]; exact hc
      have e1 : Jvm.Sym.laidSlots (x :: xs) = .val x :: .second :: Jvm.Sym.laidSlots xs := by simp [Jvm.Sym.laidSlots, hx]
      have e2 : laid (a :: as) = some a :: none :: laid as := by
        rcases a with z | z | z
        · cases hc
        · rfl
        · cases hc
      rw [e1, e2]
      refine ⟨by simp [g1], fun k v hk => ?_, fun k hk => ?_, fun k v hk hv => ?_⟩
      · match k, hk with
        | 0, hk => cases hk; exact ⟨x, rfl, h1⟩
        | 1, hk => cases hk
        | k + 2, hk => exact g2 k v hk
      · match k, hk with
        | 0, hk => cases hk
        | 1, hk => exact ⟨0, x, rfl, rfl, hx⟩
        | k + 2, hk =>
          obtain ⟨j, v, rfl, q1, q2⟩ := g3 k hk
          exact ⟨j + 2, v, rfl, q1, q2⟩
      · match k, hk with
        | 0, hk => rfl
        | 1, hk => cases hk
        | k + 2, hk => exact g4 k v hk hv
    · have hx : ¬ x.category = 2 := by rw [h1.cats]; exact hc
      have e1 : Jvm.Sym.laidSlots (x :: xs) = .val x :: Jvm.Sym.laidSlots xs := by simp [Jvm.Sym.laidSlots, hx]
      have e2 : laid (a :: as) = some a :: laid as := by
        rcases a with z | z | z
        · rfl
        · exact absurd rfl hc
        · rfl
      rw [e1, e2]
      refine ⟨by simp [g1], fun k v hk => ?_, fun k hk => ?_, fun k v hk hv => ?_⟩
      · match k, hk with
        | 0, hk => cases hk; exact ⟨x, rfl, h1⟩
        | k + 1, hk => exact g2 k v hk
      · match k, hk with
        | 0, hk => cases hk
        | k + 1, hk =>
          obtain ⟨j, v, rfl, q1, q2⟩ := g3 k hk
          exact ⟨j + 1, v, rfl, q1, q2⟩
      · match k, hk with
        | 0, hk => cases hk; exact absurd hv hx
        | k + 1, hk => exact g4 k v hk hv
theorem entry_rel {A : Nat → Addr} {b n : Nat} {as : List OV} {vs : List Value} (h : SR A b as vs) : LR A b (initL as n) (argsToLocals vs.toArray n) := by
  obtain ⟨g1, g2, g3, g4⟩ := laid_rel h
  have e : (argsToLocals vs.toArray n).toList = Jvm.Sym.laidSlots vs ++ List.replicate (n - (Jvm.Sym.laidSlots vs).length) Slot.unset := Jvm.Sym.argsToLocals_toList _ _
  have ge : ∀ k, (argsToLocals vs.toArray n)[k]? = (Jvm.Sym.laidSlots vs ++ List.replicate (n - (Jvm.Sym.laidSlots vs).length) Slot.unset)[k]? := fun k => by rw [← e, Array.getElem?_toList]
  have up : ∀ k s, (Jvm.Sym.laidSlots vs)[k]? = some s → (argsToLocals vs.toArray n)[k]? = some s := fun k s q => by
    rw [ge, List.getElem?_append_left (List.getElem?_eq_some_iff.mp q).1]; exact q
  have down : ∀ k s, (argsToLocals vs.toArray n)[k]? = some s → s ≠ Slot.unset → (Jvm.Sym.laidSlots vs)[k]? = some s := fun k s q hs => by
    rw [ge, List.getElem?_append] at q
    split at q
    · exact q
    · rw [List.getElem?_replicate] at q
      split at q
      · exact absurd (Option.some.inj q).symm hs
      · cases q
  refine ⟨?_, fun k v hk => ?_, fun k hk => ?_, fun k v hk hv => ?_⟩
  · rw [← Array.length_toList, e]
    simp [initL, g1]
  · obtain ⟨x, q1, q2⟩ := g2 k v (lget_append_none _ _ _ hk)
    exact ⟨x, up _ _ q1, q2⟩
  · obtain ⟨j, v, q1, q2, q3⟩ := g3 k (down k _ hk (by intro q; cases q))
    exact ⟨j, v, q1, up _ _ q2, q3⟩
  · exact up _ _ (g4 k v (down k _ hk (by intro q; cases q)) hv)
theorem popA_rel {A : Nat → Addr} {b : Nat} : ∀ {ts : List Bool} {S : List OV} {acc as : List OV} {S' : List OV} {St : List Value}, popA ts S acc = some (as, S') → SR A b S St →
    ∃ B St', (∀ A' b' X, SR A' b' acc X → SR A' b' as (B ++ X)) ∧ SR A b S' St' ∧ St = B.reverse ++ St' ∧ B.length = ts.length
  | [], S, acc, as, S', St, h, hS => by
    cases h
    exact ⟨[], St, fun _ _ _ hX => hX, hS, rfl, rfl⟩
  | false :: ts, .inl z :: S, acc, as, S', St, h, hS => by
    obtain ⟨y, St1, rfl, hy, hS1⟩ := SR.i1 hS
    obtain ⟨B, St', q1, q2, q3, q4⟩ := popA_rel (ts := ts) h hS1
    exact ⟨B ++ [.int y], St', fun A' b' X hX => by simpa using q1 A' b' (.int y :: X) ⟨⟨y, rfl, hy⟩, hX⟩, q2, by simp [q3], by simp [q4]⟩
  | true :: ts, .inr (.inl z) :: S, acc, as, S', St, h, hS => by
    obtain ⟨y, St1, rfl, hy, hS1⟩ := SR.l1 hS
    obtain ⟨B, St', q1, q2, q3, q4⟩ := popA_rel (ts := ts) h hS1
    exact ⟨B ++ [.long y], St', fun A' b' X hX => by simpa using q1 A' b' (.long y :: X) ⟨⟨y, rfl, hy⟩, hX⟩, q2, by simp [q3], by simp [q4]⟩
end Jvm.OwnMini
namespace Jvm.OwnMini
open Jvm Jvm.ClassFile Sem Op Lib Jvm.Free Jvm.Stand Jvm.LawKit Jvm.RoadKit
theorem retI' {p : Program} {l : Launch} {e : Env} {R : Room} {s : State} {m : MethodId} {args : Array Value} {below : List Frame} {meth : Method} {c : Code} {T : State} {locs : List Loc} {cells slots : Nat} (X : Stand p l e R s m args below meth c T locs cells slots) (hx : p.tables.exec = Jvm.exec) {pc : Nat} {Ls : Array Slot} {z : Int32} {rest : List Value} (hret : meth.sig.returnType = some .int) (hd : decode c.code pc = .ok (.ireturn, 1)) {fs : List Frame}
    (hl : ∀ (f : JFrame) (acts : List Action), f.method = m → f.locked = none → f.entered = [] → (doReturn e (T.setTop f) acts (some (.int z))).1 = T.setFrames fs) : Steps p.tables e below (T.setTop (mkF m pc Ls (.int z :: rest))) (T.setFrames fs) :=
  retOut X hx hret rfl (Or.inl ⟨rfl, Or.inl rfl, z, rfl⟩) hd hl
def RVl : Option OV → Option Value → Prop
  | none, v => v = none
  | some (.inl z), v => ∃ x : Int32, v = some (.int x) ∧ x.toInt = z
  | some (.inr (.inl z)), v => ∃ x : Int64, v = some (.long x) ∧ x.toInt = z
  | some (.inr (.inr _)), _ => False
theorem RVl.push {A : Nat → Addr} {b : Nat} {r : Option OV} {v : Option Value} (h : RVl r v) {S : List OV} {St : List Value} (hS : SR A b S St) : SR A b (pushR r S) (v.toList ++ St) := by
  rcases r with _ | z | z | z
  · cases h; exact hS
  · obtain ⟨x, rfl, e⟩ := h; exact ⟨⟨x, rfl, e⟩, hS⟩
  · obtain ⟨x, rfl, e⟩ := h; exact ⟨⟨x, rfl, e⟩, hS⟩
  · exact h.elim
/-- from where the walk stands it comes to its end -/
def EndP (P : PT) (C : String) (fnm : FN) (fkd : FK) (Z : State) (nA : Nat) (p : Program) (l : Launch) (e : Env) (R : Room) (s : State) (mi : MethodId) (args : Array Value) (below : List Frame) (meth : Method) (c : Code) (n0 q : Nat)
    (T : State) (A : Nat → Addr) (t : Nat) (locs : List Loc) (cells slots : Nat) (f0 : JFrame) (r : Option OV) (t' : Nat) (m' : OMem) : Prop :=
  ∃ (v : Option Value) (T' : State) (A' : Nat → Addr) (lw : List Loc) (cells' slots' : Nat),
    Stand p l e R s mi args below meth c T' (locs ++ lw) cells' slots' ∧ RepO P C fnm fkd Z T'.heap A' n0 t' m' ∧
    (∀ j, j ≤ (t + 1) / 2 → A' j = A j) ∧ t ≤ t' ∧ (∀ j, (t + 1) / 2 < j → j ≤ (t' + 1) / 2 → T.heap.size ≤ A' j) ∧ Fr n0 lw ∧
    cells' + (nA - (t' + 1) / 2) ≤ cells + (nA - (t + 1) / 2) ∧ slots' + (psum P nA - psum P ((t' + 1) / 2)) ≤ slots + (psum P nA - psum P ((t + 1) / 2)) ∧
    (q ≠ 0 → t' = t ∧ cells' = cells ∧ slots' = slots) ∧ Sam T.heap T'.heap A ((t + 1) / 2) ∧ RVl r v ∧ (meth.sig.returnType = none → v = none) ∧
    ∀ fs, (∀ (f : JFrame) (acts : List Action), f.method = mi → f.locked = none → f.entered = [] → (doReturn e (T'.setTop f) acts v).1 = T'.setFrames fs) → Steps p.tables e below (T.setTop f0) (T'.setFrames fs)
section Sound
variable {P : PT} {C : String} {fnm : FN} {fkd : FK} {nm : Nat → MethodName} {bys : Nat → ByteArray} {nA nf : Nat} {a0 : Array Value} {Z : State}
variable {p : Program} {l : Launch} {e : Env} {R : Room} {s : State} {mi : MethodId} {args : Array Value} {below : List Frame} {meth : Method} {c : Code} {n0 q : Nat}
theorem EndP.trans {T T1 : State} {A A1 : Nat → Addr} {t t1 : Nat} {locs l1 : List Loc} {cells slots cells1 slots1 : Nat} {f0 f1 : JFrame} {r : Option OV} {t' : Nat} {m' : OMem}
    (E : EndP P C fnm fkd Z nA p l e R s mi args below meth c n0 q T1 A1 t1 (locs ++ l1) cells1 slots1 f1 r t' m') (hA : ∀ j, j ≤ (t + 1) / 2 → A1 j = A j) (ht : t ≤ t1) (hn : ∀ j, (t + 1) / 2 < j → j ≤ (t1 + 1) / 2 → T.heap.size ≤ A1 j) (hF : Fr n0 l1)
    (hc : cells1 + (nA - (t1 + 1) / 2) ≤ cells + (nA - (t + 1) / 2)) (hs : slots1 + (psum P nA - psum P ((t1 + 1) / 2)) ≤ slots + (psum P nA - psum P ((t + 1) / 2))) (hq : q ≠ 0 → t1 = t ∧ cells1 = cells ∧ slots1 = slots) (hS : Sam T.heap T1.heap A ((t + 1) / 2))
    (st : ∀ target, Steps p.tables e below (T1.setTop f1) target → Steps p.tables e below (T.setTop f0) target) : EndP P C fnm fkd Z nA p l e R s mi args below meth c n0 q T A t locs cells slots f0 r t' m' := by
  obtain ⟨v, T', A', lw, cells', slots', h1, h2, h3, h4, h5, h6, h7, h8, h9, h10, h11, h12, h13⟩ := E
  refine ⟨v, T', A', l1 ++ lw, cells', slots', by rw [← List.append_assoc]; exact h1, h2, fun j hj => (h3 j (by omega)).trans (hA j hj), by omega, fun j g1 g2 => ?_, hF.app h6, by omega, by omega, fun hq' => ?_, hS.trans h10 hA hn, h11, h12, fun fs hfs => st _ (h13 fs hfs)⟩
  · by_cases hj : j ≤ (t1 + 1) / 2
    · rw [h3 j hj]; exact hn j g1 hj
    · exact Nat.le_trans hS.1 (h5 j (by omega) g2)
  · obtain ⟨a1, a2, a3⟩ := hq hq'
    obtain ⟨b1, b2, b3⟩ := h9 hq'
    exact ⟨b1.trans a1, b2.trans a2, b3.trans a3⟩
/-- a step that leaves the heap as it is -/
theorem EndP.still {T T1 : State} {A : Nat → Addr} {t : Nat} {locs : List Loc} {cells slots : Nat} {f0 f1 : JFrame} {r : Option OV} {t' : Nat} {m' : OMem}
    (E : EndP P C fnm fkd Z nA p l e R s mi args below meth c n0 q T1 A t locs cells slots f1 r t' m') (hh : T1.heap = T.heap) (st : ∀ target, Steps p.tables e below (T1.setTop f1) target → Steps p.tables e below (T.setTop f0) target) :
    EndP P C fnm fkd Z nA p l e R s mi args below meth c n0 q T A t locs cells slots f0 r t' m' :=
  EndP.trans (l1 := []) (by rw [List.append_nil]; exact E) (fun _ _ => rfl) (Nat.le_refl _) (fun j h1 h2 => by omega) (Fr.nil _) (Nat.le_refl _) (Nat.le_refl _) (fun _ => ⟨rfl, rfl, rfl⟩) (by rw [hh]; exact Sam.refl _ _ _) st
def SoundAt (P : PT) (C : String) (fnm : FN) (fkd : FK) (bys : Nat → ByteArray) (nA : Nat) (Z : State) (l : Launch) (n : Nat) : Prop :=
  ∀ q pc L S t m r t' m', runP P n q pc L S t m = some (r, t', m') → ∀ ps ml rk fr lc, pinf P q = some (ps, ml, rk, fr, lc) →
  ∀ (p : Program) (e : Env) (R : Room) (s : State) (mi : MethodId) (args : Array Value) (below : List Frame) (meth : Method) (c : Code) (T : State) (locs : List Loc) (cells slots : Nat) (A : Nat → Addr) (Ls : Array Slot) (St : List Value) (n0 : Nat),
    Stand p l e R s mi args below meth c T locs cells slots → p.tables.exec = Jvm.exec → Z.Warmed39 s.vm → s.vm.findClass C = some mi.cls → c.code = bys q → c.maxLocals = ml → meth.sig.returnType = rty rk → (q = 0 → meth.name = "<init>") →
    RepO P C fnm fkd Z T.heap A n0 t m → LR A ((t + 1) / 2) L Ls → SR A ((t + 1) / 2) S St → Ls.size = ml → n0 ≤ T.heap.size → fr ≤ R.frames → lc ≤ R.locals → cells ≤ R.cells → slots ≤ R.slots →
    (q = 0 → cells + (nA - (t + 1) / 2) ≤ R.cells ∧ slots + (psum P nA - psum P ((t + 1) / 2)) ≤ R.slots) →
    EndP P C fnm fkd Z nA p l e R s mi args below meth c n0 q T A t locs cells slots (mkF mi pc Ls St) r t' m'
/-- what a method of the object leaves -/
def QP (P : PT) (C : String) (fnm : FN) (fkd : FK) (Z : State) (n0 q t : Nat) (A : Nat → Addr) (h : Heap) (r : Option OV) (t' : Nat) (m' : OMem) (v : Option Value) (h' : Heap) (L : List Loc) : Prop :=
  ∃ A', RepO P C fnm fkd Z h' A' n0 t' m' ∧ (∀ j, j ≤ (t + 1) / 2 → A' j = A j) ∧ t ≤ t' ∧ (∀ j, (t + 1) / 2 < j → j ≤ (t' + 1) / 2 → h.size ≤ A' j) ∧ Fr n0 L ∧ Sam h h' A ((t + 1) / 2) ∧ RVl r v ∧ (q ≠ 0 → t' = t)
theorem metP (HT : TabP P C fnm fkd nm bys nA nf a0 Z) {n : Nat} (hS : SoundAt P C fnm fkd bys nA Z l n) {ps : List Bool} {ml rk fr lc : Nat} (hq : pinf P q = some (ps, ml, rk, fr, lc)) {as : List OV} {t : Nat} {m : OMem} {r : Option OV} {t' : Nat} {m' : OMem}
    (hrun : runP P n q 0 (initL as ml) [] t m = some (r, t', m')) (hsz : (initL as ml).length ≤ ml) {A : Nat → Addr} {h : Heap} (hn0 : n0 ≤ h.size) (hR : RepO P C fnm fkd Z h A n0 t m) {vals : List Value} (hv : SR A ((t + 1) / 2) as vals) {cl sl : Nat}
    (hcl : q = 0 → nA - (t + 1) / 2 ≤ cl ∧ psum P nA - psum P ((t + 1) / 2) ≤ sl) :
    MetFree l (nm q) (head1 [Jvm.Cond.code (nm q) (bys q) ml (rty rk)] ({ frames := fr, cells := cl, slots := sl, locals := lc } : Room)) (fun a U => a = vals.toArray ∧ Z.Warmed39 U.vm ∧ U.heap = h) (fun _ _ _ _ _ => True)
      (fun _ U o U' => ∃ v L, o = .returned v ∧ QP P C fnm fkd Z n0 q t A h r t' m' v U'.heap L ∧ FrameEnd U o U' L cl sl) := by
  have HT' := HT
  obtain ⟨-, -, -, -, -, -, -, -, hinf, -, -, -, -, hpn, -, hin, -⟩ := HT'
  obtain ⟨hcls, -⟩ := hinf q ps ml rk fr lc hq
  refine MetFree.of_bodySF (plainFor_of_name (by rw [hcls]; exact hpn)) hisR ?_
  intro p e s m' args below meth c s₁ Bd hml0 hP hK
  obtain ⟨rfl, hZ, hh⟩ := hP
  have X0 := Stand.of_body Bd
  have e0 : s₁.heap = h := by rw [← hh, Bd.state]; rfl
  have hown : s.vm.findClass C = some m'.cls := by rw [← hcls]; exact findClass_of_methodNamed Bd.named
  have hnm := (name_of_methodNamed Bd.named Bd.method).1
  have hL := entry_rel (n := ml) hv
  have hz : (argsToLocals vals.toArray ml).size = ml := by
    rw [← hL.1]
    refine Nat.le_antisymm hsz ?_
    simp only [initL, List.length_append, List.length_replicate]; omega
  obtain ⟨v, T', A', lw, cells', slots', h1, h2, h3, h4, h5, h6, h7, h8, h9, h10, h11, h12, h13⟩ := hS q 0 _ [] t m r t' _ hrun ps ml rk fr lc hq p e _ s m' _ below meth c s₁ [] 0 0 A (argsToLocals vals.toArray ml) [] n0 X0 Bd.exec hZ hown Bd.bytes hml0 Bd.returns (fun q0 => by subst q0; exact hnm.trans hin)
    (by rw [e0]; exact hR) hL trivial hz (by rw [e0]; exact hn0) (Nat.le_refl _) (Nat.le_refl _) (Nat.zero_le _) (Nat.zero_le _) (fun q0 => by have := hcl q0; exact ⟨by show 0 + _ ≤ cl; omega, by show 0 + _ ≤ sl; omega⟩)
  rw [e0] at h5 h10
  obtain ⟨fs, hr, hrun', hended, hW, hsame⟩ := h1.leave (v := v) h12
  refine ⟨_, _, h13 fs hr, hrun', hended, v, _, rfl, ⟨A', h2, h3, h4, h5, h6, h10, h11, fun q0 => (h9 q0).1⟩, ⟨_, rfl⟩, hW, hsame.mono ?_ ?_⟩
  · by_cases q0 : q = 0
    · have := (hcl q0).1; omega
    · have := (h9 q0).2.1; omega
  · by_cases q0 : q = 0
    · have := (hcl q0).2; omega
    · have := (h9 q0).2.2; omega
end Sound
end Jvm.OwnMini
namespace Jvm.OwnMini
open Jvm Jvm.ClassFile Sem Op Lib Jvm.Free Jvm.Stand Jvm.LawKit Jvm.RoadKit
section Inv
variable {P : PT} {k : Nat → Nat → OLs → List OV → Nat → OMem → RT} {q pc len t : Nat} {L : OLs} {S : List OV} {m : OMem} {r : Option OV × Nat × OMem}
theorem getfield_some {x : Nat} (h : stepS P k q pc L S t m (.getfield x) len = some r) : ∃ S', S = .inr (.inr 0) :: S' ∧
    ((∃ f j fin, pfld P x = some (f, 0, j, fin) ∧ j ≤ t / 2 ∧ k q (pc + len) L (vr j :: S') t m = some r) ∨ (∃ f kd j fin, pfld P x = some (f, kd, j, fin) ∧ (kd = 1 ∨ kd = 2) ∧ k q (pc + len) L (vi (m 0 f) :: S') t m = some r) ∨ (∃ f j fin, pfld P x = some (f, 4, j, fin) ∧ k q (pc + len) L (vl (m 0 f) :: S') t m = some r)) := by
  simp only [stepS] at h
  split at h
  · refine ⟨_, rfl, ?_⟩
    split at h
    · rename_i f j fin hf
      cases hb : Nat.ble j (t / 2) with
      | false => rw [hb] at h; cases h
      | true => rw [hb] at h; exact Or.inl ⟨f, j, fin, hf, Nat.le_of_ble_eq_true hb, h⟩
    · rename_i f j fin hf; exact Or.inr (Or.inl ⟨f, 1, j, fin, hf, Or.inl rfl, h⟩)
    · rename_i f j fin hf; exact Or.inr (Or.inl ⟨f, 2, j, fin, hf, Or.inr rfl, h⟩)
    · rename_i f j fin hf; exact Or.inr (Or.inr ⟨f, j, fin, hf, h⟩)
    · cases h
  · cases h
theorem cond_some {α : Type} {b : Bool} {x : Option α} {a : α} (h : cond b x none = some a) : b = true ∧ x = some a := by
  cases b
  · cases h
  · exact ⟨rfl, h⟩
theorem putfield_some {x : Nat} (h : stepS P k q pc L S t m (.putfield x) len = some r) :
    (∃ f j fin S', pfld P x = some (f, 0, j, fin) ∧ S = .inr (.inr j) :: .inr (.inr 0) :: S' ∧ t + 1 = 2 * j ∧ q = 0 ∧ k q (pc + len) L S' (t + 1) m = some r) ∨
    (∃ f kd j fin z S', pfld P x = some (f, kd, j, fin) ∧ (kd = 1 ∨ kd = 2) ∧ S = .inl z :: .inr (.inr 0) :: S' ∧ (fin = false ∨ q = 0) ∧ k q (pc + len) L S' t (sto m 0 f (if kd = 2 then z % 2 else z)) = some r) ∨
    (∃ f j fin z S', pfld P x = some (f, 4, j, fin) ∧ S = .inr (.inl z) :: .inr (.inr 0) :: S' ∧ (fin = false ∨ q = 0) ∧ k q (pc + len) L S' t (sto m 0 f z) = some r) := by
  have fq : ∀ {fin : Bool}, (!fin || Nat.beq q 0) = true → fin = false ∨ q = 0 := fun {fin} hh => by
    cases fin
    · exact Or.inl rfl
    · exact Or.inr (Nat.eq_of_beq_eq_true (by simpa using hh))
  simp only [stepS] at h
  split at h
  · rename_i f j fin hf
    split at h
    · rename_i j' S'
      obtain ⟨hb, hh⟩ := cond_some h
      simp only [Bool.and_eq_true] at hb
      obtain ⟨⟨h1, h2⟩, h3⟩ := hb
      cases Nat.eq_of_beq_eq_true h1
      exact Or.inl ⟨f, _, fin, S', hf, rfl, Nat.eq_of_beq_eq_true h2, Nat.eq_of_beq_eq_true h3, hh⟩
    · cases h
  · rename_i f j fin hf
    split at h
    · obtain ⟨hb, h⟩ := cond_some h
      exact Or.inr (Or.inl ⟨f, 1, j, fin, _, _, hf, Or.inl rfl, rfl, fq hb, h⟩)
    · cases h
  · rename_i f j fin hf
    split at h
    · obtain ⟨hb, h⟩ := cond_some h
      exact Or.inr (Or.inl ⟨f, 2, j, fin, _, _, hf, Or.inr rfl, rfl, fq hb, h⟩)
    · cases h
  · rename_i f j fin hf
    split at h
    · obtain ⟨hb, h⟩ := cond_some h
      exact Or.inr (Or.inr ⟨f, j, fin, _, _, hf, rfl, fq hb, h⟩)
    · cases h
  · cases h
theorem ald_some {kd : Nat → Bool} {f : Nat → Int → List OV → RT} (h : ald P kd S t f = some r) : ∃ i j S' k n, S = .inl i :: .inr (.inr j) :: S' ∧ play P j = some (k, n) ∧ kd k = true ∧ j ≤ t / 2 ∧ 0 ≤ i ∧ i < n ∧ f j i S' = some r := by
  simp only [ald] at h
  split at h
  · split at h
    · rename_i hl
      obtain ⟨hb, h⟩ := cond_some h
      simp only [Bool.and_eq_true] at hb
      split at h
      · rename_i hc
        exact ⟨_, _, _, _, _, rfl, hl, hb.1, Nat.le_of_ble_eq_true hb.2, hc.1, hc.2, h⟩
      · cases h
    · cases h
  · cases h
theorem asi_some {kd : Nat → Bool} {f : Nat → Nat → Int → Int → List OV → RT} (h : asi P kd S t f = some r) : ∃ z i j S' k n, S = .inl z :: .inl i :: .inr (.inr j) :: S' ∧ play P j = some (k, n) ∧ kd k = true ∧ j ≤ t / 2 ∧ 0 ≤ i ∧ i < n ∧ f k j i z S' = some r := by
  simp only [asi] at h
  split at h
  · split at h
    · rename_i hl
      obtain ⟨hb, h⟩ := cond_some h
      simp only [Bool.and_eq_true] at hb
      split at h
      · rename_i hc
        exact ⟨_, _, _, _, _, _, rfl, hl, hb.1, Nat.le_of_ble_eq_true hb.2, hc.1, hc.2, h⟩
      · cases h
    · cases h
  · cases h
theorem asl_some {kd : Nat → Bool} {f : Nat → Int → Int → List OV → RT} (h : asl P kd S t f = some r) : ∃ z i j S' k n, S = .inr (.inl z) :: .inl i :: .inr (.inr j) :: S' ∧ play P j = some (k, n) ∧ kd k = true ∧ j ≤ t / 2 ∧ 0 ≤ i ∧ i < n ∧ f j i z S' = some r := by
  simp only [asl] at h
  split at h
  · split at h
    · rename_i hl
      obtain ⟨hb, h⟩ := cond_some h
      simp only [Bool.and_eq_true] at hb
      split at h
      · rename_i hc
        exact ⟨_, _, _, _, _, _, rfl, hl, hb.1, Nat.le_of_ble_eq_true hb.2, hc.1, hc.2, h⟩
      · cases h
    · cases h
  · cases h
theorem arraylength_some (h : stepS P k q pc L S t m .arraylength len = some r) : ∃ j S' kd n, S = .inr (.inr j) :: S' ∧ play P j = some (kd, n) ∧ j ≤ t / 2 ∧ k q (pc + len) L (vi n :: S') t m = some r := by
  simp only [stepS] at h
  split at h
  · split at h
    · rename_i hl
      obtain ⟨hb, h⟩ := cond_some h
      exact ⟨_, _, _, _, rfl, hl, Nat.le_of_ble_eq_true hb, h⟩
    · cases h
  · cases h
theorem newarray_some {a : ArrayType} (h : stepS P k q pc L S t m (.newarray a) len = some r) : ∃ S' kd n, S = .inl n :: S' ∧ play P (t / 2 + 1) = some (kd, n) ∧ t % 2 = 0 ∧ kd = akind a ∧ q = 0 ∧ k q (pc + len) L (vr (t / 2 + 1) :: S') (t + 1) m = some r := by
  simp only [stepS] at h
  split at h
  · split at h
    · rename_i hl
      obtain ⟨hb, hh⟩ := cond_some h
      simp only [Bool.and_eq_true] at hb
      obtain ⟨⟨h1, h2⟩, h3⟩ := hb
      split at hh
      · rename_i hz
        subst hz
        exact ⟨_, _, _, rfl, hl, Nat.eq_of_beq_eq_true h1, Nat.eq_of_beq_eq_true h2, Nat.eq_of_beq_eq_true h3, hh⟩
      · cases hh
    · cases h
  · cases h
theorem invokespecial_some {x : Nat} (h : stepS P k q pc L S t m (.invokespecial x) len = some r) : ∃ S' ps ml rk fr lc, S = .inr (.inr 0) :: S' ∧ pinf P q = some (ps, ml, rk, fr, lc) ∧ pobi P x = true ∧ 1 ≤ fr ∧ cats S' + 12 ≤ lc ∧ k q (pc + len) L S' t m = some r := by
  simp only [stepS] at h
  split at h
  · split at h
    · rename_i hl
      obtain ⟨hb, h⟩ := cond_some h
      simp only [Bool.and_eq_true] at hb
      obtain ⟨⟨h1, h2⟩, h3⟩ := hb
      exact ⟨_, _, _, _, _, _, rfl, hl, h1, Nat.le_of_ble_eq_true h2, Nat.le_of_ble_eq_true h3, h⟩
    · cases h
  · cases h
theorem invokevirtual_some {x : Nat} (h : stepS P k q pc L S t m (.invokevirtual x) len = some r) : ∃ q' ps ml rk fr' lc' ps0 ml0 rk0 fr lc as S' y, pmth P x = some q' ∧ pinf P q' = some (ps, ml, rk, fr', lc') ∧ pinf P q = some (ps0, ml0, rk0, fr, lc) ∧ popA ps S [] = some (as, .inr (.inr 0) :: S') ∧
    fr' + 1 ≤ fr ∧ cats S' + (ml + 11) + lc' ≤ lc ∧ q' ≠ 0 ∧ (initL (vr 0 :: as) ml).length ≤ ml ∧ k q' 0 (initL (vr 0 :: as) ml) [] t m = some y ∧ k q (pc + len) L (pushR y.1 S') y.2.1 y.2.2 = some r := by
  simp only [stepS] at h
  split at h
  · rename_i q' hq'
    split at h
    · rename_i ps ml rk fr' lc' ps0 ml0 rk0 fr lc h1 h2
      split at h
      · rename_i as S' hp
        obtain ⟨hb, h⟩ := cond_some h
        simp only [Bool.and_eq_true] at hb
        obtain ⟨⟨⟨g1, g2⟩, g3⟩, g4⟩ := hb
        obtain ⟨y, h3, h4⟩ := Option.bind_eq_some_iff.mp h
        exact ⟨q', ps, ml, rk, fr', lc', ps0, ml0, rk0, fr, lc, as, S', y, hq', h1, h2, hp, Nat.le_of_ble_eq_true g1, Nat.le_of_ble_eq_true g2, fun e => by subst e; simp at g3, Nat.le_of_ble_eq_true g4, h3, h4⟩
      · cases h
    · cases h
  · cases h
theorem ireturn_some (h : stepS P k q pc L S t m .ireturn len = some r) : ∃ z S' ps ml rk fr lc, S = .inl z :: S' ∧ pinf P q = some (ps, ml, rk, fr, lc) ∧ ((rk = 1 ∧ r = (some (vi z), t, m)) ∨ (rk = 2 ∧ r = (some (vi (z % 2)), t, m))) := by
  simp only [stepS] at h
  split at h
  · split at h
    · rename_i hl; cases h; exact ⟨_, _, _, _, _, _, _, rfl, hl, Or.inl ⟨rfl, rfl⟩⟩
    · rename_i hl; cases h; exact ⟨_, _, _, _, _, _, _, rfl, hl, Or.inr ⟨rfl, rfl⟩⟩
    · cases h
  · cases h
theorem lreturn_some (h : stepS P k q pc L S t m .lreturn len = some r) : ∃ z S' ps ml fr lc, S = .inr (.inl z) :: S' ∧ pinf P q = some (ps, ml, 4, fr, lc) ∧ r = (some (vl z), t, m) := by
  simp only [stepS] at h
  split at h
  · split at h
    · rename_i hl; cases h; exact ⟨_, _, _, _, _, _, rfl, hl, rfl⟩
    · cases h
  · cases h
theorem return_some (h : stepS P k q pc L S t m .return_ len = some r) : ∃ ps ml fr lc, S = [] ∧ pinf P q = some (ps, ml, 0, fr, lc) ∧ r = (none, t, m) := by
  simp only [stepS] at h
  split at h
  · split at h
    · rename_i hl; cases h; exact ⟨_, _, _, _, rfl, hl, rfl⟩
    · cases h
  · cases h
end Inv
end Jvm.OwnMini
namespace Jvm.OwnMini
open Jvm Jvm.ClassFile Sem Op Lib Jvm.Free Jvm.Stand Jvm.LawKit Jvm.RoadKit
theorem kty_akind : ∀ {a : ArrayType} {kd : Nat}, kd = akind a → (kd = 1 ∨ kd = 2 ∨ kd = 3 ∨ kd = 4) → newarray.typeOf a = kty kd := by
  intro a kd h hk
  cases a <;> simp only [akind] at h <;> subst h <;> first | rfl | (rcases hk with q | q | q | q <;> cases q)
theorem idx32 {j : Int32} {n : Nat} (h0 : 0 ≤ j.toInt) (h1 : j.toInt < n) : ¬ (j < 0 ∨ n ≤ j.toNatClampNeg) := by
  simp only [Int32.lt_iff_toInt_lt, Int32.toNatClampNeg, Int32.reduceToInt]; omega
theorem clamp32 {j : Int32} (h0 : 0 ≤ j.toInt) : (j.toNatClampNeg : Int) = j.toInt := by
  simp only [Int32.toNatClampNeg]; omega
theorem EV.int {kd : Nat} {v : Value} {z : Int} (h : EV kd v z) (hk : kd ≠ 4) : ∃ x : Int32, v = .int x ∧ x.toInt = z := by
  rcases h with ⟨q, -⟩ | ⟨-, q⟩
  · exact absurd q hk
  · exact q
theorem EV.long {kd : Nat} {v : Value} {z : Int} (h : EV kd v z) (hk : kd = 4) : ∃ x : Int64, v = .long x ∧ x.toInt = z := by
  rcases h with ⟨-, q⟩ | ⟨q, -⟩
  · exact q
  · exact absurd hk q
theorem psum_mono (P : PT) {a b : Nat} (h : a ≤ b) : psum P a ≤ psum P b := by
  induction h with
  | refl => exact Nat.le_refl _
  | step _ ih => exact Nat.le_trans ih (Nat.le_add_right _ _)
set_option maxHeartbeats 4000000 in
theorem soundP {P : PT} {C : String} {fnm : FN} {fkd : FK} {nm : Nat → MethodName} {bys : Nat → ByteArray} {nA nf : Nat} {a0 : Array Value} {Z : State} (HT : TabP P C fnm fkd nm bys nA nf a0 Z) (l : Launch) : ∀ n, SoundAt P C fnm fkd bys nA Z l n
  | 0 => fun q pc L S t m r t' m' h => by cases h
  | n + 1 => by
    intro q pc L0 S t m r t' m' h ps ml rk fr lc hq p e R s mi args below meth c T locs cells slots A Ls St n0 X hx hZ hown hby hml hret hini hR hL0 hSt hsz hn0 hfr hlc hce hsl hroom
    have IH := soundP HT l n
    have HT' := HT
    obtain ⟨tcode, tfld, tfkd, -, -, tlay, tcst, tmth, tinf, tobi, ⟨tob1, tob2⟩, tins, tini, tpn, thn, tnm, tall⟩ := HT'
    replace h : stepP P (runP P n) q pc L0 S t m = some (r, t', m') := h
    unfold stepP at h
    cases hcd : pcode P q pc with
    | none => rw [hcd] at h; cases h
    | some il =>
      obtain ⟨i, len⟩ := il
      rw [hcd] at h
      replace h : stepI P (runP P n) q pc (mask (pliv P q pc) L0) S t m i len = some (r, t', m') := h
      have hL := hL0.mask (pliv P q pc)
      generalize mask (pliv P q pc) L0 = L at h hL
      obtain ⟨hdec, hchk⟩ := tcode q pc i len hcd
      have hd : decode c.code pc = .ok (i, len) := by rw [hby]; exact hdec
      have hcst : (∀ x z, pcst P x = some (.inl z) → ∃ v : Int32, (Jvm.Cond.constant C x v).before args s = true ∧ v.toInt = z) ∧ (∀ x z, pcst P x = some (.inr (.inl z)) → ∃ v : Int64, (Jvm.Cond.constantLong C x v).before args s = true ∧ v.toInt = z) :=
        ⟨fun x z hz => by obtain ⟨v, h1, h2⟩ := tcst.1 x z hz; exact ⟨v, mv hZ h1, h2⟩, fun x z hz => by obtain ⟨v, h1, h2⟩ := tcst.2 x z hz; exact ⟨v, mv hZ h1, h2⟩⟩
      -- going on from the same heap
      have go : ∀ {T1 : State} {pc' : Nat} {L' : OLs} {S' : List OV} {Ls' : Array Slot} {St' : List Value}, Stand p l e R s mi args below meth c T1 locs cells slots → T1.heap = T.heap → runP P n q pc' L' S' t m = some (r, t', m') → LR A ((t + 1) / 2) L' Ls' → SR A ((t + 1) / 2) S' St' → Ls'.size = ml →
          (∀ target, Steps p.tables e below (T1.setTop (mkF mi pc' Ls' St')) target → Steps p.tables e below (T.setTop (mkF mi pc Ls St)) target) →
          EndP P C fnm fkd Z nA p l e R s mi args below meth c n0 q T A t locs cells slots (mkF mi pc Ls St) r t' m' := fun X1 hh hrun hL1 hS1 hz1 st =>
        (IH q _ _ _ t m r t' m' hrun ps ml rk fr lc hq p e R s mi args below meth c _ locs cells slots A _ _ n0 X1 hx hZ hown hby hml hret hini (by rw [hh]; exact hR) hL1 hS1 hz1 (by rw [hh]; exact hn0) hfr hlc hce hsl hroom).still hh st
      -- going on from a heap in which the object's own cells were written
      have gw : ∀ {T1 : State} {t1 : Nat} {m1 : OMem} {pc' : Nat} {S' : List OV} {St' : List Value} {j sl : Nat} {v : Value}, Stand p l e R s mi args below meth c T1 (locs ++ [⟨A j, sl⟩]) cells slots → j ≤ (t + 1) / 2 → Wr T.heap T1.heap (A j) sl v → RepO P C fnm fkd Z T1.heap A n0 t1 m1 → t ≤ t1 → (t1 + 1) / 2 = (t + 1) / 2 → (q ≠ 0 → t1 = t) →
          runP P n q pc' L S' t1 m1 = some (r, t', m') → SR A ((t + 1) / 2) S' St' →
          (∀ target, Steps p.tables e below (T1.setTop (mkF mi pc' Ls St')) target → Steps p.tables e below (T.setTop (mkF mi pc Ls St)) target) →
          EndP P C fnm fkd Z nA p l e R s mi args below meth c n0 q T A t locs cells slots (mkF mi pc Ls St) r t' m' := fun {T1 t1 m1 pc' S' St' j sl v} X1 hj W hR1 ht1 et hqt hrun hS1 st => by
        refine EndP.trans (l1 := [⟨A j, sl⟩]) (IH q _ _ _ t1 m1 r t' m' hrun ps ml rk fr lc hq p e R s mi args below meth c T1 _ cells slots A Ls St' n0 X1 hx hZ hown hby hml hret hini hR1 (by rw [et]; exact hL) (by rw [et]; exact hS1) hsz (by rw [W.size]; exact hn0) hfr hlc hce hsl (fun q0 => by rw [et]; exact hroom q0)) (fun _ _ => rfl) ht1 (fun j h1 h2 => by omega) ?_ (by omega) (by rw [et]; exact Nat.le_refl _) (fun q0 => ⟨hqt q0, rfl, rfl⟩) (Sam.wr W hj) st
        intro y hy
        cases List.mem_singleton.mp hy
        by_cases e0 : j = 0
        · subst e0; exact hR.2.1
        · exact (hR.2.2.2.1 j (by omega) hj).1
      cases hsp : isSpec i with
      | false =>
        simp only [stepI, hsp, cond_false] at h
        obtain ⟨pc', L', S', Ls', St', h1, h2, h3, h4, h5⟩ := pstep_sound (cst := pcst P) (k := fun pc' L' S' => runP P n q pc' L' S' t m) X hx hown hcst hL hSt hd hchk h
        exact go X rfl h1 h2 h3 (h4.trans hsz) h5
      | true =>
      simp only [stepI, hsp, cond_true] at h
      clear hcd
      cases i
      case getfield x =>
        obtain rfl : len = 3 := by simpa [chk, ilen] using hchk
        obtain ⟨S', rfl, hgf⟩ := getfield_some h
        clear h
        obtain ⟨hb0, St', rfl, hS'⟩ := SR.r1 hSt
        rcases hgf with ⟨f, j, fin, hf, hj, h⟩ | ⟨f, kd, j, fin, hf, hkd, h⟩ | ⟨f, j, fin, hf, h⟩
        · obtain ⟨w, hk⟩ := tfld x _ _ _ _ hf
          obtain ⟨v, F, hv1, -⟩ := hR.2.2.1 f _ _ _ hk
          obtain ⟨T1, X1, e1, st⟩ := getF X hx hZ hown (host := "") (Or.inl w) Via.refl rfl F (g := mkF mi pc Ls (.ref (A 0) :: St')) rfl rfl hd
          obtain rfl := hv1 rfl hj
          exact go X1 e1 h hL (SR.cr (by omega) hS') hsz st
        · obtain ⟨w, hk⟩ := tfld x _ _ _ _ hf
          obtain ⟨v, F, -, hv⟩ := hR.2.2.1 f _ _ _ hk
          obtain ⟨T1, X1, e1, st⟩ := getF X hx hZ hown (host := "") (Or.inl w) Via.refl rfl F (g := mkF mi pc Ls (.ref (A 0) :: St')) rfl rfl hd
          obtain ⟨y, rfl, hy⟩ := (hv (by omega)).int (by omega)
          exact go X1 e1 h hL (SR.ci hy hS') hsz st
        · obtain ⟨w, hk⟩ := tfld x _ _ _ _ hf
          obtain ⟨v, F, -, hv⟩ := hR.2.2.1 f _ _ _ hk
          obtain ⟨T1, X1, e1, st⟩ := getF X hx hZ hown (host := "") (Or.inl w) Via.refl rfl F (g := mkF mi pc Ls (.ref (A 0) :: St')) rfl rfl hd
          obtain ⟨y, rfl, hy⟩ := (hv (by omega)).long rfl
          exact go X1 e1 h hL (SR.cj hy hS') hsz st
      case putfield x =>
        obtain rfl : len = 3 := by simpa [chk, ilen] using hchk
        have lays : ∀ {f : Int} {kd j : Nat} {fin : Bool}, fkd f = some (kd, j, fin) → (fin = false ∨ q = 0) → (Jvm.Cond.lays C C (fnm f).1 (fnm f).2).before a0 Z = true ∨ ((Jvm.Cond.laysFinal C C (fnm f).1 (fnm f).2).before a0 Z = true ∧ C = C ∧ meth.name = "<init>") := fun hk hfq => by
          rcases (tfkd _ _ _ _ hk).1 with ⟨-, q1⟩ | ⟨q0, q1⟩
          · exact Or.inl q1
          · rcases hfq with hfq | hfq
            · rw [hfq] at q0; cases q0
            · exact Or.inr ⟨q1, rfl, hini hfq⟩
        rcases putfield_some h with ⟨f, j, fin, S', hf, rfl, ht, hq0, h⟩ | ⟨f, kd, j, fin, z, S', hf, hkd, rfl, hfq, h⟩ | ⟨f, j, fin, z, S', hf, rfl, hfq, h⟩
        · obtain ⟨w, hk⟩ := tfld x _ _ _ _ hf
          obtain ⟨hbj, St1, rfl, hS1⟩ := SR.r1 hSt
          obtain ⟨hb0, St', rfl, hS'⟩ := SR.r1 hS1
          obtain ⟨v, F, -⟩ := hR.2.2.1 f _ _ _ hk
          obtain ⟨T1, h1, X1, e1, W, st⟩ := putFN X hx hZ hown w Via.refl rfl F hR.1 (lays hk (Or.inr hq0)) tins (tfkd _ _ _ _ hk).2.1 (v := .ref (A j)) (v' := .ref (A j)) rfl rfl (g := mkF mi pc Ls (.ref (A j) :: .ref (A 0) :: St')) rfl rfl hd
          subst e1
          exact gw X1 (by omega) W (hR.wrP HT hk ht W) (by omega) (by omega) (fun q0 => absurd hq0 q0) h hS' st
        · obtain ⟨w, hk⟩ := tfld x _ _ _ _ hf
          obtain ⟨y, St1, rfl, hy, hS1⟩ := SR.i1 hSt
          obtain ⟨hb0, St', rfl, hS'⟩ := SR.r1 hS1
          obtain ⟨v, F, -⟩ := hR.2.2.1 f _ _ _ hk
          rcases hkd with rfl | rfl
          · obtain ⟨T1, h1, X1, e1, W, st⟩ := putFN X hx hZ hown w Via.refl rfl F hR.1 (lays hk hfq) tins (tfkd _ _ _ _ hk).2.1 (v := .int y) (v' := .int y) rfl rfl (g := mkF mi pc Ls (.int y :: .ref (A 0) :: St')) rfl rfl hd
            subst e1
            exact gw X1 (by omega) W (hR.wrF HT hk (by omega) (Or.inr ⟨by omega, y, rfl, hy⟩) W) (Nat.le_refl _) rfl (fun _ => rfl) h hS' st
          · obtain ⟨T1, h1, X1, e1, W, st⟩ := putFN X hx hZ hown w Via.refl rfl F hR.1 (lays hk hfq) tins (tfkd _ _ _ _ hk).2.1 (v := .int y) (v' := .int (y &&& 1)) rfl (fits_nar_bool y) (g := mkF mi pc Ls (.int y :: .ref (A 0) :: St')) rfl rfl hd
            subst e1
            exact gw X1 (by omega) W (hR.wrF HT hk (by omega) (Or.inr ⟨by omega, y &&& 1, rfl, by rw [and1_eq, hy]; rfl⟩) W) (Nat.le_refl _) rfl (fun _ => rfl) h hS' st
        · obtain ⟨w, hk⟩ := tfld x _ _ _ _ hf
          obtain ⟨y, St1, rfl, hy, hS1⟩ := SR.l1 hSt
          obtain ⟨hb0, St', rfl, hS'⟩ := SR.r1 hS1
          obtain ⟨v, F, -⟩ := hR.2.2.1 f _ _ _ hk
          obtain ⟨T1, h1, X1, e1, W, st⟩ := putFN X hx hZ hown w Via.refl rfl F hR.1 (lays hk hfq) tins (tfkd _ _ _ _ hk).2.1 (v := .long y) (v' := .long y) rfl rfl (g := mkF mi pc Ls (.long y :: .ref (A 0) :: St')) rfl rfl hd
          subst e1
          exact gw X1 (by omega) W (hR.wrF HT hk (by omega) (Or.inl ⟨rfl, y, rfl, hy⟩) W) (Nat.le_refl _) rfl (fun _ => rfl) h hS' st
      case iaload =>
        obtain rfl : len = 1 := by simpa [chk, ilen] using hchk
        obtain ⟨i, j, S', kd, nn, rfl, hl, hkd, hj, hi0, hi1, h⟩ := ald_some h
        cases Nat.eq_of_beq_eq_true hkd
        obtain ⟨y, St1, rfl, rfl, hS1⟩ := SR.i1 hSt
        obtain ⟨hbj, St', rfl, hS'⟩ := SR.r1 hS1
        obtain ⟨-, kd', n', hl', cl, hA, hsz', hel⟩ := hR.2.2.2.1 j (tlay j _ _ hl).1 (by omega)
        cases hl.symm.trans hl'
        obtain ⟨v, hv, hev⟩ := hel y.toNatClampNeg (by have := clamp32 hi0; omega)
        obtain ⟨w, rfl, hw⟩ := hev.int (by omega)
        rw [clamp32 hi0] at hw
        exact go X rfl h hL (SR.ci hw hS') hsz (fun target hr => X.iaload hx hA.1 (State.isArrayOf_alike hZ.alike hA.2.1) hA.2.2 (idx32 hi0 (by omega)) hv (g := mkF mi pc Ls (.int y :: .ref (A j) :: St')) rfl rfl hd target hr)
      case laload =>
        obtain rfl : len = 1 := by simpa [chk, ilen] using hchk
        obtain ⟨i, j, S', kd, nn, rfl, hl, hkd, hj, hi0, hi1, h⟩ := ald_some h
        cases Nat.eq_of_beq_eq_true hkd
        obtain ⟨y, St1, rfl, rfl, hS1⟩ := SR.i1 hSt
        obtain ⟨hbj, St', rfl, hS'⟩ := SR.r1 hS1
        obtain ⟨-, kd', n', hl', cl, hA, hsz', hel⟩ := hR.2.2.2.1 j (tlay j _ _ hl).1 (by omega)
        cases hl.symm.trans hl'
        obtain ⟨v, hv, hev⟩ := hel y.toNatClampNeg (by have := clamp32 hi0; omega)
        obtain ⟨w, rfl, hw⟩ := hev.long rfl
        rw [clamp32 hi0] at hw
        exact go X rfl h hL (SR.cj hw hS') hsz (fun target hr => X.laload hx hA.1 (State.isArrayOf_alike hZ.alike hA.2.1) hA.2.2 (idx32 hi0 (by omega)) hv (g := mkF mi pc Ls (.int y :: .ref (A j) :: St')) rfl rfl hd target hr)
      case baload =>
        obtain rfl : len = 1 := by simpa [chk, ilen] using hchk
        obtain ⟨i, j, S', kd, nn, rfl, hl, hkd, hj, hi0, hi1, h⟩ := ald_some h
        obtain ⟨y, St1, rfl, rfl, hS1⟩ := SR.i1 hSt
        obtain ⟨hbj, St', rfl, hS'⟩ := SR.r1 hS1
        obtain ⟨-, kd', n', hl', cl, hA, hsz', hel⟩ := hR.2.2.2.1 j (tlay j _ _ hl).1 (by omega)
        cases hl.symm.trans hl'
        have hkd : kd = 2 ∨ kd = 3 := by
          rw [Bool.or_eq_true] at hkd
          exact hkd.imp Nat.eq_of_beq_eq_true Nat.eq_of_beq_eq_true
        obtain ⟨v, hv, hev⟩ := hel y.toNatClampNeg (by have := clamp32 hi0; omega)
        obtain ⟨w, rfl, hw⟩ := hev.int (by omega)
        rw [clamp32 hi0] at hw
        rcases hkd with rfl | rfl
        · exact go X rfl h hL (SR.ci hw hS') hsz (fun target hr => X.baloadBooleans hx hA.1 (State.isArrayOf_alike hZ.alike hA.2.1) hA.2.2 (idx32 hi0 (by omega)) hv (g := mkF mi pc Ls (.int y :: .ref (A j) :: St')) rfl rfl hd target hr)
        · exact go X rfl h hL (SR.ci hw hS') hsz (fun target hr => X.baloadBytes hx hA.1 (State.isArrayOf_alike hZ.alike hA.2.1) hA.2.2 (idx32 hi0 (by omega)) hv (g := mkF mi pc Ls (.int y :: .ref (A j) :: St')) rfl rfl hd target hr)
      case iastore =>
        obtain rfl : len = 1 := by simpa [chk, ilen] using hchk
        obtain ⟨z, i, j, S', kd, nn, rfl, hl, hkd, hj, hi0, hi1, h⟩ := asi_some h
        cases Nat.eq_of_beq_eq_true hkd
        obtain ⟨zz, y, St1, rfl, hzz, rfl, hS1⟩ := SR.i2 hSt
        obtain ⟨hbj, St', rfl, hS'⟩ := SR.r1 hS1
        have h1j := (tlay j _ _ hl).1
        obtain ⟨-, kd', n', hl', cl, hA, hsz', hel⟩ := hR.2.2.2.1 j h1j (by omega)
        cases hl.symm.trans hl'
        obtain ⟨T1, h1, X1, e1, W, st⟩ := stI X hx hZ rfl hA (idx32 hi0 (by omega)) (x := zz) (g := mkF mi pc Ls (.int zz :: .int y :: .ref (A j) :: St')) rfl rfl hd
        subst e1
        have hR1 := hR.wrA h1j (by omega) hl (Or.inr ⟨by omega, zz, rfl, hzz⟩) W
        rw [clamp32 hi0] at hR1
        exact gw X1 (by omega) W hR1 (Nat.le_refl _) rfl (fun _ => rfl) h hS' st
      case lastore =>
        obtain rfl : len = 1 := by simpa [chk, ilen] using hchk
        obtain ⟨z, i, j, S', kd, nn, rfl, hl, hkd, hj, hi0, hi1, h⟩ := asl_some h
        cases Nat.eq_of_beq_eq_true hkd
        obtain ⟨zz, St0, rfl, hzz, hS0⟩ := SR.l1 hSt
        obtain ⟨y, St1, rfl, rfl, hS1⟩ := SR.i1 hS0
        obtain ⟨hbj, St', rfl, hS'⟩ := SR.r1 hS1
        have h1j := (tlay j _ _ hl).1
        obtain ⟨-, kd', n', hl', cl, hA, hsz', hel⟩ := hR.2.2.2.1 j h1j (by omega)
        cases hl.symm.trans hl'
        obtain ⟨T1, h1, X1, e1, W, st⟩ := stJ X hx hZ rfl hA (idx32 hi0 (by omega)) (x := zz) (g := mkF mi pc Ls (.long zz :: .int y :: .ref (A j) :: St')) rfl rfl hd
        subst e1
        have hR1 := hR.wrA h1j (by omega) hl (Or.inl ⟨rfl, zz, rfl, hzz⟩) W
        rw [clamp32 hi0] at hR1
        exact gw X1 (by omega) W hR1 (Nat.le_refl _) rfl (fun _ => rfl) h hS' st
      case bastore =>
        obtain rfl : len = 1 := by simpa [chk, ilen] using hchk
        obtain ⟨z, i, j, S', kd, nn, rfl, hl, hkd, hj, hi0, hi1, h⟩ := asi_some h
        obtain ⟨zz, y, St1, rfl, hzz, rfl, hS1⟩ := SR.i2 hSt
        obtain ⟨hbj, St', rfl, hS'⟩ := SR.r1 hS1
        have h1j := (tlay j _ _ hl).1
        obtain ⟨-, kd', n', hl', cl, hA, hsz', hel⟩ := hR.2.2.2.1 j h1j (by omega)
        cases hl.symm.trans hl'
        have hkd : kd = 2 ∨ kd = 3 := by
          rw [Bool.or_eq_true] at hkd
          exact hkd.imp Nat.eq_of_beq_eq_true Nat.eq_of_beq_eq_true
        rcases hkd with rfl | rfl
        · obtain ⟨T1, h1, X1, e1, W, st⟩ := stZ X hx hZ rfl hA (idx32 hi0 (by omega)) (x := zz) (g := mkF mi pc Ls (.int zz :: .int y :: .ref (A j) :: St')) rfl rfl hd
          subst e1
          have hR1 := hR.wrA (z := z % 2) h1j (by omega) hl (Or.inr ⟨by omega, zz &&& 1, rfl, by rw [and1_eq, hzz]⟩) W
          rw [clamp32 hi0] at hR1
          exact gw X1 (by omega) W hR1 (Nat.le_refl _) rfl (fun _ => rfl) h hS' st
        · obtain ⟨T1, h1, X1, e1, W, st⟩ := stB X hx hZ rfl hA (idx32 hi0 (by omega)) (x := zz) (g := mkF mi pc Ls (.int zz :: .int y :: .ref (A j) :: St')) rfl rfl hd
          subst e1
          have hR1 := hR.wrA (z := b8 z) h1j (by omega) hl (Or.inr ⟨by omega, zz.toInt8.toInt32, rfl, by rw [b8_eq, hzz]⟩) W
          rw [clamp32 hi0] at hR1
          exact gw X1 (by omega) W hR1 (Nat.le_refl _) rfl (fun _ => rfl) h hS' st
      case arraylength =>
        obtain rfl : len = 1 := by simpa [chk, ilen] using hchk
        obtain ⟨j, S', kd, nn, rfl, hl, hj, h⟩ := arraylength_some h
        obtain ⟨hbj, St', rfl, hS'⟩ := SR.r1 hSt
        obtain ⟨t1, t2, t3, t4, -⟩ := tlay j _ _ hl
        obtain ⟨-, kd', n', hl', cl, hA, hsz', hel⟩ := hR.2.2.2.1 j t1 (by omega)
        cases hl.symm.trans hl'
        exact go X rfl h hL (SR.ci (by rw [len_toInt (by omega)]; exact hsz') hS') hsz (fun target hr => X.arraylength hx hA.1 (State.isArrayOf_alike hZ.alike hA.2.1) (g := mkF mi pc Ls (.ref (A j) :: St')) rfl rfl hd target hr)
      case newarray a =>
        obtain rfl : len = 2 := by simpa [chk, ilen] using hchk
        obtain ⟨S', kd, nn, rfl, hl, ht, hka, hq0, h⟩ := newarray_some h
        obtain ⟨y, St', rfl, hy, hS'⟩ := SR.i1 hSt
        obtain ⟨t1, t2, t3, t4, t5, t6⟩ := tlay _ _ _ hl
        obtain ⟨r1, r2⟩ := hroom hq0
        have hty := kty_akind hka t5
        have e1 : (t + 1) / 2 = t / 2 := by omega
        rw [e1] at r1 r2
        have e2 : (t + 1 + 1) / 2 = t / 2 + 1 := by omega
        have hcl : (y.toNatClampNeg : Int) = nn := by rw [clamp32 (by omega)]; exact hy
        have es : psum P (t / 2 + 1) = psum P (t / 2) + nn.toNat := by simp only [psum, hl]
        have em := psum_mono P t2
        obtain ⟨T1, h1, cA, X1, eh, E, hA, st⟩ := newP X hx hZ (aty := a) (by rw [hty]; exact t6) rfl (g := mkF mi pc Ls (.int y :: St')) rfl hd rfl (by rw [Int32.lt_iff_toInt_lt]; simp only [Int32.reduceToInt]; omega) (cap := y.toNatClampNeg) (Nat.le_refl _) (by omega) (by omega) (by omega)
        subst eh
        rw [hty] at hA
        have hR1 := hR.new ht hn0 hl t5 E hy t3 hA
        have hAg : ∀ j, j ≤ (t + 1) / 2 → updA A (t / 2 + 1) T.heap.size j = A j := fun j hj => updA_ne (by omega)
        refine EndP.trans (l1 := []) (IH q _ _ _ (t + 1) m r t' m' h ps ml rk fr lc hq p e R s mi args below meth c T1 _ (cells + 1) (slots + y.toNatClampNeg) (updA A (t / 2 + 1) T.heap.size) Ls (.ref T.heap.size :: St') n0 (by rw [List.append_nil]; exact X1) hx hZ hown hby hml hret hini hR1 (hL.mono hAg (by omega)) ⟨⟨by omega, by rw [updA_eq]⟩, hS'.mono hAg (by omega)⟩ hsz (Nat.le_trans hn0 E.1) hfr hlc (by omega) (by omega) (fun _ => ⟨by rw [e2]; omega, by rw [e2, es]; omega⟩)) hAg (by omega) (fun j h1 h2 => ?_) (Fr.nil _) (by omega) (by rw [e2, es, e1]; omega) (fun q0 => absurd hq0 q0) (Sam.ext E _) st
        have : j = t / 2 + 1 := by omega
        subst this
        rw [updA_eq]; exact Nat.le_refl _
      case invokespecial x =>
        obtain rfl : len = 3 := by simpa [chk, ilen] using hchk
        obtain ⟨S', ps', ml', rk', fr', lc', rfl, hq', hob, h1, h2, h⟩ := invokespecial_some h
        cases hq.symm.trans hq'
        obtain ⟨hb0, St', rfl, hS'⟩ := SR.r1 hSt
        obtain ⟨T1, X1, e1, st⟩ := initO X hx hZ hown (tobi x hob) tob1 tob2 rfl (g := mkF mi pc Ls (.ref (A 0) :: St')) rfl (by rw [hml]; exact hsz) rfl hd (by omega) (W := cats S') (by show 2 * 0 + _ ≤ _; rw [hS'.catsum]; omega) (by omega)
        exact go X1 e1 h hL hS' hsz st
      case invokevirtual x =>
        obtain rfl : len = 3 := by simpa [chk, ilen] using hchk
        obtain ⟨q', ps', ml', rk', fr', lc', ps0, ml0, rk0, fr0, lc0, as, S', y, hm', hi', hq0, hpop, hf1, hl1, hq'0, hlen, hcall, hcont⟩ := invokevirtual_some h
        clear h
        cases hq.symm.trans hq0
        obtain ⟨y1, t1, m1⟩ := y
        obtain ⟨B, St1, hB, hS1, rfl, hBl⟩ := popA_rel hpop hSt
        obtain ⟨hb0, St', rfl, hS'⟩ := SR.r1 hS1
        have hargs : SR A ((t + 1) / 2) (vr 0 :: as) (.ref (A 0) :: B) := ⟨⟨by omega, rfl⟩, by simpa using hB A ((t + 1) / 2) [] trivial⟩
        obtain ⟨icls, iinst, icode, ipv, params, ipd, ipl⟩ := tinf q' _ _ _ _ _ hi'
        have hM := metP (l := l) (cl := 0) (sl := 0) HT IH hi' hcall hlen hn0 hR hargs (fun q0 => absurd q0 hq'0)
        have hBk := backOf (R := R) (p := p) (e := e) (below := below) (s := s) (args := args) (len := 3) (W := cats S') (rm := { frames := fr', cells := 0, slots := 0, locals := lc' }) (Q := QP P C fnm fkd Z n0 q' t A T.heap y1 t1 m1) hM hZ icode (by rw [icls]; exact tini) (by show fr' + 1 ≤ R.frames; omega) (by show cats S' + (ml' + 11) + lc' ≤ R.locals; omega)
        have hyn : (nm q').cls ≠ "java/lang/invoke/MethodHandle" ∧ (nm q').cls ≠ "java/lang/invoke/VarHandle" := by rw [icls]; exact thn
        have fin : ∀ {T1 : State} {L1 : List Loc} {v : Option Value}, Stand p l e R s mi args below meth c T1 (locs ++ L1) cells slots → QP P C fnm fkd Z n0 q' t A T.heap y1 t1 m1 v T1.heap L1 →
            (∀ target, Steps p.tables e below (T1.setTop (mkF mi (pc + 3) Ls (v.toList ++ St'))) target → Steps p.tables e below (T.setTop (mkF mi pc Ls (B.reverse ++ .ref (A 0) :: St'))) target) →
            EndP P C fnm fkd Z nA p l e R s mi args below meth c n0 q T A t locs cells slots (mkF mi pc Ls (B.reverse ++ .ref (A 0) :: St')) r t' m' := fun {T1 L1 v} X1 hQ st => by
          obtain ⟨A', g1, g2, g3, g4, g5, g6, g7, g8⟩ := hQ
          obtain rfl := g8 hq'0
          exact EndP.trans (IH q _ _ _ t1 m1 r t' m' hcont ps ml rk fr lc hq p e R s mi args below meth c T1 _ cells slots A' Ls _ n0 X1 hx hZ hown hby hml hret hini g1 (hL.mono g2 (Nat.le_refl _)) (g7.push (hS'.mono g2 (Nat.le_refl _))) hsz (Nat.le_trans hn0 g6.1) hfr hlc hce hsl hroom) g2 (Nat.le_refl _) g4 g5 (Nat.le_refl _) (Nat.le_refl _) (fun _ => ⟨rfl, rfl, rfl⟩) g6 st
        obtain ⟨cB, kB, i1, i2, i3⟩ := isOf hZ rfl hR.1
        have hlenA : ∀ sig, parseMethodDescriptor (nm q').desc = some sig → B.length = sig.parameters.length := lenOf ipd (by rw [hBl, ipl])
        rcases ipv hq'0 with hpv | ⟨hdc, hsel⟩
        · obtain ⟨cc, hcc, hcv⟩ := hR.1.cell
          have hPr : s.PrivateAt (nm q') := Jvm.Cond.privateMethod_at (mvP (args := args) hZ hpv)
          obtain ⟨c2, k2, j1, j2, j3, j4, -⟩ := Jvm.Cond.instantiable_spec (mv (args := args) hZ tins)
          have hsel : (Jvm.Cond.selects (nm q').cls (nm q') (nm q')).before args s = true := Jvm.Stand.selects_self_of_private (by rw [icls]; exact j1) j2 (by simp only [Bool.or_eq_false_iff] at j4; exact j4.1) hPr (mv hZ iinst) hyn
          obtain ⟨v, vm1, ⟨T1, L1, k1, n1⟩, -, X1, ⟨Lc, hQ, l1, c1, s1⟩, st⟩ := X.privateBack hx hown (mv hZ (tmth x _ hm')) (mv hZ iinst) hsel hPr (mv hZ icode) hyn hBk (g := mkF mi pc Ls (B.reverse ++ .ref (A 0) :: St')) rfl (by rw [hml]; exact hsz) (Steps.refl _) (a := A 0) hcc hcv (argsL := B) (rest := St') hlenA rfl (by show 2 * 0 + _ ≤ _; rw [hS'.catsum]; omega) hd (fun _ _ => ⟨rfl, rfl, hce, hsl⟩)
          dsimp only [Pt.U, Pt.locs, Pt.cells, Pt.slots] at X1 l1 c1 s1 st hQ
          subst l1 c1 s1
          exact fin X1 hQ (fun target hr => st.trans hr)
        · obtain ⟨v, vm1, ⟨T1, L1, k1, n1⟩, -, X1, ⟨Lc, hQ, l1, c1, s1⟩, st⟩ := X.virtualBack hx (C := C) (y := nm q') (z := nm q') hown (mv hZ (tmth x _ hm')) (mv hZ hdc) (notFace_of_selects (args := args) (mv hZ hsel)) (mv hZ hsel) (mv hZ iinst) hyn hBk i1 i3 (g := mkF mi pc Ls (B.reverse ++ .ref (A 0) :: St')) rfl (by rw [hml]; exact hsz) (Steps.refl _) (argsL := B) (rest := St') hlenA rfl (by show 2 * 0 + _ ≤ _; rw [hS'.catsum]; omega) hd (fun _ _ => ⟨rfl, rfl, hce, hsl⟩)
          dsimp only [Pt.U, Pt.locs, Pt.cells, Pt.slots] at X1 l1 c1 s1 st hQ
          subst l1 c1 s1
          exact fin X1 hQ (fun target hr => st.trans hr)
      case ireturn =>
        obtain rfl : len = 1 := by simpa [chk, ilen] using hchk
        obtain ⟨z, S', ps', ml', rk', fr', lc', rfl, hq', hcase⟩ := ireturn_some h
        cases hq.symm.trans hq'
        obtain ⟨y, St', rfl, hy, hS'⟩ := SR.i1 hSt
        rcases hcase with ⟨rfl, hr⟩ | ⟨rfl, hr⟩
        · cases hr
          exact ⟨some (.int y), T, A, [], cells, slots, by rw [List.append_nil]; exact X, hR, fun _ _ => rfl, Nat.le_refl _, fun j h1 h2 => by omega, Fr.nil _, Nat.le_refl _, Nat.le_refl _, fun _ => ⟨rfl, rfl, rfl⟩, Sam.refl _ _ _, ⟨y, rfl, hy⟩, (fun q => by rw [hret] at q; cases q), fun fs hfs => retI' X hx hret hd hfs⟩
        · cases hr
          exact ⟨some (.int (y &&& 1)), T, A, [], cells, slots, by rw [List.append_nil]; exact X, hR, fun _ _ => rfl, Nat.le_refl _, fun j h1 h2 => by omega, Fr.nil _, Nat.le_refl _, Nat.le_refl _, fun _ => ⟨rfl, rfl, rfl⟩, Sam.refl _ _ _, ⟨_, rfl, by rw [and1_eq, hy]⟩, (fun q => by rw [hret] at q; cases q), fun fs hfs => retN X hx (t := .boolean) hret (by simp) hd hfs⟩
      case lreturn =>
        obtain rfl : len = 1 := by simpa [chk, ilen] using hchk
        obtain ⟨z, S', ps', ml', fr', lc', rfl, hq', hr⟩ := lreturn_some h
        cases hq.symm.trans hq'
        cases hr
        obtain ⟨y, St', rfl, hy, hS'⟩ := SR.l1 hSt
        exact ⟨some (.long y), T, A, [], cells, slots, by rw [List.append_nil]; exact X, hR, fun _ _ => rfl, Nat.le_refl _, fun j h1 h2 => by omega, Fr.nil _, Nat.le_refl _, Nat.le_refl _, fun _ => ⟨rfl, rfl, rfl⟩, Sam.refl _ _ _, ⟨y, rfl, hy⟩, (fun q => by rw [hret] at q; cases q), fun fs hfs => retOut X hx hret rfl (Or.inr (Or.inl ⟨rfl, rfl, y, rfl⟩)) hd hfs⟩
      case return_ =>
        obtain rfl : len = 1 := by simpa [chk, ilen] using hchk
        obtain ⟨ps', ml', fr', lc', rfl, hq', hr⟩ := return_some h
        cases hq.symm.trans hq'
        cases hr
        cases St with
        | cons _ _ => exact hSt.elim
        | nil => exact ⟨none, T, A, [], cells, slots, by rw [List.append_nil]; exact X, hR, fun _ _ => rfl, Nat.le_refl _, fun j h1 h2 => by omega, Fr.nil _, Nat.le_refl _, Nat.le_refl _, fun _ => ⟨rfl, rfl, rfl⟩, Sam.refl _ _ _, rfl, fun _ => rfl, fun fs hfs => X.returnOut hx hret hd hfs⟩
      all_goals cases hsp
end Jvm.OwnMini
namespace Jvm.OwnMini
open Jvm Jvm.ClassFile Sem Op Lib Jvm.Free Jvm.Stand Jvm.LawKit Jvm.RoadKit
/-! The law's own methods: the objects that it has made (reference k + 1: the k-th), the script (reference 0). -/
abbrev OWd := List (Nat × OMem)
abbrev RTL := Option (Option OV × OWd)
/-- code; constants; by the pool's index: the project's method, is it the maker, the law's own static method, is it the project's class; by the law's method: parameters from the last (0 int, 1 long, 2 reference), locals, kind of the result, frames, words; live variables -/
abbrev LT := CodeT × (Nat → Option OV) × (Nat → Option Nat) × (Nat → Bool) × (Nat → Option Nat) × (Nat → Bool) × (Nat → Option (List Nat × Nat × Nat × Nat × Nat)) × LivT
abbrev lcode (Q : LT) : CodeT := Q.1
abbrev lcst (Q : LT) : Nat → Option OV := Q.2.1
abbrev lvm (Q : LT) : Nat → Option Nat := Q.2.2.1
abbrev lmk (Q : LT) : Nat → Bool := Q.2.2.2.1
abbrev lsm (Q : LT) : Nat → Option Nat := Q.2.2.2.2.1
abbrev lcl (Q : LT) : Nat → Bool := Q.2.2.2.2.2.1
abbrev linf (Q : LT) : Nat → Option (List Nat × Nat × Nat × Nat × Nat) := Q.2.2.2.2.2.2.1
abbrev lliv (Q : LT) : LivT := Q.2.2.2.2.2.2.2
/-- the script: is there one, its length, its cells -/
abbrev ScT := Bool × Int × (Int → Int)
def wget : OWd → Nat → Option (Nat × OMem)
  | [], _ => none
  | o :: _, 0 => some o
  | _ :: W, n + 1 => wget W n
def wput : OWd → Nat → Nat × OMem → OWd
  | [], _, _ => []
  | _ :: W, 0, x => x :: W
  | o :: W, n + 1, x => o :: wput W n x
def z0 : OMem := fun _ _ => 0
def popB : List Nat → List OV → List OV → Option (List OV × List OV)
  | [], S, acc => some (acc, S)
  | 0 :: ts, .inl z :: S, acc => popB ts S (vi z :: acc)
  | 1 :: ts, .inr (.inl z) :: S, acc => popB ts S (vl z :: acc)
  | 2 :: ts, .inr (.inr z) :: S, acc => popB ts S (vr z :: acc)
  | _, _, _ => none
def isSpecL : Instr → Bool
  | .new _ | .arraylength | .iaload | .invokespecial _ | .invokevirtual _ | .invokestatic _ | .ireturn | .lreturn | .return_ => true
  | _ => false
def stepLS (P : PT) (Q : LT) (T mo : Nat) (sc : ScT) (kP : Nat → Nat → OLs → List OV → Nat → OMem → RT) (k : Nat → Nat → OLs → List OV → OWd → RTL) (q pc : Nat) (L : OLs) (S : List OV) (W : OWd) (i : Instr) (len : Nat) : RTL :=
  match i with
  | .new x => cond (lcl Q x && Nat.beq q 0 && Nat.blt W.length mo) (k q (pc + len) L (vr (W.length + 1) :: S) (W ++ [(0, z0)])) none
  | .arraylength =>
    match S with
    | .inr (.inr 0) :: S' => cond sc.1 (k q (pc + len) L (vi sc.2.1 :: S') W) none
    | _ => none
  | .iaload =>
    match S with
    | .inl i :: .inr (.inr 0) :: S' => cond sc.1 (if 0 ≤ i ∧ i < sc.2.1 then k q (pc + len) L (vi (sc.2.2 i) :: S') W else none) none
    | _ => none
  | .invokespecial x =>
    match pinf P 0, linf Q q with
    | some (ps, ml, _, fr', lc'), some (_, _, _, fr, lc) =>
      match popA ps S [] with
      | some (as, .inr (.inr (o + 1)) :: S') =>
        match wget W o with
        | some (0, m) =>
          cond (lmk Q x && Nat.beq q 0 && Nat.ble (fr' + 1) fr && Nat.ble (cats S' + (ml + 11) + lc') lc && Nat.ble (initL (vr 0 :: as) ml).length ml)
            ((kP 0 0 (initL (vr 0 :: as) ml) [] 0 m).bind fun y => cond (Nat.beq y.2.1 T) (k q (pc + len) L (pushR y.1 S') (wput W o y.2)) none) none
        | _ => none
      | _ => none
    | _, _ => none
  | .invokevirtual x =>
    match lvm Q x with
    | some q' =>
      match pinf P q', linf Q q with
      | some (ps, ml, _, fr', lc'), some (_, _, _, fr, lc) =>
        match popA ps S [] with
        | some (as, .inr (.inr (o + 1)) :: S') =>
          match wget W o with
          | some (t, m) =>
            cond (Nat.ble (fr' + 1) fr && Nat.ble (cats S' + (ml + 11) + lc') lc && !(Nat.beq q' 0) && Nat.ble (initL (vr 0 :: as) ml).length ml)
              ((kP q' 0 (initL (vr 0 :: as) ml) [] t m).bind fun y => k q (pc + len) L (pushR y.1 S') (wput W o y.2)) none
          | none => none
        | _ => none
      | _, _ => none
    | none => none
  | .invokestatic x =>
    match lsm Q x with
    | some q' =>
      match linf Q q', linf Q q with
      | some (ps, ml, _, fr', lc'), some (_, _, _, fr, lc) =>
        match popB ps S [] with
        | some (as, S') =>
          cond (Nat.ble (fr' + 1) fr && Nat.ble (cats S' + (ml + 11) + lc') lc && !(Nat.beq q' 0) && Nat.ble (initL as ml).length ml)
            ((k q' 0 (initL as ml) [] W).bind fun y => k q (pc + len) L (pushR y.1 S') y.2) none
        | none => none
      | _, _ => none
    | none => none
  | .ireturn =>
    match S with
    | .inl z :: _ =>
      match linf Q q with
      | some (_, _, 1, _) => some (some (vi z), W)
      | some (_, _, 2, _) => some (some (vi (z % 2)), W)
      | _ => none
    | _ => none
  | .lreturn =>
    match S with
    | .inr (.inl z) :: _ =>
      match linf Q q with
      | some (_, _, 4, _) => some (some (vl z), W)
      | _ => none
    | _ => none
  | .return_ =>
    match S with
    | [] =>
      match linf Q q with
      | some (_, _, 0, _) => some (none, W)
      | _ => none
    | _ => none
  | _ => none
def stepLI (P : PT) (Q : LT) (T mo : Nat) (sc : ScT) (kP : Nat → Nat → OLs → List OV → Nat → OMem → RT) (k : Nat → Nat → OLs → List OV → OWd → RTL) (q pc : Nat) (L : OLs) (S : List OV) (W : OWd) (i : Instr) (len : Nat) : RTL :=
  cond (isSpecL i) (stepLS P Q T mo sc kP k q pc L S W i len) (pstep (lcst Q) i pc len L S fun pc' L' S' => k q pc' L' S' W)
def stepL (P : PT) (Q : LT) (T mo : Nat) (sc : ScT) (kP : Nat → Nat → OLs → List OV → Nat → OMem → RT) (k : Nat → Nat → OLs → List OV → OWd → RTL) (q pc : Nat) (L : OLs) (S : List OV) (W : OWd) : RTL :=
  match lcode Q q pc with
  | some (i, len) => stepLI P Q T mo sc kP k q pc (mask (lliv Q q pc) L) S W i len
  | none => none
def runL (P : PT) (Q : LT) (T mo : Nat) (sc : ScT) : Nat → Nat → Nat → OLs → List OV → OWd → RTL
  | 0 => fun _ _ _ _ _ => none
  | n + 1 => stepL P Q T mo sc (runP P n) (runL P Q T mo sc n)
end Jvm.OwnMini
namespace Jvm.OwnMini
open Jvm Jvm.ClassFile Sem Op Lib Jvm.Free Jvm.Stand Jvm.LawKit Jvm.RoadKit
/-! The law's objects and script in the JVM's heap. -/
def ScR (Z : State) (h : Heap) (n0 : Nat) (a : Addr) (sc : ScT) : Prop := sc.1 = true → a < n0 ∧ ∃ c : Cell, Arr Z h a c .int ∧ (c.slots.size : Int) = sc.2.1 ∧ sc.2.1 < 2147483648 ∧ ∀ i : Nat, i < c.slots.size → ∃ x : Int32, c.slots[i]? = some (.int x) ∧ x.toInt = sc.2.2 i
def RepW (P : PT) (C : String) (fnm : FN) (fkd : FK) (Z : State) (sc : ScT) (h : Heap) (A : Nat → Addr) (AO : Nat → Nat → Addr) (n0 : Nat) (W : OWd) : Prop :=
  (∀ k t m, wget W k = some (t, m) → RepO P C fnm fkd Z h (AO k) n0 t m ∧ AO k 0 = A (k + 1)) ∧
  (∀ k k' t m t' m' j j', wget W k = some (t, m) → wget W k' = some (t', m') → k ≠ k' → j ≤ (t + 1) / 2 → j' ≤ (t' + 1) / 2 → AO k j ≠ AO k' j') ∧ ScR Z h n0 (A 0) sc
def cW (a b : Nat) : OWd → Nat
  | [] => 0
  | (0, _) :: W => a + cW a b W
  | (_ + 1, _) :: W => (a + b) + cW a b W
def ts (W : OWd) : List Nat := W.map fun o => o.1
theorem cW_ts {a b : Nat} : ∀ {W W' : OWd}, ts W = ts W' → cW a b W = cW a b W'
  | [], [], _ => rfl
  | [], _ :: _, h => by simp [ts] at h
  | _ :: _, [], h => by simp [ts] at h
  | (t, m) :: W, (t', m') :: W', h => by
    simp only [ts, List.map_cons, List.cons.injEq] at h
    obtain ⟨rfl, h⟩ := h
    have := cW_ts (a := a) (b := b) (W := W) (W' := W') h
    cases t <;> simp only [cW, this]
theorem ts_len {W W' : OWd} (h : ts W = ts W') : W.length = W'.length := by
  have := congrArg List.length h
  simpa [ts] using this
theorem cW_le (a b : Nat) : ∀ W : OWd, cW a b W ≤ W.length * (a + b)
  | [] => by simp [cW]
  | (0, _) :: W => by
    have := cW_le a b W
    simp only [cW, List.length_cons, Nat.add_mul]; omega
  | (_ + 1, _) :: W => by
    have := cW_le a b W
    simp only [cW, List.length_cons, Nat.add_mul]; omega
theorem cW_append (a b : Nat) (m : OMem) : ∀ W : OWd, cW a b (W ++ [(0, m)]) = cW a b W + a
  | [] => by simp [cW]
  | (0, _) :: W => by simp only [List.cons_append, cW, cW_append a b m W]; omega
  | (_ + 1, _) :: W => by simp only [List.cons_append, cW, cW_append a b m W]; omega
theorem wget_lt : ∀ {W : OWd} {k : Nat} {o : Nat × OMem}, wget W k = some o → k < W.length
  | [], _, _, h => by cases h
  | _ :: _, 0, _, _ => by simp
  | _ :: W, k + 1, _, h => by
    have := wget_lt (W := W) (k := k) h
    simp only [List.length_cons]; omega
theorem wput_len : ∀ (W : OWd) (k : Nat) (x : Nat × OMem), (wput W k x).length = W.length
  | [], _, _ => rfl
  | _ :: _, 0, _ => rfl
  | _ :: W, k + 1, x => by simp [wput, wput_len W k x]
theorem wget_wput : ∀ {W : OWd} {k j : Nat} {x : Nat × OMem}, k < W.length → wget (wput W k x) j = if j = k then some x else wget W j
  | [], k, j, x, h => by simp at h
  | o :: W, 0, 0, x, h => by simp [wput, wget]
  | o :: W, 0, j + 1, x, h => by simp [wput, wget]
  | o :: W, k + 1, 0, x, h => by simp [wput, wget]
  | o :: W, k + 1, j + 1, x, h => by
    have := wget_wput (W := W) (k := k) (j := j) (x := x) (by simpa using h)
    simp only [wput, wget, this, Nat.add_right_cancel_iff]
theorem ts_wput : ∀ {W : OWd} {k t : Nat} {m m' : OMem}, wget W k = some (t, m) → ts (wput W k (t, m')) = ts W
  | [], _, _, _, _, h => by cases h
  | (t, m) :: W, 0, _, _, _, h => by cases h; rfl
  | o :: W, k + 1, t, m, m', h => by
    have := ts_wput (W := W) (k := k) (t := t) (m := m) (m' := m') h
    simp only [ts, wput, List.map_cons, List.cons.injEq, true_and]
    exact this
theorem cW_made {a b : Nat} : ∀ {W : OWd} {k t : Nat} {m m' : OMem}, wget W k = some (0, m) → cW a b (wput W k (t + 1, m')) = cW a b W + b
  | [], _, _, _, _, h => by cases h
  | (t0, m) :: W, 0, _, _, _, h => by cases h; simp only [wput, cW]; omega
  | (0, m0) :: W, k + 1, t, m, m', h => by
    have := cW_made (a := a) (b := b) (W := W) (k := k) (t := t) (m := m) (m' := m') h
    simp only [wput, cW, this]; omega
  | (_ + 1, m0) :: W, k + 1, t, m, m', h => by
    have := cW_made (a := a) (b := b) (W := W) (k := k) (t := t) (m := m) (m' := m') h
    simp only [wput, cW, this]; omega
theorem cW_raw {a b : Nat} : ∀ {W : OWd} {k : Nat} {m : OMem}, wget W k = some (0, m) → cW a b W + b ≤ W.length * (a + b)
  | [], _, _, h => by cases h
  | (t0, m) :: W, 0, _, h => by
    cases h
    have := cW_le a b W
    simp only [cW, List.length_cons, Nat.add_mul]; omega
  | (0, m0) :: W, k + 1, m, h => by
    have := cW_raw (a := a) (b := b) (W := W) (k := k) (m := m) h
    simp only [cW, List.length_cons, Nat.add_mul] at *; omega
  | (_ + 1, m0) :: W, k + 1, m, h => by
    have := cW_raw (a := a) (b := b) (W := W) (k := k) (m := m) h
    simp only [cW, List.length_cons, Nat.add_mul] at *; omega
theorem wget_append : ∀ {W : OWd} {k : Nat} {x o : Nat × OMem}, wget (W ++ [x]) k = some o → (wget W k = some o ∧ k < W.length) ∨ (k = W.length ∧ o = x)
  | [], 0, x, o, h => by cases h; exact Or.inr ⟨rfl, rfl⟩
  | [], k + 1, x, o, h => by cases h
  | w :: W, 0, x, o, h => Or.inl ⟨h, by simp⟩
  | w :: W, k + 1, x, o, h => by
    rcases wget_append (W := W) (k := k) h with ⟨h1, h2⟩ | ⟨h1, h2⟩
    · exact Or.inl ⟨h1, by simpa using h2⟩
    · exact Or.inr ⟨by simpa using h1, h2⟩
section W
variable {P : PT} {C : String} {fnm : FN} {fkd : FK} {Z : State} {sc : ScT} {h h' : Heap} {A : Nat → Addr} {AO : Nat → Nat → Addr} {n0 : Nat} {W : OWd}
theorem RepW.same (hR : RepW P C fnm fkd Z sc h A AO n0 W) (e : h' = h) : RepW P C fnm fkd Z sc h' A AO n0 W := by rw [e]; exact hR
/-- an object's method has run -/
theorem RepW.ran (hR : RepW P C fnm fkd Z sc h A AO n0 W) {o t t' : Nat} {m m' : OMem} (ho : wget W o = some (t, m)) {A' : Nat → Addr} (hR' : RepO P C fnm fkd Z h' A' n0 t' m') (hA : ∀ j, j ≤ (t + 1) / 2 → A' j = AO o j) (hn : ∀ j, (t + 1) / 2 < j → j ≤ (t' + 1) / 2 → h.size ≤ A' j)
    (hS : Sam h h' (AO o) ((t + 1) / 2)) : RepW P C fnm fkd Z sc h' A (fun k => if k = o then A' else AO k) n0 (wput W o (t', m')) := by
  have hlt := wget_lt ho
  obtain ⟨r1, r2, r3⟩ := hR
  have other : ∀ {k tk mk}, wget W k = some (tk, mk) → k ≠ o → ∀ j j', j ≤ (tk + 1) / 2 → j' ≤ (t' + 1) / 2 → AO k j ≠ A' j' := fun {k tk mk} hk hne j j' hj hj' => by
    by_cases hb : j' ≤ (t + 1) / 2
    · rw [hA j' hb]; exact r2 k o _ _ _ _ j j' hk ho hne hj hb
    · have h1 := hn j' (by omega) hj'
      have h2 := (r1 k _ _ hk).1.lt hj
      exact Nat.ne_of_lt (Nat.lt_of_lt_of_le h2 h1)
  refine ⟨fun k tk mk hk => ?_, fun k k' tk mk tk' mk' j j' hk hk' hne hj hj' => ?_, fun hs => ?_⟩
  · rw [wget_wput hlt] at hk
    by_cases e : k = o
    · subst e
      rw [if_pos rfl] at hk
      cases hk
      simp only [if_true]
      exact ⟨hR', by rw [hA 0 (by omega)]; exact (r1 _ _ _ ho).2⟩
    · rw [if_neg e] at hk
      simp only [if_neg e]
      obtain ⟨q1, q2⟩ := r1 k _ _ hk
      refine ⟨q1.keep fun a c hc ⟨j, hj, ea⟩ => hS.2 a c hc fun j' hj' => ?_, q2⟩
      rw [ea]
      exact r2 k o _ _ _ _ j j' hk ho e hj hj'
  · rw [wget_wput hlt] at hk hk'
    by_cases e : k = o
    · by_cases e' : k' = o
      · exact absurd (e.trans e'.symm) hne
      · subst e
        rw [if_pos rfl] at hk
        cases hk
        rw [if_neg e'] at hk'
        simp only [if_true, if_neg e']
        exact Ne.symm (other hk' e' j' j hj' hj)
    · rw [if_neg e] at hk
      by_cases e' : k' = o
      · subst e'
        rw [if_pos rfl] at hk'
        cases hk'
        simp only [if_true, if_neg e]
        exact other hk e j j' hj hj'
      · rw [if_neg e'] at hk'
        simp only [if_neg e, if_neg e']
        exact r2 k k' _ _ _ _ j j' hk hk' hne hj hj'
  · obtain ⟨g1, c, g2, g3⟩ := r3 hs
    refine ⟨g1, c, ⟨hS.2 _ _ g2.1 fun j hj ea => ?_, g2.2⟩, g3⟩
    have : n0 ≤ AO o j := by
      by_cases e0 : j = 0
      · subst e0; exact (r1 _ _ _ ho).1.2.1
      · exact ((r1 _ _ _ ho).1.2.2.2.1 j (by omega) hj).1
    exact absurd (ea ▸ g1) (Nat.not_lt.mpr this)
theorem RepW.lt (hR : RepW P C fnm fkd Z sc h A AO n0 W) {k : Nat} (hk : 1 ≤ k) (hk' : k ≤ W.length) : ∃ t m, wget W (k - 1) = some (t, m) := by
  clear hR
  induction W generalizing k with
  | nil => simp at hk'; omega
  | cons o W ih =>
    obtain ⟨t, m⟩ := o
    by_cases e : k = 1
    · subst e; exact ⟨t, m, rfl⟩
    · obtain ⟨t', m', q⟩ := ih (k := k - 1) (by omega) (by simp at hk'; omega)
      refine ⟨t', m', ?_⟩
      have : k - 1 = (k - 1 - 1) + 1 := by omega
      rw [this]; exact q
/-- an object has been made -/
theorem RepW.made {nm : Nat → MethodName} {bys : Nat → ByteArray} {nA nf : Nat} {a0 : Array Value} (HT : TabP P C fnm fkd nm bys nA nf a0 Z) (hR : RepW P C fnm fkd Z sc h A AO n0 W) (hn0 : n0 ≤ h.size) (E : Ext h h') (X : Exa Z h' h.size C)
    (D : ∀ {O nm d : String} {ty : FieldType}, Laid Z a0 C O nm d → parseFieldDescriptor d = some ty → Fld Z h' h.size O nm d (defaultValue ty)) :
    RepW P C fnm fkd Z sc h' (updA A (W.length + 1) h.size) (fun k => if k = W.length then (fun _ => h.size) else AO k) n0 (W ++ [(0, z0)]) := by
  have old : ∀ {k t m}, wget W k = some (t, m) → ∀ j, j ≤ (t + 1) / 2 → AO k j < h.size := fun {k t m} hk j hj => (hR.1 k _ _ hk).1.lt hj
  obtain ⟨r1, r2, r3⟩ := hR
  have HT' := HT
  obtain ⟨-, -, tfkd, -⟩ := HT'
  refine ⟨fun k t m hk => ?_, fun k k' t m t' m' j j' hk hk' hne hj hj' => ?_, fun hs => ?_⟩
  · rcases wget_append hk with ⟨h1, h2⟩ | ⟨h1, h2⟩
    · have e : k ≠ W.length := by omega
      simp only [if_neg e]
      rw [updA_ne (by omega)]
      exact ⟨(r1 k _ _ h1).1.ext E, (r1 k _ _ h1).2⟩
    · subst h1
      cases h2
      simp only [if_true]
      refine ⟨⟨X, hn0, fun f kd j fin hf => ?_, fun j h1 h2 => by omega, fun j j' h1 h2 _ => by omega, fun j _ i => rfl⟩, by rw [updA_eq]⟩
      obtain ⟨t1, t2, t3, t4⟩ := tfkd f _ _ _ hf
      have F := D (HT.laid hf) t2
      refine ⟨_, F, fun e1 e2 => ?_, fun e1 => ?_⟩
      · have := t3 e1; omega
      · have : kd = 1 ∨ kd = 2 ∨ kd = 3 ∨ kd = 4 := by omega
        rcases this with rfl | rfl | rfl | rfl
        · exact Or.inr ⟨by decide, 0, rfl, rfl⟩
        · exact Or.inr ⟨by decide, 0, rfl, rfl⟩
        · exact Or.inr ⟨by decide, 0, rfl, rfl⟩
        · exact Or.inl ⟨rfl, 0, rfl, rfl⟩
  · rcases wget_append hk with ⟨h1, h2⟩ | ⟨h1, h2⟩
    · rcases wget_append hk' with ⟨h3, h4⟩ | ⟨h3, h4⟩
      · have e : k ≠ W.length := by omega
        have e' : k' ≠ W.length := by omega
        simp only [if_neg e, if_neg e']
        exact r2 k k' _ _ _ _ j j' h1 h3 hne hj hj'
      · have e : k ≠ W.length := by omega
        subst h3
        simp only [if_neg e, if_true]
        exact Nat.ne_of_lt (old h1 j hj)
    · rcases wget_append hk' with ⟨h3, h4⟩ | ⟨h3, h4⟩
      · have e' : k' ≠ W.length := by omega
        subst h1
        simp only [if_neg e', if_true]
        exact Nat.ne_of_gt (old h3 j' hj')
      · omega
  · rw [updA_ne (by omega)]
    obtain ⟨g1, c, g2, g3⟩ := r3 hs
    exact ⟨g1, c, g2.ext E, g3⟩
end W
theorem popB_rel {A : Nat → Addr} {b : Nat} : ∀ {ks : List Nat} {S : List OV} {acc as : List OV} {S' : List OV} {St : List Value} {X : List Value}, popB ks S acc = some (as, S') → SR A b S St → SR A b acc X →
    ∃ B St', SR A b as (B ++ X) ∧ SR A b S' St' ∧ St = B.reverse ++ St' ∧ B.length = ks.length
  | [], S, acc, as, S', St, X, h, hS, hX => by
    cases h
    exact ⟨[], St, hX, hS, rfl, rfl⟩
  | 0 :: ts, .inl z :: S, acc, as, S', St, X, h, hS, hX => by
    obtain ⟨y, St1, rfl, hy, hS1⟩ := SR.i1 hS
    obtain ⟨B, St', q1, q2, q3, q4⟩ := popB_rel (ks := ts) (X := .int y :: X) h hS1 ⟨⟨y, rfl, hy⟩, hX⟩
    exact ⟨B ++ [.int y], St', by simpa using q1, q2, by simp [q3], by simp [q4]⟩
  | 1 :: ts, .inr (.inl z) :: S, acc, as, S', St, X, h, hS, hX => by
    obtain ⟨y, St1, rfl, hy, hS1⟩ := SR.l1 hS
    obtain ⟨B, St', q1, q2, q3, q4⟩ := popB_rel (ks := ts) (X := .long y :: X) h hS1 ⟨⟨y, rfl, hy⟩, hX⟩
    exact ⟨B ++ [.long y], St', by simpa using q1, q2, by simp [q3], by simp [q4]⟩
  | 2 :: ts, .inr (.inr z) :: S, acc, as, S', St, X, h, hS, hX => by
    obtain ⟨hb, St1, rfl, hS1⟩ := SR.r1 hS
    obtain ⟨B, St', q1, q2, q3, q4⟩ := popB_rel (ks := ts) (X := .ref (A z) :: X) h hS1 ⟨⟨hb, rfl⟩, hX⟩
    exact ⟨B ++ [.ref (A z)], St', by simpa using q1, q2, by simp [q3], by simp [q4]⟩
def TabL (P : PT) (Q : LT) (C own : String) (nm lnm : Nat → MethodName) (lbys : Nat → ByteArray) (a0 : Array Value) (Z : State) : Prop :=
  (∀ q pc i len, lcode Q q pc = some (i, len) → decode (lbys q) pc = .ok (i, len) ∧ chk pc i len = true) ∧
  ((∀ x z, lcst Q x = some (.inl z) → ∃ v : Int32, (Jvm.Cond.constant own x v).before a0 Z = true ∧ v.toInt = z) ∧ (∀ x z, lcst Q x = some (.inr (.inl z)) → ∃ v : Int64, (Jvm.Cond.constantLong own x v).before a0 Z = true ∧ v.toInt = z)) ∧
  (∀ x q, lvm Q x = some q → (Jvm.Cond.methodLink own x (nm q)).before a0 Z = true ∧ (Jvm.Cond.declares (nm q)).before a0 Z = true ∧ (Jvm.Cond.selects C (nm q) (nm q)).before a0 Z = true) ∧
  (∀ x, lmk Q x = true → (Jvm.Cond.methodLink own x (nm 0)).before a0 Z = true) ∧
  (∀ x q, lsm Q x = some q → (Jvm.Cond.methodLink own x (lnm q)).before a0 Z = true) ∧
  (∀ x, lcl Q x = true → (Jvm.Cond.classLink own x C).before a0 Z = true) ∧
  (∀ q ps ml rk fr lc, linf Q q = some (ps, ml, rk, fr, lc) → q ≠ 0 → (lnm q).cls = own ∧ (Jvm.Cond.static (lnm q)).before a0 Z = true ∧ (Jvm.Cond.initialized own).before a0 Z = true ∧ (Jvm.Cond.code (lnm q) (lbys q) ml (rty rk)).before a0 Z = true ∧ ∃ params, parseMethodDescriptor (lnm q).desc = some ⟨params, rty rk⟩ ∧ params.length = ps.length) ∧
  plainName own = true ∧ (own ≠ "java/lang/invoke/MethodHandle" ∧ own ≠ "java/lang/invoke/VarHandle")
end Jvm.OwnMini
namespace Jvm.OwnMini
open Jvm Jvm.ClassFile Sem Op Lib Jvm.Free Jvm.Stand Jvm.LawKit Jvm.RoadKit
section InvL
variable {P : PT} {Q : LT} {TT mo : Nat} {sc : ScT} {kP : Nat → Nat → OLs → List OV → Nat → OMem → RT} {k : Nat → Nat → OLs → List OV → OWd → RTL} {q pc len : Nat} {L : OLs} {S : List OV} {W : OWd} {r : Option OV × OWd}
theorem new_someL {x : Nat} (h : stepLS P Q TT mo sc kP k q pc L S W (.new x) len = some r) : lcl Q x = true ∧ q = 0 ∧ W.length < mo ∧ k q (pc + len) L (vr (W.length + 1) :: S) (W ++ [(0, z0)]) = some r := by
  simp only [stepLS] at h
  obtain ⟨hb, h⟩ := cond_some h
  simp only [Bool.and_eq_true] at hb
  exact ⟨hb.1.1, Nat.eq_of_beq_eq_true hb.1.2, by simpa [Nat.blt_eq] using hb.2, h⟩
theorem length_someL (h : stepLS P Q TT mo sc kP k q pc L S W .arraylength len = some r) : ∃ S', S = .inr (.inr 0) :: S' ∧ sc.1 = true ∧ k q (pc + len) L (vi sc.2.1 :: S') W = some r := by
  simp only [stepLS] at h
  split at h
  · obtain ⟨hb, h⟩ := cond_some h
    exact ⟨_, rfl, hb, h⟩
  · cases h
theorem iaload_someL (h : stepLS P Q TT mo sc kP k q pc L S W .iaload len = some r) : ∃ i S', S = .inl i :: .inr (.inr 0) :: S' ∧ sc.1 = true ∧ 0 ≤ i ∧ i < sc.2.1 ∧ k q (pc + len) L (vi (sc.2.2 i) :: S') W = some r := by
  simp only [stepLS] at h
  split at h
  · obtain ⟨hb, h⟩ := cond_some h
    split at h
    · rename_i hc
      exact ⟨_, _, rfl, hb, hc.1, hc.2, h⟩
    · cases h
  · cases h
theorem special_someL {x : Nat} (h : stepLS P Q TT mo sc kP k q pc L S W (.invokespecial x) len = some r) : ∃ ps ml rk fr' lc' ps0 ml0 rk0 fr lc as o S' m y, pinf P 0 = some (ps, ml, rk, fr', lc') ∧ linf Q q = some (ps0, ml0, rk0, fr, lc) ∧ popA ps S [] = some (as, .inr (.inr (o + 1)) :: S') ∧ wget W o = some (0, m) ∧
    lmk Q x = true ∧ q = 0 ∧ fr' + 1 ≤ fr ∧ cats S' + (ml + 11) + lc' ≤ lc ∧ (initL (vr 0 :: as) ml).length ≤ ml ∧ kP 0 0 (initL (vr 0 :: as) ml) [] 0 m = some y ∧ y.2.1 = TT ∧ k q (pc + len) L (pushR y.1 S') (wput W o y.2) = some r := by
  simp only [stepLS] at h
  split at h
  · rename_i ps ml rk fr' lc' ps0 ml0 rk0 fr lc h1 h2
    split at h
    · rename_i as o S' hp
      split at h
      · rename_i m hw
        obtain ⟨hb, h⟩ := cond_some h
        simp only [Bool.and_eq_true] at hb
        obtain ⟨⟨⟨⟨g1, g2⟩, g3⟩, g4⟩, g5⟩ := hb
        obtain ⟨y, h3, h4⟩ := Option.bind_eq_some_iff.mp h
        obtain ⟨hb', h4⟩ := cond_some h4
        exact ⟨ps, ml, rk, fr', lc', ps0, ml0, rk0, fr, lc, as, o, S', m, y, h1, h2, hp, hw, g1, Nat.eq_of_beq_eq_true g2, Nat.le_of_ble_eq_true g3, Nat.le_of_ble_eq_true g4, Nat.le_of_ble_eq_true g5, h3, Nat.eq_of_beq_eq_true hb', h4⟩
      · cases h
    · cases h
  · cases h
theorem virtual_someL {x : Nat} (h : stepLS P Q TT mo sc kP k q pc L S W (.invokevirtual x) len = some r) : ∃ q' ps ml rk fr' lc' ps0 ml0 rk0 fr lc as o S' t m y, lvm Q x = some q' ∧ pinf P q' = some (ps, ml, rk, fr', lc') ∧ linf Q q = some (ps0, ml0, rk0, fr, lc) ∧ popA ps S [] = some (as, .inr (.inr (o + 1)) :: S') ∧ wget W o = some (t, m) ∧
    fr' + 1 ≤ fr ∧ cats S' + (ml + 11) + lc' ≤ lc ∧ q' ≠ 0 ∧ (initL (vr 0 :: as) ml).length ≤ ml ∧ kP q' 0 (initL (vr 0 :: as) ml) [] t m = some y ∧ k q (pc + len) L (pushR y.1 S') (wput W o y.2) = some r := by
  simp only [stepLS] at h
  split at h
  · rename_i q' hq'
    split at h
    · rename_i ps ml rk fr' lc' ps0 ml0 rk0 fr lc h1 h2
      split at h
      · rename_i as o S' hp
        split at h
        · rename_i t m hw
          obtain ⟨hb, h⟩ := cond_some h
          simp only [Bool.and_eq_true] at hb
          obtain ⟨⟨⟨g1, g2⟩, g3⟩, g4⟩ := hb
          obtain ⟨y, h3, h4⟩ := Option.bind_eq_some_iff.mp h
          exact ⟨q', ps, ml, rk, fr', lc', ps0, ml0, rk0, fr, lc, as, o, S', t, m, y, hq', h1, h2, hp, hw, Nat.le_of_ble_eq_true g1, Nat.le_of_ble_eq_true g2, (fun e => by subst e; simp at g3), Nat.le_of_ble_eq_true g4, h3, h4⟩
        · cases h
      · cases h
    · cases h
  · cases h
theorem static_someL {x : Nat} (h : stepLS P Q TT mo sc kP k q pc L S W (.invokestatic x) len = some r) : ∃ q' ps ml rk fr' lc' ps0 ml0 rk0 fr lc as S' y, lsm Q x = some q' ∧ linf Q q' = some (ps, ml, rk, fr', lc') ∧ linf Q q = some (ps0, ml0, rk0, fr, lc) ∧ popB ps S [] = some (as, S') ∧
    fr' + 1 ≤ fr ∧ cats S' + (ml + 11) + lc' ≤ lc ∧ q' ≠ 0 ∧ (initL as ml).length ≤ ml ∧ k q' 0 (initL as ml) [] W = some y ∧ k q (pc + len) L (pushR y.1 S') y.2 = some r := by
  simp only [stepLS] at h
  split at h
  · rename_i q' hq'
    split at h
    · rename_i ps ml rk fr' lc' ps0 ml0 rk0 fr lc h1 h2
      split at h
      · rename_i as S' hp
        obtain ⟨hb, h⟩ := cond_some h
        simp only [Bool.and_eq_true] at hb
        obtain ⟨⟨⟨g1, g2⟩, g3⟩, g4⟩ := hb
        obtain ⟨y, h3, h4⟩ := Option.bind_eq_some_iff.mp h
        exact ⟨q', ps, ml, rk, fr', lc', ps0, ml0, rk0, fr, lc, as, S', y, hq', h1, h2, hp, Nat.le_of_ble_eq_true g1, Nat.le_of_ble_eq_true g2, (fun e => by subst e; simp at g3), Nat.le_of_ble_eq_true g4, h3, h4⟩
      · cases h
    · cases h
  · cases h
theorem ireturn_someL (h : stepLS P Q TT mo sc kP k q pc L S W .ireturn len = some r) : ∃ z S' ps ml rk fr lc, S = .inl z :: S' ∧ linf Q q = some (ps, ml, rk, fr, lc) ∧ ((rk = 1 ∧ r = (some (vi z), W)) ∨ (rk = 2 ∧ r = (some (vi (z % 2)), W))) := by
  simp only [stepLS] at h
  split at h
  · split at h
    · rename_i hl; cases h; exact ⟨_, _, _, _, _, _, _, rfl, hl, Or.inl ⟨rfl, rfl⟩⟩
    · rename_i hl; cases h; exact ⟨_, _, _, _, _, _, _, rfl, hl, Or.inr ⟨rfl, rfl⟩⟩
    · cases h
  · cases h
theorem lreturn_someL (h : stepLS P Q TT mo sc kP k q pc L S W .lreturn len = some r) : ∃ z S' ps ml fr lc, S = .inr (.inl z) :: S' ∧ linf Q q = some (ps, ml, 4, fr, lc) ∧ r = (some (vl z), W) := by
  simp only [stepLS] at h
  split at h
  · split at h
    · rename_i hl; cases h; exact ⟨_, _, _, _, _, _, rfl, hl, rfl⟩
    · cases h
  · cases h
theorem return_someL (h : stepLS P Q TT mo sc kP k q pc L S W .return_ len = some r) : ∃ ps ml fr lc, S = [] ∧ linf Q q = some (ps, ml, 0, fr, lc) ∧ r = (none, W) := by
  simp only [stepLS] at h
  split at h
  · split at h
    · rename_i hl; cases h; exact ⟨_, _, _, _, rfl, hl, rfl⟩
    · cases h
  · cases h
end InvL
def EndL (P : PT) (C : String) (fnm : FN) (fkd : FK) (Z : State) (sc : ScT) (nA nf mo : Nat) (p : Program) (l : Launch) (e : Env) (R : Room) (s : State) (mi : MethodId) (args : Array Value) (below : List Frame) (meth : Method) (c : Code) (n0 q : Nat)
    (T : State) (A : Nat → Addr) (W : OWd) (locs : List Loc) (cells slots : Nat) (f0 : JFrame) (r : Option OV) (W' : OWd) : Prop :=
  ∃ (v : Option Value) (T' : State) (A' : Nat → Addr) (AO' : Nat → Nat → Addr) (lw : List Loc) (cells' slots' : Nat),
    Stand p l e R s mi args below meth c T' (locs ++ lw) cells' slots' ∧ RepW P C fnm fkd Z sc T'.heap A' AO' n0 W' ∧ (∀ k, k ≤ W.length → A' k = A k) ∧ W.length ≤ W'.length ∧ T.heap.size ≤ T'.heap.size ∧ Fr n0 lw ∧
    (q = 0 → cells' ≤ cW 1 nA W' ∧ slots' ≤ cW nf (psum P nA) W' ∧ W'.length ≤ mo) ∧ (q ≠ 0 → OwnMini.ts W' = OwnMini.ts W ∧ cells' = cells ∧ slots' = slots) ∧ RVl r v ∧ (meth.sig.returnType = none → v = none) ∧
    ∀ fs, (∀ (f : JFrame) (acts : List Action), f.method = mi → f.locked = none → f.entered = [] → (doReturn e (T'.setTop f) acts v).1 = T'.setFrames fs) → Steps p.tables e below (T.setTop f0) (T'.setFrames fs)
section SoundL
variable {P : PT} {Q : LT} {C own : String} {fnm : FN} {fkd : FK} {nm lnm : Nat → MethodName} {bys lbys : Nat → ByteArray} {nA nf mo : Nat} {a0 : Array Value} {Z : State} {sc : ScT}
variable {p : Program} {l : Launch} {e : Env} {R : Room} {s : State} {mi : MethodId} {args : Array Value} {below : List Frame} {meth : Method} {c : Code} {n0 q : Nat}
theorem EndL.trans {T T1 : State} {A A1 : Nat → Addr} {W W1 : OWd} {locs l1 : List Loc} {cells slots cells1 slots1 : Nat} {f0 f1 : JFrame} {r : Option OV} {W' : OWd}
    (E : EndL P C fnm fkd Z sc nA nf mo p l e R s mi args below meth c n0 q T1 A1 W1 (locs ++ l1) cells1 slots1 f1 r W') (hA : ∀ k, k ≤ W.length → A1 k = A k) (hW : W.length ≤ W1.length) (hh : T.heap.size ≤ T1.heap.size) (hF : Fr n0 l1) (hq : q ≠ 0 → OwnMini.ts W1 = OwnMini.ts W ∧ cells1 = cells ∧ slots1 = slots)
    (st : ∀ target, Steps p.tables e below (T1.setTop f1) target → Steps p.tables e below (T.setTop f0) target) : EndL P C fnm fkd Z sc nA nf mo p l e R s mi args below meth c n0 q T A W locs cells slots f0 r W' := by
  obtain ⟨v, T', A', AO', lw, cells', slots', h1, h2, h3, h4, h5, h6, h7, h8, h9, h10, h11⟩ := E
  refine ⟨v, T', A', AO', l1 ++ lw, cells', slots', by rw [← List.append_assoc]; exact h1, h2, fun k hk => (h3 k (by omega)).trans (hA k hk), by omega, by omega, hF.app h6, h7, fun hq' => ?_, h9, h10, fun fs hfs => st _ (h11 fs hfs)⟩
  obtain ⟨a1, a2, a3⟩ := hq hq'
  obtain ⟨b1, b2, b3⟩ := h8 hq'
  exact ⟨b1.trans a1, b2.trans a2, b3.trans a3⟩
def SoundAtL (P : PT) (Q : LT) (C own : String) (fnm : FN) (fkd : FK) (lbys : Nat → ByteArray) (nA nf mo : Nat) (Z : State) (sc : ScT) (l : Launch) (n : Nat) : Prop :=
  ∀ q pc L S W r W', runL P Q (2 * nA) mo sc n q pc L S W = some (r, W') → ∀ ps ml rk fr lc, linf Q q = some (ps, ml, rk, fr, lc) →
  ∀ (p : Program) (e : Env) (R : Room) (s : State) (mi : MethodId) (args : Array Value) (below : List Frame) (meth : Method) (c : Code) (T : State) (locs : List Loc) (cells slots : Nat) (A : Nat → Addr) (AO : Nat → Nat → Addr) (Ls : Array Slot) (St : List Value) (n0 : Nat),
    Stand p l e R s mi args below meth c T locs cells slots → p.tables.exec = Jvm.exec → Z.Warmed39 s.vm → s.vm.findClass own = some mi.cls → c.code = lbys q → c.maxLocals = ml → meth.sig.returnType = rty rk →
    RepW P C fnm fkd Z sc T.heap A AO n0 W → LR A W.length L Ls → SR A W.length S St → Ls.size = ml → n0 ≤ T.heap.size → fr ≤ R.frames → lc ≤ R.locals → cells ≤ R.cells → slots ≤ R.slots → W.length ≤ mo →
    (q = 0 → cells ≤ cW 1 nA W ∧ slots ≤ cW nf (psum P nA) W ∧ mo * (1 + nA) ≤ R.cells ∧ mo * (nf + psum P nA) ≤ R.slots) →
    EndL P C fnm fkd Z sc nA nf mo p l e R s mi args below meth c n0 q T A W locs cells slots (mkF mi pc Ls St) r W'
def QL (P : PT) (C : String) (fnm : FN) (fkd : FK) (Z : State) (sc : ScT) (n0 : Nat) (W : OWd) (A : Nat → Addr) (h : Heap) (r : Option OV) (W' : OWd) (v : Option Value) (h' : Heap) (L : List Loc) : Prop :=
  ∃ A' AO', RepW P C fnm fkd Z sc h' A' AO' n0 W' ∧ (∀ k, k ≤ W.length → A' k = A k) ∧ h.size ≤ h'.size ∧ Fr n0 L ∧ OwnMini.ts W' = OwnMini.ts W ∧ RVl r v
theorem metL (HL : TabL P Q C own nm lnm lbys a0 Z) {n : Nat} (hS : SoundAtL P Q C own fnm fkd lbys nA nf mo Z sc l n) {ps : List Nat} {ml rk fr lc : Nat} (hq : linf Q q = some (ps, ml, rk, fr, lc)) (hq0 : q ≠ 0) {as : List OV} {W : OWd} {r : Option OV} {W' : OWd}
    (hrun : runL P Q (2 * nA) mo sc n q 0 (initL as ml) [] W = some (r, W')) (hsz : (initL as ml).length ≤ ml) {A : Nat → Addr} {AO : Nat → Nat → Addr} {h : Heap} (hn0 : n0 ≤ h.size) (hR : RepW P C fnm fkd Z sc h A AO n0 W) (hmo : W.length ≤ mo) {vals : List Value} (hv : SR A W.length as vals) :
    MetFree l (lnm q) (head1 [Jvm.Cond.code (lnm q) (lbys q) ml (rty rk)] ({ frames := fr, cells := 0, slots := 0, locals := lc } : Room)) (fun a U => a = vals.toArray ∧ Z.Warmed39 U.vm ∧ U.heap = h) (fun _ _ _ _ _ => True)
      (fun _ U o U' => ∃ v L, o = .returned v ∧ QL P C fnm fkd Z sc n0 W A h r W' v U'.heap L ∧ FrameEnd U o U' L 0 0) := by
  have HL' := HL
  obtain ⟨-, -, -, -, -, -, hinf, hpn, -⟩ := HL'
  obtain ⟨hcls, -⟩ := hinf q ps ml rk fr lc hq hq0
  refine MetFree.of_bodySF (plainFor_of_name (by rw [hcls]; exact hpn)) hisR ?_
  intro p e s m' args below meth c s₁ Bd hml0 hP hK
  obtain ⟨rfl, hZ, hh⟩ := hP
  have X0 := Stand.of_body Bd
  have e0 : s₁.heap = h := by rw [← hh, Bd.state]; rfl
  have hown : s.vm.findClass own = some m'.cls := by rw [← hcls]; exact findClass_of_methodNamed Bd.named
  have hL := entry_rel (n := ml) hv
  have hz : (argsToLocals vals.toArray ml).size = ml := by
    rw [← hL.1]
    refine Nat.le_antisymm hsz ?_
    simp only [initL, List.length_append, List.length_replicate]; omega
  obtain ⟨v, T', A', AO', lw, cells', slots', h1, h2, h3, h4, h5, h6, h7, h8, h9, h10, h11⟩ := hS q 0 _ [] W r W' hrun ps ml rk fr lc hq p e _ s m' _ below meth c s₁ [] 0 0 A AO (argsToLocals vals.toArray ml) [] n0 X0 Bd.exec hZ hown Bd.bytes hml0 Bd.returns
    (by rw [e0]; exact hR) hL trivial hz (by rw [e0]; exact hn0) (Nat.le_refl _) (Nat.le_refl _) (Nat.zero_le _) (Nat.zero_le _) hmo (fun q0 => absurd q0 hq0)
  rw [e0] at h5
  obtain ⟨b1, b2, b3⟩ := h8 hq0
  obtain ⟨fs, hr, hrun', hended, hW, hsame⟩ := h1.leave (v := v) h10
  exact ⟨_, _, h11 fs hr, hrun', hended, v, _, rfl, ⟨A', AO', h2, h3, h5, h6, b1, h9⟩, ⟨_, rfl⟩, hW, hsame.mono (by omega) (by omega)⟩
end SoundL
set_option maxHeartbeats 4000000 in
theorem soundL {P : PT} {Q : LT} {C own : String} {fnm : FN} {fkd : FK} {nm lnm : Nat → MethodName} {bys lbys : Nat → ByteArray} {nA nf mo : Nat} {a0 : Array Value} {Z : State} {sc : ScT} (HT : TabP P C fnm fkd nm bys nA nf a0 Z) (HL : TabL P Q C own nm lnm lbys a0 Z) (hA1 : 1 ≤ nA) (l : Launch) : ∀ n, SoundAtL P Q C own fnm fkd lbys nA nf mo Z sc l n
  | 0 => fun q pc L S W r W' h => by cases h
  | n + 1 => by
    intro q pc L0 S W r W' h ps ml rk fr lc hq p e R s mi args below meth c T locs cells slots A AO Ls St n0 X hx hZ hown hby hml hret hR hL0 hSt hsz hn0 hfr hlc hce hsl hmo hroom
    have IH := soundL (mo := mo) (sc := sc) HT HL hA1 l n
    have IP := soundP HT l n
    have HT' := HT
    obtain ⟨-, -, -, -, -, -, -, -, tinf, -, -, tins, tini, -, thn, tnm, trk⟩ := HT'
    have HL' := HL
    obtain ⟨lcod, lcs, lv, lm, ls, lc', lin, lpn, lhn⟩ := HL'
    replace h : stepL P Q (2 * nA) mo sc (runP P n) (runL P Q (2 * nA) mo sc n) q pc L0 S W = some (r, W') := h
    unfold stepL at h
    cases hcd : lcode Q q pc with
    | none => rw [hcd] at h; cases h
    | some il =>
      obtain ⟨i, len⟩ := il
      rw [hcd] at h
      replace h : stepLI P Q (2 * nA) mo sc (runP P n) (runL P Q (2 * nA) mo sc n) q pc (mask (lliv Q q pc) L0) S W i len = some (r, W') := h
      have hL := hL0.mask (lliv Q q pc)
      generalize mask (lliv Q q pc) L0 = L at h hL
      obtain ⟨hdec, hchk⟩ := lcod q pc i len hcd
      have hd : decode c.code pc = .ok (i, len) := by rw [hby]; exact hdec
      have hcst : (∀ x z, lcst Q x = some (.inl z) → ∃ v : Int32, (Jvm.Cond.constant own x v).before args s = true ∧ v.toInt = z) ∧ (∀ x z, lcst Q x = some (.inr (.inl z)) → ∃ v : Int64, (Jvm.Cond.constantLong own x v).before args s = true ∧ v.toInt = z) :=
        ⟨fun x z hz => by obtain ⟨v, h1, h2⟩ := lcs.1 x z hz; exact ⟨v, mv hZ h1, h2⟩, fun x z hz => by obtain ⟨v, h1, h2⟩ := lcs.2 x z hz; exact ⟨v, mv hZ h1, h2⟩⟩
      have go : ∀ {pc' : Nat} {L' : OLs} {S' : List OV} {Ls' : Array Slot} {St' : List Value}, runL P Q (2 * nA) mo sc n q pc' L' S' W = some (r, W') → LR A W.length L' Ls' → SR A W.length S' St' → Ls'.size = ml →
          (∀ target, Steps p.tables e below (T.setTop (mkF mi pc' Ls' St')) target → Steps p.tables e below (T.setTop (mkF mi pc Ls St)) target) →
          EndL P C fnm fkd Z sc nA nf mo p l e R s mi args below meth c n0 q T A W locs cells slots (mkF mi pc Ls St) r W' := fun hrun hL1 hS1 hz1 st =>
        EndL.trans (l1 := []) (IH q _ _ _ W r W' hrun ps ml rk fr lc hq p e R s mi args below meth c T _ cells slots A AO _ _ n0 (by rw [List.append_nil]; exact X) hx hZ hown hby hml hret hR hL1 hS1 hz1 hn0 hfr hlc hce hsl hmo hroom) (fun _ _ => rfl) (Nat.le_refl _) (Nat.le_refl _) (Fr.nil _) (fun _ => ⟨rfl, rfl, rfl⟩) st
      -- going on behind an object's method
      have gv : ∀ {T1 : State} {L1 : List Loc} {v : Option Value} {y1 : Option OV} {o t t1 : Nat} {m m1 : OMem} {S' : List OV} {St' : List Value} {cells1 slots1 : Nat}, wget W o = some (t, m) → Stand p l e R s mi args below meth c T1 (locs ++ L1) cells1 slots1 →
          (∃ A', RepO P C fnm fkd Z T1.heap A' n0 t1 m1 ∧ (∀ j, j ≤ (t + 1) / 2 → A' j = AO o j) ∧ t ≤ t1 ∧ (∀ j, (t + 1) / 2 < j → j ≤ (t1 + 1) / 2 → T.heap.size ≤ A' j) ∧ Fr n0 L1 ∧ Sam T.heap T1.heap (AO o) ((t + 1) / 2) ∧ RVl y1 v) → SR A W.length S' St' → runL P Q (2 * nA) mo sc n q (pc + 3) L (pushR y1 S') (wput W o (t1, m1)) = some (r, W') →
          cells1 ≤ R.cells → slots1 ≤ R.slots → (q = 0 → cells1 ≤ cW 1 nA (wput W o (t1, m1)) ∧ slots1 ≤ cW nf (psum P nA) (wput W o (t1, m1))) → (q ≠ 0 → t1 = t ∧ cells1 = cells ∧ slots1 = slots) →
          (∀ target, Steps p.tables e below (T1.setTop (mkF mi (pc + 3) Ls (v.toList ++ St'))) target → Steps p.tables e below (T.setTop (mkF mi pc Ls St)) target) →
          EndL P C fnm fkd Z sc nA nf mo p l e R s mi args below meth c n0 q T A W locs cells slots (mkF mi pc Ls St) r W' := fun {T1 L1 v y1 o t t1 m m1 S' St' cells1 slots1} ho X1 hQ hS1 hrun hc1 hs1 h0 h1 st => by
        obtain ⟨A', g1, g2, g3, g4, g5, g6, g7⟩ := hQ
        have hR1 := hR.ran ho g1 g2 g4 g6
        have hlen := wput_len W o (t1, m1)
        refine EndL.trans (l1 := L1) (IH q _ _ _ _ r W' hrun ps ml rk fr lc hq p e R s mi args below meth c T1 _ cells1 slots1 A _ Ls _ n0 X1 hx hZ hown hby hml hret hR1 (by rw [hlen]; exact hL) (by rw [hlen]; exact g7.push hS1) hsz (Nat.le_trans hn0 g6.1) hfr hlc hc1 hs1 (by rw [hlen]; exact hmo) (fun q0 => ⟨(h0 q0).1, (h0 q0).2, (hroom q0).2.2.1, (hroom q0).2.2.2⟩)) (fun _ _ => rfl) (by rw [hlen]; exact Nat.le_refl _) g6.1 g5 (fun q0 => ?_) st
        obtain ⟨e1, e2, e3⟩ := h1 q0
        subst e1
        exact ⟨ts_wput ho, e2, e3⟩
      cases hsp : isSpecL i with
      | false =>
        simp only [stepLI, hsp, cond_false] at h
        obtain ⟨pc', L', S', Ls', St', h1, h2, h3, h4, h5⟩ := pstep_sound (cst := lcst Q) (k := fun pc' L' S' => runL P Q (2 * nA) mo sc n q pc' L' S' W) X hx hown hcst hL hSt hd hchk h
        exact go h1 h2 h3 (h4.trans hsz) h5
      | true =>
      simp only [stepLI, hsp, cond_true] at h
      clear hcd
      cases i
      case new x =>
        obtain rfl : len = 3 := by simpa [chk, ilen] using hchk
        obtain ⟨hcl, hq0, hlt, h⟩ := new_someL h
        obtain ⟨b1, b2, b3, b4⟩ := hroom hq0
        have d1 := cW_le 1 nA W
        have d2 := cW_le nf (psum P nA) W
        have d3 : (W.length + 1) * (1 + nA) ≤ mo * (1 + nA) := Nat.mul_le_mul_right _ hlt
        have d4 : (W.length + 1) * (nf + psum P nA) ≤ mo * (nf + psum P nA) := Nat.mul_le_mul_right _ hlt
        rw [Nat.add_mul] at d3 d4
        obtain ⟨T1, h1, X1, e1, E, Ex, D, -, st⟩ := newO X hx hZ hown (lc' x hcl) tins tini rfl (g := mkF mi pc Ls St) rfl hd (by omega) (by omega)
        subst e1
        have hR1 := hR.made HT hn0 E Ex D
        have hAg : ∀ k, k ≤ W.length → updA A (W.length + 1) T.heap.size k = A k := fun k hk => updA_ne (by omega)
        have hln : (W ++ [((0 : Nat), z0)]).length = W.length + 1 := by simp
        refine EndL.trans (l1 := []) (IH q _ _ _ _ r W' h ps ml rk fr lc hq p e R s mi args below meth c T1 _ (cells + 1) (slots + nf) _ _ Ls (.ref T.heap.size :: St) n0 (by rw [List.append_nil]; exact X1) hx hZ hown hby hml hret hR1 (by rw [hln]; exact hL.mono hAg (by omega)) (by rw [hln]; exact ⟨⟨Nat.le_refl _, by rw [updA_eq]⟩, hSt.mono hAg (by omega)⟩) hsz (Nat.le_trans hn0 E.1) hfr hlc (by omega) (by omega) (by rw [hln]; omega) (fun _ => ⟨by rw [cW_append]; omega, by rw [cW_append]; omega, b3, b4⟩)) hAg (by rw [hln]; omega) E.1 (Fr.nil _) (fun q0 => absurd hq0 q0) st
      case arraylength =>
        obtain rfl : len = 1 := by simpa [chk, ilen] using hchk
        obtain ⟨S', rfl, hs, h⟩ := length_someL h
        obtain ⟨hb0, St', rfl, hS'⟩ := SR.r1 hSt
        obtain ⟨g1, cl, g2, g3, g4, g5⟩ := hR.2.2 hs
        exact go h hL (SR.ci (by rw [len_toInt (by omega)]; exact g3) hS') hsz (fun target hr => X.arraylength hx g2.1 (State.isArrayOf_alike hZ.alike g2.2.1) (g := mkF mi pc Ls (.ref (A 0) :: St')) rfl rfl hd target hr)
      case iaload =>
        obtain rfl : len = 1 := by simpa [chk, ilen] using hchk
        obtain ⟨i, S', rfl, hs, hi0, hi1, h⟩ := iaload_someL h
        obtain ⟨y, St1, rfl, rfl, hS1⟩ := SR.i1 hSt
        obtain ⟨hb0, St', rfl, hS'⟩ := SR.r1 hS1
        obtain ⟨g1, cl, g2, g3, g4, g5⟩ := hR.2.2 hs
        obtain ⟨w, hv, hw⟩ := g5 y.toNatClampNeg (by have := clamp32 hi0; omega)
        rw [clamp32 hi0] at hw
        exact go h hL (SR.ci hw hS') hsz (fun target hr => X.iaload hx g2.1 (State.isArrayOf_alike hZ.alike g2.2.1) g2.2.2 (idx32 hi0 (by omega)) hv (g := mkF mi pc Ls (.int y :: .ref (A 0) :: St')) rfl rfl hd target hr)
      case invokespecial x =>
        obtain rfl : len = 3 := by simpa [chk, ilen] using hchk
        obtain ⟨ps', ml', rk', fr', lc'', ps0, ml0, rk0, fr0, lc0, as, o, S', m, y, hi', hq1, hpop, ho, hmk, hq0, hf1, hl1, hlen, hcall, hyT, hcont⟩ := special_someL h
        clear h
        cases hq.symm.trans hq1
        obtain ⟨y1, t1, m1⟩ := y
        have hyT : t1 = 2 * nA := hyT
        obtain ⟨B, St1, hB, hS1, rfl, hBl⟩ := popA_rel hpop hSt
        obtain ⟨hb0, St', rfl, hS'⟩ := SR.r1 hS1
        obtain ⟨hRo, hA0⟩ := hR.1 o _ _ ho
        obtain ⟨b1, b2, b3, b4⟩ := hroom hq0
        have d1 := cW_raw (a := 1) (b := nA) ho
        have d2 := cW_raw (a := nf) (b := psum P nA) ho
        have d3 : W.length * (1 + nA) ≤ mo * (1 + nA) := Nat.mul_le_mul_right _ hmo
        have d4 : W.length * (nf + psum P nA) ≤ mo * (nf + psum P nA) := Nat.mul_le_mul_right _ hmo
        have hargs : SR (AO o) ((0 + 1) / 2) (vr 0 :: as) (.ref (A (o + 1)) :: B) := ⟨⟨by omega, by rw [hA0]⟩, by simpa using hB (AO o) ((0 + 1) / 2) [] trivial⟩
        obtain ⟨icls, iinst, icode, -, params, ipd, ipl⟩ := tinf 0 _ _ _ _ _ hi'
        have hM := metP (l := l) (cl := nA) (sl := psum P nA) HT IP hi' hcall hlen hn0 hRo hargs (fun _ => ⟨by omega, by omega⟩)
        have hBk := backOf (R := R) (p := p) (e := e) (below := below) (s := s) (args := args) (len := 3) (W := cats S') (rm := { frames := fr', cells := nA, slots := psum P nA, locals := lc'' }) (Q := QP P C fnm fkd Z n0 0 0 (AO o) T.heap y1 t1 m1) hM hZ icode (by rw [icls]; exact tini) (by show fr' + 1 ≤ R.frames; omega) (by show cats S' + (ml' + 11) + lc'' ≤ R.locals; omega)
        have hyn : (nm 0).cls ≠ "java/lang/invoke/MethodHandle" ∧ (nm 0).cls ≠ "java/lang/invoke/VarHandle" := by rw [icls]; exact thn
        have hlenA : ∀ sig, parseMethodDescriptor (nm 0).desc = some sig → B.length = sig.parameters.length := lenOf ipd (by rw [hBl, ipl])
        have hrk : rty rk' = none := by rw [trk _ _ _ _ _ hi']; rfl
        rw [hrk] at icode
        obtain ⟨v, vm1, ⟨T1, L1, k1, n1⟩, -, X1, ⟨Lc, hQ, l1, c1, s1⟩, st⟩ := X.specialBack hx tnm hown (mv hZ (lm x hmk)) (mv hZ iinst) (mv hZ icode) hyn hBk (g := mkF mi pc Ls (B.reverse ++ .ref (A (o + 1)) :: St')) rfl (by rw [hml]; exact hsz) (Steps.refl _) (a := A (o + 1)) (argsL := B) (rest := St') hlenA rfl (by show 2 * 0 + _ ≤ _; rw [hS'.catsum]; omega) hd (fun _ _ => ⟨rfl, rfl, by show cells + nA ≤ _; omega, by show slots + psum P nA ≤ _; omega⟩)
        dsimp only [Pt.U, Pt.locs, Pt.cells, Pt.slots] at X1 l1 c1 s1 st hQ
        subst l1 c1 s1
        obtain ⟨A', g1, g2, g3, g4, g5, g6, g7, g8⟩ := hQ
        subst hyT
        have e2 : 2 * nA = (2 * nA - 1) + 1 := by omega
        have w1 : cW 1 nA (wput W o (2 * nA, m1)) = cW 1 nA W + nA := by rw [e2]; exact cW_made ho
        have w2 : cW nf (psum P nA) (wput W o (2 * nA, m1)) = cW nf (psum P nA) W + psum P nA := by rw [e2]; exact cW_made ho
        exact gv ho X1 ⟨A', g1, g2, g3, g4, g5, g6, g7⟩ hS' hcont (by omega) (by omega) (fun _ => ⟨by omega, by omega⟩) (fun q0 => absurd hq0 q0) (fun target hr => st.trans hr)
      case invokevirtual x =>
        obtain rfl : len = 3 := by simpa [chk, ilen] using hchk
        obtain ⟨q', ps', ml', rk', fr', lc'', ps0, ml0, rk0, fr0, lc0, as, o, S', t, m, y, hx', hi', hq1, hpop, ho, hf1, hl1, hq'0, hlen, hcall, hcont⟩ := virtual_someL h
        clear h
        cases hq.symm.trans hq1
        obtain ⟨y1, t1, m1⟩ := y
        obtain ⟨B, St1, hB, hS1, rfl, hBl⟩ := popA_rel hpop hSt
        obtain ⟨hb0, St', rfl, hS'⟩ := SR.r1 hS1
        obtain ⟨hRo, hA0⟩ := hR.1 o _ _ ho
        have hargs : SR (AO o) ((t + 1) / 2) (vr 0 :: as) (.ref (A (o + 1)) :: B) := ⟨⟨by omega, by rw [hA0]⟩, by simpa using hB (AO o) ((t + 1) / 2) [] trivial⟩
        obtain ⟨icls, iinst, icode, -, params, ipd, ipl⟩ := tinf q' _ _ _ _ _ hi'
        obtain ⟨vl1, vl2, vl3⟩ := lv x _ hx'
        have hM := metP (l := l) (cl := 0) (sl := 0) HT IP hi' hcall hlen hn0 hRo hargs (fun q0 => absurd q0 hq'0)
        have hBk := backOf (R := R) (p := p) (e := e) (below := below) (s := s) (args := args) (len := 3) (W := cats S') (rm := { frames := fr', cells := 0, slots := 0, locals := lc'' }) (Q := QP P C fnm fkd Z n0 q' t (AO o) T.heap y1 t1 m1) hM hZ icode (by rw [icls]; exact tini) (by show fr' + 1 ≤ R.frames; omega) (by show cats S' + (ml' + 11) + lc'' ≤ R.locals; omega)
        have hyn : (nm q').cls ≠ "java/lang/invoke/MethodHandle" ∧ (nm q').cls ≠ "java/lang/invoke/VarHandle" := by rw [icls]; exact thn
        have hlenA : ∀ sig, parseMethodDescriptor (nm q').desc = some sig → B.length = sig.parameters.length := lenOf ipd (by rw [hBl, ipl])
        obtain ⟨cB, kB, i1, i2, i3⟩ := isOf (T := T) hZ rfl hRo.1
        rw [hA0] at i3
        obtain ⟨v, vm1, ⟨T1, L1, k1, n1⟩, -, X1, ⟨Lc, hQ, l1, c1, s1⟩, st⟩ := X.virtualBack hx (C := C) (y := nm q') (z := nm q') hown (mv hZ vl1) (mv hZ vl2) (notFace_of_selects (args := args) (mv hZ vl3)) (mv hZ vl3) (mv hZ iinst) hyn hBk i1 i3 (g := mkF mi pc Ls (B.reverse ++ .ref (A (o + 1)) :: St')) rfl (by rw [hml]; exact hsz) (Steps.refl _) (argsL := B) (rest := St') hlenA rfl (by show 2 * 0 + _ ≤ _; rw [hS'.catsum]; omega) hd (fun _ _ => ⟨rfl, rfl, hce, hsl⟩)
        dsimp only [Pt.U, Pt.locs, Pt.cells, Pt.slots] at X1 l1 c1 s1 st hQ
        subst l1 c1 s1
        obtain ⟨A', g1, g2, g3, g4, g5, g6, g7, g8⟩ := hQ
        obtain rfl := g8 hq'0
        have w1 := cW_ts (a := 1) (b := nA) (ts_wput (m' := m1) ho)
        have w2 := cW_ts (a := nf) (b := psum P nA) (ts_wput (m' := m1) ho)
        exact gv ho X1 ⟨A', g1, g2, g3, g4, g5, g6, g7⟩ hS' hcont hce hsl (fun q0 => ⟨by rw [w1]; exact (hroom q0).1, by rw [w2]; exact (hroom q0).2.1⟩) (fun _ => ⟨rfl, rfl, rfl⟩) (fun target hr => st.trans hr)
      case invokestatic x =>
        obtain rfl : len = 3 := by simpa [chk, ilen] using hchk
        obtain ⟨q', ps', ml', rk', fr', lc'', ps0, ml0, rk0, fr0, lc0, as, S', y, hx', hi', hq1, hpop, hf1, hl1, hq'0, hlen, hcall, hcont⟩ := static_someL h
        clear h
        cases hq.symm.trans hq1
        obtain ⟨y1, W1⟩ := y
        obtain ⟨B, St', hB, hS', rfl, hBl⟩ := popB_rel (X := []) hpop hSt trivial
        rw [List.append_nil] at hB
        obtain ⟨icls, istat, iini, icode, params, ipd, ipl⟩ := lin q' _ _ _ _ _ hi' hq'0
        have hM := metL (l := l) HL IH hi' hq'0 hcall hlen hn0 hR hmo hB
        have hBk := backOf (R := R) (p := p) (e := e) (below := below) (s := s) (args := args) (len := 3) (W := cats S') (rm := { frames := fr', cells := 0, slots := 0, locals := lc'' }) (Q := QL P C fnm fkd Z sc n0 W A T.heap y1 W1) hM hZ icode (by rw [icls]; exact iini) (by show fr' + 1 ≤ R.frames; omega) (by show cats S' + (ml' + 11) + lc'' ≤ R.locals; omega)
        have hyn : (lnm q').cls ≠ "java/lang/invoke/MethodHandle" ∧ (lnm q').cls ≠ "java/lang/invoke/VarHandle" := by rw [icls]; exact lhn
        have hlenA : ∀ sig, parseMethodDescriptor (lnm q').desc = some sig → B.length = sig.parameters.length := lenOf ipd (by rw [hBl, ipl])
        obtain ⟨v, vm1, ⟨T1, L1, k1, n1⟩, -, X1, ⟨Lc, hQ, l1, c1, s1⟩, st⟩ := Jvm.LawKit.callS X hx hown (mv hZ (ls x _ hx')) (mv hZ istat) (mv hZ (by rw [icls]; exact iini)) (mv hZ icode) hyn hBk (g := mkF mi pc Ls (B.reverse ++ St')) rfl (by rw [hml]; exact hsz) (argsL := B) (rest := St') hlenA rfl (by show 2 * 0 + _ ≤ _; rw [hS'.catsum]; omega) hd (fun _ _ => ⟨rfl, rfl, hce, hsl⟩)
        dsimp only [Pt.U, Pt.locs, Pt.cells, Pt.slots] at X1 l1 c1 s1 st hQ
        subst l1 c1 s1
        obtain ⟨A', AO', g1, g2, g3, g4, g5, g6⟩ := hQ
        have w1 := cW_ts (a := 1) (b := nA) g5
        have w2 := cW_ts (a := nf) (b := psum P nA) g5
        have wl := ts_len g5
        exact EndL.trans (l1 := Lc) (IH q _ _ _ W1 r W' hcont ps ml rk fr lc hq p e R s mi args below meth c T1 _ _ _ A' AO' Ls _ n0 X1 hx hZ hown hby hml hret g1 (by rw [wl]; exact hL.mono g2 (Nat.le_refl _)) (by rw [wl]; exact g6.push (hS'.mono g2 (Nat.le_refl _))) hsz (Nat.le_trans hn0 g3) hfr hlc hce hsl (by rw [wl]; exact hmo) (fun q0 => ⟨by rw [w1]; exact (hroom q0).1, by rw [w2]; exact (hroom q0).2.1, (hroom q0).2.2.1, (hroom q0).2.2.2⟩)) g2 (by rw [wl]; exact Nat.le_refl _) g3 g4 (fun _ => ⟨g5, rfl, rfl⟩) st
      case ireturn =>
        obtain rfl : len = 1 := by simpa [chk, ilen] using hchk
        obtain ⟨z, S', ps', ml', rk', fr', lc'', rfl, hq', hcase⟩ := ireturn_someL h
        cases hq.symm.trans hq'
        obtain ⟨y, St', rfl, hy, hS'⟩ := SR.i1 hSt
        rcases hcase with ⟨rfl, hr⟩ | ⟨rfl, hr⟩
        · cases hr
          exact ⟨some (.int y), T, A, AO, [], cells, slots, by rw [List.append_nil]; exact X, hR, fun _ _ => rfl, Nat.le_refl _, Nat.le_refl _, Fr.nil _, fun q0 => ⟨(hroom q0).1, (hroom q0).2.1, hmo⟩, fun _ => ⟨rfl, rfl, rfl⟩, ⟨y, rfl, hy⟩, (fun q => by rw [hret] at q; cases q), fun fs hfs => retI' X hx hret hd hfs⟩
        · cases hr
          exact ⟨some (.int (y &&& 1)), T, A, AO, [], cells, slots, by rw [List.append_nil]; exact X, hR, fun _ _ => rfl, Nat.le_refl _, Nat.le_refl _, Fr.nil _, fun q0 => ⟨(hroom q0).1, (hroom q0).2.1, hmo⟩, fun _ => ⟨rfl, rfl, rfl⟩, ⟨_, rfl, by rw [and1_eq, hy]⟩, (fun q => by rw [hret] at q; cases q), fun fs hfs => retN X hx (t := .boolean) hret (by simp) hd hfs⟩
      case lreturn =>
        obtain rfl : len = 1 := by simpa [chk, ilen] using hchk
        obtain ⟨z, S', ps', ml', fr', lc'', rfl, hq', hr⟩ := lreturn_someL h
        cases hq.symm.trans hq'
        cases hr
        obtain ⟨y, St', rfl, hy, hS'⟩ := SR.l1 hSt
        exact ⟨some (.long y), T, A, AO, [], cells, slots, by rw [List.append_nil]; exact X, hR, fun _ _ => rfl, Nat.le_refl _, Nat.le_refl _, Fr.nil _, fun q0 => ⟨(hroom q0).1, (hroom q0).2.1, hmo⟩, fun _ => ⟨rfl, rfl, rfl⟩, ⟨y, rfl, hy⟩, (fun q => by rw [hret] at q; cases q), fun fs hfs => retOut X hx hret rfl (Or.inr (Or.inl ⟨rfl, rfl, y, rfl⟩)) hd hfs⟩
      case return_ =>
        obtain rfl : len = 1 := by simpa [chk, ilen] using hchk
        obtain ⟨ps', ml', fr', lc'', rfl, hq', hr⟩ := return_someL h
        cases hq.symm.trans hq'
        cases hr
        cases St with
        | cons _ _ => exact hSt.elim
        | nil => exact ⟨none, T, A, AO, [], cells, slots, by rw [List.append_nil]; exact X, hR, fun _ _ => rfl, Nat.le_refl _, Nat.le_refl _, Fr.nil _, fun q0 => ⟨(hroom q0).1, (hroom q0).2.1, hmo⟩, fun _ => ⟨rfl, rfl, rfl⟩, rfl, fun _ => rfl, fun fs hfs => X.returnOut hx hret hd hfs⟩
      all_goals cases hsp
end Jvm.OwnMini
namespace Jvm.OwnMini
/-! A plain function's outcome, followed by what the machine does from there, is what the machine does. -/
def Sim {α ρ : Type} (o : Option α) (K : α → Nat → Option ρ) (F : Nat → Option ρ) : Prop := ∀ a, o = some a → ∀ r, (∃ n, K a n = some r) → ∃ n, F n = some r
def Mono {ρ : Type} (F : Nat → Option ρ) : Prop := ∀ n r, F n = some r → F (n + 1) = some r
theorem Mono.le {ρ : Type} {F : Nat → Option ρ} (h : Mono F) {n k : Nat} (hk : n ≤ k) {r : ρ} (hn : F n = some r) : F k = some r := by
  induction hk with
  | refl => exact hn
  | step _ ih => exact h _ _ ih
section
variable {α β ρ ρ1 σ ε : Type} {K : α → Nat → Option ρ} {F : Nat → Option ρ}
theorem Sim.pur (a : α) (K : α → Nat → Option ρ) : Sim (some a) K (K a) := fun b h r hr => by cases h; exact hr
theorem Sim.non : Sim none K F := fun b h => by cases h
theorem Sim.shift (k : Nat) {o : Option α} {G : Nat → Option ρ} (h : ∀ n, F (n + k) = G n) (s : Sim o K G) : Sim o K F := fun a ha r hr => by
  obtain ⟨n, hn⟩ := s a ha r hr
  exact ⟨n + k, (h n).trans hn⟩
theorem Sim.ite {c : Prop} [Decidable c] {x y : Option α} {F G : Nat → Option ρ} (h1 : c → Sim x K F) (h2 : ¬ c → Sim y K G) : Sim (if c then x else y) K (fun n => if c then F n else G n) := by
  by_cases h : c
  · simp only [if_pos h]; exact h1 h
  · simp only [if_neg h]; exact h2 h
theorem Sim.grd {c : Prop} [Decidable c] {x : Option α} {F : Nat → Option ρ} (h1 : c → Sim x K F) : Sim (if c then x else none) K (fun n => if c then F n else none) := Sim.ite h1 (fun _ => Sim.non)
theorem Sim.dv {c : Prop} [Decidable c] {x : Option α} {F : Nat → Option ρ} (h1 : ¬ c → Sim x K F) : Sim (if c then none else x) K (fun n => if c then none else F n) := Sim.ite (fun _ => Sim.non) h1
theorem Sim.bind {f : Option β} {g : β → Option α} {K1 : β → Nat → Option ρ} (h1 : Sim f K1 F) (h2 : ∀ b, Sim (g b) K (K1 b)) : Sim (f.bind g) K F := fun a ha r hr => by
  cases f with
  | none => cases ha
  | some b => exact h1 b rfl r (h2 b a ha r hr)
theorem Sim.jmp {o : Option α} {G : Nat → Option ρ} (s : Sim o K G) (h0 : G 0 = none) (h : ∀ n, F (n + 1) = G (n + 1)) : Sim o K F := fun a ha r hr => by
  obtain ⟨n, hn⟩ := s a ha r hr
  cases n with
  | zero => rw [h0] at hn; cases hn
  | succ n => exact ⟨n + 1, (h n).trans hn⟩
theorem Sim.leaf {a : α} (h0 : K a 0 = none) (h : ∀ n, F (n + 1) = K a (n + 1)) : Sim (some a) K F := Sim.jmp (Sim.pur a K) h0 h
theorem Sim.call {f : Option β} {g : β → Option α} {K1 : β → Nat → Option ρ1} {F1 : Nat → Option ρ1} {F2 : ρ1 → Nat → Option ρ} {v : β → ρ1} (h1 : Sim f K1 F1) (hK : ∀ b n, K1 b n = some (v b)) (m1 : Mono F1) (m2 : ∀ y, Mono (F2 y)) (h2 : ∀ b, Sim (g b) K (F2 (v b))) :
    Sim (f.bind g) K (fun n => (F1 n).bind fun y => F2 y n) := fun a ha r hr => by
  cases f with
  | none => cases ha
  | some b =>
    obtain ⟨n1, hn1⟩ := h1 b rfl (v b) ⟨0, hK b 0⟩
    obtain ⟨n2, hn2⟩ := h2 b a ha r hr
    refine ⟨max n1 n2, ?_⟩
    show (F1 (max n1 n2)).bind _ = _
    rw [m1.le (Nat.le_max_left _ _) hn1]
    exact (m2 _).le (Nat.le_max_right _ _) hn2
/-- a loop: its body says: once more, or out -/
def lp (body : σ → Option (σ ⊕ ε)) : Nat → σ → Option ε
  | 0, _ => none
  | n + 1, s => match body s with
    | none => none
    | some (.inl s') => lp body n s'
    | some (.inr e) => some e
theorem Sim.lp {body : σ → Option (σ ⊕ ε)} {H : σ → Nat → Option ρ} {X : ε → Nat → Option ρ} (hb : ∀ s, Sim (body s) (Sum.elim H X) (H s)) : ∀ N s, Sim (OwnMini.lp body N s) X (H s)
  | 0, s => Sim.non
  | N + 1, s => fun a ha r hr => by
    unfold OwnMini.lp at ha
    cases hbs : body s with
    | none => rw [hbs] at ha; cases ha
    | some x =>
      rw [hbs] at ha
      cases x with
      | inl s' => exact hb s _ hbs r (Sim.lp hb N s' a ha r hr)
      | inr e => cases ha; exact hb s _ hbs r hr
end
/-- more turns than any loop here makes -/
def NN : Nat := 4611686018427387904
end Jvm.OwnMini
namespace Jvm.OwnMini
open Jvm Jvm.ClassFile Sem Op Lib Jvm.Free Jvm.Stand Jvm.LawKit Jvm.RoadKit
/-! More fuel never changes an answer. -/
theorem br_mono {β : Type} {c : ClassFile.Cond} {a b : Int} {x y x' y' : Option β} {r : β} (h1 : x = some r → x' = some r) (h2 : y = some r → y' = some r) (h : br c a b x y = some r) : br c a b x' y' = some r := by
  cases c <;> simp only [br] at h ⊢ <;> split at h <;> rename_i q <;> first | (rw [if_pos q]; first | exact h1 h | exact h2 h) | (rw [if_neg q]; first | exact h1 h | exact h2 h)
theorem tsw_mono {β : Type} (a : Int) : ∀ (lo : Int) (os : List Int) {f f' : Int → Option β} {d d' : Option β} {r : β}, (∀ o, f o = some r → f' o = some r) → (d = some r → d' = some r) → tsw a lo os f d = some r → tsw a lo os f' d' = some r
  | lo, [], f, f', d, d', r, h1, h2, h => h2 h
  | lo, o :: os, f, f', d, d', r, h1, h2, h => by
    unfold tsw at h ⊢
    split at h
    · rename_i q; rw [if_pos q]; exact h1 o h
    · rename_i q; rw [if_neg q]; exact tsw_mono a _ os h1 h2 h
set_option maxHeartbeats 4000000 in
theorem pstep_mono {β : Type} {cst : Nat → Option OV} {i : Instr} {pc len : Nat} {L : OLs} {S : List OV} {k k' : Nat → OLs → List OV → Option β} (hk : ∀ a b c r, k a b c = some r → k' a b c = some r) {r : β} (h : pstep cst i pc len L S k = some r) : pstep cst i pc len L S k' = some r := by
  cases i
  case iconst z =>
    exact hk _ _ _ _ h
  case bipush z =>
    exact hk _ _ _ _ h
  case sipush z =>
    exact hk _ _ _ _ h
  case lconst z =>
    exact hk _ _ _ _ h
  case ldc x =>
    simp only [pstep] at h ⊢
    cases hq : cst x with
    | none => rw [hq] at h; cases h
    | some v =>
      rw [hq] at h
      rcases v with z | z | z
      · exact hk _ _ _ _ h
      · cases h
      · cases h
  case ldc_w x =>
    simp only [pstep] at h ⊢
    cases hq : cst x with
    | none => rw [hq] at h; cases h
    | some v =>
      rw [hq] at h
      rcases v with z | z | z
      · exact hk _ _ _ _ h
      · cases h
      · cases h
  case ldc2_w x =>
    simp only [pstep] at h ⊢
    cases hq : cst x with
    | none => rw [hq] at h; cases h
    | some v =>
      rw [hq] at h
      rcases v with z | z | z
      · cases h
      · exact hk _ _ _ _ h
      · cases h
  case iload x =>
    obtain ⟨z, hg, h⟩ := gi_some h
    simp only [pstep, gi, hg]
    exact hk _ _ _ _ h
  case iload_n x =>
    obtain ⟨z, hg, h⟩ := gi_some h
    simp only [pstep, gi, hg]
    exact hk _ _ _ _ h
  case lload x =>
    obtain ⟨z, hg, h⟩ := gl_some h
    simp only [pstep, gl, hg]
    exact hk _ _ _ _ h
  case lload_n x =>
    obtain ⟨z, hg, h⟩ := gl_some h
    simp only [pstep, gl, hg]
    exact hk _ _ _ _ h
  case aload x =>
    obtain ⟨z, hg, h⟩ := gr_some h
    simp only [pstep, gr, hg]
    exact hk _ _ _ _ h
  case aload_n x =>
    obtain ⟨z, hg, h⟩ := gr_some h
    simp only [pstep, gr, hg]
    exact hk _ _ _ _ h
  case istore x =>
    obtain ⟨z, S', rfl, h⟩ := pi1_some h
    obtain ⟨h0, h⟩ := inL_some h
    simp only [pstep, pi1, inL, if_pos h0]
    exact hk _ _ _ _ h
  case istore_n x =>
    obtain ⟨z, S', rfl, h⟩ := pi1_some h
    obtain ⟨h0, h⟩ := inL_some h
    simp only [pstep, pi1, inL, if_pos h0]
    exact hk _ _ _ _ h
  case lstore x =>
    obtain ⟨z, S', rfl, h⟩ := pl1_some h
    obtain ⟨h0, h⟩ := inL_some h
    simp only [pstep, pl1, inL, if_pos h0]
    exact hk _ _ _ _ h
  case lstore_n x =>
    obtain ⟨z, S', rfl, h⟩ := pl1_some h
    obtain ⟨h0, h⟩ := inL_some h
    simp only [pstep, pl1, inL, if_pos h0]
    exact hk _ _ _ _ h
  case astore x =>
    obtain ⟨z, S', rfl, h⟩ := pr1_some h
    obtain ⟨h0, h⟩ := inL_some h
    simp only [pstep, pr1, inL, if_pos h0]
    exact hk _ _ _ _ h
  case astore_n x =>
    obtain ⟨z, S', rfl, h⟩ := pr1_some h
    obtain ⟨h0, h⟩ := inL_some h
    simp only [pstep, pr1, inL, if_pos h0]
    exact hk _ _ _ _ h
  case iinc x z =>
    obtain ⟨a, hg, h⟩ := gi_some h
    obtain ⟨h0, h⟩ := inL_some h
    simp only [pstep, gi, hg, inL, if_pos h0]
    exact hk _ _ _ _ h
  case iadd =>
    obtain ⟨a, b', S', rfl, h⟩ := pi2_some h
    exact hk _ _ _ _ h
  case isub =>
    obtain ⟨a, b', S', rfl, h⟩ := pi2_some h
    exact hk _ _ _ _ h
  case imul =>
    obtain ⟨a, b', S', rfl, h⟩ := pi2_some h
    exact hk _ _ _ _ h
  case iand =>
    obtain ⟨a, b', S', rfl, h⟩ := pi2_some h
    exact hk _ _ _ _ h
  case ior =>
    obtain ⟨a, b', S', rfl, h⟩ := pi2_some h
    exact hk _ _ _ _ h
  case ixor =>
    obtain ⟨a, b', S', rfl, h⟩ := pi2_some h
    exact hk _ _ _ _ h
  case ishl =>
    obtain ⟨a, b', S', rfl, h⟩ := pi2_some h
    exact hk _ _ _ _ h
  case ishr =>
    obtain ⟨a, b', S', rfl, h⟩ := pi2_some h
    exact hk _ _ _ _ h
  case iushr =>
    obtain ⟨a, b', S', rfl, h⟩ := pi2_some h
    exact hk _ _ _ _ h
  case ladd =>
    obtain ⟨a, b', S', rfl, h⟩ := pl2_some h
    exact hk _ _ _ _ h
  case lsub =>
    obtain ⟨a, b', S', rfl, h⟩ := pl2_some h
    exact hk _ _ _ _ h
  case lmul =>
    obtain ⟨a, b', S', rfl, h⟩ := pl2_some h
    exact hk _ _ _ _ h
  case land =>
    obtain ⟨a, b', S', rfl, h⟩ := pl2_some h
    exact hk _ _ _ _ h
  case lor =>
    obtain ⟨a, b', S', rfl, h⟩ := pl2_some h
    exact hk _ _ _ _ h
  case lxor =>
    obtain ⟨a, b', S', rfl, h⟩ := pl2_some h
    exact hk _ _ _ _ h
  case lcmp =>
    obtain ⟨a, b', S', rfl, h⟩ := pl2_some h
    exact hk _ _ _ _ h
  case lshl =>
    obtain ⟨a, b', S', rfl, h⟩ := pli_some h
    exact hk _ _ _ _ h
  case lshr =>
    obtain ⟨a, b', S', rfl, h⟩ := pli_some h
    exact hk _ _ _ _ h
  case lushr =>
    obtain ⟨a, b', S', rfl, h⟩ := pli_some h
    exact hk _ _ _ _ h
  case idiv =>
    obtain ⟨a, b', S', rfl, h⟩ := pi2_some h
    simp only [pstep, pi2] at h ⊢
    by_cases hz : b' = 0
    · rw [if_pos hz] at h; cases h
    · rw [if_neg hz] at h ⊢; exact hk _ _ _ _ h
  case irem =>
    obtain ⟨a, b', S', rfl, h⟩ := pi2_some h
    simp only [pstep, pi2] at h ⊢
    by_cases hz : b' = 0
    · rw [if_pos hz] at h; cases h
    · rw [if_neg hz] at h ⊢; exact hk _ _ _ _ h
  case ldiv =>
    obtain ⟨a, b', S', rfl, h⟩ := pl2_some h
    simp only [pstep, pl2] at h ⊢
    by_cases hz : b' = 0
    · rw [if_pos hz] at h; cases h
    · rw [if_neg hz] at h ⊢; exact hk _ _ _ _ h
  case lrem =>
    obtain ⟨a, b', S', rfl, h⟩ := pl2_some h
    simp only [pstep, pl2] at h ⊢
    by_cases hz : b' = 0
    · rw [if_pos hz] at h; cases h
    · rw [if_neg hz] at h ⊢; exact hk _ _ _ _ h
  case ineg =>
    obtain ⟨a, S', rfl, h⟩ := pi1_some h
    exact hk _ _ _ _ h
  case i2l =>
    obtain ⟨a, S', rfl, h⟩ := pi1_some h
    exact hk _ _ _ _ h
  case i2b =>
    obtain ⟨a, S', rfl, h⟩ := pi1_some h
    exact hk _ _ _ _ h
  case lneg =>
    obtain ⟨a, S', rfl, h⟩ := pl1_some h
    exact hk _ _ _ _ h
  case l2i =>
    obtain ⟨a, S', rfl, h⟩ := pl1_some h
    exact hk _ _ _ _ h
  case goto o =>
    exact hk _ _ _ _ h
  case if_icmp c o =>
    obtain ⟨a, b', S', rfl, h⟩ := pi2_some h
    exact br_mono (hk _ _ _ _) (hk _ _ _ _) h
  case ifCond c o =>
    obtain ⟨a, S', rfl, h⟩ := pi1_some h
    exact br_mono (hk _ _ _ _) (hk _ _ _ _) h
  case tableswitch d lo hi os =>
    obtain ⟨a, S', rfl, h⟩ := pi1_some h
    exact tsw_mono _ _ _ (fun o => hk _ _ _ _) (hk _ _ _ _) h
  case dup =>
    obtain ⟨v, S', rfl, hv, h⟩ := dup_some h
    rcases v with z | z | z
    · exact hk _ _ _ _ h
    · cases hv
    · exact hk _ _ _ _ h
  case pop =>
    obtain ⟨v, S', rfl, hv, h⟩ := pop_some h
    rcases v with z | z | z
    · exact hk _ _ _ _ h
    · cases hv
    · exact hk _ _ _ _ h
  case dup2 =>
    rcases dup2_some h with ⟨z, S', rfl, h⟩ | ⟨u, v, S', rfl, hu, hv, h⟩
    · exact hk _ _ _ _ h
    · rcases u with z | z | z
      · rcases v with y | y | y
        · exact hk _ _ _ _ h
        · cases hv
        · exact hk _ _ _ _ h
      · cases hu
      · rcases v with y | y | y
        · exact hk _ _ _ _ h
        · cases hv
        · exact hk _ _ _ _ h
  all_goals cases h
theorem cond_mono {α : Type} {b : Bool} {x x' : Option α} {r : α} (h1 : x = some r → x' = some r) (h : cond b x none = some r) : cond b x' none = some r := by
  cases b
  · cases h
  · exact h1 h
theorem ite_mono {α : Type} {c : Prop} [Decidable c] {x x' : Option α} {r : α} (h1 : x = some r → x' = some r) (h : (if c then x else none) = some r) : (if c then x' else none) = some r := by
  by_cases q : c
  · rw [if_pos q] at h ⊢; exact h1 h
  · rw [if_neg q] at h; cases h
theorem bind_mono {α β : Type} {x x' : Option α} {f f' : α → Option β} {r : β} (h1 : ∀ a, x = some a → x' = some a) (h2 : ∀ a, f a = some r → f' a = some r) (h : x.bind f = some r) : x'.bind f' = some r := by
  obtain ⟨a, q1, q2⟩ := Option.bind_eq_some_iff.mp h
  rw [h1 a q1]; exact h2 a q2
theorem ald_mono {P : PT} {kd : Nat → Bool} {S : List OV} {t : Nat} {f f' : Nat → Int → List OV → RT} {r : Option OV × Nat × OMem} (hf : ∀ a b c, f a b c = some r → f' a b c = some r) (h : ald P kd S t f = some r) : ald P kd S t f' = some r := by
  unfold ald at h ⊢
  split at h
  · split at h
    · rename_i hl
      try simp only [hl]
      exact cond_mono (ite_mono (hf _ _ _)) h
    · cases h
  · cases h
theorem asi_mono {P : PT} {kd : Nat → Bool} {S : List OV} {t : Nat} {f f' : Nat → Nat → Int → Int → List OV → RT} {r : Option OV × Nat × OMem} (hf : ∀ a b c d e, f a b c d e = some r → f' a b c d e = some r) (h : asi P kd S t f = some r) : asi P kd S t f' = some r := by
  unfold asi at h ⊢
  split at h
  · split at h
    · rename_i hl
      try simp only [hl]
      exact cond_mono (ite_mono (hf _ _ _ _ _)) h
    · cases h
  · cases h
theorem asl_mono {P : PT} {kd : Nat → Bool} {S : List OV} {t : Nat} {f f' : Nat → Int → Int → List OV → RT} {r : Option OV × Nat × OMem} (hf : ∀ a b c d, f a b c d = some r → f' a b c d = some r) (h : asl P kd S t f = some r) : asl P kd S t f' = some r := by
  unfold asl at h ⊢
  split at h
  · split at h
    · rename_i hl
      try simp only [hl]
      exact cond_mono (ite_mono (hf _ _ _ _)) h
    · cases h
  · cases h
set_option maxHeartbeats 4000000 in
theorem stepI_mono {P : PT} {k k' : Nat → Nat → OLs → List OV → Nat → OMem → RT} (hk : ∀ a b c d e f r, k a b c d e f = some r → k' a b c d e f = some r) {q pc len t : Nat} {L : OLs} {S : List OV} {m : OMem} {i : Instr} {r : Option OV × Nat × OMem} (h : stepI P k q pc L S t m i len = some r) : stepI P k' q pc L S t m i len = some r := by
  cases hsp : isSpec i with
  | false =>
    simp only [stepI, hsp, cond_false] at h ⊢
    exact pstep_mono (fun _ _ _ _ => hk _ _ _ _ _ _ _) h
  | true =>
  simp only [stepI, hsp, cond_true] at h ⊢
  cases i
  case getfield x =>
    simp only [stepS] at h ⊢
    split at h
    · split at h
      · rename_i hf; (try simp only [hf]); exact cond_mono (hk _ _ _ _ _ _ _) h
      · rename_i hf; (try simp only [hf]); exact hk _ _ _ _ _ _ _ h
      · rename_i hf; (try simp only [hf]); exact hk _ _ _ _ _ _ _ h
      · rename_i hf; (try simp only [hf]); exact hk _ _ _ _ _ _ _ h
      · cases h
    · cases h
  case putfield x =>
    simp only [stepS] at h ⊢
    split at h
    · rename_i hf
      split at h
      · (try simp only [hf]); exact cond_mono (hk _ _ _ _ _ _ _) h
      · cases h
    · rename_i hf
      split at h
      · (try simp only [hf]); exact cond_mono (hk _ _ _ _ _ _ _) h
      · cases h
    · rename_i hf
      split at h
      · (try simp only [hf]); exact cond_mono (hk _ _ _ _ _ _ _) h
      · cases h
    · rename_i hf
      split at h
      · (try simp only [hf]); exact cond_mono (hk _ _ _ _ _ _ _) h
      · cases h
    · cases h
  case iaload => exact ald_mono (fun _ _ _ => hk _ _ _ _ _ _ _) h
  case baload => exact ald_mono (fun _ _ _ => hk _ _ _ _ _ _ _) h
  case laload => exact ald_mono (fun _ _ _ => hk _ _ _ _ _ _ _) h
  case iastore => exact asi_mono (fun _ _ _ _ _ => hk _ _ _ _ _ _ _) h
  case bastore => exact asi_mono (fun _ _ _ _ _ => hk _ _ _ _ _ _ _) h
  case lastore => exact asl_mono (fun _ _ _ _ => hk _ _ _ _ _ _ _) h
  case arraylength =>
    simp only [stepS] at h ⊢
    split at h
    · split at h
      · rename_i hf; (try simp only [hf]); exact cond_mono (hk _ _ _ _ _ _ _) h
      · cases h
    · cases h
  case newarray a =>
    simp only [stepS] at h ⊢
    split at h
    · split at h
      · rename_i hf; (try simp only [hf]); exact cond_mono (ite_mono (hk _ _ _ _ _ _ _)) h
      · cases h
    · cases h
  case invokespecial x =>
    simp only [stepS] at h ⊢
    split at h
    · split at h
      · rename_i hf; (try simp only [hf]); exact cond_mono (hk _ _ _ _ _ _ _) h
      · cases h
    · cases h
  case invokevirtual x =>
    simp only [stepS] at h ⊢
    split at h
    · rename_i h0
      split at h
      · rename_i h1 h2
        split at h
        · rename_i h3
          try simp only [h0, h1, h2, h3]
          exact cond_mono (bind_mono (fun _ => hk _ _ _ _ _ _ _) (fun _ => hk _ _ _ _ _ _ _)) h
        · cases h
      · cases h
    · cases h
  case ireturn => exact h
  case lreturn => exact h
  case return_ => exact h
  all_goals cases hsp
theorem runP_mono {P : PT} (q pc : Nat) (L : OLs) (S : List OV) (t : Nat) (m : OMem) : Mono (fun n => runP P n q pc L S t m) := by
  intro n
  show ∀ r, runP P n q pc L S t m = some r → runP P (n + 1) q pc L S t m = some r
  induction n generalizing q pc L S t m with
  | zero => intro r h; cases h
  | succ n ih =>
    intro r h
    have h : stepP P (runP P n) q pc L S t m = some r := h
    show stepP P (runP P (n + 1)) q pc L S t m = some r
    unfold stepP at h ⊢
    split at h
    · rename_i hc
      try simp only [hc]
      exact stepI_mono (fun a b c d e f => ih a b c d e f) h
    · cases h
set_option maxHeartbeats 4000000 in
theorem stepLI_mono {P : PT} {Q : LT} {T mo : Nat} {sc : ScT} {kP kP' : Nat → Nat → OLs → List OV → Nat → OMem → RT} {k k' : Nat → Nat → OLs → List OV → OWd → RTL} (hp : ∀ a b c d e f r, kP a b c d e f = some r → kP' a b c d e f = some r) (hk : ∀ a b c d e r, k a b c d e = some r → k' a b c d e = some r) {q pc len : Nat} {L : OLs} {S : List OV} {W : OWd} {i : Instr} {r : Option OV × OWd}
    (h : stepLI P Q T mo sc kP k q pc L S W i len = some r) : stepLI P Q T mo sc kP' k' q pc L S W i len = some r := by
  cases hsp : isSpecL i with
  | false =>
    simp only [stepLI, hsp, cond_false] at h ⊢
    exact pstep_mono (fun _ _ _ _ => hk _ _ _ _ _ _) h
  | true =>
  simp only [stepLI, hsp, cond_true] at h ⊢
  cases i
  case new x => exact cond_mono (hk _ _ _ _ _ _) h
  case arraylength =>
    simp only [stepLS] at h ⊢
    split at h
    · exact cond_mono (hk _ _ _ _ _ _) h
    · cases h
  case iaload =>
    simp only [stepLS] at h ⊢
    split at h
    · exact cond_mono (ite_mono (hk _ _ _ _ _ _)) h
    · cases h
  case invokespecial x =>
    simp only [stepLS] at h ⊢
    split at h
    · rename_i h1 h2
      split at h
      · rename_i h3
        split at h
        · rename_i h4
          try simp only [h1, h2, h3, h4]
          exact cond_mono (bind_mono (fun _ => hp _ _ _ _ _ _ _) (fun _ => cond_mono (hk _ _ _ _ _ _))) h
        · cases h
      · cases h
    · cases h
  case invokevirtual x =>
    simp only [stepLS] at h ⊢
    split at h
    · rename_i h0
      split at h
      · rename_i h1 h2
        split at h
        · rename_i h3
          split at h
          · rename_i h4
            try simp only [h0, h1, h2, h3, h4]
            exact cond_mono (bind_mono (fun _ => hp _ _ _ _ _ _ _) (fun _ => hk _ _ _ _ _ _)) h
          · cases h
        · cases h
      · cases h
    · cases h
  case invokestatic x =>
    simp only [stepLS] at h ⊢
    split at h
    · rename_i h0
      split at h
      · rename_i h1 h2
        split at h
        · rename_i h3
          try simp only [h0, h1, h2, h3]
          exact cond_mono (bind_mono (fun _ => hk _ _ _ _ _ _) (fun _ => hk _ _ _ _ _ _)) h
        · cases h
      · cases h
    · cases h
  case ireturn => exact h
  case lreturn => exact h
  case return_ => exact h
  all_goals cases hsp
theorem runL_mono {P : PT} {Q : LT} {T mo : Nat} {sc : ScT} (q pc : Nat) (L : OLs) (S : List OV) (W : OWd) : Mono (fun n => runL P Q T mo sc n q pc L S W) := by
  intro n
  show ∀ r, runL P Q T mo sc n q pc L S W = some r → runL P Q T mo sc (n + 1) q pc L S W = some r
  induction n generalizing q pc L S W with
  | zero => intro r h; cases h
  | succ n ih =>
    intro r h
    have h : stepL P Q T mo sc (runP P n) (runL P Q T mo sc n) q pc L S W = some r := h
    show stepL P Q T mo sc (runP P (n + 1)) (runL P Q T mo sc (n + 1)) q pc L S W = some r
    unfold stepL at h ⊢
    split at h
    · rename_i hc
      try simp only [hc]
      exact stepLI_mono (fun a b c d e f => runP_mono a b c d e f n) (fun a b c d e => ih a b c d e) h
    · cases h
theorem cond_Mono {α : Type} {b : Bool} {F : Nat → Option α} (h : Mono F) : Mono (fun n => cond b (F n) none) := fun n r hn => by
  cases b
  · cases hn
  · exact h n r hn
end Jvm.OwnMini
namespace Jvm.OwnMini
open Jvm Jvm.ClassFile Sem Op Lib Jvm.Free Jvm.Stand Jvm.LawKit Jvm.RoadKit
/-! Statements on all entries of a table, from its finite list. -/
def AllL {α : Type} (Q : Nat → α → Prop) : List (Nat × α) → Prop
  | [] => True
  | x :: L => Q x.1 x.2 ∧ AllL Q L
def AllN (Q : Nat → Prop) : Nat → Prop
  | 0 => True
  | n + 1 => AllN Q n ∧ Q n
theorem allN {Q : Nat → Prop} : ∀ {N : Nat}, AllN Q N → ∀ q, q < N → Q q
  | 0, _, q, h => by omega
  | N + 1, ⟨h1, h2⟩, q, h => by
    by_cases e : q = N
    · subst e; exact h2
    · exact allN h1 q (by omega)
theorem cond_ge {α : Type} {N x : Nat} {y : Option α} (h : N ≤ x) : cond (Nat.blt x N) y none = none := by
  have : Nat.blt x N = false := by
    cases hb : Nat.blt x N with
    | false => rfl
    | true => exact absurd (Nat.le_of_ble_eq_true hb) (by omega)
  rw [this]; rfl
theorem allL_mem {α : Type} {Q : Nat → α → Prop} : ∀ {L : List (Nat × α)}, AllL Q L → ∀ x e, (x, e) ∈ L → Q x e
  | [], _, x, e, h => by cases h
  | y :: L, ⟨h1, h2⟩, x, e, h => by
    cases h with
    | head => exact h1
    | tail _ h => exact allL_mem h2 x e h
theorem tab_all {α : Type} [DecidableEq α] {f : Nat → Option α} (N : Nat) (L : List (Nat × α)) (hN : ∀ x, N ≤ x → f x = none) (h : ((List.range N).all fun x => match f x with | none => true | some e => L.any fun y => decide (y = (x, e))) = true) {Q : Nat → α → Prop} (hQ : AllL Q L) : ∀ x e, f x = some e → Q x e := by
  intro x e hx
  by_cases hlt : x < N
  · have h1 := List.all_eq_true.mp h x (List.mem_range.mpr hlt)
    rw [hx] at h1
    obtain ⟨y, hy, h2⟩ := List.any_eq_true.mp h1
    have h3 := of_decide_eq_true h2
    subst h3
    exact allL_mem hQ x e hy
  · rw [hN x (by omega)] at hx; cases hx
theorem code_all {f : Nat → Option (Instr × Nat)} {bytes : ByteArray} (N : Nat) (hN : ∀ x, N ≤ x → f x = none) (h : ((List.range N).all fun pc => match f pc with | none => true | some (i, len) => decide (decode bytes pc = .ok (i, len)) && chk pc i len) = true) : ∀ pc i len, f pc = some (i, len) → decode bytes pc = .ok (i, len) ∧ chk pc i len = true := by
  intro pc i len hx
  by_cases hlt : pc < N
  · have h1 := List.all_eq_true.mp h pc (List.mem_range.mpr hlt)
    rw [hx] at h1
    simp only [Bool.and_eq_true, decide_eq_true_eq] at h1
    exact h1
  · rw [hN pc (by omega)] at hx; cases hx
/-- the fields by their numbers -/
def fkdOf (f : Nat → Option (Nat × Nat × Bool)) : FK := fun z => match z with
  | .ofNat n => f n
  | .negSucc _ => none
def fnmOf (f : Nat → String × String) : FN := fun z => f z.toNat
theorem names_all {f : Nat → Option (Nat × Nat × Bool)} {g : Nat → String × String} (N : Nat) (hN : ∀ x, N ≤ x → f x = none) (h : ((List.range N).all fun n => (List.range N).all fun n' => Nat.beq n n' || (match f n, f n' with | some _, some _ => decide ((g n).1 ≠ (g n').1) | _, _ => true)) = true) :
    ∀ z z' x x', fkdOf f z = some x → fkdOf f z' = some x' → z ≠ z' → (fnmOf g z).1 ≠ (fnmOf g z').1 := by
  intro z z' x x' h1 h2 hne
  match z, z', h1, h2 with
  | .ofNat n, .ofNat n', h1, h2 =>
    have h1 : f n = some x := h1
    have h2 : f n' = some x' := h2
    have l1 : n < N := Nat.lt_of_not_le fun q => by rw [hN n q] at h1; cases h1
    have l2 : n' < N := Nat.lt_of_not_le fun q => by rw [hN n' q] at h2; cases h2
    have q := List.all_eq_true.mp (List.all_eq_true.mp h n (List.mem_range.mpr l1)) n' (List.mem_range.mpr l2)
    rw [h1, h2] at q
    simp only [Bool.or_eq_true, decide_eq_true_eq] at q
    rcases q with q | q
    · exact absurd (congrArg Int.ofNat (Nat.eq_of_beq_eq_true q)) hne
    · exact q
theorem ptrs_all {f : Nat → Option (Nat × Nat × Bool)} (N : Nat) (hN : ∀ x, N ≤ x → f x = none) (h : ((List.range N).all fun n => (List.range N).all fun n' => Nat.beq n n' || (match f n, f n' with | some (0, j, _), some (0, j', _) => decide (j ≠ j') | _, _ => true)) = true) :
    ∀ z z' j b b', fkdOf f z = some (0, j, b) → fkdOf f z' = some (0, j, b') → z = z' := by
  intro z z' j b b' h1 h2
  match z, z', h1, h2 with
  | .ofNat n, .ofNat n', h1, h2 =>
    have h1 : f n = some (0, j, b) := h1
    have h2 : f n' = some (0, j, b') := h2
    have l1 : n < N := Nat.lt_of_not_le fun q => by rw [hN n q] at h1; cases h1
    have l2 : n' < N := Nat.lt_of_not_le fun q => by rw [hN n' q] at h2; cases h2
    have q := List.all_eq_true.mp (List.all_eq_true.mp h n (List.mem_range.mpr l1)) n' (List.mem_range.mpr l2)
    rw [h1, h2] at q
    simp only [Bool.or_eq_true, decide_eq_true_eq] at q
    rcases q with q | q
    · rw [Nat.eq_of_beq_eq_true q]
    · exact absurd rfl q
theorem fkd_all {f : Nat → Option (Nat × Nat × Bool)} {Q : Int → Nat → Nat → Bool → Prop} (h : ∀ n e, f n = some e → Q (Int.ofNat n) e.1 e.2.1 e.2.2) : ∀ z kd j b, fkdOf f z = some (kd, j, b) → Q z kd j b := by
  intro z kd j b hz
  match z, hz with
  | .ofNat n, hz => exact h n _ hz
/-- the law, from the case's start -/
theorem lawMet {P : PT} {Q : LT} {C own : String} {fnm : FN} {fkd : FK} {nm lnm : Nat → MethodName} {bys lbys : Nat → ByteArray} {nA nf mo : Nat} {a0 : Array Value} {Z : State} {sc : ScT} (HT : TabP P C fnm fkd nm bys nA nf a0 Z) (HL : TabL P Q C own nm lnm lbys a0 Z) (hA1 : 1 ≤ nA) (l : Launch)
    {x : MethodName} (hxc : x.cls = own) {ps : List Nat} {ml fr lc : Nat} (hq : linf Q 0 = some (ps, ml, 2, fr, lc)) {n : Nat} {as : List OV} {W' : OWd} (hrun : runL P Q (2 * nA) mo sc n 0 0 (initL as ml) [] [] = some (some (vi 1), W')) (hsz : (initL as ml).length ≤ ml)
    (ws : List Jvm.Cond) {rm : Room} (hfr : fr ≤ rm.frames) (hlc : lc ≤ rm.locals) (hce : mo * (1 + nA) ≤ rm.cells) (hsl : mo * (nf + psum P nA) ≤ rm.slots) {h : Heap} {n0 : Nat} (hn0 : n0 ≤ h.size) {A : Nat → Addr} (hs : ScR Z h n0 (A 0) sc) {vals : List Value} (hv : SR A 0 as vals) :
    MetFree l x (head1 (Jvm.Cond.code x (lbys 0) ml (some .boolean) :: ws) rm) (fun a U => a = vals.toArray ∧ Z.Warmed39 U.vm ∧ U.heap = h) (fun _ _ _ _ _ => True) (fun _ U o U' => ∃ L, o = .returned (some (.int 1)) ∧ Fr n0 L ∧ FrameEnd U o U' L rm.cells rm.slots) := by
  have HL' := HL
  obtain ⟨-, -, -, -, -, -, -, hpn, -⟩ := HL'
  refine MetFree.of_bodySF (plainFor_of_name (by rw [hxc]; exact hpn)) hisR ?_
  intro p e s m' args below meth c s₁ Bd hml0 hP hK
  obtain ⟨rfl, hZ, hh⟩ := hP
  have X0 := Stand.of_body Bd
  have e0 : s₁.heap = h := by rw [← hh, Bd.state]; rfl
  have hown : s.vm.findClass own = some m'.cls := by rw [← hxc]; exact findClass_of_methodNamed Bd.named
  have hL := entry_rel (n := ml) hv
  have hz : (argsToLocals vals.toArray ml).size = ml := by
    rw [← hL.1]
    refine Nat.le_antisymm hsz ?_
    simp only [initL, List.length_append, List.length_replicate]; omega
  have hRW : RepW P C fnm fkd Z sc s₁.heap A (fun _ _ => 0) n0 [] := by
    rw [e0]
    exact ⟨fun k t m q => (by cases q), fun k k' t m t' m2 j j' q => (by cases q), hs⟩
  obtain ⟨v, T', A', AO', lw, cells', slots', h1, h2, h3, h4, h5, h6, h7, h8, h9, h10, h11⟩ := soundL HT HL hA1 l n 0 0 _ [] [] _ W' hrun ps ml 2 fr lc hq p e _ s m' _ below meth c s₁ [] 0 0 A (fun _ _ => 0) (argsToLocals vals.toArray ml) [] n0 X0 Bd.exec hZ hown Bd.bytes hml0 Bd.returns
    hRW hL trivial hz (by rw [e0]; exact hn0) hfr hlc (Nat.zero_le _) (Nat.zero_le _) (Nat.zero_le _) (fun _ => ⟨Nat.zero_le _, Nat.zero_le _, hce, hsl⟩)
  obtain ⟨b1, b2, b3⟩ := h7 rfl
  obtain ⟨y, rfl, hy⟩ := h9
  obtain rfl : y = 1 := Int32.toInt_inj.mp hy
  obtain ⟨fs, hr, hrun', hended, hW, hsame⟩ := h1.leave (v := some (.int 1)) h10
  have d1 := cW_le 1 nA W'
  have d2 := cW_le nf (psum P nA) W'
  have d3 : W'.length * (1 + nA) ≤ mo * (1 + nA) := Nat.mul_le_mul_right _ b3
  have d4 : W'.length * (nf + psum P nA) ≤ mo * (nf + psum P nA) := Nat.mul_le_mul_right _ b3
  exact ⟨_, _, h11 fs hr, hrun', hended, lw, rfl, h6, ⟨_, rfl⟩, hW, hsame.mono (by omega) (by omega)⟩
end Jvm.OwnMini
namespace Jvm.OwnMini
/-! Reasoning on the plain functions. -/
def Ok {α : Type} (o : Option α) (Q : α → Prop) : Prop := ∃ a, o = some a ∧ Q a
section
variable {α β σ ε : Type} {Q : α → Prop}
theorem Ok.ret {a : α} (h : Q a) : Ok (some a) Q := ⟨a, rfl, h⟩
theorem Ok.mono {o : Option α} {P : α → Prop} (h : Ok o P) (h2 : ∀ a, P a → Q a) : Ok o Q := by
  obtain ⟨a, e, q⟩ := h; exact ⟨a, e, h2 a q⟩
theorem Ok.bind {f : Option β} {g : β → Option α} {P : β → Prop} (h : Ok f P) (h2 : ∀ b, P b → Ok (g b) Q) : Ok (f.bind g) Q := by
  obtain ⟨a, e, q⟩ := h
  obtain ⟨c, e2, q2⟩ := h2 a q
  exact ⟨c, by rw [e]; exact e2, q2⟩
theorem Ok.bindE {f : Option β} {g : β → Option α} {b : β} (h : f = some b) (h2 : Ok (g b) Q) : Ok (f.bind g) Q := by
  rw [h]; exact h2
theorem Ok.ite {c : Prop} [Decidable c] {x y : Option α} (h1 : c → Ok x Q) (h2 : ¬ c → Ok y Q) : Ok (if c then x else y) Q := by
  by_cases h : c
  · rw [if_pos h]; exact h1 h
  · rw [if_neg h]; exact h2 h
theorem Ok.pos {c : Prop} [Decidable c] {x y : Option α} (h : c) (h1 : Ok x Q) : Ok (if c then x else y) Q := by rw [if_pos h]; exact h1
theorem Ok.neg {c : Prop} [Decidable c] {x y : Option α} (h : ¬ c) (h1 : Ok y Q) : Ok (if c then x else y) Q := by rw [if_neg h]; exact h1
theorem Ok.lp {body : σ → Option (σ ⊕ ε)} {I : σ → Prop} {μ : σ → Nat} {Qx : ε → Prop} (h : ∀ s, I s → Ok (body s) (fun x => match x with | .inl s' => I s' ∧ μ s' < μ s | .inr e => Qx e)) : ∀ (n : Nat) (s : σ), I s → μ s < n → Ok (OwnMini.lp body n s) Qx
  | 0, s, _, hn => by omega
  | n + 1, s, hI, hn => by
    obtain ⟨x, e, q⟩ := h s hI
    unfold OwnMini.lp
    rw [e]
    cases x with
    | inl s' => exact Ok.lp h n s' q.1 (by have := q.2; omega)
    | inr e' => exact ⟨e', rfl, q⟩
/-- one turn by hand -/
theorem lp_more {body : σ → Option (σ ⊕ ε)} {n : Nat} {s s' : σ} (h : body s = some (.inl s')) : lp body (n + 1) s = lp body n s' := by
  show (match body s with | none => none | some (.inl s') => lp body n s' | some (.inr e) => some e) = _
  rw [h]
theorem lp_out {body : σ → Option (σ ⊕ ε)} {n : Nat} {s : σ} {e : ε} (h : body s = some (.inr e)) : lp body (n + 1) s = some e := by
  show (match body s with | none => none | some (.inl s') => lp body n s' | some (.inr e) => some e) = _
  rw [h]
end
theorem NN_eq : NN = 4611686018427387904 := rfl
theorem w32_id {z : Int} (h : -2147483648 ≤ z ∧ z < 2147483648) : w32 z = z := by unfold w32; omega
theorem w64_id {z : Int} (h : -9223372036854775808 ≤ z ∧ z < 9223372036854775808) : w64 z = z := by unfold w64; omega
theorem sto_at (m : OMem) (k : Nat) (i z : Int) : sto m k i z k i = z := by simp [sto]
theorem sto_k (m : OMem) {k k' : Nat} (i z i' : Int) (h : k' ≠ k) : sto m k i z k' i' = m k' i' := by simp [sto, h]
theorem sto_i (m : OMem) (k k' : Nat) {i i' : Int} (z : Int) (h : i' ≠ i) : sto m k i z k' i' = m k' i' := by simp [sto, h]
end Jvm.OwnMini
namespace Jvm.OwnMini
section
variable {α β σ ε : Type} {Q : α → Prop}
theorem Ok.bind' {f : Option β} {g : β → Option α} (h : Ok f (fun b => Ok (g b) Q)) : Ok (f.bind g) Q := Ok.bind h (fun _ h => h)
theorem Ok.grd {c : Prop} [Decidable c] {x : Option α} (h : c) (h1 : Ok x Q) : Ok (if c then x else none) Q := Ok.pos h h1
theorem Ok.lp1 {body : σ → Option (σ ⊕ α)} {n : Nat} {s : σ} (h : Ok (body s) (fun x => match x with | .inl s' => Ok (OwnMini.lp body n s') Q | .inr e => Q e)) : Ok (OwnMini.lp body (n + 1) s) Q := by
  obtain ⟨x, e, q⟩ := h
  unfold OwnMini.lp
  rw [e]
  cases x with
  | inl s' => exact q
  | inr e' => exact ⟨e', rfl, q⟩
theorem Ok.lpNN {body : σ → Option (σ ⊕ α)} {s : σ} (h : Ok (body s) (fun x => match x with | .inl s' => Ok (OwnMini.lp body 4611686018427387903 s') Q | .inr e => Q e)) : Ok (OwnMini.lp body NN s) Q := Ok.lp1 (n := 4611686018427387903) h
theorem Ok.loop {body : σ → Option (σ ⊕ α)} {s : σ} (I : σ → Prop) (μ : σ → Nat) (hI : I s) (hμ : μ s < 4611686018427387904) (h : ∀ s, I s → Ok (body s) (fun x => match x with | .inl s' => I s' ∧ μ s' < μ s | .inr e => Q e)) : Ok (OwnMini.lp body NN s) Q :=
  Ok.lp (Qx := Q) (fun s hs => by obtain ⟨x, e, q⟩ := h s hs; exact ⟨x, e, by cases x <;> exact q⟩) NN s hI hμ
end
theorem Ok.law {o : Option (Int × OWd)} (h : Ok o (fun r => r.1 = 1)) : ∃ W, o = some (1, W) := by
  obtain ⟨⟨a, W⟩, e, q⟩ := h
  cases q
  exact ⟨W, e⟩
theorem w32_rng (z : Int) : -2147483648 ≤ w32 z ∧ w32 z < 2147483648 := by unfold w32; omega
theorem w32_al (a b : Int) : w32 (w32 a + b) = w32 (a + b) := by unfold w32; omega
theorem w32_ar (a b : Int) : w32 (a + w32 b) = w32 (a + b) := by unfold w32; omega
theorem w32_sl (a b : Int) : w32 (w32 a - b) = w32 (a - b) := by unfold w32; omega
theorem w32_sr (a b : Int) : w32 (a - w32 b) = w32 (a - b) := by unfold w32; omega
theorem w32_m4 (a : Int) : w32 (w32 a * 4) = w32 (a * 4) := by unfold w32; omega
theorem w32_m6 (a : Int) : w32 (w32 a * 6) = w32 (a * 6) := by unfold w32; omega
theorem w32_m10 (a : Int) : w32 (w32 a * 10) = w32 (a * 10) := by unfold w32; omega
theorem w32_m16 (a : Int) : w32 (w32 a * 16) = w32 (a * 16) := by unfold w32; omega
theorem w32_m24 (a : Int) : w32 (w32 a * 24) = w32 (a * 24) := by unfold w32; omega
theorem z0_at (k : Nat) (i : Int) : z0 k i = 0 := rfl
end Jvm.OwnMini
namespace Jvm.OwnMini
open Jvm.Kit
/-! Masks and shifts in plain integers. -/
theorem ofInt32_toInt (z : Int) : (Int32.ofInt z).toInt = w32 z := by
  rw [Int32.toInt_ofInt]; unfold w32; simp only [Int.bmod, Int32.size]; split <;> omega
theorem ofInt64_toInt (z : Int) : (Int64.ofInt z).toInt = w64 z := by
  rw [Int64.toInt_ofInt]; unfold w64; simp only [Int.bmod, Int64.size]; split <;> omega
theorem and32_1 (z : Int) : and32 z 1 = z % 2 := by
  unfold and32; rw [i32_mask _ _ (k := 1) (by decide) (by decide), ofInt32_toInt]; unfold w32; omega
theorem and32_3 (z : Int) : and32 z 3 = z % 4 := by
  unfold and32; rw [i32_mask _ _ (k := 2) (by decide) (by decide), ofInt32_toInt]; unfold w32; omega
theorem and32_7 (z : Int) : and32 z 7 = z % 8 := by
  unfold and32; rw [i32_mask _ _ (k := 3) (by decide) (by decide), ofInt32_toInt]; unfold w32; omega
theorem and32_15 (z : Int) : and32 z 15 = z % 16 := by
  unfold and32; rw [i32_mask _ _ (k := 4) (by decide) (by decide), ofInt32_toInt]; unfold w32; omega
theorem and32_31 (z : Int) : and32 z 31 = z % 32 := by
  unfold and32; rw [i32_mask _ _ (k := 5) (by decide) (by decide), ofInt32_toInt]; unfold w32; omega
theorem and32_63 (z : Int) : and32 z 63 = z % 64 := by
  unfold and32; rw [i32_mask _ _ (k := 6) (by decide) (by decide), ofInt32_toInt]; unfold w32; omega
theorem and32_127 (z : Int) : and32 z 127 = z % 128 := by
  unfold and32; rw [i32_mask _ _ (k := 7) (by decide) (by decide), ofInt32_toInt]; unfold w32; omega
theorem and32_255 (z : Int) : and32 z 255 = z % 256 := by
  unfold and32; rw [i32_mask _ _ (k := 8) (by decide) (by decide), ofInt32_toInt]; unfold w32; omega
theorem and32_511 (z : Int) : and32 z 511 = z % 512 := by
  unfold and32; rw [i32_mask _ _ (k := 9) (by decide) (by decide), ofInt32_toInt]; unfold w32; omega
theorem and32_1023 (z : Int) : and32 z 1023 = z % 1024 := by
  unfold and32; rw [i32_mask _ _ (k := 10) (by decide) (by decide), ofInt32_toInt]; unfold w32; omega
theorem and32_max (z : Int) : and32 z 2147483647 = z % 2147483648 := by
  unfold and32; rw [i32_mask _ _ (k := 31) (by decide) (by decide), ofInt32_toInt]; unfold w32; omega
theorem div32_nn {a b : Int} (ha : 0 ≤ a) (ha2 : a < 2147483648) (hb : 0 < b) : div32 a b = a / b := by
  unfold div32
  rw [Int.tdiv_eq_ediv_of_nonneg ha]
  have h1 : 0 ≤ a / b := Int.ediv_nonneg ha (by omega)
  have h2 : a / b ≤ a := Int.ediv_le_self b ha
  exact w32_id (by omega)
theorem rem32_nn {a b : Int} (ha : 0 ≤ a) : rem32 a b = a % b := by
  unfold rem32
  exact Int.tmod_eq_emod_of_nonneg ha
end Jvm.OwnMini
namespace Jvm.OwnMini
open Jvm.Kit
theorem shl1_dec : ∀ k : Fin 31, (shl32 1 (k.val : Int)) = ((2 ^ k.val : Nat) : Int) := by decide +kernel
theorem shl1_eq (k : Int) (h : 0 ≤ k ∧ k ≤ 30) : shl32 1 k = ((2 ^ k.toNat : Nat) : Int) := by
  have := shl1_dec ⟨k.toNat, by omega⟩
  simp only [Int.toNat_of_nonneg h.1] at this
  exact this
theorem shl1_rng (k : Int) (h : 0 ≤ k ∧ k ≤ 10) : 1 ≤ shl32 1 k ∧ shl32 1 k ≤ 1024 := by
  have : ∀ j : Fin 11, 1 ≤ shl32 1 (j.val : Int) ∧ shl32 1 (j.val : Int) ≤ 1024 := by decide +kernel
  have := this ⟨k.toNat, by omega⟩
  simp only [Int.toNat_of_nonneg h.1] at this
  exact this
theorem and32_nn {a : Int} (b : Int) (h : 0 ≤ a) (h2 : a < 2147483648) : 0 ≤ and32 a b ∧ and32 a b ≤ a := by
  have ha : (Int32.ofInt a).toInt = a := by rw [ofInt32_toInt, w32_id (by omega)]
  have h0 : 0 ≤ Int32.ofInt a := by rw [Int32.le_iff_toInt_le, ha]; exact h
  have g := i32_and_bounds (Int32.ofInt b) h0
  rw [Int32.le_iff_toInt_le, Int32.le_iff_toInt_le, ha, Int32.and_comm] at g
  exact g
end Jvm.OwnMini
namespace Jvm.OwnMini
theorem and32_0 (b : Int) : and32 0 b = 0 := by unfold and32; simp
theorem or32_shl (a b : Int) : or32 0 (shl32 a b) = shl32 a b := by unfold or32 shl32; rw [Int32.ofInt_toInt]; simp
theorem and32_not (b : Int) : and32 b (xor32 b (-1)) = 0 := by
  unfold and32 xor32
  rw [Int32.ofInt_toInt]
  have : Int32.ofInt b &&& (Int32.ofInt b ^^^ Int32.ofInt (-1)) = 0 := by
    rw [← Int32.toBitVec_inj]
    simp only [Int32.toBitVec_and, Int32.toBitVec_xor]
    rw [show (Int32.ofInt (-1)).toBitVec = BitVec.allOnes 32 from by decide, show (0 : Int32).toBitVec = 0#32 from by decide]
    rw [BitVec.xor_allOnes, BitVec.and_not_self]; rfl
  rw [this]; rfl
end Jvm.OwnMini
namespace Jvm.OwnMini
open Jvm Jvm.ClassFile Sem Op Lib Jvm.Free Jvm.Stand Jvm.LawKit Jvm.RoadKit
/-! The script: its length and its numbers. -/
theorem own_len {Z : State} {args : Array Value} {t : Term} {n : Int32} {a : Addr} {cl : Cell} {ty : FieldType} (h : (Jvm.Cond.le (.length t) (.int n)).value args Z none Z [] = some true) (ea : t.eval args Z none [] Z = some (.ref a)) (A : Arr Z Z.heap a cl ty) : cl.slots.size < 2 ^ 31 ∧ (cl.slots.size : Int) ≤ n.toInt := by
  obtain ⟨x, y, e1, -, -, -⟩ := cmp_v (Or.inr (Or.inr h))
  obtain ⟨b, c, f1, f2, f3, rfl⟩ := Jvm.Lib.length_spec e1
  cases ea.symm.trans f1
  cases f2.symm.trans (Arr.fin (Vm.Alike.refl _) A)
  have g := gotT (Jvm.Cond.le_ints e1 rfl) h
  rw [Int32.le_iff_toInt_le, len_toInt f3] at g
  exact ⟨f3, g⟩
def own_sc (c : Cell) (i : Int) : Int := match c.slots[i.toNat]? with | some (.int x) => x.toInt | _ => 0
theorem own_sc_rng (c : Cell) (i : Int) : -2147483648 ≤ own_sc c i ∧ own_sc c i < 2147483648 := by
  unfold own_sc
  split
  · rename_i x _
    have h1 := x.le_toInt
    have h2 := x.toInt_lt
    omega
  · omega
theorem own_sc_at {c : Cell} {i : Nat} {x : Int32} (h : c.slots[i]? = some (.int x)) : own_sc c (i : Int) = x.toInt := by
  unfold own_sc
  rw [Int.toNat_natCast, h]
theorem own_elem {Z : State} {a : Addr} {cl : Cell} (hf : Fit Z) (A : Arr Z Z.heap a cl .int) {i : Nat} (hi : i < cl.slots.size) (q : cl.slots.size < 2 ^ 31) : ∃ x : Int32, cl.slots[i]? = some (.int x) := by
  have e1 : (i.toInt32).toInt = i := len_toInt (by omega)
  have e2 : (i.toInt32).toNatClampNeg = i := by simp only [Int32.toNatClampNeg, e1]; rfl
  have hj : ¬ (i.toInt32 < 0 ∨ cl.slots.size ≤ (i.toInt32).toNatClampNeg) := by
    rw [e2]
    rintro (h | h)
    · rw [Int32.lt_iff_toInt_lt, e1] at h
      have : (0 : Int32).toInt = 0 := rfl
      omega
    · omega
  obtain ⟨v, h1, h2⟩ := elem_fit hf A hj
  obtain ⟨x, rfl⟩ := fit_I h2 (by simp)
  rw [e2] at h1
  exact ⟨x, h1⟩
end Jvm.OwnMini

namespace Jvm.Pilot.@@N@@
open Jvm Jvm.ClassFile Sem Op Lib Jvm.Free Jvm.Stand Jvm.LawKit Jvm.RoadKit Bundle Jvm.Pilot.@@N@@.Jvm.D Jvm.OwnMini
def cd_0 : Nat → Option (Instr × Nat) := fun pc => cond (Nat.blt pc 297) (cond (Nat.blt pc 148) (cond (Nat.blt pc 74) (cond (Nat.blt pc 35) (cond (Nat.blt pc 15) (cond (Nat.blt pc 6) (cond (Nat.blt pc 4) (cond (Nat.blt pc 1) (cond (Nat.beq pc 0) (some (.aload_n 0, 1)) none) (cond (Nat.beq pc 1) (some (.invokespecial 1, 3)) none)) (cond (Nat.blt pc 5) (cond (Nat.beq pc 4) (some (.aload_n 0, 1)) none) (cond (Nat.beq pc 5) (some (.iconst 4, 1)) none))) (cond (Nat.blt pc 11) (cond (Nat.blt pc 8) (cond (Nat.beq pc 6) (some (.newarray .boolean, 2)) none) (cond (Nat.beq pc 8) (some (.putfield 7, 3)) none)) (cond (Nat.blt pc 12) (cond (Nat.beq pc 11) (some (.aload_n 0, 1)) none) (cond (Nat.blt pc 13) (cond (Nat.beq pc 12) (some (.iconst 4, 1)) none) (cond (Nat.beq pc 13) (some (.newarray .int, 2)) none))))) (cond (Nat.blt pc 26) (cond (Nat.blt pc 19) (cond (Nat.blt pc 18) (cond (Nat.beq pc 15) (some (.putfield 13, 3)) none) (cond (Nat.beq pc 18) (some (.aload_n 0, 1)) none)) (cond (Nat.blt pc 21) (cond (Nat.beq pc 19) (some (.bipush 16, 2)) none) (cond (Nat.blt pc 23) (cond (Nat.beq pc 21) (some (.newarray .int, 2)) none) (cond (Nat.beq pc 23) (some (.putfield 17, 3)) none)))) (cond (Nat.blt pc 29) (cond (Nat.blt pc 27) (cond (Nat.beq pc 26) (some (.aload_n 0, 1)) none) (cond (Nat.beq pc 27) (some (.bipush 16, 2)) none)) (cond (Nat.blt pc 31) (cond (Nat.beq pc 29) (some (.newarray .int, 2)) none) (cond (Nat.blt pc 34) (cond (Nat.beq pc 31) (some (.putfield 20, 3)) none) (cond (Nat.beq pc 34) (some (.aload_n 0, 1)) none)))))) (cond (Nat.blt pc 54) (cond (Nat.blt pc 44) (cond (Nat.blt pc 38) (cond (Nat.blt pc 36) (cond (Nat.beq pc 35) (some (.iconst 4, 1)) none) (cond (Nat.beq pc 36) (some (.newarray .int, 2)) none)) (cond (Nat.blt pc 41) (cond (Nat.beq pc 38) (some (.putfield 23, 3)) none) (cond (Nat.blt pc 42) (cond (Nat.beq pc 41) (some (.aload_n 0, 1)) none) (cond (Nat.beq pc 42) (some (.bipush 16, 2)) none)))) (cond (Nat.blt pc 49) (cond (Nat.blt pc 46) (cond (Nat.beq pc 44) (some (.newarray .int, 2)) none) (cond (Nat.beq pc 46) (some (.putfield 26, 3)) none)) (cond (Nat.blt pc 50) (cond (Nat.beq pc 49) (some (.aload_n 0, 1)) none) (cond (Nat.blt pc 52) (cond (Nat.beq pc 50) (some (.bipush 16, 2)) none) (cond (Nat.beq pc 52) (some (.newarray .int, 2)) none))))) (cond (Nat.blt pc 65) (cond (Nat.blt pc 58) (cond (Nat.blt pc 57) (cond (Nat.beq pc 54) (some (.putfield 29, 3)) none) (cond (Nat.beq pc 57) (some (.aload_n 0, 1)) none)) (cond (Nat.blt pc 60) (cond (Nat.beq pc 58) (some (.bipush 16, 2)) none) (cond (Nat.blt pc 62) (cond (Nat.beq pc 60) (some (.newarray .int, 2)) none) (cond (Nat.beq pc 62) (some (.putfield 32, 3)) none)))) (cond (Nat.blt pc 68) (cond (Nat.blt pc 66) (cond (Nat.beq pc 65) (some (.aload_n 0, 1)) none) (cond (Nat.beq pc 66) (some (.bipush 96, 2)) none)) (cond (Nat.blt pc 70) (cond (Nat.beq pc 68) (some (.newarray .int, 2)) none) (cond (Nat.blt pc 73) (cond (Nat.beq pc 70) (some (.putfield 35, 3)) none) (cond (Nat.beq pc 73) (some (.aload_n 0, 1)) none))))))) (cond (Nat.blt pc 110) (cond (Nat.blt pc 91) (cond (Nat.blt pc 82) (cond (Nat.blt pc 78) (cond (Nat.blt pc 76) (cond (Nat.beq pc 74) (some (.bipush 96, 2)) none) (cond (Nat.beq pc 76) (some (.newarray .int, 2)) none)) (cond (Nat.blt pc 81) (cond (Nat.beq pc 78) (some (.putfield 38, 3)) none) (cond (Nat.beq pc 81) (some (.aload_n 0, 1)) none))) (cond (Nat.blt pc 85) (cond (Nat.blt pc 83) (cond (Nat.beq pc 82) (some (.iconst 4, 1)) none) (cond (Nat.beq pc 83) (some (.newarray .int, 2)) none)) (cond (Nat.blt pc 88) (cond (Nat.beq pc 85) (some (.putfield 41, 3)) none) (cond (Nat.blt pc 89) (cond (Nat.beq pc 88) (some (.aload_n 0, 1)) none) (cond (Nat.beq pc 89) (some (.bipush 8, 2)) none))))) (cond (Nat.blt pc 100) (cond (Nat.blt pc 96) (cond (Nat.blt pc 93) (cond (Nat.beq pc 91) (some (.newarray .int, 2)) none) (cond (Nat.beq pc 93) (some (.putfield 44, 3)) none)) (cond (Nat.blt pc 97) (cond (Nat.beq pc 96) (some (.aload_n 0, 1)) none) (cond (Nat.blt pc 98) (cond (Nat.beq pc 97) (some (.iconst 4, 1)) none) (cond (Nat.beq pc 98) (some (.newarray .int, 2)) none)))) (cond (Nat.blt pc 104) (cond (Nat.blt pc 103) (cond (Nat.beq pc 100) (some (.putfield 47, 3)) none) (cond (Nat.beq pc 103) (some (.aload_n 0, 1)) none)) (cond (Nat.blt pc 105) (cond (Nat.beq pc 104) (some (.iconst 4, 1)) none) (cond (Nat.blt pc 107) (cond (Nat.beq pc 105) (some (.newarray .int, 2)) none) (cond (Nat.beq pc 107) (some (.putfield 50, 3)) none)))))) (cond (Nat.blt pc 127) (cond (Nat.blt pc 118) (cond (Nat.blt pc 112) (cond (Nat.blt pc 111) (cond (Nat.beq pc 110) (some (.aload_n 0, 1)) none) (cond (Nat.beq pc 111) (some (.iconst 4, 1)) none)) (cond (Nat.blt pc 114) (cond (Nat.beq pc 112) (some (.newarray .int, 2)) none) (cond (Nat.blt pc 117) (cond (Nat.beq pc 114) (some (.putfield 53, 3)) none) (cond (Nat.beq pc 117) (some (.aload_n 0, 1)) none)))) (cond (Nat.blt pc 121) (cond (Nat.blt pc 119) (cond (Nat.beq pc 118) (some (.iconst 4, 1)) none) (cond (Nat.beq pc 119) (some (.newarray .int, 2)) none)) (cond (Nat.blt pc 124) (cond (Nat.beq pc 121) (some (.putfield 56, 3)) none) (cond (Nat.blt pc 125) (cond (Nat.beq pc 124) (some (.aload_n 0, 1)) none) (cond (Nat.beq pc 125) (some (.bipush 24, 2)) none))))) (cond (Nat.blt pc 137) (cond (Nat.blt pc 132) (cond (Nat.blt pc 129) (cond (Nat.beq pc 127) (some (.newarray .int, 2)) none) (cond (Nat.beq pc 129) (some (.putfield 59, 3)) none)) (cond (Nat.blt pc 133) (cond (Nat.beq pc 132) (some (.aload_n 0, 1)) none) (cond (Nat.blt pc 135) (cond (Nat.beq pc 133) (some (.bipush 24, 2)) none) (cond (Nat.beq pc 135) (some (.newarray .int, 2)) none)))) (cond (Nat.blt pc 141) (cond (Nat.blt pc 140) (cond (Nat.beq pc 137) (some (.putfield 62, 3)) none) (cond (Nat.beq pc 140) (some (.aload_n 0, 1)) none)) (cond (Nat.blt pc 144) (cond (Nat.beq pc 141) (some (.sipush 640, 3)) none) (cond (Nat.blt pc 147) (cond (Nat.beq pc 144) (some (.putfield 65, 3)) none) (cond (Nat.beq pc 147) (some (.aload_n 0, 1)) none)))))))) (cond (Nat.blt pc 227) (cond (Nat.blt pc 189) (cond (Nat.blt pc 168) (cond (Nat.blt pc 157) (cond (Nat.blt pc 153) (cond (Nat.blt pc 151) (cond (Nat.beq pc 148) (some (.sipush 640, 3)) none) (cond (Nat.beq pc 151) (some (.newarray .int, 2)) none)) (cond (Nat.blt pc 156) (cond (Nat.beq pc 153) (some (.putfield 69, 3)) none) (cond (Nat.beq pc 156) (some (.aload_n 0, 1)) none))) (cond (Nat.blt pc 162) (cond (Nat.blt pc 160) (cond (Nat.beq pc 157) (some (.sipush 640, 3)) none) (cond (Nat.beq pc 160) (some (.newarray .int, 2)) none)) (cond (Nat.blt pc 165) (cond (Nat.beq pc 162) (some (.putfield 72, 3)) none) (cond (Nat.blt pc 166) (cond (Nat.beq pc 165) (some (.aload_n 0, 1)) none) (cond (Nat.beq pc 166) (some (.bipush 16, 2)) none))))) (cond (Nat.blt pc 178) (cond (Nat.blt pc 173) (cond (Nat.blt pc 170) (cond (Nat.beq pc 168) (some (.newarray .int, 2)) none) (cond (Nat.beq pc 170) (some (.putfield 75, 3)) none)) (cond (Nat.blt pc 174) (cond (Nat.beq pc 173) (some (.aload_n 0, 1)) none) (cond (Nat.blt pc 176) (cond (Nat.beq pc 174) (some (.bipush 16, 2)) none) (cond (Nat.beq pc 176) (some (.newarray .int, 2)) none)))) (cond (Nat.blt pc 182) (cond (Nat.blt pc 181) (cond (Nat.beq pc 178) (some (.putfield 78, 3)) none) (cond (Nat.beq pc 181) (some (.aload_n 0, 1)) none)) (cond (Nat.blt pc 184) (cond (Nat.beq pc 182) (some (.bipush 8, 2)) none) (cond (Nat.blt pc 186) (cond (Nat.beq pc 184) (some (.newarray .int, 2)) none) (cond (Nat.beq pc 186) (some (.putfield 81, 3)) none)))))) (cond (Nat.blt pc 208) (cond (Nat.blt pc 198) (cond (Nat.blt pc 192) (cond (Nat.blt pc 190) (cond (Nat.beq pc 189) (some (.aload_n 0, 1)) none) (cond (Nat.beq pc 190) (some (.bipush 8, 2)) none)) (cond (Nat.blt pc 194) (cond (Nat.beq pc 192) (some (.newarray .int, 2)) none) (cond (Nat.blt pc 197) (cond (Nat.beq pc 194) (some (.putfield 84, 3)) none) (cond (Nat.beq pc 197) (some (.aload_n 0, 1)) none)))) (cond (Nat.blt pc 202) (cond (Nat.blt pc 200) (cond (Nat.beq pc 198) (some (.bipush 16, 2)) none) (cond (Nat.beq pc 200) (some (.newarray .int, 2)) none)) (cond (Nat.blt pc 205) (cond (Nat.beq pc 202) (some (.putfield 87, 3)) none) (cond (Nat.blt pc 206) (cond (Nat.beq pc 205) (some (.aload_n 0, 1)) none) (cond (Nat.beq pc 206) (some (.bipush 8, 2)) none))))) (cond (Nat.blt pc 218) (cond (Nat.blt pc 213) (cond (Nat.blt pc 210) (cond (Nat.beq pc 208) (some (.newarray .int, 2)) none) (cond (Nat.beq pc 210) (some (.putfield 90, 3)) none)) (cond (Nat.blt pc 214) (cond (Nat.beq pc 213) (some (.aload_n 0, 1)) none) (cond (Nat.blt pc 216) (cond (Nat.beq pc 214) (some (.bipush 8, 2)) none) (cond (Nat.beq pc 216) (some (.newarray .int, 2)) none)))) (cond (Nat.blt pc 222) (cond (Nat.blt pc 221) (cond (Nat.beq pc 218) (some (.putfield 93, 3)) none) (cond (Nat.beq pc 221) (some (.aload_n 0, 1)) none)) (cond (Nat.blt pc 223) (cond (Nat.beq pc 222) (some (.iload_n 1, 1)) none) (cond (Nat.blt pc 224) (cond (Nat.beq pc 223) (some (.iconst 1, 1)) none) (cond (Nat.beq pc 224) (some (.if_icmp .ge 7, 3)) none))))))) (cond (Nat.blt pc 264) (cond (Nat.blt pc 244) (cond (Nat.blt pc 233) (cond (Nat.blt pc 231) (cond (Nat.blt pc 228) (cond (Nat.beq pc 227) (some (.iconst 1, 1)) none) (cond (Nat.beq pc 228) (some (.goto 13, 3)) none)) (cond (Nat.blt pc 232) (cond (Nat.beq pc 231) (some (.iload_n 1, 1)) none) (cond (Nat.beq pc 232) (some (.iconst 4, 1)) none))) (cond (Nat.blt pc 237) (cond (Nat.blt pc 236) (cond (Nat.beq pc 233) (some (.if_icmp .le 7, 3)) none) (cond (Nat.beq pc 236) (some (.iconst 4, 1)) none)) (cond (Nat.blt pc 240) (cond (Nat.beq pc 237) (some (.goto 4, 3)) none) (cond (Nat.blt pc 241) (cond (Nat.beq pc 240) (some (.iload_n 1, 1)) none) (cond (Nat.beq pc 241) (some (.putfield 96, 3)) none))))) (cond (Nat.blt pc 253) (cond (Nat.blt pc 246) (cond (Nat.blt pc 245) (cond (Nat.beq pc 244) (some (.aload_n 0, 1)) none) (cond (Nat.beq pc 245) (some (.iload_n 2, 1)) none)) (cond (Nat.blt pc 249) (cond (Nat.beq pc 246) (some (.ifCond .ge 7, 3)) none) (cond (Nat.blt pc 250) (cond (Nat.beq pc 249) (some (.iconst 0, 1)) none) (cond (Nat.beq pc 250) (some (.goto 15, 3)) none)))) (cond (Nat.blt pc 256) (cond (Nat.blt pc 254) (cond (Nat.beq pc 253) (some (.iload_n 2, 1)) none) (cond (Nat.beq pc 254) (some (.bipush 8, 2)) none)) (cond (Nat.blt pc 259) (cond (Nat.beq pc 256) (some (.if_icmp .le 8, 3)) none) (cond (Nat.blt pc 261) (cond (Nat.beq pc 259) (some (.bipush 8, 2)) none) (cond (Nat.beq pc 261) (some (.goto 4, 3)) none)))))) (cond (Nat.blt pc 281) (cond (Nat.blt pc 271) (cond (Nat.blt pc 268) (cond (Nat.blt pc 265) (cond (Nat.beq pc 264) (some (.iload_n 2, 1)) none) (cond (Nat.beq pc 265) (some (.putfield 99, 3)) none)) (cond (Nat.blt pc 269) (cond (Nat.beq pc 268) (some (.iconst 0, 1)) none) (cond (Nat.blt pc 270) (cond (Nat.beq pc 269) (some (.istore_n 3, 1)) none) (cond (Nat.beq pc 270) (some (.iload_n 3, 1)) none)))) (cond (Nat.blt pc 276) (cond (Nat.blt pc 273) (cond (Nat.beq pc 271) (some (.bipush 8, 2)) none) (cond (Nat.beq pc 273) (some (.if_icmp .ge 23, 3)) none)) (cond (Nat.blt pc 277) (cond (Nat.beq pc 276) (some (.aload_n 0, 1)) none) (cond (Nat.blt pc 280) (cond (Nat.beq pc 277) (some (.getfield 44, 3)) none) (cond (Nat.beq pc 280) (some (.iload_n 3, 1)) none))))) (cond (Nat.blt pc 288) (cond (Nat.blt pc 283) (cond (Nat.blt pc 282) (cond (Nat.beq pc 281) (some (.iconst (-1), 1)) none) (cond (Nat.beq pc 282) (some (.iastore, 1)) none)) (cond (Nat.blt pc 284) (cond (Nat.beq pc 283) (some (.aload_n 0, 1)) none) (cond (Nat.blt pc 287) (cond (Nat.beq pc 284) (some (.getfield 81, 3)) none) (cond (Nat.beq pc 287) (some (.iload_n 3, 1)) none)))) (cond (Nat.blt pc 290) (cond (Nat.blt pc 289) (cond (Nat.beq pc 288) (some (.iconst (-1), 1)) none) (cond (Nat.beq pc 289) (some (.iastore, 1)) none)) (cond (Nat.blt pc 293) (cond (Nat.beq pc 290) (some (.iinc 3 1, 3)) none) (cond (Nat.blt pc 296) (cond (Nat.beq pc 293) (some (.goto (-23), 3)) none) (cond (Nat.beq pc 296) (some (.return_, 1)) none))))))))) none
def cd_1 : Nat → Option (Instr × Nat) := fun pc => cond (Nat.blt pc 41) (cond (Nat.blt pc 20) (cond (Nat.blt pc 12) (cond (Nat.blt pc 5) (cond (Nat.blt pc 1) (cond (Nat.beq pc 0) (some (.iload_n 1, 1)) none) (cond (Nat.blt pc 4) (cond (Nat.beq pc 1) (some (.ifCond .lt 11, 3)) none) (cond (Nat.beq pc 4) (some (.iload_n 1, 1)) none))) (cond (Nat.blt pc 6) (cond (Nat.beq pc 5) (some (.aload_n 0, 1)) none) (cond (Nat.blt pc 9) (cond (Nat.beq pc 6) (some (.getfield 96, 3)) none) (cond (Nat.beq pc 9) (some (.if_icmp .lt 5, 3)) none)))) (cond (Nat.blt pc 15) (cond (Nat.blt pc 13) (cond (Nat.beq pc 12) (some (.iconst 0, 1)) none) (cond (Nat.blt pc 14) (cond (Nat.beq pc 13) (some (.ireturn, 1)) none) (cond (Nat.beq pc 14) (some (.aload_n 0, 1)) none))) (cond (Nat.blt pc 16) (cond (Nat.beq pc 15) (some (.iconst 1, 1)) none) (cond (Nat.blt pc 19) (cond (Nat.beq pc 16) (some (.putfield 102, 3)) none) (cond (Nat.beq pc 19) (some (.aload_n 0, 1)) none))))) (cond (Nat.blt pc 30) (cond (Nat.blt pc 25) (cond (Nat.blt pc 21) (cond (Nat.beq pc 20) (some (.iload_n 1, 1)) none) (cond (Nat.blt pc 24) (cond (Nat.beq pc 21) (some (.putfield 106, 3)) none) (cond (Nat.beq pc 24) (some (.aload_n 0, 1)) none))) (cond (Nat.blt pc 26) (cond (Nat.beq pc 25) (some (.iconst 0, 1)) none) (cond (Nat.blt pc 29) (cond (Nat.beq pc 26) (some (.putfield 109, 3)) none) (cond (Nat.beq pc 29) (some (.aload_n 0, 1)) none)))) (cond (Nat.blt pc 35) (cond (Nat.blt pc 31) (cond (Nat.beq pc 30) (some (.iconst 0, 1)) none) (cond (Nat.blt pc 34) (cond (Nat.beq pc 31) (some (.putfield 112, 3)) none) (cond (Nat.beq pc 34) (some (.aload_n 0, 1)) none))) (cond (Nat.blt pc 39) (cond (Nat.blt pc 36) (cond (Nat.beq pc 35) (some (.iconst 0, 1)) none) (cond (Nat.beq pc 36) (some (.putfield 115, 3)) none)) (cond (Nat.blt pc 40) (cond (Nat.beq pc 39) (some (.iconst 1, 1)) none) (cond (Nat.beq pc 40) (some (.ireturn, 1)) none)))))) none
def cd_2 : Nat → Option (Instr × Nat) := fun pc => cond (Nat.blt pc 102) (cond (Nat.blt pc 52) (cond (Nat.blt pc 23) (cond (Nat.blt pc 14) (cond (Nat.blt pc 7) (cond (Nat.blt pc 1) (cond (Nat.beq pc 0) (some (.aload_n 0, 1)) none) (cond (Nat.blt pc 4) (cond (Nat.beq pc 1) (some (.getfield 102, 3)) none) (cond (Nat.beq pc 4) (some (.ifCond .eq 13, 3)) none))) (cond (Nat.blt pc 11) (cond (Nat.blt pc 8) (cond (Nat.beq pc 7) (some (.iload_n 1, 1)) none) (cond (Nat.beq pc 8) (some (.ifCond .lt 9, 3)) none)) (cond (Nat.blt pc 12) (cond (Nat.beq pc 11) (some (.iload_n 1, 1)) none) (cond (Nat.beq pc 12) (some (.bipush 7, 2)) none)))) (cond (Nat.blt pc 19) (cond (Nat.blt pc 17) (cond (Nat.beq pc 14) (some (.if_icmp .le 5, 3)) none) (cond (Nat.blt pc 18) (cond (Nat.beq pc 17) (some (.iconst 0, 1)) none) (cond (Nat.beq pc 18) (some (.ireturn, 1)) none))) (cond (Nat.blt pc 21) (cond (Nat.blt pc 20) (cond (Nat.beq pc 19) (some (.iconst 0, 1)) none) (cond (Nat.beq pc 20) (some (.istore_n 2, 1)) none)) (cond (Nat.blt pc 22) (cond (Nat.beq pc 21) (some (.iload_n 2, 1)) none) (cond (Nat.beq pc 22) (some (.aload_n 0, 1)) none))))) (cond (Nat.blt pc 36) (cond (Nat.blt pc 30) (cond (Nat.blt pc 26) (cond (Nat.beq pc 23) (some (.getfield 112, 3)) none) (cond (Nat.blt pc 29) (cond (Nat.beq pc 26) (some (.if_icmp .ge 21, 3)) none) (cond (Nat.beq pc 29) (some (.aload_n 0, 1)) none))) (cond (Nat.blt pc 34) (cond (Nat.blt pc 33) (cond (Nat.beq pc 30) (some (.getfield 50, 3)) none) (cond (Nat.beq pc 33) (some (.iload_n 2, 1)) none)) (cond (Nat.blt pc 35) (cond (Nat.beq pc 34) (some (.iaload, 1)) none) (cond (Nat.beq pc 35) (some (.iload_n 1, 1)) none)))) (cond (Nat.blt pc 44) (cond (Nat.blt pc 40) (cond (Nat.blt pc 39) (cond (Nat.beq pc 36) (some (.if_icmp .ne 5, 3)) none) (cond (Nat.beq pc 39) (some (.iconst 0, 1)) none)) (cond (Nat.blt pc 41) (cond (Nat.beq pc 40) (some (.ireturn, 1)) none) (cond (Nat.beq pc 41) (some (.iinc 2 1, 3)) none))) (cond (Nat.blt pc 48) (cond (Nat.blt pc 47) (cond (Nat.beq pc 44) (some (.goto (-23), 3)) none) (cond (Nat.beq pc 47) (some (.aload_n 0, 1)) none)) (cond (Nat.blt pc 51) (cond (Nat.beq pc 48) (some (.getfield 112, 3)) none) (cond (Nat.beq pc 51) (some (.iconst 4, 1)) none)))))) (cond (Nat.blt pc 77) (cond (Nat.blt pc 65) (cond (Nat.blt pc 57) (cond (Nat.blt pc 55) (cond (Nat.beq pc 52) (some (.if_icmp .lt 5, 3)) none) (cond (Nat.blt pc 56) (cond (Nat.beq pc 55) (some (.iconst 0, 1)) none) (cond (Nat.beq pc 56) (some (.ireturn, 1)) none))) (cond (Nat.blt pc 61) (cond (Nat.blt pc 58) (cond (Nat.beq pc 57) (some (.aload_n 0, 1)) none) (cond (Nat.beq pc 58) (some (.getfield 50, 3)) none)) (cond (Nat.blt pc 62) (cond (Nat.beq pc 61) (some (.aload_n 0, 1)) none) (cond (Nat.beq pc 62) (some (.getfield 112, 3)) none)))) (cond (Nat.blt pc 71) (cond (Nat.blt pc 67) (cond (Nat.blt pc 66) (cond (Nat.beq pc 65) (some (.iload_n 1, 1)) none) (cond (Nat.beq pc 66) (some (.iastore, 1)) none)) (cond (Nat.blt pc 68) (cond (Nat.beq pc 67) (some (.aload_n 0, 1)) none) (cond (Nat.beq pc 68) (some (.getfield 53, 3)) none))) (cond (Nat.blt pc 75) (cond (Nat.blt pc 72) (cond (Nat.beq pc 71) (some (.aload_n 0, 1)) none) (cond (Nat.beq pc 72) (some (.getfield 112, 3)) none)) (cond (Nat.blt pc 76) (cond (Nat.beq pc 75) (some (.iconst 0, 1)) none) (cond (Nat.beq pc 76) (some (.iastore, 1)) none))))) (cond (Nat.blt pc 90) (cond (Nat.blt pc 82) (cond (Nat.blt pc 78) (cond (Nat.beq pc 77) (some (.aload_n 0, 1)) none) (cond (Nat.blt pc 81) (cond (Nat.beq pc 78) (some (.getfield 56, 3)) none) (cond (Nat.beq pc 81) (some (.aload_n 0, 1)) none))) (cond (Nat.blt pc 86) (cond (Nat.blt pc 85) (cond (Nat.beq pc 82) (some (.getfield 112, 3)) none) (cond (Nat.beq pc 85) (some (.aload_n 0, 1)) none)) (cond (Nat.blt pc 89) (cond (Nat.beq pc 86) (some (.getfield 115, 3)) none) (cond (Nat.beq pc 89) (some (.iastore, 1)) none)))) (cond (Nat.blt pc 96) (cond (Nat.blt pc 92) (cond (Nat.blt pc 91) (cond (Nat.beq pc 90) (some (.aload_n 0, 1)) none) (cond (Nat.beq pc 91) (some (.dup, 1)) none)) (cond (Nat.blt pc 95) (cond (Nat.beq pc 92) (some (.getfield 112, 3)) none) (cond (Nat.beq pc 95) (some (.iconst 1, 1)) none))) (cond (Nat.blt pc 100) (cond (Nat.blt pc 97) (cond (Nat.beq pc 96) (some (.iadd, 1)) none) (cond (Nat.beq pc 97) (some (.putfield 112, 3)) none)) (cond (Nat.blt pc 101) (cond (Nat.beq pc 100) (some (.iconst 1, 1)) none) (cond (Nat.beq pc 101) (some (.ireturn, 1)) none))))))) none
def cd_3 : Nat → Option (Instr × Nat) := fun pc => cond (Nat.blt pc 94) (cond (Nat.blt pc 52) (cond (Nat.blt pc 27) (cond (Nat.blt pc 15) (cond (Nat.blt pc 7) (cond (Nat.blt pc 1) (cond (Nat.beq pc 0) (some (.aload_n 0, 1)) none) (cond (Nat.blt pc 4) (cond (Nat.beq pc 1) (some (.getfield 102, 3)) none) (cond (Nat.beq pc 4) (some (.ifCond .eq 21, 3)) none))) (cond (Nat.blt pc 11) (cond (Nat.blt pc 8) (cond (Nat.beq pc 7) (some (.aload_n 0, 1)) none) (cond (Nat.beq pc 8) (some (.getfield 112, 3)) none)) (cond (Nat.blt pc 14) (cond (Nat.beq pc 11) (some (.ifCond .eq 14, 3)) none) (cond (Nat.beq pc 14) (some (.iload_n 1, 1)) none)))) (cond (Nat.blt pc 20) (cond (Nat.blt pc 16) (cond (Nat.beq pc 15) (some (.iconst 1, 1)) none) (cond (Nat.blt pc 19) (cond (Nat.beq pc 16) (some (.if_icmp .lt 9, 3)) none) (cond (Nat.beq pc 19) (some (.iload_n 1, 1)) none))) (cond (Nat.blt pc 25) (cond (Nat.blt pc 22) (cond (Nat.beq pc 20) (some (.bipush 15, 2)) none) (cond (Nat.beq pc 22) (some (.if_icmp .le 5, 3)) none)) (cond (Nat.blt pc 26) (cond (Nat.beq pc 25) (some (.iconst 0, 1)) none) (cond (Nat.beq pc 26) (some (.ireturn, 1)) none))))) (cond (Nat.blt pc 40) (cond (Nat.blt pc 30) (cond (Nat.blt pc 28) (cond (Nat.beq pc 27) (some (.aload_n 0, 1)) none) (cond (Nat.blt pc 29) (cond (Nat.beq pc 28) (some (.iload_n 1, 1)) none) (cond (Nat.beq pc 29) (some (.iload_n 2, 1)) none))) (cond (Nat.blt pc 36) (cond (Nat.blt pc 33) (cond (Nat.beq pc 30) (some (.invokevirtual 118, 3)) none) (cond (Nat.beq pc 33) (some (.ifCond .eq 12, 3)) none)) (cond (Nat.blt pc 37) (cond (Nat.beq pc 36) (some (.aload_n 0, 1)) none) (cond (Nat.beq pc 37) (some (.getfield 115, 3)) none)))) (cond (Nat.blt pc 46) (cond (Nat.blt pc 42) (cond (Nat.beq pc 40) (some (.bipush 24, 2)) none) (cond (Nat.blt pc 45) (cond (Nat.beq pc 42) (some (.if_icmp .lt 5, 3)) none) (cond (Nat.beq pc 45) (some (.iconst 0, 1)) none))) (cond (Nat.blt pc 48) (cond (Nat.blt pc 47) (cond (Nat.beq pc 46) (some (.ireturn, 1)) none) (cond (Nat.beq pc 47) (some (.aload_n 0, 1)) none)) (cond (Nat.blt pc 51) (cond (Nat.beq pc 48) (some (.getfield 59, 3)) none) (cond (Nat.beq pc 51) (some (.aload_n 0, 1)) none)))))) (cond (Nat.blt pc 74) (cond (Nat.blt pc 65) (cond (Nat.blt pc 57) (cond (Nat.blt pc 55) (cond (Nat.beq pc 52) (some (.getfield 115, 3)) none) (cond (Nat.blt pc 56) (cond (Nat.beq pc 55) (some (.iload_n 1, 1)) none) (cond (Nat.beq pc 56) (some (.iastore, 1)) none))) (cond (Nat.blt pc 61) (cond (Nat.blt pc 58) (cond (Nat.beq pc 57) (some (.aload_n 0, 1)) none) (cond (Nat.beq pc 58) (some (.getfield 62, 3)) none)) (cond (Nat.blt pc 62) (cond (Nat.beq pc 61) (some (.aload_n 0, 1)) none) (cond (Nat.beq pc 62) (some (.getfield 115, 3)) none)))) (cond (Nat.blt pc 68) (cond (Nat.blt pc 66) (cond (Nat.beq pc 65) (some (.iload_n 2, 1)) none) (cond (Nat.blt pc 67) (cond (Nat.beq pc 66) (some (.iastore, 1)) none) (cond (Nat.beq pc 67) (some (.aload_n 0, 1)) none))) (cond (Nat.blt pc 72) (cond (Nat.blt pc 69) (cond (Nat.beq pc 68) (some (.dup, 1)) none) (cond (Nat.beq pc 69) (some (.getfield 115, 3)) none)) (cond (Nat.blt pc 73) (cond (Nat.beq pc 72) (some (.iconst 1, 1)) none) (cond (Nat.beq pc 73) (some (.iadd, 1)) none))))) (cond (Nat.blt pc 87) (cond (Nat.blt pc 81) (cond (Nat.blt pc 77) (cond (Nat.beq pc 74) (some (.putfield 115, 3)) none) (cond (Nat.blt pc 78) (cond (Nat.beq pc 77) (some (.aload_n 0, 1)) none) (cond (Nat.beq pc 78) (some (.getfield 53, 3)) none))) (cond (Nat.blt pc 85) (cond (Nat.blt pc 82) (cond (Nat.beq pc 81) (some (.aload_n 0, 1)) none) (cond (Nat.beq pc 82) (some (.getfield 112, 3)) none)) (cond (Nat.blt pc 86) (cond (Nat.beq pc 85) (some (.iconst 1, 1)) none) (cond (Nat.beq pc 86) (some (.isub, 1)) none)))) (cond (Nat.blt pc 90) (cond (Nat.blt pc 88) (cond (Nat.beq pc 87) (some (.dup2, 1)) none) (cond (Nat.blt pc 89) (cond (Nat.beq pc 88) (some (.iaload, 1)) none) (cond (Nat.beq pc 89) (some (.iconst 1, 1)) none))) (cond (Nat.blt pc 92) (cond (Nat.blt pc 91) (cond (Nat.beq pc 90) (some (.iadd, 1)) none) (cond (Nat.beq pc 91) (some (.iastore, 1)) none)) (cond (Nat.blt pc 93) (cond (Nat.beq pc 92) (some (.iconst 1, 1)) none) (cond (Nat.beq pc 93) (some (.ireturn, 1)) none))))))) none
def cd_4 : Nat → Option (Instr × Nat) := fun pc => cond (Nat.blt pc 109) (cond (Nat.blt pc 82) (cond (Nat.blt pc 70) (cond (Nat.blt pc 61) (cond (Nat.blt pc 1) (cond (Nat.beq pc 0) (some (.iload_n 1, 1)) none) (cond (Nat.blt pc 60) (cond (Nat.beq pc 1) (some (.tableswitch 106 2 12 #[59, 59, 75, 75, 106, 106, 106, 106, 90, 90, 59], 59)) none) (cond (Nat.beq pc 60) (some (.iload_n 2, 1)) none))) (cond (Nat.blt pc 65) (cond (Nat.blt pc 64) (cond (Nat.beq pc 61) (some (.ifCond .lt 13, 3)) none) (cond (Nat.beq pc 64) (some (.iload_n 2, 1)) none)) (cond (Nat.blt pc 67) (cond (Nat.beq pc 65) (some (.bipush 7, 2)) none) (cond (Nat.beq pc 67) (some (.if_icmp .gt 7, 3)) none)))) (cond (Nat.blt pc 76) (cond (Nat.blt pc 74) (cond (Nat.blt pc 71) (cond (Nat.beq pc 70) (some (.iconst 1, 1)) none) (cond (Nat.beq pc 71) (some (.goto 4, 3)) none)) (cond (Nat.blt pc 75) (cond (Nat.beq pc 74) (some (.iconst 0, 1)) none) (cond (Nat.beq pc 75) (some (.ireturn, 1)) none))) (cond (Nat.blt pc 80) (cond (Nat.blt pc 77) (cond (Nat.beq pc 76) (some (.iload_n 2, 1)) none) (cond (Nat.beq pc 77) (some (.ifCond .lt 12, 3)) none)) (cond (Nat.blt pc 81) (cond (Nat.beq pc 80) (some (.iload_n 2, 1)) none) (cond (Nat.beq pc 81) (some (.iconst 3, 1)) none))))) (cond (Nat.blt pc 96) (cond (Nat.blt pc 90) (cond (Nat.blt pc 86) (cond (Nat.blt pc 85) (cond (Nat.beq pc 82) (some (.if_icmp .gt 7, 3)) none) (cond (Nat.beq pc 85) (some (.iconst 1, 1)) none)) (cond (Nat.blt pc 89) (cond (Nat.beq pc 86) (some (.goto 4, 3)) none) (cond (Nat.beq pc 89) (some (.iconst 0, 1)) none))) (cond (Nat.blt pc 92) (cond (Nat.blt pc 91) (cond (Nat.beq pc 90) (some (.ireturn, 1)) none) (cond (Nat.beq pc 91) (some (.iload_n 2, 1)) none)) (cond (Nat.blt pc 95) (cond (Nat.beq pc 92) (some (.ifCond .lt 13, 3)) none) (cond (Nat.beq pc 95) (some (.iload_n 2, 1)) none)))) (cond (Nat.blt pc 105) (cond (Nat.blt pc 101) (cond (Nat.blt pc 98) (cond (Nat.beq pc 96) (some (.bipush 23, 2)) none) (cond (Nat.beq pc 98) (some (.if_icmp .gt 7, 3)) none)) (cond (Nat.blt pc 102) (cond (Nat.beq pc 101) (some (.iconst 1, 1)) none) (cond (Nat.beq pc 102) (some (.goto 4, 3)) none))) (cond (Nat.blt pc 107) (cond (Nat.blt pc 106) (cond (Nat.beq pc 105) (some (.iconst 0, 1)) none) (cond (Nat.beq pc 106) (some (.ireturn, 1)) none)) (cond (Nat.blt pc 108) (cond (Nat.beq pc 107) (some (.iconst 1, 1)) none) (cond (Nat.beq pc 108) (some (.ireturn, 1)) none)))))) none
def cd_5 : Nat → Option (Instr × Nat) := fun pc => cond (Nat.blt pc 16) (cond (Nat.blt pc 8) (cond (Nat.blt pc 4) (cond (Nat.blt pc 1) (cond (Nat.beq pc 0) (some (.aload_n 0, 1)) none) (cond (Nat.beq pc 1) (some (.getfield 102, 3)) none)) (cond (Nat.blt pc 7) (cond (Nat.beq pc 4) (some (.ifCond .eq 10, 3)) none) (cond (Nat.beq pc 7) (some (.aload_n 0, 1)) none))) (cond (Nat.blt pc 14) (cond (Nat.blt pc 11) (cond (Nat.beq pc 8) (some (.getfield 115, 3)) none) (cond (Nat.beq pc 11) (some (.goto 4, 3)) none)) (cond (Nat.blt pc 15) (cond (Nat.beq pc 14) (some (.iconst (-1), 1)) none) (cond (Nat.beq pc 15) (some (.ireturn, 1)) none)))) none
def cd_6 : Nat → Option (Instr × Nat) := fun pc => cond (Nat.blt pc 55) (cond (Nat.blt pc 27) (cond (Nat.blt pc 13) (cond (Nat.blt pc 7) (cond (Nat.blt pc 1) (cond (Nat.beq pc 0) (some (.aload_n 0, 1)) none) (cond (Nat.blt pc 4) (cond (Nat.beq pc 1) (some (.getfield 102, 3)) none) (cond (Nat.beq pc 4) (some (.ifCond .ne 5, 3)) none))) (cond (Nat.blt pc 9) (cond (Nat.blt pc 8) (cond (Nat.beq pc 7) (some (.iconst 1, 1)) none) (cond (Nat.beq pc 8) (some (.ireturn, 1)) none)) (cond (Nat.blt pc 10) (cond (Nat.beq pc 9) (some (.aload_n 0, 1)) none) (cond (Nat.beq pc 10) (some (.invokevirtual 122, 3)) none)))) (cond (Nat.blt pc 19) (cond (Nat.blt pc 17) (cond (Nat.blt pc 16) (cond (Nat.beq pc 13) (some (.ifCond .eq 5, 3)) none) (cond (Nat.beq pc 16) (some (.iconst 2, 1)) none)) (cond (Nat.blt pc 18) (cond (Nat.beq pc 17) (some (.ireturn, 1)) none) (cond (Nat.beq pc 18) (some (.aload_n 0, 1)) none))) (cond (Nat.blt pc 25) (cond (Nat.blt pc 22) (cond (Nat.beq pc 19) (some (.invokevirtual 126, 3)) none) (cond (Nat.beq pc 22) (some (.ifCond .eq 5, 3)) none)) (cond (Nat.blt pc 26) (cond (Nat.beq pc 25) (some (.iconst 3, 1)) none) (cond (Nat.beq pc 26) (some (.ireturn, 1)) none))))) (cond (Nat.blt pc 41) (cond (Nat.blt pc 35) (cond (Nat.blt pc 31) (cond (Nat.blt pc 28) (cond (Nat.beq pc 27) (some (.aload_n 0, 1)) none) (cond (Nat.beq pc 28) (some (.invokevirtual 129, 3)) none)) (cond (Nat.blt pc 34) (cond (Nat.beq pc 31) (some (.ifCond .eq 5, 3)) none) (cond (Nat.beq pc 34) (some (.iconst 4, 1)) none))) (cond (Nat.blt pc 37) (cond (Nat.blt pc 36) (cond (Nat.beq pc 35) (some (.ireturn, 1)) none) (cond (Nat.beq pc 36) (some (.aload_n 0, 1)) none)) (cond (Nat.blt pc 40) (cond (Nat.beq pc 37) (some (.invokevirtual 132, 3)) none) (cond (Nat.beq pc 40) (some (.aload_n 0, 1)) none)))) (cond (Nat.blt pc 49) (cond (Nat.blt pc 45) (cond (Nat.blt pc 42) (cond (Nat.beq pc 41) (some (.aload_n 0, 1)) none) (cond (Nat.beq pc 42) (some (.getfield 106, 3)) none)) (cond (Nat.blt pc 48) (cond (Nat.beq pc 45) (some (.invokevirtual 135, 3)) none) (cond (Nat.beq pc 48) (some (.aload_n 0, 1)) none))) (cond (Nat.blt pc 53) (cond (Nat.blt pc 50) (cond (Nat.beq pc 49) (some (.iconst 0, 1)) none) (cond (Nat.beq pc 50) (some (.putfield 102, 3)) none)) (cond (Nat.blt pc 54) (cond (Nat.beq pc 53) (some (.iconst 0, 1)) none) (cond (Nat.beq pc 54) (some (.ireturn, 1)) none)))))) none
def cd_7 : Nat → Option (Instr × Nat) := fun pc => cond (Nat.blt pc 84) (cond (Nat.blt pc 35) (cond (Nat.blt pc 18) (cond (Nat.blt pc 10) (cond (Nat.blt pc 3) (cond (Nat.blt pc 1) (cond (Nat.beq pc 0) (some (.iconst 0, 1)) none) (cond (Nat.blt pc 2) (cond (Nat.beq pc 1) (some (.istore_n 1, 1)) none) (cond (Nat.beq pc 2) (some (.iload_n 1, 1)) none))) (cond (Nat.blt pc 4) (cond (Nat.beq pc 3) (some (.aload_n 0, 1)) none) (cond (Nat.blt pc 7) (cond (Nat.beq pc 4) (some (.getfield 112, 3)) none) (cond (Nat.beq pc 7) (some (.if_icmp .ge 75, 3)) none)))) (cond (Nat.blt pc 15) (cond (Nat.blt pc 11) (cond (Nat.beq pc 10) (some (.aload_n 0, 1)) none) (cond (Nat.blt pc 14) (cond (Nat.beq pc 11) (some (.getfield 53, 3)) none) (cond (Nat.beq pc 14) (some (.iload_n 1, 1)) none))) (cond (Nat.blt pc 16) (cond (Nat.beq pc 15) (some (.iaload, 1)) none) (cond (Nat.blt pc 17) (cond (Nat.beq pc 16) (some (.istore_n 2, 1)) none) (cond (Nat.beq pc 17) (some (.iconst 0, 1)) none))))) (cond (Nat.blt pc 28) (cond (Nat.blt pc 21) (cond (Nat.blt pc 19) (cond (Nat.beq pc 18) (some (.istore_n 3, 1)) none) (cond (Nat.blt pc 20) (cond (Nat.beq pc 19) (some (.iload_n 3, 1)) none) (cond (Nat.beq pc 20) (some (.iload_n 2, 1)) none))) (cond (Nat.blt pc 24) (cond (Nat.beq pc 21) (some (.if_icmp .ge 55, 3)) none) (cond (Nat.blt pc 25) (cond (Nat.beq pc 24) (some (.aload_n 0, 1)) none) (cond (Nat.beq pc 25) (some (.getfield 56, 3)) none)))) (cond (Nat.blt pc 31) (cond (Nat.blt pc 29) (cond (Nat.beq pc 28) (some (.iload_n 1, 1)) none) (cond (Nat.blt pc 30) (cond (Nat.beq pc 29) (some (.iaload, 1)) none) (cond (Nat.beq pc 30) (some (.iload_n 3, 1)) none))) (cond (Nat.blt pc 32) (cond (Nat.beq pc 31) (some (.iadd, 1)) none) (cond (Nat.blt pc 34) (cond (Nat.beq pc 32) (some (.istore 4, 2)) none) (cond (Nat.beq pc 34) (some (.aload_n 0, 1)) none)))))) (cond (Nat.blt pc 61) (cond (Nat.blt pc 47) (cond (Nat.blt pc 41) (cond (Nat.blt pc 38) (cond (Nat.beq pc 35) (some (.getfield 59, 3)) none) (cond (Nat.blt pc 40) (cond (Nat.beq pc 38) (some (.iload 4, 2)) none) (cond (Nat.beq pc 40) (some (.iaload, 1)) none))) (cond (Nat.blt pc 43) (cond (Nat.beq pc 41) (some (.istore 5, 2)) none) (cond (Nat.blt pc 45) (cond (Nat.beq pc 43) (some (.iload 5, 2)) none) (cond (Nat.beq pc 45) (some (.bipush 10, 2)) none)))) (cond (Nat.blt pc 54) (cond (Nat.blt pc 50) (cond (Nat.beq pc 47) (some (.if_icmp .eq 10, 3)) none) (cond (Nat.blt pc 52) (cond (Nat.beq pc 50) (some (.iload 5, 2)) none) (cond (Nat.beq pc 52) (some (.bipush 11, 2)) none))) (cond (Nat.blt pc 57) (cond (Nat.beq pc 54) (some (.if_icmp .ne 16, 3)) none) (cond (Nat.blt pc 58) (cond (Nat.beq pc 57) (some (.aload_n 0, 1)) none) (cond (Nat.beq pc 58) (some (.getfield 62, 3)) none))))) (cond (Nat.blt pc 70) (cond (Nat.blt pc 65) (cond (Nat.blt pc 63) (cond (Nat.beq pc 61) (some (.iload 4, 2)) none) (cond (Nat.blt pc 64) (cond (Nat.beq pc 63) (some (.iaload, 1)) none) (cond (Nat.beq pc 64) (some (.iload_n 2, 1)) none))) (cond (Nat.blt pc 68) (cond (Nat.beq pc 65) (some (.if_icmp .lt 5, 3)) none) (cond (Nat.blt pc 69) (cond (Nat.beq pc 68) (some (.iconst 1, 1)) none) (cond (Nat.beq pc 69) (some (.ireturn, 1)) none)))) (cond (Nat.blt pc 79) (cond (Nat.blt pc 73) (cond (Nat.beq pc 70) (some (.iinc 3 1, 3)) none) (cond (Nat.blt pc 76) (cond (Nat.beq pc 73) (some (.goto (-54), 3)) none) (cond (Nat.beq pc 76) (some (.iinc 1 1, 3)) none))) (cond (Nat.blt pc 82) (cond (Nat.beq pc 79) (some (.goto (-77), 3)) none) (cond (Nat.blt pc 83) (cond (Nat.beq pc 82) (some (.iconst 0, 1)) none) (cond (Nat.beq pc 83) (some (.ireturn, 1)) none))))))) none
def cd_8 : Nat → Option (Instr × Nat) := fun pc => cond (Nat.blt pc 50) (cond (Nat.blt pc 23) (cond (Nat.blt pc 11) (cond (Nat.blt pc 3) (cond (Nat.blt pc 1) (cond (Nat.beq pc 0) (some (.iconst 0, 1)) none) (cond (Nat.blt pc 2) (cond (Nat.beq pc 1) (some (.istore_n 1, 1)) none) (cond (Nat.beq pc 2) (some (.iload_n 1, 1)) none))) (cond (Nat.blt pc 7) (cond (Nat.blt pc 4) (cond (Nat.beq pc 3) (some (.aload_n 0, 1)) none) (cond (Nat.beq pc 4) (some (.getfield 115, 3)) none)) (cond (Nat.blt pc 10) (cond (Nat.beq pc 7) (some (.if_icmp .ge 41, 3)) none) (cond (Nat.beq pc 10) (some (.aload_n 0, 1)) none)))) (cond (Nat.blt pc 17) (cond (Nat.blt pc 15) (cond (Nat.blt pc 14) (cond (Nat.beq pc 11) (some (.getfield 59, 3)) none) (cond (Nat.beq pc 14) (some (.iload_n 1, 1)) none)) (cond (Nat.blt pc 16) (cond (Nat.beq pc 15) (some (.iaload, 1)) none) (cond (Nat.beq pc 16) (some (.istore_n 2, 1)) none))) (cond (Nat.blt pc 19) (cond (Nat.blt pc 18) (cond (Nat.beq pc 17) (some (.iload_n 2, 1)) none) (cond (Nat.beq pc 18) (some (.iconst 4, 1)) none)) (cond (Nat.blt pc 22) (cond (Nat.beq pc 19) (some (.if_icmp .eq 8, 3)) none) (cond (Nat.beq pc 22) (some (.iload_n 2, 1)) none))))) (cond (Nat.blt pc 34) (cond (Nat.blt pc 28) (cond (Nat.blt pc 24) (cond (Nat.beq pc 23) (some (.iconst 5, 1)) none) (cond (Nat.blt pc 27) (cond (Nat.beq pc 24) (some (.if_icmp .ne 18, 3)) none) (cond (Nat.beq pc 27) (some (.aload_n 0, 1)) none))) (cond (Nat.blt pc 32) (cond (Nat.blt pc 31) (cond (Nat.beq pc 28) (some (.getfield 62, 3)) none) (cond (Nat.beq pc 31) (some (.iload_n 1, 1)) none)) (cond (Nat.blt pc 33) (cond (Nat.beq pc 32) (some (.iaload, 1)) none) (cond (Nat.beq pc 33) (some (.aload_n 0, 1)) none)))) (cond (Nat.blt pc 42) (cond (Nat.blt pc 40) (cond (Nat.blt pc 37) (cond (Nat.beq pc 34) (some (.getfield 109, 3)) none) (cond (Nat.beq pc 37) (some (.if_icmp .lt 5, 3)) none)) (cond (Nat.blt pc 41) (cond (Nat.beq pc 40) (some (.iconst 1, 1)) none) (cond (Nat.beq pc 41) (some (.ireturn, 1)) none))) (cond (Nat.blt pc 48) (cond (Nat.blt pc 45) (cond (Nat.beq pc 42) (some (.iinc 1 1, 3)) none) (cond (Nat.beq pc 45) (some (.goto (-43), 3)) none)) (cond (Nat.blt pc 49) (cond (Nat.beq pc 48) (some (.iconst 0, 1)) none) (cond (Nat.beq pc 49) (some (.ireturn, 1)) none)))))) none
def cd_9 : Nat → Option (Instr × Nat) := fun pc => cond (Nat.blt pc 44) (cond (Nat.blt pc 21) (cond (Nat.blt pc 10) (cond (Nat.blt pc 3) (cond (Nat.blt pc 1) (cond (Nat.beq pc 0) (some (.iconst 0, 1)) none) (cond (Nat.blt pc 2) (cond (Nat.beq pc 1) (some (.istore_n 1, 1)) none) (cond (Nat.beq pc 2) (some (.iload_n 1, 1)) none))) (cond (Nat.blt pc 4) (cond (Nat.beq pc 3) (some (.aload_n 0, 1)) none) (cond (Nat.blt pc 7) (cond (Nat.beq pc 4) (some (.getfield 112, 3)) none) (cond (Nat.beq pc 7) (some (.if_icmp .ge 35, 3)) none)))) (cond (Nat.blt pc 15) (cond (Nat.blt pc 11) (cond (Nat.beq pc 10) (some (.aload_n 0, 1)) none) (cond (Nat.blt pc 14) (cond (Nat.beq pc 11) (some (.getfield 44, 3)) none) (cond (Nat.beq pc 14) (some (.aload_n 0, 1)) none))) (cond (Nat.blt pc 19) (cond (Nat.blt pc 18) (cond (Nat.beq pc 15) (some (.getfield 50, 3)) none) (cond (Nat.beq pc 18) (some (.iload_n 1, 1)) none)) (cond (Nat.blt pc 20) (cond (Nat.beq pc 19) (some (.iaload, 1)) none) (cond (Nat.beq pc 20) (some (.iaload, 1)) none))))) (cond (Nat.blt pc 31) (cond (Nat.blt pc 26) (cond (Nat.blt pc 22) (cond (Nat.beq pc 21) (some (.istore_n 2, 1)) none) (cond (Nat.blt pc 23) (cond (Nat.beq pc 22) (some (.iload_n 2, 1)) none) (cond (Nat.beq pc 23) (some (.ifCond .lt 13, 3)) none))) (cond (Nat.blt pc 27) (cond (Nat.beq pc 26) (some (.iload_n 2, 1)) none) (cond (Nat.blt pc 28) (cond (Nat.beq pc 27) (some (.aload_n 0, 1)) none) (cond (Nat.beq pc 28) (some (.getfield 106, 3)) none)))) (cond (Nat.blt pc 36) (cond (Nat.blt pc 34) (cond (Nat.beq pc 31) (some (.if_icmp .eq 5, 3)) none) (cond (Nat.blt pc 35) (cond (Nat.beq pc 34) (some (.iconst 1, 1)) none) (cond (Nat.beq pc 35) (some (.ireturn, 1)) none))) (cond (Nat.blt pc 42) (cond (Nat.blt pc 39) (cond (Nat.beq pc 36) (some (.iinc 1 1, 3)) none) (cond (Nat.beq pc 39) (some (.goto (-37), 3)) none)) (cond (Nat.blt pc 43) (cond (Nat.beq pc 42) (some (.iconst 0, 1)) none) (cond (Nat.beq pc 43) (some (.ireturn, 1)) none)))))) none
def cd_10 : Nat → Option (Instr × Nat) := fun pc => cond (Nat.blt pc 216) (cond (Nat.blt pc 106) (cond (Nat.blt pc 53) (cond (Nat.blt pc 27) (cond (Nat.blt pc 14) (cond (Nat.blt pc 6) (cond (Nat.blt pc 4) (cond (Nat.blt pc 1) (cond (Nat.beq pc 0) (some (.aload_n 0, 1)) none) (cond (Nat.beq pc 1) (some (.getfield 106, 3)) none)) (cond (Nat.blt pc 5) (cond (Nat.beq pc 4) (some (.istore_n 1, 1)) none) (cond (Nat.beq pc 5) (some (.aload_n 0, 1)) none))) (cond (Nat.blt pc 10) (cond (Nat.blt pc 7) (cond (Nat.beq pc 6) (some (.iload_n 1, 1)) none) (cond (Nat.beq pc 7) (some (.invokevirtual 139, 3)) none)) (cond (Nat.blt pc 11) (cond (Nat.beq pc 10) (some (.aload_n 0, 1)) none) (cond (Nat.beq pc 11) (some (.getfield 13, 3)) none)))) (cond (Nat.blt pc 20) (cond (Nat.blt pc 16) (cond (Nat.blt pc 15) (cond (Nat.beq pc 14) (some (.iload_n 1, 1)) none) (cond (Nat.beq pc 15) (some (.aload_n 0, 1)) none)) (cond (Nat.blt pc 19) (cond (Nat.beq pc 16) (some (.getfield 109, 3)) none) (cond (Nat.beq pc 19) (some (.iastore, 1)) none))) (cond (Nat.blt pc 22) (cond (Nat.blt pc 21) (cond (Nat.beq pc 20) (some (.iconst 0, 1)) none) (cond (Nat.beq pc 21) (some (.istore_n 2, 1)) none)) (cond (Nat.blt pc 23) (cond (Nat.beq pc 22) (some (.iload_n 2, 1)) none) (cond (Nat.blt pc 24) (cond (Nat.beq pc 23) (some (.aload_n 0, 1)) none) (cond (Nat.beq pc 24) (some (.getfield 109, 3)) none)))))) (cond (Nat.blt pc 40) (cond (Nat.blt pc 35) (cond (Nat.blt pc 31) (cond (Nat.blt pc 30) (cond (Nat.beq pc 27) (some (.if_icmp .ge 41, 3)) none) (cond (Nat.beq pc 30) (some (.aload_n 0, 1)) none)) (cond (Nat.blt pc 34) (cond (Nat.beq pc 31) (some (.getfield 17, 3)) none) (cond (Nat.beq pc 34) (some (.iload_n 1, 1)) none))) (cond (Nat.blt pc 37) (cond (Nat.blt pc 36) (cond (Nat.beq pc 35) (some (.iconst 4, 1)) none) (cond (Nat.beq pc 36) (some (.imul, 1)) none)) (cond (Nat.blt pc 38) (cond (Nat.beq pc 37) (some (.iload_n 2, 1)) none) (cond (Nat.blt pc 39) (cond (Nat.beq pc 38) (some (.iadd, 1)) none) (cond (Nat.beq pc 39) (some (.aload_n 0, 1)) none))))) (cond (Nat.blt pc 46) (cond (Nat.blt pc 44) (cond (Nat.blt pc 43) (cond (Nat.beq pc 40) (some (.getfield 47, 3)) none) (cond (Nat.beq pc 43) (some (.iload_n 2, 1)) none)) (cond (Nat.blt pc 45) (cond (Nat.beq pc 44) (some (.iaload, 1)) none) (cond (Nat.beq pc 45) (some (.iastore, 1)) none))) (cond (Nat.blt pc 50) (cond (Nat.blt pc 47) (cond (Nat.beq pc 46) (some (.aload_n 0, 1)) none) (cond (Nat.beq pc 47) (some (.getfield 20, 3)) none)) (cond (Nat.blt pc 51) (cond (Nat.beq pc 50) (some (.iload_n 1, 1)) none) (cond (Nat.blt pc 52) (cond (Nat.beq pc 51) (some (.iconst 4, 1)) none) (cond (Nat.beq pc 52) (some (.imul, 1)) none))))))) (cond (Nat.blt pc 80) (cond (Nat.blt pc 65) (cond (Nat.blt pc 59) (cond (Nat.blt pc 55) (cond (Nat.blt pc 54) (cond (Nat.beq pc 53) (some (.iload_n 2, 1)) none) (cond (Nat.beq pc 54) (some (.iadd, 1)) none)) (cond (Nat.blt pc 56) (cond (Nat.beq pc 55) (some (.aload_n 0, 1)) none) (cond (Nat.beq pc 56) (some (.getfield 47, 3)) none))) (cond (Nat.blt pc 61) (cond (Nat.blt pc 60) (cond (Nat.beq pc 59) (some (.iload_n 2, 1)) none) (cond (Nat.beq pc 60) (some (.iaload, 1)) none)) (cond (Nat.blt pc 62) (cond (Nat.beq pc 61) (some (.iastore, 1)) none) (cond (Nat.beq pc 62) (some (.iinc 2 1, 3)) none)))) (cond (Nat.blt pc 73) (cond (Nat.blt pc 69) (cond (Nat.blt pc 68) (cond (Nat.beq pc 65) (some (.goto (-43), 3)) none) (cond (Nat.beq pc 68) (some (.aload_n 0, 1)) none)) (cond (Nat.blt pc 72) (cond (Nat.beq pc 69) (some (.getfield 23, 3)) none) (cond (Nat.beq pc 72) (some (.iload_n 1, 1)) none))) (cond (Nat.blt pc 77) (cond (Nat.blt pc 74) (cond (Nat.beq pc 73) (some (.aload_n 0, 1)) none) (cond (Nat.beq pc 74) (some (.getfield 112, 3)) none)) (cond (Nat.blt pc 78) (cond (Nat.beq pc 77) (some (.iastore, 1)) none) (cond (Nat.blt pc 79) (cond (Nat.beq pc 78) (some (.iconst 0, 1)) none) (cond (Nat.beq pc 79) (some (.istore_n 2, 1)) none)))))) (cond (Nat.blt pc 93) (cond (Nat.blt pc 88) (cond (Nat.blt pc 82) (cond (Nat.blt pc 81) (cond (Nat.beq pc 80) (some (.iload_n 2, 1)) none) (cond (Nat.beq pc 81) (some (.aload_n 0, 1)) none)) (cond (Nat.blt pc 85) (cond (Nat.beq pc 82) (some (.getfield 112, 3)) none) (cond (Nat.beq pc 85) (some (.if_icmp .ge 63, 3)) none))) (cond (Nat.blt pc 90) (cond (Nat.blt pc 89) (cond (Nat.beq pc 88) (some (.iload_n 1, 1)) none) (cond (Nat.beq pc 89) (some (.iconst 4, 1)) none)) (cond (Nat.blt pc 91) (cond (Nat.beq pc 90) (some (.imul, 1)) none) (cond (Nat.blt pc 92) (cond (Nat.beq pc 91) (some (.iload_n 2, 1)) none) (cond (Nat.beq pc 92) (some (.iadd, 1)) none))))) (cond (Nat.blt pc 99) (cond (Nat.blt pc 95) (cond (Nat.blt pc 94) (cond (Nat.beq pc 93) (some (.istore_n 3, 1)) none) (cond (Nat.beq pc 94) (some (.aload_n 0, 1)) none)) (cond (Nat.blt pc 98) (cond (Nat.beq pc 95) (some (.getfield 26, 3)) none) (cond (Nat.beq pc 98) (some (.iload_n 3, 1)) none))) (cond (Nat.blt pc 103) (cond (Nat.blt pc 100) (cond (Nat.beq pc 99) (some (.aload_n 0, 1)) none) (cond (Nat.beq pc 100) (some (.getfield 50, 3)) none)) (cond (Nat.blt pc 104) (cond (Nat.beq pc 103) (some (.iload_n 2, 1)) none) (cond (Nat.blt pc 105) (cond (Nat.beq pc 104) (some (.iaload, 1)) none) (cond (Nat.beq pc 105) (some (.iastore, 1)) none)))))))) (cond (Nat.blt pc 163) (cond (Nat.blt pc 131) (cond (Nat.blt pc 118) (cond (Nat.blt pc 112) (cond (Nat.blt pc 110) (cond (Nat.blt pc 107) (cond (Nat.beq pc 106) (some (.aload_n 0, 1)) none) (cond (Nat.beq pc 107) (some (.getfield 29, 3)) none)) (cond (Nat.blt pc 111) (cond (Nat.beq pc 110) (some (.iload_n 3, 1)) none) (cond (Nat.beq pc 111) (some (.aload_n 0, 1)) none))) (cond (Nat.blt pc 116) (cond (Nat.blt pc 115) (cond (Nat.beq pc 112) (some (.getfield 53, 3)) none) (cond (Nat.beq pc 115) (some (.iload_n 2, 1)) none)) (cond (Nat.blt pc 117) (cond (Nat.beq pc 116) (some (.iaload, 1)) none) (cond (Nat.beq pc 117) (some (.iastore, 1)) none)))) (cond (Nat.blt pc 124) (cond (Nat.blt pc 122) (cond (Nat.blt pc 119) (cond (Nat.beq pc 118) (some (.aload_n 0, 1)) none) (cond (Nat.beq pc 119) (some (.getfield 32, 3)) none)) (cond (Nat.blt pc 123) (cond (Nat.beq pc 122) (some (.iload_n 3, 1)) none) (cond (Nat.beq pc 123) (some (.aload_n 0, 1)) none))) (cond (Nat.blt pc 128) (cond (Nat.blt pc 127) (cond (Nat.beq pc 124) (some (.getfield 56, 3)) none) (cond (Nat.beq pc 127) (some (.iload_n 2, 1)) none)) (cond (Nat.blt pc 129) (cond (Nat.beq pc 128) (some (.iaload, 1)) none) (cond (Nat.blt pc 130) (cond (Nat.beq pc 129) (some (.iastore, 1)) none) (cond (Nat.beq pc 130) (some (.aload_n 0, 1)) none)))))) (cond (Nat.blt pc 148) (cond (Nat.blt pc 139) (cond (Nat.blt pc 135) (cond (Nat.blt pc 134) (cond (Nat.beq pc 131) (some (.getfield 44, 3)) none) (cond (Nat.beq pc 134) (some (.aload_n 0, 1)) none)) (cond (Nat.blt pc 138) (cond (Nat.beq pc 135) (some (.getfield 50, 3)) none) (cond (Nat.beq pc 138) (some (.iload_n 2, 1)) none))) (cond (Nat.blt pc 141) (cond (Nat.blt pc 140) (cond (Nat.beq pc 139) (some (.iaload, 1)) none) (cond (Nat.beq pc 140) (some (.iload_n 1, 1)) none)) (cond (Nat.blt pc 142) (cond (Nat.beq pc 141) (some (.iastore, 1)) none) (cond (Nat.blt pc 145) (cond (Nat.beq pc 142) (some (.iinc 2 1, 3)) none) (cond (Nat.beq pc 145) (some (.goto (-65), 3)) none))))) (cond (Nat.blt pc 152) (cond (Nat.blt pc 150) (cond (Nat.blt pc 149) (cond (Nat.beq pc 148) (some (.iconst 0, 1)) none) (cond (Nat.beq pc 149) (some (.istore_n 2, 1)) none)) (cond (Nat.blt pc 151) (cond (Nat.beq pc 150) (some (.iload_n 2, 1)) none) (cond (Nat.beq pc 151) (some (.aload_n 0, 1)) none))) (cond (Nat.blt pc 158) (cond (Nat.blt pc 155) (cond (Nat.beq pc 152) (some (.getfield 115, 3)) none) (cond (Nat.beq pc 155) (some (.if_icmp .ge 43, 3)) none)) (cond (Nat.blt pc 159) (cond (Nat.beq pc 158) (some (.aload_n 0, 1)) none) (cond (Nat.blt pc 162) (cond (Nat.beq pc 159) (some (.getfield 35, 3)) none) (cond (Nat.beq pc 162) (some (.iload_n 1, 1)) none))))))) (cond (Nat.blt pc 186) (cond (Nat.blt pc 174) (cond (Nat.blt pc 168) (cond (Nat.blt pc 166) (cond (Nat.blt pc 165) (cond (Nat.beq pc 163) (some (.bipush 24, 2)) none) (cond (Nat.beq pc 165) (some (.imul, 1)) none)) (cond (Nat.blt pc 167) (cond (Nat.beq pc 166) (some (.iload_n 2, 1)) none) (cond (Nat.beq pc 167) (some (.iadd, 1)) none))) (cond (Nat.blt pc 172) (cond (Nat.blt pc 169) (cond (Nat.beq pc 168) (some (.aload_n 0, 1)) none) (cond (Nat.beq pc 169) (some (.getfield 59, 3)) none)) (cond (Nat.blt pc 173) (cond (Nat.beq pc 172) (some (.iload_n 2, 1)) none) (cond (Nat.beq pc 173) (some (.iaload, 1)) none)))) (cond (Nat.blt pc 180) (cond (Nat.blt pc 176) (cond (Nat.blt pc 175) (cond (Nat.beq pc 174) (some (.iastore, 1)) none) (cond (Nat.beq pc 175) (some (.aload_n 0, 1)) none)) (cond (Nat.blt pc 179) (cond (Nat.beq pc 176) (some (.getfield 38, 3)) none) (cond (Nat.beq pc 179) (some (.iload_n 1, 1)) none))) (cond (Nat.blt pc 183) (cond (Nat.blt pc 182) (cond (Nat.beq pc 180) (some (.bipush 24, 2)) none) (cond (Nat.beq pc 182) (some (.imul, 1)) none)) (cond (Nat.blt pc 184) (cond (Nat.beq pc 183) (some (.iload_n 2, 1)) none) (cond (Nat.blt pc 185) (cond (Nat.beq pc 184) (some (.iadd, 1)) none) (cond (Nat.beq pc 185) (some (.aload_n 0, 1)) none)))))) (cond (Nat.blt pc 203) (cond (Nat.blt pc 192) (cond (Nat.blt pc 190) (cond (Nat.blt pc 189) (cond (Nat.beq pc 186) (some (.getfield 62, 3)) none) (cond (Nat.beq pc 189) (some (.iload_n 2, 1)) none)) (cond (Nat.blt pc 191) (cond (Nat.beq pc 190) (some (.iaload, 1)) none) (cond (Nat.beq pc 191) (some (.iastore, 1)) none))) (cond (Nat.blt pc 198) (cond (Nat.blt pc 195) (cond (Nat.beq pc 192) (some (.iinc 2 1, 3)) none) (cond (Nat.beq pc 195) (some (.goto (-45), 3)) none)) (cond (Nat.blt pc 199) (cond (Nat.beq pc 198) (some (.aload_n 0, 1)) none) (cond (Nat.blt pc 202) (cond (Nat.beq pc 199) (some (.getfield 41, 3)) none) (cond (Nat.beq pc 202) (some (.iload_n 1, 1)) none))))) (cond (Nat.blt pc 209) (cond (Nat.blt pc 207) (cond (Nat.blt pc 204) (cond (Nat.beq pc 203) (some (.aload_n 0, 1)) none) (cond (Nat.beq pc 204) (some (.getfield 115, 3)) none)) (cond (Nat.blt pc 208) (cond (Nat.beq pc 207) (some (.iastore, 1)) none) (cond (Nat.beq pc 208) (some (.aload_n 0, 1)) none))) (cond (Nat.blt pc 213) (cond (Nat.blt pc 212) (cond (Nat.beq pc 209) (some (.getfield 7, 3)) none) (cond (Nat.beq pc 212) (some (.iload_n 1, 1)) none)) (cond (Nat.blt pc 214) (cond (Nat.beq pc 213) (some (.iconst 1, 1)) none) (cond (Nat.blt pc 215) (cond (Nat.beq pc 214) (some (.bastore, 1)) none) (cond (Nat.beq pc 215) (some (.return_, 1)) none))))))))) none
def cd_11 : Nat → Option (Instr × Nat) := fun pc => cond (Nat.blt pc 54) (cond (Nat.blt pc 28) (cond (Nat.blt pc 13) (cond (Nat.blt pc 6) (cond (Nat.blt pc 4) (cond (Nat.blt pc 1) (cond (Nat.beq pc 0) (some (.aload_n 0, 1)) none) (cond (Nat.beq pc 1) (some (.getfield 7, 3)) none)) (cond (Nat.blt pc 5) (cond (Nat.beq pc 4) (some (.iload_n 1, 1)) none) (cond (Nat.beq pc 5) (some (.baload, 1)) none))) (cond (Nat.blt pc 10) (cond (Nat.blt pc 9) (cond (Nat.beq pc 6) (some (.ifCond .ne 4, 3)) none) (cond (Nat.beq pc 9) (some (.return_, 1)) none)) (cond (Nat.blt pc 11) (cond (Nat.beq pc 10) (some (.iconst 0, 1)) none) (cond (Nat.blt pc 12) (cond (Nat.beq pc 11) (some (.istore_n 2, 1)) none) (cond (Nat.beq pc 12) (some (.iload_n 2, 1)) none))))) (cond (Nat.blt pc 19) (cond (Nat.blt pc 17) (cond (Nat.blt pc 14) (cond (Nat.beq pc 13) (some (.aload_n 0, 1)) none) (cond (Nat.beq pc 14) (some (.getfield 23, 3)) none)) (cond (Nat.blt pc 18) (cond (Nat.beq pc 17) (some (.iload_n 1, 1)) none) (cond (Nat.beq pc 18) (some (.iaload, 1)) none))) (cond (Nat.blt pc 23) (cond (Nat.blt pc 22) (cond (Nat.beq pc 19) (some (.if_icmp .ge 34, 3)) none) (cond (Nat.beq pc 22) (some (.aload_n 0, 1)) none)) (cond (Nat.blt pc 26) (cond (Nat.beq pc 23) (some (.getfield 26, 3)) none) (cond (Nat.blt pc 27) (cond (Nat.beq pc 26) (some (.iload_n 1, 1)) none) (cond (Nat.beq pc 27) (some (.iconst 4, 1)) none)))))) (cond (Nat.blt pc 39) (cond (Nat.blt pc 32) (cond (Nat.blt pc 30) (cond (Nat.blt pc 29) (cond (Nat.beq pc 28) (some (.imul, 1)) none) (cond (Nat.beq pc 29) (some (.iload_n 2, 1)) none)) (cond (Nat.blt pc 31) (cond (Nat.beq pc 30) (some (.iadd, 1)) none) (cond (Nat.beq pc 31) (some (.iaload, 1)) none))) (cond (Nat.blt pc 34) (cond (Nat.blt pc 33) (cond (Nat.beq pc 32) (some (.istore_n 3, 1)) none) (cond (Nat.beq pc 33) (some (.aload_n 0, 1)) none)) (cond (Nat.blt pc 37) (cond (Nat.beq pc 34) (some (.getfield 44, 3)) none) (cond (Nat.blt pc 38) (cond (Nat.beq pc 37) (some (.iload_n 3, 1)) none) (cond (Nat.beq pc 38) (some (.iconst (-1), 1)) none))))) (cond (Nat.blt pc 45) (cond (Nat.blt pc 41) (cond (Nat.blt pc 40) (cond (Nat.beq pc 39) (some (.iastore, 1)) none) (cond (Nat.beq pc 40) (some (.aload_n 0, 1)) none)) (cond (Nat.blt pc 44) (cond (Nat.beq pc 41) (some (.getfield 81, 3)) none) (cond (Nat.beq pc 44) (some (.iload_n 3, 1)) none))) (cond (Nat.blt pc 47) (cond (Nat.blt pc 46) (cond (Nat.beq pc 45) (some (.iconst (-1), 1)) none) (cond (Nat.beq pc 46) (some (.iastore, 1)) none)) (cond (Nat.blt pc 50) (cond (Nat.beq pc 47) (some (.iinc 2 1, 3)) none) (cond (Nat.blt pc 53) (cond (Nat.beq pc 50) (some (.goto (-38), 3)) none) (cond (Nat.beq pc 53) (some (.return_, 1)) none))))))) none
def cd_12 : Nat → Option (Instr × Nat) := fun pc => cond (Nat.blt pc 128) (cond (Nat.blt pc 58) (cond (Nat.blt pc 24) (cond (Nat.blt pc 13) (cond (Nat.blt pc 4) (cond (Nat.blt pc 2) (cond (Nat.blt pc 1) (cond (Nat.beq pc 0) (some (.iconst 0, 1)) none) (cond (Nat.beq pc 1) (some (.istore_n 2, 1)) none)) (cond (Nat.blt pc 3) (cond (Nat.beq pc 2) (some (.iload_n 2, 1)) none) (cond (Nat.beq pc 3) (some (.aload_n 0, 1)) none))) (cond (Nat.blt pc 8) (cond (Nat.blt pc 7) (cond (Nat.beq pc 4) (some (.getfield 23, 3)) none) (cond (Nat.beq pc 7) (some (.iload_n 1, 1)) none)) (cond (Nat.blt pc 9) (cond (Nat.beq pc 8) (some (.iaload, 1)) none) (cond (Nat.blt pc 12) (cond (Nat.beq pc 9) (some (.if_icmp .ge 113, 3)) none) (cond (Nat.beq pc 12) (some (.iload_n 1, 1)) none))))) (cond (Nat.blt pc 17) (cond (Nat.blt pc 15) (cond (Nat.blt pc 14) (cond (Nat.beq pc 13) (some (.iconst 4, 1)) none) (cond (Nat.beq pc 14) (some (.imul, 1)) none)) (cond (Nat.blt pc 16) (cond (Nat.beq pc 15) (some (.iload_n 2, 1)) none) (cond (Nat.beq pc 16) (some (.iadd, 1)) none))) (cond (Nat.blt pc 19) (cond (Nat.blt pc 18) (cond (Nat.beq pc 17) (some (.istore_n 3, 1)) none) (cond (Nat.beq pc 18) (some (.aload_n 0, 1)) none)) (cond (Nat.blt pc 22) (cond (Nat.beq pc 19) (some (.getfield 29, 3)) none) (cond (Nat.blt pc 23) (cond (Nat.beq pc 22) (some (.iload_n 3, 1)) none) (cond (Nat.beq pc 23) (some (.iaload, 1)) none)))))) (cond (Nat.blt pc 39) (cond (Nat.blt pc 31) (cond (Nat.blt pc 27) (cond (Nat.blt pc 26) (cond (Nat.beq pc 24) (some (.istore 4, 2)) none) (cond (Nat.beq pc 26) (some (.aload_n 0, 1)) none)) (cond (Nat.blt pc 30) (cond (Nat.beq pc 27) (some (.getfield 78, 3)) none) (cond (Nat.beq pc 30) (some (.iload_n 3, 1)) none))) (cond (Nat.blt pc 34) (cond (Nat.blt pc 32) (cond (Nat.beq pc 31) (some (.iaload, 1)) none) (cond (Nat.beq pc 32) (some (.iload 4, 2)) none)) (cond (Nat.blt pc 37) (cond (Nat.beq pc 34) (some (.if_icmp .lt 11, 3)) none) (cond (Nat.blt pc 38) (cond (Nat.beq pc 37) (some (.aload_n 0, 1)) none) (cond (Nat.beq pc 38) (some (.iload_n 3, 1)) none))))) (cond (Nat.blt pc 51) (cond (Nat.blt pc 45) (cond (Nat.blt pc 42) (cond (Nat.beq pc 39) (some (.invokevirtual 142, 3)) none) (cond (Nat.beq pc 42) (some (.goto 74, 3)) none)) (cond (Nat.blt pc 46) (cond (Nat.beq pc 45) (some (.aload_n 0, 1)) none) (cond (Nat.blt pc 49) (cond (Nat.beq pc 46) (some (.getfield 145, 3)) none) (cond (Nat.beq pc 49) (some (.iload 4, 2)) none)))) (cond (Nat.blt pc 53) (cond (Nat.blt pc 52) (cond (Nat.beq pc 51) (some (.iadd, 1)) none) (cond (Nat.beq pc 52) (some (.aload_n 0, 1)) none)) (cond (Nat.blt pc 56) (cond (Nat.beq pc 53) (some (.getfield 99, 3)) none) (cond (Nat.blt pc 57) (cond (Nat.beq pc 56) (some (.iadd, 1)) none) (cond (Nat.beq pc 57) (some (.aload_n 0, 1)) none))))))) (cond (Nat.blt pc 92) (cond (Nat.blt pc 75) (cond (Nat.blt pc 68) (cond (Nat.blt pc 64) (cond (Nat.blt pc 61) (cond (Nat.beq pc 58) (some (.getfield 65, 3)) none) (cond (Nat.beq pc 61) (some (.if_icmp .gt 50, 3)) none)) (cond (Nat.blt pc 65) (cond (Nat.beq pc 64) (some (.aload_n 0, 1)) none) (cond (Nat.beq pc 65) (some (.getfield 75, 3)) none))) (cond (Nat.blt pc 70) (cond (Nat.blt pc 69) (cond (Nat.beq pc 68) (some (.iload_n 3, 1)) none) (cond (Nat.beq pc 69) (some (.aload_n 0, 1)) none)) (cond (Nat.blt pc 73) (cond (Nat.beq pc 70) (some (.getfield 145, 3)) none) (cond (Nat.blt pc 74) (cond (Nat.beq pc 73) (some (.iastore, 1)) none) (cond (Nat.beq pc 74) (some (.aload_n 0, 1)) none))))) (cond (Nat.blt pc 85) (cond (Nat.blt pc 79) (cond (Nat.blt pc 78) (cond (Nat.beq pc 75) (some (.getfield 78, 3)) none) (cond (Nat.beq pc 78) (some (.iload_n 3, 1)) none)) (cond (Nat.blt pc 81) (cond (Nat.beq pc 79) (some (.iload 4, 2)) none) (cond (Nat.blt pc 82) (cond (Nat.beq pc 81) (some (.aload_n 0, 1)) none) (cond (Nat.beq pc 82) (some (.getfield 99, 3)) none)))) (cond (Nat.blt pc 87) (cond (Nat.blt pc 86) (cond (Nat.beq pc 85) (some (.iadd, 1)) none) (cond (Nat.beq pc 86) (some (.iastore, 1)) none)) (cond (Nat.blt pc 88) (cond (Nat.beq pc 87) (some (.aload_n 0, 1)) none) (cond (Nat.blt pc 89) (cond (Nat.beq pc 88) (some (.dup, 1)) none) (cond (Nat.beq pc 89) (some (.getfield 145, 3)) none)))))) (cond (Nat.blt pc 108) (cond (Nat.blt pc 99) (cond (Nat.blt pc 95) (cond (Nat.blt pc 94) (cond (Nat.beq pc 92) (some (.iload 4, 2)) none) (cond (Nat.beq pc 94) (some (.aload_n 0, 1)) none)) (cond (Nat.blt pc 98) (cond (Nat.beq pc 95) (some (.getfield 99, 3)) none) (cond (Nat.beq pc 98) (some (.iadd, 1)) none))) (cond (Nat.blt pc 103) (cond (Nat.blt pc 100) (cond (Nat.beq pc 99) (some (.iadd, 1)) none) (cond (Nat.beq pc 100) (some (.putfield 145, 3)) none)) (cond (Nat.blt pc 104) (cond (Nat.beq pc 103) (some (.aload_n 0, 1)) none) (cond (Nat.blt pc 105) (cond (Nat.beq pc 104) (some (.iload_n 3, 1)) none) (cond (Nat.beq pc 105) (some (.invokevirtual 142, 3)) none))))) (cond (Nat.blt pc 119) (cond (Nat.blt pc 112) (cond (Nat.blt pc 111) (cond (Nat.beq pc 108) (some (.goto 8, 3)) none) (cond (Nat.beq pc 111) (some (.aload_n 0, 1)) none)) (cond (Nat.blt pc 115) (cond (Nat.beq pc 112) (some (.invokevirtual 148, 3)) none) (cond (Nat.blt pc 116) (cond (Nat.beq pc 115) (some (.return_, 1)) none) (cond (Nat.beq pc 116) (some (.iinc 2 1, 3)) none)))) (cond (Nat.blt pc 123) (cond (Nat.blt pc 122) (cond (Nat.beq pc 119) (some (.goto (-117), 3)) none) (cond (Nat.beq pc 122) (some (.aload_n 0, 1)) none)) (cond (Nat.blt pc 124) (cond (Nat.beq pc 123) (some (.iload_n 1, 1)) none) (cond (Nat.blt pc 127) (cond (Nat.beq pc 124) (some (.invokevirtual 151, 3)) none) (cond (Nat.beq pc 127) (some (.return_, 1)) none)))))))) none
def cd_13 : Nat → Option (Instr × Nat) := fun pc => cond (Nat.blt pc 151) (cond (Nat.blt pc 73) (cond (Nat.blt pc 30) (cond (Nat.blt pc 15) (cond (Nat.blt pc 7) (cond (Nat.blt pc 4) (cond (Nat.blt pc 1) (cond (Nat.beq pc 0) (some (.aload_n 0, 1)) none) (cond (Nat.beq pc 1) (some (.getfield 75, 3)) none)) (cond (Nat.blt pc 5) (cond (Nat.beq pc 4) (some (.iload_n 1, 1)) none) (cond (Nat.blt pc 6) (cond (Nat.beq pc 5) (some (.iaload, 1)) none) (cond (Nat.beq pc 6) (some (.istore_n 2, 1)) none)))) (cond (Nat.blt pc 12) (cond (Nat.blt pc 8) (cond (Nat.beq pc 7) (some (.aload_n 0, 1)) none) (cond (Nat.blt pc 11) (cond (Nat.beq pc 8) (some (.getfield 29, 3)) none) (cond (Nat.beq pc 11) (some (.iload_n 1, 1)) none))) (cond (Nat.blt pc 13) (cond (Nat.beq pc 12) (some (.iaload, 1)) none) (cond (Nat.blt pc 14) (cond (Nat.beq pc 13) (some (.istore_n 3, 1)) none) (cond (Nat.beq pc 14) (some (.iload_n 1, 1)) none))))) (cond (Nat.blt pc 21) (cond (Nat.blt pc 17) (cond (Nat.blt pc 16) (cond (Nat.beq pc 15) (some (.iconst 4, 1)) none) (cond (Nat.beq pc 16) (some (.idiv, 1)) none)) (cond (Nat.blt pc 19) (cond (Nat.beq pc 17) (some (.bipush 24, 2)) none) (cond (Nat.blt pc 20) (cond (Nat.beq pc 19) (some (.imul, 1)) none) (cond (Nat.beq pc 20) (some (.aload_n 0, 1)) none)))) (cond (Nat.blt pc 26) (cond (Nat.blt pc 24) (cond (Nat.beq pc 21) (some (.getfield 32, 3)) none) (cond (Nat.blt pc 25) (cond (Nat.beq pc 24) (some (.iload_n 1, 1)) none) (cond (Nat.beq pc 25) (some (.iaload, 1)) none))) (cond (Nat.blt pc 27) (cond (Nat.beq pc 26) (some (.iadd, 1)) none) (cond (Nat.blt pc 29) (cond (Nat.beq pc 27) (some (.istore 4, 2)) none) (cond (Nat.beq pc 29) (some (.iconst 0, 1)) none)))))) (cond (Nat.blt pc 50) (cond (Nat.blt pc 39) (cond (Nat.blt pc 34) (cond (Nat.blt pc 32) (cond (Nat.beq pc 30) (some (.istore 5, 2)) none) (cond (Nat.beq pc 32) (some (.iload 5, 2)) none)) (cond (Nat.blt pc 35) (cond (Nat.beq pc 34) (some (.iload_n 3, 1)) none) (cond (Nat.blt pc 38) (cond (Nat.beq pc 35) (some (.if_icmp .ge 75, 3)) none) (cond (Nat.beq pc 38) (some (.aload_n 0, 1)) none)))) (cond (Nat.blt pc 46) (cond (Nat.blt pc 42) (cond (Nat.beq pc 39) (some (.getfield 35, 3)) none) (cond (Nat.blt pc 44) (cond (Nat.beq pc 42) (some (.iload 4, 2)) none) (cond (Nat.beq pc 44) (some (.iload 5, 2)) none))) (cond (Nat.blt pc 47) (cond (Nat.beq pc 46) (some (.iadd, 1)) none) (cond (Nat.blt pc 48) (cond (Nat.beq pc 47) (some (.iaload, 1)) none) (cond (Nat.beq pc 48) (some (.istore 6, 2)) none))))) (cond (Nat.blt pc 60) (cond (Nat.blt pc 56) (cond (Nat.blt pc 51) (cond (Nat.beq pc 50) (some (.aload_n 0, 1)) none) (cond (Nat.blt pc 54) (cond (Nat.beq pc 51) (some (.getfield 38, 3)) none) (cond (Nat.beq pc 54) (some (.iload 4, 2)) none))) (cond (Nat.blt pc 58) (cond (Nat.beq pc 56) (some (.iload 5, 2)) none) (cond (Nat.blt pc 59) (cond (Nat.beq pc 58) (some (.iadd, 1)) none) (cond (Nat.beq pc 59) (some (.iaload, 1)) none)))) (cond (Nat.blt pc 66) (cond (Nat.blt pc 62) (cond (Nat.beq pc 60) (some (.istore 7, 2)) none) (cond (Nat.blt pc 64) (cond (Nat.beq pc 62) (some (.iload 6, 2)) none) (cond (Nat.beq pc 64) (some (.bipush 10, 2)) none))) (cond (Nat.blt pc 69) (cond (Nat.beq pc 66) (some (.if_icmp .eq 10, 3)) none) (cond (Nat.blt pc 71) (cond (Nat.beq pc 69) (some (.iload 6, 2)) none) (cond (Nat.beq pc 71) (some (.bipush 11, 2)) none))))))) (cond (Nat.blt pc 113) (cond (Nat.blt pc 92) (cond (Nat.blt pc 82) (cond (Nat.blt pc 77) (cond (Nat.blt pc 76) (cond (Nat.beq pc 73) (some (.if_icmp .ne 9, 3)) none) (cond (Nat.beq pc 76) (some (.iload_n 2, 1)) none)) (cond (Nat.blt pc 79) (cond (Nat.beq pc 77) (some (.iload 7, 2)) none) (cond (Nat.blt pc 80) (cond (Nat.beq pc 79) (some (.iadd, 1)) none) (cond (Nat.beq pc 80) (some (.istore 7, 2)) none)))) (cond (Nat.blt pc 87) (cond (Nat.blt pc 83) (cond (Nat.beq pc 82) (some (.aload_n 0, 1)) none) (cond (Nat.blt pc 86) (cond (Nat.beq pc 83) (some (.getfield 69, 3)) none) (cond (Nat.beq pc 86) (some (.iload_n 2, 1)) none))) (cond (Nat.blt pc 89) (cond (Nat.beq pc 87) (some (.iload 5, 2)) none) (cond (Nat.blt pc 90) (cond (Nat.beq pc 89) (some (.iadd, 1)) none) (cond (Nat.beq pc 90) (some (.iload 6, 2)) none))))) (cond (Nat.blt pc 101) (cond (Nat.blt pc 97) (cond (Nat.blt pc 93) (cond (Nat.beq pc 92) (some (.iastore, 1)) none) (cond (Nat.blt pc 94) (cond (Nat.beq pc 93) (some (.aload_n 0, 1)) none) (cond (Nat.beq pc 94) (some (.getfield 72, 3)) none))) (cond (Nat.blt pc 98) (cond (Nat.beq pc 97) (some (.iload_n 2, 1)) none) (cond (Nat.blt pc 100) (cond (Nat.beq pc 98) (some (.iload 5, 2)) none) (cond (Nat.beq pc 100) (some (.iadd, 1)) none)))) (cond (Nat.blt pc 107) (cond (Nat.blt pc 103) (cond (Nat.beq pc 101) (some (.iload 7, 2)) none) (cond (Nat.blt pc 104) (cond (Nat.beq pc 103) (some (.iastore, 1)) none) (cond (Nat.beq pc 104) (some (.iinc 5 1, 3)) none))) (cond (Nat.blt pc 110) (cond (Nat.beq pc 107) (some (.goto (-75), 3)) none) (cond (Nat.blt pc 111) (cond (Nat.beq pc 110) (some (.iload_n 3, 1)) none) (cond (Nat.beq pc 111) (some (.istore 5, 2)) none)))))) (cond (Nat.blt pc 132) (cond (Nat.blt pc 121) (cond (Nat.blt pc 116) (cond (Nat.blt pc 115) (cond (Nat.beq pc 113) (some (.iload 5, 2)) none) (cond (Nat.beq pc 115) (some (.aload_n 0, 1)) none)) (cond (Nat.blt pc 119) (cond (Nat.beq pc 116) (some (.getfield 78, 3)) none) (cond (Nat.blt pc 120) (cond (Nat.beq pc 119) (some (.iload_n 1, 1)) none) (cond (Nat.beq pc 120) (some (.iaload, 1)) none)))) (cond (Nat.blt pc 128) (cond (Nat.blt pc 124) (cond (Nat.beq pc 121) (some (.if_icmp .ge 29, 3)) none) (cond (Nat.blt pc 125) (cond (Nat.beq pc 124) (some (.aload_n 0, 1)) none) (cond (Nat.beq pc 125) (some (.getfield 69, 3)) none))) (cond (Nat.blt pc 129) (cond (Nat.beq pc 128) (some (.iload_n 2, 1)) none) (cond (Nat.blt pc 131) (cond (Nat.beq pc 129) (some (.iload 5, 2)) none) (cond (Nat.beq pc 131) (some (.iadd, 1)) none))))) (cond (Nat.blt pc 141) (cond (Nat.blt pc 135) (cond (Nat.blt pc 133) (cond (Nat.beq pc 132) (some (.iconst 0, 1)) none) (cond (Nat.blt pc 134) (cond (Nat.beq pc 133) (some (.iastore, 1)) none) (cond (Nat.beq pc 134) (some (.aload_n 0, 1)) none))) (cond (Nat.blt pc 138) (cond (Nat.beq pc 135) (some (.getfield 72, 3)) none) (cond (Nat.blt pc 139) (cond (Nat.beq pc 138) (some (.iload_n 2, 1)) none) (cond (Nat.beq pc 139) (some (.iload 5, 2)) none)))) (cond (Nat.blt pc 144) (cond (Nat.blt pc 142) (cond (Nat.beq pc 141) (some (.iadd, 1)) none) (cond (Nat.blt pc 143) (cond (Nat.beq pc 142) (some (.iconst 0, 1)) none) (cond (Nat.beq pc 143) (some (.iastore, 1)) none))) (cond (Nat.blt pc 147) (cond (Nat.beq pc 144) (some (.iinc 5 1, 3)) none) (cond (Nat.blt pc 150) (cond (Nat.beq pc 147) (some (.goto (-34), 3)) none) (cond (Nat.beq pc 150) (some (.return_, 1)) none)))))))) none
def cd_14 : Nat → Option (Instr × Nat) := fun pc => cond (Nat.blt pc 37) (cond (Nat.blt pc 16) (cond (Nat.blt pc 8) (cond (Nat.blt pc 3) (cond (Nat.blt pc 1) (cond (Nat.beq pc 0) (some (.iconst 0, 1)) none) (cond (Nat.blt pc 2) (cond (Nat.beq pc 1) (some (.istore_n 2, 1)) none) (cond (Nat.beq pc 2) (some (.iload_n 2, 1)) none))) (cond (Nat.blt pc 4) (cond (Nat.beq pc 3) (some (.aload_n 0, 1)) none) (cond (Nat.blt pc 7) (cond (Nat.beq pc 4) (some (.getfield 23, 3)) none) (cond (Nat.beq pc 7) (some (.iload_n 1, 1)) none)))) (cond (Nat.blt pc 13) (cond (Nat.blt pc 9) (cond (Nat.beq pc 8) (some (.iaload, 1)) none) (cond (Nat.blt pc 12) (cond (Nat.beq pc 9) (some (.if_icmp .ge 27, 3)) none) (cond (Nat.beq pc 12) (some (.iload_n 1, 1)) none))) (cond (Nat.blt pc 14) (cond (Nat.beq pc 13) (some (.iconst 4, 1)) none) (cond (Nat.blt pc 15) (cond (Nat.beq pc 14) (some (.imul, 1)) none) (cond (Nat.beq pc 15) (some (.iload_n 2, 1)) none))))) (cond (Nat.blt pc 26) (cond (Nat.blt pc 19) (cond (Nat.blt pc 17) (cond (Nat.beq pc 16) (some (.iadd, 1)) none) (cond (Nat.blt pc 18) (cond (Nat.beq pc 17) (some (.istore_n 3, 1)) none) (cond (Nat.beq pc 18) (some (.aload_n 0, 1)) none))) (cond (Nat.blt pc 22) (cond (Nat.beq pc 19) (some (.getfield 81, 3)) none) (cond (Nat.blt pc 23) (cond (Nat.beq pc 22) (some (.aload_n 0, 1)) none) (cond (Nat.beq pc 23) (some (.getfield 26, 3)) none)))) (cond (Nat.blt pc 29) (cond (Nat.blt pc 27) (cond (Nat.beq pc 26) (some (.iload_n 3, 1)) none) (cond (Nat.blt pc 28) (cond (Nat.beq pc 27) (some (.iaload, 1)) none) (cond (Nat.beq pc 28) (some (.iload_n 3, 1)) none))) (cond (Nat.blt pc 33) (cond (Nat.blt pc 30) (cond (Nat.beq pc 29) (some (.iastore, 1)) none) (cond (Nat.beq pc 30) (some (.iinc 2 1, 3)) none)) (cond (Nat.blt pc 36) (cond (Nat.beq pc 33) (some (.goto (-31), 3)) none) (cond (Nat.beq pc 36) (some (.return_, 1)) none)))))) none
def cd_15 : Nat → Option (Instr × Nat) := fun pc => cond (Nat.blt pc 30) (cond (Nat.blt pc 17) (cond (Nat.blt pc 6) (cond (Nat.blt pc 4) (cond (Nat.blt pc 1) (cond (Nat.beq pc 0) (some (.iload_n 1, 1)) none) (cond (Nat.beq pc 1) (some (.ifCond .lt 20, 3)) none)) (cond (Nat.blt pc 5) (cond (Nat.beq pc 4) (some (.iload_n 1, 1)) none) (cond (Nat.beq pc 5) (some (.aload_n 0, 1)) none))) (cond (Nat.blt pc 12) (cond (Nat.blt pc 9) (cond (Nat.beq pc 6) (some (.getfield 96, 3)) none) (cond (Nat.beq pc 9) (some (.if_icmp .ge 12, 3)) none)) (cond (Nat.blt pc 13) (cond (Nat.beq pc 12) (some (.aload_n 0, 1)) none) (cond (Nat.blt pc 16) (cond (Nat.beq pc 13) (some (.getfield 7, 3)) none) (cond (Nat.beq pc 16) (some (.iload_n 1, 1)) none))))) (cond (Nat.blt pc 23) (cond (Nat.blt pc 21) (cond (Nat.blt pc 18) (cond (Nat.beq pc 17) (some (.baload, 1)) none) (cond (Nat.beq pc 18) (some (.ifCond .ne 5, 3)) none)) (cond (Nat.blt pc 22) (cond (Nat.beq pc 21) (some (.iconst (-1), 1)) none) (cond (Nat.beq pc 22) (some (.ireturn, 1)) none))) (cond (Nat.blt pc 27) (cond (Nat.blt pc 24) (cond (Nat.beq pc 23) (some (.aload_n 0, 1)) none) (cond (Nat.beq pc 24) (some (.getfield 41, 3)) none)) (cond (Nat.blt pc 28) (cond (Nat.beq pc 27) (some (.iload_n 1, 1)) none) (cond (Nat.blt pc 29) (cond (Nat.beq pc 28) (some (.iaload, 1)) none) (cond (Nat.beq pc 29) (some (.ireturn, 1)) none)))))) none
def cd_16 : Nat → Option (Instr × Nat) := fun pc => cond (Nat.blt pc 19) (cond (Nat.blt pc 11) (cond (Nat.blt pc 5) (cond (Nat.blt pc 1) (cond (Nat.beq pc 0) (some (.iload_n 1, 1)) none) (cond (Nat.blt pc 4) (cond (Nat.beq pc 1) (some (.ifCond .lt 9, 3)) none) (cond (Nat.beq pc 4) (some (.iload_n 1, 1)) none))) (cond (Nat.blt pc 7) (cond (Nat.beq pc 5) (some (.bipush 7, 2)) none) (cond (Nat.blt pc 10) (cond (Nat.beq pc 7) (some (.if_icmp .le 5, 3)) none) (cond (Nat.beq pc 10) (some (.iconst (-1), 1)) none)))) (cond (Nat.blt pc 16) (cond (Nat.blt pc 12) (cond (Nat.beq pc 11) (some (.ireturn, 1)) none) (cond (Nat.blt pc 13) (cond (Nat.beq pc 12) (some (.aload_n 0, 1)) none) (cond (Nat.beq pc 13) (some (.getfield 44, 3)) none))) (cond (Nat.blt pc 17) (cond (Nat.beq pc 16) (some (.iload_n 1, 1)) none) (cond (Nat.blt pc 18) (cond (Nat.beq pc 17) (some (.iaload, 1)) none) (cond (Nat.beq pc 18) (some (.ireturn, 1)) none))))) none
def PPcode : CodeT := fun q pc => cond (Nat.blt q 17) (cond (Nat.blt q 8) (cond (Nat.blt q 4) (cond (Nat.blt q 2) (cond (Nat.blt q 1) (cond (Nat.beq q 0) (cd_0 pc) none) (cond (Nat.beq q 1) (cd_1 pc) none)) (cond (Nat.blt q 3) (cond (Nat.beq q 2) (cd_2 pc) none) (cond (Nat.beq q 3) (cd_3 pc) none))) (cond (Nat.blt q 6) (cond (Nat.blt q 5) (cond (Nat.beq q 4) (cd_4 pc) none) (cond (Nat.beq q 5) (cd_5 pc) none)) (cond (Nat.blt q 7) (cond (Nat.beq q 6) (cd_6 pc) none) (cond (Nat.beq q 7) (cd_7 pc) none)))) (cond (Nat.blt q 12) (cond (Nat.blt q 10) (cond (Nat.blt q 9) (cond (Nat.beq q 8) (cd_8 pc) none) (cond (Nat.beq q 9) (cd_9 pc) none)) (cond (Nat.blt q 11) (cond (Nat.beq q 10) (cd_10 pc) none) (cond (Nat.beq q 11) (cd_11 pc) none))) (cond (Nat.blt q 14) (cond (Nat.blt q 13) (cond (Nat.beq q 12) (cd_12 pc) none) (cond (Nat.beq q 13) (cd_13 pc) none)) (cond (Nat.blt q 15) (cond (Nat.beq q 14) (cd_14 pc) none) (cond (Nat.blt q 16) (cond (Nat.beq q 15) (cd_15 pc) none) (cond (Nat.beq q 16) (cd_16 pc) none)))))) none
def PPfld : FldT := fun x => cond (Nat.blt x 146) (cond (Nat.blt x 65) (cond (Nat.blt x 38) (cond (Nat.blt x 23) (cond (Nat.blt x 17) (cond (Nat.blt x 13) (cond (Nat.beq x 7) (some (0, 0, 1, false)) none) (cond (Nat.beq x 13) (some (1, 0, 2, false)) none)) (cond (Nat.blt x 20) (cond (Nat.beq x 17) (some (2, 0, 3, false)) none) (cond (Nat.beq x 20) (some (3, 0, 4, false)) none))) (cond (Nat.blt x 29) (cond (Nat.blt x 26) (cond (Nat.beq x 23) (some (4, 0, 5, false)) none) (cond (Nat.beq x 26) (some (5, 0, 6, false)) none)) (cond (Nat.blt x 32) (cond (Nat.beq x 29) (some (6, 0, 7, false)) none) (cond (Nat.blt x 35) (cond (Nat.beq x 32) (some (7, 0, 8, false)) none) (cond (Nat.beq x 35) (some (8, 0, 9, false)) none))))) (cond (Nat.blt x 50) (cond (Nat.blt x 44) (cond (Nat.blt x 41) (cond (Nat.beq x 38) (some (9, 0, 10, false)) none) (cond (Nat.beq x 41) (some (10, 0, 11, false)) none)) (cond (Nat.blt x 47) (cond (Nat.beq x 44) (some (11, 0, 12, false)) none) (cond (Nat.beq x 47) (some (12, 0, 13, false)) none))) (cond (Nat.blt x 56) (cond (Nat.blt x 53) (cond (Nat.beq x 50) (some (13, 0, 14, false)) none) (cond (Nat.beq x 53) (some (14, 0, 15, false)) none)) (cond (Nat.blt x 59) (cond (Nat.beq x 56) (some (15, 0, 16, false)) none) (cond (Nat.blt x 62) (cond (Nat.beq x 59) (some (16, 0, 17, false)) none) (cond (Nat.beq x 62) (some (17, 0, 18, false)) none)))))) (cond (Nat.blt x 93) (cond (Nat.blt x 78) (cond (Nat.blt x 72) (cond (Nat.blt x 69) (cond (Nat.beq x 65) (some (18, 1, 0, false)) none) (cond (Nat.beq x 69) (some (19, 0, 19, false)) none)) (cond (Nat.blt x 75) (cond (Nat.beq x 72) (some (20, 0, 20, false)) none) (cond (Nat.beq x 75) (some (21, 0, 21, false)) none))) (cond (Nat.blt x 84) (cond (Nat.blt x 81) (cond (Nat.beq x 78) (some (22, 0, 22, false)) none) (cond (Nat.beq x 81) (some (23, 0, 23, false)) none)) (cond (Nat.blt x 87) (cond (Nat.beq x 84) (some (24, 0, 24, false)) none) (cond (Nat.blt x 90) (cond (Nat.beq x 87) (some (25, 0, 25, false)) none) (cond (Nat.beq x 90) (some (26, 0, 26, false)) none))))) (cond (Nat.blt x 106) (cond (Nat.blt x 99) (cond (Nat.blt x 96) (cond (Nat.beq x 93) (some (27, 0, 27, false)) none) (cond (Nat.beq x 96) (some (28, 1, 0, false)) none)) (cond (Nat.blt x 102) (cond (Nat.beq x 99) (some (29, 1, 0, false)) none) (cond (Nat.beq x 102) (some (30, 2, 0, false)) none))) (cond (Nat.blt x 112) (cond (Nat.blt x 109) (cond (Nat.beq x 106) (some (31, 1, 0, false)) none) (cond (Nat.beq x 109) (some (32, 1, 0, false)) none)) (cond (Nat.blt x 115) (cond (Nat.beq x 112) (some (33, 1, 0, false)) none) (cond (Nat.blt x 145) (cond (Nat.beq x 115) (some (34, 1, 0, false)) none) (cond (Nat.beq x 145) (some (35, 1, 0, false)) none))))))) none
def PPlay : LayT := fun j => cond (Nat.blt j 28) (cond (Nat.blt j 14) (cond (Nat.blt j 7) (cond (Nat.blt j 4) (cond (Nat.blt j 2) (cond (Nat.beq j 1) (some (2, 4)) none) (cond (Nat.blt j 3) (cond (Nat.beq j 2) (some (1, 4)) none) (cond (Nat.beq j 3) (some (1, 16)) none))) (cond (Nat.blt j 5) (cond (Nat.beq j 4) (some (1, 16)) none) (cond (Nat.blt j 6) (cond (Nat.beq j 5) (some (1, 4)) none) (cond (Nat.beq j 6) (some (1, 16)) none)))) (cond (Nat.blt j 10) (cond (Nat.blt j 8) (cond (Nat.beq j 7) (some (1, 16)) none) (cond (Nat.blt j 9) (cond (Nat.beq j 8) (some (1, 16)) none) (cond (Nat.beq j 9) (some (1, 96)) none))) (cond (Nat.blt j 12) (cond (Nat.blt j 11) (cond (Nat.beq j 10) (some (1, 96)) none) (cond (Nat.beq j 11) (some (1, 4)) none)) (cond (Nat.blt j 13) (cond (Nat.beq j 12) (some (1, 8)) none) (cond (Nat.beq j 13) (some (1, 4)) none))))) (cond (Nat.blt j 21) (cond (Nat.blt j 17) (cond (Nat.blt j 15) (cond (Nat.beq j 14) (some (1, 4)) none) (cond (Nat.blt j 16) (cond (Nat.beq j 15) (some (1, 4)) none) (cond (Nat.beq j 16) (some (1, 4)) none))) (cond (Nat.blt j 19) (cond (Nat.blt j 18) (cond (Nat.beq j 17) (some (1, 24)) none) (cond (Nat.beq j 18) (some (1, 24)) none)) (cond (Nat.blt j 20) (cond (Nat.beq j 19) (some (1, 640)) none) (cond (Nat.beq j 20) (some (1, 640)) none)))) (cond (Nat.blt j 24) (cond (Nat.blt j 22) (cond (Nat.beq j 21) (some (1, 16)) none) (cond (Nat.blt j 23) (cond (Nat.beq j 22) (some (1, 16)) none) (cond (Nat.beq j 23) (some (1, 8)) none))) (cond (Nat.blt j 26) (cond (Nat.blt j 25) (cond (Nat.beq j 24) (some (1, 8)) none) (cond (Nat.beq j 25) (some (1, 16)) none)) (cond (Nat.blt j 27) (cond (Nat.beq j 26) (some (1, 8)) none) (cond (Nat.beq j 27) (some (1, 8)) none)))))) none
def PPcst : Nat → Option OV := fun x => none
def PPmth : Nat → Option Nat := fun x => cond (Nat.blt x 152) (cond (Nat.blt x 132) (cond (Nat.blt x 126) (cond (Nat.blt x 122) (cond (Nat.beq x 118) (some 4) none) (cond (Nat.beq x 122) (some 7) none)) (cond (Nat.blt x 129) (cond (Nat.beq x 126) (some 8) none) (cond (Nat.beq x 129) (some 9) none))) (cond (Nat.blt x 139) (cond (Nat.blt x 135) (cond (Nat.beq x 132) (some 10) none) (cond (Nat.beq x 135) (some 12) none)) (cond (Nat.blt x 142) (cond (Nat.beq x 139) (some 11) none) (cond (Nat.blt x 151) (cond (Nat.beq x 142) (some 13) none) (cond (Nat.beq x 151) (some 14) none))))) none
def PPinf : InfT := fun q => cond (Nat.blt q 17) (cond (Nat.blt q 8) (cond (Nat.blt q 4) (cond (Nat.blt q 2) (cond (Nat.blt q 1) (cond (Nat.beq q 0) (some ([false, false], 4, 0, 1, 12)) none) (cond (Nat.beq q 1) (some ([false], 2, 2, 0, 0)) none)) (cond (Nat.blt q 3) (cond (Nat.beq q 2) (some ([false], 3, 2, 0, 0)) none) (cond (Nat.beq q 3) (some ([false, false], 3, 2, 1, 14)) none))) (cond (Nat.blt q 6) (cond (Nat.blt q 5) (cond (Nat.beq q 4) (some ([false, false], 3, 2, 0, 0)) none) (cond (Nat.beq q 5) (some ([], 1, 1, 0, 0)) none)) (cond (Nat.blt q 7) (cond (Nat.beq q 6) (some ([], 1, 1, 2, 35)) none) (cond (Nat.beq q 7) (some ([], 6, 2, 0, 0)) none)))) (cond (Nat.blt q 12) (cond (Nat.blt q 10) (cond (Nat.blt q 9) (cond (Nat.beq q 8) (some ([], 3, 2, 0, 0)) none) (cond (Nat.beq q 9) (some ([], 3, 2, 0, 0)) none)) (cond (Nat.blt q 11) (cond (Nat.beq q 10) (some ([], 4, 0, 1, 15)) none) (cond (Nat.beq q 11) (some ([false], 4, 0, 0, 0)) none))) (cond (Nat.blt q 14) (cond (Nat.blt q 13) (cond (Nat.beq q 12) (some ([false], 5, 0, 1, 19)) none) (cond (Nat.beq q 13) (some ([false], 8, 0, 0, 0)) none)) (cond (Nat.blt q 15) (cond (Nat.beq q 14) (some ([false], 4, 0, 0, 0)) none) (cond (Nat.blt q 16) (cond (Nat.beq q 15) (some ([false], 2, 1, 0, 0)) none) (cond (Nat.beq q 16) (some ([false], 2, 1, 0, 0)) none)))))) none
def PPobi : Nat → Bool := fun x => Nat.beq x 1
def PPliv : LivT := fun q pc => cond (Nat.blt q 8) (cond (Nat.blt q 4) (cond (Nat.blt q 2) (cond (Nat.blt q 1) (cond (Nat.beq q 0) (cond (Nat.blt pc 253) (cond (Nat.blt pc 236) (cond (Nat.blt pc 227) (cond (Nat.beq pc 0) (some [true, true, true, false]) none) (cond (Nat.blt pc 231) (cond (Nat.beq pc 227) (some [true, false, true, false]) none) (cond (Nat.beq pc 231) (some [true, true, true, false]) none))) (cond (Nat.blt pc 241) (cond (Nat.blt pc 240) (cond (Nat.beq pc 236) (some [true, false, true, false]) none) (cond (Nat.beq pc 240) (some [true, true, true, false]) none)) (cond (Nat.blt pc 249) (cond (Nat.beq pc 241) (some [true, false, true, false]) none) (cond (Nat.beq pc 249) (some [true, false, false, false]) none)))) (cond (Nat.blt pc 265) (cond (Nat.blt pc 259) (cond (Nat.beq pc 253) (some [true, false, true, false]) none) (cond (Nat.blt pc 264) (cond (Nat.beq pc 259) (some [true, false, false, false]) none) (cond (Nat.beq pc 264) (some [true, false, true, false]) none))) (cond (Nat.blt pc 276) (cond (Nat.blt pc 270) (cond (Nat.beq pc 265) (some [true, false, false, false]) none) (cond (Nat.beq pc 270) (some [true, false, false, true]) none)) (cond (Nat.blt pc 296) (cond (Nat.beq pc 276) (some [true, false, false, true]) none) (cond (Nat.beq pc 296) (some [false, false, false, false]) none))))) none) (cond (Nat.beq q 1) (cond (Nat.blt pc 12) (cond (Nat.blt pc 4) (cond (Nat.beq pc 0) (some [true, true]) none) (cond (Nat.beq pc 4) (some [true, true]) none)) (cond (Nat.blt pc 14) (cond (Nat.beq pc 12) (some [false, false]) none) (cond (Nat.beq pc 14) (some [true, true]) none))) none)) (cond (Nat.blt q 3) (cond (Nat.beq q 2) (cond (Nat.blt pc 29) (cond (Nat.blt pc 17) (cond (Nat.blt pc 7) (cond (Nat.beq pc 0) (some [true, true, false]) none) (cond (Nat.blt pc 11) (cond (Nat.beq pc 7) (some [true, true, false]) none) (cond (Nat.beq pc 11) (some [true, true, false]) none))) (cond (Nat.blt pc 19) (cond (Nat.beq pc 17) (some [false, false, false]) none) (cond (Nat.blt pc 21) (cond (Nat.beq pc 19) (some [true, true, false]) none) (cond (Nat.beq pc 21) (some [true, true, true]) none)))) (cond (Nat.blt pc 47) (cond (Nat.blt pc 39) (cond (Nat.beq pc 29) (some [true, true, true]) none) (cond (Nat.blt pc 41) (cond (Nat.beq pc 39) (some [false, false, false]) none) (cond (Nat.beq pc 41) (some [true, true, true]) none))) (cond (Nat.blt pc 55) (cond (Nat.beq pc 47) (some [true, true, false]) none) (cond (Nat.blt pc 57) (cond (Nat.beq pc 55) (some [false, false, false]) none) (cond (Nat.beq pc 57) (some [true, true, false]) none))))) none) (cond (Nat.beq q 3) (cond (Nat.blt pc 25) (cond (Nat.blt pc 14) (cond (Nat.blt pc 7) (cond (Nat.beq pc 0) (some [true, true, true]) none) (cond (Nat.beq pc 7) (some [true, true, true]) none)) (cond (Nat.blt pc 19) (cond (Nat.beq pc 14) (some [true, true, true]) none) (cond (Nat.beq pc 19) (some [true, true, true]) none))) (cond (Nat.blt pc 36) (cond (Nat.blt pc 27) (cond (Nat.beq pc 25) (some [false, false, false]) none) (cond (Nat.beq pc 27) (some [true, true, true]) none)) (cond (Nat.blt pc 45) (cond (Nat.beq pc 36) (some [true, true, true]) none) (cond (Nat.blt pc 47) (cond (Nat.beq pc 45) (some [false, false, false]) none) (cond (Nat.beq pc 47) (some [true, true, true]) none))))) none))) (cond (Nat.blt q 6) (cond (Nat.blt q 5) (cond (Nat.beq q 4) (cond (Nat.blt pc 85) (cond (Nat.blt pc 74) (cond (Nat.blt pc 64) (cond (Nat.blt pc 60) (cond (Nat.beq pc 0) (some [false, true, true]) none) (cond (Nat.beq pc 60) (some [false, false, true]) none)) (cond (Nat.blt pc 70) (cond (Nat.beq pc 64) (some [false, false, true]) none) (cond (Nat.beq pc 70) (some [false, false, false]) none))) (cond (Nat.blt pc 76) (cond (Nat.blt pc 75) (cond (Nat.beq pc 74) (some [false, false, false]) none) (cond (Nat.beq pc 75) (some [false, false, false]) none)) (cond (Nat.blt pc 80) (cond (Nat.beq pc 76) (some [false, false, true]) none) (cond (Nat.beq pc 80) (some [false, false, true]) none)))) (cond (Nat.blt pc 95) (cond (Nat.blt pc 90) (cond (Nat.blt pc 89) (cond (Nat.beq pc 85) (some [false, false, false]) none) (cond (Nat.beq pc 89) (some [false, false, false]) none)) (cond (Nat.blt pc 91) (cond (Nat.beq pc 90) (some [false, false, false]) none) (cond (Nat.beq pc 91) (some [false, false, true]) none))) (cond (Nat.blt pc 105) (cond (Nat.blt pc 101) (cond (Nat.beq pc 95) (some [false, false, true]) none) (cond (Nat.beq pc 101) (some [false, false, false]) none)) (cond (Nat.blt pc 106) (cond (Nat.beq pc 105) (some [false, false, false]) none) (cond (Nat.blt pc 107) (cond (Nat.beq pc 106) (some [false, false, false]) none) (cond (Nat.beq pc 107) (some [false, false, false]) none)))))) none) (cond (Nat.beq q 5) (cond (Nat.blt pc 14) (cond (Nat.blt pc 7) (cond (Nat.beq pc 0) (some [true]) none) (cond (Nat.beq pc 7) (some [true]) none)) (cond (Nat.blt pc 15) (cond (Nat.beq pc 14) (some [false]) none) (cond (Nat.beq pc 15) (some [false]) none))) none)) (cond (Nat.blt q 7) (cond (Nat.beq q 6) (cond (Nat.blt pc 18) (cond (Nat.blt pc 9) (cond (Nat.blt pc 7) (cond (Nat.beq pc 0) (some [true]) none) (cond (Nat.beq pc 7) (some [false]) none)) (cond (Nat.blt pc 16) (cond (Nat.beq pc 9) (some [true]) none) (cond (Nat.beq pc 16) (some [false]) none))) (cond (Nat.blt pc 27) (cond (Nat.blt pc 25) (cond (Nat.beq pc 18) (some [true]) none) (cond (Nat.beq pc 25) (some [false]) none)) (cond (Nat.blt pc 34) (cond (Nat.beq pc 27) (some [true]) none) (cond (Nat.blt pc 36) (cond (Nat.beq pc 34) (some [false]) none) (cond (Nat.beq pc 36) (some [true]) none))))) none) (cond (Nat.beq q 7) (cond (Nat.blt pc 50) (cond (Nat.blt pc 10) (cond (Nat.blt pc 2) (cond (Nat.beq pc 0) (some [true, false, false, false, false, false]) none) (cond (Nat.beq pc 2) (some [true, true, false, false, false, false]) none)) (cond (Nat.blt pc 19) (cond (Nat.beq pc 10) (some [true, true, false, false, false, false]) none) (cond (Nat.blt pc 24) (cond (Nat.beq pc 19) (some [true, true, true, true, false, false]) none) (cond (Nat.beq pc 24) (some [true, true, true, true, false, false]) none)))) (cond (Nat.blt pc 70) (cond (Nat.blt pc 57) (cond (Nat.beq pc 50) (some [true, true, true, true, true, true]) none) (cond (Nat.blt pc 68) (cond (Nat.beq pc 57) (some [true, true, true, true, true, false]) none) (cond (Nat.beq pc 68) (some [false, false, false, false, false, false]) none))) (cond (Nat.blt pc 76) (cond (Nat.beq pc 70) (some [true, true, true, true, false, false]) none) (cond (Nat.blt pc 82) (cond (Nat.beq pc 76) (some [true, true, false, false, false, false]) none) (cond (Nat.beq pc 82) (some [false, false, false, false, false, false]) none))))) none)))) (cond (Nat.blt q 12) (cond (Nat.blt q 10) (cond (Nat.blt q 9) (cond (Nat.beq q 8) (cond (Nat.blt pc 27) (cond (Nat.blt pc 10) (cond (Nat.blt pc 2) (cond (Nat.beq pc 0) (some [true, false, false]) none) (cond (Nat.beq pc 2) (some [true, true, false]) none)) (cond (Nat.blt pc 22) (cond (Nat.beq pc 10) (some [true, true, false]) none) (cond (Nat.beq pc 22) (some [true, true, true]) none))) (cond (Nat.blt pc 42) (cond (Nat.blt pc 40) (cond (Nat.beq pc 27) (some [true, true, false]) none) (cond (Nat.beq pc 40) (some [false, false, false]) none)) (cond (Nat.blt pc 48) (cond (Nat.beq pc 42) (some [true, true, false]) none) (cond (Nat.beq pc 48) (some [false, false, false]) none)))) none) (cond (Nat.beq q 9) (cond (Nat.blt pc 26) (cond (Nat.blt pc 2) (cond (Nat.beq pc 0) (some [true, false, false]) none) (cond (Nat.blt pc 10) (cond (Nat.beq pc 2) (some [true, true, false]) none) (cond (Nat.beq pc 10) (some [true, true, false]) none))) (cond (Nat.blt pc 36) (cond (Nat.blt pc 34) (cond (Nat.beq pc 26) (some [true, true, true]) none) (cond (Nat.beq pc 34) (some [false, false, false]) none)) (cond (Nat.blt pc 42) (cond (Nat.beq pc 36) (some [true, true, false]) none) (cond (Nat.beq pc 42) (some [false, false, false]) none)))) none)) (cond (Nat.blt q 11) (cond (Nat.beq q 10) (cond (Nat.blt pc 88) (cond (Nat.blt pc 30) (cond (Nat.blt pc 22) (cond (Nat.beq pc 0) (some [true, false, false, false]) none) (cond (Nat.beq pc 22) (some [true, true, true, false]) none)) (cond (Nat.blt pc 68) (cond (Nat.beq pc 30) (some [true, true, true, false]) none) (cond (Nat.blt pc 80) (cond (Nat.beq pc 68) (some [true, true, false, false]) none) (cond (Nat.beq pc 80) (some [true, true, true, false]) none)))) (cond (Nat.blt pc 150) (cond (Nat.blt pc 148) (cond (Nat.beq pc 88) (some [true, true, true, false]) none) (cond (Nat.beq pc 148) (some [true, true, false, false]) none)) (cond (Nat.blt pc 158) (cond (Nat.beq pc 150) (some [true, true, true, false]) none) (cond (Nat.blt pc 198) (cond (Nat.beq pc 158) (some [true, true, true, false]) none) (cond (Nat.beq pc 198) (some [true, true, false, false]) none))))) none) (cond (Nat.beq q 11) (cond (Nat.blt pc 12) (cond (Nat.blt pc 9) (cond (Nat.beq pc 0) (some [true, true, false, false]) none) (cond (Nat.blt pc 10) (cond (Nat.beq pc 9) (some [false, false, false, false]) none) (cond (Nat.beq pc 10) (some [true, true, false, false]) none))) (cond (Nat.blt pc 22) (cond (Nat.beq pc 12) (some [true, true, true, false]) none) (cond (Nat.blt pc 53) (cond (Nat.beq pc 22) (some [true, true, true, false]) none) (cond (Nat.beq pc 53) (some [false, false, false, false]) none)))) none))) (cond (Nat.blt q 14) (cond (Nat.blt q 13) (cond (Nat.beq q 12) (cond (Nat.blt pc 45) (cond (Nat.blt pc 12) (cond (Nat.blt pc 2) (cond (Nat.beq pc 0) (some [true, true, false, false, false]) none) (cond (Nat.beq pc 2) (some [true, true, true, false, false]) none)) (cond (Nat.blt pc 37) (cond (Nat.beq pc 12) (some [true, true, true, false, false]) none) (cond (Nat.beq pc 37) (some [true, true, true, true, false]) none))) (cond (Nat.blt pc 111) (cond (Nat.blt pc 64) (cond (Nat.beq pc 45) (some [true, true, true, true, true]) none) (cond (Nat.beq pc 64) (some [true, true, true, true, true]) none)) (cond (Nat.blt pc 116) (cond (Nat.beq pc 111) (some [true, false, false, false, false]) none) (cond (Nat.blt pc 122) (cond (Nat.beq pc 116) (some [true, true, true, false, false]) none) (cond (Nat.beq pc 122) (some [true, true, false, false, false]) none))))) none) (cond (Nat.beq q 13) (cond (Nat.blt pc 82) (cond (Nat.blt pc 38) (cond (Nat.blt pc 32) (cond (Nat.beq pc 0) (some [true, true, false, false, false, false, false, false]) none) (cond (Nat.beq pc 32) (some [true, true, true, true, true, true, false, false]) none)) (cond (Nat.blt pc 69) (cond (Nat.beq pc 38) (some [true, true, true, true, true, true, false, false]) none) (cond (Nat.blt pc 76) (cond (Nat.beq pc 69) (some [true, true, true, true, true, true, true, true]) none) (cond (Nat.beq pc 76) (some [true, true, true, true, true, true, true, true]) none)))) (cond (Nat.blt pc 113) (cond (Nat.blt pc 110) (cond (Nat.beq pc 82) (some [true, true, true, true, true, true, true, true]) none) (cond (Nat.beq pc 110) (some [true, true, true, true, false, false, false, false]) none)) (cond (Nat.blt pc 124) (cond (Nat.beq pc 113) (some [true, true, true, false, false, true, false, false]) none) (cond (Nat.blt pc 150) (cond (Nat.beq pc 124) (some [true, true, true, false, false, true, false, false]) none) (cond (Nat.beq pc 150) (some [false, false, false, false, false, false, false, false]) none))))) none)) (cond (Nat.blt q 15) (cond (Nat.beq q 14) (cond (Nat.blt pc 12) (cond (Nat.blt pc 2) (cond (Nat.beq pc 0) (some [true, true, false, false]) none) (cond (Nat.beq pc 2) (some [true, true, true, false]) none)) (cond (Nat.blt pc 36) (cond (Nat.beq pc 12) (some [true, true, true, false]) none) (cond (Nat.beq pc 36) (some [false, false, false, false]) none))) none) (cond (Nat.blt q 16) (cond (Nat.beq q 15) (cond (Nat.blt pc 12) (cond (Nat.blt pc 4) (cond (Nat.beq pc 0) (some [true, true]) none) (cond (Nat.beq pc 4) (some [true, true]) none)) (cond (Nat.blt pc 21) (cond (Nat.beq pc 12) (some [true, true]) none) (cond (Nat.blt pc 23) (cond (Nat.beq pc 21) (some [false, false]) none) (cond (Nat.beq pc 23) (some [true, true]) none)))) none) (cond (Nat.beq q 16) (cond (Nat.blt pc 10) (cond (Nat.blt pc 4) (cond (Nat.beq pc 0) (some [true, true]) none) (cond (Nat.beq pc 4) (some [true, true]) none)) (cond (Nat.blt pc 12) (cond (Nat.beq pc 10) (some [false, false]) none) (cond (Nat.beq pc 12) (some [true, true]) none))) none)))))
def PP : PT := (PPcode, PPfld, PPlay, PPcst, PPmth, PPinf, PPobi, PPliv)
abbrev R := runP PP
abbrev Rr (n q pc : Nat) (L : OLs) (S : List OV) (y : Option OV × Nat × OMem) : RT := runP PP n q pc L (pushR y.1 S) y.2.1 y.2.2
def f_init_l270_H : Int × OMem → Nat → RT := fun (x3, m) n => R n 0 270 [qr 0, qn, qn, qi x3] [] 54 m
def f_init_l270_X : (OMem) → Nat → RT := fun e n => match e with | w => R n 0 296 [qn, qn, qn, qn] [] 54 w
def f_init_l270 : Int × OMem → Option ((Int × OMem) ⊕ ((OMem))) := fun (x3, m) => if x3 < 8 then (if 0 ≤ x3 ∧ x3 < 8 then (if 0 ≤ x3 ∧ x3 < 8 then (some (.inl (w32 (x3 + 1), sto (sto m 12 x3 (-1)) 23 x3 (-1)))) else none) else none) else (some (.inr m))
set_option maxRecDepth 65536 in
set_option maxHeartbeats 16000000 in
theorem f_init_l270_ok (x3 : Int) (m : OMem) : Sim (f_init_l270 (x3, m)) (Sum.elim (f_init_l270_H ) (f_init_l270_X )) (f_init_l270_H (x3, m)) :=
  Sim.shift 3 (G := fun n => if x3 < 8 then R n 0 276 [qr 0, qn, qn, qi x3] [] 54 m else R n 0 296 [qr 0, qn, qn, qi x3] [] 54 m) (fun _ => rfl) (Sim.ite (fun _ => Sim.shift 5 (G := fun n => if 0 ≤ x3 ∧ x3 < 8 then R n 0 283 [qr 0, qn, qn, qi x3] [] 54 (sto m 12 x3 (-1)) else none) (fun _ => rfl) (Sim.grd fun _ => Sim.shift 5 (G := fun n => if 0 ≤ x3 ∧ x3 < 8 then R n 0 290 [qr 0, qn, qn, qi x3] [] 54 (sto (sto m 12 x3 (-1)) 23 x3 (-1)) else none) (fun _ => rfl) (Sim.grd fun _ => Sim.shift 2 (G := fun n => R n 0 270 [qr 0, qn, qn, qi (w32 (x3 + 1))] [] 54 (sto (sto m 12 x3 (-1)) 23 x3 (-1))) (fun _ => rfl) (Sim.pur _ _)))) (fun _ => Sim.leaf rfl (fun _ => rfl)))
def f_init_b265 (s1 : Int) (m : OMem) : Option (OMem) := (lp (f_init_l270 ) NN (0, sto m 0 29 s1)).bind fun m_1 => (some m_1)
set_option maxRecDepth 65536 in
set_option maxHeartbeats 16000000 in
theorem f_init_b265_ok (s1 : Int) (m : OMem) : Sim (f_init_b265 s1 m) (fun w0 _ => some (none, 54, w0)) (fun n => R n 0 265 [qr 0, qn, qn, qn] [vi s1, vr 0] 54 m) :=
  Sim.shift 3 (G := fun n => R n 0 270 [qr 0, qn, qn, qi 0] [] 54 (sto m 0 29 s1)) (fun _ => rfl) (Sim.bind (Sim.lp (fun ⟨x3L, mL⟩ => f_init_l270_ok x3L mL) NN (0, sto m 0 29 s1)) (fun m_1 => Sim.shift 1 (G := (fun _ => some (none, 54, m_1))) (fun _ => rfl) (Sim.pur _ _)))
def f_init_b241 (x2 s1 : Int) (m : OMem) : Option (OMem) := if x2 < 0 then (f_init_b265 0 (sto m 0 28 s1)) else (if 8 < x2 then (f_init_b265 8 (sto m 0 28 s1)) else (f_init_b265 x2 (sto m 0 28 s1)))
set_option maxRecDepth 65536 in
set_option maxHeartbeats 16000000 in
theorem f_init_b241_ok (x2 s1 : Int) (m : OMem) : Sim (f_init_b241 x2 s1 m) (fun w0 _ => some (none, 54, w0)) (fun n => R n 0 241 [qr 0, qn, qi x2, qn] [vi s1, vr 0] 54 m) :=
  Sim.shift 4 (G := fun n => if x2 < 0 then R n 0 249 [qr 0, qn, qi x2, qn] [vr 0] 54 (sto m 0 28 s1) else R n 0 253 [qr 0, qn, qi x2, qn] [vr 0] 54 (sto m 0 28 s1)) (fun _ => rfl) (Sim.ite (fun _ => Sim.shift 2 (G := fun n => R n 0 265 [qr 0, qn, qn, qn] [vi 0, vr 0] 54 (sto m 0 28 s1)) (fun _ => rfl) (f_init_b265_ok 0 (sto m 0 28 s1))) (fun _ => Sim.shift 3 (G := fun n => if 8 < x2 then R n 0 259 [qr 0, qn, qi x2, qn] [vr 0] 54 (sto m 0 28 s1) else R n 0 264 [qr 0, qn, qi x2, qn] [vr 0] 54 (sto m 0 28 s1)) (fun _ => rfl) (Sim.ite (fun _ => Sim.shift 2 (G := fun n => R n 0 265 [qr 0, qn, qn, qn] [vi 8, vr 0] 54 (sto m 0 28 s1)) (fun _ => rfl) (f_init_b265_ok 8 (sto m 0 28 s1))) (fun _ => Sim.shift 1 (G := fun n => R n 0 265 [qr 0, qn, qi x2, qn] [vi x2, vr 0] 54 (sto m 0 28 s1)) (fun _ => rfl) (Sim.jmp (f_init_b265_ok x2 (sto m 0 28 s1)) rfl (fun _ => rfl))))))
def f_init (x1 x2 : Int) (m : OMem) : Option (OMem) := if x1 < 1 then (f_init_b241 x2 1 (sto m 0 18 640)) else (if 4 < x1 then (f_init_b241 x2 4 (sto m 0 18 640)) else (f_init_b241 x2 x1 (sto m 0 18 640)))
set_option maxRecDepth 65536 in
set_option maxHeartbeats 16000000 in
theorem f_init_ok (x1 x2 : Int) (m : OMem) : Sim (f_init x1 x2 m) (fun w0 _ => some (none, 54, w0)) (fun n => R n 0 0 [qr 0, qi x1, qi x2, qn] [] 0 m) :=
  Sim.shift 12 (G := fun n => R n 0 21 [qr 0, qi x1, qi x2, qn] [vi 16, vr 0] 4 m) (fun _ => rfl) (Sim.shift 12 (G := fun n => R n 0 44 [qr 0, qi x1, qi x2, qn] [vi 16, vr 0] 10 m) (fun _ => rfl) (Sim.shift 12 (G := fun n => R n 0 68 [qr 0, qi x1, qi x2, qn] [vi 96, vr 0] 16 m) (fun _ => rfl) (Sim.shift 12 (G := fun n => R n 0 91 [qr 0, qi x1, qi x2, qn] [vi 8, vr 0] 22 m) (fun _ => rfl) (Sim.shift 12 (G := fun n => R n 0 112 [qr 0, qi x1, qi x2, qn] [vi 4, vr 0] 28 m) (fun _ => rfl) (Sim.shift 12 (G := fun n => R n 0 135 [qr 0, qi x1, qi x2, qn] [vi 24, vr 0] 34 m) (fun _ => rfl) (Sim.shift 12 (G := fun n => R n 0 162 [qr 0, qi x1, qi x2, qn] [vr 20, vr 0] 39 (sto m 0 18 640)) (fun _ => rfl) (Sim.shift 12 (G := fun n => R n 0 186 [qr 0, qi x1, qi x2, qn] [vr 23, vr 0] 45 (sto m 0 18 640)) (fun _ => rfl) (Sim.shift 12 (G := fun n => R n 0 210 [qr 0, qi x1, qi x2, qn] [vr 26, vr 0] 51 (sto m 0 18 640)) (fun _ => rfl) (Sim.shift 9 (G := fun n => if x1 < 1 then R n 0 227 [qr 0, qi x1, qi x2, qn] [vr 0] 54 (sto m 0 18 640) else R n 0 231 [qr 0, qi x1, qi x2, qn] [vr 0] 54 (sto m 0 18 640)) (fun _ => rfl) (Sim.ite (fun _ => Sim.shift 2 (G := fun n => R n 0 241 [qr 0, qn, qi x2, qn] [vi 1, vr 0] 54 (sto m 0 18 640)) (fun _ => rfl) (f_init_b241_ok x2 1 (sto m 0 18 640))) (fun _ => Sim.shift 3 (G := fun n => if 4 < x1 then R n 0 236 [qr 0, qi x1, qi x2, qn] [vr 0] 54 (sto m 0 18 640) else R n 0 240 [qr 0, qi x1, qi x2, qn] [vr 0] 54 (sto m 0 18 640)) (fun _ => rfl) (Sim.ite (fun _ => Sim.shift 2 (G := fun n => R n 0 241 [qr 0, qn, qi x2, qn] [vi 4, vr 0] 54 (sto m 0 18 640)) (fun _ => rfl) (f_init_b241_ok x2 4 (sto m 0 18 640))) (fun _ => Sim.shift 1 (G := fun n => R n 0 241 [qr 0, qi x1, qi x2, qn] [vi x1, vr 0] 54 (sto m 0 18 640)) (fun _ => rfl) (Sim.jmp (f_init_b241_ok x2 x1 (sto m 0 18 640)) rfl (fun _ => rfl)))))))))))))))
def f_beginModule_b12 (m : OMem) : Option (Int × OMem) := some (0, m)
set_option maxRecDepth 65536 in
set_option maxHeartbeats 16000000 in
theorem f_beginModule_b12_ok (t : Nat) (m : OMem) : Sim (f_beginModule_b12 m) (fun (r, w0) _ => some (some (vi r), t, w0)) (fun n => R n 1 12 [qn, qn] [] t m) :=
  Sim.shift 2 (G := (fun _ => some (some (vi 0), t, m))) (fun _ => rfl) (Sim.pur _ _)
def f_beginModule (x1 : Int) (m : OMem) : Option (Int × OMem) := if x1 < 0 then (f_beginModule_b12 m) else (if x1 < m 0 28 then (some (1, sto (sto (sto (sto (sto m 0 30 1) 0 31 x1) 0 32 0) 0 33 0) 0 34 0)) else (f_beginModule_b12 m))
set_option maxRecDepth 65536 in
set_option maxHeartbeats 16000000 in
theorem f_beginModule_ok (t : Nat) (x1 : Int) (m : OMem) : Sim (f_beginModule x1 m) (fun (r, w0) _ => some (some (vi r), t, w0)) (fun n => R n 1 0 [qr 0, qi x1] [] t m) :=
  Sim.shift 2 (G := fun n => if x1 < 0 then R n 1 12 [qr 0, qi x1] [] t m else R n 1 4 [qr 0, qi x1] [] t m) (fun _ => rfl) (Sim.ite (fun _ => Sim.jmp (f_beginModule_b12_ok t m) rfl (fun _ => rfl)) (fun _ => Sim.shift 4 (G := fun n => if x1 < m 0 28 then R n 1 14 [qr 0, qi x1] [] t m else R n 1 12 [qr 0, qi x1] [] t m) (fun _ => rfl) (Sim.ite (fun _ => Sim.shift 12 (G := fun n => R n 1 34 [qr 0, qi x1] [] t (sto (sto (sto (sto m 0 30 1) 0 31 x1) 0 32 0) 0 33 0)) (fun _ => rfl) (Sim.shift 5 (G := (fun _ => some (some (vi 1), t, sto (sto (sto (sto (sto m 0 30 1) 0 31 x1) 0 32 0) 0 33 0) 0 34 0))) (fun _ => rfl) (Sim.pur _ _))) (fun _ => Sim.jmp (f_beginModule_b12_ok t m) rfl (fun _ => rfl)))))
def f_addFunction_b17 (m : OMem) : Option (Int × OMem) := some (0, m)
set_option maxRecDepth 65536 in
set_option maxHeartbeats 16000000 in
theorem f_addFunction_b17_ok (m : OMem) : Sim (f_addFunction_b17 m) (fun (r, w0) _ => some (some (vi r), 54, w0)) (fun n => R n 2 17 [qn, qn, qn] [] 54 m) :=
  Sim.shift 2 (G := (fun _ => some (some (vi 0), 54, m))) (fun _ => rfl) (Sim.pur _ _)
def f_addFunction_l21_H (m : OMem) (x1 : Int) : Int → Nat → RT := fun x2 n => R n 2 21 [qr 0, qi x1, qi x2] [] 54 m
def f_addFunction_l21_X (m : OMem) (x1 : Int) : (Unit) ⊕ (Unit) → Nat → RT := fun e n => match e with | (.inl _) => R n 2 39 [qn, qn, qn] [] 54 m | (.inr _) => R n 2 47 [qr 0, qi x1, qn] [] 54 m
def f_addFunction_l21 (m : OMem) (x1 : Int) : Int → Option ((Int) ⊕ ((Unit) ⊕ (Unit))) := fun x2 => if x2 < m 0 33 then (if 0 ≤ x2 ∧ x2 < 4 then (if m 14 x2 = x1 then (some (.inr (.inl ()))) else (some (.inl (w32 (x2 + 1))))) else none) else (some (.inr (.inr ())))
set_option maxRecDepth 65536 in
set_option maxHeartbeats 16000000 in
theorem f_addFunction_l21_ok (m : OMem) (x1 : Int) (x2 : Int) : Sim (f_addFunction_l21 m x1 x2) (Sum.elim (f_addFunction_l21_H m x1 ) (f_addFunction_l21_X m x1 )) (f_addFunction_l21_H m x1 x2) :=
  Sim.shift 4 (G := fun n => if x2 < m 0 33 then R n 2 29 [qr 0, qi x1, qi x2] [] 54 m else R n 2 47 [qr 0, qi x1, qi x2] [] 54 m) (fun _ => rfl) (Sim.ite (fun _ => Sim.shift 4 (G := fun n => if 0 ≤ x2 ∧ x2 < 4 then R n 2 35 [qr 0, qi x1, qi x2] [vi (m 14 x2)] 54 m else none) (fun _ => rfl) (Sim.grd fun _ => Sim.shift 2 (G := fun n => if m 14 x2 = x1 then R n 2 39 [qr 0, qi x1, qi x2] [] 54 m else R n 2 41 [qr 0, qi x1, qi x2] [] 54 m) (fun _ => rfl) (Sim.ite (fun _ => Sim.leaf rfl (fun _ => rfl)) (fun _ => Sim.shift 2 (G := fun n => R n 2 21 [qr 0, qi x1, qi (w32 (x2 + 1))] [] 54 m) (fun _ => rfl) (Sim.pur _ _))))) (fun _ => Sim.leaf rfl (fun _ => rfl)))
def f_addFunction (x1 : Int) (m : OMem) : Option (Int × OMem) := if m 0 30 = 0 then (f_addFunction_b17 m) else (if x1 < 0 then (f_addFunction_b17 m) else (if 7 < x1 then (f_addFunction_b17 m) else ((lp (f_addFunction_l21 m x1) NN 0).bind fun e => match e with | (.inl _) => (some (0, m)) | (.inr _) => (if m 0 33 < 4 then (if 0 ≤ m 0 33 ∧ m 0 33 < 4 then (if 0 ≤ m 0 33 ∧ m 0 33 < 4 then (if 0 ≤ m 0 33 ∧ m 0 33 < 4 then (some (1, sto (sto (sto (sto m 14 (m 0 33) x1) 15 (m 0 33) 0) 16 (m 0 33) (m 0 34)) 0 33 (w32 ((m 0 33) + 1)))) else none) else none) else none) else (some (0, m))))))
set_option maxRecDepth 65536 in
set_option maxHeartbeats 16000000 in
theorem f_addFunction_ok (x1 : Int) (m : OMem) : Sim (f_addFunction x1 m) (fun (r, w0) _ => some (some (vi r), 54, w0)) (fun n => R n 2 0 [qr 0, qi x1, qn] [] 54 m) :=
  Sim.shift 3 (G := fun n => if m 0 30 = 0 then R n 2 17 [qr 0, qi x1, qn] [] 54 m else R n 2 7 [qr 0, qi x1, qn] [] 54 m) (fun _ => rfl) (Sim.ite (fun _ => Sim.jmp (f_addFunction_b17_ok m) rfl (fun _ => rfl)) (fun _ => Sim.shift 2 (G := fun n => if x1 < 0 then R n 2 17 [qr 0, qi x1, qn] [] 54 m else R n 2 11 [qr 0, qi x1, qn] [] 54 m) (fun _ => rfl) (Sim.ite (fun _ => Sim.jmp (f_addFunction_b17_ok m) rfl (fun _ => rfl)) (fun _ => Sim.shift 3 (G := fun n => if 7 < x1 then R n 2 17 [qr 0, qi x1, qn] [] 54 m else R n 2 19 [qr 0, qi x1, qn] [] 54 m) (fun _ => rfl) (Sim.ite (fun _ => Sim.jmp (f_addFunction_b17_ok m) rfl (fun _ => rfl)) (fun _ => Sim.shift 2 (G := fun n => R n 2 21 [qr 0, qi x1, qi 0] [] 54 m) (fun _ => rfl) (Sim.bind (Sim.lp (fun x2L => f_addFunction_l21_ok m x1 x2L) NN 0) (fun e => match e with | (.inl _) => Sim.shift 2 (G := (fun _ => some (some (vi 0), 54, m))) (fun _ => rfl) (Sim.pur _ _) | (.inr _) => Sim.shift 4 (G := fun n => if m 0 33 < 4 then R n 2 57 [qr 0, qi x1, qn] [] 54 m else R n 2 55 [qr 0, qi x1, qn] [] 54 m) (fun _ => rfl) (Sim.ite (fun _ => Sim.shift 6 (G := fun n => if 0 ≤ m 0 33 ∧ m 0 33 < 4 then R n 2 67 [qr 0, qi x1, qn] [] 54 (sto m 14 (m 0 33) x1) else none) (fun _ => rfl) (Sim.grd fun _ => Sim.shift 6 (G := fun n => if 0 ≤ m 0 33 ∧ m 0 33 < 4 then R n 2 77 [qr 0, qi x1, qn] [] 54 (sto (sto m 14 (m 0 33) x1) 15 (m 0 33) 0) else none) (fun _ => rfl) (Sim.grd fun _ => Sim.shift 7 (G := fun n => if 0 ≤ m 0 33 ∧ m 0 33 < 4 then R n 2 90 [qr 0, qi x1, qn] [] 54 (sto (sto (sto m 14 (m 0 33) x1) 15 (m 0 33) 0) 16 (m 0 33) (m 0 34)) else none) (fun _ => rfl) (Sim.grd fun _ => Sim.shift 8 (G := (fun _ => some (some (vi 1), 54, sto (sto (sto (sto m 14 (m 0 33) x1) 15 (m 0 33) 0) 16 (m 0 33) (m 0 34)) 0 33 (w32 ((m 0 33) + 1))))) (fun _ => rfl) (Sim.pur _ _))))) (fun _ => Sim.shift 2 (G := (fun _ => some (some (vi 0), 54, m))) (fun _ => rfl) (Sim.pur _ _)))))))))))
def f_argOk_b107 (m : OMem) : Option (Int) := some 1
set_option maxRecDepth 65536 in
set_option maxHeartbeats 16000000 in
theorem f_argOk_b107_ok (t : Nat) (m : OMem) : Sim (f_argOk_b107 m) (fun r _ => some (some (vi r), t, m)) (fun n => R n 4 107 [qn, qn, qn] [] t m) :=
  Sim.shift 2 (G := (fun _ => some (some (vi 1), t, m))) (fun _ => rfl) (Sim.pur _ _)
def f_argOk_b75 (s0 : Int) (m : OMem) : Option (Int) := some (s0 % 2)
set_option maxRecDepth 65536 in
set_option maxHeartbeats 16000000 in
theorem f_argOk_b75_ok (t : Nat) (s0 : Int) (m : OMem) : Sim (f_argOk_b75 s0 m) (fun r _ => some (some (vi r), t, m)) (fun n => R n 4 75 [qn, qn, qn] [vi s0] t m) :=
  Sim.shift 1 (G := (fun _ => some (some (vi (s0 % 2)), t, m))) (fun _ => rfl) (Sim.pur _ _)
def f_argOk_b74 (m : OMem) : Option (Int) := f_argOk_b75 0 m
set_option maxRecDepth 65536 in
set_option maxHeartbeats 16000000 in
theorem f_argOk_b74_ok (t : Nat) (m : OMem) : Sim (f_argOk_b74 m) (fun r _ => some (some (vi r), t, m)) (fun n => R n 4 74 [qn, qn, qn] [] t m) :=
  Sim.shift 1 (G := fun n => R n 4 75 [qn, qn, qn] [vi 0] t m) (fun _ => rfl) (f_argOk_b75_ok t 0 m)
def f_argOk_b60 (x2 : Int) (m : OMem) : Option (Int) := if x2 < 0 then (f_argOk_b74 m) else (if 7 < x2 then (f_argOk_b74 m) else (f_argOk_b75 1 m))
set_option maxRecDepth 65536 in
set_option maxHeartbeats 16000000 in
theorem f_argOk_b60_ok (t : Nat) (x2 : Int) (m : OMem) : Sim (f_argOk_b60 x2 m) (fun r _ => some (some (vi r), t, m)) (fun n => R n 4 60 [qn, qn, qi x2] [] t m) :=
  Sim.shift 2 (G := fun n => if x2 < 0 then R n 4 74 [qn, qn, qi x2] [] t m else R n 4 64 [qn, qn, qi x2] [] t m) (fun _ => rfl) (Sim.ite (fun _ => Sim.jmp (f_argOk_b74_ok t m) rfl (fun _ => rfl)) (fun _ => Sim.shift 3 (G := fun n => if 7 < x2 then R n 4 74 [qn, qn, qi x2] [] t m else R n 4 70 [qn, qn, qi x2] [] t m) (fun _ => rfl) (Sim.ite (fun _ => Sim.jmp (f_argOk_b74_ok t m) rfl (fun _ => rfl)) (fun _ => Sim.shift 2 (G := fun n => R n 4 75 [qn, qn, qn] [vi 1] t m) (fun _ => rfl) (f_argOk_b75_ok t 1 m)))))
def f_argOk_b106 (s0 : Int) (m : OMem) : Option (Int) := some (s0 % 2)
set_option maxRecDepth 65536 in
set_option maxHeartbeats 16000000 in
theorem f_argOk_b106_ok (t : Nat) (s0 : Int) (m : OMem) : Sim (f_argOk_b106 s0 m) (fun r _ => some (some (vi r), t, m)) (fun n => R n 4 106 [qn, qn, qn] [vi s0] t m) :=
  Sim.shift 1 (G := (fun _ => some (some (vi (s0 % 2)), t, m))) (fun _ => rfl) (Sim.pur _ _)
def f_argOk_b105 (m : OMem) : Option (Int) := f_argOk_b106 0 m
set_option maxRecDepth 65536 in
set_option maxHeartbeats 16000000 in
theorem f_argOk_b105_ok (t : Nat) (m : OMem) : Sim (f_argOk_b105 m) (fun r _ => some (some (vi r), t, m)) (fun n => R n 4 105 [qn, qn, qn] [] t m) :=
  Sim.shift 1 (G := fun n => R n 4 106 [qn, qn, qn] [vi 0] t m) (fun _ => rfl) (f_argOk_b106_ok t 0 m)
def f_argOk_b91 (x2 : Int) (m : OMem) : Option (Int) := if x2 < 0 then (f_argOk_b105 m) else (if 23 < x2 then (f_argOk_b105 m) else (f_argOk_b106 1 m))
set_option maxRecDepth 65536 in
set_option maxHeartbeats 16000000 in
theorem f_argOk_b91_ok (t : Nat) (x2 : Int) (m : OMem) : Sim (f_argOk_b91 x2 m) (fun r _ => some (some (vi r), t, m)) (fun n => R n 4 91 [qn, qn, qi x2] [] t m) :=
  Sim.shift 2 (G := fun n => if x2 < 0 then R n 4 105 [qn, qn, qi x2] [] t m else R n 4 95 [qn, qn, qi x2] [] t m) (fun _ => rfl) (Sim.ite (fun _ => Sim.jmp (f_argOk_b105_ok t m) rfl (fun _ => rfl)) (fun _ => Sim.shift 3 (G := fun n => if 23 < x2 then R n 4 105 [qn, qn, qi x2] [] t m else R n 4 101 [qn, qn, qi x2] [] t m) (fun _ => rfl) (Sim.ite (fun _ => Sim.jmp (f_argOk_b105_ok t m) rfl (fun _ => rfl)) (fun _ => Sim.shift 2 (G := fun n => R n 4 106 [qn, qn, qn] [vi 1] t m) (fun _ => rfl) (f_argOk_b106_ok t 1 m)))))
def f_argOk_b90 (s0 : Int) (m : OMem) : Option (Int) := some (s0 % 2)
set_option maxRecDepth 65536 in
set_option maxHeartbeats 16000000 in
theorem f_argOk_b90_ok (t : Nat) (s0 : Int) (m : OMem) : Sim (f_argOk_b90 s0 m) (fun r _ => some (some (vi r), t, m)) (fun n => R n 4 90 [qn, qn, qn] [vi s0] t m) :=
  Sim.shift 1 (G := (fun _ => some (some (vi (s0 % 2)), t, m))) (fun _ => rfl) (Sim.pur _ _)
def f_argOk_b89 (m : OMem) : Option (Int) := f_argOk_b90 0 m
set_option maxRecDepth 65536 in
set_option maxHeartbeats 16000000 in
theorem f_argOk_b89_ok (t : Nat) (m : OMem) : Sim (f_argOk_b89 m) (fun r _ => some (some (vi r), t, m)) (fun n => R n 4 89 [qn, qn, qn] [] t m) :=
  Sim.shift 1 (G := fun n => R n 4 90 [qn, qn, qn] [vi 0] t m) (fun _ => rfl) (f_argOk_b90_ok t 0 m)
def f_argOk_b76 (x2 : Int) (m : OMem) : Option (Int) := if x2 < 0 then (f_argOk_b89 m) else (if 3 < x2 then (f_argOk_b89 m) else (f_argOk_b90 1 m))
set_option maxRecDepth 65536 in
set_option maxHeartbeats 16000000 in
theorem f_argOk_b76_ok (t : Nat) (x2 : Int) (m : OMem) : Sim (f_argOk_b76 x2 m) (fun r _ => some (some (vi r), t, m)) (fun n => R n 4 76 [qn, qn, qi x2] [] t m) :=
  Sim.shift 2 (G := fun n => if x2 < 0 then R n 4 89 [qn, qn, qi x2] [] t m else R n 4 80 [qn, qn, qi x2] [] t m) (fun _ => rfl) (Sim.ite (fun _ => Sim.jmp (f_argOk_b89_ok t m) rfl (fun _ => rfl)) (fun _ => Sim.shift 3 (G := fun n => if 3 < x2 then R n 4 89 [qn, qn, qi x2] [] t m else R n 4 85 [qn, qn, qi x2] [] t m) (fun _ => rfl) (Sim.ite (fun _ => Sim.jmp (f_argOk_b89_ok t m) rfl (fun _ => rfl)) (fun _ => Sim.shift 2 (G := fun n => R n 4 90 [qn, qn, qn] [vi 1] t m) (fun _ => rfl) (f_argOk_b90_ok t 1 m)))))
def f_argOk (x1 x2 : Int) (m : OMem) : Option (Int) := if x1 = 2 then (f_argOk_b60 x2 m) else (if x1 = 3 then (f_argOk_b60 x2 m) else (if x1 = 4 then (f_argOk_b76 x2 m) else (if x1 = 5 then (f_argOk_b76 x2 m) else (if x1 = 6 then (f_argOk_b107 m) else (if x1 = 7 then (f_argOk_b107 m) else (if x1 = 8 then (f_argOk_b107 m) else (if x1 = 9 then (f_argOk_b107 m) else (if x1 = 10 then (f_argOk_b91 x2 m) else (if x1 = 11 then (f_argOk_b91 x2 m) else (if x1 = 12 then (f_argOk_b60 x2 m) else (f_argOk_b107 m)))))))))))
set_option maxRecDepth 65536 in
set_option maxHeartbeats 16000000 in
theorem f_argOk_ok (t : Nat) (x1 x2 : Int) (m : OMem) : Sim (f_argOk x1 x2 m) (fun r _ => some (some (vi r), t, m)) (fun n => R n 4 0 [qr 0, qi x1, qi x2] [] t m) :=
  Sim.shift 2 (G := fun n => if x1 = 2 then R n 4 60 [qn, qi x1, qi x2] [] t m else if x1 = 3 then R n 4 60 [qn, qi x1, qi x2] [] t m else if x1 = 4 then R n 4 76 [qn, qi x1, qi x2] [] t m else if x1 = 5 then R n 4 76 [qn, qi x1, qi x2] [] t m else if x1 = 6 then R n 4 107 [qn, qi x1, qi x2] [] t m else if x1 = 7 then R n 4 107 [qn, qi x1, qi x2] [] t m else if x1 = 8 then R n 4 107 [qn, qi x1, qi x2] [] t m else if x1 = 9 then R n 4 107 [qn, qi x1, qi x2] [] t m else if x1 = 10 then R n 4 91 [qn, qi x1, qi x2] [] t m else if x1 = 11 then R n 4 91 [qn, qi x1, qi x2] [] t m else if x1 = 12 then R n 4 60 [qn, qi x1, qi x2] [] t m else R n 4 107 [qn, qi x1, qi x2] [] t m) (fun _ => rfl) (Sim.ite (fun _ => Sim.jmp (f_argOk_b60_ok t x2 m) rfl (fun _ => rfl)) (fun _ => Sim.ite (fun _ => Sim.jmp (f_argOk_b60_ok t x2 m) rfl (fun _ => rfl)) (fun _ => Sim.ite (fun _ => Sim.jmp (f_argOk_b76_ok t x2 m) rfl (fun _ => rfl)) (fun _ => Sim.ite (fun _ => Sim.jmp (f_argOk_b76_ok t x2 m) rfl (fun _ => rfl)) (fun _ => Sim.ite (fun _ => Sim.jmp (f_argOk_b107_ok t m) rfl (fun _ => rfl)) (fun _ => Sim.ite (fun _ => Sim.jmp (f_argOk_b107_ok t m) rfl (fun _ => rfl)) (fun _ => Sim.ite (fun _ => Sim.jmp (f_argOk_b107_ok t m) rfl (fun _ => rfl)) (fun _ => Sim.ite (fun _ => Sim.jmp (f_argOk_b107_ok t m) rfl (fun _ => rfl)) (fun _ => Sim.ite (fun _ => Sim.jmp (f_argOk_b91_ok t x2 m) rfl (fun _ => rfl)) (fun _ => Sim.ite (fun _ => Sim.jmp (f_argOk_b91_ok t x2 m) rfl (fun _ => rfl)) (fun _ => Sim.ite (fun _ => Sim.jmp (f_argOk_b60_ok t x2 m) rfl (fun _ => rfl)) (fun _ => Sim.jmp (f_argOk_b107_ok t m) rfl (fun _ => rfl)))))))))))))
def f_emit_b25 (m : OMem) : Option (Int × OMem) := some (0, m)
set_option maxRecDepth 65536 in
set_option maxHeartbeats 16000000 in
theorem f_emit_b25_ok (m : OMem) : Sim (f_emit_b25 m) (fun (r, w0) _ => some (some (vi r), 54, w0)) (fun n => R n 3 25 [qn, qn, qn] [] 54 m) :=
  Sim.shift 2 (G := (fun _ => some (some (vi 0), 54, m))) (fun _ => rfl) (Sim.pur _ _)
def f_emit_b45 (m : OMem) : Option (Int × OMem) := some (0, m)
set_option maxRecDepth 65536 in
set_option maxHeartbeats 16000000 in
theorem f_emit_b45_ok (m : OMem) : Sim (f_emit_b45 m) (fun (r, w0) _ => some (some (vi r), 54, w0)) (fun n => R n 3 45 [qn, qn, qn] [] 54 m) :=
  Sim.shift 2 (G := (fun _ => some (some (vi 0), 54, m))) (fun _ => rfl) (Sim.pur _ _)
def f_emit (x1 x2 : Int) (m : OMem) : Option (Int × OMem) := if m 0 30 = 0 then (f_emit_b25 m) else (if m 0 33 = 0 then (f_emit_b25 m) else (if x1 < 1 then (f_emit_b25 m) else (if 15 < x1 then (f_emit_b25 m) else ((f_argOk x1 x2 m).bind fun r_2 => (if r_2 = 0 then (f_emit_b45 m) else (if m 0 34 < 24 then (if 0 ≤ m 0 34 ∧ m 0 34 < 24 then (if 0 ≤ m 0 34 ∧ m 0 34 < 24 then (if 0 ≤ w32 ((m 0 33) - 1) ∧ w32 ((m 0 33) - 1) < 4 then (if 0 ≤ w32 ((m 0 33) - 1) ∧ w32 ((m 0 33) - 1) < 4 then (some (1, sto (sto (sto (sto m 17 (m 0 34) x1) 18 (m 0 34) x2) 0 34 (w32 ((m 0 34) + 1))) 15 (w32 ((m 0 33) - 1)) (w32 ((m 15 (w32 ((m 0 33) - 1))) + 1)))) else none) else none) else none) else none) else (f_emit_b45 m)))))))
set_option maxRecDepth 65536 in
set_option maxHeartbeats 16000000 in
theorem f_emit_ok (x1 x2 : Int) (m : OMem) : Sim (f_emit x1 x2 m) (fun (r, w0) _ => some (some (vi r), 54, w0)) (fun n => R n 3 0 [qr 0, qi x1, qi x2] [] 54 m) :=
  Sim.shift 3 (G := fun n => if m 0 30 = 0 then R n 3 25 [qr 0, qi x1, qi x2] [] 54 m else R n 3 7 [qr 0, qi x1, qi x2] [] 54 m) (fun _ => rfl) (Sim.ite (fun _ => Sim.jmp (f_emit_b25_ok m) rfl (fun _ => rfl)) (fun _ => Sim.shift 3 (G := fun n => if m 0 33 = 0 then R n 3 25 [qr 0, qi x1, qi x2] [] 54 m else R n 3 14 [qr 0, qi x1, qi x2] [] 54 m) (fun _ => rfl) (Sim.ite (fun _ => Sim.jmp (f_emit_b25_ok m) rfl (fun _ => rfl)) (fun _ => Sim.shift 3 (G := fun n => if x1 < 1 then R n 3 25 [qr 0, qi x1, qi x2] [] 54 m else R n 3 19 [qr 0, qi x1, qi x2] [] 54 m) (fun _ => rfl) (Sim.ite (fun _ => Sim.jmp (f_emit_b25_ok m) rfl (fun _ => rfl)) (fun _ => Sim.shift 3 (G := fun n => if 15 < x1 then R n 3 25 [qr 0, qi x1, qi x2] [] 54 m else R n 3 27 [qr 0, qi x1, qi x2] [] 54 m) (fun _ => rfl) (Sim.ite (fun _ => Sim.jmp (f_emit_b25_ok m) rfl (fun _ => rfl)) (fun _ => Sim.shift 4 (G := fun n => (R n 4 0 [qr 0, qi x1, qi x2] [] 54 m).bind fun y => Rr n 3 33 [qr 0, qi x1, qi x2] [] y) (fun _ => rfl) (Sim.call (f_argOk_ok 54 x1 x2 m) (fun _ _ => rfl) (runP_mono _ _ _ _ _ _) (fun _ => runP_mono _ _ _ _ _ _) (fun r_2 => Sim.shift 0 (G := fun n => R n 3 33 [qr 0, qi x1, qi x2] [vi r_2] 54 m) (fun _ => rfl) (Sim.shift 1 (G := fun n => if r_2 = 0 then R n 3 45 [qr 0, qi x1, qi x2] [] 54 m else R n 3 36 [qr 0, qi x1, qi x2] [] 54 m) (fun _ => rfl) (Sim.ite (fun _ => Sim.jmp (f_emit_b45_ok m) rfl (fun _ => rfl)) (fun _ => Sim.shift 4 (G := fun n => if m 0 34 < 24 then R n 3 47 [qr 0, qi x1, qi x2] [] 54 m else R n 3 45 [qr 0, qi x1, qi x2] [] 54 m) (fun _ => rfl) (Sim.ite (fun _ => Sim.shift 6 (G := fun n => if 0 ≤ m 0 34 ∧ m 0 34 < 24 then R n 3 57 [qr 0, qi x1, qi x2] [] 54 (sto m 17 (m 0 34) x1) else none) (fun _ => rfl) (Sim.grd fun _ => Sim.shift 6 (G := fun n => if 0 ≤ m 0 34 ∧ m 0 34 < 24 then R n 3 67 [qr 0, qi x1, qi x2] [] 54 (sto (sto m 17 (m 0 34) x1) 18 (m 0 34) x2) else none) (fun _ => rfl) (Sim.grd fun _ => Sim.shift 8 (G := fun n => R n 3 81 [qr 0, qi x1, qi x2] [vr 15] 54 (sto (sto (sto m 17 (m 0 34) x1) 18 (m 0 34) x2) 0 34 (w32 ((m 0 34) + 1)))) (fun _ => rfl) (Sim.shift 6 (G := fun n => if 0 ≤ w32 ((m 0 33) - 1) ∧ w32 ((m 0 33) - 1) < 4 then R n 3 89 [qr 0, qi x1, qi x2] [vi (m 15 (w32 ((m 0 33) - 1))), vi (w32 ((m 0 33) - 1)), vr 15] 54 (sto (sto (sto m 17 (m 0 34) x1) 18 (m 0 34) x2) 0 34 (w32 ((m 0 34) + 1))) else none) (fun _ => rfl) (Sim.grd fun _ => Sim.shift 3 (G := fun n => if 0 ≤ w32 ((m 0 33) - 1) ∧ w32 ((m 0 33) - 1) < 4 then R n 3 92 [qr 0, qi x1, qi x2] [] 54 (sto (sto (sto (sto m 17 (m 0 34) x1) 18 (m 0 34) x2) 0 34 (w32 ((m 0 34) + 1))) 15 (w32 ((m 0 33) - 1)) (w32 ((m 15 (w32 ((m 0 33) - 1))) + 1))) else none) (fun _ => rfl) (Sim.grd fun _ => Sim.shift 2 (G := (fun _ => some (some (vi 1), 54, sto (sto (sto (sto m 17 (m 0 34) x1) 18 (m 0 34) x2) 0 34 (w32 ((m 0 34) + 1))) 15 (w32 ((m 0 33) - 1)) (w32 ((m 15 (w32 ((m 0 33) - 1))) + 1))))) (fun _ => rfl) (Sim.pur _ _))))))) (fun _ => Sim.jmp (f_emit_b45_ok m) rfl (fun _ => rfl))))))))))))))))
def f_bufferSize_b15 (s0 : Int) (m : OMem) : Option (Int) := some s0
set_option maxRecDepth 65536 in
set_option maxHeartbeats 16000000 in
theorem f_bufferSize_b15_ok (t : Nat) (s0 : Int) (m : OMem) : Sim (f_bufferSize_b15 s0 m) (fun r _ => some (some (vi r), t, m)) (fun n => R n 5 15 [qn] [vi s0] t m) :=
  Sim.shift 1 (G := (fun _ => some (some (vi s0), t, m))) (fun _ => rfl) (Sim.pur _ _)
def f_bufferSize (m : OMem) : Option (Int) := if m 0 30 = 0 then (f_bufferSize_b15 (-1) m) else (f_bufferSize_b15 (m 0 34) m)
set_option maxRecDepth 65536 in
set_option maxHeartbeats 16000000 in
theorem f_bufferSize_ok (t : Nat) (m : OMem) : Sim (f_bufferSize m) (fun r _ => some (some (vi r), t, m)) (fun n => R n 5 0 [qr 0] [] t m) :=
  Sim.shift 3 (G := fun n => if m 0 30 = 0 then R n 5 14 [qr 0] [] t m else R n 5 7 [qr 0] [] t m) (fun _ => rfl) (Sim.ite (fun _ => Sim.shift 1 (G := fun n => R n 5 15 [qn] [vi (-1)] t m) (fun _ => rfl) (f_bufferSize_b15_ok t (-1) m)) (fun _ => Sim.shift 3 (G := fun n => R n 5 15 [qr 0] [vi (m 0 34)] t m) (fun _ => rfl) (Sim.jmp (f_bufferSize_b15_ok t (m 0 34) m) rfl (fun _ => rfl))))
def f_hasBadJump_l2_H (m : OMem) : Int → Nat → RT := fun x1 n => R n 7 2 [qr 0, qi x1, qn, qn, qn, qn] [] 54 m
def f_hasBadJump_l2_X (m : OMem) : (Unit) ⊕ (Unit) → Nat → RT := fun e n => match e with | (.inl _) => R n 7 68 [qn, qn, qn, qn, qn, qn] [] 54 m | (.inr _) => R n 7 82 [qn, qn, qn, qn, qn, qn] [] 54 m
def f_hasBadJump_l19_H (m : OMem) (x1 x2 : Int) : Int → Nat → RT := fun x3 n => R n 7 19 [qr 0, qi x1, qi x2, qi x3, qn, qn] [] 54 m
def f_hasBadJump_l19_X (m : OMem) (x1 x2 : Int) : (Unit) ⊕ (Unit) → Nat → RT := fun e n => match e with | (.inl _) => R n 7 68 [qn, qn, qn, qn, qn, qn] [] 54 m | (.inr _) => R n 7 76 [qr 0, qi x1, qn, qn, qn, qn] [] 54 m
def f_hasBadJump_b70 (x1 x2 x3 : Int) (m : OMem) : Option ((Int) ⊕ ((Unit) ⊕ (Unit))) := some (.inl (w32 (x3 + 1)))
set_option maxRecDepth 65536 in
set_option maxHeartbeats 16000000 in
theorem f_hasBadJump_b70_ok (x1 x2 x3 : Int) (m : OMem) : Sim (f_hasBadJump_b70 x1 x2 x3 m) (Sum.elim (f_hasBadJump_l19_H m x1 x2 ) (f_hasBadJump_l19_X m x1 x2 )) (fun n => R n 7 70 [qr 0, qi x1, qi x2, qi x3, qn, qn] [] 54 m) :=
  Sim.shift 2 (G := fun n => R n 7 19 [qr 0, qi x1, qi x2, qi (w32 (x3 + 1)), qn, qn] [] 54 m) (fun _ => rfl) (Sim.pur _ _)
def f_hasBadJump_b57 (x1 x2 x3 x4 : Int) (m : OMem) : Option ((Int) ⊕ ((Unit) ⊕ (Unit))) := if 0 ≤ x4 ∧ x4 < 24 then (if m 18 x4 < x2 then (f_hasBadJump_b70 x1 x2 x3 m) else (some (.inr (.inl ())))) else none
set_option maxRecDepth 65536 in
set_option maxHeartbeats 16000000 in
theorem f_hasBadJump_b57_ok (x1 x2 x3 x4 : Int) (m : OMem) : Sim (f_hasBadJump_b57 x1 x2 x3 x4 m) (Sum.elim (f_hasBadJump_l19_H m x1 x2 ) (f_hasBadJump_l19_X m x1 x2 )) (fun n => R n 7 57 [qr 0, qi x1, qi x2, qi x3, qi x4, qn] [] 54 m) :=
  Sim.shift 4 (G := fun n => if 0 ≤ x4 ∧ x4 < 24 then R n 7 64 [qr 0, qi x1, qi x2, qi x3, qi x4, qn] [vi (m 18 x4)] 54 m else none) (fun _ => rfl) (Sim.grd fun _ => Sim.shift 2 (G := fun n => if m 18 x4 < x2 then R n 7 70 [qr 0, qi x1, qi x2, qi x3, qi x4, qn] [] 54 m else R n 7 68 [qr 0, qi x1, qi x2, qi x3, qi x4, qn] [] 54 m) (fun _ => rfl) (Sim.ite (fun _ => Sim.jmp (f_hasBadJump_b70_ok x1 x2 x3 m) rfl (fun _ => rfl)) (fun _ => Sim.leaf rfl (fun _ => rfl))))
def f_hasBadJump_l19 (m : OMem) (x1 x2 : Int) : Int → Option ((Int) ⊕ ((Unit) ⊕ (Unit))) := fun x3 => if x3 < x2 then (if 0 ≤ x1 ∧ x1 < 4 then (if 0 ≤ w32 ((m 16 x1) + x3) ∧ w32 ((m 16 x1) + x3) < 24 then (if m 17 (w32 ((m 16 x1) + x3)) = 10 then (f_hasBadJump_b57 x1 x2 x3 (w32 ((m 16 x1) + x3)) m) else (if m 17 (w32 ((m 16 x1) + x3)) = 11 then (f_hasBadJump_b57 x1 x2 x3 (w32 ((m 16 x1) + x3)) m) else (f_hasBadJump_b70 x1 x2 x3 m))) else none) else none) else (some (.inr (.inr ())))
set_option maxRecDepth 65536 in
set_option maxHeartbeats 16000000 in
theorem f_hasBadJump_l19_ok (m : OMem) (x1 x2 : Int) (x3 : Int) : Sim (f_hasBadJump_l19 m x1 x2 x3) (Sum.elim (f_hasBadJump_l19_H m x1 x2 ) (f_hasBadJump_l19_X m x1 x2 )) (f_hasBadJump_l19_H m x1 x2 x3) :=
  Sim.shift 3 (G := fun n => if x3 < x2 then R n 7 24 [qr 0, qi x1, qi x2, qi x3, qn, qn] [] 54 m else R n 7 76 [qr 0, qi x1, qi x2, qi x3, qn, qn] [] 54 m) (fun _ => rfl) (Sim.ite (fun _ => Sim.shift 4 (G := fun n => if 0 ≤ x1 ∧ x1 < 4 then R n 7 30 [qr 0, qi x1, qi x2, qi x3, qn, qn] [vi (m 16 x1)] 54 m else none) (fun _ => rfl) (Sim.grd fun _ => Sim.shift 5 (G := fun n => R n 7 38 [qr 0, qi x1, qi x2, qi x3, qi (w32 ((m 16 x1) + x3)), qn] [vr 17] 54 m) (fun _ => rfl) (Sim.shift 2 (G := fun n => if 0 ≤ w32 ((m 16 x1) + x3) ∧ w32 ((m 16 x1) + x3) < 24 then R n 7 41 [qr 0, qi x1, qi x2, qi x3, qi (w32 ((m 16 x1) + x3)), qn] [vi (m 17 (w32 ((m 16 x1) + x3)))] 54 m else none) (fun _ => rfl) (Sim.grd fun _ => Sim.shift 4 (G := fun n => if m 17 (w32 ((m 16 x1) + x3)) = 10 then R n 7 57 [qr 0, qi x1, qi x2, qi x3, qi (w32 ((m 16 x1) + x3)), qi (m 17 (w32 ((m 16 x1) + x3)))] [] 54 m else R n 7 50 [qr 0, qi x1, qi x2, qi x3, qi (w32 ((m 16 x1) + x3)), qi (m 17 (w32 ((m 16 x1) + x3)))] [] 54 m) (fun _ => rfl) (Sim.ite (fun _ => Sim.jmp (f_hasBadJump_b57_ok x1 x2 x3 (w32 ((m 16 x1) + x3)) m) rfl (fun _ => rfl)) (fun _ => Sim.shift 3 (G := fun n => if m 17 (w32 ((m 16 x1) + x3)) = 11 then R n 7 57 [qr 0, qi x1, qi x2, qi x3, qi (w32 ((m 16 x1) + x3)), qi (m 17 (w32 ((m 16 x1) + x3)))] [] 54 m else R n 7 70 [qr 0, qi x1, qi x2, qi x3, qi (w32 ((m 16 x1) + x3)), qi (m 17 (w32 ((m 16 x1) + x3)))] [] 54 m) (fun _ => rfl) (Sim.ite (fun _ => Sim.jmp (f_hasBadJump_b57_ok x1 x2 x3 (w32 ((m 16 x1) + x3)) m) rfl (fun _ => rfl)) (fun _ => Sim.jmp (f_hasBadJump_b70_ok x1 x2 x3 m) rfl (fun _ => rfl))))))))) (fun _ => Sim.leaf rfl (fun _ => rfl)))
def f_hasBadJump_l2 (m : OMem) : Int → Option ((Int) ⊕ ((Unit) ⊕ (Unit))) := fun x1 => if x1 < m 0 33 then (if 0 ≤ x1 ∧ x1 < 4 then ((lp (f_hasBadJump_l19 m x1 (m 15 x1)) NN 0).bind fun e => match e with | (.inl _) => (some (.inr (.inl ()))) | (.inr _) => (some (.inl (w32 (x1 + 1))))) else none) else (some (.inr (.inr ())))
set_option maxRecDepth 65536 in
set_option maxHeartbeats 16000000 in
theorem f_hasBadJump_l2_ok (m : OMem) (x1 : Int) : Sim (f_hasBadJump_l2 m x1) (Sum.elim (f_hasBadJump_l2_H m ) (f_hasBadJump_l2_X m )) (f_hasBadJump_l2_H m x1) :=
  Sim.shift 4 (G := fun n => if x1 < m 0 33 then R n 7 10 [qr 0, qi x1, qn, qn, qn, qn] [] 54 m else R n 7 82 [qr 0, qi x1, qn, qn, qn, qn] [] 54 m) (fun _ => rfl) (Sim.ite (fun _ => Sim.shift 4 (G := fun n => if 0 ≤ x1 ∧ x1 < 4 then R n 7 16 [qr 0, qi x1, qn, qn, qn, qn] [vi (m 15 x1)] 54 m else none) (fun _ => rfl) (Sim.grd fun _ => Sim.shift 3 (G := fun n => R n 7 19 [qr 0, qi x1, qi (m 15 x1), qi 0, qn, qn] [] 54 m) (fun _ => rfl) (Sim.bind (Sim.lp (fun x3L => f_hasBadJump_l19_ok m x1 (m 15 x1) x3L) NN 0) (fun e => match e with | (.inl _) => Sim.pur _ _ | (.inr _) => Sim.shift 2 (G := fun n => R n 7 2 [qr 0, qi (w32 (x1 + 1)), qn, qn, qn, qn] [] 54 m) (fun _ => rfl) (Sim.pur _ _))))) (fun _ => Sim.leaf rfl (fun _ => rfl)))
def f_hasBadJump (m : OMem) : Option (Int) := (lp (f_hasBadJump_l2 m) NN 0).bind fun e => match e with | (.inl _) => (some 1) | (.inr _) => (some 0)
set_option maxRecDepth 65536 in
set_option maxHeartbeats 16000000 in
theorem f_hasBadJump_ok (m : OMem) : Sim (f_hasBadJump m) (fun r _ => some (some (vi r), 54, m)) (fun n => R n 7 0 [qr 0, qn, qn, qn, qn, qn] [] 54 m) :=
  Sim.shift 2 (G := fun n => R n 7 2 [qr 0, qi 0, qn, qn, qn, qn] [] 54 m) (fun _ => rfl) (Sim.bind (Sim.lp (fun x1L => f_hasBadJump_l2_ok m x1L) NN 0) (fun e => match e with | (.inl _) => Sim.shift 2 (G := (fun _ => some (some (vi 1), 54, m))) (fun _ => rfl) (Sim.pur _ _) | (.inr _) => Sim.shift 2 (G := (fun _ => some (some (vi 0), 54, m))) (fun _ => rfl) (Sim.pur _ _)))
def f_hasBadData_l2_H (m : OMem) : Int → Nat → RT := fun x1 n => R n 8 2 [qr 0, qi x1, qn] [] 54 m
def f_hasBadData_l2_X (m : OMem) : (Unit) ⊕ (Unit) → Nat → RT := fun e n => match e with | (.inl _) => R n 8 40 [qn, qn, qn] [] 54 m | (.inr _) => R n 8 48 [qn, qn, qn] [] 54 m
def f_hasBadData_b42 (x1 : Int) (m : OMem) : Option ((Int) ⊕ ((Unit) ⊕ (Unit))) := some (.inl (w32 (x1 + 1)))
set_option maxRecDepth 65536 in
set_option maxHeartbeats 16000000 in
theorem f_hasBadData_b42_ok (x1 : Int) (m : OMem) : Sim (f_hasBadData_b42 x1 m) (Sum.elim (f_hasBadData_l2_H m ) (f_hasBadData_l2_X m )) (fun n => R n 8 42 [qr 0, qi x1, qn] [] 54 m) :=
  Sim.shift 2 (G := fun n => R n 8 2 [qr 0, qi (w32 (x1 + 1)), qn] [] 54 m) (fun _ => rfl) (Sim.pur _ _)
def f_hasBadData_b27 (x1 : Int) (m : OMem) : Option ((Int) ⊕ ((Unit) ⊕ (Unit))) := if 0 ≤ x1 ∧ x1 < 24 then (if m 18 x1 < m 0 32 then (f_hasBadData_b42 x1 m) else (some (.inr (.inl ())))) else none
set_option maxRecDepth 65536 in
set_option maxHeartbeats 16000000 in
theorem f_hasBadData_b27_ok (x1 : Int) (m : OMem) : Sim (f_hasBadData_b27 x1 m) (Sum.elim (f_hasBadData_l2_H m ) (f_hasBadData_l2_X m )) (fun n => R n 8 27 [qr 0, qi x1, qn] [] 54 m) :=
  Sim.shift 4 (G := fun n => if 0 ≤ x1 ∧ x1 < 24 then R n 8 33 [qr 0, qi x1, qn] [vi (m 18 x1)] 54 m else none) (fun _ => rfl) (Sim.grd fun _ => Sim.shift 3 (G := fun n => if m 18 x1 < m 0 32 then R n 8 42 [qr 0, qi x1, qn] [] 54 m else R n 8 40 [qr 0, qi x1, qn] [] 54 m) (fun _ => rfl) (Sim.ite (fun _ => f_hasBadData_b42_ok x1 m) (fun _ => Sim.leaf rfl (fun _ => rfl))))
def f_hasBadData_l2 (m : OMem) : Int → Option ((Int) ⊕ ((Unit) ⊕ (Unit))) := fun x1 => if x1 < m 0 34 then (if 0 ≤ x1 ∧ x1 < 24 then (if m 17 x1 = 4 then (f_hasBadData_b27 x1 m) else (if m 17 x1 = 5 then (f_hasBadData_b27 x1 m) else (f_hasBadData_b42 x1 m))) else none) else (some (.inr (.inr ())))
set_option maxRecDepth 65536 in
set_option maxHeartbeats 16000000 in
theorem f_hasBadData_l2_ok (m : OMem) (x1 : Int) : Sim (f_hasBadData_l2 m x1) (Sum.elim (f_hasBadData_l2_H m ) (f_hasBadData_l2_X m )) (f_hasBadData_l2_H m x1) :=
  Sim.shift 4 (G := fun n => if x1 < m 0 34 then R n 8 10 [qr 0, qi x1, qn] [] 54 m else R n 8 48 [qr 0, qi x1, qn] [] 54 m) (fun _ => rfl) (Sim.ite (fun _ => Sim.shift 4 (G := fun n => if 0 ≤ x1 ∧ x1 < 24 then R n 8 16 [qr 0, qi x1, qn] [vi (m 17 x1)] 54 m else none) (fun _ => rfl) (Sim.grd fun _ => Sim.shift 4 (G := fun n => if m 17 x1 = 4 then R n 8 27 [qr 0, qi x1, qi (m 17 x1)] [] 54 m else R n 8 22 [qr 0, qi x1, qi (m 17 x1)] [] 54 m) (fun _ => rfl) (Sim.ite (fun _ => Sim.jmp (f_hasBadData_b27_ok x1 m) rfl (fun _ => rfl)) (fun _ => Sim.shift 3 (G := fun n => if m 17 x1 = 5 then R n 8 27 [qr 0, qi x1, qi (m 17 x1)] [] 54 m else R n 8 42 [qr 0, qi x1, qi (m 17 x1)] [] 54 m) (fun _ => rfl) (Sim.ite (fun _ => Sim.jmp (f_hasBadData_b27_ok x1 m) rfl (fun _ => rfl)) (fun _ => Sim.jmp (f_hasBadData_b42_ok x1 m) rfl (fun _ => rfl))))))) (fun _ => Sim.leaf rfl (fun _ => rfl)))
def f_hasBadData (m : OMem) : Option (Int) := (lp (f_hasBadData_l2 m) NN 0).bind fun e => match e with | (.inl _) => (some 1) | (.inr _) => (some 0)
set_option maxRecDepth 65536 in
set_option maxHeartbeats 16000000 in
theorem f_hasBadData_ok (m : OMem) : Sim (f_hasBadData m) (fun r _ => some (some (vi r), 54, m)) (fun n => R n 8 0 [qr 0, qn, qn] [] 54 m) :=
  Sim.shift 2 (G := fun n => R n 8 2 [qr 0, qi 0, qn] [] 54 m) (fun _ => rfl) (Sim.bind (Sim.lp (fun x1L => f_hasBadData_l2_ok m x1L) NN 0) (fun e => match e with | (.inl _) => Sim.shift 2 (G := (fun _ => some (some (vi 1), 54, m))) (fun _ => rfl) (Sim.pur _ _) | (.inr _) => Sim.shift 2 (G := (fun _ => some (some (vi 0), 54, m))) (fun _ => rfl) (Sim.pur _ _)))
def f_hasDuplicate_l2_H (m : OMem) : Int → Nat → RT := fun x1 n => R n 9 2 [qr 0, qi x1, qn] [] 54 m
def f_hasDuplicate_l2_X (m : OMem) : (Unit) ⊕ (Unit) → Nat → RT := fun e n => match e with | (.inl _) => R n 9 34 [qn, qn, qn] [] 54 m | (.inr _) => R n 9 42 [qn, qn, qn] [] 54 m
def f_hasDuplicate_b36 (x1 : Int) (m : OMem) : Option ((Int) ⊕ ((Unit) ⊕ (Unit))) := some (.inl (w32 (x1 + 1)))
set_option maxRecDepth 65536 in
set_option maxHeartbeats 16000000 in
theorem f_hasDuplicate_b36_ok (x1 : Int) (m : OMem) : Sim (f_hasDuplicate_b36 x1 m) (Sum.elim (f_hasDuplicate_l2_H m ) (f_hasDuplicate_l2_X m )) (fun n => R n 9 36 [qr 0, qi x1, qn] [] 54 m) :=
  Sim.shift 2 (G := fun n => R n 9 2 [qr 0, qi (w32 (x1 + 1)), qn] [] 54 m) (fun _ => rfl) (Sim.pur _ _)
def f_hasDuplicate_l2 (m : OMem) : Int → Option ((Int) ⊕ ((Unit) ⊕ (Unit))) := fun x1 => if x1 < m 0 33 then (if 0 ≤ x1 ∧ x1 < 4 then (if 0 ≤ m 14 x1 ∧ m 14 x1 < 8 then (if m 12 (m 14 x1) < 0 then (f_hasDuplicate_b36 x1 m) else (if m 12 (m 14 x1) = m 0 31 then (f_hasDuplicate_b36 x1 m) else (some (.inr (.inl ()))))) else none) else none) else (some (.inr (.inr ())))
set_option maxRecDepth 65536 in
set_option maxHeartbeats 16000000 in
theorem f_hasDuplicate_l2_ok (m : OMem) (x1 : Int) : Sim (f_hasDuplicate_l2 m x1) (Sum.elim (f_hasDuplicate_l2_H m ) (f_hasDuplicate_l2_X m )) (f_hasDuplicate_l2_H m x1) :=
  Sim.shift 4 (G := fun n => if x1 < m 0 33 then R n 9 10 [qr 0, qi x1, qn] [] 54 m else R n 9 42 [qr 0, qi x1, qn] [] 54 m) (fun _ => rfl) (Sim.ite (fun _ => Sim.shift 6 (G := fun n => if 0 ≤ x1 ∧ x1 < 4 then R n 9 20 [qr 0, qi x1, qn] [vi (m 14 x1), vr 12] 54 m else none) (fun _ => rfl) (Sim.grd fun _ => Sim.shift 1 (G := fun n => if 0 ≤ m 14 x1 ∧ m 14 x1 < 8 then R n 9 21 [qr 0, qi x1, qn] [vi (m 12 (m 14 x1))] 54 m else none) (fun _ => rfl) (Sim.grd fun _ => Sim.shift 3 (G := fun n => if m 12 (m 14 x1) < 0 then R n 9 36 [qr 0, qi x1, qi (m 12 (m 14 x1))] [] 54 m else R n 9 26 [qr 0, qi x1, qi (m 12 (m 14 x1))] [] 54 m) (fun _ => rfl) (Sim.ite (fun _ => Sim.jmp (f_hasDuplicate_b36_ok x1 m) rfl (fun _ => rfl)) (fun _ => Sim.shift 4 (G := fun n => if m 12 (m 14 x1) = m 0 31 then R n 9 36 [qr 0, qi x1, qi (m 12 (m 14 x1))] [] 54 m else R n 9 34 [qr 0, qi x1, qi (m 12 (m 14 x1))] [] 54 m) (fun _ => rfl) (Sim.ite (fun _ => Sim.jmp (f_hasDuplicate_b36_ok x1 m) rfl (fun _ => rfl)) (fun _ => Sim.leaf rfl (fun _ => rfl)))))))) (fun _ => Sim.leaf rfl (fun _ => rfl)))
def f_hasDuplicate (m : OMem) : Option (Int) := (lp (f_hasDuplicate_l2 m) NN 0).bind fun e => match e with | (.inl _) => (some 1) | (.inr _) => (some 0)
set_option maxRecDepth 65536 in
set_option maxHeartbeats 16000000 in
theorem f_hasDuplicate_ok (m : OMem) : Sim (f_hasDuplicate m) (fun r _ => some (some (vi r), 54, m)) (fun n => R n 9 0 [qr 0, qn, qn] [] 54 m) :=
  Sim.shift 2 (G := fun n => R n 9 2 [qr 0, qi 0, qn] [] 54 m) (fun _ => rfl) (Sim.bind (Sim.lp (fun x1L => f_hasDuplicate_l2_ok m x1L) NN 0) (fun e => match e with | (.inl _) => Sim.shift 2 (G := (fun _ => some (some (vi 1), 54, m))) (fun _ => rfl) (Sim.pur _ _) | (.inr _) => Sim.shift 2 (G := (fun _ => some (some (vi 0), 54, m))) (fun _ => rfl) (Sim.pur _ _)))
def f_clearSymbols_l12_H (x1 : Int) : Int × OMem → Nat → RT := fun (x2, m) n => R n 11 12 [qr 0, qi x1, qi x2, qn] [] 54 m
def f_clearSymbols_l12_X (x1 : Int) : (OMem) → Nat → RT := fun e n => match e with | w => R n 11 53 [qn, qn, qn, qn] [] 54 w
def f_clearSymbols_l12 (x1 : Int) : Int × OMem → Option ((Int × OMem) ⊕ ((OMem))) := fun (x2, m) => if 0 ≤ x1 ∧ x1 < 4 then (if x2 < m 5 x1 then (if 0 ≤ w32 ((w32 (x1 * 4)) + x2) ∧ w32 ((w32 (x1 * 4)) + x2) < 16 then (if 0 ≤ m 6 (w32 ((w32 (x1 * 4)) + x2)) ∧ m 6 (w32 ((w32 (x1 * 4)) + x2)) < 8 then (if 0 ≤ m 6 (w32 ((w32 (x1 * 4)) + x2)) ∧ m 6 (w32 ((w32 (x1 * 4)) + x2)) < 8 then (some (.inl (w32 (x2 + 1), sto (sto m 12 (m 6 (w32 ((w32 (x1 * 4)) + x2))) (-1)) 23 (m 6 (w32 ((w32 (x1 * 4)) + x2))) (-1)))) else none) else none) else none) else (some (.inr m))) else none
set_option maxRecDepth 65536 in
set_option maxHeartbeats 16000000 in
theorem f_clearSymbols_l12_ok (x1 : Int) (x2 : Int) (m : OMem) : Sim (f_clearSymbols_l12 x1 (x2, m)) (Sum.elim (f_clearSymbols_l12_H x1 ) (f_clearSymbols_l12_X x1 )) (f_clearSymbols_l12_H x1 (x2, m)) :=
  Sim.shift 5 (G := fun n => if 0 ≤ x1 ∧ x1 < 4 then R n 11 19 [qr 0, qi x1, qi x2, qn] [vi (m 5 x1), vi x2] 54 m else none) (fun _ => rfl) (Sim.grd fun _ => Sim.shift 1 (G := fun n => if x2 < m 5 x1 then R n 11 22 [qr 0, qi x1, qi x2, qn] [] 54 m else R n 11 53 [qr 0, qi x1, qi x2, qn] [] 54 m) (fun _ => rfl) (Sim.ite (fun _ => Sim.shift 7 (G := fun n => R n 11 31 [qr 0, qi x1, qi x2, qn] [vi (w32 ((w32 (x1 * 4)) + x2)), vr 6] 54 m) (fun _ => rfl) (Sim.shift 1 (G := fun n => if 0 ≤ w32 ((w32 (x1 * 4)) + x2) ∧ w32 ((w32 (x1 * 4)) + x2) < 16 then R n 11 32 [qr 0, qi x1, qi x2, qn] [vi (m 6 (w32 ((w32 (x1 * 4)) + x2)))] 54 m else none) (fun _ => rfl) (Sim.grd fun _ => Sim.shift 6 (G := fun n => if 0 ≤ m 6 (w32 ((w32 (x1 * 4)) + x2)) ∧ m 6 (w32 ((w32 (x1 * 4)) + x2)) < 8 then R n 11 40 [qr 0, qi x1, qi x2, qi (m 6 (w32 ((w32 (x1 * 4)) + x2)))] [] 54 (sto m 12 (m 6 (w32 ((w32 (x1 * 4)) + x2))) (-1)) else none) (fun _ => rfl) (Sim.grd fun _ => Sim.shift 5 (G := fun n => if 0 ≤ m 6 (w32 ((w32 (x1 * 4)) + x2)) ∧ m 6 (w32 ((w32 (x1 * 4)) + x2)) < 8 then R n 11 47 [qr 0, qi x1, qi x2, qi (m 6 (w32 ((w32 (x1 * 4)) + x2)))] [] 54 (sto (sto m 12 (m 6 (w32 ((w32 (x1 * 4)) + x2))) (-1)) 23 (m 6 (w32 ((w32 (x1 * 4)) + x2))) (-1)) else none) (fun _ => rfl) (Sim.grd fun _ => Sim.shift 2 (G := fun n => R n 11 12 [qr 0, qi x1, qi (w32 (x2 + 1)), qi (m 6 (w32 ((w32 (x1 * 4)) + x2)))] [] 54 (sto (sto m 12 (m 6 (w32 ((w32 (x1 * 4)) + x2))) (-1)) 23 (m 6 (w32 ((w32 (x1 * 4)) + x2))) (-1))) (fun _ => rfl) (Sim.leaf rfl (fun _ => rfl))))))) (fun _ => Sim.leaf rfl (fun _ => rfl))))
def f_clearSymbols (x1 : Int) (m : OMem) : Option (OMem) := if 0 ≤ x1 ∧ x1 < 4 then (if m 1 x1 = 0 then (some m) else ((lp (f_clearSymbols_l12 x1) NN (0, m)).bind fun m_6 => (some m_6))) else none
set_option maxRecDepth 65536 in
set_option maxHeartbeats 16000000 in
theorem f_clearSymbols_ok (x1 : Int) (m : OMem) : Sim (f_clearSymbols x1 m) (fun w0 _ => some (none, 54, w0)) (fun n => R n 11 0 [qr 0, qi x1, qn, qn] [] 54 m) :=
  Sim.shift 4 (G := fun n => if 0 ≤ x1 ∧ x1 < 4 then R n 11 6 [qr 0, qi x1, qn, qn] [vi (m 1 x1)] 54 m else none) (fun _ => rfl) (Sim.grd fun _ => Sim.shift 1 (G := fun n => if m 1 x1 = 0 then R n 11 9 [qr 0, qi x1, qn, qn] [] 54 m else R n 11 10 [qr 0, qi x1, qn, qn] [] 54 m) (fun _ => rfl) (Sim.ite (fun _ => Sim.shift 1 (G := (fun _ => some (none, 54, m))) (fun _ => rfl) (Sim.pur _ _)) (fun _ => Sim.shift 2 (G := fun n => R n 11 12 [qr 0, qi x1, qi 0, qn] [] 54 m) (fun _ => rfl) (Sim.bind (Sim.lp (fun ⟨x2L, mL⟩ => f_clearSymbols_l12_ok x1 x2L mL) NN (0, m)) (fun m_6 => Sim.shift 1 (G := (fun _ => some (none, 54, m_6))) (fun _ => rfl) (Sim.pur _ _))))))
def f_installBuffer_l22_H (x1 : Int) : Int × OMem → Nat → RT := fun (x2, m) n => R n 10 22 [qr 0, qi x1, qi x2, qn] [] 54 m
def f_installBuffer_l22_X (x1 : Int) : (OMem) → Nat → RT := fun e n => match e with | w => R n 10 68 [qr 0, qi x1, qn, qn] [] 54 w
def f_installBuffer_l22 (x1 : Int) : Int × OMem → Option ((Int × OMem) ⊕ ((OMem))) := fun (x2, m) => if x2 < m 0 32 then (if 0 ≤ x2 ∧ x2 < 4 then (if 0 ≤ w32 ((w32 (x1 * 4)) + x2) ∧ w32 ((w32 (x1 * 4)) + x2) < 16 then (if 0 ≤ x2 ∧ x2 < 4 then (if 0 ≤ w32 ((w32 (x1 * 4)) + x2) ∧ w32 ((w32 (x1 * 4)) + x2) < 16 then (some (.inl (w32 (x2 + 1), sto (sto m 3 (w32 ((w32 (x1 * 4)) + x2)) (m 13 x2)) 4 (w32 ((w32 (x1 * 4)) + x2)) (m 13 x2)))) else none) else none) else none) else none) else (some (.inr m))
set_option maxRecDepth 65536 in
set_option maxHeartbeats 16000000 in
theorem f_installBuffer_l22_ok (x1 : Int) (x2 : Int) (m : OMem) : Sim (f_installBuffer_l22 x1 (x2, m)) (Sum.elim (f_installBuffer_l22_H x1 ) (f_installBuffer_l22_X x1 )) (f_installBuffer_l22_H x1 (x2, m)) :=
  Sim.shift 4 (G := fun n => if x2 < m 0 32 then R n 10 30 [qr 0, qi x1, qi x2, qn] [] 54 m else R n 10 68 [qr 0, qi x1, qi x2, qn] [] 54 m) (fun _ => rfl) (Sim.ite (fun _ => Sim.shift 7 (G := fun n => R n 10 39 [qr 0, qi x1, qi x2, qn] [vi (w32 ((w32 (x1 * 4)) + x2)), vr 3] 54 m) (fun _ => rfl) (Sim.shift 4 (G := fun n => if 0 ≤ x2 ∧ x2 < 4 then R n 10 45 [qr 0, qi x1, qi x2, qn] [vi (m 13 x2), vi (w32 ((w32 (x1 * 4)) + x2)), vr 3] 54 m else none) (fun _ => rfl) (Sim.grd fun _ => Sim.shift 1 (G := fun n => if 0 ≤ w32 ((w32 (x1 * 4)) + x2) ∧ w32 ((w32 (x1 * 4)) + x2) < 16 then R n 10 46 [qr 0, qi x1, qi x2, qn] [] 54 (sto m 3 (w32 ((w32 (x1 * 4)) + x2)) (m 13 x2)) else none) (fun _ => rfl) (Sim.grd fun _ => Sim.shift 7 (G := fun n => R n 10 55 [qr 0, qi x1, qi x2, qn] [vi (w32 ((w32 (x1 * 4)) + x2)), vr 4] 54 (sto m 3 (w32 ((w32 (x1 * 4)) + x2)) (m 13 x2))) (fun _ => rfl) (Sim.shift 4 (G := fun n => if 0 ≤ x2 ∧ x2 < 4 then R n 10 61 [qr 0, qi x1, qi x2, qn] [vi (m 13 x2), vi (w32 ((w32 (x1 * 4)) + x2)), vr 4] 54 (sto m 3 (w32 ((w32 (x1 * 4)) + x2)) (m 13 x2)) else none) (fun _ => rfl) (Sim.grd fun _ => Sim.shift 1 (G := fun n => if 0 ≤ w32 ((w32 (x1 * 4)) + x2) ∧ w32 ((w32 (x1 * 4)) + x2) < 16 then R n 10 62 [qr 0, qi x1, qi x2, qn] [] 54 (sto (sto m 3 (w32 ((w32 (x1 * 4)) + x2)) (m 13 x2)) 4 (w32 ((w32 (x1 * 4)) + x2)) (m 13 x2)) else none) (fun _ => rfl) (Sim.grd fun _ => Sim.shift 2 (G := fun n => R n 10 22 [qr 0, qi x1, qi (w32 (x2 + 1)), qn] [] 54 (sto (sto m 3 (w32 ((w32 (x1 * 4)) + x2)) (m 13 x2)) 4 (w32 ((w32 (x1 * 4)) + x2)) (m 13 x2))) (fun _ => rfl) (Sim.pur _ _)))))))) (fun _ => Sim.leaf rfl (fun _ => rfl)))
def f_installBuffer_l80_H (x1 : Int) : Int × OMem → Nat → RT := fun (x2, m) n => R n 10 80 [qr 0, qi x1, qi x2, qn] [] 54 m
def f_installBuffer_l80_X (x1 : Int) : (OMem) → Nat → RT := fun e n => match e with | w => R n 10 148 [qr 0, qi x1, qn, qn] [] 54 w
def f_installBuffer_l80 (x1 : Int) : Int × OMem → Option ((Int × OMem) ⊕ ((OMem))) := fun (x2, m) => if x2 < m 0 33 then (if 0 ≤ x2 ∧ x2 < 4 then (if 0 ≤ w32 ((w32 (x1 * 4)) + x2) ∧ w32 ((w32 (x1 * 4)) + x2) < 16 then (if 0 ≤ x2 ∧ x2 < 4 then (if 0 ≤ w32 ((w32 (x1 * 4)) + x2) ∧ w32 ((w32 (x1 * 4)) + x2) < 16 then (if 0 ≤ x2 ∧ x2 < 4 then (if 0 ≤ w32 ((w32 (x1 * 4)) + x2) ∧ w32 ((w32 (x1 * 4)) + x2) < 16 then (if 0 ≤ x2 ∧ x2 < 4 then (if 0 ≤ m 14 x2 ∧ m 14 x2 < 8 then (some (.inl (w32 (x2 + 1), sto (sto (sto (sto m 6 (w32 ((w32 (x1 * 4)) + x2)) (m 14 x2)) 7 (w32 ((w32 (x1 * 4)) + x2)) (m 15 x2)) 8 (w32 ((w32 (x1 * 4)) + x2)) (m 16 x2)) 12 (m 14 x2) x1))) else none) else none) else none) else none) else none) else none) else none) else none) else (some (.inr m))
set_option maxRecDepth 65536 in
set_option maxHeartbeats 16000000 in
theorem f_installBuffer_l80_ok (x1 : Int) (x2 : Int) (m : OMem) : Sim (f_installBuffer_l80 x1 (x2, m)) (Sum.elim (f_installBuffer_l80_H x1 ) (f_installBuffer_l80_X x1 )) (f_installBuffer_l80_H x1 (x2, m)) :=
  Sim.shift 4 (G := fun n => if x2 < m 0 33 then R n 10 88 [qr 0, qi x1, qi x2, qn] [] 54 m else R n 10 148 [qr 0, qi x1, qi x2, qn] [] 54 m) (fun _ => rfl) (Sim.ite (fun _ => Sim.shift 5 (G := fun n => R n 10 93 [qr 0, qi x1, qi x2, qn] [vi (w32 ((w32 (x1 * 4)) + x2))] 54 m) (fun _ => rfl) (Sim.shift 8 (G := fun n => if 0 ≤ x2 ∧ x2 < 4 then R n 10 105 [qr 0, qi x1, qi x2, qi (w32 ((w32 (x1 * 4)) + x2))] [vi (m 14 x2), vi (w32 ((w32 (x1 * 4)) + x2)), vr 6] 54 m else none) (fun _ => rfl) (Sim.grd fun _ => Sim.shift 1 (G := fun n => if 0 ≤ w32 ((w32 (x1 * 4)) + x2) ∧ w32 ((w32 (x1 * 4)) + x2) < 16 then R n 10 106 [qr 0, qi x1, qi x2, qi (w32 ((w32 (x1 * 4)) + x2))] [] 54 (sto m 6 (w32 ((w32 (x1 * 4)) + x2)) (m 14 x2)) else none) (fun _ => rfl) (Sim.grd fun _ => Sim.shift 7 (G := fun n => if 0 ≤ x2 ∧ x2 < 4 then R n 10 117 [qr 0, qi x1, qi x2, qi (w32 ((w32 (x1 * 4)) + x2))] [vi (m 15 x2), vi (w32 ((w32 (x1 * 4)) + x2)), vr 7] 54 (sto m 6 (w32 ((w32 (x1 * 4)) + x2)) (m 14 x2)) else none) (fun _ => rfl) (Sim.grd fun _ => Sim.shift 1 (G := fun n => if 0 ≤ w32 ((w32 (x1 * 4)) + x2) ∧ w32 ((w32 (x1 * 4)) + x2) < 16 then R n 10 118 [qr 0, qi x1, qi x2, qi (w32 ((w32 (x1 * 4)) + x2))] [] 54 (sto (sto m 6 (w32 ((w32 (x1 * 4)) + x2)) (m 14 x2)) 7 (w32 ((w32 (x1 * 4)) + x2)) (m 15 x2)) else none) (fun _ => rfl) (Sim.grd fun _ => Sim.shift 7 (G := fun n => if 0 ≤ x2 ∧ x2 < 4 then R n 10 129 [qr 0, qi x1, qi x2, qi (w32 ((w32 (x1 * 4)) + x2))] [vi (m 16 x2), vi (w32 ((w32 (x1 * 4)) + x2)), vr 8] 54 (sto (sto m 6 (w32 ((w32 (x1 * 4)) + x2)) (m 14 x2)) 7 (w32 ((w32 (x1 * 4)) + x2)) (m 15 x2)) else none) (fun _ => rfl) (Sim.grd fun _ => Sim.shift 1 (G := fun n => if 0 ≤ w32 ((w32 (x1 * 4)) + x2) ∧ w32 ((w32 (x1 * 4)) + x2) < 16 then R n 10 130 [qr 0, qi x1, qi x2, qi (w32 ((w32 (x1 * 4)) + x2))] [] 54 (sto (sto (sto m 6 (w32 ((w32 (x1 * 4)) + x2)) (m 14 x2)) 7 (w32 ((w32 (x1 * 4)) + x2)) (m 15 x2)) 8 (w32 ((w32 (x1 * 4)) + x2)) (m 16 x2)) else none) (fun _ => rfl) (Sim.grd fun _ => Sim.shift 6 (G := fun n => if 0 ≤ x2 ∧ x2 < 4 then R n 10 140 [qr 0, qi x1, qi x2, qi (w32 ((w32 (x1 * 4)) + x2))] [vi (m 14 x2), vr 12] 54 (sto (sto (sto m 6 (w32 ((w32 (x1 * 4)) + x2)) (m 14 x2)) 7 (w32 ((w32 (x1 * 4)) + x2)) (m 15 x2)) 8 (w32 ((w32 (x1 * 4)) + x2)) (m 16 x2)) else none) (fun _ => rfl) (Sim.grd fun _ => Sim.shift 2 (G := fun n => if 0 ≤ m 14 x2 ∧ m 14 x2 < 8 then R n 10 142 [qr 0, qi x1, qi x2, qi (w32 ((w32 (x1 * 4)) + x2))] [] 54 (sto (sto (sto (sto m 6 (w32 ((w32 (x1 * 4)) + x2)) (m 14 x2)) 7 (w32 ((w32 (x1 * 4)) + x2)) (m 15 x2)) 8 (w32 ((w32 (x1 * 4)) + x2)) (m 16 x2)) 12 (m 14 x2) x1) else none) (fun _ => rfl) (Sim.grd fun _ => Sim.shift 2 (G := fun n => R n 10 80 [qr 0, qi x1, qi (w32 (x2 + 1)), qi (w32 ((w32 (x1 * 4)) + x2))] [] 54 (sto (sto (sto (sto m 6 (w32 ((w32 (x1 * 4)) + x2)) (m 14 x2)) 7 (w32 ((w32 (x1 * 4)) + x2)) (m 15 x2)) 8 (w32 ((w32 (x1 * 4)) + x2)) (m 16 x2)) 12 (m 14 x2) x1)) (fun _ => rfl) (Sim.leaf rfl (fun _ => rfl)))))))))))) (fun _ => Sim.leaf rfl (fun _ => rfl)))
def f_installBuffer_l150_H (x1 : Int) : Int × OMem → Nat → RT := fun (x2, m) n => R n 10 150 [qr 0, qi x1, qi x2, qn] [] 54 m
def f_installBuffer_l150_X (x1 : Int) : (OMem) → Nat → RT := fun e n => match e with | w => R n 10 198 [qr 0, qi x1, qn, qn] [] 54 w
def f_installBuffer_l150 (x1 : Int) : Int × OMem → Option ((Int × OMem) ⊕ ((OMem))) := fun (x2, m) => if x2 < m 0 34 then (if 0 ≤ x2 ∧ x2 < 24 then (if 0 ≤ w32 ((w32 (x1 * 24)) + x2) ∧ w32 ((w32 (x1 * 24)) + x2) < 96 then (if 0 ≤ x2 ∧ x2 < 24 then (if 0 ≤ w32 ((w32 (x1 * 24)) + x2) ∧ w32 ((w32 (x1 * 24)) + x2) < 96 then (some (.inl (w32 (x2 + 1), sto (sto m 9 (w32 ((w32 (x1 * 24)) + x2)) (m 17 x2)) 10 (w32 ((w32 (x1 * 24)) + x2)) (m 18 x2)))) else none) else none) else none) else none) else (some (.inr m))
set_option maxRecDepth 65536 in
set_option maxHeartbeats 16000000 in
theorem f_installBuffer_l150_ok (x1 : Int) (x2 : Int) (m : OMem) : Sim (f_installBuffer_l150 x1 (x2, m)) (Sum.elim (f_installBuffer_l150_H x1 ) (f_installBuffer_l150_X x1 )) (f_installBuffer_l150_H x1 (x2, m)) :=
  Sim.shift 4 (G := fun n => if x2 < m 0 34 then R n 10 158 [qr 0, qi x1, qi x2, qn] [] 54 m else R n 10 198 [qr 0, qi x1, qi x2, qn] [] 54 m) (fun _ => rfl) (Sim.ite (fun _ => Sim.shift 7 (G := fun n => R n 10 168 [qr 0, qi x1, qi x2, qn] [vi (w32 ((w32 (x1 * 24)) + x2)), vr 9] 54 m) (fun _ => rfl) (Sim.shift 4 (G := fun n => if 0 ≤ x2 ∧ x2 < 24 then R n 10 174 [qr 0, qi x1, qi x2, qn] [vi (m 17 x2), vi (w32 ((w32 (x1 * 24)) + x2)), vr 9] 54 m else none) (fun _ => rfl) (Sim.grd fun _ => Sim.shift 1 (G := fun n => if 0 ≤ w32 ((w32 (x1 * 24)) + x2) ∧ w32 ((w32 (x1 * 24)) + x2) < 96 then R n 10 175 [qr 0, qi x1, qi x2, qn] [] 54 (sto m 9 (w32 ((w32 (x1 * 24)) + x2)) (m 17 x2)) else none) (fun _ => rfl) (Sim.grd fun _ => Sim.shift 7 (G := fun n => R n 10 185 [qr 0, qi x1, qi x2, qn] [vi (w32 ((w32 (x1 * 24)) + x2)), vr 10] 54 (sto m 9 (w32 ((w32 (x1 * 24)) + x2)) (m 17 x2))) (fun _ => rfl) (Sim.shift 4 (G := fun n => if 0 ≤ x2 ∧ x2 < 24 then R n 10 191 [qr 0, qi x1, qi x2, qn] [vi (m 18 x2), vi (w32 ((w32 (x1 * 24)) + x2)), vr 10] 54 (sto m 9 (w32 ((w32 (x1 * 24)) + x2)) (m 17 x2)) else none) (fun _ => rfl) (Sim.grd fun _ => Sim.shift 1 (G := fun n => if 0 ≤ w32 ((w32 (x1 * 24)) + x2) ∧ w32 ((w32 (x1 * 24)) + x2) < 96 then R n 10 192 [qr 0, qi x1, qi x2, qn] [] 54 (sto (sto m 9 (w32 ((w32 (x1 * 24)) + x2)) (m 17 x2)) 10 (w32 ((w32 (x1 * 24)) + x2)) (m 18 x2)) else none) (fun _ => rfl) (Sim.grd fun _ => Sim.shift 2 (G := fun n => R n 10 150 [qr 0, qi x1, qi (w32 (x2 + 1)), qn] [] 54 (sto (sto m 9 (w32 ((w32 (x1 * 24)) + x2)) (m 17 x2)) 10 (w32 ((w32 (x1 * 24)) + x2)) (m 18 x2))) (fun _ => rfl) (Sim.pur _ _)))))))) (fun _ => Sim.leaf rfl (fun _ => rfl)))
def f_installBuffer (m : OMem) : Option (OMem) := (f_clearSymbols (m 0 31) m).bind fun m_7 => (if 0 ≤ m 0 31 ∧ m 0 31 < 4 then ((lp (f_installBuffer_l22 (m 0 31)) NN (0, sto m_7 2 (m 0 31) (m_7 0 32))).bind fun m_8 => (if 0 ≤ m 0 31 ∧ m 0 31 < 4 then ((lp (f_installBuffer_l80 (m 0 31)) NN (0, sto m_8 5 (m 0 31) (m_8 0 33))).bind fun m_9 => ((lp (f_installBuffer_l150 (m 0 31)) NN (0, m_9)).bind fun m_10 => (if 0 ≤ m 0 31 ∧ m 0 31 < 4 then (if 0 ≤ m 0 31 ∧ m 0 31 < 4 then (some (sto (sto m_10 11 (m 0 31) (m_10 0 34)) 1 (m 0 31) 1)) else none) else none))) else none)) else none)
set_option maxRecDepth 65536 in
set_option maxHeartbeats 16000000 in
theorem f_installBuffer_ok (m : OMem) : Sim (f_installBuffer m) (fun w0 _ => some (none, 54, w0)) (fun n => R n 10 0 [qr 0, qn, qn, qn] [] 54 m) :=
  Sim.shift 6 (G := fun n => (R n 11 0 [qr 0, qi (m 0 31), qn, qn] [] 54 m).bind fun y => Rr n 10 10 [qr 0, qi (m 0 31), qn, qn] [] y) (fun _ => rfl) (Sim.call (f_clearSymbols_ok (m 0 31) m) (fun _ _ => rfl) (runP_mono _ _ _ _ _ _) (fun _ => runP_mono _ _ _ _ _ _) (fun m_7 => Sim.shift 0 (G := fun n => R n 10 10 [qr 0, qi (m 0 31), qn, qn] [] 54 m_7) (fun _ => rfl) (Sim.shift 6 (G := fun n => if 0 ≤ m 0 31 ∧ m 0 31 < 4 then R n 10 20 [qr 0, qi (m 0 31), qn, qn] [] 54 (sto m_7 2 (m 0 31) (m_7 0 32)) else none) (fun _ => rfl) (Sim.grd fun _ => Sim.shift 2 (G := fun n => R n 10 22 [qr 0, qi (m 0 31), qi 0, qn] [] 54 (sto m_7 2 (m 0 31) (m_7 0 32))) (fun _ => rfl) (Sim.bind (Sim.lp (fun ⟨x2L, mL⟩ => f_installBuffer_l22_ok (m 0 31) x2L mL) NN (0, sto m_7 2 (m 0 31) (m_7 0 32))) (fun m_8 => Sim.shift 6 (G := fun n => if 0 ≤ m 0 31 ∧ m 0 31 < 4 then R n 10 78 [qr 0, qi (m 0 31), qn, qn] [] 54 (sto m_8 5 (m 0 31) (m_8 0 33)) else none) (fun _ => rfl) (Sim.grd fun _ => Sim.shift 2 (G := fun n => R n 10 80 [qr 0, qi (m 0 31), qi 0, qn] [] 54 (sto m_8 5 (m 0 31) (m_8 0 33))) (fun _ => rfl) (Sim.bind (Sim.lp (fun ⟨x2L, mL⟩ => f_installBuffer_l80_ok (m 0 31) x2L mL) NN (0, sto m_8 5 (m 0 31) (m_8 0 33))) (fun m_9 => Sim.shift 2 (G := fun n => R n 10 150 [qr 0, qi (m 0 31), qi 0, qn] [] 54 m_9) (fun _ => rfl) (Sim.bind (Sim.lp (fun ⟨x2L, mL⟩ => f_installBuffer_l150_ok (m 0 31) x2L mL) NN (0, m_9)) (fun m_10 => Sim.shift 6 (G := fun n => if 0 ≤ m 0 31 ∧ m 0 31 < 4 then R n 10 208 [qr 0, qi (m 0 31), qn, qn] [] 54 (sto m_10 11 (m 0 31) (m_10 0 34)) else none) (fun _ => rfl) (Sim.grd fun _ => Sim.shift 5 (G := fun n => if 0 ≤ m 0 31 ∧ m 0 31 < 4 then R n 10 215 [qr 0, qi (m 0 31), qn, qn] [] 54 (sto (sto m_10 11 (m 0 31) (m_10 0 34)) 1 (m 0 31) 1) else none) (fun _ => rfl) (Sim.grd fun _ => Sim.shift 1 (G := (fun _ => some (none, 54, sto (sto m_10 11 (m 0 31) (m_10 0 34)) 1 (m 0 31) 1))) (fun _ => rfl) (Sim.pur _ _))))))))))))))
def f_placeFunction_l32_H (x1 x2 x3 x4 : Int) : Int × OMem → Nat → RT := fun (x5, m) n => R n 13 32 [qr 0, qi x1, qi x2, qi x3, qi x4, qi x5, qn, qn] [] 54 m
def f_placeFunction_l32_X (x1 x2 x3 x4 : Int) : (OMem) → Nat → RT := fun e n => match e with | w => R n 13 110 [qr 0, qi x1, qi x2, qi x3, qn, qn, qn, qn] [] 54 w
def f_placeFunction_b82 (x1 x2 x3 x4 x5 x6 x7 : Int) (m : OMem) : Option ((Int × OMem) ⊕ ((OMem))) := if 0 ≤ w32 (x2 + x5) ∧ w32 (x2 + x5) < 640 then (if 0 ≤ w32 (x2 + x5) ∧ w32 (x2 + x5) < 640 then (some (.inl (w32 (x5 + 1), sto (sto m 19 (w32 (x2 + x5)) x6) 20 (w32 (x2 + x5)) x7))) else none) else none
set_option maxRecDepth 65536 in
set_option maxHeartbeats 16000000 in
theorem f_placeFunction_b82_ok (x1 x2 x3 x4 x5 x6 x7 : Int) (m : OMem) : Sim (f_placeFunction_b82 x1 x2 x3 x4 x5 x6 x7 m) (Sum.elim (f_placeFunction_l32_H x1 x2 x3 x4 ) (f_placeFunction_l32_X x1 x2 x3 x4 )) (fun n => R n 13 82 [qr 0, qi x1, qi x2, qi x3, qi x4, qi x5, qi x6, qi x7] [] 54 m) :=
  Sim.shift 7 (G := fun n => if 0 ≤ w32 (x2 + x5) ∧ w32 (x2 + x5) < 640 then R n 13 93 [qr 0, qi x1, qi x2, qi x3, qi x4, qi x5, qi x6, qi x7] [] 54 (sto m 19 (w32 (x2 + x5)) x6) else none) (fun _ => rfl) (Sim.grd fun _ => Sim.shift 7 (G := fun n => if 0 ≤ w32 (x2 + x5) ∧ w32 (x2 + x5) < 640 then R n 13 104 [qr 0, qi x1, qi x2, qi x3, qi x4, qi x5, qi x6, qi x7] [] 54 (sto (sto m 19 (w32 (x2 + x5)) x6) 20 (w32 (x2 + x5)) x7) else none) (fun _ => rfl) (Sim.grd fun _ => Sim.shift 2 (G := fun n => R n 13 32 [qr 0, qi x1, qi x2, qi x3, qi x4, qi (w32 (x5 + 1)), qi x6, qi x7] [] 54 (sto (sto m 19 (w32 (x2 + x5)) x6) 20 (w32 (x2 + x5)) x7)) (fun _ => rfl) (Sim.leaf rfl (fun _ => rfl))))
def f_placeFunction_b76 (x1 x2 x3 x4 x5 x6 x7 : Int) (m : OMem) : Option ((Int × OMem) ⊕ ((OMem))) := f_placeFunction_b82 x1 x2 x3 x4 x5 x6 (w32 (x2 + x7)) m
set_option maxRecDepth 65536 in
set_option maxHeartbeats 16000000 in
theorem f_placeFunction_b76_ok (x1 x2 x3 x4 x5 x6 x7 : Int) (m : OMem) : Sim (f_placeFunction_b76 x1 x2 x3 x4 x5 x6 x7 m) (Sum.elim (f_placeFunction_l32_H x1 x2 x3 x4 ) (f_placeFunction_l32_X x1 x2 x3 x4 )) (fun n => R n 13 76 [qr 0, qi x1, qi x2, qi x3, qi x4, qi x5, qi x6, qi x7] [] 54 m) :=
  Sim.shift 4 (G := fun n => R n 13 82 [qr 0, qi x1, qi x2, qi x3, qi x4, qi x5, qi x6, qi (w32 (x2 + x7))] [] 54 m) (fun _ => rfl) (f_placeFunction_b82_ok x1 x2 x3 x4 x5 x6 (w32 (x2 + x7)) m)
def f_placeFunction_l32 (x1 x2 x3 x4 : Int) : Int × OMem → Option ((Int × OMem) ⊕ ((OMem))) := fun (x5, m) => if x5 < x3 then (if 0 ≤ w32 (x4 + x5) ∧ w32 (x4 + x5) < 96 then (if 0 ≤ w32 (x4 + x5) ∧ w32 (x4 + x5) < 96 then (if m 9 (w32 (x4 + x5)) = 10 then (f_placeFunction_b76 x1 x2 x3 x4 x5 (m 9 (w32 (x4 + x5))) (m 10 (w32 (x4 + x5))) m) else (if m 9 (w32 (x4 + x5)) = 11 then (f_placeFunction_b76 x1 x2 x3 x4 x5 (m 9 (w32 (x4 + x5))) (m 10 (w32 (x4 + x5))) m) else (f_placeFunction_b82 x1 x2 x3 x4 x5 (m 9 (w32 (x4 + x5))) (m 10 (w32 (x4 + x5))) m))) else none) else none) else (some (.inr m))
set_option maxRecDepth 65536 in
set_option maxHeartbeats 16000000 in
theorem f_placeFunction_l32_ok (x1 x2 x3 x4 : Int) (x5 : Int) (m : OMem) : Sim (f_placeFunction_l32 x1 x2 x3 x4 (x5, m)) (Sum.elim (f_placeFunction_l32_H x1 x2 x3 x4 ) (f_placeFunction_l32_X x1 x2 x3 x4 )) (f_placeFunction_l32_H x1 x2 x3 x4 (x5, m)) :=
  Sim.shift 3 (G := fun n => if x5 < x3 then R n 13 38 [qr 0, qi x1, qi x2, qi x3, qi x4, qi x5, qn, qn] [] 54 m else R n 13 110 [qr 0, qi x1, qi x2, qi x3, qi x4, qi x5, qn, qn] [] 54 m) (fun _ => rfl) (Sim.ite (fun _ => Sim.shift 6 (G := fun n => if 0 ≤ w32 (x4 + x5) ∧ w32 (x4 + x5) < 96 then R n 13 48 [qr 0, qi x1, qi x2, qi x3, qi x4, qi x5, qn, qn] [vi (m 9 (w32 (x4 + x5)))] 54 m else none) (fun _ => rfl) (Sim.grd fun _ => Sim.shift 6 (G := fun n => R n 13 59 [qr 0, qi x1, qi x2, qi x3, qi x4, qi x5, qi (m 9 (w32 (x4 + x5))), qn] [vi (w32 (x4 + x5)), vr 10] 54 m) (fun _ => rfl) (Sim.shift 1 (G := fun n => if 0 ≤ w32 (x4 + x5) ∧ w32 (x4 + x5) < 96 then R n 13 60 [qr 0, qi x1, qi x2, qi x3, qi x4, qi x5, qi (m 9 (w32 (x4 + x5))), qn] [vi (m 10 (w32 (x4 + x5)))] 54 m else none) (fun _ => rfl) (Sim.grd fun _ => Sim.shift 4 (G := fun n => if m 9 (w32 (x4 + x5)) = 10 then R n 13 76 [qr 0, qi x1, qi x2, qi x3, qi x4, qi x5, qi (m 9 (w32 (x4 + x5))), qi (m 10 (w32 (x4 + x5)))] [] 54 m else R n 13 69 [qr 0, qi x1, qi x2, qi x3, qi x4, qi x5, qi (m 9 (w32 (x4 + x5))), qi (m 10 (w32 (x4 + x5)))] [] 54 m) (fun _ => rfl) (Sim.ite (fun _ => f_placeFunction_b76_ok x1 x2 x3 x4 x5 (m 9 (w32 (x4 + x5))) (m 10 (w32 (x4 + x5))) m) (fun _ => Sim.shift 3 (G := fun n => if m 9 (w32 (x4 + x5)) = 11 then R n 13 76 [qr 0, qi x1, qi x2, qi x3, qi x4, qi x5, qi (m 9 (w32 (x4 + x5))), qi (m 10 (w32 (x4 + x5)))] [] 54 m else R n 13 82 [qr 0, qi x1, qi x2, qi x3, qi x4, qi x5, qi (m 9 (w32 (x4 + x5))), qi (m 10 (w32 (x4 + x5)))] [] 54 m) (fun _ => rfl) (Sim.ite (fun _ => f_placeFunction_b76_ok x1 x2 x3 x4 x5 (m 9 (w32 (x4 + x5))) (m 10 (w32 (x4 + x5))) m) (fun _ => f_placeFunction_b82_ok x1 x2 x3 x4 x5 (m 9 (w32 (x4 + x5))) (m 10 (w32 (x4 + x5))) m)))))))) (fun _ => Sim.leaf rfl (fun _ => rfl)))
def f_placeFunction_l113_H (x1 x2 : Int) : Int × OMem → Nat → RT := fun (x5, m) n => R n 13 113 [qr 0, qi x1, qi x2, qn, qn, qi x5, qn, qn] [] 54 m
def f_placeFunction_l113_X (x1 x2 : Int) : (OMem) → Nat → RT := fun e n => match e with | w => R n 13 150 [qn, qn, qn, qn, qn, qn, qn, qn] [] 54 w
def f_placeFunction_l113 (x1 x2 : Int) : Int × OMem → Option ((Int × OMem) ⊕ ((OMem))) := fun (x5, m) => if 0 ≤ x1 ∧ x1 < 16 then (if x5 < m 22 x1 then (if 0 ≤ w32 (x2 + x5) ∧ w32 (x2 + x5) < 640 then (if 0 ≤ w32 (x2 + x5) ∧ w32 (x2 + x5) < 640 then (some (.inl (w32 (x5 + 1), sto (sto m 19 (w32 (x2 + x5)) 0) 20 (w32 (x2 + x5)) 0))) else none) else none) else (some (.inr m))) else none
set_option maxRecDepth 65536 in
set_option maxHeartbeats 16000000 in
theorem f_placeFunction_l113_ok (x1 x2 : Int) (x5 : Int) (m : OMem) : Sim (f_placeFunction_l113 x1 x2 (x5, m)) (Sum.elim (f_placeFunction_l113_H x1 x2 ) (f_placeFunction_l113_X x1 x2 )) (f_placeFunction_l113_H x1 x2 (x5, m)) :=
  Sim.shift 5 (G := fun n => if 0 ≤ x1 ∧ x1 < 16 then R n 13 121 [qr 0, qi x1, qi x2, qn, qn, qi x5, qn, qn] [vi (m 22 x1), vi x5] 54 m else none) (fun _ => rfl) (Sim.grd fun _ => Sim.shift 1 (G := fun n => if x5 < m 22 x1 then R n 13 124 [qr 0, qi x1, qi x2, qn, qn, qi x5, qn, qn] [] 54 m else R n 13 150 [qr 0, qi x1, qi x2, qn, qn, qi x5, qn, qn] [] 54 m) (fun _ => rfl) (Sim.ite (fun _ => Sim.shift 7 (G := fun n => if 0 ≤ w32 (x2 + x5) ∧ w32 (x2 + x5) < 640 then R n 13 134 [qr 0, qi x1, qi x2, qn, qn, qi x5, qn, qn] [] 54 (sto m 19 (w32 (x2 + x5)) 0) else none) (fun _ => rfl) (Sim.grd fun _ => Sim.shift 7 (G := fun n => if 0 ≤ w32 (x2 + x5) ∧ w32 (x2 + x5) < 640 then R n 13 144 [qr 0, qi x1, qi x2, qn, qn, qi x5, qn, qn] [] 54 (sto (sto m 19 (w32 (x2 + x5)) 0) 20 (w32 (x2 + x5)) 0) else none) (fun _ => rfl) (Sim.grd fun _ => Sim.shift 2 (G := fun n => R n 13 113 [qr 0, qi x1, qi x2, qn, qn, qi (w32 (x5 + 1)), qn, qn] [] 54 (sto (sto m 19 (w32 (x2 + x5)) 0) 20 (w32 (x2 + x5)) 0)) (fun _ => rfl) (Sim.pur _ _)))) (fun _ => Sim.leaf rfl (fun _ => rfl))))
def f_placeFunction (x1 : Int) (m : OMem) : Option (OMem) := if 0 ≤ x1 ∧ x1 < 16 then (if 0 ≤ x1 ∧ x1 < 16 then (if 0 ≤ x1 ∧ x1 < 16 then ((lp (f_placeFunction_l32 x1 (m 21 x1) (m 7 x1) (w32 ((w32 ((div32 x1 4) * 24)) + (m 8 x1)))) NN (0, m)).bind fun m_12 => ((lp (f_placeFunction_l113 x1 (m 21 x1)) NN (m 7 x1, m_12)).bind fun m_13 => (some m_13))) else none) else none) else none
set_option maxRecDepth 65536 in
set_option maxHeartbeats 16000000 in
theorem f_placeFunction_ok (x1 : Int) (m : OMem) : Sim (f_placeFunction x1 m) (fun w0 _ => some (none, 54, w0)) (fun n => R n 13 0 [qr 0, qi x1, qn, qn, qn, qn, qn, qn] [] 54 m) :=
  Sim.shift 4 (G := fun n => if 0 ≤ x1 ∧ x1 < 16 then R n 13 6 [qr 0, qi x1, qn, qn, qn, qn, qn, qn] [vi (m 21 x1)] 54 m else none) (fun _ => rfl) (Sim.grd fun _ => Sim.shift 5 (G := fun n => if 0 ≤ x1 ∧ x1 < 16 then R n 13 13 [qr 0, qi x1, qi (m 21 x1), qn, qn, qn, qn, qn] [vi (m 7 x1)] 54 m else none) (fun _ => rfl) (Sim.grd fun _ => Sim.shift 5 (G := fun n => R n 13 19 [qr 0, qi x1, qi (m 21 x1), qi (m 7 x1), qn, qn, qn, qn] [vi 24, vi (div32 x1 4)] 54 m) (fun _ => rfl) (Sim.shift 5 (G := fun n => if 0 ≤ x1 ∧ x1 < 16 then R n 13 26 [qr 0, qi x1, qi (m 21 x1), qi (m 7 x1), qn, qn, qn, qn] [vi (m 8 x1), vi (w32 ((div32 x1 4) * 24))] 54 m else none) (fun _ => rfl) (Sim.grd fun _ => Sim.shift 4 (G := fun n => R n 13 32 [qr 0, qi x1, qi (m 21 x1), qi (m 7 x1), qi (w32 ((w32 ((div32 x1 4) * 24)) + (m 8 x1))), qi 0, qn, qn] [] 54 m) (fun _ => rfl) (Sim.bind (Sim.lp (fun ⟨x5L, mL⟩ => f_placeFunction_l32_ok x1 (m 21 x1) (m 7 x1) (w32 ((w32 ((div32 x1 4) * 24)) + (m 8 x1))) x5L mL) NN (0, m)) (fun m_12 => Sim.shift 2 (G := fun n => R n 13 113 [qr 0, qi x1, qi (m 21 x1), qi (m 7 x1), qn, qi (m 7 x1), qn, qn] [] 54 m_12) (fun _ => rfl) (Sim.jmp (Sim.bind (Sim.lp (fun ⟨x5L, mL⟩ => f_placeFunction_l113_ok x1 (m 21 x1) x5L mL) NN (m 7 x1, m_12)) (fun m_13 => Sim.shift 1 (G := (fun _ => some (none, 54, m_13))) (fun _ => rfl) (Sim.pur _ _))) rfl (fun _ => rfl))))))))
def f_publishThunks_l2_H (x1 : Int) : Int × OMem → Nat → RT := fun (x2, m) n => R n 14 2 [qr 0, qi x1, qi x2, qn] [] 54 m
def f_publishThunks_l2_X (x1 : Int) : (OMem) → Nat → RT := fun e n => match e with | w => R n 14 36 [qn, qn, qn, qn] [] 54 w
def f_publishThunks_l2 (x1 : Int) : Int × OMem → Option ((Int × OMem) ⊕ ((OMem))) := fun (x2, m) => if 0 ≤ x1 ∧ x1 < 4 then (if x2 < m 5 x1 then (if 0 ≤ w32 ((w32 (x1 * 4)) + x2) ∧ w32 ((w32 (x1 * 4)) + x2) < 16 then (if 0 ≤ m 6 (w32 ((w32 (x1 * 4)) + x2)) ∧ m 6 (w32 ((w32 (x1 * 4)) + x2)) < 8 then (some (.inl (w32 (x2 + 1), sto m 23 (m 6 (w32 ((w32 (x1 * 4)) + x2))) (w32 ((w32 (x1 * 4)) + x2))))) else none) else none) else (some (.inr m))) else none
set_option maxRecDepth 65536 in
set_option maxHeartbeats 16000000 in
theorem f_publishThunks_l2_ok (x1 : Int) (x2 : Int) (m : OMem) : Sim (f_publishThunks_l2 x1 (x2, m)) (Sum.elim (f_publishThunks_l2_H x1 ) (f_publishThunks_l2_X x1 )) (f_publishThunks_l2_H x1 (x2, m)) :=
  Sim.shift 5 (G := fun n => if 0 ≤ x1 ∧ x1 < 4 then R n 14 9 [qr 0, qi x1, qi x2, qn] [vi (m 5 x1), vi x2] 54 m else none) (fun _ => rfl) (Sim.grd fun _ => Sim.shift 1 (G := fun n => if x2 < m 5 x1 then R n 14 12 [qr 0, qi x1, qi x2, qn] [] 54 m else R n 14 36 [qr 0, qi x1, qi x2, qn] [] 54 m) (fun _ => rfl) (Sim.ite (fun _ => Sim.shift 5 (G := fun n => R n 14 17 [qr 0, qi x1, qi x2, qn] [vi (w32 ((w32 (x1 * 4)) + x2))] 54 m) (fun _ => rfl) (Sim.shift 7 (G := fun n => if 0 ≤ w32 ((w32 (x1 * 4)) + x2) ∧ w32 ((w32 (x1 * 4)) + x2) < 16 then R n 14 28 [qr 0, qi x1, qi x2, qi (w32 ((w32 (x1 * 4)) + x2))] [vi (m 6 (w32 ((w32 (x1 * 4)) + x2))), vr 23] 54 m else none) (fun _ => rfl) (Sim.grd fun _ => Sim.shift 2 (G := fun n => if 0 ≤ m 6 (w32 ((w32 (x1 * 4)) + x2)) ∧ m 6 (w32 ((w32 (x1 * 4)) + x2)) < 8 then R n 14 30 [qr 0, qi x1, qi x2, qi (w32 ((w32 (x1 * 4)) + x2))] [] 54 (sto m 23 (m 6 (w32 ((w32 (x1 * 4)) + x2))) (w32 ((w32 (x1 * 4)) + x2))) else none) (fun _ => rfl) (Sim.grd fun _ => Sim.shift 2 (G := fun n => R n 14 2 [qr 0, qi x1, qi (w32 (x2 + 1)), qi (w32 ((w32 (x1 * 4)) + x2))] [] 54 (sto m 23 (m 6 (w32 ((w32 (x1 * 4)) + x2))) (w32 ((w32 (x1 * 4)) + x2)))) (fun _ => rfl) (Sim.leaf rfl (fun _ => rfl)))))) (fun _ => Sim.leaf rfl (fun _ => rfl))))
def f_publishThunks (x1 : Int) (m : OMem) : Option (OMem) := (lp (f_publishThunks_l2 x1) NN (0, m)).bind fun m_18 => (some m_18)
set_option maxRecDepth 65536 in
set_option maxHeartbeats 16000000 in
theorem f_publishThunks_ok (x1 : Int) (m : OMem) : Sim (f_publishThunks x1 m) (fun w0 _ => some (none, 54, w0)) (fun n => R n 14 0 [qr 0, qi x1, qn, qn] [] 54 m) :=
  Sim.shift 2 (G := fun n => R n 14 2 [qr 0, qi x1, qi 0, qn] [] 54 m) (fun _ => rfl) (Sim.bind (Sim.lp (fun ⟨x2L, mL⟩ => f_publishThunks_l2_ok x1 x2L mL) NN (0, m)) (fun m_18 => Sim.shift 1 (G := (fun _ => some (none, 54, m_18))) (fun _ => rfl) (Sim.pur _ _)))
def f_linkSlot_l2_H (x1 : Int) : Int × OMem → Nat → RT := fun (x2, m) n => R n 12 2 [qr 0, qi x1, qi x2, qn, qn] [] 54 m
def f_linkSlot_l2_X (x1 : Int) : (OMem) ⊕ (OMem) → Nat → RT := fun e n => match e with | (.inl w) => R n 12 111 [qr 0, qn, qn, qn, qn] [] 54 w | (.inr w) => R n 12 122 [qr 0, qi x1, qn, qn, qn] [] 54 w
def f_linkSlot_b116 (x1 x2 : Int) (m : OMem) : Option ((Int × OMem) ⊕ ((OMem) ⊕ (OMem))) := some (.inl (w32 (x2 + 1), m))
set_option maxRecDepth 65536 in
set_option maxHeartbeats 16000000 in
theorem f_linkSlot_b116_ok (x1 x2 : Int) (m : OMem) : Sim (f_linkSlot_b116 x1 x2 m) (Sum.elim (f_linkSlot_l2_H x1 ) (f_linkSlot_l2_X x1 )) (fun n => R n 12 116 [qr 0, qi x1, qi x2, qn, qn] [] 54 m) :=
  Sim.shift 2 (G := fun n => R n 12 2 [qr 0, qi x1, qi (w32 (x2 + 1)), qn, qn] [] 54 m) (fun _ => rfl) (Sim.pur _ _)
def f_linkSlot_l2 (x1 : Int) : Int × OMem → Option ((Int × OMem) ⊕ ((OMem) ⊕ (OMem))) := fun (x2, m) => if 0 ≤ x1 ∧ x1 < 4 then (if x2 < m 5 x1 then (if 0 ≤ w32 ((w32 (x1 * 4)) + x2) ∧ w32 ((w32 (x1 * 4)) + x2) < 16 then (if 0 ≤ w32 ((w32 (x1 * 4)) + x2) ∧ w32 ((w32 (x1 * 4)) + x2) < 16 then (if m 22 (w32 ((w32 (x1 * 4)) + x2)) < m 7 (w32 ((w32 (x1 * 4)) + x2)) then (if m 0 18 < w32 ((w32 ((m 0 35) + (m 7 (w32 ((w32 (x1 * 4)) + x2))))) + (m 0 29)) then (some (.inr (.inl m))) else (if 0 ≤ w32 ((w32 (x1 * 4)) + x2) ∧ w32 ((w32 (x1 * 4)) + x2) < 16 then (if 0 ≤ w32 ((w32 (x1 * 4)) + x2) ∧ w32 ((w32 (x1 * 4)) + x2) < 16 then ((f_placeFunction (w32 ((w32 (x1 * 4)) + x2)) (sto (sto (sto m 21 (w32 ((w32 (x1 * 4)) + x2)) (m 0 35)) 22 (w32 ((w32 (x1 * 4)) + x2)) (w32 ((m 7 (w32 ((w32 (x1 * 4)) + x2))) + (m 0 29)))) 0 35 (w32 ((m 0 35) + (w32 ((m 7 (w32 ((w32 (x1 * 4)) + x2))) + (m 0 29))))))).bind fun m_14 => (f_linkSlot_b116 x1 x2 m_14)) else none) else none)) else ((f_placeFunction (w32 ((w32 (x1 * 4)) + x2)) m).bind fun m_15 => (f_linkSlot_b116 x1 x2 m_15))) else none) else none) else (some (.inr (.inr m)))) else none
set_option maxRecDepth 65536 in
set_option maxHeartbeats 16000000 in
theorem f_linkSlot_l2_ok (x1 : Int) (x2 : Int) (m : OMem) : Sim (f_linkSlot_l2 x1 (x2, m)) (Sum.elim (f_linkSlot_l2_H x1 ) (f_linkSlot_l2_X x1 )) (f_linkSlot_l2_H x1 (x2, m)) :=
  Sim.shift 5 (G := fun n => if 0 ≤ x1 ∧ x1 < 4 then R n 12 9 [qr 0, qi x1, qi x2, qn, qn] [vi (m 5 x1), vi x2] 54 m else none) (fun _ => rfl) (Sim.grd fun _ => Sim.shift 1 (G := fun n => if x2 < m 5 x1 then R n 12 12 [qr 0, qi x1, qi x2, qn, qn] [] 54 m else R n 12 122 [qr 0, qi x1, qi x2, qn, qn] [] 54 m) (fun _ => rfl) (Sim.ite (fun _ => Sim.shift 5 (G := fun n => R n 12 17 [qr 0, qi x1, qi x2, qn, qn] [vi (w32 ((w32 (x1 * 4)) + x2))] 54 m) (fun _ => rfl) (Sim.shift 5 (G := fun n => if 0 ≤ w32 ((w32 (x1 * 4)) + x2) ∧ w32 ((w32 (x1 * 4)) + x2) < 16 then R n 12 24 [qr 0, qi x1, qi x2, qi (w32 ((w32 (x1 * 4)) + x2)), qn] [vi (m 7 (w32 ((w32 (x1 * 4)) + x2)))] 54 m else none) (fun _ => rfl) (Sim.grd fun _ => Sim.shift 5 (G := fun n => if 0 ≤ w32 ((w32 (x1 * 4)) + x2) ∧ w32 ((w32 (x1 * 4)) + x2) < 16 then R n 12 32 [qr 0, qi x1, qi x2, qi (w32 ((w32 (x1 * 4)) + x2)), qi (m 7 (w32 ((w32 (x1 * 4)) + x2)))] [vi (m 22 (w32 ((w32 (x1 * 4)) + x2)))] 54 m else none) (fun _ => rfl) (Sim.grd fun _ => Sim.shift 2 (G := fun n => if m 22 (w32 ((w32 (x1 * 4)) + x2)) < m 7 (w32 ((w32 (x1 * 4)) + x2)) then R n 12 45 [qr 0, qi x1, qi x2, qi (w32 ((w32 (x1 * 4)) + x2)), qi (m 7 (w32 ((w32 (x1 * 4)) + x2)))] [] 54 m else R n 12 37 [qr 0, qi x1, qi x2, qi (w32 ((w32 (x1 * 4)) + x2)), qi (m 7 (w32 ((w32 (x1 * 4)) + x2)))] [] 54 m) (fun _ => rfl) (Sim.ite (fun _ => Sim.shift 7 (G := fun n => R n 12 57 [qr 0, qi x1, qi x2, qi (w32 ((w32 (x1 * 4)) + x2)), qi (m 7 (w32 ((w32 (x1 * 4)) + x2)))] [vi (w32 ((w32 ((m 0 35) + (m 7 (w32 ((w32 (x1 * 4)) + x2))))) + (m 0 29)))] 54 m) (fun _ => rfl) (Sim.shift 3 (G := fun n => if m 0 18 < w32 ((w32 ((m 0 35) + (m 7 (w32 ((w32 (x1 * 4)) + x2))))) + (m 0 29)) then R n 12 111 [qr 0, qi x1, qi x2, qi (w32 ((w32 (x1 * 4)) + x2)), qi (m 7 (w32 ((w32 (x1 * 4)) + x2)))] [] 54 m else R n 12 64 [qr 0, qi x1, qi x2, qi (w32 ((w32 (x1 * 4)) + x2)), qi (m 7 (w32 ((w32 (x1 * 4)) + x2)))] [] 54 m) (fun _ => rfl) (Sim.ite (fun _ => Sim.leaf rfl (fun _ => rfl)) (fun _ => Sim.shift 6 (G := fun n => if 0 ≤ w32 ((w32 (x1 * 4)) + x2) ∧ w32 ((w32 (x1 * 4)) + x2) < 16 then R n 12 74 [qr 0, qi x1, qi x2, qi (w32 ((w32 (x1 * 4)) + x2)), qi (m 7 (w32 ((w32 (x1 * 4)) + x2)))] [] 54 (sto m 21 (w32 ((w32 (x1 * 4)) + x2)) (m 0 35)) else none) (fun _ => rfl) (Sim.grd fun _ => Sim.shift 8 (G := fun n => if 0 ≤ w32 ((w32 (x1 * 4)) + x2) ∧ w32 ((w32 (x1 * 4)) + x2) < 16 then R n 12 87 [qr 0, qi x1, qi x2, qi (w32 ((w32 (x1 * 4)) + x2)), qi (m 7 (w32 ((w32 (x1 * 4)) + x2)))] [] 54 (sto (sto m 21 (w32 ((w32 (x1 * 4)) + x2)) (m 0 35)) 22 (w32 ((w32 (x1 * 4)) + x2)) (w32 ((m 7 (w32 ((w32 (x1 * 4)) + x2))) + (m 0 29)))) else none) (fun _ => rfl) (Sim.grd fun _ => Sim.shift 8 (G := fun n => R n 12 100 [qr 0, qi x1, qi x2, qi (w32 ((w32 (x1 * 4)) + x2)), qi (m 7 (w32 ((w32 (x1 * 4)) + x2)))] [vi (w32 ((m 0 35) + (w32 ((m 7 (w32 ((w32 (x1 * 4)) + x2))) + (m 0 29))))), vr 0] 54 (sto (sto m 21 (w32 ((w32 (x1 * 4)) + x2)) (m 0 35)) 22 (w32 ((w32 (x1 * 4)) + x2)) (w32 ((m 7 (w32 ((w32 (x1 * 4)) + x2))) + (m 0 29))))) (fun _ => rfl) (Sim.shift 4 (G := fun n => (R n 13 0 [qr 0, qi (w32 ((w32 (x1 * 4)) + x2)), qn, qn, qn, qn, qn, qn] [] 54 (sto (sto (sto m 21 (w32 ((w32 (x1 * 4)) + x2)) (m 0 35)) 22 (w32 ((w32 (x1 * 4)) + x2)) (w32 ((m 7 (w32 ((w32 (x1 * 4)) + x2))) + (m 0 29)))) 0 35 (w32 ((m 0 35) + (w32 ((m 7 (w32 ((w32 (x1 * 4)) + x2))) + (m 0 29))))))).bind fun y => Rr n 12 108 [qr 0, qi x1, qi x2, qi (w32 ((w32 (x1 * 4)) + x2)), qi (m 7 (w32 ((w32 (x1 * 4)) + x2)))] [] y) (fun _ => rfl) (Sim.call (f_placeFunction_ok (w32 ((w32 (x1 * 4)) + x2)) (sto (sto (sto m 21 (w32 ((w32 (x1 * 4)) + x2)) (m 0 35)) 22 (w32 ((w32 (x1 * 4)) + x2)) (w32 ((m 7 (w32 ((w32 (x1 * 4)) + x2))) + (m 0 29)))) 0 35 (w32 ((m 0 35) + (w32 ((m 7 (w32 ((w32 (x1 * 4)) + x2))) + (m 0 29))))))) (fun _ _ => rfl) (runP_mono _ _ _ _ _ _) (fun _ => runP_mono _ _ _ _ _ _) (fun m_14 => Sim.shift 0 (G := fun n => R n 12 108 [qr 0, qi x1, qi x2, qi (w32 ((w32 (x1 * 4)) + x2)), qi (m 7 (w32 ((w32 (x1 * 4)) + x2)))] [] 54 m_14) (fun _ => rfl) (Sim.shift 1 (G := fun n => R n 12 116 [qr 0, qi x1, qi x2, qi (w32 ((w32 (x1 * 4)) + x2)), qi (m 7 (w32 ((w32 (x1 * 4)) + x2)))] [] 54 m_14) (fun _ => rfl) (Sim.jmp (f_linkSlot_b116_ok x1 x2 m_14) rfl (fun _ => rfl)))))))))))) (fun _ => Sim.shift 3 (G := fun n => (R n 13 0 [qr 0, qi (w32 ((w32 (x1 * 4)) + x2)), qn, qn, qn, qn, qn, qn] [] 54 m).bind fun y => Rr n 12 42 [qr 0, qi x1, qi x2, qi (w32 ((w32 (x1 * 4)) + x2)), qn] [] y) (fun _ => rfl) (Sim.call (f_placeFunction_ok (w32 ((w32 (x1 * 4)) + x2)) m) (fun _ _ => rfl) (runP_mono _ _ _ _ _ _) (fun _ => runP_mono _ _ _ _ _ _) (fun m_15 => Sim.shift 0 (G := fun n => R n 12 42 [qr 0, qi x1, qi x2, qi (w32 ((w32 (x1 * 4)) + x2)), qn] [] 54 m_15) (fun _ => rfl) (Sim.shift 1 (G := fun n => R n 12 116 [qr 0, qi x1, qi x2, qi (w32 ((w32 (x1 * 4)) + x2)), qn] [] 54 m_15) (fun _ => rfl) (Sim.jmp (f_linkSlot_b116_ok x1 x2 m_15) rfl (fun _ => rfl))))))))))) (fun _ => Sim.leaf rfl (fun _ => rfl))))
def f_linkSlot (x1 : Int) (m : OMem) : Option (OMem) := (lp (f_linkSlot_l2 x1) NN (0, m)).bind fun e => match e with | (.inl m_16) => (none) | (.inr m_17) => ((f_publishThunks x1 m_17).bind fun m_19 => (some m_19))
set_option maxRecDepth 65536 in
set_option maxHeartbeats 16000000 in
theorem f_linkSlot_ok (x1 : Int) (m : OMem) : Sim (f_linkSlot x1 m) (fun w0 _ => some (none, 54, w0)) (fun n => R n 12 0 [qr 0, qi x1, qn, qn, qn] [] 54 m) :=
  Sim.shift 2 (G := fun n => R n 12 2 [qr 0, qi x1, qi 0, qn, qn] [] 54 m) (fun _ => rfl) (Sim.bind (Sim.lp (fun ⟨x2L, mL⟩ => f_linkSlot_l2_ok x1 x2L mL) NN (0, m)) (fun e => match e with | (.inl m_16) => Sim.non | (.inr m_17) => Sim.shift 3 (G := fun n => (R n 14 0 [qr 0, qi x1, qn, qn] [] 54 m_17).bind fun y => Rr n 12 127 [qr 0, qi x1, qn, qn, qn] [] y) (fun _ => rfl) (Sim.call (f_publishThunks_ok x1 m_17) (fun _ _ => rfl) (runP_mono _ _ _ _ _ _) (fun _ => runP_mono _ _ _ _ _ _) (fun m_19 => Sim.shift 0 (G := fun n => R n 12 127 [qr 0, qi x1, qn, qn, qn] [] 54 m_19) (fun _ => rfl) (Sim.shift 1 (G := (fun _ => some (none, 54, m_19))) (fun _ => rfl) (Sim.pur _ _))))))
def f_commit (m : OMem) : Option (Int × OMem) := if m 0 30 = 0 then (some (1, m)) else ((f_hasBadJump m).bind fun r_3 => (if r_3 = 0 then ((f_hasBadData m).bind fun r_4 => (if r_4 = 0 then ((f_hasDuplicate m).bind fun r_5 => (if r_5 = 0 then ((f_installBuffer m).bind fun m_11 => ((f_linkSlot (m_11 0 31) m_11).bind fun m_20 => (some (0, sto m_20 0 30 0)))) else (some (4, m)))) else (some (3, m)))) else (some (2, m))))
set_option maxRecDepth 65536 in
set_option maxHeartbeats 16000000 in
theorem f_commit_ok (m : OMem) : Sim (f_commit m) (fun (r, w0) _ => some (some (vi r), 54, w0)) (fun n => R n 6 0 [qr 0] [] 54 m) :=
  Sim.shift 3 (G := fun n => if m 0 30 = 0 then R n 6 7 [qr 0] [] 54 m else R n 6 9 [qr 0] [] 54 m) (fun _ => rfl) (Sim.ite (fun _ => Sim.shift 2 (G := (fun _ => some (some (vi 1), 54, m))) (fun _ => rfl) (Sim.pur _ _)) (fun _ => Sim.shift 2 (G := fun n => (R n 7 0 [qr 0, qn, qn, qn, qn, qn] [] 54 m).bind fun y => Rr n 6 13 [qr 0] [] y) (fun _ => rfl) (Sim.call (f_hasBadJump_ok m) (fun _ _ => rfl) (runP_mono _ _ _ _ _ _) (fun _ => runP_mono _ _ _ _ _ _) (fun r_3 => Sim.shift 0 (G := fun n => R n 6 13 [qr 0] [vi r_3] 54 m) (fun _ => rfl) (Sim.shift 1 (G := fun n => if r_3 = 0 then R n 6 18 [qr 0] [] 54 m else R n 6 16 [qr 0] [] 54 m) (fun _ => rfl) (Sim.ite (fun _ => Sim.shift 2 (G := fun n => (R n 8 0 [qr 0, qn, qn] [] 54 m).bind fun y => Rr n 6 22 [qr 0] [] y) (fun _ => rfl) (Sim.call (f_hasBadData_ok m) (fun _ _ => rfl) (runP_mono _ _ _ _ _ _) (fun _ => runP_mono _ _ _ _ _ _) (fun r_4 => Sim.shift 0 (G := fun n => R n 6 22 [qr 0] [vi r_4] 54 m) (fun _ => rfl) (Sim.shift 1 (G := fun n => if r_4 = 0 then R n 6 27 [qr 0] [] 54 m else R n 6 25 [qr 0] [] 54 m) (fun _ => rfl) (Sim.ite (fun _ => Sim.shift 2 (G := fun n => (R n 9 0 [qr 0, qn, qn] [] 54 m).bind fun y => Rr n 6 31 [qr 0] [] y) (fun _ => rfl) (Sim.call (f_hasDuplicate_ok m) (fun _ _ => rfl) (runP_mono _ _ _ _ _ _) (fun _ => runP_mono _ _ _ _ _ _) (fun r_5 => Sim.shift 0 (G := fun n => R n 6 31 [qr 0] [vi r_5] 54 m) (fun _ => rfl) (Sim.shift 1 (G := fun n => if r_5 = 0 then R n 6 36 [qr 0] [] 54 m else R n 6 34 [qr 0] [] 54 m) (fun _ => rfl) (Sim.ite (fun _ => Sim.shift 2 (G := fun n => (R n 10 0 [qr 0, qn, qn, qn] [] 54 m).bind fun y => Rr n 6 40 [qr 0] [] y) (fun _ => rfl) (Sim.call (f_installBuffer_ok m) (fun _ _ => rfl) (runP_mono _ _ _ _ _ _) (fun _ => runP_mono _ _ _ _ _ _) (fun m_11 => Sim.shift 0 (G := fun n => R n 6 40 [qr 0] [] 54 m_11) (fun _ => rfl) (Sim.shift 4 (G := fun n => (R n 12 0 [qr 0, qi (m_11 0 31), qn, qn, qn] [] 54 m_11).bind fun y => Rr n 6 48 [qr 0] [] y) (fun _ => rfl) (Sim.call (f_linkSlot_ok (m_11 0 31) m_11) (fun _ _ => rfl) (runP_mono _ _ _ _ _ _) (fun _ => runP_mono _ _ _ _ _ _) (fun m_20 => Sim.shift 0 (G := fun n => R n 6 48 [qr 0] [] 54 m_20) (fun _ => rfl) (Sim.shift 5 (G := (fun _ => some (some (vi 0), 54, sto m_20 0 30 0))) (fun _ => rfl) (Sim.pur _ _)))))))) (fun _ => Sim.shift 2 (G := (fun _ => some (some (vi 4), 54, m))) (fun _ => rfl) (Sim.pur _ _))))))) (fun _ => Sim.shift 2 (G := (fun _ => some (some (vi 3), 54, m))) (fun _ => rfl) (Sim.pur _ _))))))) (fun _ => Sim.shift 2 (G := (fun _ => some (some (vi 2), 54, m))) (fun _ => rfl) (Sim.pur _ _))))))))
def f_codeSize_b21 (m : OMem) : Option (Int) := some (-1)
set_option maxRecDepth 65536 in
set_option maxHeartbeats 16000000 in
theorem f_codeSize_b21_ok (m : OMem) : Sim (f_codeSize_b21 m) (fun r _ => some (some (vi r), 54, m)) (fun n => R n 15 21 [qn, qn] [] 54 m) :=
  Sim.shift 2 (G := (fun _ => some (some (vi (-1)), 54, m))) (fun _ => rfl) (Sim.pur _ _)
def f_codeSize (x1 : Int) (m : OMem) : Option (Int) := if x1 < 0 then (f_codeSize_b21 m) else (if x1 < m 0 28 then (if 0 ≤ x1 ∧ x1 < 4 then (if m 1 x1 = 0 then (f_codeSize_b21 m) else (if 0 ≤ x1 ∧ x1 < 4 then (some (m 11 x1)) else none)) else none) else (f_codeSize_b21 m))
set_option maxRecDepth 65536 in
set_option maxHeartbeats 16000000 in
theorem f_codeSize_ok (x1 : Int) (m : OMem) : Sim (f_codeSize x1 m) (fun r _ => some (some (vi r), 54, m)) (fun n => R n 15 0 [qr 0, qi x1] [] 54 m) :=
  Sim.shift 2 (G := fun n => if x1 < 0 then R n 15 21 [qr 0, qi x1] [] 54 m else R n 15 4 [qr 0, qi x1] [] 54 m) (fun _ => rfl) (Sim.ite (fun _ => Sim.jmp (f_codeSize_b21_ok m) rfl (fun _ => rfl)) (fun _ => Sim.shift 4 (G := fun n => if x1 < m 0 28 then R n 15 12 [qr 0, qi x1] [] 54 m else R n 15 21 [qr 0, qi x1] [] 54 m) (fun _ => rfl) (Sim.ite (fun _ => Sim.shift 4 (G := fun n => if 0 ≤ x1 ∧ x1 < 4 then R n 15 18 [qr 0, qi x1] [vi (m 1 x1)] 54 m else none) (fun _ => rfl) (Sim.grd fun _ => Sim.shift 1 (G := fun n => if m 1 x1 = 0 then R n 15 21 [qr 0, qi x1] [] 54 m else R n 15 23 [qr 0, qi x1] [] 54 m) (fun _ => rfl) (Sim.ite (fun _ => Sim.jmp (f_codeSize_b21_ok m) rfl (fun _ => rfl)) (fun _ => Sim.shift 4 (G := fun n => if 0 ≤ x1 ∧ x1 < 4 then R n 15 29 [qr 0, qi x1] [vi (m 11 x1)] 54 m else none) (fun _ => rfl) (Sim.grd fun _ => Sim.shift 1 (G := (fun _ => some (some (vi (m 11 x1)), 54, m))) (fun _ => rfl) (Sim.pur _ _)))))) (fun _ => Sim.jmp (f_codeSize_b21_ok m) rfl (fun _ => rfl)))))
def f_definedIn_b10 (m : OMem) : Option (Int) := some (-1)
set_option maxRecDepth 65536 in
set_option maxHeartbeats 16000000 in
theorem f_definedIn_b10_ok (m : OMem) : Sim (f_definedIn_b10 m) (fun r _ => some (some (vi r), 54, m)) (fun n => R n 16 10 [qn, qn] [] 54 m) :=
  Sim.shift 2 (G := (fun _ => some (some (vi (-1)), 54, m))) (fun _ => rfl) (Sim.pur _ _)
def f_definedIn (x1 : Int) (m : OMem) : Option (Int) := if x1 < 0 then (f_definedIn_b10 m) else (if 7 < x1 then (f_definedIn_b10 m) else (if 0 ≤ x1 ∧ x1 < 8 then (some (m 12 x1)) else none))
set_option maxRecDepth 65536 in
set_option maxHeartbeats 16000000 in
theorem f_definedIn_ok (x1 : Int) (m : OMem) : Sim (f_definedIn x1 m) (fun r _ => some (some (vi r), 54, m)) (fun n => R n 16 0 [qr 0, qi x1] [] 54 m) :=
  Sim.shift 2 (G := fun n => if x1 < 0 then R n 16 10 [qr 0, qi x1] [] 54 m else R n 16 4 [qr 0, qi x1] [] 54 m) (fun _ => rfl) (Sim.ite (fun _ => Sim.jmp (f_definedIn_b10_ok m) rfl (fun _ => rfl)) (fun _ => Sim.shift 3 (G := fun n => if 7 < x1 then R n 16 10 [qr 0, qi x1] [] 54 m else R n 16 12 [qr 0, qi x1] [] 54 m) (fun _ => rfl) (Sim.ite (fun _ => Sim.jmp (f_definedIn_b10_ok m) rfl (fun _ => rfl)) (fun _ => Sim.shift 4 (G := fun n => if 0 ≤ x1 ∧ x1 < 8 then R n 16 18 [qr 0, qi x1] [vi (m 12 x1)] 54 m else none) (fun _ => rfl) (Sim.grd fun _ => Sim.shift 1 (G := (fun _ => some (some (vi (m 12 x1)), 54, m))) (fun _ => rfl) (Sim.pur _ _))))))
def lcd_0 : Nat → Option (Instr × Nat) := fun pc => cond (Nat.blt pc 368) (cond (Nat.blt pc 183) (cond (Nat.blt pc 88) (cond (Nat.blt pc 41) (cond (Nat.blt pc 21) (cond (Nat.blt pc 9) (cond (Nat.blt pc 4) (cond (Nat.blt pc 3) (cond (Nat.beq pc 0) (some (.new 7, 3)) none) (cond (Nat.beq pc 3) (some (.dup, 1)) none)) (cond (Nat.blt pc 5) (cond (Nat.beq pc 4) (some (.iload_n 0, 1)) none) (cond (Nat.blt pc 6) (cond (Nat.beq pc 5) (some (.iload_n 1, 1)) none) (cond (Nat.beq pc 6) (some (.invokespecial 9, 3)) none)))) (cond (Nat.blt pc 15) (cond (Nat.blt pc 11) (cond (Nat.beq pc 9) (some (.astore 5, 2)) none) (cond (Nat.blt pc 12) (cond (Nat.beq pc 11) (some (.iload_n 2, 1)) none) (cond (Nat.beq pc 12) (some (.ifCond .lt 13, 3)) none))) (cond (Nat.blt pc 16) (cond (Nat.beq pc 15) (some (.iload_n 2, 1)) none) (cond (Nat.blt pc 18) (cond (Nat.beq pc 16) (some (.bipush 7, 2)) none) (cond (Nat.beq pc 18) (some (.if_icmp .gt 7, 3)) none))))) (cond (Nat.blt pc 30) (cond (Nat.blt pc 26) (cond (Nat.blt pc 22) (cond (Nat.beq pc 21) (some (.iconst 1, 1)) none) (cond (Nat.blt pc 25) (cond (Nat.beq pc 22) (some (.goto 4, 3)) none) (cond (Nat.beq pc 25) (some (.iconst 0, 1)) none))) (cond (Nat.blt pc 28) (cond (Nat.beq pc 26) (some (.istore 6, 2)) none) (cond (Nat.blt pc 29) (cond (Nat.beq pc 28) (some (.iload_n 3, 1)) none) (cond (Nat.beq pc 29) (some (.iconst 2, 1)) none)))) (cond (Nat.blt pc 35) (cond (Nat.blt pc 33) (cond (Nat.beq pc 30) (some (.if_icmp .eq 14, 3)) none) (cond (Nat.blt pc 34) (cond (Nat.beq pc 33) (some (.iload_n 3, 1)) none) (cond (Nat.beq pc 34) (some (.iconst 3, 1)) none))) (cond (Nat.blt pc 38) (cond (Nat.beq pc 35) (some (.if_icmp .eq 9, 3)) none) (cond (Nat.blt pc 39) (cond (Nat.beq pc 38) (some (.iload_n 3, 1)) none) (cond (Nat.beq pc 39) (some (.bipush 12, 2)) none)))))) (cond (Nat.blt pc 66) (cond (Nat.blt pc 53) (cond (Nat.blt pc 46) (cond (Nat.blt pc 44) (cond (Nat.beq pc 41) (some (.if_icmp .ne 25, 3)) none) (cond (Nat.beq pc 44) (some (.iload 4, 2)) none)) (cond (Nat.blt pc 49) (cond (Nat.beq pc 46) (some (.ifCond .lt 14, 3)) none) (cond (Nat.blt pc 51) (cond (Nat.beq pc 49) (some (.iload 4, 2)) none) (cond (Nat.beq pc 51) (some (.bipush 7, 2)) none)))) (cond (Nat.blt pc 60) (cond (Nat.blt pc 56) (cond (Nat.beq pc 53) (some (.if_icmp .gt 7, 3)) none) (cond (Nat.blt pc 57) (cond (Nat.beq pc 56) (some (.iconst 1, 1)) none) (cond (Nat.beq pc 57) (some (.goto 4, 3)) none))) (cond (Nat.blt pc 61) (cond (Nat.beq pc 60) (some (.iconst 0, 1)) none) (cond (Nat.blt pc 63) (cond (Nat.beq pc 61) (some (.istore 7, 2)) none) (cond (Nat.beq pc 63) (some (.goto 71, 3)) none))))) (cond (Nat.blt pc 76) (cond (Nat.blt pc 71) (cond (Nat.blt pc 67) (cond (Nat.beq pc 66) (some (.iload_n 3, 1)) none) (cond (Nat.blt pc 68) (cond (Nat.beq pc 67) (some (.iconst 4, 1)) none) (cond (Nat.beq pc 68) (some (.if_icmp .eq 8, 3)) none))) (cond (Nat.blt pc 72) (cond (Nat.beq pc 71) (some (.iload_n 3, 1)) none) (cond (Nat.blt pc 73) (cond (Nat.beq pc 72) (some (.iconst 5, 1)) none) (cond (Nat.beq pc 73) (some (.if_icmp .ne 24, 3)) none)))) (cond (Nat.blt pc 83) (cond (Nat.blt pc 78) (cond (Nat.beq pc 76) (some (.iload 4, 2)) none) (cond (Nat.blt pc 81) (cond (Nat.beq pc 78) (some (.ifCond .lt 13, 3)) none) (cond (Nat.beq pc 81) (some (.iload 4, 2)) none))) (cond (Nat.blt pc 84) (cond (Nat.beq pc 83) (some (.iconst 3, 1)) none) (cond (Nat.blt pc 87) (cond (Nat.beq pc 84) (some (.if_icmp .gt 7, 3)) none) (cond (Nat.beq pc 87) (some (.iconst 1, 1)) none))))))) (cond (Nat.blt pc 136) (cond (Nat.blt pc 111) (cond (Nat.blt pc 98) (cond (Nat.blt pc 92) (cond (Nat.blt pc 91) (cond (Nat.beq pc 88) (some (.goto 4, 3)) none) (cond (Nat.beq pc 91) (some (.iconst 0, 1)) none)) (cond (Nat.blt pc 94) (cond (Nat.beq pc 92) (some (.istore 7, 2)) none) (cond (Nat.blt pc 97) (cond (Nat.beq pc 94) (some (.goto 40, 3)) none) (cond (Nat.beq pc 97) (some (.iload_n 3, 1)) none)))) (cond (Nat.blt pc 104) (cond (Nat.blt pc 100) (cond (Nat.beq pc 98) (some (.bipush 10, 2)) none) (cond (Nat.blt pc 103) (cond (Nat.beq pc 100) (some (.if_icmp .eq 9, 3)) none) (cond (Nat.beq pc 103) (some (.iload_n 3, 1)) none))) (cond (Nat.blt pc 106) (cond (Nat.beq pc 104) (some (.bipush 11, 2)) none) (cond (Nat.blt pc 109) (cond (Nat.beq pc 106) (some (.if_icmp .ne 25, 3)) none) (cond (Nat.beq pc 109) (some (.iload 4, 2)) none))))) (cond (Nat.blt pc 125) (cond (Nat.blt pc 118) (cond (Nat.blt pc 114) (cond (Nat.beq pc 111) (some (.ifCond .lt 14, 3)) none) (cond (Nat.blt pc 116) (cond (Nat.beq pc 114) (some (.iload 4, 2)) none) (cond (Nat.beq pc 116) (some (.bipush 23, 2)) none))) (cond (Nat.blt pc 121) (cond (Nat.beq pc 118) (some (.if_icmp .gt 7, 3)) none) (cond (Nat.blt pc 122) (cond (Nat.beq pc 121) (some (.iconst 1, 1)) none) (cond (Nat.beq pc 122) (some (.goto 4, 3)) none)))) (cond (Nat.blt pc 131) (cond (Nat.blt pc 126) (cond (Nat.beq pc 125) (some (.iconst 0, 1)) none) (cond (Nat.blt pc 128) (cond (Nat.beq pc 126) (some (.istore 7, 2)) none) (cond (Nat.beq pc 128) (some (.goto 6, 3)) none))) (cond (Nat.blt pc 132) (cond (Nat.beq pc 131) (some (.iconst 1, 1)) none) (cond (Nat.blt pc 134) (cond (Nat.beq pc 132) (some (.istore 7, 2)) none) (cond (Nat.beq pc 134) (some (.iload 6, 2)) none)))))) (cond (Nat.blt pc 160) (cond (Nat.blt pc 147) (cond (Nat.blt pc 141) (cond (Nat.blt pc 139) (cond (Nat.beq pc 136) (some (.ifCond .eq 23, 3)) none) (cond (Nat.blt pc 140) (cond (Nat.beq pc 139) (some (.iload_n 3, 1)) none) (cond (Nat.beq pc 140) (some (.iconst 1, 1)) none))) (cond (Nat.blt pc 144) (cond (Nat.beq pc 141) (some (.if_icmp .lt 18, 3)) none) (cond (Nat.blt pc 145) (cond (Nat.beq pc 144) (some (.iload_n 3, 1)) none) (cond (Nat.beq pc 145) (some (.bipush 15, 2)) none)))) (cond (Nat.blt pc 155) (cond (Nat.blt pc 150) (cond (Nat.beq pc 147) (some (.if_icmp .gt 12, 3)) none) (cond (Nat.blt pc 152) (cond (Nat.beq pc 150) (some (.iload 7, 2)) none) (cond (Nat.beq pc 152) (some (.ifCond .eq 7, 3)) none))) (cond (Nat.blt pc 156) (cond (Nat.beq pc 155) (some (.iconst 1, 1)) none) (cond (Nat.blt pc 159) (cond (Nat.beq pc 156) (some (.goto 4, 3)) none) (cond (Nat.beq pc 159) (some (.iconst 0, 1)) none))))) (cond (Nat.blt pc 172) (cond (Nat.blt pc 167) (cond (Nat.blt pc 162) (cond (Nat.beq pc 160) (some (.istore 8, 2)) none) (cond (Nat.blt pc 164) (cond (Nat.beq pc 162) (some (.iload 8, 2)) none) (cond (Nat.beq pc 164) (some (.ifCond .eq 7, 3)) none))) (cond (Nat.blt pc 168) (cond (Nat.beq pc 167) (some (.iconst 1, 1)) none) (cond (Nat.blt pc 171) (cond (Nat.beq pc 168) (some (.goto 4, 3)) none) (cond (Nat.beq pc 171) (some (.iconst 0, 1)) none)))) (cond (Nat.blt pc 177) (cond (Nat.blt pc 174) (cond (Nat.beq pc 172) (some (.istore 9, 2)) none) (cond (Nat.blt pc 175) (cond (Nat.beq pc 174) (some (.iconst 0, 1)) none) (cond (Nat.beq pc 175) (some (.istore 10, 2)) none))) (cond (Nat.blt pc 179) (cond (Nat.beq pc 177) (some (.iload 8, 2)) none) (cond (Nat.blt pc 182) (cond (Nat.beq pc 179) (some (.ifCond .eq 23, 3)) none) (cond (Nat.beq pc 182) (some (.iload_n 3, 1)) none)))))))) (cond (Nat.blt pc 273) (cond (Nat.blt pc 229) (cond (Nat.blt pc 207) (cond (Nat.blt pc 194) (cond (Nat.blt pc 188) (cond (Nat.blt pc 185) (cond (Nat.beq pc 183) (some (.bipush 10, 2)) none) (cond (Nat.beq pc 185) (some (.if_icmp .eq 9, 3)) none)) (cond (Nat.blt pc 189) (cond (Nat.beq pc 188) (some (.iload_n 3, 1)) none) (cond (Nat.blt pc 191) (cond (Nat.beq pc 189) (some (.bipush 11, 2)) none) (cond (Nat.beq pc 191) (some (.if_icmp .ne 11, 3)) none)))) (cond (Nat.blt pc 200) (cond (Nat.blt pc 196) (cond (Nat.beq pc 194) (some (.iload 4, 2)) none) (cond (Nat.blt pc 199) (cond (Nat.beq pc 196) (some (.ifCond .eq 6, 3)) none) (cond (Nat.beq pc 199) (some (.iconst 2, 1)) none))) (cond (Nat.blt pc 202) (cond (Nat.beq pc 200) (some (.istore 10, 2)) none) (cond (Nat.blt pc 204) (cond (Nat.beq pc 202) (some (.iload 8, 2)) none) (cond (Nat.beq pc 204) (some (.ifCond .eq 16, 3)) none))))) (cond (Nat.blt pc 217) (cond (Nat.blt pc 212) (cond (Nat.blt pc 208) (cond (Nat.beq pc 207) (some (.iload_n 3, 1)) none) (cond (Nat.blt pc 209) (cond (Nat.beq pc 208) (some (.iconst 4, 1)) none) (cond (Nat.beq pc 209) (some (.if_icmp .eq 8, 3)) none))) (cond (Nat.blt pc 213) (cond (Nat.beq pc 212) (some (.iload_n 3, 1)) none) (cond (Nat.blt pc 214) (cond (Nat.beq pc 213) (some (.iconst 5, 1)) none) (cond (Nat.beq pc 214) (some (.if_icmp .ne 6, 3)) none)))) (cond (Nat.blt pc 222) (cond (Nat.blt pc 218) (cond (Nat.beq pc 217) (some (.iconst 3, 1)) none) (cond (Nat.blt pc 220) (cond (Nat.beq pc 218) (some (.istore 10, 2)) none) (cond (Nat.beq pc 220) (some (.iload 10, 2)) none))) (cond (Nat.blt pc 225) (cond (Nat.beq pc 222) (some (.ifCond .ne 7, 3)) none) (cond (Nat.blt pc 226) (cond (Nat.beq pc 225) (some (.iconst 1, 1)) none) (cond (Nat.beq pc 226) (some (.goto 4, 3)) none)))))) (cond (Nat.blt pc 251) (cond (Nat.blt pc 241) (cond (Nat.blt pc 234) (cond (Nat.blt pc 230) (cond (Nat.beq pc 229) (some (.iconst 0, 1)) none) (cond (Nat.blt pc 232) (cond (Nat.beq pc 230) (some (.istore 11, 2)) none) (cond (Nat.beq pc 232) (some (.aload 5, 2)) none))) (cond (Nat.blt pc 235) (cond (Nat.beq pc 234) (some (.iconst 0, 1)) none) (cond (Nat.blt pc 238) (cond (Nat.beq pc 235) (some (.invokevirtual 12, 3)) none) (cond (Nat.beq pc 238) (some (.ifCond .ne 5, 3)) none)))) (cond (Nat.blt pc 245) (cond (Nat.blt pc 242) (cond (Nat.beq pc 241) (some (.iconst 0, 1)) none) (cond (Nat.blt pc 243) (cond (Nat.beq pc 242) (some (.ireturn, 1)) none) (cond (Nat.beq pc 243) (some (.aload 5, 2)) none))) (cond (Nat.blt pc 246) (cond (Nat.beq pc 245) (some (.iload_n 2, 1)) none) (cond (Nat.blt pc 249) (cond (Nat.beq pc 246) (some (.invokevirtual 16, 3)) none) (cond (Nat.beq pc 249) (some (.iload 6, 2)) none))))) (cond (Nat.blt pc 261) (cond (Nat.blt pc 256) (cond (Nat.blt pc 254) (cond (Nat.beq pc 251) (some (.if_icmp .eq 5, 3)) none) (cond (Nat.blt pc 255) (cond (Nat.beq pc 254) (some (.iconst 0, 1)) none) (cond (Nat.beq pc 255) (some (.ireturn, 1)) none))) (cond (Nat.blt pc 258) (cond (Nat.beq pc 256) (some (.aload 5, 2)) none) (cond (Nat.blt pc 259) (cond (Nat.beq pc 258) (some (.iload_n 3, 1)) none) (cond (Nat.beq pc 259) (some (.iload 4, 2)) none)))) (cond (Nat.blt pc 269) (cond (Nat.blt pc 264) (cond (Nat.beq pc 261) (some (.invokevirtual 19, 3)) none) (cond (Nat.blt pc 266) (cond (Nat.beq pc 264) (some (.iload 8, 2)) none) (cond (Nat.beq pc 266) (some (.if_icmp .eq 5, 3)) none))) (cond (Nat.blt pc 270) (cond (Nat.beq pc 269) (some (.iconst 0, 1)) none) (cond (Nat.blt pc 271) (cond (Nat.beq pc 270) (some (.ireturn, 1)) none) (cond (Nat.beq pc 271) (some (.aload 5, 2)) none))))))) (cond (Nat.blt pc 319) (cond (Nat.blt pc 295) (cond (Nat.blt pc 283) (cond (Nat.blt pc 278) (cond (Nat.blt pc 276) (cond (Nat.beq pc 273) (some (.invokevirtual 23, 3)) none) (cond (Nat.beq pc 276) (some (.iload 9, 2)) none)) (cond (Nat.blt pc 281) (cond (Nat.beq pc 278) (some (.if_icmp .eq 5, 3)) none) (cond (Nat.blt pc 282) (cond (Nat.beq pc 281) (some (.iconst 0, 1)) none) (cond (Nat.beq pc 282) (some (.ireturn, 1)) none)))) (cond (Nat.blt pc 290) (cond (Nat.blt pc 285) (cond (Nat.beq pc 283) (some (.aload 5, 2)) none) (cond (Nat.blt pc 288) (cond (Nat.beq pc 285) (some (.invokevirtual 27, 3)) none) (cond (Nat.beq pc 288) (some (.iload 10, 2)) none))) (cond (Nat.blt pc 293) (cond (Nat.beq pc 290) (some (.if_icmp .eq 5, 3)) none) (cond (Nat.blt pc 294) (cond (Nat.beq pc 293) (some (.iconst 0, 1)) none) (cond (Nat.beq pc 294) (some (.ireturn, 1)) none))))) (cond (Nat.blt pc 309) (cond (Nat.blt pc 302) (cond (Nat.blt pc 297) (cond (Nat.beq pc 295) (some (.aload 5, 2)) none) (cond (Nat.blt pc 300) (cond (Nat.beq pc 297) (some (.invokevirtual 23, 3)) none) (cond (Nat.beq pc 300) (some (.iload 11, 2)) none))) (cond (Nat.blt pc 305) (cond (Nat.beq pc 302) (some (.ifCond .eq 7, 3)) none) (cond (Nat.blt pc 306) (cond (Nat.beq pc 305) (some (.iconst (-1), 1)) none) (cond (Nat.beq pc 306) (some (.goto 5, 3)) none)))) (cond (Nat.blt pc 315) (cond (Nat.blt pc 311) (cond (Nat.beq pc 309) (some (.iload 9, 2)) none) (cond (Nat.blt pc 314) (cond (Nat.beq pc 311) (some (.if_icmp .eq 5, 3)) none) (cond (Nat.beq pc 314) (some (.iconst 0, 1)) none))) (cond (Nat.blt pc 316) (cond (Nat.beq pc 315) (some (.ireturn, 1)) none) (cond (Nat.blt pc 318) (cond (Nat.beq pc 316) (some (.aload 5, 2)) none) (cond (Nat.beq pc 318) (some (.iconst 0, 1)) none)))))) (cond (Nat.blt pc 344) (cond (Nat.blt pc 333) (cond (Nat.blt pc 327) (cond (Nat.blt pc 322) (cond (Nat.beq pc 319) (some (.invokevirtual 30, 3)) none) (cond (Nat.blt pc 324) (cond (Nat.beq pc 322) (some (.iload 11, 2)) none) (cond (Nat.beq pc 324) (some (.ifCond .eq 8, 3)) none))) (cond (Nat.blt pc 329) (cond (Nat.beq pc 327) (some (.iload 9, 2)) none) (cond (Nat.blt pc 332) (cond (Nat.beq pc 329) (some (.goto 4, 3)) none) (cond (Nat.beq pc 332) (some (.iconst (-1), 1)) none)))) (cond (Nat.blt pc 338) (cond (Nat.blt pc 336) (cond (Nat.beq pc 333) (some (.if_icmp .eq 5, 3)) none) (cond (Nat.blt pc 337) (cond (Nat.beq pc 336) (some (.iconst 0, 1)) none) (cond (Nat.beq pc 337) (some (.ireturn, 1)) none))) (cond (Nat.blt pc 340) (cond (Nat.beq pc 338) (some (.aload 5, 2)) none) (cond (Nat.blt pc 341) (cond (Nat.beq pc 340) (some (.iload_n 2, 1)) none) (cond (Nat.beq pc 341) (some (.invokevirtual 34, 3)) none))))) (cond (Nat.blt pc 358) (cond (Nat.blt pc 351) (cond (Nat.blt pc 346) (cond (Nat.beq pc 344) (some (.iload 11, 2)) none) (cond (Nat.blt pc 349) (cond (Nat.beq pc 346) (some (.ifCond .eq 12, 3)) none) (cond (Nat.beq pc 349) (some (.iload 6, 2)) none))) (cond (Nat.blt pc 354) (cond (Nat.beq pc 351) (some (.ifCond .eq 7, 3)) none) (cond (Nat.blt pc 355) (cond (Nat.beq pc 354) (some (.iconst 0, 1)) none) (cond (Nat.beq pc 355) (some (.goto 4, 3)) none)))) (cond (Nat.blt pc 363) (cond (Nat.blt pc 359) (cond (Nat.beq pc 358) (some (.iconst (-1), 1)) none) (cond (Nat.blt pc 362) (cond (Nat.beq pc 359) (some (.if_icmp .ne 7, 3)) none) (cond (Nat.beq pc 362) (some (.iconst 1, 1)) none))) (cond (Nat.blt pc 366) (cond (Nat.beq pc 363) (some (.goto 4, 3)) none) (cond (Nat.blt pc 367) (cond (Nat.beq pc 366) (some (.iconst 0, 1)) none) (cond (Nat.beq pc 367) (some (.ireturn, 1)) none))))))))) none
def LLcode : CodeT := fun q pc => cond (Nat.blt q 1) (cond (Nat.beq q 0) (lcd_0 pc) none) none
def LLcst : Nat → Option OV := fun x => none
def LLvm : Nat → Option Nat := fun x => cond (Nat.blt x 35) (cond (Nat.blt x 23) (cond (Nat.blt x 16) (cond (Nat.beq x 12) (some 1) none) (cond (Nat.blt x 19) (cond (Nat.beq x 16) (some 2) none) (cond (Nat.beq x 19) (some 3) none))) (cond (Nat.blt x 30) (cond (Nat.blt x 27) (cond (Nat.beq x 23) (some 5) none) (cond (Nat.beq x 27) (some 6) none)) (cond (Nat.blt x 34) (cond (Nat.beq x 30) (some 15) none) (cond (Nat.beq x 34) (some 16) none)))) none
def LLmk : Nat → Bool := fun x => Nat.beq x 9
def LLsm : Nat → Option Nat := fun x => none
def LLcl : Nat → Bool := fun x => Nat.beq x 7
def LLinf : Nat → Option (List Nat × Nat × Nat × Nat × Nat) := fun x => cond (Nat.blt x 1) (cond (Nat.beq x 0) (some ([0, 0, 0, 0, 0], 12, 2, 3, 47)) none) none
def LLliv : LivT := fun q pc => cond (Nat.beq q 0) (cond (Nat.blt pc 188) (cond (Nat.blt pc 97) (cond (Nat.blt pc 56) (cond (Nat.blt pc 26) (cond (Nat.blt pc 21) (cond (Nat.blt pc 15) (cond (Nat.beq pc 0) (some [true, true, true, true, true, false, false, false, false, false, false, false]) none) (cond (Nat.beq pc 15) (some [false, false, true, true, true, true, false, false, false, false, false, false]) none)) (cond (Nat.blt pc 25) (cond (Nat.beq pc 21) (some [false, false, true, true, true, true, false, false, false, false, false, false]) none) (cond (Nat.beq pc 25) (some [false, false, true, true, true, true, false, false, false, false, false, false]) none))) (cond (Nat.blt pc 38) (cond (Nat.blt pc 33) (cond (Nat.beq pc 26) (some [false, false, true, true, true, true, false, false, false, false, false, false]) none) (cond (Nat.beq pc 33) (some [false, false, true, true, true, true, true, false, false, false, false, false]) none)) (cond (Nat.blt pc 44) (cond (Nat.beq pc 38) (some [false, false, true, true, true, true, true, false, false, false, false, false]) none) (cond (Nat.blt pc 49) (cond (Nat.beq pc 44) (some [false, false, true, true, true, true, true, false, false, false, false, false]) none) (cond (Nat.beq pc 49) (some [false, false, true, true, true, true, true, false, false, false, false, false]) none))))) (cond (Nat.blt pc 76) (cond (Nat.blt pc 61) (cond (Nat.blt pc 60) (cond (Nat.beq pc 56) (some [false, false, true, true, true, true, true, false, false, false, false, false]) none) (cond (Nat.beq pc 60) (some [false, false, true, true, true, true, true, false, false, false, false, false]) none)) (cond (Nat.blt pc 66) (cond (Nat.beq pc 61) (some [false, false, true, true, true, true, true, false, false, false, false, false]) none) (cond (Nat.blt pc 71) (cond (Nat.beq pc 66) (some [false, false, true, true, true, true, true, false, false, false, false, false]) none) (cond (Nat.beq pc 71) (some [false, false, true, true, true, true, true, false, false, false, false, false]) none)))) (cond (Nat.blt pc 87) (cond (Nat.blt pc 81) (cond (Nat.beq pc 76) (some [false, false, true, true, true, true, true, false, false, false, false, false]) none) (cond (Nat.beq pc 81) (some [false, false, true, true, true, true, true, false, false, false, false, false]) none)) (cond (Nat.blt pc 91) (cond (Nat.beq pc 87) (some [false, false, true, true, true, true, true, false, false, false, false, false]) none) (cond (Nat.blt pc 92) (cond (Nat.beq pc 91) (some [false, false, true, true, true, true, true, false, false, false, false, false]) none) (cond (Nat.beq pc 92) (some [false, false, true, true, true, true, true, false, false, false, false, false]) none)))))) (cond (Nat.blt pc 139) (cond (Nat.blt pc 121) (cond (Nat.blt pc 109) (cond (Nat.blt pc 103) (cond (Nat.beq pc 97) (some [false, false, true, true, true, true, true, false, false, false, false, false]) none) (cond (Nat.beq pc 103) (some [false, false, true, true, true, true, true, false, false, false, false, false]) none)) (cond (Nat.blt pc 114) (cond (Nat.beq pc 109) (some [false, false, true, true, true, true, true, false, false, false, false, false]) none) (cond (Nat.beq pc 114) (some [false, false, true, true, true, true, true, false, false, false, false, false]) none))) (cond (Nat.blt pc 126) (cond (Nat.blt pc 125) (cond (Nat.beq pc 121) (some [false, false, true, true, true, true, true, false, false, false, false, false]) none) (cond (Nat.beq pc 125) (some [false, false, true, true, true, true, true, false, false, false, false, false]) none)) (cond (Nat.blt pc 131) (cond (Nat.beq pc 126) (some [false, false, true, true, true, true, true, false, false, false, false, false]) none) (cond (Nat.blt pc 134) (cond (Nat.beq pc 131) (some [false, false, true, true, true, true, true, false, false, false, false, false]) none) (cond (Nat.beq pc 134) (some [false, false, true, true, true, true, true, true, false, false, false, false]) none))))) (cond (Nat.blt pc 160) (cond (Nat.blt pc 150) (cond (Nat.blt pc 144) (cond (Nat.beq pc 139) (some [false, false, true, true, true, true, true, true, false, false, false, false]) none) (cond (Nat.beq pc 144) (some [false, false, true, true, true, true, true, true, false, false, false, false]) none)) (cond (Nat.blt pc 155) (cond (Nat.beq pc 150) (some [false, false, true, true, true, true, true, true, false, false, false, false]) none) (cond (Nat.blt pc 159) (cond (Nat.beq pc 155) (some [false, false, true, true, true, true, true, false, false, false, false, false]) none) (cond (Nat.beq pc 159) (some [false, false, true, true, true, true, true, false, false, false, false, false]) none)))) (cond (Nat.blt pc 171) (cond (Nat.blt pc 167) (cond (Nat.beq pc 160) (some [false, false, true, true, true, true, true, false, false, false, false, false]) none) (cond (Nat.beq pc 167) (some [false, false, true, true, true, true, true, false, true, false, false, false]) none)) (cond (Nat.blt pc 172) (cond (Nat.beq pc 171) (some [false, false, true, true, true, true, true, false, true, false, false, false]) none) (cond (Nat.blt pc 182) (cond (Nat.beq pc 172) (some [false, false, true, true, true, true, true, false, true, false, false, false]) none) (cond (Nat.beq pc 182) (some [false, false, true, true, true, true, true, false, true, true, true, false]) none))))))) (cond (Nat.blt pc 293) (cond (Nat.blt pc 229) (cond (Nat.blt pc 207) (cond (Nat.blt pc 199) (cond (Nat.blt pc 194) (cond (Nat.beq pc 188) (some [false, false, true, true, true, true, true, false, true, true, true, false]) none) (cond (Nat.beq pc 194) (some [false, false, true, true, true, true, true, false, true, true, true, false]) none)) (cond (Nat.blt pc 202) (cond (Nat.beq pc 199) (some [false, false, true, true, true, true, true, false, true, true, false, false]) none) (cond (Nat.beq pc 202) (some [false, false, true, true, true, true, true, false, true, true, true, false]) none))) (cond (Nat.blt pc 217) (cond (Nat.blt pc 212) (cond (Nat.beq pc 207) (some [false, false, true, true, true, true, true, false, true, true, true, false]) none) (cond (Nat.beq pc 212) (some [false, false, true, true, true, true, true, false, true, true, true, false]) none)) (cond (Nat.blt pc 220) (cond (Nat.beq pc 217) (some [false, false, true, true, true, true, true, false, true, true, false, false]) none) (cond (Nat.blt pc 225) (cond (Nat.beq pc 220) (some [false, false, true, true, true, true, true, false, true, true, true, false]) none) (cond (Nat.beq pc 225) (some [false, false, true, true, true, true, true, false, true, true, true, false]) none))))) (cond (Nat.blt pc 256) (cond (Nat.blt pc 241) (cond (Nat.blt pc 230) (cond (Nat.beq pc 229) (some [false, false, true, true, true, true, true, false, true, true, true, false]) none) (cond (Nat.beq pc 230) (some [false, false, true, true, true, true, true, false, true, true, true, false]) none)) (cond (Nat.blt pc 243) (cond (Nat.beq pc 241) (some [false, false, false, false, false, false, false, false, false, false, false, false]) none) (cond (Nat.blt pc 254) (cond (Nat.beq pc 243) (some [false, false, true, true, true, true, true, false, true, true, true, true]) none) (cond (Nat.beq pc 254) (some [false, false, false, false, false, false, false, false, false, false, false, false]) none)))) (cond (Nat.blt pc 271) (cond (Nat.blt pc 269) (cond (Nat.beq pc 256) (some [false, false, true, true, true, true, true, false, true, true, true, true]) none) (cond (Nat.beq pc 269) (some [false, false, false, false, false, false, false, false, false, false, false, false]) none)) (cond (Nat.blt pc 281) (cond (Nat.beq pc 271) (some [false, false, true, false, false, true, true, false, false, true, true, true]) none) (cond (Nat.blt pc 283) (cond (Nat.beq pc 281) (some [false, false, false, false, false, false, false, false, false, false, false, false]) none) (cond (Nat.beq pc 283) (some [false, false, true, false, false, true, true, false, false, true, true, true]) none)))))) (cond (Nat.blt pc 333) (cond (Nat.blt pc 311) (cond (Nat.blt pc 305) (cond (Nat.blt pc 295) (cond (Nat.beq pc 293) (some [false, false, false, false, false, false, false, false, false, false, false, false]) none) (cond (Nat.beq pc 295) (some [false, false, true, false, false, true, true, false, false, true, false, true]) none)) (cond (Nat.blt pc 309) (cond (Nat.beq pc 305) (some [false, false, true, false, false, true, true, false, false, true, false, true]) none) (cond (Nat.beq pc 309) (some [false, false, true, false, false, true, true, false, false, true, false, true]) none))) (cond (Nat.blt pc 316) (cond (Nat.blt pc 314) (cond (Nat.beq pc 311) (some [false, false, true, false, false, true, true, false, false, true, false, true]) none) (cond (Nat.beq pc 314) (some [false, false, false, false, false, false, false, false, false, false, false, false]) none)) (cond (Nat.blt pc 327) (cond (Nat.beq pc 316) (some [false, false, true, false, false, true, true, false, false, true, false, true]) none) (cond (Nat.blt pc 332) (cond (Nat.beq pc 327) (some [false, false, true, false, false, true, true, false, false, true, false, true]) none) (cond (Nat.beq pc 332) (some [false, false, true, false, false, true, true, false, false, false, false, true]) none))))) (cond (Nat.blt pc 358) (cond (Nat.blt pc 338) (cond (Nat.blt pc 336) (cond (Nat.beq pc 333) (some [false, false, true, false, false, true, true, false, false, false, false, true]) none) (cond (Nat.beq pc 336) (some [false, false, false, false, false, false, false, false, false, false, false, false]) none)) (cond (Nat.blt pc 349) (cond (Nat.beq pc 338) (some [false, false, true, false, false, true, true, false, false, false, false, true]) none) (cond (Nat.blt pc 354) (cond (Nat.beq pc 349) (some [false, false, false, false, false, false, true, false, false, false, false, false]) none) (cond (Nat.beq pc 354) (some [false, false, false, false, false, false, false, false, false, false, false, false]) none)))) (cond (Nat.blt pc 362) (cond (Nat.blt pc 359) (cond (Nat.beq pc 358) (some [false, false, false, false, false, false, false, false, false, false, false, false]) none) (cond (Nat.beq pc 359) (some [false, false, false, false, false, false, false, false, false, false, false, false]) none)) (cond (Nat.blt pc 366) (cond (Nat.beq pc 362) (some [false, false, false, false, false, false, false, false, false, false, false, false]) none) (cond (Nat.blt pc 367) (cond (Nat.beq pc 366) (some [false, false, false, false, false, false, false, false, false, false, false, false]) none) (cond (Nat.beq pc 367) (some [false, false, false, false, false, false, false, false, false, false, false, false]) none)))))))) none
def LL : LT := (LLcode, LLcst, LLvm, LLmk, LLsm, LLcl, LLinf, LLliv)
abbrev RL := runL PP LL 54 1 (false, 0, fun _ => 0)
abbrev RLr (n q pc : Nat) (L : OLs) (S : List OV) (y : Option OV × OWd) : RTL := RL n q pc L (pushR y.1 S) y.2
abbrev RLv (n q pc : Nat) (L : OLs) (S : List OV) (W : OWd) (o : Nat) (y : Option OV × Nat × OMem) : RTL := RL n q pc L (pushR y.1 S) (wput W o y.2)
abbrev RLi (n q pc : Nat) (L : OLs) (S : List OV) (W : OWd) (o : Nat) (y : Option OV × Nat × OMem) : RTL := cond (Nat.beq y.2.1 54) (RL n q pc L (pushR y.1 S) (wput W o y.2)) none
def l_law_b367 (s0 : Int) (m0 : OMem) : Option (Int × OWd) := some (s0 % 2, [(54, m0)])
set_option maxRecDepth 65536 in
set_option maxHeartbeats 16000000 in
theorem l_law_b367_ok (s0 : Int) (m0 : OMem) : Sim (l_law_b367 s0 m0) (fun (r, w) _ => some (some (vi r), w)) (fun n => RL n 0 367 [qn, qn, qn, qn, qn, qn, qn, qn, qn, qn, qn, qn] [vi s0] [(54, m0)]) :=
  Sim.shift 1 (G := (fun _ => some (some (vi (s0 % 2)), [(54, m0)]))) (fun _ => rfl) (Sim.pur _ _)
def l_law_b359 (s0 s1 : Int) (m0 : OMem) : Option (Int × OWd) := if s0 = s1 then (l_law_b367 1 m0) else (l_law_b367 0 m0)
set_option maxRecDepth 65536 in
set_option maxHeartbeats 16000000 in
theorem l_law_b359_ok (s0 s1 : Int) (m0 : OMem) : Sim (l_law_b359 s0 s1 m0) (fun (r, w) _ => some (some (vi r), w)) (fun n => RL n 0 359 [qn, qn, qn, qn, qn, qn, qn, qn, qn, qn, qn, qn] [vi s1, vi s0] [(54, m0)]) :=
  Sim.shift 1 (G := fun n => if s0 = s1 then RL n 0 362 [qn, qn, qn, qn, qn, qn, qn, qn, qn, qn, qn, qn] [] [(54, m0)] else RL n 0 366 [qn, qn, qn, qn, qn, qn, qn, qn, qn, qn, qn, qn] [] [(54, m0)]) (fun _ => rfl) (Sim.ite (fun _ => Sim.shift 2 (G := fun n => RL n 0 367 [qn, qn, qn, qn, qn, qn, qn, qn, qn, qn, qn, qn] [vi 1] [(54, m0)]) (fun _ => rfl) (l_law_b367_ok 1 m0)) (fun _ => Sim.shift 1 (G := fun n => RL n 0 367 [qn, qn, qn, qn, qn, qn, qn, qn, qn, qn, qn, qn] [vi 0] [(54, m0)]) (fun _ => rfl) (l_law_b367_ok 0 m0)))
def l_law_b358 (s0 : Int) (m0 : OMem) : Option (Int × OWd) := l_law_b359 s0 (-1) m0
set_option maxRecDepth 65536 in
set_option maxHeartbeats 16000000 in
theorem l_law_b358_ok (s0 : Int) (m0 : OMem) : Sim (l_law_b358 s0 m0) (fun (r, w) _ => some (some (vi r), w)) (fun n => RL n 0 358 [qn, qn, qn, qn, qn, qn, qn, qn, qn, qn, qn, qn] [vi s0] [(54, m0)]) :=
  Sim.shift 1 (G := fun n => RL n 0 359 [qn, qn, qn, qn, qn, qn, qn, qn, qn, qn, qn, qn] [vi (-1), vi s0] [(54, m0)]) (fun _ => rfl) (l_law_b359_ok s0 (-1) m0)
def l_law_b333 (x2 x6 x11 s0 s1 : Int) (m0 : OMem) : Option (Int × OWd) := if s0 = s1 then ((f_definedIn x2 m0).bind fun r_33 => (if x11 = 0 then (l_law_b358 r_33 m0) else (if x6 = 0 then (l_law_b358 r_33 m0) else (l_law_b359 r_33 0 m0)))) else (some (0, [(54, m0)]))
set_option maxRecDepth 65536 in
set_option maxHeartbeats 16000000 in
theorem l_law_b333_ok (x2 x6 x11 s0 s1 : Int) (m0 : OMem) : Sim (l_law_b333 x2 x6 x11 s0 s1 m0) (fun (r, w) _ => some (some (vi r), w)) (fun n => RL n 0 333 [qn, qn, qi x2, qn, qn, qr 1, qi x6, qn, qn, qn, qn, qi x11] [vi s1, vi s0] [(54, m0)]) :=
  Sim.shift 1 (G := fun n => if s0 = s1 then RL n 0 338 [qn, qn, qi x2, qn, qn, qr 1, qi x6, qn, qn, qn, qn, qi x11] [] [(54, m0)] else RL n 0 336 [qn, qn, qi x2, qn, qn, qr 1, qi x6, qn, qn, qn, qn, qi x11] [] [(54, m0)]) (fun _ => rfl) (Sim.ite (fun _ => Sim.shift 3 (G := fun n => (R n 16 0 [qr 0, qi x2] [] 54 m0).bind fun y => RLv n 0 344 [qn, qn, qi x2, qn, qn, qr 1, qi x6, qn, qn, qn, qn, qi x11] [] [(54, m0)] 0 y) (fun _ => rfl) (Sim.call (f_definedIn_ok x2 m0) (fun _ _ => rfl) (runP_mono _ _ _ _ _ _) (fun _ => runL_mono _ _ _ _ _) (fun r_33 => Sim.shift 0 (G := fun n => RL n 0 344 [qn, qn, qi x2, qn, qn, qr 1, qi x6, qn, qn, qn, qn, qi x11] [vi r_33] [(54, m0)]) (fun _ => rfl) (Sim.shift 2 (G := fun n => if x11 = 0 then RL n 0 358 [qn, qn, qi x2, qn, qn, qr 1, qi x6, qn, qn, qn, qn, qi x11] [vi r_33] [(54, m0)] else RL n 0 349 [qn, qn, qi x2, qn, qn, qr 1, qi x6, qn, qn, qn, qn, qi x11] [vi r_33] [(54, m0)]) (fun _ => rfl) (Sim.ite (fun _ => Sim.jmp (l_law_b358_ok r_33 m0) rfl (fun _ => rfl)) (fun _ => Sim.shift 2 (G := fun n => if x6 = 0 then RL n 0 358 [qn, qn, qn, qn, qn, qn, qi x6, qn, qn, qn, qn, qn] [vi r_33] [(54, m0)] else RL n 0 354 [qn, qn, qn, qn, qn, qn, qi x6, qn, qn, qn, qn, qn] [vi r_33] [(54, m0)]) (fun _ => rfl) (Sim.ite (fun _ => Sim.jmp (l_law_b358_ok r_33 m0) rfl (fun _ => rfl)) (fun _ => Sim.shift 2 (G := fun n => RL n 0 359 [qn, qn, qn, qn, qn, qn, qn, qn, qn, qn, qn, qn] [vi 0, vi r_33] [(54, m0)]) (fun _ => rfl) (l_law_b359_ok r_33 0 m0))))))))) (fun _ => Sim.shift 2 (G := (fun _ => some (some (vi 0), [(54, m0)]))) (fun _ => rfl) (Sim.pur _ _)))
def l_law_b311 (x2 x6 x9 x11 s0 s1 : Int) (m0 : OMem) : Option (Int × OWd) := if s0 = s1 then ((f_codeSize 0 m0).bind fun r_32 => (if x11 = 0 then (l_law_b333 x2 x6 x11 r_32 (-1) m0) else (l_law_b333 x2 x6 x11 r_32 x9 m0))) else (some (0, [(54, m0)]))
set_option maxRecDepth 65536 in
set_option maxHeartbeats 16000000 in
theorem l_law_b311_ok (x2 x6 x9 x11 s0 s1 : Int) (m0 : OMem) : Sim (l_law_b311 x2 x6 x9 x11 s0 s1 m0) (fun (r, w) _ => some (some (vi r), w)) (fun n => RL n 0 311 [qn, qn, qi x2, qn, qn, qr 1, qi x6, qn, qn, qi x9, qn, qi x11] [vi s1, vi s0] [(54, m0)]) :=
  Sim.shift 1 (G := fun n => if s0 = s1 then RL n 0 316 [qn, qn, qi x2, qn, qn, qr 1, qi x6, qn, qn, qi x9, qn, qi x11] [] [(54, m0)] else RL n 0 314 [qn, qn, qi x2, qn, qn, qr 1, qi x6, qn, qn, qi x9, qn, qi x11] [] [(54, m0)]) (fun _ => rfl) (Sim.ite (fun _ => Sim.shift 3 (G := fun n => (R n 15 0 [qr 0, qi 0] [] 54 m0).bind fun y => RLv n 0 322 [qn, qn, qi x2, qn, qn, qr 1, qi x6, qn, qn, qi x9, qn, qi x11] [] [(54, m0)] 0 y) (fun _ => rfl) (Sim.call (f_codeSize_ok 0 m0) (fun _ _ => rfl) (runP_mono _ _ _ _ _ _) (fun _ => runL_mono _ _ _ _ _) (fun r_32 => Sim.shift 0 (G := fun n => RL n 0 322 [qn, qn, qi x2, qn, qn, qr 1, qi x6, qn, qn, qi x9, qn, qi x11] [vi r_32] [(54, m0)]) (fun _ => rfl) (Sim.shift 2 (G := fun n => if x11 = 0 then RL n 0 332 [qn, qn, qi x2, qn, qn, qr 1, qi x6, qn, qn, qi x9, qn, qi x11] [vi r_32] [(54, m0)] else RL n 0 327 [qn, qn, qi x2, qn, qn, qr 1, qi x6, qn, qn, qi x9, qn, qi x11] [vi r_32] [(54, m0)]) (fun _ => rfl) (Sim.ite (fun _ => Sim.shift 1 (G := fun n => RL n 0 333 [qn, qn, qi x2, qn, qn, qr 1, qi x6, qn, qn, qn, qn, qi x11] [vi (-1), vi r_32] [(54, m0)]) (fun _ => rfl) (l_law_b333_ok x2 x6 x11 r_32 (-1) m0)) (fun _ => Sim.shift 2 (G := fun n => RL n 0 333 [qn, qn, qi x2, qn, qn, qr 1, qi x6, qn, qn, qi x9, qn, qi x11] [vi x9, vi r_32] [(54, m0)]) (fun _ => rfl) (Sim.jmp (l_law_b333_ok x2 x6 x11 r_32 x9 m0) rfl (fun _ => rfl)))))))) (fun _ => Sim.shift 2 (G := (fun _ => some (some (vi 0), [(54, m0)]))) (fun _ => rfl) (Sim.pur _ _)))
def l_law_b230 (x2 x3 x4 x6 x8 x9 x10 s0 : Int) (m0 : OMem) : Option (Int × OWd) := (f_beginModule 0 m0).bind fun (r_22, m_23) => (if r_22 = 0 then (some (0, [(54, m_23)])) else ((f_addFunction x2 m_23).bind fun (r_24, m_25) => (if r_24 = x6 then ((f_emit x3 x4 m_25).bind fun (r_26, m_27) => (if r_26 = x8 then ((f_bufferSize m_27).bind fun r_28 => (if r_28 = x9 then ((f_commit m_27).bind fun (r_29, m_30) => (if r_29 = x10 then ((f_bufferSize m_30).bind fun r_31 => (if s0 = 0 then (l_law_b311 x2 x6 x9 s0 r_31 x9 m_30) else (l_law_b311 x2 x6 x9 s0 r_31 (-1) m_30))) else (some (0, [(54, m_30)])))) else (some (0, [(54, m_27)])))) else (some (0, [(54, m_27)])))) else (some (0, [(54, m_25)])))))
set_option maxRecDepth 65536 in
set_option maxHeartbeats 16000000 in
theorem l_law_b230_ok (x2 x3 x4 x6 x8 x9 x10 s0 : Int) (m0 : OMem) : Sim (l_law_b230 x2 x3 x4 x6 x8 x9 x10 s0 m0) (fun (r, w) _ => some (some (vi r), w)) (fun n => RL n 0 230 [qn, qn, qi x2, qi x3, qi x4, qr 1, qi x6, qn, qi x8, qi x9, qi x10, qn] [vi s0] [(54, m0)]) :=
  Sim.shift 4 (G := fun n => (R n 1 0 [qr 0, qi 0] [] 54 m0).bind fun y => RLv n 0 238 [qn, qn, qi x2, qi x3, qi x4, qr 1, qi x6, qn, qi x8, qi x9, qi x10, qi s0] [] [(54, m0)] 0 y) (fun _ => rfl) (Sim.call (f_beginModule_ok 54 0 m0) (fun _ _ => rfl) (runP_mono _ _ _ _ _ _) (fun _ => runL_mono _ _ _ _ _) (fun ⟨r_22, m_23⟩ => Sim.shift 0 (G := fun n => RL n 0 238 [qn, qn, qi x2, qi x3, qi x4, qr 1, qi x6, qn, qi x8, qi x9, qi x10, qi s0] [vi r_22] [(54, m_23)]) (fun _ => rfl) (Sim.shift 1 (G := fun n => if r_22 = 0 then RL n 0 241 [qn, qn, qi x2, qi x3, qi x4, qr 1, qi x6, qn, qi x8, qi x9, qi x10, qi s0] [] [(54, m_23)] else RL n 0 243 [qn, qn, qi x2, qi x3, qi x4, qr 1, qi x6, qn, qi x8, qi x9, qi x10, qi s0] [] [(54, m_23)]) (fun _ => rfl) (Sim.ite (fun _ => Sim.shift 2 (G := (fun _ => some (some (vi 0), [(54, m_23)]))) (fun _ => rfl) (Sim.pur _ _)) (fun _ => Sim.shift 3 (G := fun n => (R n 2 0 [qr 0, qi x2, qn] [] 54 m_23).bind fun y => RLv n 0 249 [qn, qn, qi x2, qi x3, qi x4, qr 1, qi x6, qn, qi x8, qi x9, qi x10, qi s0] [] [(54, m_23)] 0 y) (fun _ => rfl) (Sim.call (f_addFunction_ok x2 m_23) (fun _ _ => rfl) (runP_mono _ _ _ _ _ _) (fun _ => runL_mono _ _ _ _ _) (fun ⟨r_24, m_25⟩ => Sim.shift 0 (G := fun n => RL n 0 249 [qn, qn, qi x2, qi x3, qi x4, qr 1, qi x6, qn, qi x8, qi x9, qi x10, qi s0] [vi r_24] [(54, m_25)]) (fun _ => rfl) (Sim.shift 2 (G := fun n => if r_24 = x6 then RL n 0 256 [qn, qn, qi x2, qi x3, qi x4, qr 1, qi x6, qn, qi x8, qi x9, qi x10, qi s0] [] [(54, m_25)] else RL n 0 254 [qn, qn, qi x2, qi x3, qi x4, qr 1, qi x6, qn, qi x8, qi x9, qi x10, qi s0] [] [(54, m_25)]) (fun _ => rfl) (Sim.ite (fun _ => Sim.shift 4 (G := fun n => (R n 3 0 [qr 0, qi x3, qi x4] [] 54 m_25).bind fun y => RLv n 0 264 [qn, qn, qi x2, qi x3, qi x4, qr 1, qi x6, qn, qi x8, qi x9, qi x10, qi s0] [] [(54, m_25)] 0 y) (fun _ => rfl) (Sim.call (f_emit_ok x3 x4 m_25) (fun _ _ => rfl) (runP_mono _ _ _ _ _ _) (fun _ => runL_mono _ _ _ _ _) (fun ⟨r_26, m_27⟩ => Sim.shift 0 (G := fun n => RL n 0 264 [qn, qn, qi x2, qi x3, qi x4, qr 1, qi x6, qn, qi x8, qi x9, qi x10, qi s0] [vi r_26] [(54, m_27)]) (fun _ => rfl) (Sim.shift 2 (G := fun n => if r_26 = x8 then RL n 0 271 [qn, qn, qi x2, qi x3, qi x4, qr 1, qi x6, qn, qi x8, qi x9, qi x10, qi s0] [] [(54, m_27)] else RL n 0 269 [qn, qn, qi x2, qi x3, qi x4, qr 1, qi x6, qn, qi x8, qi x9, qi x10, qi s0] [] [(54, m_27)]) (fun _ => rfl) (Sim.ite (fun _ => Sim.shift 2 (G := fun n => (R n 5 0 [qr 0] [] 54 m_27).bind fun y => RLv n 0 276 [qn, qn, qi x2, qn, qn, qr 1, qi x6, qn, qn, qi x9, qi x10, qi s0] [] [(54, m_27)] 0 y) (fun _ => rfl) (Sim.call (f_bufferSize_ok 54 m_27) (fun _ _ => rfl) (runP_mono _ _ _ _ _ _) (fun _ => runL_mono _ _ _ _ _) (fun r_28 => Sim.shift 0 (G := fun n => RL n 0 276 [qn, qn, qi x2, qn, qn, qr 1, qi x6, qn, qn, qi x9, qi x10, qi s0] [vi r_28] [(54, m_27)]) (fun _ => rfl) (Sim.shift 2 (G := fun n => if r_28 = x9 then RL n 0 283 [qn, qn, qi x2, qn, qn, qr 1, qi x6, qn, qn, qi x9, qi x10, qi s0] [] [(54, m_27)] else RL n 0 281 [qn, qn, qi x2, qn, qn, qr 1, qi x6, qn, qn, qi x9, qi x10, qi s0] [] [(54, m_27)]) (fun _ => rfl) (Sim.ite (fun _ => Sim.shift 2 (G := fun n => (R n 6 0 [qr 0] [] 54 m_27).bind fun y => RLv n 0 288 [qn, qn, qi x2, qn, qn, qr 1, qi x6, qn, qn, qi x9, qi x10, qi s0] [] [(54, m_27)] 0 y) (fun _ => rfl) (Sim.call (f_commit_ok m_27) (fun _ _ => rfl) (runP_mono _ _ _ _ _ _) (fun _ => runL_mono _ _ _ _ _) (fun ⟨r_29, m_30⟩ => Sim.shift 0 (G := fun n => RL n 0 288 [qn, qn, qi x2, qn, qn, qr 1, qi x6, qn, qn, qi x9, qi x10, qi s0] [vi r_29] [(54, m_30)]) (fun _ => rfl) (Sim.shift 2 (G := fun n => if r_29 = x10 then RL n 0 295 [qn, qn, qi x2, qn, qn, qr 1, qi x6, qn, qn, qi x9, qi x10, qi s0] [] [(54, m_30)] else RL n 0 293 [qn, qn, qi x2, qn, qn, qr 1, qi x6, qn, qn, qi x9, qi x10, qi s0] [] [(54, m_30)]) (fun _ => rfl) (Sim.ite (fun _ => Sim.shift 2 (G := fun n => (R n 5 0 [qr 0] [] 54 m_30).bind fun y => RLv n 0 300 [qn, qn, qi x2, qn, qn, qr 1, qi x6, qn, qn, qi x9, qn, qi s0] [] [(54, m_30)] 0 y) (fun _ => rfl) (Sim.call (f_bufferSize_ok 54 m_30) (fun _ _ => rfl) (runP_mono _ _ _ _ _ _) (fun _ => runL_mono _ _ _ _ _) (fun r_31 => Sim.shift 0 (G := fun n => RL n 0 300 [qn, qn, qi x2, qn, qn, qr 1, qi x6, qn, qn, qi x9, qn, qi s0] [vi r_31] [(54, m_30)]) (fun _ => rfl) (Sim.shift 2 (G := fun n => if s0 = 0 then RL n 0 309 [qn, qn, qi x2, qn, qn, qr 1, qi x6, qn, qn, qi x9, qn, qi s0] [vi r_31] [(54, m_30)] else RL n 0 305 [qn, qn, qi x2, qn, qn, qr 1, qi x6, qn, qn, qi x9, qn, qi s0] [vi r_31] [(54, m_30)]) (fun _ => rfl) (Sim.ite (fun _ => Sim.shift 1 (G := fun n => RL n 0 311 [qn, qn, qi x2, qn, qn, qr 1, qi x6, qn, qn, qi x9, qn, qi s0] [vi x9, vi r_31] [(54, m_30)]) (fun _ => rfl) (l_law_b311_ok x2 x6 x9 s0 r_31 x9 m_30)) (fun _ => Sim.shift 2 (G := fun n => RL n 0 311 [qn, qn, qi x2, qn, qn, qr 1, qi x6, qn, qn, qi x9, qn, qi s0] [vi (-1), vi r_31] [(54, m_30)]) (fun _ => rfl) (l_law_b311_ok x2 x6 x9 s0 r_31 (-1) m_30))))))) (fun _ => Sim.shift 2 (G := (fun _ => some (some (vi 0), [(54, m_30)]))) (fun _ => rfl) (Sim.pur _ _))))))) (fun _ => Sim.shift 2 (G := (fun _ => some (some (vi 0), [(54, m_27)]))) (fun _ => rfl) (Sim.pur _ _))))))) (fun _ => Sim.shift 2 (G := (fun _ => some (some (vi 0), [(54, m_27)]))) (fun _ => rfl) (Sim.pur _ _))))))) (fun _ => Sim.shift 2 (G := (fun _ => some (some (vi 0), [(54, m_25)]))) (fun _ => rfl) (Sim.pur _ _)))))))))))
def l_law_b220 (x2 x3 x4 x6 x8 x9 x10 : Int) (m0 : OMem) : Option (Int × OWd) := if x10 = 0 then (l_law_b230 x2 x3 x4 x6 x8 x9 x10 1 m0) else (l_law_b230 x2 x3 x4 x6 x8 x9 x10 0 m0)
set_option maxRecDepth 65536 in
set_option maxHeartbeats 16000000 in
theorem l_law_b220_ok (x2 x3 x4 x6 x8 x9 x10 : Int) (m0 : OMem) : Sim (l_law_b220 x2 x3 x4 x6 x8 x9 x10 m0) (fun (r, w) _ => some (some (vi r), w)) (fun n => RL n 0 220 [qn, qn, qi x2, qi x3, qi x4, qr 1, qi x6, qn, qi x8, qi x9, qi x10, qn] [] [(54, m0)]) :=
  Sim.shift 2 (G := fun n => if x10 = 0 then RL n 0 225 [qn, qn, qi x2, qi x3, qi x4, qr 1, qi x6, qn, qi x8, qi x9, qi x10, qn] [] [(54, m0)] else RL n 0 229 [qn, qn, qi x2, qi x3, qi x4, qr 1, qi x6, qn, qi x8, qi x9, qi x10, qn] [] [(54, m0)]) (fun _ => rfl) (Sim.ite (fun _ => Sim.shift 2 (G := fun n => RL n 0 230 [qn, qn, qi x2, qi x3, qi x4, qr 1, qi x6, qn, qi x8, qi x9, qi x10, qn] [vi 1] [(54, m0)]) (fun _ => rfl) (l_law_b230_ok x2 x3 x4 x6 x8 x9 x10 1 m0)) (fun _ => Sim.shift 1 (G := fun n => RL n 0 230 [qn, qn, qi x2, qi x3, qi x4, qr 1, qi x6, qn, qi x8, qi x9, qi x10, qn] [vi 0] [(54, m0)]) (fun _ => rfl) (l_law_b230_ok x2 x3 x4 x6 x8 x9 x10 0 m0)))
def l_law_b217 (x2 x3 x4 x6 x8 x9 : Int) (m0 : OMem) : Option (Int × OWd) := l_law_b220 x2 x3 x4 x6 x8 x9 3 m0
set_option maxRecDepth 65536 in
set_option maxHeartbeats 16000000 in
theorem l_law_b217_ok (x2 x3 x4 x6 x8 x9 : Int) (m0 : OMem) : Sim (l_law_b217 x2 x3 x4 x6 x8 x9 m0) (fun (r, w) _ => some (some (vi r), w)) (fun n => RL n 0 217 [qn, qn, qi x2, qi x3, qi x4, qr 1, qi x6, qn, qi x8, qi x9, qn, qn] [] [(54, m0)]) :=
  Sim.shift 2 (G := fun n => RL n 0 220 [qn, qn, qi x2, qi x3, qi x4, qr 1, qi x6, qn, qi x8, qi x9, qi 3, qn] [] [(54, m0)]) (fun _ => rfl) (l_law_b220_ok x2 x3 x4 x6 x8 x9 3 m0)
def l_law_b202 (x2 x3 x4 x6 x8 x9 x10 : Int) (m0 : OMem) : Option (Int × OWd) := if x8 = 0 then (l_law_b220 x2 x3 x4 x6 x8 x9 x10 m0) else (if x3 = 4 then (l_law_b217 x2 x3 x4 x6 x8 x9 m0) else (if x3 = 5 then (l_law_b217 x2 x3 x4 x6 x8 x9 m0) else (l_law_b220 x2 x3 x4 x6 x8 x9 x10 m0)))
set_option maxRecDepth 65536 in
set_option maxHeartbeats 16000000 in
theorem l_law_b202_ok (x2 x3 x4 x6 x8 x9 x10 : Int) (m0 : OMem) : Sim (l_law_b202 x2 x3 x4 x6 x8 x9 x10 m0) (fun (r, w) _ => some (some (vi r), w)) (fun n => RL n 0 202 [qn, qn, qi x2, qi x3, qi x4, qr 1, qi x6, qn, qi x8, qi x9, qi x10, qn] [] [(54, m0)]) :=
  Sim.shift 2 (G := fun n => if x8 = 0 then RL n 0 220 [qn, qn, qi x2, qi x3, qi x4, qr 1, qi x6, qn, qi x8, qi x9, qi x10, qn] [] [(54, m0)] else RL n 0 207 [qn, qn, qi x2, qi x3, qi x4, qr 1, qi x6, qn, qi x8, qi x9, qi x10, qn] [] [(54, m0)]) (fun _ => rfl) (Sim.ite (fun _ => l_law_b220_ok x2 x3 x4 x6 x8 x9 x10 m0) (fun _ => Sim.shift 3 (G := fun n => if x3 = 4 then RL n 0 217 [qn, qn, qi x2, qi x3, qi x4, qr 1, qi x6, qn, qi x8, qi x9, qi x10, qn] [] [(54, m0)] else RL n 0 212 [qn, qn, qi x2, qi x3, qi x4, qr 1, qi x6, qn, qi x8, qi x9, qi x10, qn] [] [(54, m0)]) (fun _ => rfl) (Sim.ite (fun _ => Sim.jmp (l_law_b217_ok x2 x3 x4 x6 x8 x9 m0) rfl (fun _ => rfl)) (fun _ => Sim.shift 3 (G := fun n => if x3 = 5 then RL n 0 217 [qn, qn, qi x2, qi x3, qi x4, qr 1, qi x6, qn, qi x8, qi x9, qi x10, qn] [] [(54, m0)] else RL n 0 220 [qn, qn, qi x2, qi x3, qi x4, qr 1, qi x6, qn, qi x8, qi x9, qi x10, qn] [] [(54, m0)]) (fun _ => rfl) (Sim.ite (fun _ => Sim.jmp (l_law_b217_ok x2 x3 x4 x6 x8 x9 m0) rfl (fun _ => rfl)) (fun _ => l_law_b220_ok x2 x3 x4 x6 x8 x9 x10 m0))))))
def l_law_b194 (x2 x3 x4 x6 x8 x9 x10 : Int) (m0 : OMem) : Option (Int × OWd) := if x4 = 0 then (l_law_b202 x2 x3 x4 x6 x8 x9 x10 m0) else (l_law_b202 x2 x3 x4 x6 x8 x9 2 m0)
set_option maxRecDepth 65536 in
set_option maxHeartbeats 16000000 in
theorem l_law_b194_ok (x2 x3 x4 x6 x8 x9 x10 : Int) (m0 : OMem) : Sim (l_law_b194 x2 x3 x4 x6 x8 x9 x10 m0) (fun (r, w) _ => some (some (vi r), w)) (fun n => RL n 0 194 [qn, qn, qi x2, qi x3, qi x4, qr 1, qi x6, qn, qi x8, qi x9, qi x10, qn] [] [(54, m0)]) :=
  Sim.shift 2 (G := fun n => if x4 = 0 then RL n 0 202 [qn, qn, qi x2, qi x3, qi x4, qr 1, qi x6, qn, qi x8, qi x9, qi x10, qn] [] [(54, m0)] else RL n 0 199 [qn, qn, qi x2, qi x3, qi x4, qr 1, qi x6, qn, qi x8, qi x9, qi x10, qn] [] [(54, m0)]) (fun _ => rfl) (Sim.ite (fun _ => l_law_b202_ok x2 x3 x4 x6 x8 x9 x10 m0) (fun _ => Sim.shift 2 (G := fun n => RL n 0 202 [qn, qn, qi x2, qi x3, qi x4, qr 1, qi x6, qn, qi x8, qi x9, qi 2, qn] [] [(54, m0)]) (fun _ => rfl) (l_law_b202_ok x2 x3 x4 x6 x8 x9 2 m0)))
def l_law_b172 (x2 x3 x4 x6 x8 s0 : Int) (m0 : OMem) : Option (Int × OWd) := if x8 = 0 then (l_law_b202 x2 x3 x4 x6 x8 s0 0 m0) else (if x3 = 10 then (l_law_b194 x2 x3 x4 x6 x8 s0 0 m0) else (if x3 = 11 then (l_law_b194 x2 x3 x4 x6 x8 s0 0 m0) else (l_law_b202 x2 x3 x4 x6 x8 s0 0 m0)))
set_option maxRecDepth 65536 in
set_option maxHeartbeats 16000000 in
theorem l_law_b172_ok (x2 x3 x4 x6 x8 s0 : Int) (m0 : OMem) : Sim (l_law_b172 x2 x3 x4 x6 x8 s0 m0) (fun (r, w) _ => some (some (vi r), w)) (fun n => RL n 0 172 [qn, qn, qi x2, qi x3, qi x4, qr 1, qi x6, qn, qi x8, qn, qn, qn] [vi s0] [(54, m0)]) :=
  Sim.shift 5 (G := fun n => if x8 = 0 then RL n 0 202 [qn, qn, qi x2, qi x3, qi x4, qr 1, qi x6, qn, qi x8, qi s0, qi 0, qn] [] [(54, m0)] else RL n 0 182 [qn, qn, qi x2, qi x3, qi x4, qr 1, qi x6, qn, qi x8, qi s0, qi 0, qn] [] [(54, m0)]) (fun _ => rfl) (Sim.ite (fun _ => l_law_b202_ok x2 x3 x4 x6 x8 s0 0 m0) (fun _ => Sim.shift 3 (G := fun n => if x3 = 10 then RL n 0 194 [qn, qn, qi x2, qi x3, qi x4, qr 1, qi x6, qn, qi x8, qi s0, qi 0, qn] [] [(54, m0)] else RL n 0 188 [qn, qn, qi x2, qi x3, qi x4, qr 1, qi x6, qn, qi x8, qi s0, qi 0, qn] [] [(54, m0)]) (fun _ => rfl) (Sim.ite (fun _ => l_law_b194_ok x2 x3 x4 x6 x8 s0 0 m0) (fun _ => Sim.shift 3 (G := fun n => if x3 = 11 then RL n 0 194 [qn, qn, qi x2, qi x3, qi x4, qr 1, qi x6, qn, qi x8, qi s0, qi 0, qn] [] [(54, m0)] else RL n 0 202 [qn, qn, qi x2, qi x3, qi x4, qr 1, qi x6, qn, qi x8, qi s0, qi 0, qn] [] [(54, m0)]) (fun _ => rfl) (Sim.ite (fun _ => l_law_b194_ok x2 x3 x4 x6 x8 s0 0 m0) (fun _ => l_law_b202_ok x2 x3 x4 x6 x8 s0 0 m0))))))
def l_law_b160 (x2 x3 x4 x6 s0 : Int) (m0 : OMem) : Option (Int × OWd) := if s0 = 0 then (l_law_b172 x2 x3 x4 x6 s0 0 m0) else (l_law_b172 x2 x3 x4 x6 s0 1 m0)
set_option maxRecDepth 65536 in
set_option maxHeartbeats 16000000 in
theorem l_law_b160_ok (x2 x3 x4 x6 s0 : Int) (m0 : OMem) : Sim (l_law_b160 x2 x3 x4 x6 s0 m0) (fun (r, w) _ => some (some (vi r), w)) (fun n => RL n 0 160 [qn, qn, qi x2, qi x3, qi x4, qr 1, qi x6, qn, qn, qn, qn, qn] [vi s0] [(54, m0)]) :=
  Sim.shift 3 (G := fun n => if s0 = 0 then RL n 0 171 [qn, qn, qi x2, qi x3, qi x4, qr 1, qi x6, qn, qi s0, qn, qn, qn] [] [(54, m0)] else RL n 0 167 [qn, qn, qi x2, qi x3, qi x4, qr 1, qi x6, qn, qi s0, qn, qn, qn] [] [(54, m0)]) (fun _ => rfl) (Sim.ite (fun _ => Sim.shift 1 (G := fun n => RL n 0 172 [qn, qn, qi x2, qi x3, qi x4, qr 1, qi x6, qn, qi s0, qn, qn, qn] [vi 0] [(54, m0)]) (fun _ => rfl) (l_law_b172_ok x2 x3 x4 x6 s0 0 m0)) (fun _ => Sim.shift 2 (G := fun n => RL n 0 172 [qn, qn, qi x2, qi x3, qi x4, qr 1, qi x6, qn, qi s0, qn, qn, qn] [vi 1] [(54, m0)]) (fun _ => rfl) (l_law_b172_ok x2 x3 x4 x6 s0 1 m0)))
def l_law_b159 (x2 x3 x4 x6 : Int) (m0 : OMem) : Option (Int × OWd) := l_law_b160 x2 x3 x4 x6 0 m0
set_option maxRecDepth 65536 in
set_option maxHeartbeats 16000000 in
theorem l_law_b159_ok (x2 x3 x4 x6 : Int) (m0 : OMem) : Sim (l_law_b159 x2 x3 x4 x6 m0) (fun (r, w) _ => some (some (vi r), w)) (fun n => RL n 0 159 [qn, qn, qi x2, qi x3, qi x4, qr 1, qi x6, qn, qn, qn, qn, qn] [] [(54, m0)]) :=
  Sim.shift 1 (G := fun n => RL n 0 160 [qn, qn, qi x2, qi x3, qi x4, qr 1, qi x6, qn, qn, qn, qn, qn] [vi 0] [(54, m0)]) (fun _ => rfl) (l_law_b160_ok x2 x3 x4 x6 0 m0)
def l_law_b134 (x2 x3 x4 x6 x7 : Int) (m0 : OMem) : Option (Int × OWd) := if x6 = 0 then (l_law_b159 x2 x3 x4 x6 m0) else (if x3 < 1 then (l_law_b159 x2 x3 x4 x6 m0) else (if 15 < x3 then (l_law_b159 x2 x3 x4 x6 m0) else (if x7 = 0 then (l_law_b159 x2 x3 x4 x6 m0) else (l_law_b160 x2 x3 x4 x6 1 m0))))
set_option maxRecDepth 65536 in
set_option maxHeartbeats 16000000 in
theorem l_law_b134_ok (x2 x3 x4 x6 x7 : Int) (m0 : OMem) : Sim (l_law_b134 x2 x3 x4 x6 x7 m0) (fun (r, w) _ => some (some (vi r), w)) (fun n => RL n 0 134 [qn, qn, qi x2, qi x3, qi x4, qr 1, qi x6, qi x7, qn, qn, qn, qn] [] [(54, m0)]) :=
  Sim.shift 2 (G := fun n => if x6 = 0 then RL n 0 159 [qn, qn, qi x2, qi x3, qi x4, qr 1, qi x6, qi x7, qn, qn, qn, qn] [] [(54, m0)] else RL n 0 139 [qn, qn, qi x2, qi x3, qi x4, qr 1, qi x6, qi x7, qn, qn, qn, qn] [] [(54, m0)]) (fun _ => rfl) (Sim.ite (fun _ => Sim.jmp (l_law_b159_ok x2 x3 x4 x6 m0) rfl (fun _ => rfl)) (fun _ => Sim.shift 3 (G := fun n => if x3 < 1 then RL n 0 159 [qn, qn, qi x2, qi x3, qi x4, qr 1, qi x6, qi x7, qn, qn, qn, qn] [] [(54, m0)] else RL n 0 144 [qn, qn, qi x2, qi x3, qi x4, qr 1, qi x6, qi x7, qn, qn, qn, qn] [] [(54, m0)]) (fun _ => rfl) (Sim.ite (fun _ => Sim.jmp (l_law_b159_ok x2 x3 x4 x6 m0) rfl (fun _ => rfl)) (fun _ => Sim.shift 3 (G := fun n => if 15 < x3 then RL n 0 159 [qn, qn, qi x2, qi x3, qi x4, qr 1, qi x6, qi x7, qn, qn, qn, qn] [] [(54, m0)] else RL n 0 150 [qn, qn, qi x2, qi x3, qi x4, qr 1, qi x6, qi x7, qn, qn, qn, qn] [] [(54, m0)]) (fun _ => rfl) (Sim.ite (fun _ => Sim.jmp (l_law_b159_ok x2 x3 x4 x6 m0) rfl (fun _ => rfl)) (fun _ => Sim.shift 2 (G := fun n => if x7 = 0 then RL n 0 159 [qn, qn, qi x2, qi x3, qi x4, qr 1, qi x6, qi x7, qn, qn, qn, qn] [] [(54, m0)] else RL n 0 155 [qn, qn, qi x2, qi x3, qi x4, qr 1, qi x6, qi x7, qn, qn, qn, qn] [] [(54, m0)]) (fun _ => rfl) (Sim.ite (fun _ => Sim.jmp (l_law_b159_ok x2 x3 x4 x6 m0) rfl (fun _ => rfl)) (fun _ => Sim.shift 2 (G := fun n => RL n 0 160 [qn, qn, qi x2, qi x3, qi x4, qr 1, qi x6, qn, qn, qn, qn, qn] [vi 1] [(54, m0)]) (fun _ => rfl) (l_law_b160_ok x2 x3 x4 x6 1 m0)))))))))
def l_law_b61 (x2 x3 x4 x6 s0 : Int) (m0 : OMem) : Option (Int × OWd) := l_law_b134 x2 x3 x4 x6 s0 m0
set_option maxRecDepth 65536 in
set_option maxHeartbeats 16000000 in
theorem l_law_b61_ok (x2 x3 x4 x6 s0 : Int) (m0 : OMem) : Sim (l_law_b61 x2 x3 x4 x6 s0 m0) (fun (r, w) _ => some (some (vi r), w)) (fun n => RL n 0 61 [qn, qn, qi x2, qi x3, qi x4, qr 1, qi x6, qn, qn, qn, qn, qn] [vi s0] [(54, m0)]) :=
  Sim.shift 2 (G := fun n => RL n 0 134 [qn, qn, qi x2, qi x3, qi x4, qr 1, qi x6, qi s0, qn, qn, qn, qn] [] [(54, m0)]) (fun _ => rfl) (l_law_b134_ok x2 x3 x4 x6 s0 m0)
def l_law_b60 (x2 x3 x4 x6 : Int) (m0 : OMem) : Option (Int × OWd) := l_law_b61 x2 x3 x4 x6 0 m0
set_option maxRecDepth 65536 in
set_option maxHeartbeats 16000000 in
theorem l_law_b60_ok (x2 x3 x4 x6 : Int) (m0 : OMem) : Sim (l_law_b60 x2 x3 x4 x6 m0) (fun (r, w) _ => some (some (vi r), w)) (fun n => RL n 0 60 [qn, qn, qi x2, qi x3, qi x4, qr 1, qi x6, qn, qn, qn, qn, qn] [] [(54, m0)]) :=
  Sim.shift 1 (G := fun n => RL n 0 61 [qn, qn, qi x2, qi x3, qi x4, qr 1, qi x6, qn, qn, qn, qn, qn] [vi 0] [(54, m0)]) (fun _ => rfl) (l_law_b61_ok x2 x3 x4 x6 0 m0)
def l_law_b44 (x2 x3 x4 x6 : Int) (m0 : OMem) : Option (Int × OWd) := if x4 < 0 then (l_law_b60 x2 x3 x4 x6 m0) else (if 7 < x4 then (l_law_b60 x2 x3 x4 x6 m0) else (l_law_b61 x2 x3 x4 x6 1 m0))
set_option maxRecDepth 65536 in
set_option maxHeartbeats 16000000 in
theorem l_law_b44_ok (x2 x3 x4 x6 : Int) (m0 : OMem) : Sim (l_law_b44 x2 x3 x4 x6 m0) (fun (r, w) _ => some (some (vi r), w)) (fun n => RL n 0 44 [qn, qn, qi x2, qi x3, qi x4, qr 1, qi x6, qn, qn, qn, qn, qn] [] [(54, m0)]) :=
  Sim.shift 2 (G := fun n => if x4 < 0 then RL n 0 60 [qn, qn, qi x2, qi x3, qi x4, qr 1, qi x6, qn, qn, qn, qn, qn] [] [(54, m0)] else RL n 0 49 [qn, qn, qi x2, qi x3, qi x4, qr 1, qi x6, qn, qn, qn, qn, qn] [] [(54, m0)]) (fun _ => rfl) (Sim.ite (fun _ => l_law_b60_ok x2 x3 x4 x6 m0) (fun _ => Sim.shift 3 (G := fun n => if 7 < x4 then RL n 0 60 [qn, qn, qi x2, qi x3, qi x4, qr 1, qi x6, qn, qn, qn, qn, qn] [] [(54, m0)] else RL n 0 56 [qn, qn, qi x2, qi x3, qi x4, qr 1, qi x6, qn, qn, qn, qn, qn] [] [(54, m0)]) (fun _ => rfl) (Sim.ite (fun _ => l_law_b60_ok x2 x3 x4 x6 m0) (fun _ => Sim.shift 2 (G := fun n => RL n 0 61 [qn, qn, qi x2, qi x3, qi x4, qr 1, qi x6, qn, qn, qn, qn, qn] [vi 1] [(54, m0)]) (fun _ => rfl) (l_law_b61_ok x2 x3 x4 x6 1 m0)))))
def l_law_b92 (x2 x3 x4 x6 s0 : Int) (m0 : OMem) : Option (Int × OWd) := l_law_b134 x2 x3 x4 x6 s0 m0
set_option maxRecDepth 65536 in
set_option maxHeartbeats 16000000 in
theorem l_law_b92_ok (x2 x3 x4 x6 s0 : Int) (m0 : OMem) : Sim (l_law_b92 x2 x3 x4 x6 s0 m0) (fun (r, w) _ => some (some (vi r), w)) (fun n => RL n 0 92 [qn, qn, qi x2, qi x3, qi x4, qr 1, qi x6, qn, qn, qn, qn, qn] [vi s0] [(54, m0)]) :=
  Sim.shift 2 (G := fun n => RL n 0 134 [qn, qn, qi x2, qi x3, qi x4, qr 1, qi x6, qi s0, qn, qn, qn, qn] [] [(54, m0)]) (fun _ => rfl) (l_law_b134_ok x2 x3 x4 x6 s0 m0)
def l_law_b91 (x2 x3 x4 x6 : Int) (m0 : OMem) : Option (Int × OWd) := l_law_b92 x2 x3 x4 x6 0 m0
set_option maxRecDepth 65536 in
set_option maxHeartbeats 16000000 in
theorem l_law_b91_ok (x2 x3 x4 x6 : Int) (m0 : OMem) : Sim (l_law_b91 x2 x3 x4 x6 m0) (fun (r, w) _ => some (some (vi r), w)) (fun n => RL n 0 91 [qn, qn, qi x2, qi x3, qi x4, qr 1, qi x6, qn, qn, qn, qn, qn] [] [(54, m0)]) :=
  Sim.shift 1 (G := fun n => RL n 0 92 [qn, qn, qi x2, qi x3, qi x4, qr 1, qi x6, qn, qn, qn, qn, qn] [vi 0] [(54, m0)]) (fun _ => rfl) (l_law_b92_ok x2 x3 x4 x6 0 m0)
def l_law_b76 (x2 x3 x4 x6 : Int) (m0 : OMem) : Option (Int × OWd) := if x4 < 0 then (l_law_b91 x2 x3 x4 x6 m0) else (if 3 < x4 then (l_law_b91 x2 x3 x4 x6 m0) else (l_law_b92 x2 x3 x4 x6 1 m0))
set_option maxRecDepth 65536 in
set_option maxHeartbeats 16000000 in
theorem l_law_b76_ok (x2 x3 x4 x6 : Int) (m0 : OMem) : Sim (l_law_b76 x2 x3 x4 x6 m0) (fun (r, w) _ => some (some (vi r), w)) (fun n => RL n 0 76 [qn, qn, qi x2, qi x3, qi x4, qr 1, qi x6, qn, qn, qn, qn, qn] [] [(54, m0)]) :=
  Sim.shift 2 (G := fun n => if x4 < 0 then RL n 0 91 [qn, qn, qi x2, qi x3, qi x4, qr 1, qi x6, qn, qn, qn, qn, qn] [] [(54, m0)] else RL n 0 81 [qn, qn, qi x2, qi x3, qi x4, qr 1, qi x6, qn, qn, qn, qn, qn] [] [(54, m0)]) (fun _ => rfl) (Sim.ite (fun _ => l_law_b91_ok x2 x3 x4 x6 m0) (fun _ => Sim.shift 3 (G := fun n => if 3 < x4 then RL n 0 91 [qn, qn, qi x2, qi x3, qi x4, qr 1, qi x6, qn, qn, qn, qn, qn] [] [(54, m0)] else RL n 0 87 [qn, qn, qi x2, qi x3, qi x4, qr 1, qi x6, qn, qn, qn, qn, qn] [] [(54, m0)]) (fun _ => rfl) (Sim.ite (fun _ => l_law_b91_ok x2 x3 x4 x6 m0) (fun _ => Sim.shift 2 (G := fun n => RL n 0 92 [qn, qn, qi x2, qi x3, qi x4, qr 1, qi x6, qn, qn, qn, qn, qn] [vi 1] [(54, m0)]) (fun _ => rfl) (l_law_b92_ok x2 x3 x4 x6 1 m0)))))
def l_law_b126 (x2 x3 x4 x6 s0 : Int) (m0 : OMem) : Option (Int × OWd) := l_law_b134 x2 x3 x4 x6 s0 m0
set_option maxRecDepth 65536 in
set_option maxHeartbeats 16000000 in
theorem l_law_b126_ok (x2 x3 x4 x6 s0 : Int) (m0 : OMem) : Sim (l_law_b126 x2 x3 x4 x6 s0 m0) (fun (r, w) _ => some (some (vi r), w)) (fun n => RL n 0 126 [qn, qn, qi x2, qi x3, qi x4, qr 1, qi x6, qn, qn, qn, qn, qn] [vi s0] [(54, m0)]) :=
  Sim.shift 2 (G := fun n => RL n 0 134 [qn, qn, qi x2, qi x3, qi x4, qr 1, qi x6, qi s0, qn, qn, qn, qn] [] [(54, m0)]) (fun _ => rfl) (l_law_b134_ok x2 x3 x4 x6 s0 m0)
def l_law_b125 (x2 x3 x4 x6 : Int) (m0 : OMem) : Option (Int × OWd) := l_law_b126 x2 x3 x4 x6 0 m0
set_option maxRecDepth 65536 in
set_option maxHeartbeats 16000000 in
theorem l_law_b125_ok (x2 x3 x4 x6 : Int) (m0 : OMem) : Sim (l_law_b125 x2 x3 x4 x6 m0) (fun (r, w) _ => some (some (vi r), w)) (fun n => RL n 0 125 [qn, qn, qi x2, qi x3, qi x4, qr 1, qi x6, qn, qn, qn, qn, qn] [] [(54, m0)]) :=
  Sim.shift 1 (G := fun n => RL n 0 126 [qn, qn, qi x2, qi x3, qi x4, qr 1, qi x6, qn, qn, qn, qn, qn] [vi 0] [(54, m0)]) (fun _ => rfl) (l_law_b126_ok x2 x3 x4 x6 0 m0)
def l_law_b109 (x2 x3 x4 x6 : Int) (m0 : OMem) : Option (Int × OWd) := if x4 < 0 then (l_law_b125 x2 x3 x4 x6 m0) else (if 23 < x4 then (l_law_b125 x2 x3 x4 x6 m0) else (l_law_b126 x2 x3 x4 x6 1 m0))
set_option maxRecDepth 65536 in
set_option maxHeartbeats 16000000 in
theorem l_law_b109_ok (x2 x3 x4 x6 : Int) (m0 : OMem) : Sim (l_law_b109 x2 x3 x4 x6 m0) (fun (r, w) _ => some (some (vi r), w)) (fun n => RL n 0 109 [qn, qn, qi x2, qi x3, qi x4, qr 1, qi x6, qn, qn, qn, qn, qn] [] [(54, m0)]) :=
  Sim.shift 2 (G := fun n => if x4 < 0 then RL n 0 125 [qn, qn, qi x2, qi x3, qi x4, qr 1, qi x6, qn, qn, qn, qn, qn] [] [(54, m0)] else RL n 0 114 [qn, qn, qi x2, qi x3, qi x4, qr 1, qi x6, qn, qn, qn, qn, qn] [] [(54, m0)]) (fun _ => rfl) (Sim.ite (fun _ => l_law_b125_ok x2 x3 x4 x6 m0) (fun _ => Sim.shift 3 (G := fun n => if 23 < x4 then RL n 0 125 [qn, qn, qi x2, qi x3, qi x4, qr 1, qi x6, qn, qn, qn, qn, qn] [] [(54, m0)] else RL n 0 121 [qn, qn, qi x2, qi x3, qi x4, qr 1, qi x6, qn, qn, qn, qn, qn] [] [(54, m0)]) (fun _ => rfl) (Sim.ite (fun _ => l_law_b125_ok x2 x3 x4 x6 m0) (fun _ => Sim.shift 2 (G := fun n => RL n 0 126 [qn, qn, qi x2, qi x3, qi x4, qr 1, qi x6, qn, qn, qn, qn, qn] [vi 1] [(54, m0)]) (fun _ => rfl) (l_law_b126_ok x2 x3 x4 x6 1 m0)))))
def l_law_b26 (x2 x3 x4 s0 : Int) (m0 : OMem) : Option (Int × OWd) := if x3 = 2 then (l_law_b44 x2 x3 x4 s0 m0) else (if x3 = 3 then (l_law_b44 x2 x3 x4 s0 m0) else (if x3 = 12 then (l_law_b44 x2 x3 x4 s0 m0) else (if x3 = 4 then (l_law_b76 x2 x3 x4 s0 m0) else (if x3 = 5 then (l_law_b76 x2 x3 x4 s0 m0) else (if x3 = 10 then (l_law_b109 x2 x3 x4 s0 m0) else (if x3 = 11 then (l_law_b109 x2 x3 x4 s0 m0) else (l_law_b134 x2 x3 x4 s0 1 m0)))))))
set_option maxRecDepth 65536 in
set_option maxHeartbeats 16000000 in
theorem l_law_b26_ok (x2 x3 x4 s0 : Int) (m0 : OMem) : Sim (l_law_b26 x2 x3 x4 s0 m0) (fun (r, w) _ => some (some (vi r), w)) (fun n => RL n 0 26 [qn, qn, qi x2, qi x3, qi x4, qr 1, qn, qn, qn, qn, qn, qn] [vi s0] [(54, m0)]) :=
  Sim.shift 4 (G := fun n => if x3 = 2 then RL n 0 44 [qn, qn, qi x2, qi x3, qi x4, qr 1, qi s0, qn, qn, qn, qn, qn] [] [(54, m0)] else RL n 0 33 [qn, qn, qi x2, qi x3, qi x4, qr 1, qi s0, qn, qn, qn, qn, qn] [] [(54, m0)]) (fun _ => rfl) (Sim.ite (fun _ => l_law_b44_ok x2 x3 x4 s0 m0) (fun _ => Sim.shift 3 (G := fun n => if x3 = 3 then RL n 0 44 [qn, qn, qi x2, qi x3, qi x4, qr 1, qi s0, qn, qn, qn, qn, qn] [] [(54, m0)] else RL n 0 38 [qn, qn, qi x2, qi x3, qi x4, qr 1, qi s0, qn, qn, qn, qn, qn] [] [(54, m0)]) (fun _ => rfl) (Sim.ite (fun _ => l_law_b44_ok x2 x3 x4 s0 m0) (fun _ => Sim.shift 3 (G := fun n => if x3 = 12 then RL n 0 44 [qn, qn, qi x2, qi x3, qi x4, qr 1, qi s0, qn, qn, qn, qn, qn] [] [(54, m0)] else RL n 0 66 [qn, qn, qi x2, qi x3, qi x4, qr 1, qi s0, qn, qn, qn, qn, qn] [] [(54, m0)]) (fun _ => rfl) (Sim.ite (fun _ => l_law_b44_ok x2 x3 x4 s0 m0) (fun _ => Sim.shift 3 (G := fun n => if x3 = 4 then RL n 0 76 [qn, qn, qi x2, qi x3, qi x4, qr 1, qi s0, qn, qn, qn, qn, qn] [] [(54, m0)] else RL n 0 71 [qn, qn, qi x2, qi x3, qi x4, qr 1, qi s0, qn, qn, qn, qn, qn] [] [(54, m0)]) (fun _ => rfl) (Sim.ite (fun _ => l_law_b76_ok x2 x3 x4 s0 m0) (fun _ => Sim.shift 3 (G := fun n => if x3 = 5 then RL n 0 76 [qn, qn, qi x2, qi x3, qi x4, qr 1, qi s0, qn, qn, qn, qn, qn] [] [(54, m0)] else RL n 0 97 [qn, qn, qi x2, qi x3, qi x4, qr 1, qi s0, qn, qn, qn, qn, qn] [] [(54, m0)]) (fun _ => rfl) (Sim.ite (fun _ => l_law_b76_ok x2 x3 x4 s0 m0) (fun _ => Sim.shift 3 (G := fun n => if x3 = 10 then RL n 0 109 [qn, qn, qi x2, qi x3, qi x4, qr 1, qi s0, qn, qn, qn, qn, qn] [] [(54, m0)] else RL n 0 103 [qn, qn, qi x2, qi x3, qi x4, qr 1, qi s0, qn, qn, qn, qn, qn] [] [(54, m0)]) (fun _ => rfl) (Sim.ite (fun _ => l_law_b109_ok x2 x3 x4 s0 m0) (fun _ => Sim.shift 3 (G := fun n => if x3 = 11 then RL n 0 109 [qn, qn, qi x2, qi x3, qi x4, qr 1, qi s0, qn, qn, qn, qn, qn] [] [(54, m0)] else RL n 0 131 [qn, qn, qi x2, qi x3, qi x4, qr 1, qi s0, qn, qn, qn, qn, qn] [] [(54, m0)]) (fun _ => rfl) (Sim.ite (fun _ => l_law_b109_ok x2 x3 x4 s0 m0) (fun _ => Sim.shift 2 (G := fun n => RL n 0 134 [qn, qn, qi x2, qi x3, qi x4, qr 1, qi s0, qi 1, qn, qn, qn, qn] [] [(54, m0)]) (fun _ => rfl) (l_law_b134_ok x2 x3 x4 s0 1 m0)))))))))))))))
def l_law_b25 (x2 x3 x4 : Int) (m0 : OMem) : Option (Int × OWd) := l_law_b26 x2 x3 x4 0 m0
set_option maxRecDepth 65536 in
set_option maxHeartbeats 16000000 in
theorem l_law_b25_ok (x2 x3 x4 : Int) (m0 : OMem) : Sim (l_law_b25 x2 x3 x4 m0) (fun (r, w) _ => some (some (vi r), w)) (fun n => RL n 0 25 [qn, qn, qi x2, qi x3, qi x4, qr 1, qn, qn, qn, qn, qn, qn] [] [(54, m0)]) :=
  Sim.shift 1 (G := fun n => RL n 0 26 [qn, qn, qi x2, qi x3, qi x4, qr 1, qn, qn, qn, qn, qn, qn] [vi 0] [(54, m0)]) (fun _ => rfl) (l_law_b26_ok x2 x3 x4 0 m0)
def l_law (x0 x1 x2 x3 x4 : Int) : Option (Int × OWd) := (f_init x0 x1 z0).bind fun m_21 => (if x2 < 0 then (l_law_b25 x2 x3 x4 m_21) else (if 7 < x2 then (l_law_b25 x2 x3 x4 m_21) else (l_law_b26 x2 x3 x4 1 m_21)))
set_option maxRecDepth 65536 in
set_option maxHeartbeats 16000000 in
theorem l_law_ok (x0 x1 x2 x3 x4 : Int) : Sim (l_law x0 x1 x2 x3 x4) (fun (r, w) _ => some (some (vi r), w)) (fun n => RL n 0 0 [qi x0, qi x1, qi x2, qi x3, qi x4, qn, qn, qn, qn, qn, qn, qn] [] []) :=
  Sim.shift 5 (G := fun n => (R n 0 0 [qr 0, qi x0, qi x1, qn] [] 0 z0).bind fun y => RLi n 0 9 [qi x0, qi x1, qi x2, qi x3, qi x4, qn, qn, qn, qn, qn, qn, qn] [vr 1] [(0, z0)] 0 y) (fun _ => rfl) (Sim.call (f_init_ok x0 x1 z0) (fun _ _ => rfl) (runP_mono _ _ _ _ _ _) (fun _ => cond_Mono (runL_mono _ _ _ _ _)) (fun m_21 => Sim.shift 0 (G := fun n => RL n 0 9 [qi x0, qi x1, qi x2, qi x3, qi x4, qn, qn, qn, qn, qn, qn, qn] [vr 1] [(54, m_21)]) (fun _ => rfl) (Sim.shift 3 (G := fun n => if x2 < 0 then RL n 0 25 [qi x0, qi x1, qi x2, qi x3, qi x4, qr 1, qn, qn, qn, qn, qn, qn] [] [(54, m_21)] else RL n 0 15 [qi x0, qi x1, qi x2, qi x3, qi x4, qr 1, qn, qn, qn, qn, qn, qn] [] [(54, m_21)]) (fun _ => rfl) (Sim.ite (fun _ => Sim.jmp (l_law_b25_ok x2 x3 x4 m_21) rfl (fun _ => rfl)) (fun _ => Sim.shift 3 (G := fun n => if 7 < x2 then RL n 0 25 [qn, qn, qi x2, qi x3, qi x4, qr 1, qn, qn, qn, qn, qn, qn] [] [(54, m_21)] else RL n 0 21 [qn, qn, qi x2, qi x3, qi x4, qr 1, qn, qn, qn, qn, qn, qn] [] [(54, m_21)]) (fun _ => rfl) (Sim.ite (fun _ => l_law_b25_ok x2 x3 x4 m_21) (fun _ => Sim.shift 2 (G := fun n => RL n 0 26 [qn, qn, qi x2, qi x3, qi x4, qr 1, qn, qn, qn, qn, qn, qn] [vi 1] [(54, m_21)]) (fun _ => rfl) (l_law_b26_ok x2 x3 x4 1 m_21))))))))
def nmT : Nat → MethodName := fun q => cond (Nat.blt q 8) (cond (Nat.blt q 4) (cond (Nat.blt q 2) (cond (Nat.blt q 1) (cond (Nat.beq q 0) ((⟨"IncrLinker", "<init>", "(II)V"⟩ : MethodName)) (⟨"IncrLinker", "<init>", "(II)V"⟩ : MethodName)) (cond (Nat.beq q 1) ((⟨"IncrLinker", "beginModule", "(I)Z"⟩ : MethodName)) (⟨"IncrLinker", "<init>", "(II)V"⟩ : MethodName))) (cond (Nat.blt q 3) (cond (Nat.beq q 2) ((⟨"IncrLinker", "addFunction", "(I)Z"⟩ : MethodName)) (⟨"IncrLinker", "<init>", "(II)V"⟩ : MethodName)) (cond (Nat.beq q 3) ((⟨"IncrLinker", "emit", "(II)Z"⟩ : MethodName)) (⟨"IncrLinker", "<init>", "(II)V"⟩ : MethodName)))) (cond (Nat.blt q 6) (cond (Nat.blt q 5) (cond (Nat.beq q 4) ((⟨"IncrLinker", "argOk", "(II)Z"⟩ : MethodName)) (⟨"IncrLinker", "<init>", "(II)V"⟩ : MethodName)) (cond (Nat.beq q 5) ((⟨"IncrLinker", "bufferSize", "()I"⟩ : MethodName)) (⟨"IncrLinker", "<init>", "(II)V"⟩ : MethodName))) (cond (Nat.blt q 7) (cond (Nat.beq q 6) ((⟨"IncrLinker", "commit", "()I"⟩ : MethodName)) (⟨"IncrLinker", "<init>", "(II)V"⟩ : MethodName)) (cond (Nat.beq q 7) ((⟨"IncrLinker", "hasBadJump", "()Z"⟩ : MethodName)) (⟨"IncrLinker", "<init>", "(II)V"⟩ : MethodName))))) (cond (Nat.blt q 12) (cond (Nat.blt q 10) (cond (Nat.blt q 9) (cond (Nat.beq q 8) ((⟨"IncrLinker", "hasBadData", "()Z"⟩ : MethodName)) (⟨"IncrLinker", "<init>", "(II)V"⟩ : MethodName)) (cond (Nat.beq q 9) ((⟨"IncrLinker", "hasDuplicate", "()Z"⟩ : MethodName)) (⟨"IncrLinker", "<init>", "(II)V"⟩ : MethodName))) (cond (Nat.blt q 11) (cond (Nat.beq q 10) ((⟨"IncrLinker", "installBuffer", "()V"⟩ : MethodName)) (⟨"IncrLinker", "<init>", "(II)V"⟩ : MethodName)) (cond (Nat.beq q 11) ((⟨"IncrLinker", "clearSymbols", "(I)V"⟩ : MethodName)) (⟨"IncrLinker", "<init>", "(II)V"⟩ : MethodName)))) (cond (Nat.blt q 14) (cond (Nat.blt q 13) (cond (Nat.beq q 12) ((⟨"IncrLinker", "linkSlot", "(I)V"⟩ : MethodName)) (⟨"IncrLinker", "<init>", "(II)V"⟩ : MethodName)) (cond (Nat.beq q 13) ((⟨"IncrLinker", "placeFunction", "(I)V"⟩ : MethodName)) (⟨"IncrLinker", "<init>", "(II)V"⟩ : MethodName))) (cond (Nat.blt q 15) (cond (Nat.beq q 14) ((⟨"IncrLinker", "publishThunks", "(I)V"⟩ : MethodName)) (⟨"IncrLinker", "<init>", "(II)V"⟩ : MethodName)) (cond (Nat.blt q 16) (cond (Nat.beq q 15) ((⟨"IncrLinker", "codeSize", "(I)I"⟩ : MethodName)) (⟨"IncrLinker", "<init>", "(II)V"⟩ : MethodName)) (cond (Nat.beq q 16) ((⟨"IncrLinker", "definedIn", "(I)I"⟩ : MethodName)) (⟨"IncrLinker", "<init>", "(II)V"⟩ : MethodName))))))
def byT : Nat → ByteArray := fun q => cond (Nat.blt q 8) (cond (Nat.blt q 4) (cond (Nat.blt q 2) (cond (Nat.blt q 1) (cond (Nat.beq q 0) (prog_1_method_1_code) prog_1_method_1_code) (cond (Nat.beq q 1) (prog_1_method_2_code) prog_1_method_1_code)) (cond (Nat.blt q 3) (cond (Nat.beq q 2) (prog_1_method_4_code) prog_1_method_1_code) (cond (Nat.beq q 3) (prog_1_method_5_code) prog_1_method_1_code))) (cond (Nat.blt q 6) (cond (Nat.blt q 5) (cond (Nat.beq q 4) (prog_1_method_6_code) prog_1_method_1_code) (cond (Nat.beq q 5) (prog_1_method_37_code) prog_1_method_1_code)) (cond (Nat.blt q 7) (cond (Nat.beq q 6) (prog_1_method_7_code) prog_1_method_1_code) (cond (Nat.beq q 7) (prog_1_method_8_code) prog_1_method_1_code)))) (cond (Nat.blt q 12) (cond (Nat.blt q 10) (cond (Nat.blt q 9) (cond (Nat.beq q 8) (prog_1_method_9_code) prog_1_method_1_code) (cond (Nat.beq q 9) (prog_1_method_10_code) prog_1_method_1_code)) (cond (Nat.blt q 11) (cond (Nat.beq q 10) (prog_1_method_11_code) prog_1_method_1_code) (cond (Nat.beq q 11) (prog_1_method_12_code) prog_1_method_1_code))) (cond (Nat.blt q 14) (cond (Nat.blt q 13) (cond (Nat.beq q 12) (prog_1_method_13_code) prog_1_method_1_code) (cond (Nat.beq q 13) (prog_1_method_16_code) prog_1_method_1_code)) (cond (Nat.blt q 15) (cond (Nat.beq q 14) (prog_1_method_14_code) prog_1_method_1_code) (cond (Nat.blt q 16) (cond (Nat.beq q 15) (prog_1_method_36_code) prog_1_method_1_code) (cond (Nat.beq q 16) (prog_1_method_35_code) prog_1_method_1_code)))))
def fnmN : Nat → String × String := fun n => cond (Nat.blt n 18) (cond (Nat.blt n 9) (cond (Nat.blt n 4) (cond (Nat.blt n 2) (cond (Nat.blt n 1) (cond (Nat.beq n 0) (("used", "[Z")) ("", "")) (cond (Nat.beq n 1) (("dataCount", "[I")) ("", ""))) (cond (Nat.blt n 3) (cond (Nat.beq n 2) (("dataInit", "[I")) ("", "")) (cond (Nat.beq n 3) (("dataCur", "[I")) ("", "")))) (cond (Nat.blt n 6) (cond (Nat.blt n 5) (cond (Nat.beq n 4) (("funcCount", "[I")) ("", "")) (cond (Nat.beq n 5) (("funcSym", "[I")) ("", ""))) (cond (Nat.blt n 7) (cond (Nat.beq n 6) (("funcLen", "[I")) ("", "")) (cond (Nat.blt n 8) (cond (Nat.beq n 7) (("funcOff", "[I")) ("", "")) (cond (Nat.beq n 8) (("codeOp", "[I")) ("", "")))))) (cond (Nat.blt n 13) (cond (Nat.blt n 11) (cond (Nat.blt n 10) (cond (Nat.beq n 9) (("codeArg", "[I")) ("", "")) (cond (Nat.beq n 10) (("modCode", "[I")) ("", ""))) (cond (Nat.blt n 12) (cond (Nat.beq n 11) (("symSlot", "[I")) ("", "")) (cond (Nat.beq n 12) (("bufData", "[I")) ("", "")))) (cond (Nat.blt n 15) (cond (Nat.blt n 14) (cond (Nat.beq n 13) (("bufFuncSym", "[I")) ("", "")) (cond (Nat.beq n 14) (("bufFuncLen", "[I")) ("", ""))) (cond (Nat.blt n 16) (cond (Nat.beq n 15) (("bufFuncOff", "[I")) ("", "")) (cond (Nat.blt n 17) (cond (Nat.beq n 16) (("bufOp", "[I")) ("", "")) (cond (Nat.beq n 17) (("bufArg", "[I")) ("", ""))))))) (cond (Nat.blt n 27) (cond (Nat.blt n 22) (cond (Nat.blt n 20) (cond (Nat.blt n 19) (cond (Nat.beq n 18) (("imageCap", "I")) ("", "")) (cond (Nat.beq n 19) (("imgOp", "[I")) ("", ""))) (cond (Nat.blt n 21) (cond (Nat.beq n 20) (("imgArg", "[I")) ("", "")) (cond (Nat.beq n 21) (("recBase", "[I")) ("", "")))) (cond (Nat.blt n 24) (cond (Nat.blt n 23) (cond (Nat.beq n 22) (("recCap", "[I")) ("", "")) (cond (Nat.beq n 23) (("thunk", "[I")) ("", ""))) (cond (Nat.blt n 25) (cond (Nat.beq n 24) (("globals", "[I")) ("", "")) (cond (Nat.blt n 26) (cond (Nat.beq n 25) (("stack", "[I")) ("", "")) (cond (Nat.beq n 26) (("retRec", "[I")) ("", "")))))) (cond (Nat.blt n 31) (cond (Nat.blt n 29) (cond (Nat.blt n 28) (cond (Nat.beq n 27) (("retPc", "[I")) ("", "")) (cond (Nat.beq n 28) (("nSlots", "I")) ("", ""))) (cond (Nat.blt n 30) (cond (Nat.beq n 29) (("slack", "I")) ("", "")) (cond (Nat.beq n 30) (("bufOpen", "Z")) ("", "")))) (cond (Nat.blt n 33) (cond (Nat.blt n 32) (cond (Nat.beq n 31) (("bufSlot", "I")) ("", "")) (cond (Nat.beq n 32) (("bufDataCount", "I")) ("", ""))) (cond (Nat.blt n 34) (cond (Nat.beq n 33) (("bufFuncCount", "I")) ("", "")) (cond (Nat.blt n 35) (cond (Nat.beq n 34) (("bufCode", "I")) ("", "")) (cond (Nat.beq n 35) (("imgTop", "I")) ("", "")))))))
def fkdN : Nat → Option (Nat × Nat × Bool) := fun n => cond (Nat.blt n 36) (cond (Nat.blt n 18) (cond (Nat.blt n 9) (cond (Nat.blt n 4) (cond (Nat.blt n 2) (cond (Nat.blt n 1) (cond (Nat.beq n 0) (some (0, 1, false)) none) (cond (Nat.beq n 1) (some (0, 2, false)) none)) (cond (Nat.blt n 3) (cond (Nat.beq n 2) (some (0, 3, false)) none) (cond (Nat.beq n 3) (some (0, 4, false)) none))) (cond (Nat.blt n 6) (cond (Nat.blt n 5) (cond (Nat.beq n 4) (some (0, 5, false)) none) (cond (Nat.beq n 5) (some (0, 6, false)) none)) (cond (Nat.blt n 7) (cond (Nat.beq n 6) (some (0, 7, false)) none) (cond (Nat.blt n 8) (cond (Nat.beq n 7) (some (0, 8, false)) none) (cond (Nat.beq n 8) (some (0, 9, false)) none))))) (cond (Nat.blt n 13) (cond (Nat.blt n 11) (cond (Nat.blt n 10) (cond (Nat.beq n 9) (some (0, 10, false)) none) (cond (Nat.beq n 10) (some (0, 11, false)) none)) (cond (Nat.blt n 12) (cond (Nat.beq n 11) (some (0, 12, false)) none) (cond (Nat.beq n 12) (some (0, 13, false)) none))) (cond (Nat.blt n 15) (cond (Nat.blt n 14) (cond (Nat.beq n 13) (some (0, 14, false)) none) (cond (Nat.beq n 14) (some (0, 15, false)) none)) (cond (Nat.blt n 16) (cond (Nat.beq n 15) (some (0, 16, false)) none) (cond (Nat.blt n 17) (cond (Nat.beq n 16) (some (0, 17, false)) none) (cond (Nat.beq n 17) (some (0, 18, false)) none)))))) (cond (Nat.blt n 27) (cond (Nat.blt n 22) (cond (Nat.blt n 20) (cond (Nat.blt n 19) (cond (Nat.beq n 18) (some (1, 0, false)) none) (cond (Nat.beq n 19) (some (0, 19, false)) none)) (cond (Nat.blt n 21) (cond (Nat.beq n 20) (some (0, 20, false)) none) (cond (Nat.beq n 21) (some (0, 21, false)) none))) (cond (Nat.blt n 24) (cond (Nat.blt n 23) (cond (Nat.beq n 22) (some (0, 22, false)) none) (cond (Nat.beq n 23) (some (0, 23, false)) none)) (cond (Nat.blt n 25) (cond (Nat.beq n 24) (some (0, 24, false)) none) (cond (Nat.blt n 26) (cond (Nat.beq n 25) (some (0, 25, false)) none) (cond (Nat.beq n 26) (some (0, 26, false)) none))))) (cond (Nat.blt n 31) (cond (Nat.blt n 29) (cond (Nat.blt n 28) (cond (Nat.beq n 27) (some (0, 27, false)) none) (cond (Nat.beq n 28) (some (1, 0, false)) none)) (cond (Nat.blt n 30) (cond (Nat.beq n 29) (some (1, 0, false)) none) (cond (Nat.beq n 30) (some (2, 0, false)) none))) (cond (Nat.blt n 33) (cond (Nat.blt n 32) (cond (Nat.beq n 31) (some (1, 0, false)) none) (cond (Nat.beq n 32) (some (1, 0, false)) none)) (cond (Nat.blt n 34) (cond (Nat.beq n 33) (some (1, 0, false)) none) (cond (Nat.blt n 35) (cond (Nat.beq n 34) (some (1, 0, false)) none) (cond (Nat.beq n 35) (some (1, 0, false)) none))))))) none
def fnmT : FN := fnmOf fnmN
def fkdT : FK := fkdOf fkdN
set_option maxRecDepth 65536 in
set_option maxHeartbeats 8000000 in
theorem cdk_0 : ∀ pc i len, cd_0 pc = some (i, len) → decode prog_1_method_1_code pc = .ok (i, len) ∧ chk pc i len = true := code_all 297 (fun _ h => cond_ge h) (by decide +kernel)
set_option maxRecDepth 65536 in
set_option maxHeartbeats 8000000 in
theorem cdk_1 : ∀ pc i len, cd_1 pc = some (i, len) → decode prog_1_method_2_code pc = .ok (i, len) ∧ chk pc i len = true := code_all 41 (fun _ h => cond_ge h) (by decide +kernel)
set_option maxRecDepth 65536 in
set_option maxHeartbeats 8000000 in
theorem cdk_2 : ∀ pc i len, cd_2 pc = some (i, len) → decode prog_1_method_4_code pc = .ok (i, len) ∧ chk pc i len = true := code_all 102 (fun _ h => cond_ge h) (by decide +kernel)
set_option maxRecDepth 65536 in
set_option maxHeartbeats 8000000 in
theorem cdk_3 : ∀ pc i len, cd_3 pc = some (i, len) → decode prog_1_method_5_code pc = .ok (i, len) ∧ chk pc i len = true := code_all 94 (fun _ h => cond_ge h) (by decide +kernel)
set_option maxRecDepth 65536 in
set_option maxHeartbeats 8000000 in
theorem cdk_4 : ∀ pc i len, cd_4 pc = some (i, len) → decode prog_1_method_6_code pc = .ok (i, len) ∧ chk pc i len = true := code_all 109 (fun _ h => cond_ge h) (by decide +kernel)
set_option maxRecDepth 65536 in
set_option maxHeartbeats 8000000 in
theorem cdk_5 : ∀ pc i len, cd_5 pc = some (i, len) → decode prog_1_method_37_code pc = .ok (i, len) ∧ chk pc i len = true := code_all 16 (fun _ h => cond_ge h) (by decide +kernel)
set_option maxRecDepth 65536 in
set_option maxHeartbeats 8000000 in
theorem cdk_6 : ∀ pc i len, cd_6 pc = some (i, len) → decode prog_1_method_7_code pc = .ok (i, len) ∧ chk pc i len = true := code_all 55 (fun _ h => cond_ge h) (by decide +kernel)
set_option maxRecDepth 65536 in
set_option maxHeartbeats 8000000 in
theorem cdk_7 : ∀ pc i len, cd_7 pc = some (i, len) → decode prog_1_method_8_code pc = .ok (i, len) ∧ chk pc i len = true := code_all 84 (fun _ h => cond_ge h) (by decide +kernel)
set_option maxRecDepth 65536 in
set_option maxHeartbeats 8000000 in
theorem cdk_8 : ∀ pc i len, cd_8 pc = some (i, len) → decode prog_1_method_9_code pc = .ok (i, len) ∧ chk pc i len = true := code_all 50 (fun _ h => cond_ge h) (by decide +kernel)
set_option maxRecDepth 65536 in
set_option maxHeartbeats 8000000 in
theorem cdk_9 : ∀ pc i len, cd_9 pc = some (i, len) → decode prog_1_method_10_code pc = .ok (i, len) ∧ chk pc i len = true := code_all 44 (fun _ h => cond_ge h) (by decide +kernel)
set_option maxRecDepth 65536 in
set_option maxHeartbeats 8000000 in
theorem cdk_10 : ∀ pc i len, cd_10 pc = some (i, len) → decode prog_1_method_11_code pc = .ok (i, len) ∧ chk pc i len = true := code_all 216 (fun _ h => cond_ge h) (by decide +kernel)
set_option maxRecDepth 65536 in
set_option maxHeartbeats 8000000 in
theorem cdk_11 : ∀ pc i len, cd_11 pc = some (i, len) → decode prog_1_method_12_code pc = .ok (i, len) ∧ chk pc i len = true := code_all 54 (fun _ h => cond_ge h) (by decide +kernel)
set_option maxRecDepth 65536 in
set_option maxHeartbeats 8000000 in
theorem cdk_12 : ∀ pc i len, cd_12 pc = some (i, len) → decode prog_1_method_13_code pc = .ok (i, len) ∧ chk pc i len = true := code_all 128 (fun _ h => cond_ge h) (by decide +kernel)
set_option maxRecDepth 65536 in
set_option maxHeartbeats 8000000 in
theorem cdk_13 : ∀ pc i len, cd_13 pc = some (i, len) → decode prog_1_method_16_code pc = .ok (i, len) ∧ chk pc i len = true := code_all 151 (fun _ h => cond_ge h) (by decide +kernel)
set_option maxRecDepth 65536 in
set_option maxHeartbeats 8000000 in
theorem cdk_14 : ∀ pc i len, cd_14 pc = some (i, len) → decode prog_1_method_14_code pc = .ok (i, len) ∧ chk pc i len = true := code_all 37 (fun _ h => cond_ge h) (by decide +kernel)
set_option maxRecDepth 65536 in
set_option maxHeartbeats 8000000 in
theorem cdk_15 : ∀ pc i len, cd_15 pc = some (i, len) → decode prog_1_method_36_code pc = .ok (i, len) ∧ chk pc i len = true := code_all 30 (fun _ h => cond_ge h) (by decide +kernel)
set_option maxRecDepth 65536 in
set_option maxHeartbeats 8000000 in
theorem cdk_16 : ∀ pc i len, cd_16 pc = some (i, len) → decode prog_1_method_35_code pc = .ok (i, len) ∧ chk pc i len = true := code_all 19 (fun _ h => cond_ge h) (by decide +kernel)
theorem t_code : ∀ q pc i len, pcode PP q pc = some (i, len) → decode (byT q) pc = .ok (i, len) ∧ chk pc i len = true := by
  intro q
  by_cases hq : q < 17
  · exact allN (Q := fun q => ∀ pc i len, pcode PP q pc = some (i, len) → decode (byT q) pc = .ok (i, len) ∧ chk pc i len = true) (N := 17) (⟨⟨⟨⟨⟨⟨⟨⟨⟨⟨⟨⟨⟨⟨⟨⟨⟨trivial, cdk_0⟩, cdk_1⟩, cdk_2⟩, cdk_3⟩, cdk_4⟩, cdk_5⟩, cdk_6⟩, cdk_7⟩, cdk_8⟩, cdk_9⟩, cdk_10⟩, cdk_11⟩, cdk_12⟩, cdk_13⟩, cdk_14⟩, cdk_15⟩, cdk_16⟩) q hq
  · intro pc i len h
    have h0 : PPcode q pc = none := cond_ge (by omega)
    have h1 : PPcode q pc = some (i, len) := h
    rw [h0] at h1; cases h1
set_option maxRecDepth 65536 in
set_option maxHeartbeats 8000000 in
theorem t_fld0 {a0 : Array Value} {Z : State} (hw : ∀ d ∈ tables_1, d.before a0 Z = true) : ∀ x e, PPfld x = some e → (Jvm.Cond.fieldLink "IncrLinker" x "IncrLinker" (fnmT e.1).1 (fnmT e.1).2).before a0 Z = true ∧ fkdT e.1 = some (e.2.1, e.2.2.1, e.2.2.2) :=
  tab_all (f := PPfld) 146 [(7, (0, 0, 1, false)), (13, (1, 0, 2, false)), (17, (2, 0, 3, false)), (20, (3, 0, 4, false)), (23, (4, 0, 5, false)), (26, (5, 0, 6, false)), (29, (6, 0, 7, false)), (32, (7, 0, 8, false)), (35, (8, 0, 9, false)), (38, (9, 0, 10, false)), (41, (10, 0, 11, false)), (44, (11, 0, 12, false)), (47, (12, 0, 13, false)), (50, (13, 0, 14, false)), (53, (14, 0, 15, false)), (56, (15, 0, 16, false)), (59, (16, 0, 17, false)), (62, (17, 0, 18, false)), (65, (18, 1, 0, false)), (69, (19, 0, 19, false)), (72, (20, 0, 20, false)), (75, (21, 0, 21, false)), (78, (22, 0, 22, false)), (81, (23, 0, 23, false)), (84, (24, 0, 24, false)), (87, (25, 0, 25, false)), (90, (26, 0, 26, false)), (93, (27, 0, 27, false)), (96, (28, 1, 0, false)), (99, (29, 1, 0, false)), (102, (30, 2, 0, false)), (106, (31, 1, 0, false)), (109, (32, 1, 0, false)), (112, (33, 1, 0, false)), (115, (34, 1, 0, false)), (145, (35, 1, 0, false))] (fun _ h => cond_ge h) (by decide +kernel) (Q := fun x e => (Jvm.Cond.fieldLink "IncrLinker" x "IncrLinker" (fnmT e.1).1 (fnmT e.1).2).before a0 Z = true ∧ fkdT e.1 = some (e.2.1, e.2.2.1, e.2.2.2)) ⟨⟨hw _ (List.mem_of_getElem? (i := 10) rfl), rfl⟩, ⟨hw _ (List.mem_of_getElem? (i := 13) rfl), rfl⟩, ⟨hw _ (List.mem_of_getElem? (i := 15) rfl), rfl⟩, ⟨hw _ (List.mem_of_getElem? (i := 17) rfl), rfl⟩, ⟨hw _ (List.mem_of_getElem? (i := 19) rfl), rfl⟩, ⟨hw _ (List.mem_of_getElem? (i := 21) rfl), rfl⟩, ⟨hw _ (List.mem_of_getElem? (i := 23) rfl), rfl⟩, ⟨hw _ (List.mem_of_getElem? (i := 25) rfl), rfl⟩, ⟨hw _ (List.mem_of_getElem? (i := 27) rfl), rfl⟩, ⟨hw _ (List.mem_of_getElem? (i := 29) rfl), rfl⟩, ⟨hw _ (List.mem_of_getElem? (i := 31) rfl), rfl⟩, ⟨hw _ (List.mem_of_getElem? (i := 33) rfl), rfl⟩, ⟨hw _ (List.mem_of_getElem? (i := 35) rfl), rfl⟩, ⟨hw _ (List.mem_of_getElem? (i := 37) rfl), rfl⟩, ⟨hw _ (List.mem_of_getElem? (i := 39) rfl), rfl⟩, ⟨hw _ (List.mem_of_getElem? (i := 41) rfl), rfl⟩, ⟨hw _ (List.mem_of_getElem? (i := 43) rfl), rfl⟩, ⟨hw _ (List.mem_of_getElem? (i := 45) rfl), rfl⟩, ⟨hw _ (List.mem_of_getElem? (i := 47) rfl), rfl⟩, ⟨hw _ (List.mem_of_getElem? (i := 49) rfl), rfl⟩, ⟨hw _ (List.mem_of_getElem? (i := 51) rfl), rfl⟩, ⟨hw _ (List.mem_of_getElem? (i := 53) rfl), rfl⟩, ⟨hw _ (List.mem_of_getElem? (i := 55) rfl), rfl⟩, ⟨hw _ (List.mem_of_getElem? (i := 57) rfl), rfl⟩, ⟨hw _ (List.mem_of_getElem? (i := 59) rfl), rfl⟩, ⟨hw _ (List.mem_of_getElem? (i := 61) rfl), rfl⟩, ⟨hw _ (List.mem_of_getElem? (i := 63) rfl), rfl⟩, ⟨hw _ (List.mem_of_getElem? (i := 65) rfl), rfl⟩, ⟨hw _ (List.mem_of_getElem? (i := 67) rfl), rfl⟩, ⟨hw _ (List.mem_of_getElem? (i := 69) rfl), rfl⟩, ⟨hw _ (List.mem_of_getElem? (i := 76) rfl), rfl⟩, ⟨hw _ (List.mem_of_getElem? (i := 78) rfl), rfl⟩, ⟨hw _ (List.mem_of_getElem? (i := 80) rfl), rfl⟩, ⟨hw _ (List.mem_of_getElem? (i := 82) rfl), rfl⟩, ⟨hw _ (List.mem_of_getElem? (i := 84) rfl), rfl⟩, ⟨hw _ (List.mem_of_getElem? (i := 134) rfl), rfl⟩, trivial⟩
theorem t_fld {a0 : Array Value} {Z : State} (hw : ∀ d ∈ tables_1, d.before a0 Z = true) : ∀ x f kd j fin, pfld PP x = some (f, kd, j, fin) → (Jvm.Cond.fieldLink "IncrLinker" x "IncrLinker" (fnmT f).1 (fnmT f).2).before a0 Z = true ∧ fkdT f = some (kd, j, fin) := fun x f kd j fin h =>
  t_fld0 hw x (f, kd, j, fin) h
set_option maxRecDepth 65536 in
set_option maxHeartbeats 8000000 in
theorem t_fkd {a0 : Array Value} {Z : State} (hw : ∀ d ∈ tables_1, d.before a0 Z = true) : ∀ f kd j fin, fkdT f = some (kd, j, fin) → ((fin = false ∧ (Jvm.Cond.lays "IncrLinker" "IncrLinker" (fnmT f).1 (fnmT f).2).before a0 Z = true) ∨ (fin = true ∧ (Jvm.Cond.laysFinal "IncrLinker" "IncrLinker" (fnmT f).1 (fnmT f).2).before a0 Z = true)) ∧ parseFieldDescriptor (fnmT f).2 = some (fty PP kd j) ∧ (kd = 0 → 1 ≤ j) ∧ kd ≤ 4 :=
  fkd_all (f := fkdN) (tab_all 36 [(0, (0, 1, false)), (1, (0, 2, false)), (2, (0, 3, false)), (3, (0, 4, false)), (4, (0, 5, false)), (5, (0, 6, false)), (6, (0, 7, false)), (7, (0, 8, false)), (8, (0, 9, false)), (9, (0, 10, false)), (10, (0, 11, false)), (11, (0, 12, false)), (12, (0, 13, false)), (13, (0, 14, false)), (14, (0, 15, false)), (15, (0, 16, false)), (16, (0, 17, false)), (17, (0, 18, false)), (18, (1, 0, false)), (19, (0, 19, false)), (20, (0, 20, false)), (21, (0, 21, false)), (22, (0, 22, false)), (23, (0, 23, false)), (24, (0, 24, false)), (25, (0, 25, false)), (26, (0, 26, false)), (27, (0, 27, false)), (28, (1, 0, false)), (29, (1, 0, false)), (30, (2, 0, false)), (31, (1, 0, false)), (32, (1, 0, false)), (33, (1, 0, false)), (34, (1, 0, false)), (35, (1, 0, false))] (fun _ h => cond_ge h) (by decide +kernel) ⟨⟨Or.inl ⟨rfl, hw _ (List.mem_of_getElem? (i := 11) rfl)⟩, by decide +kernel, by decide, by decide⟩, ⟨Or.inl ⟨rfl, hw _ (List.mem_of_getElem? (i := 14) rfl)⟩, by decide +kernel, by decide, by decide⟩, ⟨Or.inl ⟨rfl, hw _ (List.mem_of_getElem? (i := 16) rfl)⟩, by decide +kernel, by decide, by decide⟩, ⟨Or.inl ⟨rfl, hw _ (List.mem_of_getElem? (i := 18) rfl)⟩, by decide +kernel, by decide, by decide⟩, ⟨Or.inl ⟨rfl, hw _ (List.mem_of_getElem? (i := 20) rfl)⟩, by decide +kernel, by decide, by decide⟩, ⟨Or.inl ⟨rfl, hw _ (List.mem_of_getElem? (i := 22) rfl)⟩, by decide +kernel, by decide, by decide⟩, ⟨Or.inl ⟨rfl, hw _ (List.mem_of_getElem? (i := 24) rfl)⟩, by decide +kernel, by decide, by decide⟩, ⟨Or.inl ⟨rfl, hw _ (List.mem_of_getElem? (i := 26) rfl)⟩, by decide +kernel, by decide, by decide⟩, ⟨Or.inl ⟨rfl, hw _ (List.mem_of_getElem? (i := 28) rfl)⟩, by decide +kernel, by decide, by decide⟩, ⟨Or.inl ⟨rfl, hw _ (List.mem_of_getElem? (i := 30) rfl)⟩, by decide +kernel, by decide, by decide⟩, ⟨Or.inl ⟨rfl, hw _ (List.mem_of_getElem? (i := 32) rfl)⟩, by decide +kernel, by decide, by decide⟩, ⟨Or.inl ⟨rfl, hw _ (List.mem_of_getElem? (i := 34) rfl)⟩, by decide +kernel, by decide, by decide⟩, ⟨Or.inl ⟨rfl, hw _ (List.mem_of_getElem? (i := 36) rfl)⟩, by decide +kernel, by decide, by decide⟩, ⟨Or.inl ⟨rfl, hw _ (List.mem_of_getElem? (i := 38) rfl)⟩, by decide +kernel, by decide, by decide⟩, ⟨Or.inl ⟨rfl, hw _ (List.mem_of_getElem? (i := 40) rfl)⟩, by decide +kernel, by decide, by decide⟩, ⟨Or.inl ⟨rfl, hw _ (List.mem_of_getElem? (i := 42) rfl)⟩, by decide +kernel, by decide, by decide⟩, ⟨Or.inl ⟨rfl, hw _ (List.mem_of_getElem? (i := 44) rfl)⟩, by decide +kernel, by decide, by decide⟩, ⟨Or.inl ⟨rfl, hw _ (List.mem_of_getElem? (i := 46) rfl)⟩, by decide +kernel, by decide, by decide⟩, ⟨Or.inl ⟨rfl, hw _ (List.mem_of_getElem? (i := 48) rfl)⟩, by decide +kernel, by decide, by decide⟩, ⟨Or.inl ⟨rfl, hw _ (List.mem_of_getElem? (i := 50) rfl)⟩, by decide +kernel, by decide, by decide⟩, ⟨Or.inl ⟨rfl, hw _ (List.mem_of_getElem? (i := 52) rfl)⟩, by decide +kernel, by decide, by decide⟩, ⟨Or.inl ⟨rfl, hw _ (List.mem_of_getElem? (i := 54) rfl)⟩, by decide +kernel, by decide, by decide⟩, ⟨Or.inl ⟨rfl, hw _ (List.mem_of_getElem? (i := 56) rfl)⟩, by decide +kernel, by decide, by decide⟩, ⟨Or.inl ⟨rfl, hw _ (List.mem_of_getElem? (i := 58) rfl)⟩, by decide +kernel, by decide, by decide⟩, ⟨Or.inl ⟨rfl, hw _ (List.mem_of_getElem? (i := 60) rfl)⟩, by decide +kernel, by decide, by decide⟩, ⟨Or.inl ⟨rfl, hw _ (List.mem_of_getElem? (i := 62) rfl)⟩, by decide +kernel, by decide, by decide⟩, ⟨Or.inl ⟨rfl, hw _ (List.mem_of_getElem? (i := 64) rfl)⟩, by decide +kernel, by decide, by decide⟩, ⟨Or.inl ⟨rfl, hw _ (List.mem_of_getElem? (i := 66) rfl)⟩, by decide +kernel, by decide, by decide⟩, ⟨Or.inl ⟨rfl, hw _ (List.mem_of_getElem? (i := 68) rfl)⟩, by decide +kernel, by decide, by decide⟩, ⟨Or.inl ⟨rfl, hw _ (List.mem_of_getElem? (i := 70) rfl)⟩, by decide +kernel, by decide, by decide⟩, ⟨Or.inl ⟨rfl, hw _ (List.mem_of_getElem? (i := 77) rfl)⟩, by decide +kernel, by decide, by decide⟩, ⟨Or.inl ⟨rfl, hw _ (List.mem_of_getElem? (i := 79) rfl)⟩, by decide +kernel, by decide, by decide⟩, ⟨Or.inl ⟨rfl, hw _ (List.mem_of_getElem? (i := 81) rfl)⟩, by decide +kernel, by decide, by decide⟩, ⟨Or.inl ⟨rfl, hw _ (List.mem_of_getElem? (i := 83) rfl)⟩, by decide +kernel, by decide, by decide⟩, ⟨Or.inl ⟨rfl, hw _ (List.mem_of_getElem? (i := 85) rfl)⟩, by decide +kernel, by decide, by decide⟩, ⟨Or.inl ⟨rfl, hw _ (List.mem_of_getElem? (i := 135) rfl)⟩, by decide +kernel, by decide, by decide⟩, trivial⟩)
set_option maxRecDepth 65536 in
set_option maxHeartbeats 8000000 in
theorem t_lay0 {a0 : Array Value} {Z : State} (hw : ∀ d ∈ tables_1, d.before a0 Z = true) : ∀ j e, PPlay j = some e → 1 ≤ j ∧ j ≤ 27 ∧ 0 ≤ e.2 ∧ e.2 ≤ 60000000 ∧ (e.1 = 1 ∨ e.1 = 2 ∨ e.1 = 3 ∨ e.1 = 4) ∧ (Jvm.Cond.arrayClass (kty e.1)).before a0 Z = true :=
  tab_all (f := PPlay) 28 [(1, (2, 4)), (2, (1, 4)), (3, (1, 16)), (4, (1, 16)), (5, (1, 4)), (6, (1, 16)), (7, (1, 16)), (8, (1, 16)), (9, (1, 96)), (10, (1, 96)), (11, (1, 4)), (12, (1, 8)), (13, (1, 4)), (14, (1, 4)), (15, (1, 4)), (16, (1, 4)), (17, (1, 24)), (18, (1, 24)), (19, (1, 640)), (20, (1, 640)), (21, (1, 16)), (22, (1, 16)), (23, (1, 8)), (24, (1, 8)), (25, (1, 16)), (26, (1, 8)), (27, (1, 8))] (fun _ h => cond_ge h) (by decide +kernel) (Q := fun j e => 1 ≤ j ∧ j ≤ 27 ∧ 0 ≤ e.2 ∧ e.2 ≤ 60000000 ∧ (e.1 = 1 ∨ e.1 = 2 ∨ e.1 = 3 ∨ e.1 = 4) ∧ (Jvm.Cond.arrayClass (kty e.1)).before a0 Z = true) ⟨⟨by decide, by decide, by decide, by decide, by decide, hw _ (List.mem_of_getElem? (i := 9) rfl)⟩, ⟨by decide, by decide, by decide, by decide, by decide, hw _ (List.mem_of_getElem? (i := 12) rfl)⟩, ⟨by decide, by decide, by decide, by decide, by decide, hw _ (List.mem_of_getElem? (i := 12) rfl)⟩, ⟨by decide, by decide, by decide, by decide, by decide, hw _ (List.mem_of_getElem? (i := 12) rfl)⟩, ⟨by decide, by decide, by decide, by decide, by decide, hw _ (List.mem_of_getElem? (i := 12) rfl)⟩, ⟨by decide, by decide, by decide, by decide, by decide, hw _ (List.mem_of_getElem? (i := 12) rfl)⟩, ⟨by decide, by decide, by decide, by decide, by decide, hw _ (List.mem_of_getElem? (i := 12) rfl)⟩, ⟨by decide, by decide, by decide, by decide, by decide, hw _ (List.mem_of_getElem? (i := 12) rfl)⟩, ⟨by decide, by decide, by decide, by decide, by decide, hw _ (List.mem_of_getElem? (i := 12) rfl)⟩, ⟨by decide, by decide, by decide, by decide, by decide, hw _ (List.mem_of_getElem? (i := 12) rfl)⟩, ⟨by decide, by decide, by decide, by decide, by decide, hw _ (List.mem_of_getElem? (i := 12) rfl)⟩, ⟨by decide, by decide, by decide, by decide, by decide, hw _ (List.mem_of_getElem? (i := 12) rfl)⟩, ⟨by decide, by decide, by decide, by decide, by decide, hw _ (List.mem_of_getElem? (i := 12) rfl)⟩, ⟨by decide, by decide, by decide, by decide, by decide, hw _ (List.mem_of_getElem? (i := 12) rfl)⟩, ⟨by decide, by decide, by decide, by decide, by decide, hw _ (List.mem_of_getElem? (i := 12) rfl)⟩, ⟨by decide, by decide, by decide, by decide, by decide, hw _ (List.mem_of_getElem? (i := 12) rfl)⟩, ⟨by decide, by decide, by decide, by decide, by decide, hw _ (List.mem_of_getElem? (i := 12) rfl)⟩, ⟨by decide, by decide, by decide, by decide, by decide, hw _ (List.mem_of_getElem? (i := 12) rfl)⟩, ⟨by decide, by decide, by decide, by decide, by decide, hw _ (List.mem_of_getElem? (i := 12) rfl)⟩, ⟨by decide, by decide, by decide, by decide, by decide, hw _ (List.mem_of_getElem? (i := 12) rfl)⟩, ⟨by decide, by decide, by decide, by decide, by decide, hw _ (List.mem_of_getElem? (i := 12) rfl)⟩, ⟨by decide, by decide, by decide, by decide, by decide, hw _ (List.mem_of_getElem? (i := 12) rfl)⟩, ⟨by decide, by decide, by decide, by decide, by decide, hw _ (List.mem_of_getElem? (i := 12) rfl)⟩, ⟨by decide, by decide, by decide, by decide, by decide, hw _ (List.mem_of_getElem? (i := 12) rfl)⟩, ⟨by decide, by decide, by decide, by decide, by decide, hw _ (List.mem_of_getElem? (i := 12) rfl)⟩, ⟨by decide, by decide, by decide, by decide, by decide, hw _ (List.mem_of_getElem? (i := 12) rfl)⟩, ⟨by decide, by decide, by decide, by decide, by decide, hw _ (List.mem_of_getElem? (i := 12) rfl)⟩, trivial⟩
theorem t_lay {a0 : Array Value} {Z : State} (hw : ∀ d ∈ tables_1, d.before a0 Z = true) : ∀ j kd n, play PP j = some (kd, n) → 1 ≤ j ∧ j ≤ 27 ∧ 0 ≤ n ∧ n ≤ 60000000 ∧ (kd = 1 ∨ kd = 2 ∨ kd = 3 ∨ kd = 4) ∧ (Jvm.Cond.arrayClass (kty kd)).before a0 Z = true := fun j kd n h =>
  t_lay0 hw j (kd, n) h
theorem t_cst {a0 : Array Value} {Z : State} (hw : ∀ d ∈ tables_1, d.before a0 Z = true) : ((∀ x z, pcst PP x = some (.inl z) → ∃ v : Int32, (Jvm.Cond.constant "IncrLinker" x v).before a0 Z = true ∧ v.toInt = z) ∧ (∀ x z, pcst PP x = some (.inr (.inl z)) → ∃ v : Int64, (Jvm.Cond.constantLong "IncrLinker" x v).before a0 Z = true ∧ v.toInt = z)) := ⟨fun x z h => (by cases h), fun x z h => (by cases h)⟩
set_option maxRecDepth 65536 in
set_option maxHeartbeats 8000000 in
theorem t_mth {a0 : Array Value} {Z : State} (hw : ∀ d ∈ tables_1, d.before a0 Z = true) : ∀ x q, pmth PP x = some q → (Jvm.Cond.methodLink "IncrLinker" x (nmT q)).before a0 Z = true :=
  tab_all (f := PPmth) 152 [(118, 4), (122, 7), (126, 8), (129, 9), (132, 10), (135, 12), (139, 11), (142, 13), (151, 14)] (fun _ h => cond_ge h) (by decide +kernel) ⟨hw _ (List.mem_of_getElem? (i := 96) rfl), hw _ (List.mem_of_getElem? (i := 110) rfl), hw _ (List.mem_of_getElem? (i := 114) rfl), hw _ (List.mem_of_getElem? (i := 118) rfl), hw _ (List.mem_of_getElem? (i := 122) rfl), hw _ (List.mem_of_getElem? (i := 130) rfl), hw _ (List.mem_of_getElem? (i := 126) rfl), hw _ (List.mem_of_getElem? (i := 136) rfl), hw _ (List.mem_of_getElem? (i := 140) rfl), trivial⟩
set_option maxRecDepth 65536 in
set_option maxHeartbeats 8000000 in
theorem t_inf0 {a0 : Array Value} {Z : State} (hw : ∀ d ∈ tables_1, d.before a0 Z = true) : ∀ q e, PPinf q = some e → (nmT q).cls = "IncrLinker" ∧ (Jvm.Cond.instanceMethod (nmT q)).before a0 Z = true ∧ (Jvm.Cond.code (nmT q) (byT q) e.2.1 (rty e.2.2.1)).before a0 Z = true ∧ (q ≠ 0 → (Jvm.Cond.privateMethod (nmT q)).before a0 Z = true ∨ ((Jvm.Cond.declares (nmT q)).before a0 Z = true ∧ (Jvm.Cond.selects "IncrLinker" (nmT q) (nmT q)).before a0 Z = true)) ∧ ∃ params, parseMethodDescriptor (nmT q).desc = some ⟨params, rty e.2.2.1⟩ ∧ params.length = e.1.length :=
  tab_all (f := PPinf) 17 [(0, ([false, false], 4, 0, 1, 12)), (1, ([false], 2, 2, 0, 0)), (2, ([false], 3, 2, 0, 0)), (3, ([false, false], 3, 2, 1, 14)), (4, ([false, false], 3, 2, 0, 0)), (5, ([], 1, 1, 0, 0)), (6, ([], 1, 1, 2, 35)), (7, ([], 6, 2, 0, 0)), (8, ([], 3, 2, 0, 0)), (9, ([], 3, 2, 0, 0)), (10, ([], 4, 0, 1, 15)), (11, ([false], 4, 0, 0, 0)), (12, ([false], 5, 0, 1, 19)), (13, ([false], 8, 0, 0, 0)), (14, ([false], 4, 0, 0, 0)), (15, ([false], 2, 1, 0, 0)), (16, ([false], 2, 1, 0, 0))] (fun _ h => cond_ge h) (by decide +kernel) (Q := fun q e => (nmT q).cls = "IncrLinker" ∧ (Jvm.Cond.instanceMethod (nmT q)).before a0 Z = true ∧ (Jvm.Cond.code (nmT q) (byT q) e.2.1 (rty e.2.2.1)).before a0 Z = true ∧ (q ≠ 0 → (Jvm.Cond.privateMethod (nmT q)).before a0 Z = true ∨ ((Jvm.Cond.declares (nmT q)).before a0 Z = true ∧ (Jvm.Cond.selects "IncrLinker" (nmT q) (nmT q)).before a0 Z = true)) ∧ ∃ params, parseMethodDescriptor (nmT q).desc = some ⟨params, rty e.2.2.1⟩ ∧ params.length = e.1.length) ⟨⟨rfl, hw _ (List.mem_of_getElem? (i := 4) rfl), hw _ (List.mem_of_getElem? (i := 5) rfl), fun h => absurd rfl h, [.int, .int], by decide +kernel, rfl⟩, ⟨rfl, hw _ (List.mem_of_getElem? (i := 73) rfl), hw _ (List.mem_of_getElem? (i := 75) rfl), fun _ => Or.inr ⟨hw _ (List.mem_of_getElem? (i := 72) rfl), hw _ (List.mem_of_getElem? (i := 74) rfl)⟩, [.int], by decide +kernel, rfl⟩, ⟨rfl, hw _ (List.mem_of_getElem? (i := 88) rfl), hw _ (List.mem_of_getElem? (i := 90) rfl), fun _ => Or.inr ⟨hw _ (List.mem_of_getElem? (i := 87) rfl), hw _ (List.mem_of_getElem? (i := 89) rfl)⟩, [.int], by decide +kernel, rfl⟩, ⟨rfl, hw _ (List.mem_of_getElem? (i := 93) rfl), hw _ (List.mem_of_getElem? (i := 95) rfl), fun _ => Or.inr ⟨hw _ (List.mem_of_getElem? (i := 92) rfl), hw _ (List.mem_of_getElem? (i := 94) rfl)⟩, [.int, .int], by decide +kernel, rfl⟩, ⟨rfl, hw _ (List.mem_of_getElem? (i := 97) rfl), hw _ (List.mem_of_getElem? (i := 99) rfl), fun _ => Or.inl (hw _ (List.mem_of_getElem? (i := 98) rfl)), [.int, .int], by decide +kernel, rfl⟩, ⟨rfl, hw _ (List.mem_of_getElem? (i := 102) rfl), hw _ (List.mem_of_getElem? (i := 104) rfl), fun _ => Or.inr ⟨hw _ (List.mem_of_getElem? (i := 101) rfl), hw _ (List.mem_of_getElem? (i := 103) rfl)⟩, [], by decide +kernel, rfl⟩, ⟨rfl, hw _ (List.mem_of_getElem? (i := 107) rfl), hw _ (List.mem_of_getElem? (i := 109) rfl), fun _ => Or.inr ⟨hw _ (List.mem_of_getElem? (i := 106) rfl), hw _ (List.mem_of_getElem? (i := 108) rfl)⟩, [], by decide +kernel, rfl⟩, ⟨rfl, hw _ (List.mem_of_getElem? (i := 111) rfl), hw _ (List.mem_of_getElem? (i := 113) rfl), fun _ => Or.inl (hw _ (List.mem_of_getElem? (i := 112) rfl)), [], by decide +kernel, rfl⟩, ⟨rfl, hw _ (List.mem_of_getElem? (i := 115) rfl), hw _ (List.mem_of_getElem? (i := 117) rfl), fun _ => Or.inl (hw _ (List.mem_of_getElem? (i := 116) rfl)), [], by decide +kernel, rfl⟩, ⟨rfl, hw _ (List.mem_of_getElem? (i := 119) rfl), hw _ (List.mem_of_getElem? (i := 121) rfl), fun _ => Or.inl (hw _ (List.mem_of_getElem? (i := 120) rfl)), [], by decide +kernel, rfl⟩, ⟨rfl, hw _ (List.mem_of_getElem? (i := 123) rfl), hw _ (List.mem_of_getElem? (i := 125) rfl), fun _ => Or.inl (hw _ (List.mem_of_getElem? (i := 124) rfl)), [], by decide +kernel, rfl⟩, ⟨rfl, hw _ (List.mem_of_getElem? (i := 127) rfl), hw _ (List.mem_of_getElem? (i := 129) rfl), fun _ => Or.inl (hw _ (List.mem_of_getElem? (i := 128) rfl)), [.int], by decide +kernel, rfl⟩, ⟨rfl, hw _ (List.mem_of_getElem? (i := 131) rfl), hw _ (List.mem_of_getElem? (i := 133) rfl), fun _ => Or.inl (hw _ (List.mem_of_getElem? (i := 132) rfl)), [.int], by decide +kernel, rfl⟩, ⟨rfl, hw _ (List.mem_of_getElem? (i := 137) rfl), hw _ (List.mem_of_getElem? (i := 139) rfl), fun _ => Or.inl (hw _ (List.mem_of_getElem? (i := 138) rfl)), [.int], by decide +kernel, rfl⟩, ⟨rfl, hw _ (List.mem_of_getElem? (i := 141) rfl), hw _ (List.mem_of_getElem? (i := 143) rfl), fun _ => Or.inl (hw _ (List.mem_of_getElem? (i := 142) rfl)), [.int], by decide +kernel, rfl⟩, ⟨rfl, hw _ (List.mem_of_getElem? (i := 146) rfl), hw _ (List.mem_of_getElem? (i := 148) rfl), fun _ => Or.inr ⟨hw _ (List.mem_of_getElem? (i := 145) rfl), hw _ (List.mem_of_getElem? (i := 147) rfl)⟩, [.int], by decide +kernel, rfl⟩, ⟨rfl, hw _ (List.mem_of_getElem? (i := 151) rfl), hw _ (List.mem_of_getElem? (i := 153) rfl), fun _ => Or.inr ⟨hw _ (List.mem_of_getElem? (i := 150) rfl), hw _ (List.mem_of_getElem? (i := 152) rfl)⟩, [.int], by decide +kernel, rfl⟩, trivial⟩
theorem t_inf {a0 : Array Value} {Z : State} (hw : ∀ d ∈ tables_1, d.before a0 Z = true) : ∀ q ps ml rk fr lc, pinf PP q = some (ps, ml, rk, fr, lc) → (nmT q).cls = "IncrLinker" ∧ (Jvm.Cond.instanceMethod (nmT q)).before a0 Z = true ∧ (Jvm.Cond.code (nmT q) (byT q) ml (rty rk)).before a0 Z = true ∧ (q ≠ 0 → (Jvm.Cond.privateMethod (nmT q)).before a0 Z = true ∨ ((Jvm.Cond.declares (nmT q)).before a0 Z = true ∧ (Jvm.Cond.selects "IncrLinker" (nmT q) (nmT q)).before a0 Z = true)) ∧ ∃ params, parseMethodDescriptor (nmT q).desc = some ⟨params, rty rk⟩ ∧ params.length = ps.length := fun q ps ml rk fr lc h =>
  t_inf0 hw q (ps, ml, rk, fr, lc) h
set_option maxRecDepth 65536 in
set_option maxHeartbeats 8000000 in
theorem tabP {a0 : Array Value} {Z : State} (hw : ∀ d ∈ tables_1, d.before a0 Z = true) : TabP PP "IncrLinker" fnmT fkdT nmT byT 27 43 a0 Z :=
  ⟨t_code, t_fld hw, t_fkd hw, names_all 36 (fun _ h => cond_ge h) (by decide +kernel), ptrs_all 36 (fun _ h => cond_ge h) (by decide +kernel), t_lay hw, t_cst hw, t_mth hw, t_inf hw, fun x h => by cases Nat.eq_of_beq_eq_true h; exact hw _ (List.mem_of_getElem? (i := 6) rfl), ⟨hw _ (List.mem_of_getElem? (i := 7) rfl), hw _ (List.mem_of_getElem? (i := 8) rfl)⟩, hw _ (List.mem_of_getElem? (i := 1) rfl), hw _ (List.mem_of_getElem? (i := 2) rfl), by first | (simp [plainName, overriddenIn]; done) | decide +kernel, by decide, rfl, fun ps ml rk fr lc h => by cases h; rfl⟩
def lnmT : Nat → MethodName := fun q => cond (Nat.beq q 0) ((⟨"IncrLinkerL2", "law", "(IIIII)Z"⟩ : MethodName)) (⟨"IncrLinkerL2", "law", "(IIIII)Z"⟩ : MethodName)
def lbyT : Nat → ByteArray := fun q => cond (Nat.beq q 0) (code) code
set_option maxRecDepth 65536 in
set_option maxHeartbeats 8000000 in
theorem lcdk_0 : ∀ pc i len, lcd_0 pc = some (i, len) → decode code pc = .ok (i, len) ∧ chk pc i len = true := code_all 368 (fun _ h => cond_ge h) (by decide +kernel)
theorem tl_code : ∀ q pc i len, lcode LL q pc = some (i, len) → decode (lbyT q) pc = .ok (i, len) ∧ chk pc i len = true := by
  intro q
  by_cases hq : q < 1
  · exact allN (Q := fun q => ∀ pc i len, lcode LL q pc = some (i, len) → decode (lbyT q) pc = .ok (i, len) ∧ chk pc i len = true) (N := 1) (⟨trivial, lcdk_0⟩) q hq
  · intro pc i len h
    have h0 : LLcode q pc = none := cond_ge (by omega)
    have h1 : LLcode q pc = some (i, len) := h
    rw [h0] at h1; cases h1
theorem tl_cst {a0 : Array Value} {Z : State} (hw : ∀ d ∈ tables_1, d.before a0 Z = true) : ((∀ x z, lcst LL x = some (.inl z) → ∃ v : Int32, (Jvm.Cond.constant "IncrLinkerL2" x v).before a0 Z = true ∧ v.toInt = z) ∧ (∀ x z, lcst LL x = some (.inr (.inl z)) → ∃ v : Int64, (Jvm.Cond.constantLong "IncrLinkerL2" x v).before a0 Z = true ∧ v.toInt = z)) := ⟨fun x z h => (by cases h), fun x z h => (by cases h)⟩
set_option maxRecDepth 65536 in
set_option maxHeartbeats 8000000 in
theorem tl_vm {a0 : Array Value} {Z : State} (hw : ∀ d ∈ tables_1, d.before a0 Z = true) : ∀ x q, lvm LL x = some q → (Jvm.Cond.methodLink "IncrLinkerL2" x (nmT q)).before a0 Z = true ∧ (Jvm.Cond.declares (nmT q)).before a0 Z = true ∧ (Jvm.Cond.selects "IncrLinker" (nmT q) (nmT q)).before a0 Z = true :=
  tab_all (f := LLvm) 35 [(12, 1), (16, 2), (19, 3), (23, 5), (27, 6), (30, 15), (34, 16)] (fun _ h => cond_ge h) (by decide +kernel) ⟨⟨hw _ (List.mem_of_getElem? (i := 71) rfl), hw _ (List.mem_of_getElem? (i := 72) rfl), hw _ (List.mem_of_getElem? (i := 74) rfl)⟩, ⟨hw _ (List.mem_of_getElem? (i := 86) rfl), hw _ (List.mem_of_getElem? (i := 87) rfl), hw _ (List.mem_of_getElem? (i := 89) rfl)⟩, ⟨hw _ (List.mem_of_getElem? (i := 91) rfl), hw _ (List.mem_of_getElem? (i := 92) rfl), hw _ (List.mem_of_getElem? (i := 94) rfl)⟩, ⟨hw _ (List.mem_of_getElem? (i := 100) rfl), hw _ (List.mem_of_getElem? (i := 101) rfl), hw _ (List.mem_of_getElem? (i := 103) rfl)⟩, ⟨hw _ (List.mem_of_getElem? (i := 105) rfl), hw _ (List.mem_of_getElem? (i := 106) rfl), hw _ (List.mem_of_getElem? (i := 108) rfl)⟩, ⟨hw _ (List.mem_of_getElem? (i := 144) rfl), hw _ (List.mem_of_getElem? (i := 145) rfl), hw _ (List.mem_of_getElem? (i := 147) rfl)⟩, ⟨hw _ (List.mem_of_getElem? (i := 149) rfl), hw _ (List.mem_of_getElem? (i := 150) rfl), hw _ (List.mem_of_getElem? (i := 152) rfl)⟩, trivial⟩
theorem tl_sm {a0 : Array Value} {Z : State} (hw : ∀ d ∈ tables_1, d.before a0 Z = true) : ∀ x q, lsm LL x = some q → (Jvm.Cond.methodLink "IncrLinkerL2" x (lnmT q)).before a0 Z = true := fun x q h => by cases h
set_option maxRecDepth 65536 in
set_option maxHeartbeats 8000000 in
theorem tl_inf {a0 : Array Value} {Z : State} (hw : ∀ d ∈ tables_1, d.before a0 Z = true) : ∀ q ps ml rk fr lc, linf LL q = some (ps, ml, rk, fr, lc) → q ≠ 0 → (lnmT q).cls = "IncrLinkerL2" ∧ (Jvm.Cond.static (lnmT q)).before a0 Z = true ∧ (Jvm.Cond.initialized "IncrLinkerL2").before a0 Z = true ∧ (Jvm.Cond.code (lnmT q) (lbyT q) ml (rty rk)).before a0 Z = true ∧ ∃ params, parseMethodDescriptor (lnmT q).desc = some ⟨params, rty rk⟩ ∧ params.length = ps.length := fun q ps ml rk fr lc h =>
  tab_all (f := LLinf) 1 [(0, ([0, 0, 0, 0, 0], 12, 2, 3, 47))] (fun _ h => cond_ge h) (by decide +kernel) (Q := fun q e => q ≠ 0 → (lnmT q).cls = "IncrLinkerL2" ∧ (Jvm.Cond.static (lnmT q)).before a0 Z = true ∧ (Jvm.Cond.initialized "IncrLinkerL2").before a0 Z = true ∧ (Jvm.Cond.code (lnmT q) (lbyT q) e.2.1 (rty e.2.2.1)).before a0 Z = true ∧ ∃ params, parseMethodDescriptor (lnmT q).desc = some ⟨params, rty e.2.2.1⟩ ∧ params.length = e.1.length) ⟨fun h => absurd rfl h, trivial⟩ q _ h
theorem tabL {a0 : Array Value} {Z : State} (hw : ∀ d ∈ tables_1, d.before a0 Z = true) : TabL PP LL "IncrLinker" "IncrLinkerL2" nmT lnmT lbyT a0 Z :=
  ⟨tl_code, tl_cst hw, tl_vm hw, fun x h => by cases Nat.eq_of_beq_eq_true h; exact hw _ (List.mem_of_getElem? (i := 3) rfl), tl_sm hw, fun x h => by cases Nat.eq_of_beq_eq_true h; exact hw _ (List.mem_of_getElem? (i := 0) rfl), tl_inf hw, by first | (simp [plainName, overriddenIn]; done) | decide +kernel, by decide⟩
theorem u_f_init_l270  {x3 : Int} {m : OMem} {Q : ((Int × OMem) ⊕ ((OMem))) → Prop} (h : Ok ((if x3 < 8 then (if 0 ≤ x3 ∧ x3 < 8 then (if 0 ≤ x3 ∧ x3 < 8 then (some (.inl (w32 (x3 + 1), sto (sto m 12 x3 (-1)) 23 x3 (-1)))) else none) else none) else (some (.inr m))) : Option ((Int × OMem) ⊕ ((OMem)))) Q) : Ok (f_init_l270 (x3, m)) Q := h
theorem u_f_init_b265 {s1 : Int} {m : OMem} {Q : (OMem) → Prop} (h : Ok (((lp (f_init_l270 ) NN (0, sto m 0 29 s1)).bind fun m_1 => (some m_1)) : Option (OMem)) Q) : Ok (f_init_b265 s1 m) Q := h
theorem u_f_init_b241 {x2 s1 : Int} {m : OMem} {Q : (OMem) → Prop} (h : Ok ((if x2 < 0 then (f_init_b265 0 (sto m 0 28 s1)) else (if 8 < x2 then (f_init_b265 8 (sto m 0 28 s1)) else (f_init_b265 x2 (sto m 0 28 s1)))) : Option (OMem)) Q) : Ok (f_init_b241 x2 s1 m) Q := h
theorem u_f_init {x1 x2 : Int} {m : OMem} {Q : (OMem) → Prop} (h : Ok ((if x1 < 1 then (f_init_b241 x2 1 (sto m 0 18 640)) else (if 4 < x1 then (f_init_b241 x2 4 (sto m 0 18 640)) else (f_init_b241 x2 x1 (sto m 0 18 640)))) : Option (OMem)) Q) : Ok (f_init x1 x2 m) Q := h
theorem u_f_beginModule_b12 {m : OMem} {Q : (Int × OMem) → Prop} (h : Ok ((some (0, m)) : Option (Int × OMem)) Q) : Ok (f_beginModule_b12 m) Q := h
theorem u_f_beginModule {x1 : Int} {m : OMem} {Q : (Int × OMem) → Prop} (h : Ok ((if x1 < 0 then (f_beginModule_b12 m) else (if x1 < m 0 28 then (some (1, sto (sto (sto (sto (sto m 0 30 1) 0 31 x1) 0 32 0) 0 33 0) 0 34 0)) else (f_beginModule_b12 m))) : Option (Int × OMem)) Q) : Ok (f_beginModule x1 m) Q := h
theorem u_f_addFunction_b17 {m : OMem} {Q : (Int × OMem) → Prop} (h : Ok ((some (0, m)) : Option (Int × OMem)) Q) : Ok (f_addFunction_b17 m) Q := h
theorem u_f_addFunction_l21 {m : OMem} {x1 : Int} {x2 : Int} {Q : ((Int) ⊕ ((Unit) ⊕ (Unit))) → Prop} (h : Ok ((if x2 < m 0 33 then (if 0 ≤ x2 ∧ x2 < 4 then (if m 14 x2 = x1 then (some (.inr (.inl ()))) else (some (.inl (w32 (x2 + 1))))) else none) else (some (.inr (.inr ())))) : Option ((Int) ⊕ ((Unit) ⊕ (Unit)))) Q) : Ok (f_addFunction_l21 m x1 x2) Q := h
theorem u_f_addFunction {x1 : Int} {m : OMem} {Q : (Int × OMem) → Prop} (h : Ok ((if m 0 30 = 0 then (f_addFunction_b17 m) else (if x1 < 0 then (f_addFunction_b17 m) else (if 7 < x1 then (f_addFunction_b17 m) else ((lp (f_addFunction_l21 m x1) NN 0).bind fun e => match e with | (.inl _) => (some (0, m)) | (.inr _) => (if m 0 33 < 4 then (if 0 ≤ m 0 33 ∧ m 0 33 < 4 then (if 0 ≤ m 0 33 ∧ m 0 33 < 4 then (if 0 ≤ m 0 33 ∧ m 0 33 < 4 then (some (1, sto (sto (sto (sto m 14 (m 0 33) x1) 15 (m 0 33) 0) 16 (m 0 33) (m 0 34)) 0 33 (w32 ((m 0 33) + 1)))) else none) else none) else none) else (some (0, m))))))) : Option (Int × OMem)) Q) : Ok (f_addFunction x1 m) Q := h
theorem u_f_argOk_b107 {m : OMem} {Q : (Int) → Prop} (h : Ok ((some 1) : Option (Int)) Q) : Ok (f_argOk_b107 m) Q := h
theorem u_f_argOk_b75 {s0 : Int} {m : OMem} {Q : (Int) → Prop} (h : Ok ((some (s0 % 2)) : Option (Int)) Q) : Ok (f_argOk_b75 s0 m) Q := h
theorem u_f_argOk_b74 {m : OMem} {Q : (Int) → Prop} (h : Ok ((f_argOk_b75 0 m) : Option (Int)) Q) : Ok (f_argOk_b74 m) Q := h
theorem u_f_argOk_b60 {x2 : Int} {m : OMem} {Q : (Int) → Prop} (h : Ok ((if x2 < 0 then (f_argOk_b74 m) else (if 7 < x2 then (f_argOk_b74 m) else (f_argOk_b75 1 m))) : Option (Int)) Q) : Ok (f_argOk_b60 x2 m) Q := h
theorem u_f_argOk_b106 {s0 : Int} {m : OMem} {Q : (Int) → Prop} (h : Ok ((some (s0 % 2)) : Option (Int)) Q) : Ok (f_argOk_b106 s0 m) Q := h
theorem u_f_argOk_b105 {m : OMem} {Q : (Int) → Prop} (h : Ok ((f_argOk_b106 0 m) : Option (Int)) Q) : Ok (f_argOk_b105 m) Q := h
theorem u_f_argOk_b91 {x2 : Int} {m : OMem} {Q : (Int) → Prop} (h : Ok ((if x2 < 0 then (f_argOk_b105 m) else (if 23 < x2 then (f_argOk_b105 m) else (f_argOk_b106 1 m))) : Option (Int)) Q) : Ok (f_argOk_b91 x2 m) Q := h
theorem u_f_argOk_b90 {s0 : Int} {m : OMem} {Q : (Int) → Prop} (h : Ok ((some (s0 % 2)) : Option (Int)) Q) : Ok (f_argOk_b90 s0 m) Q := h
theorem u_f_argOk_b89 {m : OMem} {Q : (Int) → Prop} (h : Ok ((f_argOk_b90 0 m) : Option (Int)) Q) : Ok (f_argOk_b89 m) Q := h
theorem u_f_argOk_b76 {x2 : Int} {m : OMem} {Q : (Int) → Prop} (h : Ok ((if x2 < 0 then (f_argOk_b89 m) else (if 3 < x2 then (f_argOk_b89 m) else (f_argOk_b90 1 m))) : Option (Int)) Q) : Ok (f_argOk_b76 x2 m) Q := h
theorem u_f_argOk {x1 x2 : Int} {m : OMem} {Q : (Int) → Prop} (h : Ok ((if x1 = 2 then (f_argOk_b60 x2 m) else (if x1 = 3 then (f_argOk_b60 x2 m) else (if x1 = 4 then (f_argOk_b76 x2 m) else (if x1 = 5 then (f_argOk_b76 x2 m) else (if x1 = 6 then (f_argOk_b107 m) else (if x1 = 7 then (f_argOk_b107 m) else (if x1 = 8 then (f_argOk_b107 m) else (if x1 = 9 then (f_argOk_b107 m) else (if x1 = 10 then (f_argOk_b91 x2 m) else (if x1 = 11 then (f_argOk_b91 x2 m) else (if x1 = 12 then (f_argOk_b60 x2 m) else (f_argOk_b107 m)))))))))))) : Option (Int)) Q) : Ok (f_argOk x1 x2 m) Q := h
theorem u_f_emit_b25 {m : OMem} {Q : (Int × OMem) → Prop} (h : Ok ((some (0, m)) : Option (Int × OMem)) Q) : Ok (f_emit_b25 m) Q := h
theorem u_f_emit_b45 {m : OMem} {Q : (Int × OMem) → Prop} (h : Ok ((some (0, m)) : Option (Int × OMem)) Q) : Ok (f_emit_b45 m) Q := h
theorem u_f_emit {x1 x2 : Int} {m : OMem} {Q : (Int × OMem) → Prop} (h : Ok ((if m 0 30 = 0 then (f_emit_b25 m) else (if m 0 33 = 0 then (f_emit_b25 m) else (if x1 < 1 then (f_emit_b25 m) else (if 15 < x1 then (f_emit_b25 m) else ((f_argOk x1 x2 m).bind fun r_2 => (if r_2 = 0 then (f_emit_b45 m) else (if m 0 34 < 24 then (if 0 ≤ m 0 34 ∧ m 0 34 < 24 then (if 0 ≤ m 0 34 ∧ m 0 34 < 24 then (if 0 ≤ w32 ((m 0 33) - 1) ∧ w32 ((m 0 33) - 1) < 4 then (if 0 ≤ w32 ((m 0 33) - 1) ∧ w32 ((m 0 33) - 1) < 4 then (some (1, sto (sto (sto (sto m 17 (m 0 34) x1) 18 (m 0 34) x2) 0 34 (w32 ((m 0 34) + 1))) 15 (w32 ((m 0 33) - 1)) (w32 ((m 15 (w32 ((m 0 33) - 1))) + 1)))) else none) else none) else none) else none) else (f_emit_b45 m)))))))) : Option (Int × OMem)) Q) : Ok (f_emit x1 x2 m) Q := h
theorem u_f_bufferSize_b15 {s0 : Int} {m : OMem} {Q : (Int) → Prop} (h : Ok ((some s0) : Option (Int)) Q) : Ok (f_bufferSize_b15 s0 m) Q := h
theorem u_f_bufferSize {m : OMem} {Q : (Int) → Prop} (h : Ok ((if m 0 30 = 0 then (f_bufferSize_b15 (-1) m) else (f_bufferSize_b15 (m 0 34) m)) : Option (Int)) Q) : Ok (f_bufferSize m) Q := h
theorem u_f_hasBadJump_b70 {x1 x2 x3 : Int} {m : OMem} {Q : ((Int) ⊕ ((Unit) ⊕ (Unit))) → Prop} (h : Ok ((some (.inl (w32 (x3 + 1)))) : Option ((Int) ⊕ ((Unit) ⊕ (Unit)))) Q) : Ok (f_hasBadJump_b70 x1 x2 x3 m) Q := h
theorem u_f_hasBadJump_b57 {x1 x2 x3 x4 : Int} {m : OMem} {Q : ((Int) ⊕ ((Unit) ⊕ (Unit))) → Prop} (h : Ok ((if 0 ≤ x4 ∧ x4 < 24 then (if m 18 x4 < x2 then (f_hasBadJump_b70 x1 x2 x3 m) else (some (.inr (.inl ())))) else none) : Option ((Int) ⊕ ((Unit) ⊕ (Unit)))) Q) : Ok (f_hasBadJump_b57 x1 x2 x3 x4 m) Q := h
theorem u_f_hasBadJump_l19 {m : OMem} {x1 x2 : Int} {x3 : Int} {Q : ((Int) ⊕ ((Unit) ⊕ (Unit))) → Prop} (h : Ok ((if x3 < x2 then (if 0 ≤ x1 ∧ x1 < 4 then (if 0 ≤ w32 ((m 16 x1) + x3) ∧ w32 ((m 16 x1) + x3) < 24 then (if m 17 (w32 ((m 16 x1) + x3)) = 10 then (f_hasBadJump_b57 x1 x2 x3 (w32 ((m 16 x1) + x3)) m) else (if m 17 (w32 ((m 16 x1) + x3)) = 11 then (f_hasBadJump_b57 x1 x2 x3 (w32 ((m 16 x1) + x3)) m) else (f_hasBadJump_b70 x1 x2 x3 m))) else none) else none) else (some (.inr (.inr ())))) : Option ((Int) ⊕ ((Unit) ⊕ (Unit)))) Q) : Ok (f_hasBadJump_l19 m x1 x2 x3) Q := h
theorem u_f_hasBadJump_l2 {m : OMem} {x1 : Int} {Q : ((Int) ⊕ ((Unit) ⊕ (Unit))) → Prop} (h : Ok ((if x1 < m 0 33 then (if 0 ≤ x1 ∧ x1 < 4 then ((lp (f_hasBadJump_l19 m x1 (m 15 x1)) NN 0).bind fun e => match e with | (.inl _) => (some (.inr (.inl ()))) | (.inr _) => (some (.inl (w32 (x1 + 1))))) else none) else (some (.inr (.inr ())))) : Option ((Int) ⊕ ((Unit) ⊕ (Unit)))) Q) : Ok (f_hasBadJump_l2 m x1) Q := h
theorem u_f_hasBadJump {m : OMem} {Q : (Int) → Prop} (h : Ok (((lp (f_hasBadJump_l2 m) NN 0).bind fun e => match e with | (.inl _) => (some 1) | (.inr _) => (some 0)) : Option (Int)) Q) : Ok (f_hasBadJump m) Q := h
theorem u_f_hasBadData_b42 {x1 : Int} {m : OMem} {Q : ((Int) ⊕ ((Unit) ⊕ (Unit))) → Prop} (h : Ok ((some (.inl (w32 (x1 + 1)))) : Option ((Int) ⊕ ((Unit) ⊕ (Unit)))) Q) : Ok (f_hasBadData_b42 x1 m) Q := h
theorem u_f_hasBadData_b27 {x1 : Int} {m : OMem} {Q : ((Int) ⊕ ((Unit) ⊕ (Unit))) → Prop} (h : Ok ((if 0 ≤ x1 ∧ x1 < 24 then (if m 18 x1 < m 0 32 then (f_hasBadData_b42 x1 m) else (some (.inr (.inl ())))) else none) : Option ((Int) ⊕ ((Unit) ⊕ (Unit)))) Q) : Ok (f_hasBadData_b27 x1 m) Q := h
theorem u_f_hasBadData_l2 {m : OMem} {x1 : Int} {Q : ((Int) ⊕ ((Unit) ⊕ (Unit))) → Prop} (h : Ok ((if x1 < m 0 34 then (if 0 ≤ x1 ∧ x1 < 24 then (if m 17 x1 = 4 then (f_hasBadData_b27 x1 m) else (if m 17 x1 = 5 then (f_hasBadData_b27 x1 m) else (f_hasBadData_b42 x1 m))) else none) else (some (.inr (.inr ())))) : Option ((Int) ⊕ ((Unit) ⊕ (Unit)))) Q) : Ok (f_hasBadData_l2 m x1) Q := h
theorem u_f_hasBadData {m : OMem} {Q : (Int) → Prop} (h : Ok (((lp (f_hasBadData_l2 m) NN 0).bind fun e => match e with | (.inl _) => (some 1) | (.inr _) => (some 0)) : Option (Int)) Q) : Ok (f_hasBadData m) Q := h
theorem u_f_hasDuplicate_b36 {x1 : Int} {m : OMem} {Q : ((Int) ⊕ ((Unit) ⊕ (Unit))) → Prop} (h : Ok ((some (.inl (w32 (x1 + 1)))) : Option ((Int) ⊕ ((Unit) ⊕ (Unit)))) Q) : Ok (f_hasDuplicate_b36 x1 m) Q := h
theorem u_f_hasDuplicate_l2 {m : OMem} {x1 : Int} {Q : ((Int) ⊕ ((Unit) ⊕ (Unit))) → Prop} (h : Ok ((if x1 < m 0 33 then (if 0 ≤ x1 ∧ x1 < 4 then (if 0 ≤ m 14 x1 ∧ m 14 x1 < 8 then (if m 12 (m 14 x1) < 0 then (f_hasDuplicate_b36 x1 m) else (if m 12 (m 14 x1) = m 0 31 then (f_hasDuplicate_b36 x1 m) else (some (.inr (.inl ()))))) else none) else none) else (some (.inr (.inr ())))) : Option ((Int) ⊕ ((Unit) ⊕ (Unit)))) Q) : Ok (f_hasDuplicate_l2 m x1) Q := h
theorem u_f_hasDuplicate {m : OMem} {Q : (Int) → Prop} (h : Ok (((lp (f_hasDuplicate_l2 m) NN 0).bind fun e => match e with | (.inl _) => (some 1) | (.inr _) => (some 0)) : Option (Int)) Q) : Ok (f_hasDuplicate m) Q := h
theorem u_f_clearSymbols_l12 {x1 : Int} {x2 : Int} {m : OMem} {Q : ((Int × OMem) ⊕ ((OMem))) → Prop} (h : Ok ((if 0 ≤ x1 ∧ x1 < 4 then (if x2 < m 5 x1 then (if 0 ≤ w32 ((w32 (x1 * 4)) + x2) ∧ w32 ((w32 (x1 * 4)) + x2) < 16 then (if 0 ≤ m 6 (w32 ((w32 (x1 * 4)) + x2)) ∧ m 6 (w32 ((w32 (x1 * 4)) + x2)) < 8 then (if 0 ≤ m 6 (w32 ((w32 (x1 * 4)) + x2)) ∧ m 6 (w32 ((w32 (x1 * 4)) + x2)) < 8 then (some (.inl (w32 (x2 + 1), sto (sto m 12 (m 6 (w32 ((w32 (x1 * 4)) + x2))) (-1)) 23 (m 6 (w32 ((w32 (x1 * 4)) + x2))) (-1)))) else none) else none) else none) else (some (.inr m))) else none) : Option ((Int × OMem) ⊕ ((OMem)))) Q) : Ok (f_clearSymbols_l12 x1 (x2, m)) Q := h
theorem u_f_clearSymbols {x1 : Int} {m : OMem} {Q : (OMem) → Prop} (h : Ok ((if 0 ≤ x1 ∧ x1 < 4 then (if m 1 x1 = 0 then (some m) else ((lp (f_clearSymbols_l12 x1) NN (0, m)).bind fun m_6 => (some m_6))) else none) : Option (OMem)) Q) : Ok (f_clearSymbols x1 m) Q := h
theorem u_f_installBuffer_l22 {x1 : Int} {x2 : Int} {m : OMem} {Q : ((Int × OMem) ⊕ ((OMem))) → Prop} (h : Ok ((if x2 < m 0 32 then (if 0 ≤ x2 ∧ x2 < 4 then (if 0 ≤ w32 ((w32 (x1 * 4)) + x2) ∧ w32 ((w32 (x1 * 4)) + x2) < 16 then (if 0 ≤ x2 ∧ x2 < 4 then (if 0 ≤ w32 ((w32 (x1 * 4)) + x2) ∧ w32 ((w32 (x1 * 4)) + x2) < 16 then (some (.inl (w32 (x2 + 1), sto (sto m 3 (w32 ((w32 (x1 * 4)) + x2)) (m 13 x2)) 4 (w32 ((w32 (x1 * 4)) + x2)) (m 13 x2)))) else none) else none) else none) else none) else (some (.inr m))) : Option ((Int × OMem) ⊕ ((OMem)))) Q) : Ok (f_installBuffer_l22 x1 (x2, m)) Q := h
theorem u_f_installBuffer_l80 {x1 : Int} {x2 : Int} {m : OMem} {Q : ((Int × OMem) ⊕ ((OMem))) → Prop} (h : Ok ((if x2 < m 0 33 then (if 0 ≤ x2 ∧ x2 < 4 then (if 0 ≤ w32 ((w32 (x1 * 4)) + x2) ∧ w32 ((w32 (x1 * 4)) + x2) < 16 then (if 0 ≤ x2 ∧ x2 < 4 then (if 0 ≤ w32 ((w32 (x1 * 4)) + x2) ∧ w32 ((w32 (x1 * 4)) + x2) < 16 then (if 0 ≤ x2 ∧ x2 < 4 then (if 0 ≤ w32 ((w32 (x1 * 4)) + x2) ∧ w32 ((w32 (x1 * 4)) + x2) < 16 then (if 0 ≤ x2 ∧ x2 < 4 then (if 0 ≤ m 14 x2 ∧ m 14 x2 < 8 then (some (.inl (w32 (x2 + 1), sto (sto (sto (sto m 6 (w32 ((w32 (x1 * 4)) + x2)) (m 14 x2)) 7 (w32 ((w32 (x1 * 4)) + x2)) (m 15 x2)) 8 (w32 ((w32 (x1 * 4)) + x2)) (m 16 x2)) 12 (m 14 x2) x1))) else none) else none) else none) else none) else none) else none) else none) else none) else (some (.inr m))) : Option ((Int × OMem) ⊕ ((OMem)))) Q) : Ok (f_installBuffer_l80 x1 (x2, m)) Q := h
theorem u_f_installBuffer_l150 {x1 : Int} {x2 : Int} {m : OMem} {Q : ((Int × OMem) ⊕ ((OMem))) → Prop} (h : Ok ((if x2 < m 0 34 then (if 0 ≤ x2 ∧ x2 < 24 then (if 0 ≤ w32 ((w32 (x1 * 24)) + x2) ∧ w32 ((w32 (x1 * 24)) + x2) < 96 then (if 0 ≤ x2 ∧ x2 < 24 then (if 0 ≤ w32 ((w32 (x1 * 24)) + x2) ∧ w32 ((w32 (x1 * 24)) + x2) < 96 then (some (.inl (w32 (x2 + 1), sto (sto m 9 (w32 ((w32 (x1 * 24)) + x2)) (m 17 x2)) 10 (w32 ((w32 (x1 * 24)) + x2)) (m 18 x2)))) else none) else none) else none) else none) else (some (.inr m))) : Option ((Int × OMem) ⊕ ((OMem)))) Q) : Ok (f_installBuffer_l150 x1 (x2, m)) Q := h
theorem u_f_installBuffer {m : OMem} {Q : (OMem) → Prop} (h : Ok (((f_clearSymbols (m 0 31) m).bind fun m_7 => (if 0 ≤ m 0 31 ∧ m 0 31 < 4 then ((lp (f_installBuffer_l22 (m 0 31)) NN (0, sto m_7 2 (m 0 31) (m_7 0 32))).bind fun m_8 => (if 0 ≤ m 0 31 ∧ m 0 31 < 4 then ((lp (f_installBuffer_l80 (m 0 31)) NN (0, sto m_8 5 (m 0 31) (m_8 0 33))).bind fun m_9 => ((lp (f_installBuffer_l150 (m 0 31)) NN (0, m_9)).bind fun m_10 => (if 0 ≤ m 0 31 ∧ m 0 31 < 4 then (if 0 ≤ m 0 31 ∧ m 0 31 < 4 then (some (sto (sto m_10 11 (m 0 31) (m_10 0 34)) 1 (m 0 31) 1)) else none) else none))) else none)) else none)) : Option (OMem)) Q) : Ok (f_installBuffer m) Q := h
theorem u_f_placeFunction_b82 {x1 x2 x3 x4 x5 x6 x7 : Int} {m : OMem} {Q : ((Int × OMem) ⊕ ((OMem))) → Prop} (h : Ok ((if 0 ≤ w32 (x2 + x5) ∧ w32 (x2 + x5) < 640 then (if 0 ≤ w32 (x2 + x5) ∧ w32 (x2 + x5) < 640 then (some (.inl (w32 (x5 + 1), sto (sto m 19 (w32 (x2 + x5)) x6) 20 (w32 (x2 + x5)) x7))) else none) else none) : Option ((Int × OMem) ⊕ ((OMem)))) Q) : Ok (f_placeFunction_b82 x1 x2 x3 x4 x5 x6 x7 m) Q := h
theorem u_f_placeFunction_b76 {x1 x2 x3 x4 x5 x6 x7 : Int} {m : OMem} {Q : ((Int × OMem) ⊕ ((OMem))) → Prop} (h : Ok ((f_placeFunction_b82 x1 x2 x3 x4 x5 x6 (w32 (x2 + x7)) m) : Option ((Int × OMem) ⊕ ((OMem)))) Q) : Ok (f_placeFunction_b76 x1 x2 x3 x4 x5 x6 x7 m) Q := h
theorem u_f_placeFunction_l32 {x1 x2 x3 x4 : Int} {x5 : Int} {m : OMem} {Q : ((Int × OMem) ⊕ ((OMem))) → Prop} (h : Ok ((if x5 < x3 then (if 0 ≤ w32 (x4 + x5) ∧ w32 (x4 + x5) < 96 then (if 0 ≤ w32 (x4 + x5) ∧ w32 (x4 + x5) < 96 then (if m 9 (w32 (x4 + x5)) = 10 then (f_placeFunction_b76 x1 x2 x3 x4 x5 (m 9 (w32 (x4 + x5))) (m 10 (w32 (x4 + x5))) m) else (if m 9 (w32 (x4 + x5)) = 11 then (f_placeFunction_b76 x1 x2 x3 x4 x5 (m 9 (w32 (x4 + x5))) (m 10 (w32 (x4 + x5))) m) else (f_placeFunction_b82 x1 x2 x3 x4 x5 (m 9 (w32 (x4 + x5))) (m 10 (w32 (x4 + x5))) m))) else none) else none) else (some (.inr m))) : Option ((Int × OMem) ⊕ ((OMem)))) Q) : Ok (f_placeFunction_l32 x1 x2 x3 x4 (x5, m)) Q := h
theorem u_f_placeFunction_l113 {x1 x2 : Int} {x5 : Int} {m : OMem} {Q : ((Int × OMem) ⊕ ((OMem))) → Prop} (h : Ok ((if 0 ≤ x1 ∧ x1 < 16 then (if x5 < m 22 x1 then (if 0 ≤ w32 (x2 + x5) ∧ w32 (x2 + x5) < 640 then (if 0 ≤ w32 (x2 + x5) ∧ w32 (x2 + x5) < 640 then (some (.inl (w32 (x5 + 1), sto (sto m 19 (w32 (x2 + x5)) 0) 20 (w32 (x2 + x5)) 0))) else none) else none) else (some (.inr m))) else none) : Option ((Int × OMem) ⊕ ((OMem)))) Q) : Ok (f_placeFunction_l113 x1 x2 (x5, m)) Q := h
theorem u_f_placeFunction {x1 : Int} {m : OMem} {Q : (OMem) → Prop} (h : Ok ((if 0 ≤ x1 ∧ x1 < 16 then (if 0 ≤ x1 ∧ x1 < 16 then (if 0 ≤ x1 ∧ x1 < 16 then ((lp (f_placeFunction_l32 x1 (m 21 x1) (m 7 x1) (w32 ((w32 ((div32 x1 4) * 24)) + (m 8 x1)))) NN (0, m)).bind fun m_12 => ((lp (f_placeFunction_l113 x1 (m 21 x1)) NN (m 7 x1, m_12)).bind fun m_13 => (some m_13))) else none) else none) else none) : Option (OMem)) Q) : Ok (f_placeFunction x1 m) Q := h
theorem u_f_publishThunks_l2 {x1 : Int} {x2 : Int} {m : OMem} {Q : ((Int × OMem) ⊕ ((OMem))) → Prop} (h : Ok ((if 0 ≤ x1 ∧ x1 < 4 then (if x2 < m 5 x1 then (if 0 ≤ w32 ((w32 (x1 * 4)) + x2) ∧ w32 ((w32 (x1 * 4)) + x2) < 16 then (if 0 ≤ m 6 (w32 ((w32 (x1 * 4)) + x2)) ∧ m 6 (w32 ((w32 (x1 * 4)) + x2)) < 8 then (some (.inl (w32 (x2 + 1), sto m 23 (m 6 (w32 ((w32 (x1 * 4)) + x2))) (w32 ((w32 (x1 * 4)) + x2))))) else none) else none) else (some (.inr m))) else none) : Option ((Int × OMem) ⊕ ((OMem)))) Q) : Ok (f_publishThunks_l2 x1 (x2, m)) Q := h
theorem u_f_publishThunks {x1 : Int} {m : OMem} {Q : (OMem) → Prop} (h : Ok (((lp (f_publishThunks_l2 x1) NN (0, m)).bind fun m_18 => (some m_18)) : Option (OMem)) Q) : Ok (f_publishThunks x1 m) Q := h
theorem u_f_linkSlot_b116 {x1 x2 : Int} {m : OMem} {Q : ((Int × OMem) ⊕ ((OMem) ⊕ (OMem))) → Prop} (h : Ok ((some (.inl (w32 (x2 + 1), m))) : Option ((Int × OMem) ⊕ ((OMem) ⊕ (OMem)))) Q) : Ok (f_linkSlot_b116 x1 x2 m) Q := h
theorem u_f_linkSlot_l2 {x1 : Int} {x2 : Int} {m : OMem} {Q : ((Int × OMem) ⊕ ((OMem) ⊕ (OMem))) → Prop} (h : Ok ((if 0 ≤ x1 ∧ x1 < 4 then (if x2 < m 5 x1 then (if 0 ≤ w32 ((w32 (x1 * 4)) + x2) ∧ w32 ((w32 (x1 * 4)) + x2) < 16 then (if 0 ≤ w32 ((w32 (x1 * 4)) + x2) ∧ w32 ((w32 (x1 * 4)) + x2) < 16 then (if m 22 (w32 ((w32 (x1 * 4)) + x2)) < m 7 (w32 ((w32 (x1 * 4)) + x2)) then (if m 0 18 < w32 ((w32 ((m 0 35) + (m 7 (w32 ((w32 (x1 * 4)) + x2))))) + (m 0 29)) then (some (.inr (.inl m))) else (if 0 ≤ w32 ((w32 (x1 * 4)) + x2) ∧ w32 ((w32 (x1 * 4)) + x2) < 16 then (if 0 ≤ w32 ((w32 (x1 * 4)) + x2) ∧ w32 ((w32 (x1 * 4)) + x2) < 16 then ((f_placeFunction (w32 ((w32 (x1 * 4)) + x2)) (sto (sto (sto m 21 (w32 ((w32 (x1 * 4)) + x2)) (m 0 35)) 22 (w32 ((w32 (x1 * 4)) + x2)) (w32 ((m 7 (w32 ((w32 (x1 * 4)) + x2))) + (m 0 29)))) 0 35 (w32 ((m 0 35) + (w32 ((m 7 (w32 ((w32 (x1 * 4)) + x2))) + (m 0 29))))))).bind fun m_14 => (f_linkSlot_b116 x1 x2 m_14)) else none) else none)) else ((f_placeFunction (w32 ((w32 (x1 * 4)) + x2)) m).bind fun m_15 => (f_linkSlot_b116 x1 x2 m_15))) else none) else none) else (some (.inr (.inr m)))) else none) : Option ((Int × OMem) ⊕ ((OMem) ⊕ (OMem)))) Q) : Ok (f_linkSlot_l2 x1 (x2, m)) Q := h
theorem u_f_linkSlot {x1 : Int} {m : OMem} {Q : (OMem) → Prop} (h : Ok (((lp (f_linkSlot_l2 x1) NN (0, m)).bind fun e => match e with | (.inl m_16) => (none) | (.inr m_17) => ((f_publishThunks x1 m_17).bind fun m_19 => (some m_19))) : Option (OMem)) Q) : Ok (f_linkSlot x1 m) Q := h
theorem u_f_commit {m : OMem} {Q : (Int × OMem) → Prop} (h : Ok ((if m 0 30 = 0 then (some (1, m)) else ((f_hasBadJump m).bind fun r_3 => (if r_3 = 0 then ((f_hasBadData m).bind fun r_4 => (if r_4 = 0 then ((f_hasDuplicate m).bind fun r_5 => (if r_5 = 0 then ((f_installBuffer m).bind fun m_11 => ((f_linkSlot (m_11 0 31) m_11).bind fun m_20 => (some (0, sto m_20 0 30 0)))) else (some (4, m)))) else (some (3, m)))) else (some (2, m))))) : Option (Int × OMem)) Q) : Ok (f_commit m) Q := h
theorem u_f_codeSize_b21 {m : OMem} {Q : (Int) → Prop} (h : Ok ((some (-1)) : Option (Int)) Q) : Ok (f_codeSize_b21 m) Q := h
theorem u_f_codeSize {x1 : Int} {m : OMem} {Q : (Int) → Prop} (h : Ok ((if x1 < 0 then (f_codeSize_b21 m) else (if x1 < m 0 28 then (if 0 ≤ x1 ∧ x1 < 4 then (if m 1 x1 = 0 then (f_codeSize_b21 m) else (if 0 ≤ x1 ∧ x1 < 4 then (some (m 11 x1)) else none)) else none) else (f_codeSize_b21 m))) : Option (Int)) Q) : Ok (f_codeSize x1 m) Q := h
theorem u_f_definedIn_b10 {m : OMem} {Q : (Int) → Prop} (h : Ok ((some (-1)) : Option (Int)) Q) : Ok (f_definedIn_b10 m) Q := h
theorem u_f_definedIn {x1 : Int} {m : OMem} {Q : (Int) → Prop} (h : Ok ((if x1 < 0 then (f_definedIn_b10 m) else (if 7 < x1 then (f_definedIn_b10 m) else (if 0 ≤ x1 ∧ x1 < 8 then (some (m 12 x1)) else none))) : Option (Int)) Q) : Ok (f_definedIn x1 m) Q := h
theorem u_l_law_b367 {s0 : Int} {m0 : OMem} {Q : (Int × OWd) → Prop} (h : Ok ((some (s0 % 2, [(54, m0)])) : Option (Int × OWd)) Q) : Ok (l_law_b367 s0 m0) Q := h
theorem u_l_law_b359 {s0 s1 : Int} {m0 : OMem} {Q : (Int × OWd) → Prop} (h : Ok ((if s0 = s1 then (l_law_b367 1 m0) else (l_law_b367 0 m0)) : Option (Int × OWd)) Q) : Ok (l_law_b359 s0 s1 m0) Q := h
theorem u_l_law_b358 {s0 : Int} {m0 : OMem} {Q : (Int × OWd) → Prop} (h : Ok ((l_law_b359 s0 (-1) m0) : Option (Int × OWd)) Q) : Ok (l_law_b358 s0 m0) Q := h
theorem u_l_law_b333 {x2 x6 x11 s0 s1 : Int} {m0 : OMem} {Q : (Int × OWd) → Prop} (h : Ok ((if s0 = s1 then ((f_definedIn x2 m0).bind fun r_33 => (if x11 = 0 then (l_law_b358 r_33 m0) else (if x6 = 0 then (l_law_b358 r_33 m0) else (l_law_b359 r_33 0 m0)))) else (some (0, [(54, m0)]))) : Option (Int × OWd)) Q) : Ok (l_law_b333 x2 x6 x11 s0 s1 m0) Q := h
theorem u_l_law_b311 {x2 x6 x9 x11 s0 s1 : Int} {m0 : OMem} {Q : (Int × OWd) → Prop} (h : Ok ((if s0 = s1 then ((f_codeSize 0 m0).bind fun r_32 => (if x11 = 0 then (l_law_b333 x2 x6 x11 r_32 (-1) m0) else (l_law_b333 x2 x6 x11 r_32 x9 m0))) else (some (0, [(54, m0)]))) : Option (Int × OWd)) Q) : Ok (l_law_b311 x2 x6 x9 x11 s0 s1 m0) Q := h
theorem u_l_law_b230 {x2 x3 x4 x6 x8 x9 x10 s0 : Int} {m0 : OMem} {Q : (Int × OWd) → Prop} (h : Ok (((f_beginModule 0 m0).bind fun (r_22, m_23) => (if r_22 = 0 then (some (0, [(54, m_23)])) else ((f_addFunction x2 m_23).bind fun (r_24, m_25) => (if r_24 = x6 then ((f_emit x3 x4 m_25).bind fun (r_26, m_27) => (if r_26 = x8 then ((f_bufferSize m_27).bind fun r_28 => (if r_28 = x9 then ((f_commit m_27).bind fun (r_29, m_30) => (if r_29 = x10 then ((f_bufferSize m_30).bind fun r_31 => (if s0 = 0 then (l_law_b311 x2 x6 x9 s0 r_31 x9 m_30) else (l_law_b311 x2 x6 x9 s0 r_31 (-1) m_30))) else (some (0, [(54, m_30)])))) else (some (0, [(54, m_27)])))) else (some (0, [(54, m_27)])))) else (some (0, [(54, m_25)])))))) : Option (Int × OWd)) Q) : Ok (l_law_b230 x2 x3 x4 x6 x8 x9 x10 s0 m0) Q := h
theorem u_l_law_b220 {x2 x3 x4 x6 x8 x9 x10 : Int} {m0 : OMem} {Q : (Int × OWd) → Prop} (h : Ok ((if x10 = 0 then (l_law_b230 x2 x3 x4 x6 x8 x9 x10 1 m0) else (l_law_b230 x2 x3 x4 x6 x8 x9 x10 0 m0)) : Option (Int × OWd)) Q) : Ok (l_law_b220 x2 x3 x4 x6 x8 x9 x10 m0) Q := h
theorem u_l_law_b217 {x2 x3 x4 x6 x8 x9 : Int} {m0 : OMem} {Q : (Int × OWd) → Prop} (h : Ok ((l_law_b220 x2 x3 x4 x6 x8 x9 3 m0) : Option (Int × OWd)) Q) : Ok (l_law_b217 x2 x3 x4 x6 x8 x9 m0) Q := h
theorem u_l_law_b202 {x2 x3 x4 x6 x8 x9 x10 : Int} {m0 : OMem} {Q : (Int × OWd) → Prop} (h : Ok ((if x8 = 0 then (l_law_b220 x2 x3 x4 x6 x8 x9 x10 m0) else (if x3 = 4 then (l_law_b217 x2 x3 x4 x6 x8 x9 m0) else (if x3 = 5 then (l_law_b217 x2 x3 x4 x6 x8 x9 m0) else (l_law_b220 x2 x3 x4 x6 x8 x9 x10 m0)))) : Option (Int × OWd)) Q) : Ok (l_law_b202 x2 x3 x4 x6 x8 x9 x10 m0) Q := h
theorem u_l_law_b194 {x2 x3 x4 x6 x8 x9 x10 : Int} {m0 : OMem} {Q : (Int × OWd) → Prop} (h : Ok ((if x4 = 0 then (l_law_b202 x2 x3 x4 x6 x8 x9 x10 m0) else (l_law_b202 x2 x3 x4 x6 x8 x9 2 m0)) : Option (Int × OWd)) Q) : Ok (l_law_b194 x2 x3 x4 x6 x8 x9 x10 m0) Q := h
theorem u_l_law_b172 {x2 x3 x4 x6 x8 s0 : Int} {m0 : OMem} {Q : (Int × OWd) → Prop} (h : Ok ((if x8 = 0 then (l_law_b202 x2 x3 x4 x6 x8 s0 0 m0) else (if x3 = 10 then (l_law_b194 x2 x3 x4 x6 x8 s0 0 m0) else (if x3 = 11 then (l_law_b194 x2 x3 x4 x6 x8 s0 0 m0) else (l_law_b202 x2 x3 x4 x6 x8 s0 0 m0)))) : Option (Int × OWd)) Q) : Ok (l_law_b172 x2 x3 x4 x6 x8 s0 m0) Q := h
theorem u_l_law_b160 {x2 x3 x4 x6 s0 : Int} {m0 : OMem} {Q : (Int × OWd) → Prop} (h : Ok ((if s0 = 0 then (l_law_b172 x2 x3 x4 x6 s0 0 m0) else (l_law_b172 x2 x3 x4 x6 s0 1 m0)) : Option (Int × OWd)) Q) : Ok (l_law_b160 x2 x3 x4 x6 s0 m0) Q := h
theorem u_l_law_b159 {x2 x3 x4 x6 : Int} {m0 : OMem} {Q : (Int × OWd) → Prop} (h : Ok ((l_law_b160 x2 x3 x4 x6 0 m0) : Option (Int × OWd)) Q) : Ok (l_law_b159 x2 x3 x4 x6 m0) Q := h
theorem u_l_law_b134 {x2 x3 x4 x6 x7 : Int} {m0 : OMem} {Q : (Int × OWd) → Prop} (h : Ok ((if x6 = 0 then (l_law_b159 x2 x3 x4 x6 m0) else (if x3 < 1 then (l_law_b159 x2 x3 x4 x6 m0) else (if 15 < x3 then (l_law_b159 x2 x3 x4 x6 m0) else (if x7 = 0 then (l_law_b159 x2 x3 x4 x6 m0) else (l_law_b160 x2 x3 x4 x6 1 m0))))) : Option (Int × OWd)) Q) : Ok (l_law_b134 x2 x3 x4 x6 x7 m0) Q := h
theorem u_l_law_b61 {x2 x3 x4 x6 s0 : Int} {m0 : OMem} {Q : (Int × OWd) → Prop} (h : Ok ((l_law_b134 x2 x3 x4 x6 s0 m0) : Option (Int × OWd)) Q) : Ok (l_law_b61 x2 x3 x4 x6 s0 m0) Q := h
theorem u_l_law_b60 {x2 x3 x4 x6 : Int} {m0 : OMem} {Q : (Int × OWd) → Prop} (h : Ok ((l_law_b61 x2 x3 x4 x6 0 m0) : Option (Int × OWd)) Q) : Ok (l_law_b60 x2 x3 x4 x6 m0) Q := h
theorem u_l_law_b44 {x2 x3 x4 x6 : Int} {m0 : OMem} {Q : (Int × OWd) → Prop} (h : Ok ((if x4 < 0 then (l_law_b60 x2 x3 x4 x6 m0) else (if 7 < x4 then (l_law_b60 x2 x3 x4 x6 m0) else (l_law_b61 x2 x3 x4 x6 1 m0))) : Option (Int × OWd)) Q) : Ok (l_law_b44 x2 x3 x4 x6 m0) Q := h
theorem u_l_law_b92 {x2 x3 x4 x6 s0 : Int} {m0 : OMem} {Q : (Int × OWd) → Prop} (h : Ok ((l_law_b134 x2 x3 x4 x6 s0 m0) : Option (Int × OWd)) Q) : Ok (l_law_b92 x2 x3 x4 x6 s0 m0) Q := h
theorem u_l_law_b91 {x2 x3 x4 x6 : Int} {m0 : OMem} {Q : (Int × OWd) → Prop} (h : Ok ((l_law_b92 x2 x3 x4 x6 0 m0) : Option (Int × OWd)) Q) : Ok (l_law_b91 x2 x3 x4 x6 m0) Q := h
theorem u_l_law_b76 {x2 x3 x4 x6 : Int} {m0 : OMem} {Q : (Int × OWd) → Prop} (h : Ok ((if x4 < 0 then (l_law_b91 x2 x3 x4 x6 m0) else (if 3 < x4 then (l_law_b91 x2 x3 x4 x6 m0) else (l_law_b92 x2 x3 x4 x6 1 m0))) : Option (Int × OWd)) Q) : Ok (l_law_b76 x2 x3 x4 x6 m0) Q := h
theorem u_l_law_b126 {x2 x3 x4 x6 s0 : Int} {m0 : OMem} {Q : (Int × OWd) → Prop} (h : Ok ((l_law_b134 x2 x3 x4 x6 s0 m0) : Option (Int × OWd)) Q) : Ok (l_law_b126 x2 x3 x4 x6 s0 m0) Q := h
theorem u_l_law_b125 {x2 x3 x4 x6 : Int} {m0 : OMem} {Q : (Int × OWd) → Prop} (h : Ok ((l_law_b126 x2 x3 x4 x6 0 m0) : Option (Int × OWd)) Q) : Ok (l_law_b125 x2 x3 x4 x6 m0) Q := h
theorem u_l_law_b109 {x2 x3 x4 x6 : Int} {m0 : OMem} {Q : (Int × OWd) → Prop} (h : Ok ((if x4 < 0 then (l_law_b125 x2 x3 x4 x6 m0) else (if 23 < x4 then (l_law_b125 x2 x3 x4 x6 m0) else (l_law_b126 x2 x3 x4 x6 1 m0))) : Option (Int × OWd)) Q) : Ok (l_law_b109 x2 x3 x4 x6 m0) Q := h
theorem u_l_law_b26 {x2 x3 x4 s0 : Int} {m0 : OMem} {Q : (Int × OWd) → Prop} (h : Ok ((if x3 = 2 then (l_law_b44 x2 x3 x4 s0 m0) else (if x3 = 3 then (l_law_b44 x2 x3 x4 s0 m0) else (if x3 = 12 then (l_law_b44 x2 x3 x4 s0 m0) else (if x3 = 4 then (l_law_b76 x2 x3 x4 s0 m0) else (if x3 = 5 then (l_law_b76 x2 x3 x4 s0 m0) else (if x3 = 10 then (l_law_b109 x2 x3 x4 s0 m0) else (if x3 = 11 then (l_law_b109 x2 x3 x4 s0 m0) else (l_law_b134 x2 x3 x4 s0 1 m0)))))))) : Option (Int × OWd)) Q) : Ok (l_law_b26 x2 x3 x4 s0 m0) Q := h
theorem u_l_law_b25 {x2 x3 x4 : Int} {m0 : OMem} {Q : (Int × OWd) → Prop} (h : Ok ((l_law_b26 x2 x3 x4 0 m0) : Option (Int × OWd)) Q) : Ok (l_law_b25 x2 x3 x4 m0) Q := h
theorem u_l_law {x0 x1 x2 x3 x4 : Int} {Q : (Int × OWd) → Prop} (h : Ok (((f_init x0 x1 z0).bind fun m_21 => (if x2 < 0 then (l_law_b25 x2 x3 x4 m_21) else (if 7 < x2 then (l_law_b25 x2 x3 x4 m_21) else (l_law_b26 x2 x3 x4 1 m_21)))) : Option (Int × OWd)) Q) : Ok (l_law x0 x1 x2 x3 x4) Q := h
set_option maxRecDepth 65536 in
set_option maxHeartbeats 16000000 in
theorem own_fill (m0 : OMem) : Ok (lp f_init_l270 NN (0, m0)) (fun m => ∀ k i, m k i = if (k = 12 ∨ k = 23) ∧ 0 ≤ i ∧ i < 8 then -1 else m0 k i) := by
  refine Ok.loop (fun s => 0 ≤ s.1 ∧ s.1 ≤ 8 ∧ ∀ k i, s.2 k i = if (k = 12 ∨ k = 23) ∧ 0 ≤ i ∧ i < s.1 then -1 else m0 k i) (fun s => (8 - s.1).toNat) ?_ (by simp) ?_
  · refine ⟨by simp, by simp, fun k i => ?_⟩
    rw [if_neg (by simp <;> omega)]
  · rintro ⟨x, m⟩ ⟨a, b, c⟩
    dsimp only at a b c
    repeat' (first | ((with_reducible refine Ok.grd ?_ ?_); (focus (first | omega | ((try simp only [w32_al, w32_ar, w32_sl, w32_sr, w32_m4, w32_m6, w32_m10, w32_m16, w32_m24]); (repeat rw [w32_id (by omega)]); omega) | ((try simp only [w32_al, w32_ar, w32_sl, w32_sr, w32_m4, w32_m6, w32_m10, w32_m16, w32_m24]); unfold w32; omega) | (simp [sto, z0_at, w32]; done) | (simp [sto, z0_at, w32]; omega)))) | ((with_reducible refine Ok.ite (fun h => ?_) (fun h => ?_)) <;> (try simp [sto, z0_at, w32] at h) <;> (try (exfalso; omega))) | (with_reducible refine Ok.bind' ?_) | ((with_reducible refine Ok.ret ?_); (try dsimp only)) | (with_reducible refine Ok.lpNN ?_) | (with_reducible refine Ok.lp1 ?_) | (with_reducible refine u_f_init_l270 ?_))
    · rw [w32_id (by omega)]
      refine ⟨⟨by omega, by omega, fun k i => ?_⟩, by omega⟩
      simp only [sto, c]
      repeat' split
      all_goals omega
    · intro k i
      obtain rfl : x = 8 := by omega
      exact c k i
/- what the maker leaves -/
set_option maxRecDepth 65536 in
set_option maxHeartbeats 16000000 in
theorem own_init (x0 x1 : Int) : Ok (f_init x0 x1 z0) (fun m => m 0 28 = (if x0 < 1 then 1 else if 4 < x0 then 4 else x0) ∧ (0 ≤ m 0 29 ∧ m 0 29 ≤ 8) ∧ m 0 18 = 640 ∧ (∀ i, i ≠ 18 → i ≠ 28 → i ≠ 29 → m 0 i = 0) ∧ (∀ i, 0 ≤ i → i < 8 → m 12 i = -1) ∧ (∀ i, 0 ≤ i → i < 8 → m 23 i = -1) ∧ (∀ k i, k ≠ 0 → k ≠ 12 → k ≠ 23 → m k i = 0)) := by
  repeat' (first | ((with_reducible refine Ok.grd ?_ ?_); (focus (first | omega | ((try simp only [w32_al, w32_ar, w32_sl, w32_sr, w32_m4, w32_m6, w32_m10, w32_m16, w32_m24]); (repeat rw [w32_id (by omega)]); omega) | ((try simp only [w32_al, w32_ar, w32_sl, w32_sr, w32_m4, w32_m6, w32_m10, w32_m16, w32_m24]); unfold w32; omega) | (simp [sto, z0_at, w32]; done) | (simp [sto, z0_at, w32]; omega)))) | ((with_reducible refine Ok.ite (fun h => ?_) (fun h => ?_)) <;> (try simp [sto, z0_at, w32] at h) <;> (try (exfalso; omega))) | (with_reducible refine Ok.bind' ?_) | ((with_reducible refine Ok.ret ?_); (try dsimp only)) | (with_reducible refine Ok.lpNN ?_) | (with_reducible refine Ok.lp1 ?_) | (with_reducible refine u_f_init ?_) | (with_reducible refine u_f_init_b241 ?_))
  all_goals (unfold f_init_b265; refine Ok.bind (own_fill _) fun m h => Ok.ret ?_; refine ⟨?_, ?_, ?_, fun i a b c => ?_, fun i a b => ?_, fun i a b => ?_, fun k i a b c => ?_⟩ <;> simp [h, sto, z0_at] <;> omega)

abbrev own_AOK (x3 x4 : Int) : Prop := (x3 = 2 ∨ x3 = 3 ∨ x3 = 12 → 0 ≤ x4 ∧ x4 ≤ 7) ∧ (x3 = 4 ∨ x3 = 5 → 0 ≤ x4 ∧ x4 ≤ 3) ∧ (x3 = 10 ∨ x3 = 11 → 0 ≤ x4 ∧ x4 ≤ 23)
set_option maxRecDepth 65536 in
set_option maxHeartbeats 16000000 in
theorem own_aok1 {x3 x4 : Int} (m : OMem) (h : own_AOK x3 x4) : f_argOk x3 x4 m = some 1 := by
  have : Ok (f_argOk x3 x4 m) (fun r => r = 1) := by
    repeat' (first | ((with_reducible refine Ok.grd ?_ ?_); (focus (first | omega | ((try simp only [w32_al, w32_ar, w32_sl, w32_sr, w32_m4, w32_m6, w32_m10, w32_m16, w32_m24]); (repeat rw [w32_id (by omega)]); omega) | ((try simp only [w32_al, w32_ar, w32_sl, w32_sr, w32_m4, w32_m6, w32_m10, w32_m16, w32_m24]); unfold w32; omega) | (simp [sto, z0_at, w32]; done) | (simp [sto, z0_at, w32]; omega)))) | ((with_reducible refine Ok.ite (fun h => ?_) (fun h => ?_)) <;> (try simp [sto, z0_at, w32] at h) <;> (try (exfalso; omega))) | (with_reducible refine Ok.bind' ?_) | ((with_reducible refine Ok.ret ?_); (try dsimp only)) | (with_reducible refine Ok.lpNN ?_) | (with_reducible refine Ok.lp1 ?_) | (with_reducible refine u_f_argOk ?_) | (with_reducible refine u_f_argOk_b107 ?_) | (with_reducible refine u_f_argOk_b75 ?_) | (with_reducible refine u_f_argOk_b74 ?_) | (with_reducible refine u_f_argOk_b60 ?_) | (with_reducible refine u_f_argOk_b106 ?_) | (with_reducible refine u_f_argOk_b105 ?_) | (with_reducible refine u_f_argOk_b91 ?_) | (with_reducible refine u_f_argOk_b90 ?_) | (with_reducible refine u_f_argOk_b89 ?_) | (with_reducible refine u_f_argOk_b76 ?_))
    all_goals (first | trivial | omega | ((try simp only [w32_al, w32_ar, w32_sl, w32_sr, w32_m4, w32_m6, w32_m10, w32_m16, w32_m24]); (repeat rw [w32_id (by omega)]); omega) | ((try simp only [w32_al, w32_ar, w32_sl, w32_sr, w32_m4, w32_m6, w32_m10, w32_m16, w32_m24]); unfold w32; omega) | (simp [sto, z0_at, w32]; done) | (simp [sto, z0_at, w32]; omega))
  obtain ⟨r, e, rfl⟩ := this
  exact e
set_option maxRecDepth 65536 in
set_option maxHeartbeats 16000000 in
theorem own_aok0 {x3 x4 : Int} (m : OMem) (h : ¬ own_AOK x3 x4) : f_argOk x3 x4 m = some 0 := by
  have : Ok (f_argOk x3 x4 m) (fun r => r = 0) := by
    repeat' (first | ((with_reducible refine Ok.grd ?_ ?_); (focus (first | omega | ((try simp only [w32_al, w32_ar, w32_sl, w32_sr, w32_m4, w32_m6, w32_m10, w32_m16, w32_m24]); (repeat rw [w32_id (by omega)]); omega) | ((try simp only [w32_al, w32_ar, w32_sl, w32_sr, w32_m4, w32_m6, w32_m10, w32_m16, w32_m24]); unfold w32; omega) | (simp [sto, z0_at, w32]; done) | (simp [sto, z0_at, w32]; omega)))) | ((with_reducible refine Ok.ite (fun h => ?_) (fun h => ?_)) <;> (try simp [sto, z0_at, w32] at h) <;> (try (exfalso; omega))) | (with_reducible refine Ok.bind' ?_) | ((with_reducible refine Ok.ret ?_); (try dsimp only)) | (with_reducible refine Ok.lpNN ?_) | (with_reducible refine Ok.lp1 ?_) | (with_reducible refine u_f_argOk ?_) | (with_reducible refine u_f_argOk_b107 ?_) | (with_reducible refine u_f_argOk_b75 ?_) | (with_reducible refine u_f_argOk_b74 ?_) | (with_reducible refine u_f_argOk_b60 ?_) | (with_reducible refine u_f_argOk_b106 ?_) | (with_reducible refine u_f_argOk_b105 ?_) | (with_reducible refine u_f_argOk_b91 ?_) | (with_reducible refine u_f_argOk_b90 ?_) | (with_reducible refine u_f_argOk_b89 ?_) | (with_reducible refine u_f_argOk_b76 ?_))
    all_goals (first | trivial | omega | ((try simp only [w32_al, w32_ar, w32_sl, w32_sr, w32_m4, w32_m6, w32_m10, w32_m16, w32_m24]); (repeat rw [w32_id (by omega)]); omega) | ((try simp only [w32_al, w32_ar, w32_sl, w32_sr, w32_m4, w32_m6, w32_m10, w32_m16, w32_m24]); unfold w32; omega) | (simp [sto, z0_at, w32]; done) | (simp [sto, z0_at, w32]; omega))
  obtain ⟨r, e, rfl⟩ := this
  exact e
set_option maxRecDepth 65536 in
set_option maxHeartbeats 16000000 in
theorem own_emit0 {x3 x4 : Int} (m : OMem) (h30 : m 0 30 = 1) (h33 : m 0 33 = 1) (h34 : m 0 34 = 0) (h : ¬ (1 ≤ x3 ∧ x3 ≤ 15 ∧ own_AOK x3 x4)) : f_emit x3 x4 m = some (0, m) := by
  have : Ok (f_emit x3 x4 m) (fun r => r = (0, m)) := by
    by_cases hA : own_AOK x3 x4
    · repeat' (first | (with_reducible refine Ok.bindE (own_aok1 _ hA) ?_) | ((with_reducible refine Ok.grd ?_ ?_); (focus (first | omega | ((try simp only [w32_al, w32_ar, w32_sl, w32_sr, w32_m4, w32_m6, w32_m10, w32_m16, w32_m24]); (repeat rw [w32_id (by omega)]); omega) | ((try simp only [w32_al, w32_ar, w32_sl, w32_sr, w32_m4, w32_m6, w32_m10, w32_m16, w32_m24]); unfold w32; omega) | (simp [sto, z0_at, w32, h30, h33, h34]; done) | (simp [sto, z0_at, w32, h30, h33, h34]; omega)))) | ((with_reducible refine Ok.ite (fun h => ?_) (fun h => ?_)) <;> (try simp [sto, z0_at, w32, h30, h33, h34] at h) <;> (try (exfalso; omega))) | (with_reducible refine Ok.bind' ?_) | ((with_reducible refine Ok.ret ?_); (try dsimp only)) | (with_reducible refine Ok.lpNN ?_) | (with_reducible refine Ok.lp1 ?_) | (with_reducible refine u_f_emit ?_) | (with_reducible refine u_f_emit_b25 ?_) | (with_reducible refine u_f_emit_b45 ?_))
      all_goals (first | rfl | (exfalso; omega))
    · repeat' (first | (with_reducible refine Ok.bindE (own_aok0 _ hA) ?_) | ((with_reducible refine Ok.grd ?_ ?_); (focus (first | omega | ((try simp only [w32_al, w32_ar, w32_sl, w32_sr, w32_m4, w32_m6, w32_m10, w32_m16, w32_m24]); (repeat rw [w32_id (by omega)]); omega) | ((try simp only [w32_al, w32_ar, w32_sl, w32_sr, w32_m4, w32_m6, w32_m10, w32_m16, w32_m24]); unfold w32; omega) | (simp [sto, z0_at, w32, h30, h33, h34]; done) | (simp [sto, z0_at, w32, h30, h33, h34]; omega)))) | ((with_reducible refine Ok.ite (fun h => ?_) (fun h => ?_)) <;> (try simp [sto, z0_at, w32, h30, h33, h34] at h) <;> (try (exfalso; omega))) | (with_reducible refine Ok.bind' ?_) | ((with_reducible refine Ok.ret ?_); (try dsimp only)) | (with_reducible refine Ok.lpNN ?_) | (with_reducible refine Ok.lp1 ?_) | (with_reducible refine u_f_emit ?_) | (with_reducible refine u_f_emit_b25 ?_) | (with_reducible refine u_f_emit_b45 ?_))
      all_goals (first | rfl | (exfalso; omega))
  obtain ⟨r, e, rfl⟩ := this
  exact e
set_option maxRecDepth 65536 in
set_option maxHeartbeats 16000000 in
theorem own_pf (m : OMem) (a : m 21 0 = 0) (b : 0 ≤ m 7 0 ∧ m 7 0 ≤ 1) (c : m 8 0 = 0) (d : m 22 0 ≤ 9) : Ok (f_placeFunction 0 m) (fun m' => ∀ k i, k ≠ 19 → k ≠ 20 → m' k i = m k i) := by
  have e0 : w32 (w32 (div32 0 4 * 24) + m 8 0) = 0 := by rw [c]; decide
  unfold f_placeFunction
  refine Ok.grd (by decide) (Ok.grd (by decide) (Ok.grd (by decide) ?_))
  rw [e0, a]
  refine Ok.bind (P := fun m' => ∀ k i, k ≠ 19 → k ≠ 20 → m' k i = m k i) ?_ fun m1 hm1 => ?_
  · refine Ok.loop (fun s => 0 ≤ s.1 ∧ ∀ k i, k ≠ 19 → k ≠ 20 → s.2 k i = m k i) (fun s => (1 - s.1).toNat) ⟨by simp, fun _ _ _ _ => rfl⟩ (by simp) ?_
    rintro ⟨x, m1⟩ ⟨h1, h2⟩
    dsimp only at h1 h2
    repeat' (first | ((with_reducible refine Ok.grd ?_ ?_); (focus (first | omega | ((try simp only [w32_al, w32_ar, w32_sl, w32_sr, w32_m4, w32_m6, w32_m10, w32_m16, w32_m24]); (repeat rw [w32_id (by omega)]); omega) | ((try simp only [w32_al, w32_ar, w32_sl, w32_sr, w32_m4, w32_m6, w32_m10, w32_m16, w32_m24]); unfold w32; omega) | (simp [sto, z0_at, w32]; done) | (simp [sto, z0_at, w32]; omega)))) | ((with_reducible refine Ok.ite (fun h => ?_) (fun h => ?_)) <;> (try simp [sto, z0_at, w32] at h) <;> (try (exfalso; omega))) | (with_reducible refine Ok.bind' ?_) | ((with_reducible refine Ok.ret ?_); (try dsimp only)) | (with_reducible refine Ok.lpNN ?_) | (with_reducible refine Ok.lp1 ?_) | (with_reducible refine u_f_placeFunction_l32 ?_) | (with_reducible refine u_f_placeFunction_b82 ?_) | (with_reducible refine u_f_placeFunction_b76 ?_))
    all_goals (first | exact h2 | (rw [w32_id (by omega)]; exact ⟨⟨by omega, fun k i p q => by rw [← h2 k i p q, sto_k _ _ _ _ q, sto_k _ _ _ _ p]⟩, by omega⟩))
  refine Ok.bind (P := fun m' => ∀ k i, k ≠ 19 → k ≠ 20 → m' k i = m k i) ?_ fun m2 hm2 => Ok.ret hm2
  refine Ok.loop (fun s => 0 ≤ s.1 ∧ ∀ k i, k ≠ 19 → k ≠ 20 → s.2 k i = m k i) (fun s => (9 - s.1).toNat) ⟨b.1, hm1⟩ (by simp; omega) ?_
  rintro ⟨x, m1⟩ ⟨h1, h2⟩
  dsimp only at h1 h2
  have e22 : m1 22 0 = m 22 0 := h2 22 0 (by decide) (by decide)
  repeat' (first | ((with_reducible refine Ok.grd ?_ ?_); (focus (first | omega | ((try simp only [w32_al, w32_ar, w32_sl, w32_sr, w32_m4, w32_m6, w32_m10, w32_m16, w32_m24]); (repeat rw [w32_id (by omega)]); omega) | ((try simp only [w32_al, w32_ar, w32_sl, w32_sr, w32_m4, w32_m6, w32_m10, w32_m16, w32_m24]); unfold w32; omega) | (simp [sto, z0_at, w32]; done) | (simp [sto, z0_at, w32]; omega)))) | ((with_reducible refine Ok.ite (fun h => ?_) (fun h => ?_)) <;> (try simp [sto, z0_at, w32] at h) <;> (try (exfalso; omega))) | (with_reducible refine Ok.bind' ?_) | ((with_reducible refine Ok.ret ?_); (try dsimp only)) | (with_reducible refine Ok.lpNN ?_) | (with_reducible refine Ok.lp1 ?_) | (with_reducible refine u_f_placeFunction_l113 ?_))
  all_goals (first | exact h2 | (rw [w32_id (by omega)]; exact ⟨⟨by omega, fun k i p q => by rw [← h2 k i p q, sto_k _ _ _ _ q, sto_k _ _ _ _ p]⟩, by omega⟩))
set_option maxRecDepth 65536 in
set_option maxHeartbeats 16000000 in
theorem own_A (x2 x3 x4 : Int) (m : OMem) (z1 : ∀ i, m 1 i = 0) (z2 : ∀ i, m 2 i = 0) (z3 : ∀ i, m 3 i = 0) (z4 : ∀ i, m 4 i = 0) (z5 : ∀ i, m 5 i = 0) (z6 : ∀ i, m 6 i = 0) (z7 : ∀ i, m 7 i = 0) (z8 : ∀ i, m 8 i = 0) (z9 : ∀ i, m 9 i = 0) (z10 : ∀ i, m 10 i = 0) (z11 : ∀ i, m 11 i = 0) (z13 : ∀ i, m 13 i = 0) (z14 : ∀ i, m 14 i = 0) (z15 : ∀ i, m 15 i = 0) (z16 : ∀ i, m 16 i = 0) (z17 : ∀ i, m 17 i = 0) (z18 : ∀ i, m 18 i = 0) (z19 : ∀ i, m 19 i = 0) (z20 : ∀ i, m 20 i = 0) (z21 : ∀ i, m 21 i = 0) (z22 : ∀ i, m 22 i = 0) (f30 : m 0 30 = 0) (f35 : m 0 35 = 0) (f18 : m 0 18 = 640) (f28 : 1 ≤ m 0 28) (f29 : 0 ≤ m 0 29 ∧ m 0 29 ≤ 8) (hx : ¬ (0 ≤ x2 ∧ x2 ≤ 7)) : Ok (l_law_b230 x2 x3 x4 0 0 0 0 1 m) (fun r => r.1 = 1) := by
  repeat' (first | ((with_reducible refine Ok.grd ?_ ?_); (focus (first | omega | ((try simp only [w32_al, w32_ar, w32_sl, w32_sr, w32_m4, w32_m6, w32_m10, w32_m16, w32_m24]); (repeat rw [w32_id (by omega)]); omega) | ((try simp only [w32_al, w32_ar, w32_sl, w32_sr, w32_m4, w32_m6, w32_m10, w32_m16, w32_m24]); unfold w32; omega) | (simp [sto, z0_at, w32, z1, z2, z3, z4, z5, z6, z7, z8, z9, z10, z11, z13, z14, z15, z16, z17, z18, z19, z20, z21, z22, f30, f35, f18, div32]; done) | (simp [sto, z0_at, w32, z1, z2, z3, z4, z5, z6, z7, z8, z9, z10, z11, z13, z14, z15, z16, z17, z18, z19, z20, z21, z22, f30, f35, f18, div32]; omega)))) | ((with_reducible refine Ok.ite (fun h => ?_) (fun h => ?_)) <;> (try simp [sto, z0_at, w32, z1, z2, z3, z4, z5, z6, z7, z8, z9, z10, z11, z13, z14, z15, z16, z17, z18, z19, z20, z21, z22, f30, f35, f18, div32] at h) <;> (try (exfalso; omega))) | (with_reducible refine Ok.bind' ?_) | ((with_reducible refine Ok.ret ?_); (try dsimp only)) | (with_reducible refine Ok.lpNN ?_) | (with_reducible refine Ok.lp1 ?_) | (with_reducible refine u_f_init_l270 ?_) | (with_reducible refine u_f_init_b265 ?_) | (with_reducible refine u_f_init_b241 ?_) | (with_reducible refine u_f_init ?_) | (with_reducible refine u_f_beginModule_b12 ?_) | (with_reducible refine u_f_beginModule ?_) | (with_reducible refine u_f_addFunction_b17 ?_) | (with_reducible refine u_f_addFunction_l21 ?_) | (with_reducible refine u_f_addFunction ?_) | (with_reducible refine u_f_argOk_b107 ?_) | (with_reducible refine u_f_argOk_b75 ?_) | (with_reducible refine u_f_argOk_b74 ?_) | (with_reducible refine u_f_argOk_b60 ?_) | (with_reducible refine u_f_argOk_b106 ?_) | (with_reducible refine u_f_argOk_b105 ?_) | (with_reducible refine u_f_argOk_b91 ?_) | (with_reducible refine u_f_argOk_b90 ?_) | (with_reducible refine u_f_argOk_b89 ?_) | (with_reducible refine u_f_argOk_b76 ?_) | (with_reducible refine u_f_emit_b25 ?_) | (with_reducible refine u_f_emit_b45 ?_) | (with_reducible refine u_f_emit ?_) | (with_reducible refine u_f_bufferSize_b15 ?_) | (with_reducible refine u_f_bufferSize ?_) | (with_reducible refine u_f_hasBadJump_b70 ?_) | (with_reducible refine u_f_hasBadJump_b57 ?_) | (with_reducible refine u_f_hasBadJump_l19 ?_) | (with_reducible refine u_f_hasBadJump_l2 ?_) | (with_reducible refine u_f_hasBadJump ?_) | (with_reducible refine u_f_hasBadData_b42 ?_) | (with_reducible refine u_f_hasBadData_b27 ?_) | (with_reducible refine u_f_hasBadData_l2 ?_) | (with_reducible refine u_f_hasBadData ?_) | (with_reducible refine u_f_hasDuplicate_b36 ?_) | (with_reducible refine u_f_hasDuplicate_l2 ?_) | (with_reducible refine u_f_hasDuplicate ?_) | (with_reducible refine u_f_clearSymbols_l12 ?_) | (with_reducible refine u_f_clearSymbols ?_) | (with_reducible refine u_f_installBuffer_l22 ?_) | (with_reducible refine u_f_installBuffer_l80 ?_) | (with_reducible refine u_f_installBuffer_l150 ?_) | (with_reducible refine u_f_installBuffer ?_) | (with_reducible refine u_f_placeFunction_b82 ?_) | (with_reducible refine u_f_placeFunction_b76 ?_) | (with_reducible refine u_f_placeFunction_l32 ?_) | (with_reducible refine u_f_placeFunction_l113 ?_) | (with_reducible refine u_f_placeFunction ?_) | (with_reducible refine u_f_publishThunks_l2 ?_) | (with_reducible refine u_f_publishThunks ?_) | (with_reducible refine u_f_linkSlot_b116 ?_) | (with_reducible refine u_f_linkSlot_l2 ?_) | (with_reducible refine u_f_linkSlot ?_) | (with_reducible refine u_f_commit ?_) | (with_reducible refine u_f_codeSize_b21 ?_) | (with_reducible refine u_f_codeSize ?_) | (with_reducible refine u_f_definedIn_b10 ?_) | (with_reducible refine u_f_definedIn ?_) | (with_reducible refine u_l_law_b367 ?_) | (with_reducible refine u_l_law_b359 ?_) | (with_reducible refine u_l_law_b358 ?_) | (with_reducible refine u_l_law_b333 ?_) | (with_reducible refine u_l_law_b311 ?_) | (with_reducible refine u_l_law_b230 ?_) | (with_reducible refine u_l_law_b220 ?_) | (with_reducible refine u_l_law_b217 ?_) | (with_reducible refine u_l_law_b202 ?_) | (with_reducible refine u_l_law_b194 ?_) | (with_reducible refine u_l_law_b172 ?_) | (with_reducible refine u_l_law_b160 ?_) | (with_reducible refine u_l_law_b159 ?_) | (with_reducible refine u_l_law_b134 ?_) | (with_reducible refine u_l_law_b61 ?_) | (with_reducible refine u_l_law_b60 ?_) | (with_reducible refine u_l_law_b44 ?_) | (with_reducible refine u_l_law_b92 ?_) | (with_reducible refine u_l_law_b91 ?_) | (with_reducible refine u_l_law_b76 ?_) | (with_reducible refine u_l_law_b126 ?_) | (with_reducible refine u_l_law_b125 ?_) | (with_reducible refine u_l_law_b109 ?_) | (with_reducible refine u_l_law_b26 ?_) | (with_reducible refine u_l_law_b25 ?_) | (with_reducible refine u_l_law ?_))
  all_goals (first | trivial | omega | ((try simp only [w32_al, w32_ar, w32_sl, w32_sr, w32_m4, w32_m6, w32_m10, w32_m16, w32_m24]); (repeat rw [w32_id (by omega)]); omega) | ((try simp only [w32_al, w32_ar, w32_sl, w32_sr, w32_m4, w32_m6, w32_m10, w32_m16, w32_m24]); unfold w32; omega) | (simp [sto, z0_at, w32, z1, z2, z3, z4, z5, z6, z7, z8, z9, z10, z11, z13, z14, z15, z16, z17, z18, z19, z20, z21, z22, f30, f35, f18, div32]; done) | (simp [sto, z0_at, w32, z1, z2, z3, z4, z5, z6, z7, z8, z9, z10, z11, z13, z14, z15, z16, z17, z18, z19, z20, z21, z22, f30, f35, f18, div32]; omega))
set_option maxRecDepth 65536 in
set_option maxHeartbeats 16000000 in
theorem own_B (x2 x3 x4 : Int) (m : OMem) (z1 : ∀ i, m 1 i = 0) (z2 : ∀ i, m 2 i = 0) (z3 : ∀ i, m 3 i = 0) (z4 : ∀ i, m 4 i = 0) (z5 : ∀ i, m 5 i = 0) (z6 : ∀ i, m 6 i = 0) (z7 : ∀ i, m 7 i = 0) (z8 : ∀ i, m 8 i = 0) (z9 : ∀ i, m 9 i = 0) (z10 : ∀ i, m 10 i = 0) (z11 : ∀ i, m 11 i = 0) (z13 : ∀ i, m 13 i = 0) (z14 : ∀ i, m 14 i = 0) (z15 : ∀ i, m 15 i = 0) (z16 : ∀ i, m 16 i = 0) (z17 : ∀ i, m 17 i = 0) (z18 : ∀ i, m 18 i = 0) (z19 : ∀ i, m 19 i = 0) (z20 : ∀ i, m 20 i = 0) (z21 : ∀ i, m 21 i = 0) (z22 : ∀ i, m 22 i = 0) (f30 : m 0 30 = 0) (f35 : m 0 35 = 0) (f18 : m 0 18 = 640) (f28 : 1 ≤ m 0 28) (f29 : 0 ≤ m 0 29 ∧ m 0 29 ≤ 8) (hx : 0 ≤ x2 ∧ x2 ≤ 7) (h12 : m 12 x2 = -1) (h23 : m 23 x2 = -1) (he : ¬ (1 ≤ x3 ∧ x3 ≤ 15 ∧ own_AOK x3 x4)) : Ok (l_law_b230 x2 x3 x4 1 0 0 0 1 m) (fun r => r.1 = 1) := by
  repeat' (first | (with_reducible refine Ok.bindE (own_emit0 _ (by simp [sto]) (by simp [sto, w32]) (by simp [sto]) he) ?_) | ((with_reducible refine Ok.grd ?_ ?_); (focus (first | omega | ((try simp only [w32_al, w32_ar, w32_sl, w32_sr, w32_m4, w32_m6, w32_m10, w32_m16, w32_m24]); (repeat rw [w32_id (by omega)]); omega) | ((try simp only [w32_al, w32_ar, w32_sl, w32_sr, w32_m4, w32_m6, w32_m10, w32_m16, w32_m24]); unfold w32; omega) | (simp [sto, z0_at, w32, z1, z2, z3, z4, z5, z6, z7, z8, z9, z10, z11, z13, z14, z15, z16, z17, z18, z19, z20, z21, z22, f30, f35, f18, div32, h12, h23]; done) | (simp [sto, z0_at, w32, z1, z2, z3, z4, z5, z6, z7, z8, z9, z10, z11, z13, z14, z15, z16, z17, z18, z19, z20, z21, z22, f30, f35, f18, div32, h12, h23]; omega)))) | ((with_reducible refine Ok.ite (fun h => ?_) (fun h => ?_)) <;> (try simp [sto, z0_at, w32, z1, z2, z3, z4, z5, z6, z7, z8, z9, z10, z11, z13, z14, z15, z16, z17, z18, z19, z20, z21, z22, f30, f35, f18, div32, h12, h23] at h) <;> (try (exfalso; omega))) | (with_reducible refine Ok.bind' ?_) | ((with_reducible refine Ok.ret ?_); (try dsimp only)) | (with_reducible refine Ok.lpNN ?_) | (with_reducible refine Ok.lp1 ?_) | (with_reducible refine u_f_init_l270 ?_) | (with_reducible refine u_f_init_b265 ?_) | (with_reducible refine u_f_init_b241 ?_) | (with_reducible refine u_f_init ?_) | (with_reducible refine u_f_beginModule_b12 ?_) | (with_reducible refine u_f_beginModule ?_) | (with_reducible refine u_f_addFunction_b17 ?_) | (with_reducible refine u_f_addFunction_l21 ?_) | (with_reducible refine u_f_addFunction ?_) | (with_reducible refine u_f_argOk_b107 ?_) | (with_reducible refine u_f_argOk_b75 ?_) | (with_reducible refine u_f_argOk_b74 ?_) | (with_reducible refine u_f_argOk_b60 ?_) | (with_reducible refine u_f_argOk_b106 ?_) | (with_reducible refine u_f_argOk_b105 ?_) | (with_reducible refine u_f_argOk_b91 ?_) | (with_reducible refine u_f_argOk_b90 ?_) | (with_reducible refine u_f_argOk_b89 ?_) | (with_reducible refine u_f_argOk_b76 ?_) | (with_reducible refine u_f_emit_b25 ?_) | (with_reducible refine u_f_emit_b45 ?_) | (with_reducible refine u_f_emit ?_) | (with_reducible refine u_f_bufferSize_b15 ?_) | (with_reducible refine u_f_bufferSize ?_) | (with_reducible refine u_f_hasBadJump_b70 ?_) | (with_reducible refine u_f_hasBadJump_b57 ?_) | (with_reducible refine u_f_hasBadJump_l19 ?_) | (with_reducible refine u_f_hasBadJump_l2 ?_) | (with_reducible refine u_f_hasBadJump ?_) | (with_reducible refine u_f_hasBadData_b42 ?_) | (with_reducible refine u_f_hasBadData_b27 ?_) | (with_reducible refine u_f_hasBadData_l2 ?_) | (with_reducible refine u_f_hasBadData ?_) | (with_reducible refine u_f_hasDuplicate_b36 ?_) | (with_reducible refine u_f_hasDuplicate_l2 ?_) | (with_reducible refine u_f_hasDuplicate ?_) | (with_reducible refine u_f_clearSymbols_l12 ?_) | (with_reducible refine u_f_clearSymbols ?_) | (with_reducible refine u_f_installBuffer_l22 ?_) | (with_reducible refine u_f_installBuffer_l80 ?_) | (with_reducible refine u_f_installBuffer_l150 ?_) | (with_reducible refine u_f_installBuffer ?_) | (with_reducible refine u_f_placeFunction_b82 ?_) | (with_reducible refine u_f_placeFunction_b76 ?_) | (with_reducible refine u_f_placeFunction_l32 ?_) | (with_reducible refine u_f_placeFunction_l113 ?_) | (with_reducible refine u_f_publishThunks_l2 ?_) | (with_reducible refine u_f_publishThunks ?_) | (with_reducible refine u_f_linkSlot_b116 ?_) | (with_reducible refine u_f_linkSlot_l2 ?_) | (with_reducible refine u_f_linkSlot ?_) | (with_reducible refine u_f_commit ?_) | (with_reducible refine u_f_codeSize_b21 ?_) | (with_reducible refine u_f_codeSize ?_) | (with_reducible refine u_f_definedIn_b10 ?_) | (with_reducible refine u_f_definedIn ?_) | (with_reducible refine u_l_law_b367 ?_) | (with_reducible refine u_l_law_b359 ?_) | (with_reducible refine u_l_law_b358 ?_) | (with_reducible refine u_l_law_b333 ?_) | (with_reducible refine u_l_law_b311 ?_) | (with_reducible refine u_l_law_b230 ?_) | (with_reducible refine u_l_law_b220 ?_) | (with_reducible refine u_l_law_b217 ?_) | (with_reducible refine u_l_law_b202 ?_) | (with_reducible refine u_l_law_b194 ?_) | (with_reducible refine u_l_law_b172 ?_) | (with_reducible refine u_l_law_b160 ?_) | (with_reducible refine u_l_law_b159 ?_) | (with_reducible refine u_l_law_b134 ?_) | (with_reducible refine u_l_law_b61 ?_) | (with_reducible refine u_l_law_b60 ?_) | (with_reducible refine u_l_law_b44 ?_) | (with_reducible refine u_l_law_b92 ?_) | (with_reducible refine u_l_law_b91 ?_) | (with_reducible refine u_l_law_b76 ?_) | (with_reducible refine u_l_law_b126 ?_) | (with_reducible refine u_l_law_b125 ?_) | (with_reducible refine u_l_law_b109 ?_) | (with_reducible refine u_l_law_b26 ?_) | (with_reducible refine u_l_law_b25 ?_) | (with_reducible refine u_l_law ?_))
  all_goals (refine Ok.mono (own_pf _ (by simp [sto, w32, z1, z2, z3, z4, z5, z6, z7, z8, z9, z10, z11, z13, z14, z15, z16, z17, z18, z19, z20, z21, z22, f30, f35, f18, div32, h12, h23]) (by simp [sto, w32, z1, z2, z3, z4, z5, z6, z7, z8, z9, z10, z11, z13, z14, z15, z16, z17, z18, z19, z20, z21, z22, f30, f35, f18, div32, h12, h23]) (by simp [sto, w32, z1, z2, z3, z4, z5, z6, z7, z8, z9, z10, z11, z13, z14, z15, z16, z17, z18, z19, z20, z21, z22, f30, f35, f18, div32, h12, h23]) (by simp [sto, w32, z1, z2, z3, z4, z5, z6, z7, z8, z9, z10, z11, z13, z14, z15, z16, z17, z18, z19, z20, z21, z22, f30, f35, f18, div32, h12, h23] <;> omega)) fun m' hpf => ?_)
  all_goals (try dsimp only)
  repeat' (first | ((with_reducible refine Ok.grd ?_ ?_); (focus (first | omega | ((try simp only [w32_al, w32_ar, w32_sl, w32_sr, w32_m4, w32_m6, w32_m10, w32_m16, w32_m24]); (repeat rw [w32_id (by omega)]); omega) | ((try simp only [w32_al, w32_ar, w32_sl, w32_sr, w32_m4, w32_m6, w32_m10, w32_m16, w32_m24]); unfold w32; omega) | (simp [sto, z0_at, w32, z1, z2, z3, z4, z5, z6, z7, z8, z9, z10, z11, z13, z14, z15, z16, z17, z18, z19, z20, z21, z22, f30, f35, f18, div32, h12, h23, hpf]; done) | (simp [sto, z0_at, w32, z1, z2, z3, z4, z5, z6, z7, z8, z9, z10, z11, z13, z14, z15, z16, z17, z18, z19, z20, z21, z22, f30, f35, f18, div32, h12, h23, hpf]; omega)))) | ((with_reducible refine Ok.ite (fun h => ?_) (fun h => ?_)) <;> (try simp [sto, z0_at, w32, z1, z2, z3, z4, z5, z6, z7, z8, z9, z10, z11, z13, z14, z15, z16, z17, z18, z19, z20, z21, z22, f30, f35, f18, div32, h12, h23, hpf] at h) <;> (try (exfalso; omega))) | (with_reducible refine Ok.bind' ?_) | ((with_reducible refine Ok.ret ?_); (try dsimp only)) | (with_reducible refine Ok.lpNN ?_) | (with_reducible refine Ok.lp1 ?_) | (with_reducible refine u_f_init_l270 ?_) | (with_reducible refine u_f_init_b265 ?_) | (with_reducible refine u_f_init_b241 ?_) | (with_reducible refine u_f_init ?_) | (with_reducible refine u_f_beginModule_b12 ?_) | (with_reducible refine u_f_beginModule ?_) | (with_reducible refine u_f_addFunction_b17 ?_) | (with_reducible refine u_f_addFunction_l21 ?_) | (with_reducible refine u_f_addFunction ?_) | (with_reducible refine u_f_argOk_b107 ?_) | (with_reducible refine u_f_argOk_b75 ?_) | (with_reducible refine u_f_argOk_b74 ?_) | (with_reducible refine u_f_argOk_b60 ?_) | (with_reducible refine u_f_argOk_b106 ?_) | (with_reducible refine u_f_argOk_b105 ?_) | (with_reducible refine u_f_argOk_b91 ?_) | (with_reducible refine u_f_argOk_b90 ?_) | (with_reducible refine u_f_argOk_b89 ?_) | (with_reducible refine u_f_argOk_b76 ?_) | (with_reducible refine u_f_emit_b25 ?_) | (with_reducible refine u_f_emit_b45 ?_) | (with_reducible refine u_f_emit ?_) | (with_reducible refine u_f_bufferSize_b15 ?_) | (with_reducible refine u_f_bufferSize ?_) | (with_reducible refine u_f_hasBadJump_b70 ?_) | (with_reducible refine u_f_hasBadJump_b57 ?_) | (with_reducible refine u_f_hasBadJump_l19 ?_) | (with_reducible refine u_f_hasBadJump_l2 ?_) | (with_reducible refine u_f_hasBadJump ?_) | (with_reducible refine u_f_hasBadData_b42 ?_) | (with_reducible refine u_f_hasBadData_b27 ?_) | (with_reducible refine u_f_hasBadData_l2 ?_) | (with_reducible refine u_f_hasBadData ?_) | (with_reducible refine u_f_hasDuplicate_b36 ?_) | (with_reducible refine u_f_hasDuplicate_l2 ?_) | (with_reducible refine u_f_hasDuplicate ?_) | (with_reducible refine u_f_clearSymbols_l12 ?_) | (with_reducible refine u_f_clearSymbols ?_) | (with_reducible refine u_f_installBuffer_l22 ?_) | (with_reducible refine u_f_installBuffer_l80 ?_) | (with_reducible refine u_f_installBuffer_l150 ?_) | (with_reducible refine u_f_installBuffer ?_) | (with_reducible refine u_f_placeFunction_b82 ?_) | (with_reducible refine u_f_placeFunction_b76 ?_) | (with_reducible refine u_f_placeFunction_l32 ?_) | (with_reducible refine u_f_placeFunction_l113 ?_) | (with_reducible refine u_f_publishThunks_l2 ?_) | (with_reducible refine u_f_publishThunks ?_) | (with_reducible refine u_f_linkSlot_b116 ?_) | (with_reducible refine u_f_linkSlot_l2 ?_) | (with_reducible refine u_f_linkSlot ?_) | (with_reducible refine u_f_commit ?_) | (with_reducible refine u_f_codeSize_b21 ?_) | (with_reducible refine u_f_codeSize ?_) | (with_reducible refine u_f_definedIn_b10 ?_) | (with_reducible refine u_f_definedIn ?_) | (with_reducible refine u_l_law_b367 ?_) | (with_reducible refine u_l_law_b359 ?_) | (with_reducible refine u_l_law_b358 ?_) | (with_reducible refine u_l_law_b333 ?_) | (with_reducible refine u_l_law_b311 ?_) | (with_reducible refine u_l_law_b230 ?_) | (with_reducible refine u_l_law_b220 ?_) | (with_reducible refine u_l_law_b217 ?_) | (with_reducible refine u_l_law_b202 ?_) | (with_reducible refine u_l_law_b194 ?_) | (with_reducible refine u_l_law_b172 ?_) | (with_reducible refine u_l_law_b160 ?_) | (with_reducible refine u_l_law_b159 ?_) | (with_reducible refine u_l_law_b134 ?_) | (with_reducible refine u_l_law_b61 ?_) | (with_reducible refine u_l_law_b60 ?_) | (with_reducible refine u_l_law_b44 ?_) | (with_reducible refine u_l_law_b92 ?_) | (with_reducible refine u_l_law_b91 ?_) | (with_reducible refine u_l_law_b76 ?_) | (with_reducible refine u_l_law_b126 ?_) | (with_reducible refine u_l_law_b125 ?_) | (with_reducible refine u_l_law_b109 ?_) | (with_reducible refine u_l_law_b26 ?_) | (with_reducible refine u_l_law_b25 ?_) | (with_reducible refine u_l_law ?_))
  all_goals (first | trivial | omega | ((try simp only [w32_al, w32_ar, w32_sl, w32_sr, w32_m4, w32_m6, w32_m10, w32_m16, w32_m24]); (repeat rw [w32_id (by omega)]); omega) | ((try simp only [w32_al, w32_ar, w32_sl, w32_sr, w32_m4, w32_m6, w32_m10, w32_m16, w32_m24]); unfold w32; omega) | (simp [sto, z0_at, w32, z1, z2, z3, z4, z5, z6, z7, z8, z9, z10, z11, z13, z14, z15, z16, z17, z18, z19, z20, z21, z22, f30, f35, f18, div32, h12, h23, hpf]; done) | (simp [sto, z0_at, w32, z1, z2, z3, z4, z5, z6, z7, z8, z9, z10, z11, z13, z14, z15, z16, z17, z18, z19, z20, z21, z22, f30, f35, f18, div32, h12, h23, hpf]; omega))
set_option maxRecDepth 65536 in
set_option maxHeartbeats 16000000 in
theorem own_C (x2 x3 x4 : Int) (m : OMem) (z1 : ∀ i, m 1 i = 0) (z2 : ∀ i, m 2 i = 0) (z3 : ∀ i, m 3 i = 0) (z4 : ∀ i, m 4 i = 0) (z5 : ∀ i, m 5 i = 0) (z6 : ∀ i, m 6 i = 0) (z7 : ∀ i, m 7 i = 0) (z8 : ∀ i, m 8 i = 0) (z9 : ∀ i, m 9 i = 0) (z10 : ∀ i, m 10 i = 0) (z11 : ∀ i, m 11 i = 0) (z13 : ∀ i, m 13 i = 0) (z14 : ∀ i, m 14 i = 0) (z15 : ∀ i, m 15 i = 0) (z16 : ∀ i, m 16 i = 0) (z17 : ∀ i, m 17 i = 0) (z18 : ∀ i, m 18 i = 0) (z19 : ∀ i, m 19 i = 0) (z20 : ∀ i, m 20 i = 0) (z21 : ∀ i, m 21 i = 0) (z22 : ∀ i, m 22 i = 0) (f30 : m 0 30 = 0) (f35 : m 0 35 = 0) (f18 : m 0 18 = 640) (f28 : 1 ≤ m 0 28) (f29 : 0 ≤ m 0 29 ∧ m 0 29 ≤ 8) (hx : 0 ≤ x2 ∧ x2 ≤ 7) (h12 : m 12 x2 = -1) (h23 : m 23 x2 = -1) (hA : own_AOK x3 x4) (hc : (x3 = 10 ∨ x3 = 11) ∧ 1 ≤ x4) : Ok (l_law_b230 x2 x3 x4 1 1 1 2 0 m) (fun r => r.1 = 1) := by
  repeat' (first | (with_reducible refine Ok.bindE (own_aok1 _ hA) ?_) | ((with_reducible refine Ok.grd ?_ ?_); (focus (first | omega | ((try simp only [w32_al, w32_ar, w32_sl, w32_sr, w32_m4, w32_m6, w32_m10, w32_m16, w32_m24]); (repeat rw [w32_id (by omega)]); omega) | ((try simp only [w32_al, w32_ar, w32_sl, w32_sr, w32_m4, w32_m6, w32_m10, w32_m16, w32_m24]); unfold w32; omega) | (simp [sto, z0_at, w32, z1, z2, z3, z4, z5, z6, z7, z8, z9, z10, z11, z13, z14, z15, z16, z17, z18, z19, z20, z21, z22, f30, f35, f18, div32, h12, h23]; done) | (simp [sto, z0_at, w32, z1, z2, z3, z4, z5, z6, z7, z8, z9, z10, z11, z13, z14, z15, z16, z17, z18, z19, z20, z21, z22, f30, f35, f18, div32, h12, h23]; omega)))) | ((with_reducible refine Ok.ite (fun h => ?_) (fun h => ?_)) <;> (try simp [sto, z0_at, w32, z1, z2, z3, z4, z5, z6, z7, z8, z9, z10, z11, z13, z14, z15, z16, z17, z18, z19, z20, z21, z22, f30, f35, f18, div32, h12, h23] at h) <;> (try (exfalso; omega))) | (with_reducible refine Ok.bind' ?_) | ((with_reducible refine Ok.ret ?_); (try dsimp only)) | (with_reducible refine Ok.lpNN ?_) | (with_reducible refine Ok.lp1 ?_) | (with_reducible refine u_f_init_l270 ?_) | (with_reducible refine u_f_init_b265 ?_) | (with_reducible refine u_f_init_b241 ?_) | (with_reducible refine u_f_init ?_) | (with_reducible refine u_f_beginModule_b12 ?_) | (with_reducible refine u_f_beginModule ?_) | (with_reducible refine u_f_addFunction_b17 ?_) | (with_reducible refine u_f_addFunction_l21 ?_) | (with_reducible refine u_f_addFunction ?_) | (with_reducible refine u_f_argOk_b107 ?_) | (with_reducible refine u_f_argOk_b75 ?_) | (with_reducible refine u_f_argOk_b74 ?_) | (with_reducible refine u_f_argOk_b60 ?_) | (with_reducible refine u_f_argOk_b106 ?_) | (with_reducible refine u_f_argOk_b105 ?_) | (with_reducible refine u_f_argOk_b91 ?_) | (with_reducible refine u_f_argOk_b90 ?_) | (with_reducible refine u_f_argOk_b89 ?_) | (with_reducible refine u_f_argOk_b76 ?_) | (with_reducible refine u_f_emit_b25 ?_) | (with_reducible refine u_f_emit_b45 ?_) | (with_reducible refine u_f_emit ?_) | (with_reducible refine u_f_bufferSize_b15 ?_) | (with_reducible refine u_f_bufferSize ?_) | (with_reducible refine u_f_hasBadJump_b70 ?_) | (with_reducible refine u_f_hasBadJump_b57 ?_) | (with_reducible refine u_f_hasBadJump_l19 ?_) | (with_reducible refine u_f_hasBadJump_l2 ?_) | (with_reducible refine u_f_hasBadJump ?_) | (with_reducible refine u_f_hasBadData_b42 ?_) | (with_reducible refine u_f_hasBadData_b27 ?_) | (with_reducible refine u_f_hasBadData_l2 ?_) | (with_reducible refine u_f_hasBadData ?_) | (with_reducible refine u_f_hasDuplicate_b36 ?_) | (with_reducible refine u_f_hasDuplicate_l2 ?_) | (with_reducible refine u_f_hasDuplicate ?_) | (with_reducible refine u_f_clearSymbols_l12 ?_) | (with_reducible refine u_f_clearSymbols ?_) | (with_reducible refine u_f_installBuffer_l22 ?_) | (with_reducible refine u_f_installBuffer_l80 ?_) | (with_reducible refine u_f_installBuffer_l150 ?_) | (with_reducible refine u_f_installBuffer ?_) | (with_reducible refine u_f_placeFunction_b82 ?_) | (with_reducible refine u_f_placeFunction_b76 ?_) | (with_reducible refine u_f_placeFunction_l32 ?_) | (with_reducible refine u_f_placeFunction_l113 ?_) | (with_reducible refine u_f_placeFunction ?_) | (with_reducible refine u_f_publishThunks_l2 ?_) | (with_reducible refine u_f_publishThunks ?_) | (with_reducible refine u_f_linkSlot_b116 ?_) | (with_reducible refine u_f_linkSlot_l2 ?_) | (with_reducible refine u_f_linkSlot ?_) | (with_reducible refine u_f_commit ?_) | (with_reducible refine u_f_codeSize_b21 ?_) | (with_reducible refine u_f_codeSize ?_) | (with_reducible refine u_f_definedIn_b10 ?_) | (with_reducible refine u_f_definedIn ?_) | (with_reducible refine u_l_law_b367 ?_) | (with_reducible refine u_l_law_b359 ?_) | (with_reducible refine u_l_law_b358 ?_) | (with_reducible refine u_l_law_b333 ?_) | (with_reducible refine u_l_law_b311 ?_) | (with_reducible refine u_l_law_b230 ?_) | (with_reducible refine u_l_law_b220 ?_) | (with_reducible refine u_l_law_b217 ?_) | (with_reducible refine u_l_law_b202 ?_) | (with_reducible refine u_l_law_b194 ?_) | (with_reducible refine u_l_law_b172 ?_) | (with_reducible refine u_l_law_b160 ?_) | (with_reducible refine u_l_law_b159 ?_) | (with_reducible refine u_l_law_b134 ?_) | (with_reducible refine u_l_law_b61 ?_) | (with_reducible refine u_l_law_b60 ?_) | (with_reducible refine u_l_law_b44 ?_) | (with_reducible refine u_l_law_b92 ?_) | (with_reducible refine u_l_law_b91 ?_) | (with_reducible refine u_l_law_b76 ?_) | (with_reducible refine u_l_law_b126 ?_) | (with_reducible refine u_l_law_b125 ?_) | (with_reducible refine u_l_law_b109 ?_) | (with_reducible refine u_l_law_b26 ?_) | (with_reducible refine u_l_law_b25 ?_) | (with_reducible refine u_l_law ?_))
  all_goals (first | trivial | omega | ((try simp only [w32_al, w32_ar, w32_sl, w32_sr, w32_m4, w32_m6, w32_m10, w32_m16, w32_m24]); (repeat rw [w32_id (by omega)]); omega) | ((try simp only [w32_al, w32_ar, w32_sl, w32_sr, w32_m4, w32_m6, w32_m10, w32_m16, w32_m24]); unfold w32; omega) | (simp [sto, z0_at, w32, z1, z2, z3, z4, z5, z6, z7, z8, z9, z10, z11, z13, z14, z15, z16, z17, z18, z19, z20, z21, z22, f30, f35, f18, div32, h12, h23]; done) | (simp [sto, z0_at, w32, z1, z2, z3, z4, z5, z6, z7, z8, z9, z10, z11, z13, z14, z15, z16, z17, z18, z19, z20, z21, z22, f30, f35, f18, div32, h12, h23]; omega))
set_option maxRecDepth 65536 in
set_option maxHeartbeats 16000000 in
theorem own_D (x2 x3 x4 : Int) (m : OMem) (z1 : ∀ i, m 1 i = 0) (z2 : ∀ i, m 2 i = 0) (z3 : ∀ i, m 3 i = 0) (z4 : ∀ i, m 4 i = 0) (z5 : ∀ i, m 5 i = 0) (z6 : ∀ i, m 6 i = 0) (z7 : ∀ i, m 7 i = 0) (z8 : ∀ i, m 8 i = 0) (z9 : ∀ i, m 9 i = 0) (z10 : ∀ i, m 10 i = 0) (z11 : ∀ i, m 11 i = 0) (z13 : ∀ i, m 13 i = 0) (z14 : ∀ i, m 14 i = 0) (z15 : ∀ i, m 15 i = 0) (z16 : ∀ i, m 16 i = 0) (z17 : ∀ i, m 17 i = 0) (z18 : ∀ i, m 18 i = 0) (z19 : ∀ i, m 19 i = 0) (z20 : ∀ i, m 20 i = 0) (z21 : ∀ i, m 21 i = 0) (z22 : ∀ i, m 22 i = 0) (f30 : m 0 30 = 0) (f35 : m 0 35 = 0) (f18 : m 0 18 = 640) (f28 : 1 ≤ m 0 28) (f29 : 0 ≤ m 0 29 ∧ m 0 29 ≤ 8) (hx : 0 ≤ x2 ∧ x2 ≤ 7) (h12 : m 12 x2 = -1) (h23 : m 23 x2 = -1) (hA : own_AOK x3 x4) (hc : x3 = 4 ∨ x3 = 5) : Ok (l_law_b230 x2 x3 x4 1 1 1 3 0 m) (fun r => r.1 = 1) := by
  repeat' (first | (with_reducible refine Ok.bindE (own_aok1 _ hA) ?_) | ((with_reducible refine Ok.grd ?_ ?_); (focus (first | omega | ((try simp only [w32_al, w32_ar, w32_sl, w32_sr, w32_m4, w32_m6, w32_m10, w32_m16, w32_m24]); (repeat rw [w32_id (by omega)]); omega) | ((try simp only [w32_al, w32_ar, w32_sl, w32_sr, w32_m4, w32_m6, w32_m10, w32_m16, w32_m24]); unfold w32; omega) | (simp [sto, z0_at, w32, z1, z2, z3, z4, z5, z6, z7, z8, z9, z10, z11, z13, z14, z15, z16, z17, z18, z19, z20, z21, z22, f30, f35, f18, div32, h12, h23]; done) | (simp [sto, z0_at, w32, z1, z2, z3, z4, z5, z6, z7, z8, z9, z10, z11, z13, z14, z15, z16, z17, z18, z19, z20, z21, z22, f30, f35, f18, div32, h12, h23]; omega)))) | ((with_reducible refine Ok.ite (fun h => ?_) (fun h => ?_)) <;> (try simp [sto, z0_at, w32, z1, z2, z3, z4, z5, z6, z7, z8, z9, z10, z11, z13, z14, z15, z16, z17, z18, z19, z20, z21, z22, f30, f35, f18, div32, h12, h23] at h) <;> (try (exfalso; omega))) | (with_reducible refine Ok.bind' ?_) | ((with_reducible refine Ok.ret ?_); (try dsimp only)) | (with_reducible refine Ok.lpNN ?_) | (with_reducible refine Ok.lp1 ?_) | (with_reducible refine u_f_init_l270 ?_) | (with_reducible refine u_f_init_b265 ?_) | (with_reducible refine u_f_init_b241 ?_) | (with_reducible refine u_f_init ?_) | (with_reducible refine u_f_beginModule_b12 ?_) | (with_reducible refine u_f_beginModule ?_) | (with_reducible refine u_f_addFunction_b17 ?_) | (with_reducible refine u_f_addFunction_l21 ?_) | (with_reducible refine u_f_addFunction ?_) | (with_reducible refine u_f_argOk_b107 ?_) | (with_reducible refine u_f_argOk_b75 ?_) | (with_reducible refine u_f_argOk_b74 ?_) | (with_reducible refine u_f_argOk_b60 ?_) | (with_reducible refine u_f_argOk_b106 ?_) | (with_reducible refine u_f_argOk_b105 ?_) | (with_reducible refine u_f_argOk_b91 ?_) | (with_reducible refine u_f_argOk_b90 ?_) | (with_reducible refine u_f_argOk_b89 ?_) | (with_reducible refine u_f_argOk_b76 ?_) | (with_reducible refine u_f_emit_b25 ?_) | (with_reducible refine u_f_emit_b45 ?_) | (with_reducible refine u_f_emit ?_) | (with_reducible refine u_f_bufferSize_b15 ?_) | (with_reducible refine u_f_bufferSize ?_) | (with_reducible refine u_f_hasBadJump_b70 ?_) | (with_reducible refine u_f_hasBadJump_b57 ?_) | (with_reducible refine u_f_hasBadJump_l19 ?_) | (with_reducible refine u_f_hasBadJump_l2 ?_) | (with_reducible refine u_f_hasBadJump ?_) | (with_reducible refine u_f_hasBadData_b42 ?_) | (with_reducible refine u_f_hasBadData_b27 ?_) | (with_reducible refine u_f_hasBadData_l2 ?_) | (with_reducible refine u_f_hasBadData ?_) | (with_reducible refine u_f_hasDuplicate_b36 ?_) | (with_reducible refine u_f_hasDuplicate_l2 ?_) | (with_reducible refine u_f_hasDuplicate ?_) | (with_reducible refine u_f_clearSymbols_l12 ?_) | (with_reducible refine u_f_clearSymbols ?_) | (with_reducible refine u_f_installBuffer_l22 ?_) | (with_reducible refine u_f_installBuffer_l80 ?_) | (with_reducible refine u_f_installBuffer_l150 ?_) | (with_reducible refine u_f_installBuffer ?_) | (with_reducible refine u_f_placeFunction_b82 ?_) | (with_reducible refine u_f_placeFunction_b76 ?_) | (with_reducible refine u_f_placeFunction_l32 ?_) | (with_reducible refine u_f_placeFunction_l113 ?_) | (with_reducible refine u_f_placeFunction ?_) | (with_reducible refine u_f_publishThunks_l2 ?_) | (with_reducible refine u_f_publishThunks ?_) | (with_reducible refine u_f_linkSlot_b116 ?_) | (with_reducible refine u_f_linkSlot_l2 ?_) | (with_reducible refine u_f_linkSlot ?_) | (with_reducible refine u_f_commit ?_) | (with_reducible refine u_f_codeSize_b21 ?_) | (with_reducible refine u_f_codeSize ?_) | (with_reducible refine u_f_definedIn_b10 ?_) | (with_reducible refine u_f_definedIn ?_) | (with_reducible refine u_l_law_b367 ?_) | (with_reducible refine u_l_law_b359 ?_) | (with_reducible refine u_l_law_b358 ?_) | (with_reducible refine u_l_law_b333 ?_) | (with_reducible refine u_l_law_b311 ?_) | (with_reducible refine u_l_law_b230 ?_) | (with_reducible refine u_l_law_b220 ?_) | (with_reducible refine u_l_law_b217 ?_) | (with_reducible refine u_l_law_b202 ?_) | (with_reducible refine u_l_law_b194 ?_) | (with_reducible refine u_l_law_b172 ?_) | (with_reducible refine u_l_law_b160 ?_) | (with_reducible refine u_l_law_b159 ?_) | (with_reducible refine u_l_law_b134 ?_) | (with_reducible refine u_l_law_b61 ?_) | (with_reducible refine u_l_law_b60 ?_) | (with_reducible refine u_l_law_b44 ?_) | (with_reducible refine u_l_law_b92 ?_) | (with_reducible refine u_l_law_b91 ?_) | (with_reducible refine u_l_law_b76 ?_) | (with_reducible refine u_l_law_b126 ?_) | (with_reducible refine u_l_law_b125 ?_) | (with_reducible refine u_l_law_b109 ?_) | (with_reducible refine u_l_law_b26 ?_) | (with_reducible refine u_l_law_b25 ?_) | (with_reducible refine u_l_law ?_))
  all_goals (first | trivial | omega | ((try simp only [w32_al, w32_ar, w32_sl, w32_sr, w32_m4, w32_m6, w32_m10, w32_m16, w32_m24]); (repeat rw [w32_id (by omega)]); omega) | ((try simp only [w32_al, w32_ar, w32_sl, w32_sr, w32_m4, w32_m6, w32_m10, w32_m16, w32_m24]); unfold w32; omega) | (simp [sto, z0_at, w32, z1, z2, z3, z4, z5, z6, z7, z8, z9, z10, z11, z13, z14, z15, z16, z17, z18, z19, z20, z21, z22, f30, f35, f18, div32, h12, h23]; done) | (simp [sto, z0_at, w32, z1, z2, z3, z4, z5, z6, z7, z8, z9, z10, z11, z13, z14, z15, z16, z17, z18, z19, z20, z21, z22, f30, f35, f18, div32, h12, h23]; omega))
set_option maxRecDepth 65536 in
set_option maxHeartbeats 16000000 in
theorem own_E10 (x2 : Int) (m : OMem) (z1 : ∀ i, m 1 i = 0) (z2 : ∀ i, m 2 i = 0) (z3 : ∀ i, m 3 i = 0) (z4 : ∀ i, m 4 i = 0) (z5 : ∀ i, m 5 i = 0) (z6 : ∀ i, m 6 i = 0) (z7 : ∀ i, m 7 i = 0) (z8 : ∀ i, m 8 i = 0) (z9 : ∀ i, m 9 i = 0) (z10 : ∀ i, m 10 i = 0) (z11 : ∀ i, m 11 i = 0) (z13 : ∀ i, m 13 i = 0) (z14 : ∀ i, m 14 i = 0) (z15 : ∀ i, m 15 i = 0) (z16 : ∀ i, m 16 i = 0) (z17 : ∀ i, m 17 i = 0) (z18 : ∀ i, m 18 i = 0) (z19 : ∀ i, m 19 i = 0) (z20 : ∀ i, m 20 i = 0) (z21 : ∀ i, m 21 i = 0) (z22 : ∀ i, m 22 i = 0) (f30 : m 0 30 = 0) (f35 : m 0 35 = 0) (f18 : m 0 18 = 640) (f28 : 1 ≤ m 0 28) (f29 : 0 ≤ m 0 29 ∧ m 0 29 ≤ 8) (hx : 0 ≤ x2 ∧ x2 ≤ 7) (h12 : m 12 x2 = -1) (h23 : m 23 x2 = -1) (hA : own_AOK 10 0) : Ok (l_law_b230 x2 10 0 1 1 1 0 1 m) (fun r => r.1 = 1) := by
  repeat' (first | (with_reducible refine Ok.bindE (own_aok1 _ hA) ?_) | ((with_reducible refine Ok.grd ?_ ?_); (focus (first | omega | ((try simp only [w32_al, w32_ar, w32_sl, w32_sr, w32_m4, w32_m6, w32_m10, w32_m16, w32_m24]); (repeat rw [w32_id (by omega)]); omega) | ((try simp only [w32_al, w32_ar, w32_sl, w32_sr, w32_m4, w32_m6, w32_m10, w32_m16, w32_m24]); unfold w32; omega) | (simp [sto, z0_at, w32, z1, z2, z3, z4, z5, z6, z7, z8, z9, z10, z11, z13, z14, z15, z16, z17, z18, z19, z20, z21, z22, f30, f35, f18, div32, h12, h23]; done) | (simp [sto, z0_at, w32, z1, z2, z3, z4, z5, z6, z7, z8, z9, z10, z11, z13, z14, z15, z16, z17, z18, z19, z20, z21, z22, f30, f35, f18, div32, h12, h23]; omega)))) | ((with_reducible refine Ok.ite (fun h => ?_) (fun h => ?_)) <;> (try simp [sto, z0_at, w32, z1, z2, z3, z4, z5, z6, z7, z8, z9, z10, z11, z13, z14, z15, z16, z17, z18, z19, z20, z21, z22, f30, f35, f18, div32, h12, h23] at h) <;> (try (exfalso; omega))) | (with_reducible refine Ok.bind' ?_) | ((with_reducible refine Ok.ret ?_); (try dsimp only)) | (with_reducible refine Ok.lpNN ?_) | (with_reducible refine Ok.lp1 ?_) | (with_reducible refine u_f_init_l270 ?_) | (with_reducible refine u_f_init_b265 ?_) | (with_reducible refine u_f_init_b241 ?_) | (with_reducible refine u_f_init ?_) | (with_reducible refine u_f_beginModule_b12 ?_) | (with_reducible refine u_f_beginModule ?_) | (with_reducible refine u_f_addFunction_b17 ?_) | (with_reducible refine u_f_addFunction_l21 ?_) | (with_reducible refine u_f_addFunction ?_) | (with_reducible refine u_f_argOk_b107 ?_) | (with_reducible refine u_f_argOk_b75 ?_) | (with_reducible refine u_f_argOk_b74 ?_) | (with_reducible refine u_f_argOk_b60 ?_) | (with_reducible refine u_f_argOk_b106 ?_) | (with_reducible refine u_f_argOk_b105 ?_) | (with_reducible refine u_f_argOk_b91 ?_) | (with_reducible refine u_f_argOk_b90 ?_) | (with_reducible refine u_f_argOk_b89 ?_) | (with_reducible refine u_f_argOk_b76 ?_) | (with_reducible refine u_f_emit_b25 ?_) | (with_reducible refine u_f_emit_b45 ?_) | (with_reducible refine u_f_emit ?_) | (with_reducible refine u_f_bufferSize_b15 ?_) | (with_reducible refine u_f_bufferSize ?_) | (with_reducible refine u_f_hasBadJump_b70 ?_) | (with_reducible refine u_f_hasBadJump_b57 ?_) | (with_reducible refine u_f_hasBadJump_l19 ?_) | (with_reducible refine u_f_hasBadJump_l2 ?_) | (with_reducible refine u_f_hasBadJump ?_) | (with_reducible refine u_f_hasBadData_b42 ?_) | (with_reducible refine u_f_hasBadData_b27 ?_) | (with_reducible refine u_f_hasBadData_l2 ?_) | (with_reducible refine u_f_hasBadData ?_) | (with_reducible refine u_f_hasDuplicate_b36 ?_) | (with_reducible refine u_f_hasDuplicate_l2 ?_) | (with_reducible refine u_f_hasDuplicate ?_) | (with_reducible refine u_f_clearSymbols_l12 ?_) | (with_reducible refine u_f_clearSymbols ?_) | (with_reducible refine u_f_installBuffer_l22 ?_) | (with_reducible refine u_f_installBuffer_l80 ?_) | (with_reducible refine u_f_installBuffer_l150 ?_) | (with_reducible refine u_f_installBuffer ?_) | (with_reducible refine u_f_placeFunction_b82 ?_) | (with_reducible refine u_f_placeFunction_b76 ?_) | (with_reducible refine u_f_placeFunction_l32 ?_) | (with_reducible refine u_f_placeFunction_l113 ?_) | (with_reducible refine u_f_publishThunks_l2 ?_) | (with_reducible refine u_f_publishThunks ?_) | (with_reducible refine u_f_linkSlot_b116 ?_) | (with_reducible refine u_f_linkSlot_l2 ?_) | (with_reducible refine u_f_linkSlot ?_) | (with_reducible refine u_f_commit ?_) | (with_reducible refine u_f_codeSize_b21 ?_) | (with_reducible refine u_f_codeSize ?_) | (with_reducible refine u_f_definedIn_b10 ?_) | (with_reducible refine u_f_definedIn ?_) | (with_reducible refine u_l_law_b367 ?_) | (with_reducible refine u_l_law_b359 ?_) | (with_reducible refine u_l_law_b358 ?_) | (with_reducible refine u_l_law_b333 ?_) | (with_reducible refine u_l_law_b311 ?_) | (with_reducible refine u_l_law_b230 ?_) | (with_reducible refine u_l_law_b220 ?_) | (with_reducible refine u_l_law_b217 ?_) | (with_reducible refine u_l_law_b202 ?_) | (with_reducible refine u_l_law_b194 ?_) | (with_reducible refine u_l_law_b172 ?_) | (with_reducible refine u_l_law_b160 ?_) | (with_reducible refine u_l_law_b159 ?_) | (with_reducible refine u_l_law_b134 ?_) | (with_reducible refine u_l_law_b61 ?_) | (with_reducible refine u_l_law_b60 ?_) | (with_reducible refine u_l_law_b44 ?_) | (with_reducible refine u_l_law_b92 ?_) | (with_reducible refine u_l_law_b91 ?_) | (with_reducible refine u_l_law_b76 ?_) | (with_reducible refine u_l_law_b126 ?_) | (with_reducible refine u_l_law_b125 ?_) | (with_reducible refine u_l_law_b109 ?_) | (with_reducible refine u_l_law_b26 ?_) | (with_reducible refine u_l_law_b25 ?_) | (with_reducible refine u_l_law ?_))
  all_goals (refine Ok.mono (own_pf _ (by simp [sto, w32, z1, z2, z3, z4, z5, z6, z7, z8, z9, z10, z11, z13, z14, z15, z16, z17, z18, z19, z20, z21, z22, f30, f35, f18, div32, h12, h23]) (by simp [sto, w32, z1, z2, z3, z4, z5, z6, z7, z8, z9, z10, z11, z13, z14, z15, z16, z17, z18, z19, z20, z21, z22, f30, f35, f18, div32, h12, h23]) (by simp [sto, w32, z1, z2, z3, z4, z5, z6, z7, z8, z9, z10, z11, z13, z14, z15, z16, z17, z18, z19, z20, z21, z22, f30, f35, f18, div32, h12, h23]) (by simp [sto, w32, z1, z2, z3, z4, z5, z6, z7, z8, z9, z10, z11, z13, z14, z15, z16, z17, z18, z19, z20, z21, z22, f30, f35, f18, div32, h12, h23] <;> omega)) fun m' hpf => ?_)
  all_goals (try dsimp only)
  repeat' (first | ((with_reducible refine Ok.grd ?_ ?_); (focus (first | omega | ((try simp only [w32_al, w32_ar, w32_sl, w32_sr, w32_m4, w32_m6, w32_m10, w32_m16, w32_m24]); (repeat rw [w32_id (by omega)]); omega) | ((try simp only [w32_al, w32_ar, w32_sl, w32_sr, w32_m4, w32_m6, w32_m10, w32_m16, w32_m24]); unfold w32; omega) | (simp [sto, z0_at, w32, z1, z2, z3, z4, z5, z6, z7, z8, z9, z10, z11, z13, z14, z15, z16, z17, z18, z19, z20, z21, z22, f30, f35, f18, div32, h12, h23, hpf]; done) | (simp [sto, z0_at, w32, z1, z2, z3, z4, z5, z6, z7, z8, z9, z10, z11, z13, z14, z15, z16, z17, z18, z19, z20, z21, z22, f30, f35, f18, div32, h12, h23, hpf]; omega)))) | ((with_reducible refine Ok.ite (fun h => ?_) (fun h => ?_)) <;> (try simp [sto, z0_at, w32, z1, z2, z3, z4, z5, z6, z7, z8, z9, z10, z11, z13, z14, z15, z16, z17, z18, z19, z20, z21, z22, f30, f35, f18, div32, h12, h23, hpf] at h) <;> (try (exfalso; omega))) | (with_reducible refine Ok.bind' ?_) | ((with_reducible refine Ok.ret ?_); (try dsimp only)) | (with_reducible refine Ok.lpNN ?_) | (with_reducible refine Ok.lp1 ?_) | (with_reducible refine u_f_init_l270 ?_) | (with_reducible refine u_f_init_b265 ?_) | (with_reducible refine u_f_init_b241 ?_) | (with_reducible refine u_f_init ?_) | (with_reducible refine u_f_beginModule_b12 ?_) | (with_reducible refine u_f_beginModule ?_) | (with_reducible refine u_f_addFunction_b17 ?_) | (with_reducible refine u_f_addFunction_l21 ?_) | (with_reducible refine u_f_addFunction ?_) | (with_reducible refine u_f_argOk_b107 ?_) | (with_reducible refine u_f_argOk_b75 ?_) | (with_reducible refine u_f_argOk_b74 ?_) | (with_reducible refine u_f_argOk_b60 ?_) | (with_reducible refine u_f_argOk_b106 ?_) | (with_reducible refine u_f_argOk_b105 ?_) | (with_reducible refine u_f_argOk_b91 ?_) | (with_reducible refine u_f_argOk_b90 ?_) | (with_reducible refine u_f_argOk_b89 ?_) | (with_reducible refine u_f_argOk_b76 ?_) | (with_reducible refine u_f_emit_b25 ?_) | (with_reducible refine u_f_emit_b45 ?_) | (with_reducible refine u_f_emit ?_) | (with_reducible refine u_f_bufferSize_b15 ?_) | (with_reducible refine u_f_bufferSize ?_) | (with_reducible refine u_f_hasBadJump_b70 ?_) | (with_reducible refine u_f_hasBadJump_b57 ?_) | (with_reducible refine u_f_hasBadJump_l19 ?_) | (with_reducible refine u_f_hasBadJump_l2 ?_) | (with_reducible refine u_f_hasBadJump ?_) | (with_reducible refine u_f_hasBadData_b42 ?_) | (with_reducible refine u_f_hasBadData_b27 ?_) | (with_reducible refine u_f_hasBadData_l2 ?_) | (with_reducible refine u_f_hasBadData ?_) | (with_reducible refine u_f_hasDuplicate_b36 ?_) | (with_reducible refine u_f_hasDuplicate_l2 ?_) | (with_reducible refine u_f_hasDuplicate ?_) | (with_reducible refine u_f_clearSymbols_l12 ?_) | (with_reducible refine u_f_clearSymbols ?_) | (with_reducible refine u_f_installBuffer_l22 ?_) | (with_reducible refine u_f_installBuffer_l80 ?_) | (with_reducible refine u_f_installBuffer_l150 ?_) | (with_reducible refine u_f_installBuffer ?_) | (with_reducible refine u_f_placeFunction_b82 ?_) | (with_reducible refine u_f_placeFunction_b76 ?_) | (with_reducible refine u_f_placeFunction_l32 ?_) | (with_reducible refine u_f_placeFunction_l113 ?_) | (with_reducible refine u_f_publishThunks_l2 ?_) | (with_reducible refine u_f_publishThunks ?_) | (with_reducible refine u_f_linkSlot_b116 ?_) | (with_reducible refine u_f_linkSlot_l2 ?_) | (with_reducible refine u_f_linkSlot ?_) | (with_reducible refine u_f_commit ?_) | (with_reducible refine u_f_codeSize_b21 ?_) | (with_reducible refine u_f_codeSize ?_) | (with_reducible refine u_f_definedIn_b10 ?_) | (with_reducible refine u_f_definedIn ?_) | (with_reducible refine u_l_law_b367 ?_) | (with_reducible refine u_l_law_b359 ?_) | (with_reducible refine u_l_law_b358 ?_) | (with_reducible refine u_l_law_b333 ?_) | (with_reducible refine u_l_law_b311 ?_) | (with_reducible refine u_l_law_b230 ?_) | (with_reducible refine u_l_law_b220 ?_) | (with_reducible refine u_l_law_b217 ?_) | (with_reducible refine u_l_law_b202 ?_) | (with_reducible refine u_l_law_b194 ?_) | (with_reducible refine u_l_law_b172 ?_) | (with_reducible refine u_l_law_b160 ?_) | (with_reducible refine u_l_law_b159 ?_) | (with_reducible refine u_l_law_b134 ?_) | (with_reducible refine u_l_law_b61 ?_) | (with_reducible refine u_l_law_b60 ?_) | (with_reducible refine u_l_law_b44 ?_) | (with_reducible refine u_l_law_b92 ?_) | (with_reducible refine u_l_law_b91 ?_) | (with_reducible refine u_l_law_b76 ?_) | (with_reducible refine u_l_law_b126 ?_) | (with_reducible refine u_l_law_b125 ?_) | (with_reducible refine u_l_law_b109 ?_) | (with_reducible refine u_l_law_b26 ?_) | (with_reducible refine u_l_law_b25 ?_) | (with_reducible refine u_l_law ?_))
  all_goals (first | trivial | omega | ((try simp only [w32_al, w32_ar, w32_sl, w32_sr, w32_m4, w32_m6, w32_m10, w32_m16, w32_m24]); (repeat rw [w32_id (by omega)]); omega) | ((try simp only [w32_al, w32_ar, w32_sl, w32_sr, w32_m4, w32_m6, w32_m10, w32_m16, w32_m24]); unfold w32; omega) | (simp [sto, z0_at, w32, z1, z2, z3, z4, z5, z6, z7, z8, z9, z10, z11, z13, z14, z15, z16, z17, z18, z19, z20, z21, z22, f30, f35, f18, div32, h12, h23, hpf]; done) | (simp [sto, z0_at, w32, z1, z2, z3, z4, z5, z6, z7, z8, z9, z10, z11, z13, z14, z15, z16, z17, z18, z19, z20, z21, z22, f30, f35, f18, div32, h12, h23, hpf]; omega))
set_option maxRecDepth 65536 in
set_option maxHeartbeats 16000000 in
theorem own_E11 (x2 : Int) (m : OMem) (z1 : ∀ i, m 1 i = 0) (z2 : ∀ i, m 2 i = 0) (z3 : ∀ i, m 3 i = 0) (z4 : ∀ i, m 4 i = 0) (z5 : ∀ i, m 5 i = 0) (z6 : ∀ i, m 6 i = 0) (z7 : ∀ i, m 7 i = 0) (z8 : ∀ i, m 8 i = 0) (z9 : ∀ i, m 9 i = 0) (z10 : ∀ i, m 10 i = 0) (z11 : ∀ i, m 11 i = 0) (z13 : ∀ i, m 13 i = 0) (z14 : ∀ i, m 14 i = 0) (z15 : ∀ i, m 15 i = 0) (z16 : ∀ i, m 16 i = 0) (z17 : ∀ i, m 17 i = 0) (z18 : ∀ i, m 18 i = 0) (z19 : ∀ i, m 19 i = 0) (z20 : ∀ i, m 20 i = 0) (z21 : ∀ i, m 21 i = 0) (z22 : ∀ i, m 22 i = 0) (f30 : m 0 30 = 0) (f35 : m 0 35 = 0) (f18 : m 0 18 = 640) (f28 : 1 ≤ m 0 28) (f29 : 0 ≤ m 0 29 ∧ m 0 29 ≤ 8) (hx : 0 ≤ x2 ∧ x2 ≤ 7) (h12 : m 12 x2 = -1) (h23 : m 23 x2 = -1) (hA : own_AOK 11 0) : Ok (l_law_b230 x2 11 0 1 1 1 0 1 m) (fun r => r.1 = 1) := by
  repeat' (first | (with_reducible refine Ok.bindE (own_aok1 _ hA) ?_) | ((with_reducible refine Ok.grd ?_ ?_); (focus (first | omega | ((try simp only [w32_al, w32_ar, w32_sl, w32_sr, w32_m4, w32_m6, w32_m10, w32_m16, w32_m24]); (repeat rw [w32_id (by omega)]); omega) | ((try simp only [w32_al, w32_ar, w32_sl, w32_sr, w32_m4, w32_m6, w32_m10, w32_m16, w32_m24]); unfold w32; omega) | (simp [sto, z0_at, w32, z1, z2, z3, z4, z5, z6, z7, z8, z9, z10, z11, z13, z14, z15, z16, z17, z18, z19, z20, z21, z22, f30, f35, f18, div32, h12, h23]; done) | (simp [sto, z0_at, w32, z1, z2, z3, z4, z5, z6, z7, z8, z9, z10, z11, z13, z14, z15, z16, z17, z18, z19, z20, z21, z22, f30, f35, f18, div32, h12, h23]; omega)))) | ((with_reducible refine Ok.ite (fun h => ?_) (fun h => ?_)) <;> (try simp [sto, z0_at, w32, z1, z2, z3, z4, z5, z6, z7, z8, z9, z10, z11, z13, z14, z15, z16, z17, z18, z19, z20, z21, z22, f30, f35, f18, div32, h12, h23] at h) <;> (try (exfalso; omega))) | (with_reducible refine Ok.bind' ?_) | ((with_reducible refine Ok.ret ?_); (try dsimp only)) | (with_reducible refine Ok.lpNN ?_) | (with_reducible refine Ok.lp1 ?_) | (with_reducible refine u_f_init_l270 ?_) | (with_reducible refine u_f_init_b265 ?_) | (with_reducible refine u_f_init_b241 ?_) | (with_reducible refine u_f_init ?_) | (with_reducible refine u_f_beginModule_b12 ?_) | (with_reducible refine u_f_beginModule ?_) | (with_reducible refine u_f_addFunction_b17 ?_) | (with_reducible refine u_f_addFunction_l21 ?_) | (with_reducible refine u_f_addFunction ?_) | (with_reducible refine u_f_argOk_b107 ?_) | (with_reducible refine u_f_argOk_b75 ?_) | (with_reducible refine u_f_argOk_b74 ?_) | (with_reducible refine u_f_argOk_b60 ?_) | (with_reducible refine u_f_argOk_b106 ?_) | (with_reducible refine u_f_argOk_b105 ?_) | (with_reducible refine u_f_argOk_b91 ?_) | (with_reducible refine u_f_argOk_b90 ?_) | (with_reducible refine u_f_argOk_b89 ?_) | (with_reducible refine u_f_argOk_b76 ?_) | (with_reducible refine u_f_emit_b25 ?_) | (with_reducible refine u_f_emit_b45 ?_) | (with_reducible refine u_f_emit ?_) | (with_reducible refine u_f_bufferSize_b15 ?_) | (with_reducible refine u_f_bufferSize ?_) | (with_reducible refine u_f_hasBadJump_b70 ?_) | (with_reducible refine u_f_hasBadJump_b57 ?_) | (with_reducible refine u_f_hasBadJump_l19 ?_) | (with_reducible refine u_f_hasBadJump_l2 ?_) | (with_reducible refine u_f_hasBadJump ?_) | (with_reducible refine u_f_hasBadData_b42 ?_) | (with_reducible refine u_f_hasBadData_b27 ?_) | (with_reducible refine u_f_hasBadData_l2 ?_) | (with_reducible refine u_f_hasBadData ?_) | (with_reducible refine u_f_hasDuplicate_b36 ?_) | (with_reducible refine u_f_hasDuplicate_l2 ?_) | (with_reducible refine u_f_hasDuplicate ?_) | (with_reducible refine u_f_clearSymbols_l12 ?_) | (with_reducible refine u_f_clearSymbols ?_) | (with_reducible refine u_f_installBuffer_l22 ?_) | (with_reducible refine u_f_installBuffer_l80 ?_) | (with_reducible refine u_f_installBuffer_l150 ?_) | (with_reducible refine u_f_installBuffer ?_) | (with_reducible refine u_f_placeFunction_b82 ?_) | (with_reducible refine u_f_placeFunction_b76 ?_) | (with_reducible refine u_f_placeFunction_l32 ?_) | (with_reducible refine u_f_placeFunction_l113 ?_) | (with_reducible refine u_f_publishThunks_l2 ?_) | (with_reducible refine u_f_publishThunks ?_) | (with_reducible refine u_f_linkSlot_b116 ?_) | (with_reducible refine u_f_linkSlot_l2 ?_) | (with_reducible refine u_f_linkSlot ?_) | (with_reducible refine u_f_commit ?_) | (with_reducible refine u_f_codeSize_b21 ?_) | (with_reducible refine u_f_codeSize ?_) | (with_reducible refine u_f_definedIn_b10 ?_) | (with_reducible refine u_f_definedIn ?_) | (with_reducible refine u_l_law_b367 ?_) | (with_reducible refine u_l_law_b359 ?_) | (with_reducible refine u_l_law_b358 ?_) | (with_reducible refine u_l_law_b333 ?_) | (with_reducible refine u_l_law_b311 ?_) | (with_reducible refine u_l_law_b230 ?_) | (with_reducible refine u_l_law_b220 ?_) | (with_reducible refine u_l_law_b217 ?_) | (with_reducible refine u_l_law_b202 ?_) | (with_reducible refine u_l_law_b194 ?_) | (with_reducible refine u_l_law_b172 ?_) | (with_reducible refine u_l_law_b160 ?_) | (with_reducible refine u_l_law_b159 ?_) | (with_reducible refine u_l_law_b134 ?_) | (with_reducible refine u_l_law_b61 ?_) | (with_reducible refine u_l_law_b60 ?_) | (with_reducible refine u_l_law_b44 ?_) | (with_reducible refine u_l_law_b92 ?_) | (with_reducible refine u_l_law_b91 ?_) | (with_reducible refine u_l_law_b76 ?_) | (with_reducible refine u_l_law_b126 ?_) | (with_reducible refine u_l_law_b125 ?_) | (with_reducible refine u_l_law_b109 ?_) | (with_reducible refine u_l_law_b26 ?_) | (with_reducible refine u_l_law_b25 ?_) | (with_reducible refine u_l_law ?_))
  all_goals (refine Ok.mono (own_pf _ (by simp [sto, w32, z1, z2, z3, z4, z5, z6, z7, z8, z9, z10, z11, z13, z14, z15, z16, z17, z18, z19, z20, z21, z22, f30, f35, f18, div32, h12, h23]) (by simp [sto, w32, z1, z2, z3, z4, z5, z6, z7, z8, z9, z10, z11, z13, z14, z15, z16, z17, z18, z19, z20, z21, z22, f30, f35, f18, div32, h12, h23]) (by simp [sto, w32, z1, z2, z3, z4, z5, z6, z7, z8, z9, z10, z11, z13, z14, z15, z16, z17, z18, z19, z20, z21, z22, f30, f35, f18, div32, h12, h23]) (by simp [sto, w32, z1, z2, z3, z4, z5, z6, z7, z8, z9, z10, z11, z13, z14, z15, z16, z17, z18, z19, z20, z21, z22, f30, f35, f18, div32, h12, h23] <;> omega)) fun m' hpf => ?_)
  all_goals (try dsimp only)
  repeat' (first | ((with_reducible refine Ok.grd ?_ ?_); (focus (first | omega | ((try simp only [w32_al, w32_ar, w32_sl, w32_sr, w32_m4, w32_m6, w32_m10, w32_m16, w32_m24]); (repeat rw [w32_id (by omega)]); omega) | ((try simp only [w32_al, w32_ar, w32_sl, w32_sr, w32_m4, w32_m6, w32_m10, w32_m16, w32_m24]); unfold w32; omega) | (simp [sto, z0_at, w32, z1, z2, z3, z4, z5, z6, z7, z8, z9, z10, z11, z13, z14, z15, z16, z17, z18, z19, z20, z21, z22, f30, f35, f18, div32, h12, h23, hpf]; done) | (simp [sto, z0_at, w32, z1, z2, z3, z4, z5, z6, z7, z8, z9, z10, z11, z13, z14, z15, z16, z17, z18, z19, z20, z21, z22, f30, f35, f18, div32, h12, h23, hpf]; omega)))) | ((with_reducible refine Ok.ite (fun h => ?_) (fun h => ?_)) <;> (try simp [sto, z0_at, w32, z1, z2, z3, z4, z5, z6, z7, z8, z9, z10, z11, z13, z14, z15, z16, z17, z18, z19, z20, z21, z22, f30, f35, f18, div32, h12, h23, hpf] at h) <;> (try (exfalso; omega))) | (with_reducible refine Ok.bind' ?_) | ((with_reducible refine Ok.ret ?_); (try dsimp only)) | (with_reducible refine Ok.lpNN ?_) | (with_reducible refine Ok.lp1 ?_) | (with_reducible refine u_f_init_l270 ?_) | (with_reducible refine u_f_init_b265 ?_) | (with_reducible refine u_f_init_b241 ?_) | (with_reducible refine u_f_init ?_) | (with_reducible refine u_f_beginModule_b12 ?_) | (with_reducible refine u_f_beginModule ?_) | (with_reducible refine u_f_addFunction_b17 ?_) | (with_reducible refine u_f_addFunction_l21 ?_) | (with_reducible refine u_f_addFunction ?_) | (with_reducible refine u_f_argOk_b107 ?_) | (with_reducible refine u_f_argOk_b75 ?_) | (with_reducible refine u_f_argOk_b74 ?_) | (with_reducible refine u_f_argOk_b60 ?_) | (with_reducible refine u_f_argOk_b106 ?_) | (with_reducible refine u_f_argOk_b105 ?_) | (with_reducible refine u_f_argOk_b91 ?_) | (with_reducible refine u_f_argOk_b90 ?_) | (with_reducible refine u_f_argOk_b89 ?_) | (with_reducible refine u_f_argOk_b76 ?_) | (with_reducible refine u_f_emit_b25 ?_) | (with_reducible refine u_f_emit_b45 ?_) | (with_reducible refine u_f_emit ?_) | (with_reducible refine u_f_bufferSize_b15 ?_) | (with_reducible refine u_f_bufferSize ?_) | (with_reducible refine u_f_hasBadJump_b70 ?_) | (with_reducible refine u_f_hasBadJump_b57 ?_) | (with_reducible refine u_f_hasBadJump_l19 ?_) | (with_reducible refine u_f_hasBadJump_l2 ?_) | (with_reducible refine u_f_hasBadJump ?_) | (with_reducible refine u_f_hasBadData_b42 ?_) | (with_reducible refine u_f_hasBadData_b27 ?_) | (with_reducible refine u_f_hasBadData_l2 ?_) | (with_reducible refine u_f_hasBadData ?_) | (with_reducible refine u_f_hasDuplicate_b36 ?_) | (with_reducible refine u_f_hasDuplicate_l2 ?_) | (with_reducible refine u_f_hasDuplicate ?_) | (with_reducible refine u_f_clearSymbols_l12 ?_) | (with_reducible refine u_f_clearSymbols ?_) | (with_reducible refine u_f_installBuffer_l22 ?_) | (with_reducible refine u_f_installBuffer_l80 ?_) | (with_reducible refine u_f_installBuffer_l150 ?_) | (with_reducible refine u_f_installBuffer ?_) | (with_reducible refine u_f_placeFunction_b82 ?_) | (with_reducible refine u_f_placeFunction_b76 ?_) | (with_reducible refine u_f_placeFunction_l32 ?_) | (with_reducible refine u_f_placeFunction_l113 ?_) | (with_reducible refine u_f_publishThunks_l2 ?_) | (with_reducible refine u_f_publishThunks ?_) | (with_reducible refine u_f_linkSlot_b116 ?_) | (with_reducible refine u_f_linkSlot_l2 ?_) | (with_reducible refine u_f_linkSlot ?_) | (with_reducible refine u_f_commit ?_) | (with_reducible refine u_f_codeSize_b21 ?_) | (with_reducible refine u_f_codeSize ?_) | (with_reducible refine u_f_definedIn_b10 ?_) | (with_reducible refine u_f_definedIn ?_) | (with_reducible refine u_l_law_b367 ?_) | (with_reducible refine u_l_law_b359 ?_) | (with_reducible refine u_l_law_b358 ?_) | (with_reducible refine u_l_law_b333 ?_) | (with_reducible refine u_l_law_b311 ?_) | (with_reducible refine u_l_law_b230 ?_) | (with_reducible refine u_l_law_b220 ?_) | (with_reducible refine u_l_law_b217 ?_) | (with_reducible refine u_l_law_b202 ?_) | (with_reducible refine u_l_law_b194 ?_) | (with_reducible refine u_l_law_b172 ?_) | (with_reducible refine u_l_law_b160 ?_) | (with_reducible refine u_l_law_b159 ?_) | (with_reducible refine u_l_law_b134 ?_) | (with_reducible refine u_l_law_b61 ?_) | (with_reducible refine u_l_law_b60 ?_) | (with_reducible refine u_l_law_b44 ?_) | (with_reducible refine u_l_law_b92 ?_) | (with_reducible refine u_l_law_b91 ?_) | (with_reducible refine u_l_law_b76 ?_) | (with_reducible refine u_l_law_b126 ?_) | (with_reducible refine u_l_law_b125 ?_) | (with_reducible refine u_l_law_b109 ?_) | (with_reducible refine u_l_law_b26 ?_) | (with_reducible refine u_l_law_b25 ?_) | (with_reducible refine u_l_law ?_))
  all_goals (first | trivial | omega | ((try simp only [w32_al, w32_ar, w32_sl, w32_sr, w32_m4, w32_m6, w32_m10, w32_m16, w32_m24]); (repeat rw [w32_id (by omega)]); omega) | ((try simp only [w32_al, w32_ar, w32_sl, w32_sr, w32_m4, w32_m6, w32_m10, w32_m16, w32_m24]); unfold w32; omega) | (simp [sto, z0_at, w32, z1, z2, z3, z4, z5, z6, z7, z8, z9, z10, z11, z13, z14, z15, z16, z17, z18, z19, z20, z21, z22, f30, f35, f18, div32, h12, h23, hpf]; done) | (simp [sto, z0_at, w32, z1, z2, z3, z4, z5, z6, z7, z8, z9, z10, z11, z13, z14, z15, z16, z17, z18, z19, z20, z21, z22, f30, f35, f18, div32, h12, h23, hpf]; omega))
set_option maxRecDepth 65536 in
set_option maxHeartbeats 16000000 in
theorem own_Eo (x2 x3 x4 : Int) (m : OMem) (z1 : ∀ i, m 1 i = 0) (z2 : ∀ i, m 2 i = 0) (z3 : ∀ i, m 3 i = 0) (z4 : ∀ i, m 4 i = 0) (z5 : ∀ i, m 5 i = 0) (z6 : ∀ i, m 6 i = 0) (z7 : ∀ i, m 7 i = 0) (z8 : ∀ i, m 8 i = 0) (z9 : ∀ i, m 9 i = 0) (z10 : ∀ i, m 10 i = 0) (z11 : ∀ i, m 11 i = 0) (z13 : ∀ i, m 13 i = 0) (z14 : ∀ i, m 14 i = 0) (z15 : ∀ i, m 15 i = 0) (z16 : ∀ i, m 16 i = 0) (z17 : ∀ i, m 17 i = 0) (z18 : ∀ i, m 18 i = 0) (z19 : ∀ i, m 19 i = 0) (z20 : ∀ i, m 20 i = 0) (z21 : ∀ i, m 21 i = 0) (z22 : ∀ i, m 22 i = 0) (f30 : m 0 30 = 0) (f35 : m 0 35 = 0) (f18 : m 0 18 = 640) (f28 : 1 ≤ m 0 28) (f29 : 0 ≤ m 0 29 ∧ m 0 29 ≤ 8) (hx : 0 ≤ x2 ∧ x2 ≤ 7) (h12 : m 12 x2 = -1) (h23 : m 23 x2 = -1) (hA : own_AOK x3 x4) (hb : 1 ≤ x3 ∧ x3 ≤ 15) (hc : x3 ≠ 4 ∧ x3 ≠ 5) (hne : x3 ≠ 10 ∧ x3 ≠ 11) : Ok (l_law_b230 x2 x3 x4 1 1 1 0 1 m) (fun r => r.1 = 1) := by
  repeat' (first | (with_reducible refine Ok.bindE (own_aok1 _ hA) ?_) | ((with_reducible refine Ok.grd ?_ ?_); (focus (first | omega | ((try simp only [w32_al, w32_ar, w32_sl, w32_sr, w32_m4, w32_m6, w32_m10, w32_m16, w32_m24]); (repeat rw [w32_id (by omega)]); omega) | ((try simp only [w32_al, w32_ar, w32_sl, w32_sr, w32_m4, w32_m6, w32_m10, w32_m16, w32_m24]); unfold w32; omega) | (simp [sto, z0_at, w32, z1, z2, z3, z4, z5, z6, z7, z8, z9, z10, z11, z13, z14, z15, z16, z17, z18, z19, z20, z21, z22, f30, f35, f18, div32, h12, h23]; done) | (simp [sto, z0_at, w32, z1, z2, z3, z4, z5, z6, z7, z8, z9, z10, z11, z13, z14, z15, z16, z17, z18, z19, z20, z21, z22, f30, f35, f18, div32, h12, h23]; omega)))) | ((with_reducible refine Ok.ite (fun h => ?_) (fun h => ?_)) <;> (try simp [sto, z0_at, w32, z1, z2, z3, z4, z5, z6, z7, z8, z9, z10, z11, z13, z14, z15, z16, z17, z18, z19, z20, z21, z22, f30, f35, f18, div32, h12, h23] at h) <;> (try (exfalso; omega))) | (with_reducible refine Ok.bind' ?_) | ((with_reducible refine Ok.ret ?_); (try dsimp only)) | (with_reducible refine Ok.lpNN ?_) | (with_reducible refine Ok.lp1 ?_) | (with_reducible refine u_f_init_l270 ?_) | (with_reducible refine u_f_init_b265 ?_) | (with_reducible refine u_f_init_b241 ?_) | (with_reducible refine u_f_init ?_) | (with_reducible refine u_f_beginModule_b12 ?_) | (with_reducible refine u_f_beginModule ?_) | (with_reducible refine u_f_addFunction_b17 ?_) | (with_reducible refine u_f_addFunction_l21 ?_) | (with_reducible refine u_f_addFunction ?_) | (with_reducible refine u_f_argOk_b107 ?_) | (with_reducible refine u_f_argOk_b75 ?_) | (with_reducible refine u_f_argOk_b74 ?_) | (with_reducible refine u_f_argOk_b60 ?_) | (with_reducible refine u_f_argOk_b106 ?_) | (with_reducible refine u_f_argOk_b105 ?_) | (with_reducible refine u_f_argOk_b91 ?_) | (with_reducible refine u_f_argOk_b90 ?_) | (with_reducible refine u_f_argOk_b89 ?_) | (with_reducible refine u_f_argOk_b76 ?_) | (with_reducible refine u_f_emit_b25 ?_) | (with_reducible refine u_f_emit_b45 ?_) | (with_reducible refine u_f_emit ?_) | (with_reducible refine u_f_bufferSize_b15 ?_) | (with_reducible refine u_f_bufferSize ?_) | (with_reducible refine u_f_hasBadJump_b70 ?_) | (with_reducible refine u_f_hasBadJump_b57 ?_) | (with_reducible refine u_f_hasBadJump_l19 ?_) | (with_reducible refine u_f_hasBadJump_l2 ?_) | (with_reducible refine u_f_hasBadJump ?_) | (with_reducible refine u_f_hasBadData_b42 ?_) | (with_reducible refine u_f_hasBadData_b27 ?_) | (with_reducible refine u_f_hasBadData_l2 ?_) | (with_reducible refine u_f_hasBadData ?_) | (with_reducible refine u_f_hasDuplicate_b36 ?_) | (with_reducible refine u_f_hasDuplicate_l2 ?_) | (with_reducible refine u_f_hasDuplicate ?_) | (with_reducible refine u_f_clearSymbols_l12 ?_) | (with_reducible refine u_f_clearSymbols ?_) | (with_reducible refine u_f_installBuffer_l22 ?_) | (with_reducible refine u_f_installBuffer_l80 ?_) | (with_reducible refine u_f_installBuffer_l150 ?_) | (with_reducible refine u_f_installBuffer ?_) | (with_reducible refine u_f_placeFunction_b82 ?_) | (with_reducible refine u_f_placeFunction_b76 ?_) | (with_reducible refine u_f_placeFunction_l32 ?_) | (with_reducible refine u_f_placeFunction_l113 ?_) | (with_reducible refine u_f_publishThunks_l2 ?_) | (with_reducible refine u_f_publishThunks ?_) | (with_reducible refine u_f_linkSlot_b116 ?_) | (with_reducible refine u_f_linkSlot_l2 ?_) | (with_reducible refine u_f_linkSlot ?_) | (with_reducible refine u_f_commit ?_) | (with_reducible refine u_f_codeSize_b21 ?_) | (with_reducible refine u_f_codeSize ?_) | (with_reducible refine u_f_definedIn_b10 ?_) | (with_reducible refine u_f_definedIn ?_) | (with_reducible refine u_l_law_b367 ?_) | (with_reducible refine u_l_law_b359 ?_) | (with_reducible refine u_l_law_b358 ?_) | (with_reducible refine u_l_law_b333 ?_) | (with_reducible refine u_l_law_b311 ?_) | (with_reducible refine u_l_law_b230 ?_) | (with_reducible refine u_l_law_b220 ?_) | (with_reducible refine u_l_law_b217 ?_) | (with_reducible refine u_l_law_b202 ?_) | (with_reducible refine u_l_law_b194 ?_) | (with_reducible refine u_l_law_b172 ?_) | (with_reducible refine u_l_law_b160 ?_) | (with_reducible refine u_l_law_b159 ?_) | (with_reducible refine u_l_law_b134 ?_) | (with_reducible refine u_l_law_b61 ?_) | (with_reducible refine u_l_law_b60 ?_) | (with_reducible refine u_l_law_b44 ?_) | (with_reducible refine u_l_law_b92 ?_) | (with_reducible refine u_l_law_b91 ?_) | (with_reducible refine u_l_law_b76 ?_) | (with_reducible refine u_l_law_b126 ?_) | (with_reducible refine u_l_law_b125 ?_) | (with_reducible refine u_l_law_b109 ?_) | (with_reducible refine u_l_law_b26 ?_) | (with_reducible refine u_l_law_b25 ?_) | (with_reducible refine u_l_law ?_))
  all_goals (refine Ok.mono (own_pf _ (by simp [sto, w32, z1, z2, z3, z4, z5, z6, z7, z8, z9, z10, z11, z13, z14, z15, z16, z17, z18, z19, z20, z21, z22, f30, f35, f18, div32, h12, h23]) (by simp [sto, w32, z1, z2, z3, z4, z5, z6, z7, z8, z9, z10, z11, z13, z14, z15, z16, z17, z18, z19, z20, z21, z22, f30, f35, f18, div32, h12, h23]) (by simp [sto, w32, z1, z2, z3, z4, z5, z6, z7, z8, z9, z10, z11, z13, z14, z15, z16, z17, z18, z19, z20, z21, z22, f30, f35, f18, div32, h12, h23]) (by simp [sto, w32, z1, z2, z3, z4, z5, z6, z7, z8, z9, z10, z11, z13, z14, z15, z16, z17, z18, z19, z20, z21, z22, f30, f35, f18, div32, h12, h23] <;> omega)) fun m' hpf => ?_)
  all_goals (try dsimp only)
  repeat' (first | ((with_reducible refine Ok.grd ?_ ?_); (focus (first | omega | ((try simp only [w32_al, w32_ar, w32_sl, w32_sr, w32_m4, w32_m6, w32_m10, w32_m16, w32_m24]); (repeat rw [w32_id (by omega)]); omega) | ((try simp only [w32_al, w32_ar, w32_sl, w32_sr, w32_m4, w32_m6, w32_m10, w32_m16, w32_m24]); unfold w32; omega) | (simp [sto, z0_at, w32, z1, z2, z3, z4, z5, z6, z7, z8, z9, z10, z11, z13, z14, z15, z16, z17, z18, z19, z20, z21, z22, f30, f35, f18, div32, h12, h23, hpf]; done) | (simp [sto, z0_at, w32, z1, z2, z3, z4, z5, z6, z7, z8, z9, z10, z11, z13, z14, z15, z16, z17, z18, z19, z20, z21, z22, f30, f35, f18, div32, h12, h23, hpf]; omega)))) | ((with_reducible refine Ok.ite (fun h => ?_) (fun h => ?_)) <;> (try simp [sto, z0_at, w32, z1, z2, z3, z4, z5, z6, z7, z8, z9, z10, z11, z13, z14, z15, z16, z17, z18, z19, z20, z21, z22, f30, f35, f18, div32, h12, h23, hpf] at h) <;> (try (exfalso; omega))) | (with_reducible refine Ok.bind' ?_) | ((with_reducible refine Ok.ret ?_); (try dsimp only)) | (with_reducible refine Ok.lpNN ?_) | (with_reducible refine Ok.lp1 ?_) | (with_reducible refine u_f_init_l270 ?_) | (with_reducible refine u_f_init_b265 ?_) | (with_reducible refine u_f_init_b241 ?_) | (with_reducible refine u_f_init ?_) | (with_reducible refine u_f_beginModule_b12 ?_) | (with_reducible refine u_f_beginModule ?_) | (with_reducible refine u_f_addFunction_b17 ?_) | (with_reducible refine u_f_addFunction_l21 ?_) | (with_reducible refine u_f_addFunction ?_) | (with_reducible refine u_f_argOk_b107 ?_) | (with_reducible refine u_f_argOk_b75 ?_) | (with_reducible refine u_f_argOk_b74 ?_) | (with_reducible refine u_f_argOk_b60 ?_) | (with_reducible refine u_f_argOk_b106 ?_) | (with_reducible refine u_f_argOk_b105 ?_) | (with_reducible refine u_f_argOk_b91 ?_) | (with_reducible refine u_f_argOk_b90 ?_) | (with_reducible refine u_f_argOk_b89 ?_) | (with_reducible refine u_f_argOk_b76 ?_) | (with_reducible refine u_f_emit_b25 ?_) | (with_reducible refine u_f_emit_b45 ?_) | (with_reducible refine u_f_emit ?_) | (with_reducible refine u_f_bufferSize_b15 ?_) | (with_reducible refine u_f_bufferSize ?_) | (with_reducible refine u_f_hasBadJump_b70 ?_) | (with_reducible refine u_f_hasBadJump_b57 ?_) | (with_reducible refine u_f_hasBadJump_l19 ?_) | (with_reducible refine u_f_hasBadJump_l2 ?_) | (with_reducible refine u_f_hasBadJump ?_) | (with_reducible refine u_f_hasBadData_b42 ?_) | (with_reducible refine u_f_hasBadData_b27 ?_) | (with_reducible refine u_f_hasBadData_l2 ?_) | (with_reducible refine u_f_hasBadData ?_) | (with_reducible refine u_f_hasDuplicate_b36 ?_) | (with_reducible refine u_f_hasDuplicate_l2 ?_) | (with_reducible refine u_f_hasDuplicate ?_) | (with_reducible refine u_f_clearSymbols_l12 ?_) | (with_reducible refine u_f_clearSymbols ?_) | (with_reducible refine u_f_installBuffer_l22 ?_) | (with_reducible refine u_f_installBuffer_l80 ?_) | (with_reducible refine u_f_installBuffer_l150 ?_) | (with_reducible refine u_f_installBuffer ?_) | (with_reducible refine u_f_placeFunction_b82 ?_) | (with_reducible refine u_f_placeFunction_b76 ?_) | (with_reducible refine u_f_placeFunction_l32 ?_) | (with_reducible refine u_f_placeFunction_l113 ?_) | (with_reducible refine u_f_publishThunks_l2 ?_) | (with_reducible refine u_f_publishThunks ?_) | (with_reducible refine u_f_linkSlot_b116 ?_) | (with_reducible refine u_f_linkSlot_l2 ?_) | (with_reducible refine u_f_linkSlot ?_) | (with_reducible refine u_f_commit ?_) | (with_reducible refine u_f_codeSize_b21 ?_) | (with_reducible refine u_f_codeSize ?_) | (with_reducible refine u_f_definedIn_b10 ?_) | (with_reducible refine u_f_definedIn ?_) | (with_reducible refine u_l_law_b367 ?_) | (with_reducible refine u_l_law_b359 ?_) | (with_reducible refine u_l_law_b358 ?_) | (with_reducible refine u_l_law_b333 ?_) | (with_reducible refine u_l_law_b311 ?_) | (with_reducible refine u_l_law_b230 ?_) | (with_reducible refine u_l_law_b220 ?_) | (with_reducible refine u_l_law_b217 ?_) | (with_reducible refine u_l_law_b202 ?_) | (with_reducible refine u_l_law_b194 ?_) | (with_reducible refine u_l_law_b172 ?_) | (with_reducible refine u_l_law_b160 ?_) | (with_reducible refine u_l_law_b159 ?_) | (with_reducible refine u_l_law_b134 ?_) | (with_reducible refine u_l_law_b61 ?_) | (with_reducible refine u_l_law_b60 ?_) | (with_reducible refine u_l_law_b44 ?_) | (with_reducible refine u_l_law_b92 ?_) | (with_reducible refine u_l_law_b91 ?_) | (with_reducible refine u_l_law_b76 ?_) | (with_reducible refine u_l_law_b126 ?_) | (with_reducible refine u_l_law_b125 ?_) | (with_reducible refine u_l_law_b109 ?_) | (with_reducible refine u_l_law_b26 ?_) | (with_reducible refine u_l_law_b25 ?_) | (with_reducible refine u_l_law ?_))
  all_goals (first | trivial | omega | ((try simp only [w32_al, w32_ar, w32_sl, w32_sr, w32_m4, w32_m6, w32_m10, w32_m16, w32_m24]); (repeat rw [w32_id (by omega)]); omega) | ((try simp only [w32_al, w32_ar, w32_sl, w32_sr, w32_m4, w32_m6, w32_m10, w32_m16, w32_m24]); unfold w32; omega) | (simp [sto, z0_at, w32, z1, z2, z3, z4, z5, z6, z7, z8, z9, z10, z11, z13, z14, z15, z16, z17, z18, z19, z20, z21, z22, f30, f35, f18, div32, h12, h23, hpf]; done) | (simp [sto, z0_at, w32, z1, z2, z3, z4, z5, z6, z7, z8, z9, z10, z11, z13, z14, z15, z16, z17, z18, z19, z20, z21, z22, f30, f35, f18, div32, h12, h23, hpf]; omega))
set_option maxRecDepth 65536 in
set_option maxHeartbeats 16000000 in
theorem own_E (x2 x3 x4 : Int) (m : OMem) (z1 : ∀ i, m 1 i = 0) (z2 : ∀ i, m 2 i = 0) (z3 : ∀ i, m 3 i = 0) (z4 : ∀ i, m 4 i = 0) (z5 : ∀ i, m 5 i = 0) (z6 : ∀ i, m 6 i = 0) (z7 : ∀ i, m 7 i = 0) (z8 : ∀ i, m 8 i = 0) (z9 : ∀ i, m 9 i = 0) (z10 : ∀ i, m 10 i = 0) (z11 : ∀ i, m 11 i = 0) (z13 : ∀ i, m 13 i = 0) (z14 : ∀ i, m 14 i = 0) (z15 : ∀ i, m 15 i = 0) (z16 : ∀ i, m 16 i = 0) (z17 : ∀ i, m 17 i = 0) (z18 : ∀ i, m 18 i = 0) (z19 : ∀ i, m 19 i = 0) (z20 : ∀ i, m 20 i = 0) (z21 : ∀ i, m 21 i = 0) (z22 : ∀ i, m 22 i = 0) (f30 : m 0 30 = 0) (f35 : m 0 35 = 0) (f18 : m 0 18 = 640) (f28 : 1 ≤ m 0 28) (f29 : 0 ≤ m 0 29 ∧ m 0 29 ≤ 8) (hx : 0 ≤ x2 ∧ x2 ≤ 7) (h12 : m 12 x2 = -1) (h23 : m 23 x2 = -1) (hA : own_AOK x3 x4) (hb : 1 ≤ x3 ∧ x3 ≤ 15) (hc : x3 ≠ 4 ∧ x3 ≠ 5) (hj : x3 = 10 ∨ x3 = 11 → x4 = 0) : Ok (l_law_b230 x2 x3 x4 1 1 1 0 1 m) (fun r => r.1 = 1) := by
  rcases (by omega : x3 = 10 ∨ x3 = 11 ∨ (x3 ≠ 10 ∧ x3 ≠ 11)) with rfl | rfl | hne
  · obtain rfl := hj (by omega)
    exact own_E10 x2 m z1 z2 z3 z4 z5 z6 z7 z8 z9 z10 z11 z13 z14 z15 z16 z17 z18 z19 z20 z21 z22 f30 f35 f18 f28 f29 hx h12 h23 hA
  · obtain rfl := hj (by omega)
    exact own_E11 x2 m z1 z2 z3 z4 z5 z6 z7 z8 z9 z10 z11 z13 z14 z15 z16 z17 z18 z19 z20 z21 z22 f30 f35 f18 f28 f29 hx h12 h23 hA
  · exact own_Eo x2 x3 x4 m z1 z2 z3 z4 z5 z6 z7 z8 z9 z10 z11 z13 z14 z15 z16 z17 z18 z19 z20 z21 z22 f30 f35 f18 f28 f29 hx h12 h23 hA hb hc hne
set_option maxRecDepth 65536 in
set_option maxHeartbeats 16000000 in
theorem law_true (x0 x1 x2 x3 x4 : Int) (h0 : -2147483648 ≤ x0 ∧ x0 < 2147483648) (h1 : -2147483648 ≤ x1 ∧ x1 < 2147483648) (h2 : -2147483648 ≤ x2 ∧ x2 < 2147483648) (h3 : -2147483648 ≤ x3 ∧ x3 < 2147483648) (h4 : -2147483648 ≤ x4 ∧ x4 < 2147483648) : ∃ W, l_law x0 x1 x2 x3 x4 = some (1, W) := by
  refine Ok.law ?_
  unfold l_law
  refine Ok.bind (own_init x0 x1) fun m ⟨a, f29, f18, hz, hd, he, hk⟩ => ?_
  have f28 : 1 ≤ m 0 28 := by rw [a]; omega
  have f30 := hz 30 (by decide) (by decide) (by decide)
  have f35 := hz 35 (by decide) (by decide) (by decide)
  have z1 := fun i => hk 1 i (by decide) (by decide) (by decide)
  have z2 := fun i => hk 2 i (by decide) (by decide) (by decide)
  have z3 := fun i => hk 3 i (by decide) (by decide) (by decide)
  have z4 := fun i => hk 4 i (by decide) (by decide) (by decide)
  have z5 := fun i => hk 5 i (by decide) (by decide) (by decide)
  have z6 := fun i => hk 6 i (by decide) (by decide) (by decide)
  have z7 := fun i => hk 7 i (by decide) (by decide) (by decide)
  have z8 := fun i => hk 8 i (by decide) (by decide) (by decide)
  have z9 := fun i => hk 9 i (by decide) (by decide) (by decide)
  have z10 := fun i => hk 10 i (by decide) (by decide) (by decide)
  have z11 := fun i => hk 11 i (by decide) (by decide) (by decide)
  have z13 := fun i => hk 13 i (by decide) (by decide) (by decide)
  have z14 := fun i => hk 14 i (by decide) (by decide) (by decide)
  have z15 := fun i => hk 15 i (by decide) (by decide) (by decide)
  have z16 := fun i => hk 16 i (by decide) (by decide) (by decide)
  have z17 := fun i => hk 17 i (by decide) (by decide) (by decide)
  have z18 := fun i => hk 18 i (by decide) (by decide) (by decide)
  have z19 := fun i => hk 19 i (by decide) (by decide) (by decide)
  have z20 := fun i => hk 20 i (by decide) (by decide) (by decide)
  have z21 := fun i => hk 21 i (by decide) (by decide) (by decide)
  have z22 := fun i => hk 22 i (by decide) (by decide) (by decide)
  clear a
  by_cases hx : 0 ≤ x2 ∧ x2 ≤ 7
  · have h12 := hd x2 hx.1 (by omega)
    have h23 := he x2 hx.1 (by omega)
    have B := own_B x2 x3 x4 m z1 z2 z3 z4 z5 z6 z7 z8 z9 z10 z11 z13 z14 z15 z16 z17 z18 z19 z20 z21 z22 f30 f35 f18 f28 f29 hx h12 h23
    have C := own_C x2 x3 x4 m z1 z2 z3 z4 z5 z6 z7 z8 z9 z10 z11 z13 z14 z15 z16 z17 z18 z19 z20 z21 z22 f30 f35 f18 f28 f29 hx h12 h23
    have D := own_D x2 x3 x4 m z1 z2 z3 z4 z5 z6 z7 z8 z9 z10 z11 z13 z14 z15 z16 z17 z18 z19 z20 z21 z22 f30 f35 f18 f28 f29 hx h12 h23
    have E := own_E x2 x3 x4 m z1 z2 z3 z4 z5 z6 z7 z8 z9 z10 z11 z13 z14 z15 z16 z17 z18 z19 z20 z21 z22 f30 f35 f18 f28 f29 hx h12 h23
    clear z1 z2 z3 z4 z5 z6 z7 z8 z9 z10 z11 z13 z14 z15 z16 z17 z18 z19 z20 z21 z22 f30 f35 f18 f28 f29 h12 h23 hd he hk hz
    repeat' (first | exact B (by omega) | exact C (by omega) (by omega) | exact D (by omega) (by omega) | exact E (by omega) (by omega) (by omega) (by omega) | ((with_reducible refine Ok.grd ?_ ?_); (focus (first | omega | ((try simp only [w32_al, w32_ar, w32_sl, w32_sr, w32_m4, w32_m6, w32_m10, w32_m16, w32_m24]); (repeat rw [w32_id (by omega)]); omega) | ((try simp only [w32_al, w32_ar, w32_sl, w32_sr, w32_m4, w32_m6, w32_m10, w32_m16, w32_m24]); unfold w32; omega) | (simp [sto, z0_at, w32]; done) | (simp [sto, z0_at, w32]; omega)))) | ((with_reducible refine Ok.ite (fun h => ?_) (fun h => ?_)) <;> (try simp [sto, z0_at, w32] at h) <;> (try (exfalso; omega))) | (with_reducible refine Ok.bind' ?_) | ((with_reducible refine Ok.ret ?_); (try dsimp only)) | (with_reducible refine Ok.lpNN ?_) | (with_reducible refine Ok.lp1 ?_) | (with_reducible refine u_l_law_b220 ?_) | (with_reducible refine u_l_law_b217 ?_) | (with_reducible refine u_l_law_b202 ?_) | (with_reducible refine u_l_law_b194 ?_) | (with_reducible refine u_l_law_b172 ?_) | (with_reducible refine u_l_law_b160 ?_) | (with_reducible refine u_l_law_b159 ?_) | (with_reducible refine u_l_law_b134 ?_) | (with_reducible refine u_l_law_b61 ?_) | (with_reducible refine u_l_law_b60 ?_) | (with_reducible refine u_l_law_b44 ?_) | (with_reducible refine u_l_law_b92 ?_) | (with_reducible refine u_l_law_b91 ?_) | (with_reducible refine u_l_law_b76 ?_) | (with_reducible refine u_l_law_b126 ?_) | (with_reducible refine u_l_law_b125 ?_) | (with_reducible refine u_l_law_b109 ?_) | (with_reducible refine u_l_law_b26 ?_) | (with_reducible refine u_l_law_b25 ?_))
  · have A := own_A x2 x3 x4 m z1 z2 z3 z4 z5 z6 z7 z8 z9 z10 z11 z13 z14 z15 z16 z17 z18 z19 z20 z21 z22 f30 f35 f18 f28 f29 hx
    clear z1 z2 z3 z4 z5 z6 z7 z8 z9 z10 z11 z13 z14 z15 z16 z17 z18 z19 z20 z21 z22 f30 f35 f18 f28 f29 hd he hk hz
    repeat' (first | exact A | ((with_reducible refine Ok.grd ?_ ?_); (focus (first | omega | ((try simp only [w32_al, w32_ar, w32_sl, w32_sr, w32_m4, w32_m6, w32_m10, w32_m16, w32_m24]); (repeat rw [w32_id (by omega)]); omega) | ((try simp only [w32_al, w32_ar, w32_sl, w32_sr, w32_m4, w32_m6, w32_m10, w32_m16, w32_m24]); unfold w32; omega) | (simp [sto, z0_at, w32]; done) | (simp [sto, z0_at, w32]; omega)))) | ((with_reducible refine Ok.ite (fun h => ?_) (fun h => ?_)) <;> (try simp [sto, z0_at, w32] at h) <;> (try (exfalso; omega))) | (with_reducible refine Ok.bind' ?_) | ((with_reducible refine Ok.ret ?_); (try dsimp only)) | (with_reducible refine Ok.lpNN ?_) | (with_reducible refine Ok.lp1 ?_) | (with_reducible refine u_l_law_b220 ?_) | (with_reducible refine u_l_law_b217 ?_) | (with_reducible refine u_l_law_b202 ?_) | (with_reducible refine u_l_law_b194 ?_) | (with_reducible refine u_l_law_b172 ?_) | (with_reducible refine u_l_law_b160 ?_) | (with_reducible refine u_l_law_b159 ?_) | (with_reducible refine u_l_law_b134 ?_) | (with_reducible refine u_l_law_b61 ?_) | (with_reducible refine u_l_law_b60 ?_) | (with_reducible refine u_l_law_b44 ?_) | (with_reducible refine u_l_law_b92 ?_) | (with_reducible refine u_l_law_b91 ?_) | (with_reducible refine u_l_law_b76 ?_) | (with_reducible refine u_l_law_b126 ?_) | (with_reducible refine u_l_law_b125 ?_) | (with_reducible refine u_l_law_b109 ?_) | (with_reducible refine u_l_law_b26 ?_) | (with_reducible refine u_l_law_b25 ?_))

set_option maxRecDepth 65536 in
set_option maxHeartbeats 8000000 in
set_option maxHeartbeats 4000000 in
theorem comes_1 {Post : Tables → Env → Array Value → State → Outcome → State → Prop} (hpost : ∀ tb e args s v u, (limb_1_1.after args s (.returned v) u = true ∧ limb_1_2.after args s (.returned v) u = true ∧ True) → FrameEnd s (.returned v) u (Jvm.fieldLocs frame_1_writes args s ++ Jvm.arrayLocs frame_1_arrays args s ++ Jvm.staticLocs frame_1_statics s) 64 3648 → Post tb e args s (.returned v) u) :
    ArmFor flags0 classFile x code maxLocals ret World_1 tables_1 room_1 Calls_1 rest_1 Pre_1 Post := by
  intro l hfl _ _ p e ha hc hk s m args below hf hA hF happ hP
  obtain ⟨hcalls, hrest, hpre⟩ := hP
  obtain ⟨-, -, -, hnamed, -, -, -, hat⟩ := (Spec.applies_iff hf).mp happ
  obtain ⟨hg, hn⟩ := and_e (Cond.before_iff.mp (show (Jvm.Cond.and given_1 narrow_1).before args s = true from hpre))
  have hw := fun d (hd : d ∈ tables_1) => atoms_spec (ws := Jvm.Cond.code x code maxLocals ret :: tables_1) hat d (List.mem_cons_of_mem _ hd)
  have hfit : Fit s := fun {y c} hc i hi => by
    obtain ⟨ha, rfl⟩ := Array.getElem?_eq_some_iff.mp hc
    have q := List.all_eq_true.mp ((Array.all_eq_true_iff_forall_mem.mp hF) _ (Array.getElem_mem ha)) i (List.mem_range.mpr hi)
    simpa [Array.getElem?_eq_getElem hi] using q
  obtain ⟨hcnt, g0⟩ := and_e hg
  obtain ⟨w0, w1, w2, w3, w4, rfl⟩ : ∃ w0 w1 w2 w3 w4 : Value, args = #[w0, w1, w2, w3, w4] := by
    have hs : args.size = 5 := by simpa [Cond.value, given_1] using hcnt
    obtain ⟨L⟩ := args
    match L, hs with
    | [w0, w1, w2, w3, w4], _ => exact ⟨w0, w1, w2, w3, w4, rfl⟩
  obtain ⟨k0, g1⟩ := and_e g0
  obtain ⟨k1, g2⟩ := and_e g1
  obtain ⟨k2, g3⟩ := and_e g2
  obtain ⟨k3, g4⟩ := and_e g3
  obtain ⟨i0, ei0⟩ := is_v k0
  obtain rfl : w0 = (.int i0) := Option.some.inj ei0
  obtain ⟨i1, ei1⟩ := is_v k1
  obtain rfl : w1 = (.int i1) := Option.some.inj ei1
  obtain ⟨i2, ei2⟩ := is_v k2
  obtain rfl : w2 = (.int i2) := Option.some.inj ei2
  obtain ⟨i3, ei3⟩ := is_v k3
  obtain rfl : w3 = (.int i3) := Option.some.inj ei3
  obtain ⟨i4, ei4⟩ := is_v g4
  obtain rfl : w4 = (.int i4) := Option.some.inj ei4
  obtain ⟨W, hlaw⟩ := law_true i0.toInt i1.toInt i2.toInt i3.toInt i4.toInt (rng32 i0) (rng32 i1) (rng32 i2) (rng32 i3) (rng32 i4)
  obtain ⟨N, hN⟩ := l_law_ok i0.toInt i1.toInt i2.toInt i3.toInt i4.toInt _ hlaw _ ⟨0, rfl⟩
  have hM := lawMet (sc := (false, 0, fun _ => 0)) (mo := 1) (as := [vi i0.toInt, vi i1.toInt, vi i2.toInt, vi i3.toInt, vi i4.toInt]) (vals := [.int i0, .int i1, .int i2, .int i3, .int i4]) (A := (fun _ => 0)) (rm := room_1) (n0 := s.heap.size) (h := s.heap) (tabP hw) (tabL hw) (by decide) l (x := x) rfl (ps := [0, 0, 0, 0, 0]) (ml := 12) (fr := 3) (lc := 47) rfl hN (Nat.le_of_eq rfl) tables_1 (by decide) (by decide) (by decide) (by decide +kernel) (Nat.le_refl _) (fun q => by cases q) ⟨⟨i0, rfl, rfl⟩, ⟨i1, rfl, rfl⟩, ⟨i2, rfl, rfl⟩, ⟨i3, rfl, rfl⟩, ⟨i4, rfl, rfl⟩, trivial⟩
  obtain ⟨n, o, h1, h2, h3, L, rfl, N, hq⟩ := hM p e ha hc hk s m _ below hf ((Spec.applies_iff_loose hf).mp happ).1 ⟨rfl, State.Warmed39.refl s, rfl⟩ trivial
  exact ⟨n, _, h1, h2, h3, hpost _ _ _ _ _ _ ⟨Cond.after_iff.mpr rfl, Cond.after_iff.mpr (eq_i res_at (Term.int_eval (1)) rfl), trivial⟩ ⟨hq.1, hq.2.1, (hq.2.2.sift fun y hy => Or.inr (N y hy)).mono (by decide) (by decide)⟩⟩
theorem main_1_1 : Claimed_1_1 := comes_1 fun _ _ _ _ _ _ h hF => ⟨h.1, hF⟩
theorem main_1_2 : Claimed_1_2 := comes_1 fun _ _ _ _ _ _ h hF => ⟨h.2.1, hF⟩
end Jvm.Pilot.@@N@@
namespace Jvm.Pilot.@@N@@
open Jvm Jvm.ClassFile Sem Op Lib Jvm.Free Jvm.Stand Jvm.Pilot.@@N@@.Jvm.D
/-! MADE BY PROGRAM (witnessworld.py) out of the Statement's table words and the real class files: 11 classes; the members and pool entries that the words name. The judged class is class 1, her method 1. -/
namespace start1
open Jvm.ClassFile
def u (s : String) : CpInfo := .utf8 (stringToUtf16 s)
/-- a pool by its gaps: so many unusable entries, then the entry; so many at the end -/
def gap : Nat → List CpInfo → List CpInfo
  | 0, r => r
  | n + 1, r => .unusable :: gap n r
def poolList (es : List (Nat × CpInfo)) (last : Nat) : List CpInfo := es.foldr (fun e r => gap e.1 (e.2 :: r)) (gap last [])
def pool (es : List (Nat × CpInfo)) (last : Nat) : Array CpInfo := ⟨poolList es last⟩
def fileOf (pool : Array CpInfo) (this : Nat) (attrs : Array Attribute := #[]) (ms : Array MethodInfo := #[]) (fl : Nat := 33) (sup : Nat := 0) (ifs : Array Nat := #[]) (fds : Array FieldInfo := #[]) : ClassFile where
  minorVersion := 0
  majorVersion := 65
  constantPool := pool
  accessFlags := fl
  thisClass := this
  superClass := sup
  interfaces := ifs
  fields := fds
  methods := ms
  attributes := attrs
def plain (name : String) (sup : Option ClassId) : Class where
  name := name
  kind := .ordinary
  loader := none
  accessFlags := 33
  super := sup
  interfaces := #[]
  cf := none
  fields := #[]
  methods := #[]
  instanceTypes := #[]
  staticTypes := #[]
  resolved := #[]
  callSites := []
  init := .initialized
  statics := none
  mirror := none

def pool0 : Array CpInfo := pool [(5, u "<init>"), (0, u "()V"), (1, .class_ 10), (1, u "java/lang/Object")] 113

def k0c0 : Code := { maxStack := 0, maxLocals := 1, code := object_method_1_code, exceptionTable := #[], attributes := #[] }
def k0m0 : Method := { name := "<init>", desc := "()V", sig := { parameters := [], returnType := none }, accessFlags := 1, code := some k0c0 }
/-- java/lang/Object -/
def k0 : Class := { plain "java/lang/Object" none with
  accessFlags := 33
  interfaces := #[]
  cf := some (fileOf pool0 8 #[] #[{ accessFlags := 1, nameIndex := 5, descriptorIndex := 6, attributes := #[] }] 33 0 #[] #[])
  fields := #[]
  methods := #[k0m0]
  instanceTypes := #[]
  staticTypes := #[]
  resolved := Array.replicate 124 none
  statics := none }

def pool1 : Array CpInfo := pool [(2, .class_ 4), (1, u "java/lang/Object"), (0, u "<init>"), (0, u "()V"), (0, .class_ 8), (0, u "IncrLinker"), (0, .methodref 7 10), (0, .nameAndType 5 11), (0, u "(II)V"), (0, .methodref 7 13), (0, .nameAndType 14 15), (0, u "beginModule"), (0, u "(I)Z"), (0, .methodref 7 17), (0, .nameAndType 18 15), (0, u "addFunction"), (0, .methodref 7 20), (0, .nameAndType 21 22), (0, u "emit"), (0, u "(II)Z"), (0, .methodref 7 24), (0, .nameAndType 25 26), (0, u "bufferSize"), (0, u "()I"), (0, .methodref 7 28), (0, .nameAndType 29 26), (0, u "commit"), (0, .methodref 7 31), (0, .nameAndType 32 33), (0, u "codeSize"), (0, u "(I)I"), (0, .methodref 7 35), (0, .nameAndType 36 33), (0, u "definedIn"), (0, .class_ 38), (0, u "IncrLinkerL2"), (2, u "law"), (0, u "(IIIII)Z")] 3

def k1m0 : Method := { name := "<init>", desc := "()V", sig := { parameters := [], returnType := none }, accessFlags := 1, code := none }
def k1c1 : Code := { maxStack := 4, maxLocals := 12, code := code, exceptionTable := #[], attributes := #[] }
def k1m1 : Method := { name := "law", desc := "(IIIII)Z", sig := { parameters := [.int, .int, .int, .int, .int], returnType := some .boolean }, accessFlags := 9, code := some k1c1 }
/-- IncrLinkerL2 -/
def k1 : Class := { plain "IncrLinkerL2" (some 0) with
  accessFlags := 33
  interfaces := #[]
  cf := some (fileOf pool1 37 #[] #[{ accessFlags := 1, nameIndex := 5, descriptorIndex := 6, attributes := #[] }, { accessFlags := 9, nameIndex := 41, descriptorIndex := 42, attributes := #[] }] 33 2 #[] #[])
  fields := #[]
  methods := #[k1m0, k1m1]
  instanceTypes := #[]
  staticTypes := #[]
  resolved := Array.replicate 46 none
  statics := none }

def pool2 : Array CpInfo := pool [(1, .methodref 2 3), (0, .class_ 4), (0, .nameAndType 5 6), (0, u "java/lang/Object"), (0, u "<init>"), (0, u "()V"), (0, .fieldref 8 9), (0, .class_ 10), (0, .nameAndType 11 12), (0, u "IncrLinker"), (0, u "used"), (0, u "[Z"), (0, .fieldref 8 14), (0, .nameAndType 15 16), (0, u "dataCount"), (0, u "[I"), (0, .fieldref 8 18), (0, .nameAndType 19 16), (0, u "dataInit"), (0, .fieldref 8 21), (0, .nameAndType 22 16), (0, u "dataCur"), (0, .fieldref 8 24), (0, .nameAndType 25 16), (0, u "funcCount"), (0, .fieldref 8 27), (0, .nameAndType 28 16), (0, u "funcSym"), (0, .fieldref 8 30), (0, .nameAndType 31 16), (0, u "funcLen"), (0, .fieldref 8 33), (0, .nameAndType 34 16), (0, u "funcOff"), (0, .fieldref 8 36), (0, .nameAndType 37 16), (0, u "codeOp"), (0, .fieldref 8 39), (0, .nameAndType 40 16), (0, u "codeArg"), (0, .fieldref 8 42), (0, .nameAndType 43 16), (0, u "modCode"), (0, .fieldref 8 45), (0, .nameAndType 46 16), (0, u "symSlot"), (0, .fieldref 8 48), (0, .nameAndType 49 16), (0, u "bufData"), (0, .fieldref 8 51), (0, .nameAndType 52 16), (0, u "bufFuncSym"), (0, .fieldref 8 54), (0, .nameAndType 55 16), (0, u "bufFuncLen"), (0, .fieldref 8 57), (0, .nameAndType 58 16), (0, u "bufFuncOff"), (0, .fieldref 8 60), (0, .nameAndType 61 16), (0, u "bufOp"), (0, .fieldref 8 63), (0, .nameAndType 64 16), (0, u "bufArg"), (0, .fieldref 8 66), (0, .nameAndType 67 68), (0, u "imageCap"), (0, u "I"), (0, .fieldref 8 70), (0, .nameAndType 71 16), (0, u "imgOp"), (0, .fieldref 8 73), (0, .nameAndType 74 16), (0, u "imgArg"), (0, .fieldref 8 76), (0, .nameAndType 77 16), (0, u "recBase"), (0, .fieldref 8 79), (0, .nameAndType 80 16), (0, u "recCap"), (0, .fieldref 8 82), (0, .nameAndType 83 16), (0, u "thunk"), (0, .fieldref 8 85), (0, .nameAndType 86 16), (0, u "globals"), (0, .fieldref 8 88), (0, .nameAndType 89 16), (0, u "stack"), (0, .fieldref 8 91), (0, .nameAndType 92 16), (0, u "retRec"), (0, .fieldref 8 94), (0, .nameAndType 95 16), (0, u "retPc"), (0, .fieldref 8 97), (0, .nameAndType 98 68), (0, u "nSlots"), (0, .fieldref 8 100), (0, .nameAndType 101 68), (0, u "slack"), (0, .fieldref 8 103), (0, .nameAndType 104 105), (0, u "bufOpen"), (0, u "Z"), (0, .fieldref 8 107), (0, .nameAndType 108 68), (0, u "bufSlot"), (0, .fieldref 8 110), (0, .nameAndType 111 68), (0, u "bufDataCount"), (0, .fieldref 8 113), (0, .nameAndType 114 68), (0, u "bufFuncCount"), (0, .fieldref 8 116), (0, .nameAndType 117 68), (0, u "bufCode"), (0, .methodref 8 119), (0, .nameAndType 120 121), (0, u "argOk"), (0, u "(II)Z"), (0, .methodref 8 123), (0, .nameAndType 124 125), (0, u "hasBadJump"), (0, u "()Z"), (0, .methodref 8 127), (0, .nameAndType 128 125), (0, u "hasBadData"), (0, .methodref 8 130), (0, .nameAndType 131 125), (0, u "hasDuplicate"), (0, .methodref 8 133), (0, .nameAndType 134 6), (0, u "installBuffer"), (0, .methodref 8 136), (0, .nameAndType 137 138), (0, u "linkSlot"), (0, u "(I)V"), (0, .methodref 8 140), (0, .nameAndType 141 138), (0, u "clearSymbols"), (0, .methodref 8 143), (0, .nameAndType 144 138), (0, u "placeFunction"), (0, .fieldref 8 146), (0, .nameAndType 147 68), (0, u "imgTop"), (3, .methodref 8 152), (0, .nameAndType 153 138), (0, u "publishThunks"), (5, u "sp"), (2, u "depth"), (2, u "runSteps"), (2, u "runRec"), (2, u "runPc"), (3, u "()I"), (3, u "(I)I"), (2, u "lastSize"), (2, u "lastResult"), (19, u "(I)Z"), (6, u "SYMBOLS"), (2, u "GLOBALS"), (0, u "MAX_DATA"), (1, u "MAX_FUNCS"), (0, u "MAX_CODE"), (1, u "STACK"), (1, u "CALL_DEPTH"), (0, u "STEP_LIMIT"), (1, u "OP_PUSH"), (1, u "OP_LOADG"), (1, u "OP_STOREG"), (1, u "OP_LOADD"), (0, u "OP_STORED"), (1, u "OP_ADD"), (1, u "OP_SUB"), (1, u "OP_MUL"), (0, u "OP_DUP"), (1, u "OP_JMP"), (1, u "OP_JZ"), (1, u "OP_CALL"), (1, u "OP_RET"), (1, u "OP_LT"), (1, u "OP_DROP"), (1, u "C_OK"), (1, u "C_NO_BUFFER"), (0, u "C_BAD_JUMP"), (0, u "C_BAD_DATA"), (0, u "C_DUPLICATE"), (0, u "R_OK"), (0, u "R_NO_ENTRY"), (0, u "R_UNDEFINED"), (0, u "R_UNDERFLOW"), (0, u "R_OVERFLOW"), (0, u "R_TOO_DEEP"), (0, u "R_OUT_OF_STEPS"), (0, u "(II)V"), (3, u "beginModule"), (1, u "addFunction"), (0, u "emit"), (0, u "commit"), (7, u "definedIn"), (0, u "codeSize"), (0, u "bufferSize")] 2

def k2c0 : Code := { maxStack := 3, maxLocals := 4, code := prog_1_method_1_code, exceptionTable := #[], attributes := #[] }
def k2m0 : Method := { name := "<init>", desc := "(II)V", sig := { parameters := [.int, .int], returnType := none }, accessFlags := 1, code := some k2c0 }
def k2c1 : Code := { maxStack := 2, maxLocals := 2, code := prog_1_method_2_code, exceptionTable := #[], attributes := #[] }
def k2m1 : Method := { name := "beginModule", desc := "(I)Z", sig := { parameters := [.int], returnType := some .boolean }, accessFlags := 1, code := some k2c1 }
def k2c2 : Code := { maxStack := 3, maxLocals := 3, code := prog_1_method_4_code, exceptionTable := #[], attributes := #[] }
def k2m2 : Method := { name := "addFunction", desc := "(I)Z", sig := { parameters := [.int], returnType := some .boolean }, accessFlags := 1, code := some k2c2 }
def k2c3 : Code := { maxStack := 4, maxLocals := 3, code := prog_1_method_5_code, exceptionTable := #[], attributes := #[] }
def k2m3 : Method := { name := "emit", desc := "(II)Z", sig := { parameters := [.int, .int], returnType := some .boolean }, accessFlags := 1, code := some k2c3 }
def k2c4 : Code := { maxStack := 2, maxLocals := 3, code := prog_1_method_6_code, exceptionTable := #[], attributes := #[] }
def k2m4 : Method := { name := "argOk", desc := "(II)Z", sig := { parameters := [.int, .int], returnType := some .boolean }, accessFlags := 2, code := some k2c4 }
def k2c5 : Code := { maxStack := 2, maxLocals := 1, code := prog_1_method_7_code, exceptionTable := #[], attributes := #[] }
def k2m5 : Method := { name := "commit", desc := "()I", sig := { parameters := [], returnType := some .int }, accessFlags := 1, code := some k2c5 }
def k2c6 : Code := { maxStack := 2, maxLocals := 6, code := prog_1_method_8_code, exceptionTable := #[], attributes := #[] }
def k2m6 : Method := { name := "hasBadJump", desc := "()Z", sig := { parameters := [], returnType := some .boolean }, accessFlags := 2, code := some k2c6 }
def k2c7 : Code := { maxStack := 2, maxLocals := 3, code := prog_1_method_9_code, exceptionTable := #[], attributes := #[] }
def k2m7 : Method := { name := "hasBadData", desc := "()Z", sig := { parameters := [], returnType := some .boolean }, accessFlags := 2, code := some k2c7 }
def k2c8 : Code := { maxStack := 3, maxLocals := 3, code := prog_1_method_10_code, exceptionTable := #[], attributes := #[] }
def k2m8 : Method := { name := "hasDuplicate", desc := "()Z", sig := { parameters := [], returnType := some .boolean }, accessFlags := 2, code := some k2c8 }
def k2c9 : Code := { maxStack := 4, maxLocals := 4, code := prog_1_method_11_code, exceptionTable := #[], attributes := #[] }
def k2m9 : Method := { name := "installBuffer", desc := "()V", sig := { parameters := [], returnType := none }, accessFlags := 2, code := some k2c9 }
def k2c10 : Code := { maxStack := 3, maxLocals := 4, code := prog_1_method_12_code, exceptionTable := #[], attributes := #[] }
def k2m10 : Method := { name := "clearSymbols", desc := "(I)V", sig := { parameters := [.int], returnType := none }, accessFlags := 2, code := some k2c10 }
def k2c11 : Code := { maxStack := 4, maxLocals := 5, code := prog_1_method_13_code, exceptionTable := #[], attributes := #[] }
def k2m11 : Method := { name := "linkSlot", desc := "(I)V", sig := { parameters := [.int], returnType := none }, accessFlags := 2, code := some k2c11 }
def k2c12 : Code := { maxStack := 3, maxLocals := 4, code := prog_1_method_14_code, exceptionTable := #[], attributes := #[] }
def k2m12 : Method := { name := "publishThunks", desc := "(I)V", sig := { parameters := [.int], returnType := none }, accessFlags := 2, code := some k2c12 }
def k2c13 : Code := { maxStack := 3, maxLocals := 8, code := prog_1_method_16_code, exceptionTable := #[], attributes := #[] }
def k2m13 : Method := { name := "placeFunction", desc := "(I)V", sig := { parameters := [.int], returnType := none }, accessFlags := 2, code := some k2c13 }
def k2c14 : Code := { maxStack := 2, maxLocals := 2, code := prog_1_method_35_code, exceptionTable := #[], attributes := #[] }
def k2m14 : Method := { name := "definedIn", desc := "(I)I", sig := { parameters := [.int], returnType := some .int }, accessFlags := 1, code := some k2c14 }
def k2c15 : Code := { maxStack := 2, maxLocals := 2, code := prog_1_method_36_code, exceptionTable := #[], attributes := #[] }
def k2m15 : Method := { name := "codeSize", desc := "(I)I", sig := { parameters := [.int], returnType := some .int }, accessFlags := 1, code := some k2c15 }
def k2c16 : Code := { maxStack := 1, maxLocals := 1, code := prog_1_method_37_code, exceptionTable := #[], attributes := #[] }
def k2m16 : Method := { name := "bufferSize", desc := "()I", sig := { parameters := [], returnType := some .int }, accessFlags := 1, code := some k2c16 }
/-- IncrLinker -/
def k2 : Class := { plain "IncrLinker" (some 0) with
  accessFlags := 49
  interfaces := #[]
  cf := some (fileOf pool2 8 #[] #[{ accessFlags := 1, nameIndex := 5, descriptorIndex := 267, attributes := #[] }, { accessFlags := 1, nameIndex := 271, descriptorIndex := 205, attributes := #[] }, { accessFlags := 1, nameIndex := 273, descriptorIndex := 205, attributes := #[] }, { accessFlags := 1, nameIndex := 274, descriptorIndex := 121, attributes := #[] }, { accessFlags := 2, nameIndex := 120, descriptorIndex := 121, attributes := #[] }, { accessFlags := 1, nameIndex := 275, descriptorIndex := 175, attributes := #[] }, { accessFlags := 2, nameIndex := 124, descriptorIndex := 125, attributes := #[] }, { accessFlags := 2, nameIndex := 128, descriptorIndex := 125, attributes := #[] }, { accessFlags := 2, nameIndex := 131, descriptorIndex := 125, attributes := #[] }, { accessFlags := 2, nameIndex := 134, descriptorIndex := 6, attributes := #[] }, { accessFlags := 2, nameIndex := 141, descriptorIndex := 138, attributes := #[] }, { accessFlags := 2, nameIndex := 137, descriptorIndex := 138, attributes := #[] }, { accessFlags := 2, nameIndex := 153, descriptorIndex := 138, attributes := #[] }, { accessFlags := 2, nameIndex := 144, descriptorIndex := 138, attributes := #[] }, { accessFlags := 1, nameIndex := 283, descriptorIndex := 179, attributes := #[] }, { accessFlags := 1, nameIndex := 284, descriptorIndex := 179, attributes := #[] }, { accessFlags := 1, nameIndex := 285, descriptorIndex := 175, attributes := #[] }] 49 2 #[] #[{ accessFlags := 25, nameIndex := 212, descriptorIndex := 68, attributes := #[] }, { accessFlags := 25, nameIndex := 215, descriptorIndex := 68, attributes := #[] }, { accessFlags := 25, nameIndex := 216, descriptorIndex := 68, attributes := #[] }, { accessFlags := 25, nameIndex := 218, descriptorIndex := 68, attributes := #[] }, { accessFlags := 25, nameIndex := 219, descriptorIndex := 68, attributes := #[] }, { accessFlags := 25, nameIndex := 221, descriptorIndex := 68, attributes := #[] }, { accessFlags := 25, nameIndex := 223, descriptorIndex := 68, attributes := #[] }, { accessFlags := 25, nameIndex := 224, descriptorIndex := 68, attributes := #[] }, { accessFlags := 25, nameIndex := 226, descriptorIndex := 68, attributes := #[] }, { accessFlags := 25, nameIndex := 228, descriptorIndex := 68, attributes := #[] }, { accessFlags := 25, nameIndex := 230, descriptorIndex := 68, attributes := #[] }, { accessFlags := 25, nameIndex := 232, descriptorIndex := 68, attributes := #[] }, { accessFlags := 25, nameIndex := 233, descriptorIndex := 68, attributes := #[] }, { accessFlags := 25, nameIndex := 235, descriptorIndex := 68, attributes := #[] }, { accessFlags := 25, nameIndex := 237, descriptorIndex := 68, attributes := #[] }, { accessFlags := 25, nameIndex := 239, descriptorIndex := 68, attributes := #[] }, { accessFlags := 25, nameIndex := 240, descriptorIndex := 68, attributes := #[] }, { accessFlags := 25, nameIndex := 242, descriptorIndex := 68, attributes := #[] }, { accessFlags := 25, nameIndex := 244, descriptorIndex := 68, attributes := #[] }, { accessFlags := 25, nameIndex := 246, descriptorIndex := 68, attributes := #[] }, { accessFlags := 25, nameIndex := 248, descriptorIndex := 68, attributes := #[] }, { accessFlags := 25, nameIndex := 250, descriptorIndex := 68, attributes := #[] }, { accessFlags := 25, nameIndex := 252, descriptorIndex := 68, attributes := #[] }, { accessFlags := 25, nameIndex := 254, descriptorIndex := 68, attributes := #[] }, { accessFlags := 25, nameIndex := 256, descriptorIndex := 68, attributes := #[] }, { accessFlags := 25, nameIndex := 257, descriptorIndex := 68, attributes := #[] }, { accessFlags := 25, nameIndex := 258, descriptorIndex := 68, attributes := #[] }, { accessFlags := 25, nameIndex := 259, descriptorIndex := 68, attributes := #[] }, { accessFlags := 25, nameIndex := 260, descriptorIndex := 68, attributes := #[] }, { accessFlags := 25, nameIndex := 261, descriptorIndex := 68, attributes := #[] }, { accessFlags := 25, nameIndex := 262, descriptorIndex := 68, attributes := #[] }, { accessFlags := 25, nameIndex := 263, descriptorIndex := 68, attributes := #[] }, { accessFlags := 25, nameIndex := 264, descriptorIndex := 68, attributes := #[] }, { accessFlags := 25, nameIndex := 265, descriptorIndex := 68, attributes := #[] }, { accessFlags := 25, nameIndex := 266, descriptorIndex := 68, attributes := #[] }, { accessFlags := 2, nameIndex := 98, descriptorIndex := 68, attributes := #[] }, { accessFlags := 2, nameIndex := 101, descriptorIndex := 68, attributes := #[] }, { accessFlags := 2, nameIndex := 11, descriptorIndex := 12, attributes := #[] }, { accessFlags := 2, nameIndex := 15, descriptorIndex := 16, attributes := #[] }, { accessFlags := 2, nameIndex := 19, descriptorIndex := 16, attributes := #[] }, { accessFlags := 2, nameIndex := 22, descriptorIndex := 16, attributes := #[] }, { accessFlags := 2, nameIndex := 25, descriptorIndex := 16, attributes := #[] }, { accessFlags := 2, nameIndex := 28, descriptorIndex := 16, attributes := #[] }, { accessFlags := 2, nameIndex := 31, descriptorIndex := 16, attributes := #[] }, { accessFlags := 2, nameIndex := 34, descriptorIndex := 16, attributes := #[] }, { accessFlags := 2, nameIndex := 37, descriptorIndex := 16, attributes := #[] }, { accessFlags := 2, nameIndex := 40, descriptorIndex := 16, attributes := #[] }, { accessFlags := 2, nameIndex := 43, descriptorIndex := 16, attributes := #[] }, { accessFlags := 2, nameIndex := 46, descriptorIndex := 16, attributes := #[] }, { accessFlags := 2, nameIndex := 104, descriptorIndex := 105, attributes := #[] }, { accessFlags := 2, nameIndex := 108, descriptorIndex := 68, attributes := #[] }, { accessFlags := 2, nameIndex := 111, descriptorIndex := 68, attributes := #[] }, { accessFlags := 2, nameIndex := 114, descriptorIndex := 68, attributes := #[] }, { accessFlags := 2, nameIndex := 117, descriptorIndex := 68, attributes := #[] }, { accessFlags := 2, nameIndex := 49, descriptorIndex := 16, attributes := #[] }, { accessFlags := 2, nameIndex := 52, descriptorIndex := 16, attributes := #[] }, { accessFlags := 2, nameIndex := 55, descriptorIndex := 16, attributes := #[] }, { accessFlags := 2, nameIndex := 58, descriptorIndex := 16, attributes := #[] }, { accessFlags := 2, nameIndex := 61, descriptorIndex := 16, attributes := #[] }, { accessFlags := 2, nameIndex := 64, descriptorIndex := 16, attributes := #[] }, { accessFlags := 2, nameIndex := 67, descriptorIndex := 68, attributes := #[] }, { accessFlags := 2, nameIndex := 71, descriptorIndex := 16, attributes := #[] }, { accessFlags := 2, nameIndex := 74, descriptorIndex := 16, attributes := #[] }, { accessFlags := 2, nameIndex := 77, descriptorIndex := 16, attributes := #[] }, { accessFlags := 2, nameIndex := 80, descriptorIndex := 16, attributes := #[] }, { accessFlags := 2, nameIndex := 147, descriptorIndex := 68, attributes := #[] }, { accessFlags := 2, nameIndex := 83, descriptorIndex := 16, attributes := #[] }, { accessFlags := 2, nameIndex := 86, descriptorIndex := 16, attributes := #[] }, { accessFlags := 2, nameIndex := 89, descriptorIndex := 16, attributes := #[] }, { accessFlags := 2, nameIndex := 159, descriptorIndex := 68, attributes := #[] }, { accessFlags := 2, nameIndex := 92, descriptorIndex := 16, attributes := #[] }, { accessFlags := 2, nameIndex := 95, descriptorIndex := 16, attributes := #[] }, { accessFlags := 2, nameIndex := 162, descriptorIndex := 68, attributes := #[] }, { accessFlags := 2, nameIndex := 168, descriptorIndex := 68, attributes := #[] }, { accessFlags := 2, nameIndex := 171, descriptorIndex := 68, attributes := #[] }, { accessFlags := 2, nameIndex := 165, descriptorIndex := 68, attributes := #[] }, { accessFlags := 2, nameIndex := 185, descriptorIndex := 68, attributes := #[] }, { accessFlags := 2, nameIndex := 182, descriptorIndex := 68, attributes := #[] }])
  fields := #[{ name := "SYMBOLS", type := .int, accessFlags := 25, slot := 0, constantValue := 0 }, { name := "GLOBALS", type := .int, accessFlags := 25, slot := 1, constantValue := 0 }, { name := "MAX_DATA", type := .int, accessFlags := 25, slot := 2, constantValue := 0 }, { name := "MAX_FUNCS", type := .int, accessFlags := 25, slot := 3, constantValue := 0 }, { name := "MAX_CODE", type := .int, accessFlags := 25, slot := 4, constantValue := 0 }, { name := "STACK", type := .int, accessFlags := 25, slot := 5, constantValue := 0 }, { name := "CALL_DEPTH", type := .int, accessFlags := 25, slot := 6, constantValue := 0 }, { name := "STEP_LIMIT", type := .int, accessFlags := 25, slot := 7, constantValue := 0 }, { name := "OP_PUSH", type := .int, accessFlags := 25, slot := 8, constantValue := 0 }, { name := "OP_LOADG", type := .int, accessFlags := 25, slot := 9, constantValue := 0 }, { name := "OP_STOREG", type := .int, accessFlags := 25, slot := 10, constantValue := 0 }, { name := "OP_LOADD", type := .int, accessFlags := 25, slot := 11, constantValue := 0 }, { name := "OP_STORED", type := .int, accessFlags := 25, slot := 12, constantValue := 0 }, { name := "OP_ADD", type := .int, accessFlags := 25, slot := 13, constantValue := 0 }, { name := "OP_SUB", type := .int, accessFlags := 25, slot := 14, constantValue := 0 }, { name := "OP_MUL", type := .int, accessFlags := 25, slot := 15, constantValue := 0 }, { name := "OP_DUP", type := .int, accessFlags := 25, slot := 16, constantValue := 0 }, { name := "OP_JMP", type := .int, accessFlags := 25, slot := 17, constantValue := 0 }, { name := "OP_JZ", type := .int, accessFlags := 25, slot := 18, constantValue := 0 }, { name := "OP_CALL", type := .int, accessFlags := 25, slot := 19, constantValue := 0 }, { name := "OP_RET", type := .int, accessFlags := 25, slot := 20, constantValue := 0 }, { name := "OP_LT", type := .int, accessFlags := 25, slot := 21, constantValue := 0 }, { name := "OP_DROP", type := .int, accessFlags := 25, slot := 22, constantValue := 0 }, { name := "C_OK", type := .int, accessFlags := 25, slot := 23, constantValue := 0 }, { name := "C_NO_BUFFER", type := .int, accessFlags := 25, slot := 24, constantValue := 0 }, { name := "C_BAD_JUMP", type := .int, accessFlags := 25, slot := 25, constantValue := 0 }, { name := "C_BAD_DATA", type := .int, accessFlags := 25, slot := 26, constantValue := 0 }, { name := "C_DUPLICATE", type := .int, accessFlags := 25, slot := 27, constantValue := 0 }, { name := "R_OK", type := .int, accessFlags := 25, slot := 28, constantValue := 0 }, { name := "R_NO_ENTRY", type := .int, accessFlags := 25, slot := 29, constantValue := 0 }, { name := "R_UNDEFINED", type := .int, accessFlags := 25, slot := 30, constantValue := 0 }, { name := "R_UNDERFLOW", type := .int, accessFlags := 25, slot := 31, constantValue := 0 }, { name := "R_OVERFLOW", type := .int, accessFlags := 25, slot := 32, constantValue := 0 }, { name := "R_TOO_DEEP", type := .int, accessFlags := 25, slot := 33, constantValue := 0 }, { name := "R_OUT_OF_STEPS", type := .int, accessFlags := 25, slot := 34, constantValue := 0 }, { name := "nSlots", type := .int, accessFlags := 2, slot := 0, constantValue := 0 }, { name := "slack", type := .int, accessFlags := 2, slot := 1, constantValue := 0 }, { name := "used", type := (.array .boolean), accessFlags := 2, slot := 2, constantValue := 0 }, { name := "dataCount", type := (.array .int), accessFlags := 2, slot := 3, constantValue := 0 }, { name := "dataInit", type := (.array .int), accessFlags := 2, slot := 4, constantValue := 0 }, { name := "dataCur", type := (.array .int), accessFlags := 2, slot := 5, constantValue := 0 }, { name := "funcCount", type := (.array .int), accessFlags := 2, slot := 6, constantValue := 0 }, { name := "funcSym", type := (.array .int), accessFlags := 2, slot := 7, constantValue := 0 }, { name := "funcLen", type := (.array .int), accessFlags := 2, slot := 8, constantValue := 0 }, { name := "funcOff", type := (.array .int), accessFlags := 2, slot := 9, constantValue := 0 }, { name := "codeOp", type := (.array .int), accessFlags := 2, slot := 10, constantValue := 0 }, { name := "codeArg", type := (.array .int), accessFlags := 2, slot := 11, constantValue := 0 }, { name := "modCode", type := (.array .int), accessFlags := 2, slot := 12, constantValue := 0 }, { name := "symSlot", type := (.array .int), accessFlags := 2, slot := 13, constantValue := 0 }, { name := "bufOpen", type := .boolean, accessFlags := 2, slot := 14, constantValue := 0 }, { name := "bufSlot", type := .int, accessFlags := 2, slot := 15, constantValue := 0 }, { name := "bufDataCount", type := .int, accessFlags := 2, slot := 16, constantValue := 0 }, { name := "bufFuncCount", type := .int, accessFlags := 2, slot := 17, constantValue := 0 }, { name := "bufCode", type := .int, accessFlags := 2, slot := 18, constantValue := 0 }, { name := "bufData", type := (.array .int), accessFlags := 2, slot := 19, constantValue := 0 }, { name := "bufFuncSym", type := (.array .int), accessFlags := 2, slot := 20, constantValue := 0 }, { name := "bufFuncLen", type := (.array .int), accessFlags := 2, slot := 21, constantValue := 0 }, { name := "bufFuncOff", type := (.array .int), accessFlags := 2, slot := 22, constantValue := 0 }, { name := "bufOp", type := (.array .int), accessFlags := 2, slot := 23, constantValue := 0 }, { name := "bufArg", type := (.array .int), accessFlags := 2, slot := 24, constantValue := 0 }, { name := "imageCap", type := .int, accessFlags := 2, slot := 25, constantValue := 0 }, { name := "imgOp", type := (.array .int), accessFlags := 2, slot := 26, constantValue := 0 }, { name := "imgArg", type := (.array .int), accessFlags := 2, slot := 27, constantValue := 0 }, { name := "recBase", type := (.array .int), accessFlags := 2, slot := 28, constantValue := 0 }, { name := "recCap", type := (.array .int), accessFlags := 2, slot := 29, constantValue := 0 }, { name := "imgTop", type := .int, accessFlags := 2, slot := 30, constantValue := 0 }, { name := "thunk", type := (.array .int), accessFlags := 2, slot := 31, constantValue := 0 }, { name := "globals", type := (.array .int), accessFlags := 2, slot := 32, constantValue := 0 }, { name := "stack", type := (.array .int), accessFlags := 2, slot := 33, constantValue := 0 }, { name := "sp", type := .int, accessFlags := 2, slot := 34, constantValue := 0 }, { name := "retRec", type := (.array .int), accessFlags := 2, slot := 35, constantValue := 0 }, { name := "retPc", type := (.array .int), accessFlags := 2, slot := 36, constantValue := 0 }, { name := "depth", type := .int, accessFlags := 2, slot := 37, constantValue := 0 }, { name := "runRec", type := .int, accessFlags := 2, slot := 38, constantValue := 0 }, { name := "runPc", type := .int, accessFlags := 2, slot := 39, constantValue := 0 }, { name := "runSteps", type := .int, accessFlags := 2, slot := 40, constantValue := 0 }, { name := "lastResult", type := .int, accessFlags := 2, slot := 41, constantValue := 0 }, { name := "lastSize", type := .int, accessFlags := 2, slot := 42, constantValue := 0 }]
  methods := #[k2m0, k2m1, k2m2, k2m3, k2m4, k2m5, k2m6, k2m7, k2m8, k2m9, k2m10, k2m11, k2m12, k2m13, k2m14, k2m15, k2m16]
  instanceTypes := #[.int, .int, (.array .boolean), (.array .int), (.array .int), (.array .int), (.array .int), (.array .int), (.array .int), (.array .int), (.array .int), (.array .int), (.array .int), (.array .int), .boolean, .int, .int, .int, .int, (.array .int), (.array .int), (.array .int), (.array .int), (.array .int), (.array .int), .int, (.array .int), (.array .int), (.array .int), (.array .int), .int, (.array .int), (.array .int), (.array .int), .int, (.array .int), (.array .int), .int, .int, .int, .int, .int, .int]
  staticTypes := #[.int, .int, .int, .int, .int, .int, .int, .int, .int, .int, .int, .int, .int, .int, .int, .int, .int, .int, .int, .int, .int, .int, .int, .int, .int, .int, .int, .int, .int, .int, .int, .int, .int, .int, .int]
  resolved := Array.replicate 288 none
  statics := none }

def pool3 : Array CpInfo := pool [(1, u "java/lang/Cloneable"), (0, .class_ 1), (0, u "java/lang/Object"), (0, .class_ 3)] 3

/-- java/lang/Cloneable -/
def k3 : Class := { plain "java/lang/Cloneable" (some 0) with
  accessFlags := 1537
  interfaces := #[]
  cf := some (fileOf pool3 2 #[] #[] 1537 4 #[] #[])
  fields := #[]
  methods := #[]
  instanceTypes := #[]
  staticTypes := #[]
  resolved := Array.replicate 8 none
  statics := none }

def pool4 : Array CpInfo := pool [(1, u "java/io/Serializable"), (0, .class_ 1), (0, u "java/lang/Object"), (0, .class_ 3)] 3

/-- java/io/Serializable -/
def k4 : Class := { plain "java/io/Serializable" (some 0) with
  accessFlags := 1537
  interfaces := #[]
  cf := some (fileOf pool4 2 #[] #[] 1537 4 #[] #[])
  fields := #[]
  methods := #[]
  instanceTypes := #[]
  staticTypes := #[]
  resolved := Array.replicate 8 none
  statics := none }

/-- the primitive boolean -/
def k5 : Class := { plain "boolean" none with kind := .primitive 'Z', accessFlags := 0x411 }
/-- [Z -/
def k6 : Class := { plain "[Z" (some 0) with kind := .array 5 .boolean, interfaces := #[3, 4], accessFlags := 1041 }

/-- the primitive byte -/
def k7 : Class := { plain "byte" none with kind := .primitive 'B', accessFlags := 0x411 }
/-- [B -/
def k8 : Class := { plain "[B" (some 0) with kind := .array 7 .byte, interfaces := #[3, 4], accessFlags := 1041 }

/-- the primitive int -/
def k9 : Class := { plain "int" none with kind := .primitive 'I', accessFlags := 0x411 }
/-- [I -/
def k10 : Class := { plain "[I" (some 0) with kind := .array 9 .int, interfaces := #[3, 4], accessFlags := 1041 }

def heap : Heap := #[]
def classes : Array Class := #[k0, k1, k2, k3, k4, k5, k6, k7, k8, k9, k10]
def interned : List (Array UInt16 × Addr) := []
def slotsUsed : Nat := 0
def theMethod : MethodId := ⟨1, 1⟩
def args0 : Array Value := #[.int 5, .int 5, .int 5, .int 5, .int 5]
def aboutOver (below : List Frame) : State where
  vm := { classes := classes, interned := interned.toArray }
  heap := heap
  slotsUsed := slotsUsed
  threads := #[{ frames := .invoking theMethod args0 :: below }]
def below0 : List Frame := [.native { method := ⟨0, 0⟩, args := #[] }]
def about1 : State := aboutOver below0
def p0 : Program := .bare "" "" ""
def e0 : Env := launch0.env 0 0 0
theorem w_frames : about1.frames = Frame.invoking theMethod args0 :: below0 := rfl
set_option maxRecDepth 65536 in
theorem w_args : argsFit about1.vm theMethod args0 = true := by decide +kernel
set_option maxRecDepth 65536 in
theorem w_heap : heapFits about1 = true := by decide +kernel
set_option maxRecDepth 65536 in
theorem w_runnable : about1.curStatus? = some .runnable := by decide +kernel
set_option maxRecDepth 65536 in
theorem w_alone : about1.alone = true := by decide +kernel
set_option maxRecDepth 65536 in
theorem w_named : about1.methodNamed? x = some theMethod := by decide +kernel
set_option maxRecDepth 65536 in
theorem w_hears : about1.hears theMethod below0 = true := by decide +kernel
set_option maxRecDepth 65536 in
theorem w_ripe : about1.ripe theMethod args0 below0 = true := by decide +kernel
theorem w_running : about1.status = .running := rfl
set_option maxRecDepth 65536 in
theorem w_room : about1.hasRoom e0.platform room_1 = true :=
  launch0.hasRoom_least _ room_1 (by decide +kernel) (by decide +kernel) (by decide +kernel) (by decide +kernel) (by decide +kernel) (by decide +kernel)
theorem allAtoms_all (ts : List Jvm.Cond) (a : Array Jvm.Value) (st : Jvm.State) : (allAtoms ts).before a st = ts.all (fun c => c.before a st) := by
  induction ts with
  | nil => rfl
  | cons c t ih =>
    show (Jvm.Cond.and c (allAtoms t)).before a st = _
    rw [Jvm.Cond.before_and, ih, List.all_cons]
def words1 : List Jvm.Cond := Jvm.Cond.code x code maxLocals ret :: tables_1
/-- a 'code' word, met by the world's own term for the bytes: nothing is compared byte by byte -/
theorem code_word {y : MethodName} {bytes : ByteArray} {mx : Nat} {rt : Option FieldType} {a : Array Value} {s : State} {m : MethodId} {meth : Method} {c : Code} (h1 : s.methodNamed? y = some m) (h2 : s.vm.method? m = some meth) (h3 : meth.code = some c) (h4 : c.code = bytes)
    (h5 : (c.maxLocals == mx && c.exceptionTable.isEmpty && decide (c.maxStack ≤ mostOperands) && decide (meth.sig.returnType = rt) && !meth.locks && decide (parseMethodDescriptor y.desc = some meth.sig)) = true) : (Jvm.Cond.code y bytes mx rt).before a s = true := by
  simp only [Bool.and_eq_true, beq_iff_eq, Bool.not_eq_true', decide_eq_true_eq] at h5
  obtain ⟨⟨⟨⟨⟨g1, g2⟩, g3⟩, g4⟩, g5⟩, g6⟩ := h5
  simp [Cond.before, Cond.holds, Cond.value, h1, h2, h3, h4, g1, g2, g3, g4, g5, g6]
def isCode : Jvm.Cond → Bool
  | .code _ _ _ _ => true
  | _ => false
theorem all_split {L : List Jvm.Cond} {P : Jvm.Cond → Bool} (h1 : L.all (fun c => isCode c || P c) = true) (h2 : ∀ c ∈ L.filter isCode, P c = true) : L.all P = true := by
  refine List.all_eq_true.mpr fun c hc => ?_
  have h := List.all_eq_true.mp h1 c hc
  rcases Bool.eq_false_or_eq_true (isCode c) with hi | hi
  · exact h2 c (List.mem_filter.mpr ⟨hc, hi⟩)
  · simpa [hi] using h
set_option maxRecDepth 65536 in
theorem w_c0 : (Jvm.Cond.code x code maxLocals ret).before args0 about1 = true := code_word (m := ⟨1, 1⟩) (meth := k1m1) (c := k1c1) (by decide +kernel) rfl rfl rfl (by decide +kernel)
set_option maxRecDepth 65536 in
theorem w_c1 : (Jvm.Cond.code ({ cls := "IncrLinker", name := "<init>", desc := "(II)V" } : Jvm.MethodName) prog_1_method_1_code (4 : Nat) (Option.none : Option Jvm.ClassFile.FieldType)).before args0 about1 = true := code_word (m := ⟨2, 0⟩) (meth := k2m0) (c := k2c0) (by decide +kernel) rfl rfl rfl (by decide +kernel)
set_option maxRecDepth 65536 in
theorem w_c2 : (Jvm.Cond.code ({ cls := "java/lang/Object", name := "<init>", desc := "()V" } : Jvm.MethodName) object_method_1_code (1 : Nat) (Option.none : Option Jvm.ClassFile.FieldType)).before args0 about1 = true := code_word (m := ⟨0, 0⟩) (meth := k0m0) (c := k0c0) (by decide +kernel) rfl rfl rfl (by decide +kernel)
set_option maxRecDepth 65536 in
theorem w_c3 : (Jvm.Cond.code ({ cls := "IncrLinker", name := "beginModule", desc := "(I)Z" } : Jvm.MethodName) prog_1_method_2_code (2 : Nat) (Option.some Jvm.ClassFile.FieldType.boolean)).before args0 about1 = true := code_word (m := ⟨2, 1⟩) (meth := k2m1) (c := k2c1) (by decide +kernel) rfl rfl rfl (by decide +kernel)
set_option maxRecDepth 65536 in
theorem w_c4 : (Jvm.Cond.code ({ cls := "IncrLinker", name := "addFunction", desc := "(I)Z" } : Jvm.MethodName) prog_1_method_4_code (3 : Nat) (Option.some Jvm.ClassFile.FieldType.boolean)).before args0 about1 = true := code_word (m := ⟨2, 2⟩) (meth := k2m2) (c := k2c2) (by decide +kernel) rfl rfl rfl (by decide +kernel)
set_option maxRecDepth 65536 in
theorem w_c5 : (Jvm.Cond.code ({ cls := "IncrLinker", name := "emit", desc := "(II)Z" } : Jvm.MethodName) prog_1_method_5_code (3 : Nat) (Option.some Jvm.ClassFile.FieldType.boolean)).before args0 about1 = true := code_word (m := ⟨2, 3⟩) (meth := k2m3) (c := k2c3) (by decide +kernel) rfl rfl rfl (by decide +kernel)
set_option maxRecDepth 65536 in
theorem w_c6 : (Jvm.Cond.code ({ cls := "IncrLinker", name := "argOk", desc := "(II)Z" } : Jvm.MethodName) prog_1_method_6_code (3 : Nat) (Option.some Jvm.ClassFile.FieldType.boolean)).before args0 about1 = true := code_word (m := ⟨2, 4⟩) (meth := k2m4) (c := k2c4) (by decide +kernel) rfl rfl rfl (by decide +kernel)
set_option maxRecDepth 65536 in
theorem w_c7 : (Jvm.Cond.code ({ cls := "IncrLinker", name := "bufferSize", desc := "()I" } : Jvm.MethodName) prog_1_method_37_code (1 : Nat) (Option.some Jvm.ClassFile.FieldType.int)).before args0 about1 = true := code_word (m := ⟨2, 16⟩) (meth := k2m16) (c := k2c16) (by decide +kernel) rfl rfl rfl (by decide +kernel)
set_option maxRecDepth 65536 in
theorem w_c8 : (Jvm.Cond.code ({ cls := "IncrLinker", name := "commit", desc := "()I" } : Jvm.MethodName) prog_1_method_7_code (1 : Nat) (Option.some Jvm.ClassFile.FieldType.int)).before args0 about1 = true := code_word (m := ⟨2, 5⟩) (meth := k2m5) (c := k2c5) (by decide +kernel) rfl rfl rfl (by decide +kernel)
set_option maxRecDepth 65536 in
theorem w_c9 : (Jvm.Cond.code ({ cls := "IncrLinker", name := "hasBadJump", desc := "()Z" } : Jvm.MethodName) prog_1_method_8_code (6 : Nat) (Option.some Jvm.ClassFile.FieldType.boolean)).before args0 about1 = true := code_word (m := ⟨2, 6⟩) (meth := k2m6) (c := k2c6) (by decide +kernel) rfl rfl rfl (by decide +kernel)
set_option maxRecDepth 65536 in
theorem w_c10 : (Jvm.Cond.code ({ cls := "IncrLinker", name := "hasBadData", desc := "()Z" } : Jvm.MethodName) prog_1_method_9_code (3 : Nat) (Option.some Jvm.ClassFile.FieldType.boolean)).before args0 about1 = true := code_word (m := ⟨2, 7⟩) (meth := k2m7) (c := k2c7) (by decide +kernel) rfl rfl rfl (by decide +kernel)
set_option maxRecDepth 65536 in
theorem w_c11 : (Jvm.Cond.code ({ cls := "IncrLinker", name := "hasDuplicate", desc := "()Z" } : Jvm.MethodName) prog_1_method_10_code (3 : Nat) (Option.some Jvm.ClassFile.FieldType.boolean)).before args0 about1 = true := code_word (m := ⟨2, 8⟩) (meth := k2m8) (c := k2c8) (by decide +kernel) rfl rfl rfl (by decide +kernel)
set_option maxRecDepth 65536 in
theorem w_c12 : (Jvm.Cond.code ({ cls := "IncrLinker", name := "installBuffer", desc := "()V" } : Jvm.MethodName) prog_1_method_11_code (4 : Nat) (Option.none : Option Jvm.ClassFile.FieldType)).before args0 about1 = true := code_word (m := ⟨2, 9⟩) (meth := k2m9) (c := k2c9) (by decide +kernel) rfl rfl rfl (by decide +kernel)
set_option maxRecDepth 65536 in
theorem w_c13 : (Jvm.Cond.code ({ cls := "IncrLinker", name := "clearSymbols", desc := "(I)V" } : Jvm.MethodName) prog_1_method_12_code (4 : Nat) (Option.none : Option Jvm.ClassFile.FieldType)).before args0 about1 = true := code_word (m := ⟨2, 10⟩) (meth := k2m10) (c := k2c10) (by decide +kernel) rfl rfl rfl (by decide +kernel)
set_option maxRecDepth 65536 in
theorem w_c14 : (Jvm.Cond.code ({ cls := "IncrLinker", name := "linkSlot", desc := "(I)V" } : Jvm.MethodName) prog_1_method_13_code (5 : Nat) (Option.none : Option Jvm.ClassFile.FieldType)).before args0 about1 = true := code_word (m := ⟨2, 11⟩) (meth := k2m11) (c := k2c11) (by decide +kernel) rfl rfl rfl (by decide +kernel)
set_option maxRecDepth 65536 in
theorem w_c15 : (Jvm.Cond.code ({ cls := "IncrLinker", name := "placeFunction", desc := "(I)V" } : Jvm.MethodName) prog_1_method_16_code (8 : Nat) (Option.none : Option Jvm.ClassFile.FieldType)).before args0 about1 = true := code_word (m := ⟨2, 13⟩) (meth := k2m13) (c := k2c13) (by decide +kernel) rfl rfl rfl (by decide +kernel)
set_option maxRecDepth 65536 in
theorem w_c16 : (Jvm.Cond.code ({ cls := "IncrLinker", name := "publishThunks", desc := "(I)V" } : Jvm.MethodName) prog_1_method_14_code (4 : Nat) (Option.none : Option Jvm.ClassFile.FieldType)).before args0 about1 = true := code_word (m := ⟨2, 12⟩) (meth := k2m12) (c := k2c12) (by decide +kernel) rfl rfl rfl (by decide +kernel)
set_option maxRecDepth 65536 in
theorem w_c17 : (Jvm.Cond.code ({ cls := "IncrLinker", name := "codeSize", desc := "(I)I" } : Jvm.MethodName) prog_1_method_36_code (2 : Nat) (Option.some Jvm.ClassFile.FieldType.int)).before args0 about1 = true := code_word (m := ⟨2, 15⟩) (meth := k2m15) (c := k2c15) (by decide +kernel) rfl rfl rfl (by decide +kernel)
set_option maxRecDepth 65536 in
theorem w_c18 : (Jvm.Cond.code ({ cls := "IncrLinker", name := "definedIn", desc := "(I)I" } : Jvm.MethodName) prog_1_method_35_code (2 : Nat) (Option.some Jvm.ClassFile.FieldType.int)).before args0 about1 = true := code_word (m := ⟨2, 14⟩) (meth := k2m14) (c := k2c14) (by decide +kernel) rfl rfl rfl (by decide +kernel)
def codes1 : List Jvm.Cond := [Jvm.Cond.code x code maxLocals ret, Jvm.Cond.code ({ cls := "IncrLinker", name := "<init>", desc := "(II)V" } : Jvm.MethodName) prog_1_method_1_code (4 : Nat) (Option.none : Option Jvm.ClassFile.FieldType), Jvm.Cond.code ({ cls := "java/lang/Object", name := "<init>", desc := "()V" } : Jvm.MethodName) object_method_1_code (1 : Nat) (Option.none : Option Jvm.ClassFile.FieldType), Jvm.Cond.code ({ cls := "IncrLinker", name := "beginModule", desc := "(I)Z" } : Jvm.MethodName) prog_1_method_2_code (2 : Nat) (Option.some Jvm.ClassFile.FieldType.boolean), Jvm.Cond.code ({ cls := "IncrLinker", name := "addFunction", desc := "(I)Z" } : Jvm.MethodName) prog_1_method_4_code (3 : Nat) (Option.some Jvm.ClassFile.FieldType.boolean), Jvm.Cond.code ({ cls := "IncrLinker", name := "emit", desc := "(II)Z" } : Jvm.MethodName) prog_1_method_5_code (3 : Nat) (Option.some Jvm.ClassFile.FieldType.boolean), Jvm.Cond.code ({ cls := "IncrLinker", name := "argOk", desc := "(II)Z" } : Jvm.MethodName) prog_1_method_6_code (3 : Nat) (Option.some Jvm.ClassFile.FieldType.boolean), Jvm.Cond.code ({ cls := "IncrLinker", name := "bufferSize", desc := "()I" } : Jvm.MethodName) prog_1_method_37_code (1 : Nat) (Option.some Jvm.ClassFile.FieldType.int), Jvm.Cond.code ({ cls := "IncrLinker", name := "commit", desc := "()I" } : Jvm.MethodName) prog_1_method_7_code (1 : Nat) (Option.some Jvm.ClassFile.FieldType.int), Jvm.Cond.code ({ cls := "IncrLinker", name := "hasBadJump", desc := "()Z" } : Jvm.MethodName) prog_1_method_8_code (6 : Nat) (Option.some Jvm.ClassFile.FieldType.boolean), Jvm.Cond.code ({ cls := "IncrLinker", name := "hasBadData", desc := "()Z" } : Jvm.MethodName) prog_1_method_9_code (3 : Nat) (Option.some Jvm.ClassFile.FieldType.boolean), Jvm.Cond.code ({ cls := "IncrLinker", name := "hasDuplicate", desc := "()Z" } : Jvm.MethodName) prog_1_method_10_code (3 : Nat) (Option.some Jvm.ClassFile.FieldType.boolean), Jvm.Cond.code ({ cls := "IncrLinker", name := "installBuffer", desc := "()V" } : Jvm.MethodName) prog_1_method_11_code (4 : Nat) (Option.none : Option Jvm.ClassFile.FieldType), Jvm.Cond.code ({ cls := "IncrLinker", name := "clearSymbols", desc := "(I)V" } : Jvm.MethodName) prog_1_method_12_code (4 : Nat) (Option.none : Option Jvm.ClassFile.FieldType), Jvm.Cond.code ({ cls := "IncrLinker", name := "linkSlot", desc := "(I)V" } : Jvm.MethodName) prog_1_method_13_code (5 : Nat) (Option.none : Option Jvm.ClassFile.FieldType), Jvm.Cond.code ({ cls := "IncrLinker", name := "placeFunction", desc := "(I)V" } : Jvm.MethodName) prog_1_method_16_code (8 : Nat) (Option.none : Option Jvm.ClassFile.FieldType), Jvm.Cond.code ({ cls := "IncrLinker", name := "publishThunks", desc := "(I)V" } : Jvm.MethodName) prog_1_method_14_code (4 : Nat) (Option.none : Option Jvm.ClassFile.FieldType), Jvm.Cond.code ({ cls := "IncrLinker", name := "codeSize", desc := "(I)I" } : Jvm.MethodName) prog_1_method_36_code (2 : Nat) (Option.some Jvm.ClassFile.FieldType.int), Jvm.Cond.code ({ cls := "IncrLinker", name := "definedIn", desc := "(I)I" } : Jvm.MethodName) prog_1_method_35_code (2 : Nat) (Option.some Jvm.ClassFile.FieldType.int)]
set_option maxRecDepth 65536 in
theorem codes_eq : words1.filter isCode = codes1 := rfl
theorem w_codes : ∀ c ∈ words1.filter isCode, c.before args0 about1 = true := by
  rw [codes_eq]
  intro c hc
  simp only [codes1, List.mem_cons, List.not_mem_nil, or_false] at hc
  rcases hc with rfl | rfl | rfl | rfl | rfl | rfl | rfl | rfl | rfl | rfl | rfl | rfl | rfl | rfl | rfl | rfl | rfl | rfl | rfl
  · exact w_c0
  · exact w_c1
  · exact w_c2
  · exact w_c3
  · exact w_c4
  · exact w_c5
  · exact w_c6
  · exact w_c7
  · exact w_c8
  · exact w_c9
  · exact w_c10
  · exact w_c11
  · exact w_c12
  · exact w_c13
  · exact w_c14
  · exact w_c15
  · exact w_c16
  · exact w_c17
  · exact w_c18
set_option maxRecDepth 65536 in
theorem w_t1 : (words1.take 24).all (fun c => isCode c || c.before args0 about1) = true := by decide +kernel
set_option maxRecDepth 65536 in
theorem w_t2 : ((words1.drop 24).take 24).all (fun c => isCode c || c.before args0 about1) = true := by decide +kernel
set_option maxRecDepth 65536 in
theorem w_t3 : (((words1.drop 24).drop 24).take 24).all (fun c => isCode c || c.before args0 about1) = true := by decide +kernel
set_option maxRecDepth 65536 in
theorem w_t4 : ((((words1.drop 24).drop 24).drop 24).take 24).all (fun c => isCode c || c.before args0 about1) = true := by decide +kernel
set_option maxRecDepth 65536 in
theorem w_t5 : (((((words1.drop 24).drop 24).drop 24).drop 24).take 24).all (fun c => isCode c || c.before args0 about1) = true := by decide +kernel
set_option maxRecDepth 65536 in
theorem w_t6 : ((((((words1.drop 24).drop 24).drop 24).drop 24).drop 24).take 24).all (fun c => isCode c || c.before args0 about1) = true := by decide +kernel
set_option maxRecDepth 65536 in
theorem w_t7 : ((((((words1.drop 24).drop 24).drop 24).drop 24).drop 24).drop 24).all (fun c => isCode c || c.before args0 about1) = true := by decide +kernel
theorem w_tables : (allAtoms (Jvm.Cond.code x code maxLocals ret :: tables_1)).before args0 about1 = true := by
  rw [allAtoms_all]
  show words1.all (fun c => c.before args0 about1) = true
  refine all_split ?_ w_codes
  rw [← List.take_append_drop 24 words1, List.all_append, w_t1, ← List.take_append_drop 24 (words1.drop 24), List.all_append, w_t2, ← List.take_append_drop 24 ((words1.drop 24).drop 24), List.all_append, w_t3, ← List.take_append_drop 24 (((words1.drop 24).drop 24).drop 24), List.all_append, w_t4, ← List.take_append_drop 24 ((((words1.drop 24).drop 24).drop 24).drop 24), List.all_append, w_t5, ← List.take_append_drop 24 (((((words1.drop 24).drop 24).drop 24).drop 24).drop 24), List.all_append, w_t6, w_t7]
  rfl
set_option maxRecDepth 65536 in
theorem w_case : (Jvm.Cond.and given_1 narrow_1).before args0 about1 = true := by decide +kernel
theorem w_applies : (headSpec (Jvm.Cond.code x code maxLocals ret :: tables_1) room_1).applies x e0.platform about1 = true :=
  (Spec.applies_iff w_frames).mpr ⟨w_running, w_runnable, w_alone, w_named, w_hears, w_ripe, w_room, w_tables⟩
theorem atStart : AtStart classFile x code maxLocals ret World_1 tables_1 room_1 Calls_1 rest_1 Pre_1 launch0 p0 e0 about1 theMethod args0 below0 :=
  ⟨lists_1, trivial, launch0.admits_env _ _ _, launch0.least_env, fairChoices_fair.cas, fairChoices_fair.clock, w_frames, w_args, w_heap, w_applies, trivial, trivial, w_case⟩
end start1
theorem witness_1 : WitnessClaimed_1 := ⟨start1.p0, start1.e0, start1.about1, start1.theMethod, start1.args0, start1.below0, start1.atStart⟩
end Jvm.Pilot.@@N@@
