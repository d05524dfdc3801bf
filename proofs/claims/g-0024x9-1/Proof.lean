import JvmDerived
import JvmDerived.Pilot.@@N@@Statement
import JvmDerived.Pilot.@@N@@Code
set_option linter.unusedVariables false
set_option linter.unusedSimpArgs false
@@BLOCK:NumsL.lean.txt@@
@@BLOCK:Masks.lean.txt@@
namespace Jvm.OwnMini
open Jvm Jvm.ClassFile Sem Op Lib Jvm.Free Jvm.Stand Jvm.LawKit Jvm.RoadKit
/-! A small machine over plain integers. A value: an int, a long or a reference (a cell's number). -/
abbrev OV := Sum Int (Sum Int Nat)
abbrev vi (z : Int) : OV := .inl z
abbrev vl (z : Int) : OV := .inr (.inl z)
abbrev vr (k : Nat) : OV := .inr (.inr k)
/-- an object's memory: cell (0: its scalar fields; j: its j-th array), index -/
abbrev OMem := Nat → Int → Int
abbrev OLs := List (Option OV)
def w32 (z : Int) : Int := (z + 2147483648) % 4294967296 - 2147483648
def w64 (z : Int) : Int := (z + 9223372036854775808) % 18446744073709551616 - 9223372036854775808
def and32 (a b : Int) : Int := (Int32.ofInt a &&& Int32.ofInt b).toInt
def or32 (a b : Int) : Int := (Int32.ofInt a ||| Int32.ofInt b).toInt
def xor32 (a b : Int) : Int := (Int32.ofInt a ^^^ Int32.ofInt b).toInt
def shl32 (a b : Int) : Int := (Int32.ofInt a <<< (Int32.ofInt b &&& 31)).toInt
def shr32 (a b : Int) : Int := (Int32.ofInt a >>> (Int32.ofInt b &&& 31)).toInt
def ushr32 (a b : Int) : Int := (XT.ushr (Int32.ofInt a) (Int32.ofInt b)).toInt
def and64 (a b : Int) : Int := (Int64.ofInt a &&& Int64.ofInt b).toInt
def or64 (a b : Int) : Int := (Int64.ofInt a ||| Int64.ofInt b).toInt
def xor64 (a b : Int) : Int := (Int64.ofInt a ^^^ Int64.ofInt b).toInt
def shl64 (a b : Int) : Int := (Int64.ofInt a <<< ((Int32.ofInt b).toInt64 &&& 63)).toInt
def shr64 (a b : Int) : Int := (Int64.ofInt a >>> ((Int32.ofInt b).toInt64 &&& 63)).toInt
def ushr64 (a b : Int) : Int := (XT.ushrL (Int64.ofInt a) (Int32.ofInt b)).toInt
def div32 (a b : Int) : Int := w32 (Int.tdiv a b)
def rem32 (a b : Int) : Int := Int.tmod a b
def div64 (a b : Int) : Int := w64 (Int.tdiv a b)
def rem64 (a b : Int) : Int := Int.tmod a b
def b8 (a : Int) : Int := (a + 128) % 256 - 128
def lcm (a b : Int) : Int := if b < a then 1 else if a = b then 0 else -1
def sto (m : OMem) (k : Nat) (i z : Int) : OMem := fun k' i' => if k' = k ∧ i' = i then z else m k' i'
def lget : OLs → Nat → Option OV
  | [], _ => none
  | x :: _, 0 => x
  | _ :: xs, n + 1 => lget xs n
def lput : OLs → Nat → Option OV → OLs
  | [], _, _ => []
  | _ :: xs, 0, v => v :: xs
  | x :: xs, n + 1, v => x :: lput xs n v
def killPrev (L : OLs) : Nat → OLs
  | 0 => L
  | j + 1 => match lget L j with
    | some (.inr (.inl _)) => lput L j none
    | _ => L
def lst1 (L : OLs) (k : Nat) (v : OV) : OLs := lput (killPrev L k) k (some v)
def lst2 (L : OLs) (k : Nat) (v : OV) : OLs := lput (lput (killPrev L k) k (some v)) (k + 1) none
def mask : Option (List Bool) → OLs → OLs
  | some (true :: bs), x :: xs => x :: mask (some bs) xs
  | some (false :: bs), _ :: xs => none :: mask (some bs) xs
  | _, xs => xs
section Pop
variable {β : Type}
def pi1 (S : List OV) (f : Int → List OV → Option β) : Option β := match S with | .inl a :: S' => f a S' | _ => none
def pi2 (S : List OV) (f : Int → Int → List OV → Option β) : Option β := match S with | .inl b :: .inl a :: S' => f a b S' | _ => none
def pl1 (S : List OV) (f : Int → List OV → Option β) : Option β := match S with | .inr (.inl a) :: S' => f a S' | _ => none
def pl2 (S : List OV) (f : Int → Int → List OV → Option β) : Option β := match S with | .inr (.inl b) :: .inr (.inl a) :: S' => f a b S' | _ => none
def pli (S : List OV) (f : Int → Int → List OV → Option β) : Option β := match S with | .inl b :: .inr (.inl a) :: S' => f a b S' | _ => none
def pr1 (S : List OV) (f : Nat → List OV → Option β) : Option β := match S with | .inr (.inr a) :: S' => f a S' | _ => none
def gi (L : OLs) (k : Nat) (f : Int → Option β) : Option β := match lget L k with | some (.inl a) => f a | _ => none
def gl (L : OLs) (k : Nat) (f : Int → Option β) : Option β := match lget L k with | some (.inr (.inl a)) => f a | _ => none
def gr (L : OLs) (k : Nat) (f : Nat → Option β) : Option β := match lget L k with | some (.inr (.inr a)) => f a | _ => none
def inL (L : OLs) (k : Nat) (x : Option β) : Option β := if k < L.length then x else none
def br (c : ClassFile.Cond) (a b : Int) (x y : Option β) : Option β := match c with
  | .eq => if a = b then x else y
  | .ne => if a = b then y else x
  | .lt => if a < b then x else y
  | .ge => if a < b then y else x
  | .gt => if b < a then x else y
  | .le => if b < a then y else x
def tsw (a : Int) : Int → List Int → (Int → Option β) → Option β → Option β
  | _, [], _, d => d
  | lo, o :: os, f, d => if a = lo then f o else tsw a (lo + 1) os f d
end Pop
def tgt (pc : Nat) (o : Int) : Nat := ((pc : Int) + o).toNat
def mcat : OV → Nat
  | .inr (.inl _) => 2
  | _ => 1
/-- the steps that touch no heap -/
def pstep {β : Type} (cst : Nat → Option OV) (i : Instr) (pc len : Nat) (L : OLs) (S : List OV) (k : Nat → OLs → List OV → Option β) : Option β :=
  match i with
  | .iconst z => k (pc + len) L (vi z :: S)
  | .bipush z => k (pc + len) L (vi z :: S)
  | .sipush z => k (pc + len) L (vi z :: S)
  | .lconst z => k (pc + len) L (vl (Int.ofNat z.val) :: S)
  | .ldc x => match cst x with | some (.inl z) => k (pc + len) L (vi z :: S) | _ => none
  | .ldc_w x => match cst x with | some (.inl z) => k (pc + len) L (vi z :: S) | _ => none
  | .ldc2_w x => match cst x with | some (.inr (.inl z)) => k (pc + len) L (vl z :: S) | _ => none
  | .iload x => gi L x fun z => k (pc + len) L (vi z :: S)
  | .iload_n x => gi L x.val fun z => k (pc + len) L (vi z :: S)
  | .lload x => gl L x fun z => k (pc + len) L (vl z :: S)
  | .lload_n x => gl L x.val fun z => k (pc + len) L (vl z :: S)
  | .aload x => gr L x fun z => k (pc + len) L (vr z :: S)
  | .aload_n x => gr L x.val fun z => k (pc + len) L (vr z :: S)
  | .istore x => pi1 S fun z S => inL L x (k (pc + len) (lst1 L x (vi z)) S)
  | .istore_n x => pi1 S fun z S => inL L x.val (k (pc + len) (lst1 L x.val (vi z)) S)
  | .lstore x => pl1 S fun z S => inL L (x + 1) (k (pc + len) (lst2 L x (vl z)) S)
  | .lstore_n x => pl1 S fun z S => inL L (x.val + 1) (k (pc + len) (lst2 L x.val (vl z)) S)
  | .astore x => pr1 S fun z S => inL L x (k (pc + len) (lst1 L x (vr z)) S)
  | .astore_n x => pr1 S fun z S => inL L x.val (k (pc + len) (lst1 L x.val (vr z)) S)
  | .iinc x c => gi L x fun z => inL L x (k (pc + len) (lst1 L x (vi (w32 (z + c)))) S)
  | .iadd => pi2 S fun a b S => k (pc + len) L (vi (w32 (a + b)) :: S)
  | .isub => pi2 S fun a b S => k (pc + len) L (vi (w32 (a - b)) :: S)
  | .imul => pi2 S fun a b S => k (pc + len) L (vi (w32 (a * b)) :: S)
  | .idiv => pi2 S fun a b S => if b = 0 then none else k (pc + len) L (vi (div32 a b) :: S)
  | .irem => pi2 S fun a b S => if b = 0 then none else k (pc + len) L (vi (rem32 a b) :: S)
  | .ineg => pi1 S fun a S => k (pc + len) L (vi (w32 (-a)) :: S)
  | .iand => pi2 S fun a b S => k (pc + len) L (vi (and32 a b) :: S)
  | .ior => pi2 S fun a b S => k (pc + len) L (vi (or32 a b) :: S)
  | .ixor => pi2 S fun a b S => k (pc + len) L (vi (xor32 a b) :: S)
  | .ishl => pi2 S fun a b S => k (pc + len) L (vi (shl32 a b) :: S)
  | .ishr => pi2 S fun a b S => k (pc + len) L (vi (shr32 a b) :: S)
  | .iushr => pi2 S fun a b S => k (pc + len) L (vi (ushr32 a b) :: S)
  | .ladd => pl2 S fun a b S => k (pc + len) L (vl (w64 (a + b)) :: S)
  | .lsub => pl2 S fun a b S => k (pc + len) L (vl (w64 (a - b)) :: S)
  | .lmul => pl2 S fun a b S => k (pc + len) L (vl (w64 (a * b)) :: S)
  | .ldiv => pl2 S fun a b S => if b = 0 then none else k (pc + len) L (vl (div64 a b) :: S)
  | .lrem => pl2 S fun a b S => if b = 0 then none else k (pc + len) L (vl (rem64 a b) :: S)
  | .lneg => pl1 S fun a S => k (pc + len) L (vl (w64 (-a)) :: S)
  | .land => pl2 S fun a b S => k (pc + len) L (vl (and64 a b) :: S)
  | .lor => pl2 S fun a b S => k (pc + len) L (vl (or64 a b) :: S)
  | .lxor => pl2 S fun a b S => k (pc + len) L (vl (xor64 a b) :: S)
  | .lshl => pli S fun a b S => k (pc + len) L (vl (shl64 a b) :: S)
  | .lshr => pli S fun a b S => k (pc + len) L (vl (shr64 a b) :: S)
  | .lushr => pli S fun a b S => k (pc + len) L (vl (ushr64 a b) :: S)
  | .lcmp => pl2 S fun a b S => k (pc + len) L (vi (lcm a b) :: S)
  | .i2l => pi1 S fun a S => k (pc + len) L (vl a :: S)
  | .l2i => pl1 S fun a S => k (pc + len) L (vi (w32 a) :: S)
  | .i2b => pi1 S fun a S => k (pc + len) L (vi (b8 a) :: S)
  | .goto o => k (tgt pc o) L S
  | .if_icmp c o => pi2 S fun a b S => br c a b (k (tgt pc o) L S) (k (pc + len) L S)
  | .ifCond c o => pi1 S fun a S => br c a 0 (k (tgt pc o) L S) (k (pc + len) L S)
  | .tableswitch d lo _ os => pi1 S fun a S => tsw a lo os.toList (fun o => k (tgt pc o) L S) (k (tgt pc d) L S)
  | .dup => match S with
    | .inr (.inl _) :: _ => none
    | v :: S' => k (pc + len) L (v :: v :: S')
    | _ => none
  | .dup2 => match S with
    | .inr (.inl z) :: S' => k (pc + len) L (vl z :: vl z :: S')
    | _ :: .inr (.inl _) :: _ => none
    | u :: v :: S' => k (pc + len) L (u :: v :: u :: v :: S')
    | _ => none
  | .pop => match S with
    | .inr (.inl _) :: _ => none
    | _ :: S' => k (pc + len) L S'
    | _ => none
  | _ => none
def ilen : Instr → Nat
  | .bipush _ | .iload _ | .lload _ | .aload _ | .istore _ | .lstore _ | .astore _ | .ldc _ | .newarray _ => 2
  | .sipush _ | .iinc _ _ | .goto _ | .if_icmp _ _ | .ifCond _ _ | .ldc_w _ | .ldc2_w _ | .getfield _ | .putfield _ | .invokevirtual _ | .invokespecial _ | .invokestatic _ | .new _ => 3
  | _ => 1
/-- what of an instruction's figures the laws ask -/
def chk (pc : Nat) (i : Instr) (len : Nat) : Bool :=
  match i with
  | .iconst z => len == 1 && decide (-32768 ≤ z) && decide (z ≤ 32767)
  | .bipush z => len == 2 && decide (-128 ≤ z) && decide (z ≤ 127)
  | .sipush z => len == 3 && decide (-32768 ≤ z) && decide (z ≤ 32767)
  | .iinc _ z => len == 3 && decide (-32768 ≤ z) && decide (z ≤ 32767)
  | .goto o => len == 3 && decide (0 ≤ (pc : Int) + o)
  | .if_icmp _ o => len == 3 && decide (0 ≤ (pc : Int) + o)
  | .ifCond _ o => len == 3 && decide (0 ≤ (pc : Int) + o)
  | .tableswitch d lo hi os => decide (0 ≤ (pc : Int) + d) && os.toList.all (fun o => decide (0 ≤ (pc : Int) + o)) && decide (hi = lo + os.toList.length - 1) && decide (-2147483648 ≤ lo) && decide (hi ≤ 2147483647)
  | i => len == ilen i
end Jvm.OwnMini
namespace Jvm.OwnMini
open Jvm Jvm.ClassFile Sem Op Lib Jvm.Free Jvm.Stand Jvm.LawKit Jvm.RoadKit
/-! The project's own methods: one object, its scalar fields (cell 0) and its arrays (cells 1, 2, ..). t: how far its maker has come (2 j: the first j arrays are made and laid). -/
abbrev CodeT := Nat → Nat → Option (Instr × Nat)
/-- by the pool's index: the field's number, its kind (0: array, 1 int, 2 boolean, 3 byte, 4 long), its cell, is it final -/
abbrev FldT := Nat → Option (Int × Nat × Nat × Bool)
/-- by the cell: kind, length -/
abbrev LayT := Nat → Option (Nat × Int)
/-- by the method: its parameters from the last to the first (is it a long), locals, kind of the result (0 none, 1 int, 2 boolean, 4 long), frames and words that it asks -/
abbrev InfT := Nat → Option (List Bool × Nat × Nat × Nat × Nat)
abbrev LivT := Nat → Nat → Option (List Bool)
abbrev PT := CodeT × FldT × LayT × (Nat → Option OV) × (Nat → Option Nat) × InfT × (Nat → Bool) × LivT
abbrev pcode (P : PT) : CodeT := P.1
abbrev pfld (P : PT) : FldT := P.2.1
abbrev play (P : PT) : LayT := P.2.2.1
abbrev pcst (P : PT) : Nat → Option OV := P.2.2.2.1
abbrev pmth (P : PT) : Nat → Option Nat := P.2.2.2.2.1
abbrev pinf (P : PT) : InfT := P.2.2.2.2.2.1
abbrev pobi (P : PT) : Nat → Bool := P.2.2.2.2.2.2.1
abbrev pliv (P : PT) : LivT := P.2.2.2.2.2.2.2
abbrev RT := Option (Option OV × Nat × OMem)
def akind : ArrayType → Nat
  | .int => 1
  | .boolean => 2
  | .byte => 3
  | .long => 4
  | _ => 0
def popA : List Bool → List OV → List OV → Option (List OV × List OV)
  | [], S, acc => some (acc, S)
  | false :: ts, .inl z :: S, acc => popA ts S (vi z :: acc)
  | true :: ts, .inr (.inl z) :: S, acc => popA ts S (vl z :: acc)
  | _, _, _ => none
def laid : List OV → OLs
  | [] => []
  | .inr (.inl z) :: as => some (vl z) :: none :: laid as
  | .inl z :: as => some (vi z) :: laid as
  | .inr (.inr z) :: as => some (vr z) :: laid as
def initL (as : List OV) (n : Nat) : OLs := laid as ++ List.replicate (n - (laid as).length) none
def cats : List OV → Nat
  | [] => 0
  | v :: S => mcat v + cats S
def pushR : Option OV → List OV → List OV
  | none, S => S
  | some v, S => v :: S
def ald (P : PT) (kd : Nat → Bool) (S : List OV) (t : Nat) (f : Nat → Int → List OV → RT) : RT :=
  match S with
  | .inl i :: .inr (.inr j) :: S' =>
    match play P j with
    | some (k, n) => cond (kd k && Nat.ble j (t / 2)) (if 0 ≤ i ∧ i < n then f j i S' else none) none
    | none => none
  | _ => none
def asi (P : PT) (kd : Nat → Bool) (S : List OV) (t : Nat) (f : Nat → Nat → Int → Int → List OV → RT) : RT :=
  match S with
  | .inl z :: .inl i :: .inr (.inr j) :: S' =>
    match play P j with
    | some (k, n) => cond (kd k && Nat.ble j (t / 2)) (if 0 ≤ i ∧ i < n then f k j i z S' else none) none
    | none => none
  | _ => none
def asl (P : PT) (kd : Nat → Bool) (S : List OV) (t : Nat) (f : Nat → Int → Int → List OV → RT) : RT :=
  match S with
  | .inr (.inl z) :: .inl i :: .inr (.inr j) :: S' =>
    match play P j with
    | some (k, n) => cond (kd k && Nat.ble j (t / 2)) (if 0 ≤ i ∧ i < n then f j i z S' else none) none
    | none => none
  | _ => none
/-- the instructions that touch the object, call or return -/
def isSpec : Instr → Bool
  | .getfield _ | .putfield _ | .iaload | .baload | .laload | .iastore | .bastore | .lastore | .arraylength | .newarray _ | .invokespecial _ | .invokevirtual _ | .ireturn | .lreturn | .return_ => true
  | _ => false
def stepS (P : PT) (k : Nat → Nat → OLs → List OV → Nat → OMem → RT) (q pc : Nat) (L : OLs) (S : List OV) (t : Nat) (m : OMem) (i : Instr) (len : Nat) : RT :=
  match i with
  | .getfield x =>
    match S with
    | .inr (.inr 0) :: S' =>
      match pfld P x with
      | some (_, 0, j, _) => cond (Nat.ble j (t / 2)) (k q (pc + len) L (vr j :: S') t m) none
      | some (f, 1, _, _) => k q (pc + len) L (vi (m 0 f) :: S') t m
      | some (f, 2, _, _) => k q (pc + len) L (vi (m 0 f) :: S') t m
      | some (f, 4, _, _) => k q (pc + len) L (vl (m 0 f) :: S') t m
      | _ => none
    | _ => none
  | .putfield x =>
    match pfld P x with
    | some (_, 0, j, fin) =>
      match S with
      | .inr (.inr j') :: .inr (.inr 0) :: S' => cond (Nat.beq j' j && Nat.beq (t + 1) (2 * j) && Nat.beq q 0) (k q (pc + len) L S' (t + 1) m) none
      | _ => none
    | some (f, 1, _, fin) =>
      match S with
      | .inl z :: .inr (.inr 0) :: S' => cond (!fin || Nat.beq q 0) (k q (pc + len) L S' t (sto m 0 f z)) none
      | _ => none
    | some (f, 2, _, fin) =>
      match S with
      | .inl z :: .inr (.inr 0) :: S' => cond (!fin || Nat.beq q 0) (k q (pc + len) L S' t (sto m 0 f (z % 2))) none
      | _ => none
    | some (f, 4, _, fin) =>
      match S with
      | .inr (.inl z) :: .inr (.inr 0) :: S' => cond (!fin || Nat.beq q 0) (k q (pc + len) L S' t (sto m 0 f z)) none
      | _ => none
    | _ => none
  | .iaload => ald P (fun kd => Nat.beq kd 1) S t fun j i S' => k q (pc + len) L (vi (m j i) :: S') t m
  | .baload => ald P (fun kd => Nat.beq kd 2 || Nat.beq kd 3) S t fun j i S' => k q (pc + len) L (vi (m j i) :: S') t m
  | .laload => ald P (fun kd => Nat.beq kd 4) S t fun j i S' => k q (pc + len) L (vl (m j i) :: S') t m
  | .iastore => asi P (fun kd => Nat.beq kd 1) S t fun _ j i z S' => k q (pc + len) L S' t (sto m j i z)
  | .bastore => asi P (fun kd => Nat.beq kd 2 || Nat.beq kd 3) S t fun kd j i z S' => k q (pc + len) L S' t (sto m j i (cond (Nat.beq kd 2) (z % 2) (b8 z)))
  | .lastore => asl P (fun kd => Nat.beq kd 4) S t fun j i z S' => k q (pc + len) L S' t (sto m j i z)
  | .arraylength =>
    match S with
    | .inr (.inr j) :: S' =>
      match play P j with
      | some (_, n) => cond (Nat.ble j (t / 2)) (k q (pc + len) L (vi n :: S') t m) none
      | none => none
    | _ => none
  | .newarray a =>
    match S with
    | .inl z :: S' =>
      match play P (t / 2 + 1) with
      | some (kd, n) => cond (Nat.beq (t % 2) 0 && Nat.beq kd (akind a) && Nat.beq q 0) (if z = n then k q (pc + len) L (vr (t / 2 + 1) :: S') (t + 1) m else none) none
      | none => none
    | _ => none
  | .invokespecial x =>
    match S with
    | .inr (.inr 0) :: S' =>
      match pinf P q with
      | some (_, _, _, fr, lc) => cond (pobi P x && Nat.ble 1 fr && Nat.ble (cats S' + 12) lc) (k q (pc + len) L S' t m) none
      | none => none
    | _ => none
  | .invokevirtual x =>
    match pmth P x with
    | some q' =>
      match pinf P q', pinf P q with
      | some (ps, ml, _, fr', lc'), some (_, _, _, fr, lc) =>
        match popA ps S [] with
        | some (as, .inr (.inr 0) :: S') =>
          cond (Nat.ble (fr' + 1) fr && Nat.ble (cats S' + (ml + 11) + lc') lc && !(Nat.beq q' 0) && Nat.ble (initL (vr 0 :: as) ml).length ml)
            ((k q' 0 (initL (vr 0 :: as) ml) [] t m).bind fun y => k q (pc + len) L (pushR y.1 S') y.2.1 y.2.2) none
        | _ => none
      | _, _ => none
    | none => none
  | .ireturn =>
    match S with
    | .inl z :: _ =>
      match pinf P q with
      | some (_, _, 1, _) => some (some (vi z), t, m)
      | some (_, _, 2, _) => some (some (vi (z % 2)), t, m)
      | _ => none
    | _ => none
  | .lreturn =>
    match S with
    | .inr (.inl z) :: _ =>
      match pinf P q with
      | some (_, _, 4, _) => some (some (vl z), t, m)
      | _ => none
    | _ => none
  | .return_ =>
    match S with
    | [] =>
      match pinf P q with
      | some (_, _, 0, _) => some (none, t, m)
      | _ => none
    | _ => none
  | _ => none
def stepI (P : PT) (k : Nat → Nat → OLs → List OV → Nat → OMem → RT) (q pc : Nat) (L : OLs) (S : List OV) (t : Nat) (m : OMem) (i : Instr) (len : Nat) : RT :=
  cond (isSpec i) (stepS P k q pc L S t m i len) (pstep (pcst P) i pc len L S fun pc' L' S' => k q pc' L' S' t m)
def stepP (P : PT) (k : Nat → Nat → OLs → List OV → Nat → OMem → RT) (q pc : Nat) (L : OLs) (S : List OV) (t : Nat) (m : OMem) : RT :=
  match pcode P q pc with
  | some (i, len) => stepI P k q pc (mask (pliv P q pc) L) S t m i len
  | none => none
def runP (P : PT) : Nat → Nat → Nat → OLs → List OV → Nat → OMem → RT
  | 0 => fun _ _ _ _ _ _ => none
  | n + 1 => stepP P (runP P n)
end Jvm.OwnMini
namespace Jvm.OwnMini
/-- a local variable, written short -/
abbrev qi (z : Int) : Option OV := some (vi z)
abbrev qj (z : Int) : Option OV := some (vl z)
abbrev qr (k : Nat) : Option OV := some (vr k)
abbrev qn : Option OV := none
end Jvm.OwnMini
namespace Jvm.OwnMini
open Jvm Jvm.ClassFile Sem Op Lib Jvm.Free Jvm.Stand Jvm.LawKit Jvm.RoadKit
/-! How the small machine's values stand for the JVM's. -/
def VR (A : Nat → Addr) (b : Nat) : OV → Value → Prop
  | .inl z, v => ∃ x : Int32, v = .int x ∧ x.toInt = z
  | .inr (.inl z), v => ∃ x : Int64, v = .long x ∧ x.toInt = z
  | .inr (.inr k), v => k ≤ b ∧ v = .ref (A k)
def SR (A : Nat → Addr) (b : Nat) : List OV → List Value → Prop
  | [], [] => True
  | v :: S, x :: X => VR A b v x ∧ SR A b S X
  | _, _ => False
/-- the local variables are well laid: behind a long (or double) its second half, and nowhere else -/
def WF (l : Array Slot) : Prop := (∀ k, l[k]? = some .second → ∃ j v, k = j + 1 ∧ l[j]? = some (.val v) ∧ v.category = 2) ∧ (∀ k v, l[k]? = some (.val v) → v.category = 2 → l[k + 1]? = some .second)
def LR (A : Nat → Addr) (b : Nat) (L : OLs) (Ls : Array Slot) : Prop := L.length = Ls.size ∧ (∀ k v, lget L k = some v → ∃ x, Ls[k]? = some (.val x) ∧ VR A b v x) ∧ WF Ls
section Rel
variable {A A' : Nat → Addr} {b b' : Nat}
theorem VR.mono {v : OV} {x : Value} (h : VR A b v x) (hA : ∀ j, j ≤ b → A' j = A j) (hb : b ≤ b') : VR A' b' v x := by
  rcases v with z | z | k
  · exact h
  · exact h
  · obtain ⟨h1, h2⟩ := h
    exact ⟨Nat.le_trans h1 hb, by rw [h2, hA k h1]⟩
theorem SR.mono (hA : ∀ j, j ≤ b → A' j = A j) (hb : b ≤ b') : ∀ {S : List OV} {X : List Value}, SR A b S X → SR A' b' S X
  | [], [], _ => trivial
  | _ :: _, _ :: _, ⟨h1, h2⟩ => ⟨h1.mono hA hb, SR.mono hA hb h2⟩
theorem LR.mono {L : OLs} {Ls : Array Slot} (h : LR A b L Ls) (hA : ∀ j, j ≤ b → A' j = A j) (hb : b ≤ b') : LR A' b' L Ls :=
  ⟨h.1, fun k v hk => by obtain ⟨x, h1, h2⟩ := h.2.1 k v hk; exact ⟨x, h1, h2.mono hA hb⟩, h.2.2⟩
theorem VR.cat {v : OV} {x : Value} (h : VR A b v x) (hv : mcat v = 1) : x.category = 1 := by
  rcases v with z | z | k
  · obtain ⟨y, rfl, -⟩ := h; rfl
  · cases hv
  · obtain ⟨-, rfl⟩ := h; rfl
theorem VR.cats {v : OV} {x : Value} (h : VR A b v x) : x.category = mcat v := by
  rcases v with z | z | k
  · obtain ⟨y, rfl, -⟩ := h; rfl
  · obtain ⟨y, rfl, -⟩ := h; rfl
  · obtain ⟨-, rfl⟩ := h; rfl
theorem SR.catsum : ∀ {S : List OV} {X : List Value}, SR A b S X → (X.map fun v => v.category).sum = cats S
  | [], [], _ => rfl
  | v :: S, x :: X, ⟨h1, h2⟩ => by
    show ((x.category :: X.map fun v => v.category)).sum = mcat v + cats S
    rw [List.sum_cons, h1.cats, SR.catsum h2]
theorem SR.i1 {z : Int} {S : List OV} {X : List Value} (h : SR A b (.inl z :: S) X) : ∃ y X', X = .int y :: X' ∧ y.toInt = z ∧ SR A b S X' := by
  cases X with
  | nil => exact h.elim
  | cons x X' => obtain ⟨⟨y, rfl, e⟩, h2⟩ := h; exact ⟨y, X', rfl, e, h2⟩
theorem SR.l1 {z : Int} {S : List OV} {X : List Value} (h : SR A b (.inr (.inl z) :: S) X) : ∃ y X', X = .long y :: X' ∧ y.toInt = z ∧ SR A b S X' := by
  cases X with
  | nil => exact h.elim
  | cons x X' => obtain ⟨⟨y, rfl, e⟩, h2⟩ := h; exact ⟨y, X', rfl, e, h2⟩
theorem SR.r1 {k : Nat} {S : List OV} {X : List Value} (h : SR A b (.inr (.inr k) :: S) X) : k ≤ b ∧ ∃ X', X = .ref (A k) :: X' ∧ SR A b S X' := by
  cases X with
  | nil => exact h.elim
  | cons x X' => obtain ⟨⟨hb, rfl⟩, h2⟩ := h; exact ⟨hb, X', rfl, h2⟩
theorem SR.i2 {z w : Int} {S : List OV} {X : List Value} (h : SR A b (.inl w :: .inl z :: S) X) : ∃ y x X', X = .int y :: .int x :: X' ∧ y.toInt = w ∧ x.toInt = z ∧ SR A b S X' := by
  obtain ⟨y, X', rfl, e, h⟩ := SR.i1 h
  obtain ⟨x, X', rfl, e', h⟩ := SR.i1 h
  exact ⟨y, x, X', rfl, e, e', h⟩
theorem SR.l2 {z w : Int} {S : List OV} {X : List Value} (h : SR A b (.inr (.inl w) :: .inr (.inl z) :: S) X) : ∃ y x X', X = .long y :: .long x :: X' ∧ y.toInt = w ∧ x.toInt = z ∧ SR A b S X' := by
  obtain ⟨y, X', rfl, e, h⟩ := SR.l1 h
  obtain ⟨x, X', rfl, e', h⟩ := SR.l1 h
  exact ⟨y, x, X', rfl, e, e', h⟩
theorem SR.li {z w : Int} {S : List OV} {X : List Value} (h : SR A b (.inl w :: .inr (.inl z) :: S) X) : ∃ y x X', X = .int y :: .long x :: X' ∧ y.toInt = w ∧ x.toInt = z ∧ SR A b S X' := by
  obtain ⟨y, X', rfl, e, h⟩ := SR.i1 h
  obtain ⟨x, X', rfl, e', h⟩ := SR.l1 h
  exact ⟨y, x, X', rfl, e, e', h⟩
theorem SR.ci {z : Int} {y : Int32} {S : List OV} {X : List Value} (hy : y.toInt = z) (h : SR A b S X) : SR A b (vi z :: S) (.int y :: X) := ⟨⟨y, rfl, hy⟩, h⟩
theorem SR.cj {z : Int} {y : Int64} {S : List OV} {X : List Value} (hy : y.toInt = z) (h : SR A b S X) : SR A b (vl z :: S) (.long y :: X) := ⟨⟨y, rfl, hy⟩, h⟩
theorem SR.cr {k : Nat} {S : List OV} {X : List Value} (hb : k ≤ b) (h : SR A b S X) : SR A b (vr k :: S) (.ref (A k) :: X) := ⟨⟨hb, rfl⟩, h⟩
theorem SR.cv {v : OV} {x : Value} {S : List OV} {X : List Value} (h1 : VR A b v x) (h : SR A b S X) : SR A b (v :: S) (x :: X) := ⟨h1, h⟩
end Rel
section Pops
variable {β : Type} {S : List OV} {L : OLs} {b : β}
theorem pi1_some {f : Int → List OV → Option β} (h : pi1 S f = some b) : ∃ a S', S = .inl a :: S' ∧ f a S' = some b := by
  match S, h with
  | .inl a :: S', h => exact ⟨a, S', rfl, h⟩
theorem pl1_some {f : Int → List OV → Option β} (h : pl1 S f = some b) : ∃ a S', S = .inr (.inl a) :: S' ∧ f a S' = some b := by
  match S, h with
  | .inr (.inl a) :: S', h => exact ⟨a, S', rfl, h⟩
theorem pr1_some {f : Nat → List OV → Option β} (h : pr1 S f = some b) : ∃ a S', S = .inr (.inr a) :: S' ∧ f a S' = some b := by
  match S, h with
  | .inr (.inr a) :: S', h => exact ⟨a, S', rfl, h⟩
theorem pi2_some {f : Int → Int → List OV → Option β} (h : pi2 S f = some b) : ∃ x y S', S = .inl y :: .inl x :: S' ∧ f x y S' = some b := by
  match S, h with
  | .inl y :: .inl x :: S', h => exact ⟨x, y, S', rfl, h⟩
theorem pl2_some {f : Int → Int → List OV → Option β} (h : pl2 S f = some b) : ∃ x y S', S = .inr (.inl y) :: .inr (.inl x) :: S' ∧ f x y S' = some b := by
  match S, h with
  | .inr (.inl y) :: .inr (.inl x) :: S', h => exact ⟨x, y, S', rfl, h⟩
theorem pli_some {f : Int → Int → List OV → Option β} (h : pli S f = some b) : ∃ x y S', S = .inl y :: .inr (.inl x) :: S' ∧ f x y S' = some b := by
  match S, h with
  | .inl y :: .inr (.inl x) :: S', h => exact ⟨x, y, S', rfl, h⟩
theorem gi_some {k : Nat} {f : Int → Option β} (h : gi L k f = some b) : ∃ z, lget L k = some (.inl z) ∧ f z = some b := by
  unfold gi at h
  split at h
  · exact ⟨_, by assumption, h⟩
  · cases h
theorem gl_some {k : Nat} {f : Int → Option β} (h : gl L k f = some b) : ∃ z, lget L k = some (.inr (.inl z)) ∧ f z = some b := by
  unfold gl at h
  split at h
  · exact ⟨_, by assumption, h⟩
  · cases h
theorem gr_some {k : Nat} {f : Nat → Option β} (h : gr L k f = some b) : ∃ z, lget L k = some (.inr (.inr z)) ∧ f z = some b := by
  unfold gr at h
  split at h
  · exact ⟨_, by assumption, h⟩
  · cases h
theorem inL_some {k : Nat} {x : Option β} (h : inL L k x = some b) : k < L.length ∧ x = some b := by
  unfold inL at h
  split at h
  · exact ⟨by assumption, h⟩
  · cases h
def brP (c : ClassFile.Cond) (x y : Int) : Prop := match c with
  | .eq => x = y
  | .ne => ¬ x = y
  | .lt => x < y
  | .ge => ¬ x < y
  | .gt => y < x
  | .le => ¬ y < x
theorem br_some {c : ClassFile.Cond} {x y : Int} {u v : Option β} (h : br c x y u v = some b) : (brP c x y ∧ u = some b) ∨ (¬ brP c x y ∧ v = some b) := by
  cases c <;> simp only [br] at h <;> split at h <;> rename_i q <;> simp only [brP] <;> first | exact Or.inl ⟨q, h⟩ | exact Or.inr ⟨q, h⟩ | exact Or.inr ⟨fun r => r q, h⟩
theorem icmp_holds {c : ClassFile.Cond} {x y : Int32} (h : brP c x.toInt y.toInt) : if_icmp.holds c x y = true := by
  cases c <;> simp only [brP] at h
  · exact (teq (Int32.toInt_inj.mp h)).1
  · exact (feq (fun q => h (by rw [q]))).2
  · exact (tlt (Int32.lt_iff_toInt_lt.mpr h)).1
  · exact (flt (fun q => h (Int32.lt_iff_toInt_lt.mp q))).2.1
  · exact (tlt (Int32.lt_iff_toInt_lt.mpr h)).2.2.1
  · exact (flt (fun q => h (Int32.lt_iff_toInt_lt.mp q))).2.2.2
theorem icmp_fails {c : ClassFile.Cond} {x y : Int32} (h : ¬ brP c x.toInt y.toInt) : if_icmp.holds c x y = false := by
  cases c <;> simp only [brP] at h
  · exact (feq (fun q => h (by rw [q]))).1
  · exact (teq (Int32.toInt_inj.mp (Classical.not_not.mp h))).2
  · exact (flt (fun q => h (Int32.lt_iff_toInt_lt.mp q))).1
  · exact (tlt (Int32.lt_iff_toInt_lt.mpr (Classical.not_not.mp h))).2.1
  · exact (flt (fun q => h (Int32.lt_iff_toInt_lt.mp q))).2.2.1
  · exact (tlt (Int32.lt_iff_toInt_lt.mpr (Classical.not_not.mp h))).2.2.2
theorem tsw_some (a : Int) : ∀ (lo : Int) (os : List Int) {f : Int → Option β} {d : Option β}, tsw a lo os f d = some b → (∃ o n, a = lo + (n : Nat) ∧ os[n]? = some o ∧ f o = some b) ∨ ((a < lo ∨ lo + os.length - 1 < a) ∧ d = some b)
  | lo, [], f, d, h => by
    refine Or.inr ⟨?_, h⟩
    simp only [List.length_nil]; omega
  | lo, o :: os, f, d, h => by
    unfold tsw at h
    split at h
    · rename_i q
      exact Or.inl ⟨o, 0, by simpa using q, rfl, h⟩
    · rename_i q
      rcases tsw_some a (lo + 1) os h with ⟨o', n, h1, h2, h3⟩ | ⟨h1, h2⟩
      · exact Or.inl ⟨o', n + 1, by rw [h1]; simp only [Int.natCast_add]; omega, by simpa using h2, h3⟩
      · refine Or.inr ⟨?_, h2⟩
        simp only [List.length_cons]; omega
theorem dup_some {cst : Nat → Option OV} {pc len : Nat} {k : Nat → OLs → List OV → Option β} (h : pstep cst .dup pc len L S k = some b) : ∃ v S', S = v :: S' ∧ mcat v = 1 ∧ k (pc + len) L (v :: v :: S') = some b := by
  match S, h with
  | .inl z :: S', h => exact ⟨_, S', rfl, rfl, h⟩
  | .inr (.inr z) :: S', h => exact ⟨_, S', rfl, rfl, h⟩
theorem pop_some {cst : Nat → Option OV} {pc len : Nat} {k : Nat → OLs → List OV → Option β} (h : pstep cst .pop pc len L S k = some b) : ∃ v S', S = v :: S' ∧ mcat v = 1 ∧ k (pc + len) L S' = some b := by
  match S, h with
  | .inl z :: S', h => exact ⟨_, S', rfl, rfl, h⟩
  | .inr (.inr z) :: S', h => exact ⟨_, S', rfl, rfl, h⟩
theorem dup2_some {cst : Nat → Option OV} {pc len : Nat} {k : Nat → OLs → List OV → Option β} (h : pstep cst .dup2 pc len L S k = some b) : (∃ z S', S = .inr (.inl z) :: S' ∧ k (pc + len) L (vl z :: vl z :: S') = some b) ∨ ∃ u v S', S = u :: v :: S' ∧ mcat u = 1 ∧ mcat v = 1 ∧ k (pc + len) L (u :: v :: u :: v :: S') = some b := by
  match S, h with
  | .inr (.inl z) :: S', h => exact Or.inl ⟨z, S', rfl, h⟩
  | .inl y :: .inl z :: S', h => exact Or.inr ⟨_, _, S', rfl, rfl, rfl, h⟩
  | .inl y :: .inr (.inr z) :: S', h => exact Or.inr ⟨_, _, S', rfl, rfl, rfl, h⟩
  | .inr (.inr y) :: .inl z :: S', h => exact Or.inr ⟨_, _, S', rfl, rfl, rfl, h⟩
  | .inr (.inr y) :: .inr (.inr z) :: S', h => exact Or.inr ⟨_, _, S', rfl, rfl, rfl, h⟩
end Pops
/-! numbers -/
theorem w32_eq (z : Int) : w32 z = z.bmod (2 ^ 32) := by
  unfold w32
  rw [Int.bmod_def]
  split <;> omega
theorem w64_eq (z : Int) : w64 z = z.bmod (2 ^ 64) := by
  unfold w64
  rw [Int.bmod_def]
  split <;> omega
theorem b8_eq (x : Int32) : (x.toInt8.toInt32).toInt = b8 x.toInt := by
  obtain ⟨h1, h2, h3⟩ := c_i2b x
  unfold b8
  omega
theorem cmpL_toInt (x y : Int64) : (XT.cmpL x y).toInt = lcm x.toInt y.toInt := by
  unfold XT.cmpL lcm
  by_cases h : y < x
  · rw [if_pos h, if_pos (Int64.lt_iff_toInt_lt.mp h)]; rfl
  · rw [if_neg h, if_neg (fun q => h (Int64.lt_iff_toInt_lt.mpr q))]
    by_cases h2 : x = y
    · rw [if_pos h2, if_pos (by rw [h2])]; rfl
    · rw [if_neg h2, if_neg (fun q => h2 (Int64.toInt_inj.mp q))]; rfl
theorem and1_eq (x : Int32) : (x &&& 1).toInt = x.toInt % 2 := c_mask x 1 1 (by decide) (by decide)
/-! the local variables -/
theorem lget_lput : ∀ (L : OLs) (k j : Nat) (v : Option OV), lget (lput L k v) j = if j = k ∧ k < L.length then v else lget L j
  | [], k, j, v => by simp [lput, lget]
  | x :: xs, 0, 0, v => by simp [lput, lget]
  | x :: xs, 0, j + 1, v => by simp [lput, lget]
  | x :: xs, k + 1, 0, v => by simp [lput, lget]
  | x :: xs, k + 1, j + 1, v => by
    have := lget_lput xs k j v
    simp only [lput, lget, this, List.length_cons]
    by_cases h : j = k ∧ k < xs.length
    · rw [if_pos h, if_pos (by omega)]
    · rw [if_neg h, if_neg (by omega)]
theorem length_lput : ∀ (L : OLs) (k : Nat) (v : Option OV), (lput L k v).length = L.length
  | [], _, _ => rfl
  | _ :: _, 0, _ => rfl
  | x :: xs, k + 1, v => by simp [lput, length_lput xs k v]
theorem length_killPrev (L : OLs) (k : Nat) : (killPrev L k).length = L.length := by
  cases k with
  | zero => rfl
  | succ j =>
    simp only [killPrev]
    split
    · exact length_lput _ _ _
    · rfl
theorem lget_killPrev {L : OLs} {k j : Nat} {v : OV} (h : lget (killPrev L k) j = some v) : lget L j = some v ∧ (j + 1 = k → mcat v = 1) := by
  cases k with
  | zero => exact ⟨h, fun q => by omega⟩
  | succ i =>
    simp only [killPrev] at h
    split at h
    · rename_i z hz
      rw [lget_lput] at h
      split at h
      · cases h
      · rename_i hn
        refine ⟨h, fun q => ?_⟩
        have e : j = i := by omega
        subst e
        rw [hz] at h
        by_cases hl : j < L.length
        · exact absurd ⟨rfl, hl⟩ hn
        · exfalso
          have : lget L j = none := by
            clear h hz hn
            induction L generalizing j with
            | nil => rfl
            | cons x xs ih =>
              cases j with
              | zero => simp at hl
              | succ j => exact ih (by omega) (by simpa using hl)
          rw [this] at hz; cases hz
    · rename_i hn
      refine ⟨h, fun q => ?_⟩
      have e : j = i := by omega
      subst e
      rcases v with z | z | z
      · rfl
      · exact absurd h (hn z)
      · rfl
theorem lget_mask : ∀ (bs : Option (List Bool)) (L : OLs) (k : Nat) {v : OV}, lget (mask bs L) k = some v → lget L k = some v
  | none, L, k, v, h => by simpa [mask] using h
  | some [], L, k, v, h => by simpa [mask] using h
  | some (true :: bs), [], k, v, h => by simpa [mask] using h
  | some (false :: bs), [], k, v, h => by simpa [mask] using h
  | some (true :: bs), x :: xs, 0, v, h => h
  | some (true :: bs), x :: xs, k + 1, v, h => lget_mask (some bs) xs k h
  | some (false :: bs), x :: xs, 0, v, h => by cases h
  | some (false :: bs), x :: xs, k + 1, v, h => lget_mask (some bs) xs k h
theorem length_mask : ∀ (bs : Option (List Bool)) (L : OLs), (mask bs L).length = L.length
  | none, L => by simp [mask]
  | some [], L => by simp [mask]
  | some (true :: bs), [] => by simp [mask]
  | some (false :: bs), [] => by simp [mask]
  | some (true :: bs), x :: xs => by simp [mask, length_mask (some bs) xs]
  | some (false :: bs), x :: xs => by simp [mask, length_mask (some bs) xs]
theorem LR.mask {A : Nat → Addr} {b : Nat} {L : OLs} {Ls : Array Slot} (h : LR A b L Ls) (bs : Option (List Bool)) : LR A b (mask bs L) Ls :=
  ⟨by rw [length_mask]; exact h.1, fun k v hk => h.2.1 k v (lget_mask bs L k hk), h.2.2⟩
/-- what a store of one word makes of the slots, slot by slot -/
theorem store1_at {l : Array Slot} (hw : WF l) {k : Nat} (hk : k < l.size) {x : Value} (hc : x.category = 1) :
    ∃ l', storeLocals l k x = some l' ∧ l'.size = l.size ∧ l'[k]? = some (.val x) ∧
      (∀ j, j ≠ k → l'[j]? = l[j]? ∨ (l'[j]? = some .unset ∧ ((j + 1 = k ∧ l[k]? = some .second) ∨ (j = k + 1 ∧ l[j]? = some .second ∧ ∃ v, l[k]? = some (.val v) ∧ v.category = 2)))) ∧
      (l[k]? = some .second → ∀ j, j + 1 = k → l'[j]? = some .unset) ∧ (∀ v, l[k]? = some (.val v) → v.category = 2 → l'[k + 1]? = some .unset) := by
  have hx : l[k]? = some l[k] := Array.getElem?_eq_getElem hk
  have hc2 : ¬ x.category = 2 := by omega
  cases ho : l[k] with
  | unset =>
    rw [ho] at hx
    refine ⟨l.setIfInBounds k (.val x), by simp [storeLocals, storeSelf, setAt, ho, hk, hc2], by simp, by simp [hk], fun j hj => Or.inl (Array.getElem?_setIfInBounds_ne (Ne.symm hj)), (fun q => by rw [hx] at q; cases q), (fun v q => by rw [hx] at q; cases q)⟩
  | second =>
    rw [ho] at hx
    obtain ⟨j, v, rfl, hj, -⟩ := hw.1 k hx
    have hj' : j < l.size := by omega
    refine ⟨(l.setIfInBounds j .unset).setIfInBounds (j + 1) (.val x), by simp [storeLocals, storeSelf, setAt, ho, hk, hj', hc2], by simp, by simp [hk], fun i hi => ?_, fun _ i hi => ?_, (fun v q => by rw [hx] at q; cases q)⟩
    · rw [Array.getElem?_setIfInBounds_ne (Ne.symm hi)]
      by_cases e : i = j
      · subst e
        exact Or.inr ⟨by simp [hj'], Or.inl ⟨rfl, hx⟩⟩
      · exact Or.inl (Array.getElem?_setIfInBounds_ne (Ne.symm e))
    · have e : i = j := by omega
      subst e
      rw [Array.getElem?_setIfInBounds_ne (by omega)]
      simp [hj']
  | val old =>
    rw [ho] at hx
    by_cases h2 : old.category = 2
    · have hs := hw.2 k old hx h2
      have hk1 : k + 1 < l.size := (Array.getElem?_eq_some_iff.mp hs).1
      refine ⟨(l.setIfInBounds (k + 1) .unset).setIfInBounds k (.val x), by simp [storeLocals, storeSelf, setAt, ho, hk, hk1, hc2, h2], by simp, by simp [hk], fun i hi => ?_, (fun q => by rw [hx] at q; cases q), fun v _ _ => ?_⟩
      · rw [Array.getElem?_setIfInBounds_ne (Ne.symm hi)]
        by_cases e : i = k + 1
        · subst e
          exact Or.inr ⟨by simp [hk1], Or.inr ⟨rfl, hs, old, hx, h2⟩⟩
        · exact Or.inl (Array.getElem?_setIfInBounds_ne (Ne.symm e))
      · rw [Array.getElem?_setIfInBounds_ne (by omega)]
        simp [hk1]
    · refine ⟨l.setIfInBounds k (.val x), by simp [storeLocals, storeSelf, setAt, ho, hk, hc2, h2], by simp, by simp [hk], fun j hj => Or.inl (Array.getElem?_setIfInBounds_ne (Ne.symm hj)), (fun q => by rw [hx] at q; cases q), (fun v q qq => by rw [hx] at q; cases q; exact absurd qq h2)⟩
theorem LR.st1 {A : Nat → Addr} {b : Nat} {L : OLs} {Ls : Array Slot} (h : LR A b L Ls) {k : Nat} (hk : k < L.length) {v : OV} {x : Value} (hv : VR A b v x) (hc : x.category = 1) :
    ∃ Ls', storeLocals Ls k x = some Ls' ∧ LR A b (lst1 L k v) Ls' ∧ Ls'.size = Ls.size := by
  obtain ⟨l', h1, h2, h3, h4, h5, h6⟩ := store1_at h.2.2 (by rw [← h.1]; exact hk) hc
  refine ⟨l', h1, ⟨?_, ?_, ?_, ?_⟩, h2⟩
  · rw [lst1, length_lput, length_killPrev, h.1, h2]
  · intro j w hj
    rw [lst1, lget_lput, length_killPrev] at hj
    by_cases e : j = k ∧ k < L.length
    · rw [if_pos e] at hj
      cases hj
      obtain ⟨rfl, -⟩ := e
      exact ⟨x, h3, hv⟩
    · rw [if_neg e] at hj
      have hne : j ≠ k := fun q => e ⟨q, hk⟩
      obtain ⟨g1, g2⟩ := lget_killPrev hj
      obtain ⟨y, g3, g4⟩ := h.2.1 j w g1
      rcases h4 j hne with q | ⟨-, q | q⟩
      · exact ⟨y, q.trans g3, g4⟩
      · exfalso
        obtain ⟨i, u, q1, q2, q3⟩ := h.2.2.1 k q.2
        have : i = j := by omega
        subst this
        cases g3.symm.trans q2
        rw [g4.cat (g2 q.1)] at q3; cases q3
      · exfalso
        cases g3.symm.trans q.2.1
  · intro j hj
    by_cases e : j = k
    · subst e; rw [h3] at hj; cases hj
    · have hj0 : Ls[j]? = some .second := by
        rcases h4 j e with q | ⟨q, -⟩
        · exact q ▸ hj
        · rw [q] at hj; cases hj
      obtain ⟨i, u, rfl, q2, q3⟩ := h.2.2.1 j hj0
      refine ⟨i, u, rfl, ?_, q3⟩
      have hi : i ≠ k := fun q => by
        subst q
        rw [h6 u q2 q3] at hj; cases hj
      rcases h4 i hi with q | ⟨-, q | q⟩
      · rw [q]; exact q2
      · exact absurd q.1 e
      · rw [q2] at q; cases q.2.1
  · intro j u hj hu
    by_cases e : j = k
    · subst e; rw [h3] at hj; cases hj; omega
    · have hj0 : Ls[j]? = some (.val u) := by
        rcases h4 j e with q | ⟨q, -⟩
        · exact q ▸ hj
        · rw [q] at hj; cases hj
      have q2 := h.2.2.2 j u hj0 hu
      have hi : j + 1 ≠ k := fun q => by
        subst q
        rw [h5 q2 j rfl] at hj; cases hj
      rcases h4 (j + 1) hi with q | ⟨-, q | q⟩
      · rw [q]; exact q2
      · exfalso
        obtain ⟨i, w, r1, r2, r3⟩ := h.2.2.1 k q.2
        have : i = j + 1 := by omega
        subst this
        rw [q2] at r2; cases r2
      · exact absurd (by omega : j = k) e
/-- what a store of two words makes of the slots -/
theorem store2_at {l : Array Slot} (hw : WF l) {k : Nat} (hk : k + 1 < l.size) {x : Value} (hc : x.category = 2) :
    ∃ l', storeLocals l k x = some l' ∧ l'.size = l.size ∧ l'[k]? = some (.val x) ∧ l'[k + 1]? = some .second ∧
      (∀ j, j ≠ k → j ≠ k + 1 → l'[j]? = l[j]? ∨ (l'[j]? = some .unset ∧ ((j + 1 = k ∧ l[k]? = some .second) ∨ (j = k + 2 ∧ l[j]? = some .second ∧ ∃ v, l[k + 1]? = some (.val v) ∧ v.category = 2)))) ∧
      (l[k]? = some .second → ∀ j, j + 1 = k → l'[j]? = some .unset) ∧ (∀ v, l[k + 1]? = some (.val v) → v.category = 2 → l'[k + 2]? = some .unset) := by
  have hk0 : k < l.size := by omega
  have hx : l[k]? = some l[k] := Array.getElem?_eq_getElem hk0
  have hy : l[k + 1]? = some l[k + 1] := Array.getElem?_eq_getElem hk
  have key : ∀ l1 : Array Slot, l1.size = l.size → ∀ s1, l1[k + 1]? = some s1 → (∀ v, s1 = .val v → v.category = 2 → k + 2 < l.size) → ∃ l', storeSelf l1 k x = some l' ∧ l'.size = l.size ∧ l'[k]? = some (.val x) ∧ l'[k + 1]? = some .second ∧ (∀ j, j ≠ k → j ≠ k + 1 → l'[j]? = l1[j]? ∨ (j = k + 2 ∧ l'[j]? = some .unset ∧ ∃ v, s1 = .val v ∧ v.category = 2)) ∧ (∀ v, s1 = .val v → v.category = 2 → l'[k + 2]? = some .unset) := by
    intro l1 hs1 s1 hl1 h2
    have a1 : k < l1.size := by omega
    have a2 : k + 1 < l1.size := by omega
    have hg : (l1.setIfInBounds k (.val x))[k + 1]? = some s1 := by rw [Array.getElem?_setIfInBounds_ne (by omega)]; exact hl1
    have plain : (∀ v, s1 = .val v → v.category ≠ 2) → storeSelf l1 k x = some ((l1.setIfInBounds k (.val x)).setIfInBounds (k + 1) .second) := by
      intro q
      simp only [storeSelf, setAt, a1, if_true, Option.bind_eq_bind, Option.bind_some, hc]
      rw [hg]
      cases s1 with
      | unset => simp [a2]
      | second => simp [a2]
      | val v => simp [a2, q v rfl]
    have done : (∀ v, s1 = .val v → v.category ≠ 2) → ∃ l', storeSelf l1 k x = some l' ∧ l'.size = l.size ∧ l'[k]? = some (.val x) ∧ l'[k + 1]? = some .second ∧ (∀ j, j ≠ k → j ≠ k + 1 → l'[j]? = l1[j]? ∨ (j = k + 2 ∧ l'[j]? = some .unset ∧ ∃ v, s1 = .val v ∧ v.category = 2)) ∧ (∀ v, s1 = .val v → v.category = 2 → l'[k + 2]? = some .unset) := by
      intro q
      refine ⟨_, plain q, by simp [hs1], ?_, by simp [a2], fun j h1 h2 => Or.inl ?_, fun v e1 e2 => absurd e2 (q v e1)⟩
      · rw [Array.getElem?_setIfInBounds_ne (by omega)]; simp [a1]
      · rw [Array.getElem?_setIfInBounds_ne (Ne.symm h2), Array.getElem?_setIfInBounds_ne (Ne.symm h1)]
    cases s1 with
    | unset => exact done (fun v q => by cases q)
    | second => exact done (fun v q => by cases q)
    | val v =>
      by_cases hv : v.category = 2
      · have a3 : k + 2 < l1.size := by rw [hs1]; exact h2 v rfl hv
        refine ⟨((l1.setIfInBounds k (.val x)).setIfInBounds (k + 2) .unset).setIfInBounds (k + 1) .second, ?_, by simp [hs1], ?_, by simp [a2], fun j q1 q2 => ?_, fun _ _ _ => ?_⟩
        · simp only [storeSelf, setAt, a1, if_true, Option.bind_eq_bind, Option.bind_some, hc]
          rw [hg]
          simp [hv, a2, a3]
        · rw [Array.getElem?_setIfInBounds_ne (by omega), Array.getElem?_setIfInBounds_ne (by omega)]; simp [a1]
        · rw [Array.getElem?_setIfInBounds_ne (Ne.symm q2)]
          by_cases e : j = k + 2
          · subst e
            exact Or.inr ⟨rfl, by simp [a3], v, rfl, hv⟩
          · rw [Array.getElem?_setIfInBounds_ne (Ne.symm e), Array.getElem?_setIfInBounds_ne (Ne.symm q1)]
            exact Or.inl rfl
        · rw [Array.getElem?_setIfInBounds_ne (by omega)]; simp [a3]
      · exact done (fun v' q => by cases q; exact hv)
  have room2 : ∀ v, l[k + 1]? = some (.val v) → v.category = 2 → k + 2 < l.size := fun v q1 q2 => (Array.getElem?_eq_some_iff.mp (hw.2 (k + 1) v q1 q2)).1
  cases ho : l[k] with
  | unset =>
    rw [ho] at hx
    obtain ⟨l', g1, g2, g3, g4, g5, g6⟩ := key l rfl _ hy (fun v q1 q2 => room2 v (by rw [hy, q1]) q2)
    refine ⟨l', by simp [storeLocals, ho, hk0, g1], g2, g3, g4, fun j q1 q2 => ?_, (fun q => by rw [hx] at q; cases q), fun v q1 q2 => g6 v (by rw [hy] at q1; exact Option.some.inj q1) q2⟩
    rcases g5 j q1 q2 with q | ⟨rfl, q, v, r1, r2⟩
    · exact Or.inl q
    · exact Or.inr ⟨q, Or.inr ⟨rfl, hw.2 (k + 1) v (by rw [hy, r1]) r2, v, by rw [hy, r1], r2⟩⟩
  | second =>
    rw [ho] at hx
    obtain ⟨i, u, rfl, hi, -⟩ := hw.1 k hx
    have hi' : i < l.size := by omega
    obtain ⟨l', g1, g2, g3, g4, g5, g6⟩ := key (l.setIfInBounds i .unset) (by simp) _ (by rw [Array.getElem?_setIfInBounds_ne (by omega)]; exact hy) (fun v q1 q2 => room2 v (by rw [hy, q1]) q2)
    refine ⟨l', by simp [storeLocals, setAt, ho, hk0, hi', g1], g2, g3, g4, fun j q1 q2 => ?_, fun _ j hj => ?_, fun v q1 q2 => g6 v (by rw [hy] at q1; exact Option.some.inj q1) q2⟩
    · rcases g5 j q1 q2 with q | ⟨rfl, q, v, r1, r2⟩
      · by_cases e : j = i
        · subst e
          exact Or.inr ⟨by rw [q]; simp [hi'], Or.inl ⟨rfl, hx⟩⟩
        · exact Or.inl (by rw [q, Array.getElem?_setIfInBounds_ne (Ne.symm e)])
      · exact Or.inr ⟨q, Or.inr ⟨rfl, hw.2 (i + 1 + 1) v (by rw [hy, r1]) r2, v, by rw [hy, r1], r2⟩⟩
    · have e : j = i := by omega
      subst e
      rcases g5 j (by omega) (by omega) with q | ⟨q, -⟩
      · rw [q]; simp [hi']
      · omega
  | val old =>
    rw [ho] at hx
    by_cases h2 : old.category = 2
    · have hs := hw.2 k old hx h2
      have hy2 : l[k + 1] = .second := by rw [hy] at hs; exact Option.some.inj hs
      obtain ⟨l', g1, g2, g3, g4, g5, g6⟩ := key (l.setIfInBounds (k + 1) .unset) (by simp) .unset (by simp [hk]) (fun v q1 => by cases q1)
      refine ⟨l', by simp [storeLocals, setAt, ho, hk0, hk, h2, g1], g2, g3, g4, fun j q1 q2 => ?_, (fun q => by rw [hx] at q; cases q), fun v q1 q2 => by rw [hs] at q1; cases q1⟩
      rcases g5 j q1 q2 with q | ⟨_, _, v, r1, _⟩
      · exact Or.inl (by rw [q, Array.getElem?_setIfInBounds_ne (Ne.symm q2)])
      · cases r1
    · obtain ⟨l', g1, g2, g3, g4, g5, g6⟩ := key l rfl _ hy (fun v q1 q2 => room2 v (by rw [hy, q1]) q2)
      refine ⟨l', by simp [storeLocals, ho, hk0, h2, g1], g2, g3, g4, fun j q1 q2 => ?_, (fun q => by rw [hx] at q; cases q), fun v q1 q2 => g6 v (by rw [hy] at q1; exact Option.some.inj q1) q2⟩
      rcases g5 j q1 q2 with q | ⟨rfl, q, v, r1, r2⟩
      · exact Or.inl q
      · exact Or.inr ⟨q, Or.inr ⟨rfl, hw.2 (k + 1) v (by rw [hy, r1]) r2, v, by rw [hy, r1], r2⟩⟩
theorem LR.st2 {A : Nat → Addr} {b : Nat} {L : OLs} {Ls : Array Slot} (h : LR A b L Ls) {k : Nat} (hk : k + 1 < L.length) {v : OV} {x : Value} (hv : VR A b v x) (hc : x.category = 2) :
    ∃ Ls', storeLocals Ls k x = some Ls' ∧ LR A b (lst2 L k v) Ls' ∧ Ls'.size = Ls.size := by
  obtain ⟨l', h1, h2, h3, h3', h4, h5, h6⟩ := store2_at h.2.2 (by rw [← h.1]; exact hk) hc
  refine ⟨l', h1, ⟨?_, ?_, ?_, ?_⟩, h2⟩
  · rw [lst2, length_lput, length_lput, length_killPrev, h.1, h2]
  · intro j w hj
    rw [lst2, lget_lput, length_lput, length_killPrev, lget_lput, length_killPrev] at hj
    by_cases e1 : j = k + 1 ∧ k + 1 < L.length
    · rw [if_pos e1] at hj; cases hj
    rw [if_neg e1] at hj
    have hne1 : j ≠ k + 1 := fun q => e1 ⟨q, hk⟩
    by_cases e : j = k ∧ k < L.length
    · rw [if_pos e] at hj
      cases hj
      obtain ⟨rfl, -⟩ := e
      exact ⟨x, h3, hv⟩
    · rw [if_neg e] at hj
      have hne : j ≠ k := fun q => e ⟨q, by omega⟩
      obtain ⟨g1, g2⟩ := lget_killPrev hj
      obtain ⟨y, g3, g4⟩ := h.2.1 j w g1
      rcases h4 j hne hne1 with q | ⟨-, q | q⟩
      · exact ⟨y, q.trans g3, g4⟩
      · exfalso
        obtain ⟨i, u, q1, q2, q3⟩ := h.2.2.1 k q.2
        have : i = j := by omega
        subst this
        cases g3.symm.trans q2
        rw [g4.cat (g2 q.1)] at q3; cases q3
      · exfalso
        cases g3.symm.trans q.2.1
  · intro j hj
    by_cases e : j = k
    · subst e; rw [h3] at hj; cases hj
    by_cases e' : j = k + 1
    · exact ⟨k, x, e', h3, hc⟩
    · have hj0 : Ls[j]? = some .second := by
        rcases h4 j e e' with q | ⟨q, -⟩
        · exact q ▸ hj
        · rw [q] at hj; cases hj
      obtain ⟨i, u, rfl, q2, q3⟩ := h.2.2.1 j hj0
      refine ⟨i, u, rfl, ?_, q3⟩
      have hi : i ≠ k := fun q => e' (by omega)
      have hi' : i ≠ k + 1 := fun q => by
        subst q
        rw [h6 u q2 q3] at hj; cases hj
      rcases h4 i hi hi' with q | ⟨-, q | q⟩
      · rw [q]; exact q2
      · exact absurd q.1 e
      · rw [q2] at q; cases q.2.1
  · intro j u hj hu
    by_cases e : j = k
    · subst e; exact h3'
    by_cases e' : j = k + 1
    · subst e'; rw [h3'] at hj; cases hj
    · have hj0 : Ls[j]? = some (.val u) := by
        rcases h4 j e e' with q | ⟨q, -⟩
        · exact q ▸ hj
        · rw [q] at hj; cases hj
      have q2 := h.2.2.2 j u hj0 hu
      have hi : j + 1 ≠ k := fun q => by
        subst q
        rw [h5 q2 j rfl] at hj; cases hj
      rcases h4 (j + 1) hi (by omega) with q | ⟨-, q | q⟩
      · rw [q]; exact q2
      · exfalso
        obtain ⟨i, w, r1, r2, r3⟩ := h.2.2.1 k q.2
        have : i = j + 1 := by omega
        subst this
        rw [q2] at r2; cases r2
      · exact absurd (by omega : j = k + 1) e'
end Jvm.OwnMini
namespace Jvm.OwnMini
open Jvm Jvm.ClassFile Sem Op Lib Jvm.Free Jvm.Stand Jvm.LawKit Jvm.RoadKit
set_option maxHeartbeats 4000000 in
theorem pstep_sound {p : Program} {l : Launch} {e : Env} {R : Room} {s : State} {m : MethodId} {args : Array Value} {below : List Frame} {meth : Method} {c : Code} {T : State} {locs : List Loc} {cells slots : Nat}
    (X : Stand p l e R s m args below meth c T locs cells slots) (hx : p.tables.exec = Jvm.exec) {own : String} (hown : s.vm.findClass own = some m.cls) {cst : Nat → Option OV}
    (hcst : (∀ x z, cst x = some (.inl z) → ∃ v : Int32, (Jvm.Cond.constant own x v).before args s = true ∧ v.toInt = z) ∧ (∀ x z, cst x = some (.inr (.inl z)) → ∃ v : Int64, (Jvm.Cond.constantLong own x v).before args s = true ∧ v.toInt = z))
    {A : Nat → Addr} {b : Nat} {L : OLs} {Ls : Array Slot} {S : List OV} {St : List Value} (hL : LR A b L Ls) (hS : SR A b S St) {i : Instr} {pc len : Nat} (hd : decode c.code pc = .ok (i, len)) (hchk : chk pc i len = true)
    {β : Type} {k : Nat → OLs → List OV → Option β} {r : β} (h : pstep cst i pc len L S k = some r) :
    ∃ pc' L' S' Ls' St', k pc' L' S' = some r ∧ LR A b L' Ls' ∧ SR A b S' St' ∧ Ls'.size = Ls.size ∧ ∀ target, Steps p.tables e below (T.setTop (mkF m pc' Ls' St')) target → Steps p.tables e below (T.setTop (mkF m pc Ls St)) target := by
  cases i
  case iconst z =>
    have hc : (len = 1 ∧ -32768 ≤ z) ∧ z ≤ 32767 := by simpa [chk] using hchk
    obtain ⟨⟨rfl, h1⟩, h2⟩ := hc
    exact ⟨_, _, _, _, _, h, hL, SR.ci (Int32.toInt_ofInt_of_le (by omega) (by omega)) hS, rfl, fun target hr => XS.iconst X.here hx rfl hd hr⟩
  case bipush z =>
    have hc : (len = 2 ∧ -128 ≤ z) ∧ z ≤ 127 := by simpa [chk] using hchk
    obtain ⟨⟨rfl, h1⟩, h2⟩ := hc
    exact ⟨_, _, _, _, _, h, hL, SR.ci (by rw [Int8.toInt_toInt32, Int8.toInt_ofInt_of_le (by omega) (by omega)]) hS, rfl, fun target hr => XS.bipush X.here hx rfl hd hr⟩
  case sipush z =>
    have hc : (len = 3 ∧ -32768 ≤ z) ∧ z ≤ 32767 := by simpa [chk] using hchk
    obtain ⟨⟨rfl, h1⟩, h2⟩ := hc
    exact ⟨_, _, _, _, _, h, hL, SR.ci (by rw [Int16.toInt_toInt32, Int16.toInt_ofInt_of_le (by omega) (by omega)]) hS, rfl, fun target hr => XS.sipush X.here hx rfl hd hr⟩
  case lconst z =>
    obtain rfl : len = 1 := by simpa [chk, ilen] using hchk
    refine ⟨_, _, _, _, _, h, hL, SR.cj (y := Int64.ofNat z.val) ?_ hS, rfl, fun target hr => XT.lconst X.here hx rfl hd hr⟩
    match z with
    | ⟨0, _⟩ => rfl
    | ⟨1, _⟩ => rfl
  case ldc x =>
    obtain rfl : len = 2 := by simpa [chk, ilen] using hchk
    simp only [pstep] at h
    cases hq : cst x with
    | none => simp [hq] at h
    | some v =>
      cases v with
      | inr v => simp [hq] at h
      | inl z =>
        simp only [hq] at h
        obtain ⟨cv, hcv, rfl⟩ := hcst.1 x z hq
        exact ⟨_, _, _, _, _, h, hL, SR.ci rfl hS, rfl, fun target hr => X.ldcI hx hown hcv rfl hd hr⟩
  case ldc_w x =>
    obtain rfl : len = 3 := by simpa [chk, ilen] using hchk
    simp only [pstep] at h
    cases hq : cst x with
    | none => simp [hq] at h
    | some v =>
      cases v with
      | inr v => simp [hq] at h
      | inl z =>
        simp only [hq] at h
        obtain ⟨cv, hcv, rfl⟩ := hcst.1 x z hq
        exact ⟨_, _, _, _, _, h, hL, SR.ci rfl hS, rfl, fun target hr => X.ldcWI hx hown hcv rfl hd hr⟩
  case ldc2_w x =>
    obtain rfl : len = 3 := by simpa [chk, ilen] using hchk
    simp only [pstep] at h
    cases hq : cst x with
    | none => simp [hq] at h
    | some v =>
      cases v with
      | inl z => simp [hq] at h
      | inr v =>
        cases v with
        | inr z => simp [hq] at h
        | inl z =>
          simp only [hq] at h
          obtain ⟨cv, hcv, rfl⟩ := hcst.2 x z hq
          exact ⟨_, _, _, _, _, h, hL, SR.cj rfl hS, rfl, fun target hr => X.ldc2J hx hown hcv rfl hd hr⟩
  case iload x =>
    obtain rfl : len = 2 := by simpa [chk, ilen] using hchk
    obtain ⟨z, hg, h⟩ := gi_some h
    obtain ⟨w, hw, hv⟩ := hL.2.1 _ _ hg
    obtain ⟨y, rfl, rfl⟩ := hv
    exact ⟨_, _, _, _, _, h, hL, SR.ci rfl hS, rfl, fun target hr => XS.iload X.here hx rfl hd hw hr⟩
  case iload_n x =>
    obtain rfl : len = 1 := by simpa [chk, ilen] using hchk
    obtain ⟨z, hg, h⟩ := gi_some h
    obtain ⟨w, hw, hv⟩ := hL.2.1 _ _ hg
    obtain ⟨y, rfl, rfl⟩ := hv
    exact ⟨_, _, _, _, _, h, hL, SR.ci rfl hS, rfl, fun target hr => XS.iloadN X.here hx rfl hd hw hr⟩
  case lload x =>
    obtain rfl : len = 2 := by simpa [chk, ilen] using hchk
    obtain ⟨z, hg, h⟩ := gl_some h
    obtain ⟨w, hw, hv⟩ := hL.2.1 _ _ hg
    obtain ⟨y, rfl, rfl⟩ := hv
    exact ⟨_, _, _, _, _, h, hL, SR.cj rfl hS, rfl, fun target hr => XT.lload X.here hx rfl hd hw hr⟩
  case lload_n x =>
    obtain rfl : len = 1 := by simpa [chk, ilen] using hchk
    obtain ⟨z, hg, h⟩ := gl_some h
    obtain ⟨w, hw, hv⟩ := hL.2.1 _ _ hg
    obtain ⟨y, rfl, rfl⟩ := hv
    exact ⟨_, _, _, _, _, h, hL, SR.cj rfl hS, rfl, fun target hr => XT.lloadN X.here hx rfl hd hw hr⟩
  case aload x =>
    obtain rfl : len = 2 := by simpa [chk, ilen] using hchk
    obtain ⟨z, hg, h⟩ := gr_some h
    obtain ⟨w, hw, hv⟩ := hL.2.1 _ _ hg
    obtain ⟨hb, rfl⟩ := hv
    exact ⟨_, _, _, _, _, h, hL, SR.cr hb hS, rfl, fun target hr => XS.aload X.here hx rfl hd hw rfl hr⟩
  case aload_n x =>
    obtain rfl : len = 1 := by simpa [chk, ilen] using hchk
    obtain ⟨z, hg, h⟩ := gr_some h
    obtain ⟨w, hw, hv⟩ := hL.2.1 _ _ hg
    obtain ⟨hb, rfl⟩ := hv
    exact ⟨_, _, _, _, _, h, hL, SR.cr hb hS, rfl, fun target hr => XS.aloadN X.here hx rfl hd hw rfl hr⟩
  case istore x =>
    obtain rfl : len = 2 := by simpa [chk, ilen] using hchk
    obtain ⟨z, S', rfl, h⟩ := pi1_some h
    obtain ⟨hk, h⟩ := inL_some h
    obtain ⟨y, St', rfl, hy, hS'⟩ := SR.i1 hS
    obtain ⟨Ls', hst, hL', hsz⟩ := hL.st1 hk (v := vi z) (x := .int y) ⟨y, rfl, hy⟩ rfl
    exact ⟨_, _, _, _, _, h, hL', hS', hsz, fun target hr => XS.istore X.here hx rfl hd rfl hst hr⟩
  case istore_n x =>
    obtain rfl : len = 1 := by simpa [chk, ilen] using hchk
    obtain ⟨z, S', rfl, h⟩ := pi1_some h
    obtain ⟨hk, h⟩ := inL_some h
    obtain ⟨y, St', rfl, hy, hS'⟩ := SR.i1 hS
    obtain ⟨Ls', hst, hL', hsz⟩ := hL.st1 hk (v := vi z) (x := .int y) ⟨y, rfl, hy⟩ rfl
    exact ⟨_, _, _, _, _, h, hL', hS', hsz, fun target hr => XS.istoreN X.here hx rfl hd rfl hst hr⟩
  case lstore x =>
    obtain rfl : len = 2 := by simpa [chk, ilen] using hchk
    obtain ⟨z, S', rfl, h⟩ := pl1_some h
    obtain ⟨hk, h⟩ := inL_some h
    obtain ⟨y, St', rfl, hy, hS'⟩ := SR.l1 hS
    obtain ⟨Ls', hst, hL', hsz⟩ := hL.st2 hk (v := vl z) (x := .long y) ⟨y, rfl, hy⟩ rfl
    exact ⟨_, _, _, _, _, h, hL', hS', hsz, fun target hr => XT.lstore X.here hx rfl hd rfl hst hr⟩
  case lstore_n x =>
    obtain rfl : len = 1 := by simpa [chk, ilen] using hchk
    obtain ⟨z, S', rfl, h⟩ := pl1_some h
    obtain ⟨hk, h⟩ := inL_some h
    obtain ⟨y, St', rfl, hy, hS'⟩ := SR.l1 hS
    obtain ⟨Ls', hst, hL', hsz⟩ := hL.st2 hk (v := vl z) (x := .long y) ⟨y, rfl, hy⟩ rfl
    exact ⟨_, _, _, _, _, h, hL', hS', hsz, fun target hr => XT.lstoreN X.here hx rfl hd rfl hst hr⟩
  case astore x =>
    obtain rfl : len = 2 := by simpa [chk, ilen] using hchk
    obtain ⟨z, S', rfl, h⟩ := pr1_some h
    obtain ⟨hk, h⟩ := inL_some h
    obtain ⟨hb, St', rfl, hS'⟩ := SR.r1 hS
    obtain ⟨Ls', hst, hL', hsz⟩ := hL.st1 hk (v := vr z) (x := .ref (A z)) ⟨hb, rfl⟩ rfl
    exact ⟨_, _, _, _, _, h, hL', hS', hsz, fun target hr => XS.astore X.here hx rfl hd rfl rfl hst hr⟩
  case astore_n x =>
    obtain rfl : len = 1 := by simpa [chk, ilen] using hchk
    obtain ⟨z, S', rfl, h⟩ := pr1_some h
    obtain ⟨hk, h⟩ := inL_some h
    obtain ⟨hb, St', rfl, hS'⟩ := SR.r1 hS
    obtain ⟨Ls', hst, hL', hsz⟩ := hL.st1 hk (v := vr z) (x := .ref (A z)) ⟨hb, rfl⟩ rfl
    exact ⟨_, _, _, _, _, h, hL', hS', hsz, fun target hr => XS.astoreN X.here hx rfl hd rfl rfl hst hr⟩
  case iinc x z =>
    have hc : (len = 3 ∧ -32768 ≤ z) ∧ z ≤ 32767 := by simpa [chk] using hchk
    obtain ⟨⟨rfl, h1⟩, h2⟩ := hc
    obtain ⟨a, hg, h⟩ := gi_some h
    obtain ⟨hk, h⟩ := inL_some h
    obtain ⟨w, hw, y, rfl, rfl⟩ := hL.2.1 _ _ hg
    obtain ⟨Ls', hst, hL', hsz⟩ := hL.st1 hk (v := vi (w32 (y.toInt + z))) (x := .int (y + Int32.ofInt z)) ⟨_, rfl, by rw [Int32.toInt_add, Int32.toInt_ofInt_of_le (by omega) (by omega), w32_eq]⟩ rfl
    exact ⟨_, _, _, _, _, h, hL', hS, hsz, fun target hr => XS.iinc X.here hx rfl hd hw hst hr⟩
  case iadd =>
    obtain rfl : len = 1 := by simpa [chk, ilen] using hchk
    obtain ⟨a, b', S', rfl, h⟩ := pi2_some h
    obtain ⟨y, x, St', rfl, rfl, rfl, hS'⟩ := SR.i2 hS
    exact ⟨_, _, _, _, _, h, hL, SR.ci (by rw [Int32.toInt_add, w32_eq]) hS', rfl, fun target hr => XS.iadd X.here hx rfl hd rfl hr⟩
  case isub =>
    obtain rfl : len = 1 := by simpa [chk, ilen] using hchk
    obtain ⟨a, b', S', rfl, h⟩ := pi2_some h
    obtain ⟨y, x, St', rfl, rfl, rfl, hS'⟩ := SR.i2 hS
    exact ⟨_, _, _, _, _, h, hL, SR.ci (by rw [Int32.toInt_sub, w32_eq]) hS', rfl, fun target hr => XS.isub X.here hx rfl hd rfl hr⟩
  case imul =>
    obtain rfl : len = 1 := by simpa [chk, ilen] using hchk
    obtain ⟨a, b', S', rfl, h⟩ := pi2_some h
    obtain ⟨y, x, St', rfl, rfl, rfl, hS'⟩ := SR.i2 hS
    exact ⟨_, _, _, _, _, h, hL, SR.ci (by rw [Int32.toInt_mul, w32_eq]) hS', rfl, fun target hr => XS.imul X.here hx rfl hd rfl hr⟩
  case idiv =>
    obtain rfl : len = 1 := by simpa [chk, ilen] using hchk
    obtain ⟨a, b', S', rfl, h⟩ := pi2_some h
    obtain ⟨y, x, St', rfl, rfl, rfl, hS'⟩ := SR.i2 hS
    simp only [pstep, pi2] at h
    by_cases hz : y.toInt = 0
    · simp [hz] at h
    rw [if_neg hz] at h
    have hy : y ≠ 0 := fun q => hz (by rw [q]; rfl)
    exact ⟨_, _, _, _, _, h, hL, SR.ci (by rw [Int32.toInt_div, div32, w32_eq]) hS', rfl, fun target hr => XS.idiv X.here hx rfl hd rfl hy hr⟩
  case irem =>
    obtain rfl : len = 1 := by simpa [chk, ilen] using hchk
    obtain ⟨a, b', S', rfl, h⟩ := pi2_some h
    obtain ⟨y, x, St', rfl, rfl, rfl, hS'⟩ := SR.i2 hS
    simp only [pstep, pi2] at h
    by_cases hz : y.toInt = 0
    · simp [hz] at h
    rw [if_neg hz] at h
    have hy : y ≠ 0 := fun q => hz (by rw [q]; rfl)
    exact ⟨_, _, _, _, _, h, hL, SR.ci (by rw [Int32.toInt_mod, rem32]) hS', rfl, fun target hr => iremM X hx rfl hd rfl hy hr⟩
  case iand =>
    obtain rfl : len = 1 := by simpa [chk, ilen] using hchk
    obtain ⟨a, b', S', rfl, h⟩ := pi2_some h
    obtain ⟨y, x, St', rfl, rfl, rfl, hS'⟩ := SR.i2 hS
    exact ⟨_, _, _, _, _, h, hL, SR.ci (by simp only [and32, Int32.ofInt_toInt]) hS', rfl, fun target hr => XS.iand X.here hx rfl hd rfl hr⟩
  case ior =>
    obtain rfl : len = 1 := by simpa [chk, ilen] using hchk
    obtain ⟨a, b', S', rfl, h⟩ := pi2_some h
    obtain ⟨y, x, St', rfl, rfl, rfl, hS'⟩ := SR.i2 hS
    exact ⟨_, _, _, _, _, h, hL, SR.ci (by simp only [or32, Int32.ofInt_toInt]) hS', rfl, fun target hr => XT.ior X.here hx rfl hd rfl hr⟩
  case ixor =>
    obtain rfl : len = 1 := by simpa [chk, ilen] using hchk
    obtain ⟨a, b', S', rfl, h⟩ := pi2_some h
    obtain ⟨y, x, St', rfl, rfl, rfl, hS'⟩ := SR.i2 hS
    exact ⟨_, _, _, _, _, h, hL, SR.ci (by simp only [xor32, Int32.ofInt_toInt]) hS', rfl, fun target hr => XT.ixor X.here hx rfl hd rfl hr⟩
  case ishl =>
    obtain rfl : len = 1 := by simpa [chk, ilen] using hchk
    obtain ⟨a, b', S', rfl, h⟩ := pi2_some h
    obtain ⟨y, x, St', rfl, rfl, rfl, hS'⟩ := SR.i2 hS
    exact ⟨_, _, _, _, _, h, hL, SR.ci (by simp only [shl32, Int32.ofInt_toInt]) hS', rfl, fun target hr => XT.ishl X.here hx rfl hd rfl hr⟩
  case ishr =>
    obtain rfl : len = 1 := by simpa [chk, ilen] using hchk
    obtain ⟨a, b', S', rfl, h⟩ := pi2_some h
    obtain ⟨y, x, St', rfl, rfl, rfl, hS'⟩ := SR.i2 hS
    exact ⟨_, _, _, _, _, h, hL, SR.ci (by simp only [shr32, Int32.ofInt_toInt]) hS', rfl, fun target hr => XT.ishr X.here hx rfl hd rfl hr⟩
  case iushr =>
    obtain rfl : len = 1 := by simpa [chk, ilen] using hchk
    obtain ⟨a, b', S', rfl, h⟩ := pi2_some h
    obtain ⟨y, x, St', rfl, rfl, rfl, hS'⟩ := SR.i2 hS
    exact ⟨_, _, _, _, _, h, hL, SR.ci (by simp only [ushr32, Int32.ofInt_toInt]) hS', rfl, fun target hr => XT.iushr X.here hx rfl hd rfl hr⟩
  case ladd =>
    obtain rfl : len = 1 := by simpa [chk, ilen] using hchk
    obtain ⟨a, b', S', rfl, h⟩ := pl2_some h
    obtain ⟨y, x, St', rfl, rfl, rfl, hS'⟩ := SR.l2 hS
    exact ⟨_, _, _, _, _, h, hL, SR.cj (by rw [Int64.toInt_add, w64_eq]) hS', rfl, fun target hr => XT.ladd X.here hx rfl hd rfl hr⟩
  case lsub =>
    obtain rfl : len = 1 := by simpa [chk, ilen] using hchk
    obtain ⟨a, b', S', rfl, h⟩ := pl2_some h
    obtain ⟨y, x, St', rfl, rfl, rfl, hS'⟩ := SR.l2 hS
    exact ⟨_, _, _, _, _, h, hL, SR.cj (by rw [Int64.toInt_sub, w64_eq]) hS', rfl, fun target hr => XT.lsub X.here hx rfl hd rfl hr⟩
  case lmul =>
    obtain rfl : len = 1 := by simpa [chk, ilen] using hchk
    obtain ⟨a, b', S', rfl, h⟩ := pl2_some h
    obtain ⟨y, x, St', rfl, rfl, rfl, hS'⟩ := SR.l2 hS
    exact ⟨_, _, _, _, _, h, hL, SR.cj (by rw [Int64.toInt_mul, w64_eq]) hS', rfl, fun target hr => XT.lmul X.here hx rfl hd rfl hr⟩
  case ldiv =>
    obtain rfl : len = 1 := by simpa [chk, ilen] using hchk
    obtain ⟨a, b', S', rfl, h⟩ := pl2_some h
    obtain ⟨y, x, St', rfl, rfl, rfl, hS'⟩ := SR.l2 hS
    simp only [pstep, pl2] at h
    by_cases hz : y.toInt = 0
    · simp [hz] at h
    rw [if_neg hz] at h
    have hy : y ≠ 0 := fun q => hz (by rw [q]; rfl)
    exact ⟨_, _, _, _, _, h, hL, SR.cj (by rw [Int64.toInt_div, div64, w64_eq]) hS', rfl, fun target hr => XT.ldiv X.here hx rfl hd rfl hy hr⟩
  case lrem =>
    obtain rfl : len = 1 := by simpa [chk, ilen] using hchk
    obtain ⟨a, b', S', rfl, h⟩ := pl2_some h
    obtain ⟨y, x, St', rfl, rfl, rfl, hS'⟩ := SR.l2 hS
    simp only [pstep, pl2] at h
    by_cases hz : y.toInt = 0
    · simp [hz] at h
    rw [if_neg hz] at h
    have hy : y ≠ 0 := fun q => hz (by rw [q]; rfl)
    exact ⟨_, _, _, _, _, h, hL, SR.cj (by rw [lrem_mod, Int64.toInt_mod, rem64]) hS', rfl, fun target hr => XT.lrem X.here hx rfl hd rfl hy hr⟩
  case land =>
    obtain rfl : len = 1 := by simpa [chk, ilen] using hchk
    obtain ⟨a, b', S', rfl, h⟩ := pl2_some h
    obtain ⟨y, x, St', rfl, rfl, rfl, hS'⟩ := SR.l2 hS
    exact ⟨_, _, _, _, _, h, hL, SR.cj (by simp only [and64, Int64.ofInt_toInt]) hS', rfl, fun target hr => XT.land X.here hx rfl hd rfl hr⟩
  case lor =>
    obtain rfl : len = 1 := by simpa [chk, ilen] using hchk
    obtain ⟨a, b', S', rfl, h⟩ := pl2_some h
    obtain ⟨y, x, St', rfl, rfl, rfl, hS'⟩ := SR.l2 hS
    exact ⟨_, _, _, _, _, h, hL, SR.cj (by simp only [or64, Int64.ofInt_toInt]) hS', rfl, fun target hr => XT.lor X.here hx rfl hd rfl hr⟩
  case lxor =>
    obtain rfl : len = 1 := by simpa [chk, ilen] using hchk
    obtain ⟨a, b', S', rfl, h⟩ := pl2_some h
    obtain ⟨y, x, St', rfl, rfl, rfl, hS'⟩ := SR.l2 hS
    exact ⟨_, _, _, _, _, h, hL, SR.cj (by simp only [xor64, Int64.ofInt_toInt]) hS', rfl, fun target hr => XT.lxor X.here hx rfl hd rfl hr⟩
  case lshl =>
    obtain rfl : len = 1 := by simpa [chk, ilen] using hchk
    obtain ⟨a, b', S', rfl, h⟩ := pli_some h
    obtain ⟨y, x, St', rfl, rfl, rfl, hS'⟩ := SR.li hS
    exact ⟨_, _, _, _, _, h, hL, SR.cj (by simp only [shl64, Int64.ofInt_toInt, Int32.ofInt_toInt]) hS', rfl, fun target hr => XT.lshl X.here hx rfl hd rfl hr⟩
  case lshr =>
    obtain rfl : len = 1 := by simpa [chk, ilen] using hchk
    obtain ⟨a, b', S', rfl, h⟩ := pli_some h
    obtain ⟨y, x, St', rfl, rfl, rfl, hS'⟩ := SR.li hS
    exact ⟨_, _, _, _, _, h, hL, SR.cj (by simp only [shr64, Int64.ofInt_toInt, Int32.ofInt_toInt]) hS', rfl, fun target hr => XT.lshr X.here hx rfl hd rfl hr⟩
  case lushr =>
    obtain rfl : len = 1 := by simpa [chk, ilen] using hchk
    obtain ⟨a, b', S', rfl, h⟩ := pli_some h
    obtain ⟨y, x, St', rfl, rfl, rfl, hS'⟩ := SR.li hS
    exact ⟨_, _, _, _, _, h, hL, SR.cj (by simp only [ushr64, Int64.ofInt_toInt, Int32.ofInt_toInt]) hS', rfl, fun target hr => XT.lushr X.here hx rfl hd rfl hr⟩
  case lcmp =>
    obtain rfl : len = 1 := by simpa [chk, ilen] using hchk
    obtain ⟨a, b', S', rfl, h⟩ := pl2_some h
    obtain ⟨y, x, St', rfl, rfl, rfl, hS'⟩ := SR.l2 hS
    exact ⟨_, _, _, _, _, h, hL, SR.ci (cmpL_toInt _ _) hS', rfl, fun target hr => XT.lcmp X.here hx rfl hd rfl hr⟩
  case ineg =>
    obtain rfl : len = 1 := by simpa [chk, ilen] using hchk
    obtain ⟨a, S', rfl, h⟩ := pi1_some h
    obtain ⟨y, St', rfl, rfl, hS'⟩ := SR.i1 hS
    exact ⟨_, _, _, _, _, h, hL, SR.ci (by rw [Int32.toInt_neg, w32_eq]) hS', rfl, fun target hr => XS.ineg X.here hx rfl hd rfl hr⟩
  case lneg =>
    obtain rfl : len = 1 := by simpa [chk, ilen] using hchk
    obtain ⟨a, S', rfl, h⟩ := pl1_some h
    obtain ⟨y, St', rfl, rfl, hS'⟩ := SR.l1 hS
    exact ⟨_, _, _, _, _, h, hL, SR.cj (by rw [Int64.toInt_neg, w64_eq]) hS', rfl, fun target hr => XT.lneg X.here hx rfl hd rfl hr⟩
  case i2l =>
    obtain rfl : len = 1 := by simpa [chk, ilen] using hchk
    obtain ⟨a, S', rfl, h⟩ := pi1_some h
    obtain ⟨y, St', rfl, rfl, hS'⟩ := SR.i1 hS
    exact ⟨_, _, _, _, _, h, hL, SR.cj (Int32.toInt_toInt64 _) hS', rfl, fun target hr => XT.i2l X.here hx rfl hd rfl hr⟩
  case l2i =>
    obtain rfl : len = 1 := by simpa [chk, ilen] using hchk
    obtain ⟨a, S', rfl, h⟩ := pl1_some h
    obtain ⟨y, St', rfl, rfl, hS'⟩ := SR.l1 hS
    exact ⟨_, _, _, _, _, h, hL, SR.ci (by rw [Int64.toInt_toInt32, w32_eq]) hS', rfl, fun target hr => XT.l2i X.here hx rfl hd rfl hr⟩
  case i2b =>
    obtain rfl : len = 1 := by simpa [chk, ilen] using hchk
    obtain ⟨a, S', rfl, h⟩ := pi1_some h
    obtain ⟨y, St', rfl, rfl, hS'⟩ := SR.i1 hS
    exact ⟨_, _, _, _, _, h, hL, SR.ci (b8_eq _) hS', rfl, fun target hr => XT.i2b X.here hx rfl hd rfl hr⟩
  case goto o =>
    have hc : len = 3 ∧ 0 ≤ (pc : Int) + o := by simpa [chk] using hchk
    obtain ⟨rfl, h1⟩ := hc
    exact ⟨_, _, _, _, _, h, hL, hS, rfl, fun target hr => XS.goto X.here hx rfl rfl hd h1 rfl hr⟩
  case if_icmp c o =>
    have hc : len = 3 ∧ 0 ≤ (pc : Int) + o := by simpa [chk] using hchk
    obtain ⟨rfl, h1⟩ := hc
    obtain ⟨a, b', S', rfl, h⟩ := pi2_some h
    obtain ⟨y, x, St', rfl, rfl, rfl, hS'⟩ := SR.i2 hS
    rcases br_some h with ⟨hq, h⟩ | ⟨hq, h⟩
    · exact ⟨_, _, _, _, _, h, hL, hS', rfl, fun target hr => XS.icmpYes X.here hx rfl rfl hd rfl (icmp_holds hq) h1 rfl hr⟩
    · exact ⟨_, _, _, _, _, h, hL, hS', rfl, fun target hr => XS.icmpNo X.here hx rfl hd rfl (icmp_fails hq) hr⟩
  case ifCond c o =>
    have hc : len = 3 ∧ 0 ≤ (pc : Int) + o := by simpa [chk] using hchk
    obtain ⟨rfl, h1⟩ := hc
    obtain ⟨a, S', rfl, h⟩ := pi1_some h
    obtain ⟨x, St', rfl, rfl, hS'⟩ := SR.i1 hS
    rcases br_some h with ⟨hq, h⟩ | ⟨hq, h⟩
    · exact ⟨_, _, _, _, _, h, hL, hS', rfl, fun target hr => XS.ifYes X.here hx rfl rfl hd rfl (by rw [if0]; exact icmp_holds (y := 0) hq) h1 rfl hr⟩
    · exact ⟨_, _, _, _, _, h, hL, hS', rfl, fun target hr => XS.ifNo X.here hx rfl hd rfl (by rw [if0]; exact icmp_fails (y := 0) hq) hr⟩
  case tableswitch d lo hi os =>
    have hc : (((0 ≤ (pc : Int) + d ∧ ∀ o ∈ os.toList, 0 ≤ (pc : Int) + o) ∧ hi = lo + os.toList.length - 1) ∧ -2147483648 ≤ lo) ∧ hi ≤ 2147483647 := by simpa only [chk, Bool.and_eq_true, decide_eq_true_eq, List.all_eq_true] using hchk
    obtain ⟨⟨⟨⟨h1, h2⟩, h3⟩, h4⟩, h5⟩ := hc
    obtain ⟨a, S', rfl, h⟩ := pi1_some h
    obtain ⟨x, St', rfl, rfl, hS'⟩ := SR.i1 hS
    rcases tsw_some _ _ _ h with ⟨o, n, hn, ho, h⟩ | ⟨hout, h⟩
    · refine ⟨_, _, _, _, _, h, hL, hS', rfl, fun target hr => XS.tswIn X.here hx rfl rfl hd rfl (o := o) ?_ ?_ (h2 o (List.mem_of_getElem? ho)) rfl hr⟩
      · have := (List.getElem?_eq_some_iff.mp ho).1
        omega
      · have e : (x.toInt - lo).toNat = n := by omega
        rw [e, ← Array.getElem?_toList]; exact ho
    · refine ⟨_, _, _, _, _, h, hL, hS', rfl, fun target hr => XS.tswOut X.here hx rfl rfl hd rfl ?_ h1 rfl hr⟩
      omega
  case dup =>
    obtain rfl : len = 1 := by simpa [chk, ilen] using hchk
    obtain ⟨v, S', rfl, hv, h⟩ := dup_some h
    cases St with
    | nil => exact hS.elim
    | cons x St' =>
      obtain ⟨h1, h2⟩ := hS
      exact ⟨_, _, _, _, _, h, hL, SR.cv h1 (SR.cv h1 h2), rfl, fun target hr => XS.dup X.here hx rfl hd rfl (h1.cat hv) hr⟩
  case pop =>
    obtain rfl : len = 1 := by simpa [chk, ilen] using hchk
    obtain ⟨v, S', rfl, hv, h⟩ := pop_some h
    cases St with
    | nil => exact hS.elim
    | cons x St' =>
      obtain ⟨h1, h2⟩ := hS
      exact ⟨_, _, _, _, _, h, hL, h2, rfl, fun target hr => XT.pop X.here hx rfl hd rfl (h1.cat hv) hr⟩
  case dup2 =>
    obtain rfl : len = 1 := by simpa [chk, ilen] using hchk
    rcases dup2_some h with ⟨z, S', rfl, h⟩ | ⟨u, v, S', rfl, hu, hv, h⟩
    · obtain ⟨y, St', rfl, hy, hS'⟩ := SR.l1 hS
      exact ⟨_, _, _, _, _, h, hL, SR.cj hy (SR.cj hy hS'), rfl, fun target hr => XT.dup2L X.here hx rfl hd rfl hr⟩
    · match St, hS with
      | x :: y :: St', ⟨h1, h2, h3⟩ => exact ⟨_, _, _, _, _, h, hL, SR.cv h1 (SR.cv h2 (SR.cv h1 (SR.cv h2 h3))), rfl, fun target hr => XT.dup2 X.here hx rfl hd rfl (h1.cat hu) (h2.cat hv) hr⟩
  all_goals cases h
end Jvm.OwnMini
namespace Jvm.OwnMini
open Jvm Jvm.ClassFile Sem Op Lib Jvm.Free Jvm.Stand Jvm.LawKit Jvm.RoadKit
/-! How an object of the small machine lies in the JVM's heap. -/
def rty : Nat → Option FieldType
  | 1 => some .int
  | 2 => some .boolean
  | 4 => some .long
  | _ => none
def kty : Nat → FieldType
  | 2 => .boolean
  | 3 => .byte
  | 4 => .long
  | _ => .int
def EV (kd : Nat) (v : Value) (z : Int) : Prop := (kd = 4 ∧ ∃ x : Int64, v = .long x ∧ x.toInt = z) ∨ (kd ≠ 4 ∧ ∃ x : Int32, v = .int x ∧ x.toInt = z)
def AOK (Z : State) (h : Heap) (a : Addr) (kd : Nat) (n : Int) (f : Int → Int) : Prop := ∃ c : Cell, Arr Z h a c (kty kd) ∧ (c.slots.size : Int) = n ∧ ∀ i : Nat, i < c.slots.size → ∃ v, c.slots[i]? = some v ∧ EV kd v (f i)
abbrev FK := Int → Option (Nat × Nat × Bool)
abbrev FN := Int → String × String
def RepO (P : PT) (C : String) (fnm : FN) (fkd : FK) (Z : State) (h : Heap) (A : Nat → Addr) (n0 t : Nat) (m : OMem) : Prop :=
  Exa Z h (A 0) C ∧ n0 ≤ A 0 ∧
  (∀ f kd j fin, fkd f = some (kd, j, fin) → ∃ v, Fld Z h (A 0) C (fnm f).1 (fnm f).2 v ∧ (kd = 0 → j ≤ t / 2 → v = .ref (A j)) ∧ (kd ≠ 0 → EV kd v (m 0 f))) ∧
  (∀ j, 1 ≤ j → j ≤ (t + 1) / 2 → n0 ≤ A j ∧ ∃ kd n, play P j = some (kd, n) ∧ AOK Z h (A j) kd n (m j)) ∧
  (∀ j j', j ≤ (t + 1) / 2 → j' ≤ (t + 1) / 2 → A j = A j' → j = j') ∧
  (∀ j, (t + 1) / 2 < j → ∀ i, m j i = 0)
def psum (P : PT) : Nat → Nat
  | 0 => 0
  | j + 1 => psum P j + (match play P (j + 1) with | some (_, n) => n.toNat | none => 0)
def fty (P : PT) (kd j : Nat) : FieldType := match kd with
  | 0 => .array (match play P j with | some (k, _) => kty k | none => .int)
  | k => kty k
def TabP (P : PT) (C : String) (fnm : FN) (fkd : FK) (nm : Nat → MethodName) (bys : Nat → ByteArray) (nA nf : Nat) (a0 : Array Value) (Z : State) : Prop :=
  (∀ q pc i len, pcode P q pc = some (i, len) → decode (bys q) pc = .ok (i, len) ∧ chk pc i len = true) ∧
  (∀ x f kd j fin, pfld P x = some (f, kd, j, fin) → (Jvm.Cond.fieldLink C x C (fnm f).1 (fnm f).2).before a0 Z = true ∧ fkd f = some (kd, j, fin)) ∧
  (∀ f kd j fin, fkd f = some (kd, j, fin) → ((fin = false ∧ (Jvm.Cond.lays C C (fnm f).1 (fnm f).2).before a0 Z = true) ∨ (fin = true ∧ (Jvm.Cond.laysFinal C C (fnm f).1 (fnm f).2).before a0 Z = true)) ∧ parseFieldDescriptor (fnm f).2 = some (fty P kd j) ∧ (kd = 0 → 1 ≤ j) ∧ kd ≤ 4) ∧
  (∀ f f' x x', fkd f = some x → fkd f' = some x' → f ≠ f' → (fnm f).1 ≠ (fnm f').1) ∧
  (∀ f f' j fin fin', fkd f = some (0, j, fin) → fkd f' = some (0, j, fin') → f = f') ∧
  (∀ j kd n, play P j = some (kd, n) → 1 ≤ j ∧ j ≤ nA ∧ 0 ≤ n ∧ n ≤ 60000000 ∧ (kd = 1 ∨ kd = 2 ∨ kd = 3 ∨ kd = 4) ∧ (Jvm.Cond.arrayClass (kty kd)).before a0 Z = true) ∧
  ((∀ x z, pcst P x = some (.inl z) → ∃ v : Int32, (Jvm.Cond.constant C x v).before a0 Z = true ∧ v.toInt = z) ∧ (∀ x z, pcst P x = some (.inr (.inl z)) → ∃ v : Int64, (Jvm.Cond.constantLong C x v).before a0 Z = true ∧ v.toInt = z)) ∧
  (∀ x q, pmth P x = some q → (Jvm.Cond.methodLink C x (nm q)).before a0 Z = true) ∧
  (∀ q ps ml rk fr lc, pinf P q = some (ps, ml, rk, fr, lc) → (nm q).cls = C ∧ (Jvm.Cond.instanceMethod (nm q)).before a0 Z = true ∧ (Jvm.Cond.code (nm q) (bys q) ml (rty rk)).before a0 Z = true ∧
    (q ≠ 0 → (Jvm.Cond.privateMethod (nm q)).before a0 Z = true ∨ ((Jvm.Cond.declares (nm q)).before a0 Z = true ∧ (Jvm.Cond.selects C (nm q) (nm q)).before a0 Z = true)) ∧ ∃ params, parseMethodDescriptor (nm q).desc = some ⟨params, rty rk⟩ ∧ params.length = ps.length) ∧
  (∀ x, pobi P x = true → (Jvm.Cond.methodLink C x Lib.objectInit).before a0 Z = true) ∧
  ((Jvm.Cond.instanceMethod Lib.objectInit).before a0 Z = true ∧ (Jvm.Cond.code Lib.objectInit ⟨#[0xb1]⟩ 1 none).before a0 Z = true) ∧
  (Jvm.Cond.instantiable C nf).before a0 Z = true ∧ (Jvm.Cond.initialized C).before a0 Z = true ∧ plainName C = true ∧ (C ≠ "java/lang/invoke/MethodHandle" ∧ C ≠ "java/lang/invoke/VarHandle") ∧ (nm 0).name = "<init>" ∧
  (∀ ps ml rk fr lc, pinf P 0 = some (ps, ml, rk, fr, lc) → rk = 0)
section Rep
variable {P : PT} {C : String} {fnm : FN} {fkd : FK} {nm : Nat → MethodName} {bys : Nat → ByteArray} {nA nf : Nat} {a0 : Array Value} {Z : State} {h h' : Heap} {A : Nat → Addr} {n0 t : Nat} {m : OMem}
theorem TabP.laid (HT : TabP P C fnm fkd nm bys nA nf a0 Z) {f : Int} {kd j : Nat} {fin : Bool} (hf : fkd f = some (kd, j, fin)) : Laid Z a0 C C (fnm f).1 (fnm f).2 := by
  obtain ⟨-, -, h3, -⟩ := HT
  rcases (h3 f kd j fin hf).1 with q | q
  · exact Or.inl q.2
  · exact Or.inr q.2
theorem TabP.slot (HT : TabP P C fnm fkd nm bys nA nf a0 Z) {f f' : Int} {x x' : Nat × Nat × Bool} (hf : fkd f = some x) (hf' : fkd f' = some x') (hne : f ≠ f') : RoadKit.slotOf Z C (fnm f).1 (fnm f).2 ≠ RoadKit.slotOf Z C (fnm f').1 (fnm f').2 := by
  obtain ⟨kd, j, fin⟩ := x
  obtain ⟨kd', j', fin'⟩ := x'
  have L1 := HT.laid hf
  have L2 := HT.laid hf'
  obtain ⟨-, -, h3, h4, -⟩ := HT
  exact slot_ne L1 L2 (h4 f f' _ _ hf hf' hne) (h3 f _ _ _ hf).2.1 (h3 f' _ _ _ hf').2.1
theorem RepO.ext (hR : RepO P C fnm fkd Z h A n0 t m) (E : Ext h h') : RepO P C fnm fkd Z h' A n0 t m := by
  obtain ⟨r1, r2, r3, r4, r5, r6⟩ := hR
  refine ⟨r1.ext E, r2, fun f kd j fin hf => ?_, fun j h1 h2 => ?_, r5, r6⟩
  · obtain ⟨v, q1, q2⟩ := r3 f kd j fin hf
    exact ⟨v, q1.ext E, q2⟩
  · obtain ⟨g1, kd, n, g2, c, g3, g4⟩ := r4 j h1 h2
    exact ⟨g1, kd, n, g2, c, g3.ext E, g4⟩
/-- the heap may change where the object isn't -/
theorem RepO.keep (hR : RepO P C fnm fkd Z h A n0 t m) (hk : ∀ a c, h[a]? = some c → (∃ j, j ≤ (t + 1) / 2 ∧ a = A j) → h'[a]? = some c) : RepO P C fnm fkd Z h' A n0 t m := by
  obtain ⟨r1, r2, r3, r4, r5, r6⟩ := hR
  refine ⟨?_, r2, fun f kd j fin hf => ?_, fun j h1 h2 => ?_, r5, r6⟩
  · obtain ⟨cell, k, q, r⟩ := r1
    exact ⟨cell, k, hk _ _ q ⟨0, by omega, rfl⟩, r⟩
  · obtain ⟨v, ⟨cell, cf, k, i, ff, q, r⟩, q2⟩ := r3 f kd j fin hf
    exact ⟨v, ⟨cell, cf, k, i, ff, hk _ _ q ⟨0, by omega, rfl⟩, r⟩, q2⟩
  · obtain ⟨g1, kd, n, g2, c, g3, g4⟩ := r4 j h1 h2
    exact ⟨g1, kd, n, g2, c, ⟨hk _ _ g3.1 ⟨j, h2, rfl⟩, g3.2⟩, g4⟩
theorem sto_ne {k k' : Nat} {i z : Int} (hk : k' ≠ k) : sto m k i z k' = m k' := by
  funext i'
  unfold sto
  rw [if_neg (fun q => hk q.1)]
theorem RepO.wrF (HT : TabP P C fnm fkd nm bys nA nf a0 Z) (hR : RepO P C fnm fkd Z h A n0 t m) {f : Int} {kd j : Nat} {fin : Bool} (hf : fkd f = some (kd, j, fin)) (hkd : kd ≠ 0) {v : Value} {z : Int} (hv : EV kd v z)
    (W : Wr h h' (A 0) (RoadKit.slotOf Z C (fnm f).1 (fnm f).2) v) : RepO P C fnm fkd Z h' A n0 t (sto m 0 f z) := by
  obtain ⟨r1, r2, r3, r4, r5, r6⟩ := hR
  refine ⟨r1.wr W, r2, fun f' kd' j' fin' hf' => ?_, fun j' h1 h2 => ?_, r5, fun j' hj' i => ?_⟩
  · obtain ⟨v', q1, q2, q3⟩ := r3 f' kd' j' fin' hf'
    by_cases e : f' = f
    · subst e
      cases hf.symm.trans hf'
      exact ⟨v, q1.same W, fun q => absurd q hkd, fun _ => by simpa [sto] using hv⟩
    · refine ⟨v', q1.other W (Or.inr (HT.slot hf' hf e)), q2, fun q => ?_⟩
      have : sto m 0 f z 0 f' = m 0 f' := by unfold sto; rw [if_neg (fun q => e q.2)]
      rw [this]; exact q3 q
  · obtain ⟨g1, kd', n, g2, c, g3, g4⟩ := r4 j' h1 h2
    rw [sto_ne (by omega)]
    exact ⟨g1, kd', n, g2, c, g3.other W (fun q => by have := r5 j' 0 h2 (by omega) q; omega), g4⟩
  · rw [sto_ne (by omega)]; exact r6 j' hj' i
theorem RepO.wrP (HT : TabP P C fnm fkd nm bys nA nf a0 Z) (hR : RepO P C fnm fkd Z h A n0 t m) {f : Int} {j : Nat} {fin : Bool} (hf : fkd f = some (0, j, fin)) (ht : t + 1 = 2 * j)
    (W : Wr h h' (A 0) (RoadKit.slotOf Z C (fnm f).1 (fnm f).2) (.ref (A j))) : RepO P C fnm fkd Z h' A n0 (t + 1) m := by
  obtain ⟨r1, r2, r3, r4, r5, r6⟩ := hR
  have e1 : (t + 1 + 1) / 2 = (t + 1) / 2 := by omega
  refine ⟨r1.wr W, r2, fun f' kd' j' fin' hf' => ?_, fun j' h1 h2 => ?_, by rw [e1]; exact r5, by rw [e1]; exact r6⟩
  · obtain ⟨v', q1, q2, q3⟩ := r3 f' kd' j' fin' hf'
    by_cases e : f' = f
    · subst e
      cases hf.symm.trans hf'
      exact ⟨_, q1.same W, fun _ _ => rfl, fun q => absurd rfl q⟩
    · refine ⟨v', q1.other W (Or.inr (HT.slot hf' hf e)), fun q1 q2' => q2 q1 ?_, q3⟩
      have hne : j' ≠ j := fun q => by
        subst q1 q
        obtain ⟨-, -, -, -, h5, -⟩ := HT
        exact e (h5 f' f j' fin' fin hf' hf)
      omega
  · rw [e1] at h2
    obtain ⟨g1, kd', n, g2, c, g3, g4⟩ := r4 j' h1 h2
    exact ⟨g1, kd', n, g2, c, g3.other W (fun q => by have := r5 j' 0 h2 (by omega) q; omega), g4⟩
theorem RepO.wrA (hR : RepO P C fnm fkd Z h A n0 t m) {j : Nat} (h1 : 1 ≤ j) (h2 : j ≤ (t + 1) / 2) {i : Nat} {v : Value} {z : Int} {kd : Nat} {n : Int} (hl : play P j = some (kd, n)) (hv : EV kd v z)
    (W : Wr h h' (A j) i v) : RepO P C fnm fkd Z h' A n0 t (sto m j i z) := by
  obtain ⟨r1, r2, r3, r4, r5, r6⟩ := hR
  refine ⟨r1.wr W, r2, fun f' kd' j' fin' hf' => ?_, fun j' g1 g2 => ?_, r5, fun j' hj' i' => ?_⟩
  · obtain ⟨v', q1, q2, q3⟩ := r3 f' kd' j' fin' hf'
    refine ⟨v', q1.other W (Or.inl fun q => by have := r5 0 j (by omega) h2 q; omega), q2, fun q => ?_⟩
    rw [sto_ne (by omega)]; exact q3 q
  · obtain ⟨k1, kd', n', k2, c, k3, k4, k5⟩ := r4 j' g1 g2
    by_cases e : j' = j
    · subst e
      cases hl.symm.trans k2
      refine ⟨k1, kd, n, hl, c.setSlot i v, k3.same W, by rw [sz_set]; exact k4, fun i' hi' => ?_⟩
      rw [sz_set] at hi'
      by_cases ei : i' = i
      · subst ei
        exact ⟨v, by simp [Cell.setSlot, hi'], by simpa [sto] using hv⟩
      · obtain ⟨w, w1, w2⟩ := k5 i' hi'
        refine ⟨w, ?_, ?_⟩
        · show (c.slots.setIfInBounds i v)[i']? = _
          rw [Array.getElem?_setIfInBounds_ne (fun q => ei q.symm)]; exact w1
        · have : sto m j' i z j' i' = m j' i' := by unfold sto; rw [if_neg (fun q => ei (by have := q.2; omega))]
          rw [this]; exact w2
    · rw [sto_ne e]
      exact ⟨k1, kd', n', k2, c, k3.other W (fun q => e (r5 j' j g2 h2 q)), k4, k5⟩
  · rw [sto_ne (by omega)]; exact r6 j' hj' i'
theorem RepO.lt (hR : RepO P C fnm fkd Z h A n0 t m) {j : Nat} (hj : j ≤ (t + 1) / 2) : A j < h.size := by
  obtain ⟨r1, r2, r3, r4, r5, r6⟩ := hR
  by_cases e : j = 0
  · subst e; exact r1.lt
  · obtain ⟨k1, kd', n', k2, c, k3, -⟩ := r4 j (by omega) hj
    exact k3.lt
def updA (A : Nat → Addr) (j : Nat) (a : Addr) : Nat → Addr := fun i => if i = j then a else A i
theorem updA_ne {j i : Nat} {a : Addr} (h : i ≠ j) : updA A j a i = A i := by unfold updA; rw [if_neg h]
theorem updA_eq {j : Nat} {a : Addr} : updA A j a j = a := by unfold updA; rw [if_pos rfl]
theorem RepO.new (hR : RepO P C fnm fkd Z h A n0 t m) (ht : t % 2 = 0) (hn : n0 ≤ h.size) {kd : Nat} {n : Int} (hl : play P (t / 2 + 1) = some (kd, n)) (hkd : kd = 1 ∨ kd = 2 ∨ kd = 3 ∨ kd = 4) (E : Ext h h') {x : Int32} (hx : x.toInt = n) (hx0 : 0 ≤ n) {cA : ClassId}
    (hA : Arr Z h' h.size (newA cA (kty kd) x) (kty kd)) : RepO P C fnm fkd Z h' (updA A (t / 2 + 1) h.size) n0 (t + 1) m := by
  have hlt := fun j (hj : j ≤ (t + 1) / 2) => hR.lt hj
  obtain ⟨r1, r2, r3, r4, r5, r6⟩ := hR
  have e0 : updA A (t / 2 + 1) h.size 0 = A 0 := updA_ne (by omega)
  refine ⟨by rw [e0]; exact r1.ext E, by rw [e0]; exact r2, fun f kd j fin hf => ?_, fun j h1 h2 => ?_, fun j j' h1 h2 hq => ?_, fun j hj => r6 j (by omega)⟩
  · rw [e0]
    obtain ⟨v, q1, q2, q3⟩ := r3 f kd j fin hf
    refine ⟨v, q1.ext E, fun q4 q5 => ?_, q3⟩
    rw [q2 q4 (by omega), updA_ne (by omega)]
  · by_cases e : j = t / 2 + 1
    · subst e
      rw [updA_eq]
      have sz : (newA cA (kty kd) x).slots.size = x.toNatClampNeg := sz_new cA (kty kd) x
      have hc : (x.toNatClampNeg : Int) = n := by simp only [Int32.toNatClampNeg]; omega
      refine ⟨hn, kd, n, hl, _, hA, by rw [sz]; exact hc, fun i hi => ⟨defaultValue (kty kd), ?_, ?_⟩⟩
      · rw [sz] at hi
        show (Array.replicate x.toNatClampNeg (defaultValue (kty kd)))[i]? = _
        simp [hi]
      · rw [r6 (t / 2 + 1) (by omega)]
        rcases hkd with rfl | rfl | rfl | rfl
        · exact Or.inr ⟨by decide, 0, rfl, rfl⟩
        · exact Or.inr ⟨by decide, 0, rfl, rfl⟩
        · exact Or.inr ⟨by decide, 0, rfl, rfl⟩
        · exact Or.inl ⟨rfl, 0, rfl, rfl⟩
    · rw [updA_ne e]
      obtain ⟨g1, kd, n, g2, c, g3, g4⟩ := r4 j h1 (by omega)
      exact ⟨g1, kd, n, g2, c, g3.ext E, g4⟩
  · by_cases e : j = t / 2 + 1
    · by_cases e' : j' = t / 2 + 1
      · omega
      · subst e
        rw [updA_eq, updA_ne e'] at hq
        exact (Nat.ne_of_gt (hlt j' (by omega)) hq).elim
    · by_cases e' : j' = t / 2 + 1
      · subst e'
        rw [updA_eq, updA_ne e] at hq
        exact (Nat.ne_of_lt (hlt j (by omega)) hq).elim
      · rw [updA_ne e, updA_ne e'] at hq
        exact r5 j j' (by omega) (by omega) hq
/-- nothing but the object's own cells has changed -/
def Sam (h h' : Heap) (A : Nat → Addr) (b : Nat) : Prop := h.size ≤ h'.size ∧ ∀ (a : Addr) (c : Cell), h[a]? = some c → (∀ j, j ≤ b → a ≠ A j) → h'[a]? = some c
theorem Sam.refl (h : Heap) (A : Nat → Addr) (b : Nat) : Sam h h A b := ⟨Nat.le_refl _, fun _ _ q _ => q⟩
theorem Sam.ext (E : Ext h h') (b : Nat) : Sam h h' A b := ⟨E.1, fun a c q _ => E.2 a c q⟩
theorem Sam.wr {j i b : Nat} {v : Value} (W : Wr h h' (A j) i v) (hj : j ≤ b) : Sam h h' A b := by
  refine ⟨by rw [W.size]; exact Nat.le_refl _, fun a c q hq => ?_⟩
  obtain ⟨cell, -, -, -, rfl⟩ := W
  rw [Array.getElem?_setIfInBounds_ne (fun e => hq j hj e.symm)]; exact q
theorem Sam.trans {h1 : Heap} {A1 : Nat → Addr} {b b1 : Nat} (S1 : Sam h h1 A b) (S2 : Sam h1 h' A1 b1) (hA : ∀ j, j ≤ b → A1 j = A j) (hn : ∀ j, b < j → j ≤ b1 → h.size ≤ A1 j) : Sam h h' A b := by
  refine ⟨Nat.le_trans S1.1 S2.1, fun a c q hq => S2.2 a c (S1.2 a c q hq) fun j hj e => ?_⟩
  by_cases hb : j ≤ b
  · exact hq j hb (by rw [e, hA j hb])
  · have h1 := (Array.getElem?_eq_some_iff.mp q).1
    exact Nat.not_lt.mpr (hn j (by omega) hj) (e ▸ h1)
end Rep
/-! entering a method -/
theorem lget_append_none : ∀ (L : OLs) (n k : Nat) {v : OV}, lget (L ++ List.replicate n none) k = some v → lget L k = some v
  | [], n, k, v, h => by
    exfalso
    simp only [List.nil_append] at h
    induction n generalizing k with
    | zero => simp [lget] at h
    | succ n ih =>
      cases k with
      | zero => simp [List.replicate_succ, lget] at h
      | succ k => exact ih k (by simpa [List.replicate_succ, lget] using h)
  | x :: xs, n, 0, v, h => h
  | x :: xs, n, k + 1, v, h => lget_append_none xs n k h
theorem laid_rel {A : Nat → Addr} {b : Nat} : ∀ {as : List OV} {vs : List Value}, SR A b as vs → (laid as).length = (Jvm.Sym.laidSlots vs).length ∧ (∀ k v, lget (laid as) k = some v → ∃ x, (Jvm.Sym.laidSlots vs)[k]? = some (.val x) ∧ VR A b v x) ∧
    (∀ k, (Jvm.Sym.laidSlots vs)[k]? = some .second → ∃ j v, k = j + 1 ∧ (Jvm.Sym.laidSlots vs)[j]? = some (.val v) ∧ v.category = 2) ∧ (∀ k v, (Jvm.Sym.laidSlots vs)[k]? = some (.val v) → v.category = 2 → (Jvm.Sym.laidSlots vs)[k + 1]? = some .second)
  | [], [], _ => ⟨rfl, fun k v h => by simp [laid, lget] at h, fun k h => by simp [Jvm.Sym.laidSlots] at h, fun k v h => by simp [Jvm.Sym.laidSlots] at h⟩
  | a :: as, x :: xs, ⟨h1, h2⟩ => by
    obtain ⟨g1, g2, g3, g4⟩ := laid_rel h2
    by_cases hc : mcat a = 2
    · have hx : x.category = 2 := by rw [h1.cats]; exact hc
      have e1 : Jvm.Sym.laidSlots (x :: xs) = .val x :: .second :: Jvm.Sym.laidSlots xs := by simp [Jvm.Sym.laidSlots, hx]
      have e2 : laid (a :: as) = some a :: none :: laid as := by
        rcases a with z | z | z
        · cases hc
        · rfl
        · cases hc
      rw [e1, e2]
      refine ⟨by simp [g1], fun k v hk => ?_, fun k hk => ?_, fun k v hk hv => ?_⟩
      · match k, hk with
        | 0, hk => cases hk; exact ⟨x, rfl, h1⟩
        | 1, hk => cases hk
        | k + 2, hk => exact g2 k v hk
      · match k, hk with
        | 0, hk => cases hk
        | 1, hk => exact ⟨0, x, rfl, rfl, hx⟩
        | k + 2, hk =>
          obtain ⟨j, v, rfl, q1, q2⟩ := g3 k hk
          exact ⟨j + 2, v, rfl, q1, q2⟩
      · match k, hk with
        | 0, hk => rfl
        | 1, hk => cases hk
        | k + 2, hk => exact g4 k v hk hv
    · have hx : ¬ x.category = 2 := by rw [h1.cats]; exact hc
      have e1 : Jvm.Sym.laidSlots (x :: xs) = .val x :: Jvm.Sym.laidSlots xs := by simp [Jvm.Sym.laidSlots, hx]
      have e2 : laid (a :: as) = some a :: laid as := by
        rcases a with z | z | z
        · rfl
        · exact absurd rfl hc
        · rfl
      rw [e1, e2]
      refine ⟨by simp [g1], fun k v hk => ?_, fun k hk => ?_, fun k v hk hv => ?_⟩
      · match k, hk with
        | 0, hk => cases hk; exact ⟨x, rfl, h1⟩
        | k + 1, hk => exact g2 k v hk
      · match k, hk with
        | 0, hk => cases hk
        | k + 1, hk =>
          obtain ⟨j, v, rfl, q1, q2⟩ := g3 k hk
          exact ⟨j + 1, v, rfl, q1, q2⟩
      · match k, hk with
        | 0, hk => cases hk; exact absurd hv hx
        | k + 1, hk => exact g4 k v hk hv
theorem entry_rel {A : Nat → Addr} {b n : Nat} {as : List OV} {vs : List Value} (h : SR A b as vs) : LR A b (initL as n) (argsToLocals vs.toArray n) := by
  obtain ⟨g1, g2, g3, g4⟩ := laid_rel h
  have e : (argsToLocals vs.toArray n).toList = Jvm.Sym.laidSlots vs ++ List.replicate (n - (Jvm.Sym.laidSlots vs).length) Slot.unset := Jvm.Sym.argsToLocals_toList _ _
  have ge : ∀ k, (argsToLocals vs.toArray n)[k]? = (Jvm.Sym.laidSlots vs ++ List.replicate (n - (Jvm.Sym.laidSlots vs).length) Slot.unset)[k]? := fun k => by rw [← e, Array.getElem?_toList]
  have up : ∀ k s, (Jvm.Sym.laidSlots vs)[k]? = some s → (argsToLocals vs.toArray n)[k]? = some s := fun k s q => by
    rw [ge, List.getElem?_append_left (List.getElem?_eq_some_iff.mp q).1]; exact q
  have down : ∀ k s, (argsToLocals vs.toArray n)[k]? = some s → s ≠ Slot.unset → (Jvm.Sym.laidSlots vs)[k]? = some s := fun k s q hs => by
    rw [ge, List.getElem?_append] at q
    split at q
    · exact q
    · rw [List.getElem?_replicate] at q
      split at q
      · exact absurd (Option.some.inj q).symm hs
      · cases q
  refine ⟨?_, fun k v hk => ?_, fun k hk => ?_, fun k v hk hv => ?_⟩
  · rw [← Array.length_toList, e]
    simp [initL, g1]
  · obtain ⟨x, q1, q2⟩ := g2 k v (lget_append_none _ _ _ hk)
    exact ⟨x, up _ _ q1, q2⟩
  · obtain ⟨j, v, q1, q2, q3⟩ := g3 k (down k _ hk (by intro q; cases q))
    exact ⟨j, v, q1, up _ _ q2, q3⟩
  · exact up _ _ (g4 k v (down k _ hk (by intro q; cases q)) hv)
theorem popA_rel {A : Nat → Addr} {b : Nat} : ∀ {ts : List Bool} {S : List OV} {acc as : List OV} {S' : List OV} {St : List Value}, popA ts S acc = some (as, S') → SR A b S St →
    ∃ B St', (∀ A' b' X, SR A' b' acc X → SR A' b' as (B ++ X)) ∧ SR A b S' St' ∧ St = B.reverse ++ St' ∧ B.length = ts.length
  | [], S, acc, as, S', St, h, hS => by
    cases h
    exact ⟨[], St, fun _ _ _ hX => hX, hS, rfl, rfl⟩
  | false :: ts, .inl z :: S, acc, as, S', St, h, hS => by
    obtain ⟨y, St1, rfl, hy, hS1⟩ := SR.i1 hS
    obtain ⟨B, St', q1, q2, q3, q4⟩ := popA_rel (ts := ts) h hS1
    exact ⟨B ++ [.int y], St', fun A' b' X hX => by simpa using q1 A' b' (.int y :: X) ⟨⟨y, rfl, hy⟩, hX⟩, q2, by simp [q3], by simp [q4]⟩
  | true :: ts, .inr (.inl z) :: S, acc, as, S', St, h, hS => by
    obtain ⟨y, St1, rfl, hy, hS1⟩ := SR.l1 hS
    obtain ⟨B, St', q1, q2, q3, q4⟩ := popA_rel (ts := ts) h hS1
    exact ⟨B ++ [.long y], St', fun A' b' X hX => by simpa using q1 A' b' (.long y :: X) ⟨⟨y, rfl, hy⟩, hX⟩, q2, by simp [q3], by simp [q4]⟩
end Jvm.OwnMini
namespace Jvm.OwnMini
open Jvm Jvm.ClassFile Sem Op Lib Jvm.Free Jvm.Stand Jvm.LawKit Jvm.RoadKit
theorem retI' {p : Program} {l : Launch} {e : Env} {R : Room} {s : State} {m : MethodId} {args : Array Value} {below : List Frame} {meth : Method} {c : Code} {T : State} {locs : List Loc} {cells slots : Nat} (X : Stand p l e R s m args below meth c T locs cells slots) (hx : p.tables.exec = Jvm.exec) {pc : Nat} {Ls : Array Slot} {z : Int32} {rest : List Value} (hret : meth.sig.returnType = some .int) (hd : decode c.code pc = .ok (.ireturn, 1)) {fs : List Frame}
    (hl : ∀ (f : JFrame) (acts : List Action), f.method = m → f.locked = none → f.entered = [] → (doReturn e (T.setTop f) acts (some (.int z))).1 = T.setFrames fs) : Steps p.tables e below (T.setTop (mkF m pc Ls (.int z :: rest))) (T.setFrames fs) :=
  retOut X hx hret rfl (Or.inl ⟨rfl, Or.inl rfl, z, rfl⟩) hd hl
def RVl : Option OV → Option Value → Prop
  | none, v => v = none
  | some (.inl z), v => ∃ x : Int32, v = some (.int x) ∧ x.toInt = z
  | some (.inr (.inl z)), v => ∃ x : Int64, v = some (.long x) ∧ x.toInt = z
  | some (.inr (.inr _)), _ => False
theorem RVl.push {A : Nat → Addr} {b : Nat} {r : Option OV} {v : Option Value} (h : RVl r v) {S : List OV} {St : List Value} (hS : SR A b S St) : SR A b (pushR r S) (v.toList ++ St) := by
  rcases r with _ | z | z | z
  · cases h; exact hS
  · obtain ⟨x, rfl, e⟩ := h; exact ⟨⟨x, rfl, e⟩, hS⟩
  · obtain ⟨x, rfl, e⟩ := h; exact ⟨⟨x, rfl, e⟩, hS⟩
  · exact h.elim
/-- from where the walk stands it comes to its end -/
def EndP (P : PT) (C : String) (fnm : FN) (fkd : FK) (Z : State) (nA : Nat) (p : Program) (l : Launch) (e : Env) (R : Room) (s : State) (mi : MethodId) (args : Array Value) (below : List Frame) (meth : Method) (c : Code) (n0 q : Nat)
    (T : State) (A : Nat → Addr) (t : Nat) (locs : List Loc) (cells slots : Nat) (f0 : JFrame) (r : Option OV) (t' : Nat) (m' : OMem) : Prop :=
  ∃ (v : Option Value) (T' : State) (A' : Nat → Addr) (lw : List Loc) (cells' slots' : Nat),
    Stand p l e R s mi args below meth c T' (locs ++ lw) cells' slots' ∧ RepO P C fnm fkd Z T'.heap A' n0 t' m' ∧
    (∀ j, j ≤ (t + 1) / 2 → A' j = A j) ∧ t ≤ t' ∧ (∀ j, (t + 1) / 2 < j → j ≤ (t' + 1) / 2 → T.heap.size ≤ A' j) ∧ Fr n0 lw ∧
    cells' + (nA - (t' + 1) / 2) ≤ cells + (nA - (t + 1) / 2) ∧ slots' + (psum P nA - psum P ((t' + 1) / 2)) ≤ slots + (psum P nA - psum P ((t + 1) / 2)) ∧
    (q ≠ 0 → t' = t ∧ cells' = cells ∧ slots' = slots) ∧ Sam T.heap T'.heap A ((t + 1) / 2) ∧ RVl r v ∧ (meth.sig.returnType = none → v = none) ∧
    ∀ fs, (∀ (f : JFrame) (acts : List Action), f.method = mi → f.locked = none → f.entered = [] → (doReturn e (T'.setTop f) acts v).1 = T'.setFrames fs) → Steps p.tables e below (T.setTop f0) (T'.setFrames fs)
section Sound
variable {P : PT} {C : String} {fnm : FN} {fkd : FK} {nm : Nat → MethodName} {bys : Nat → ByteArray} {nA nf : Nat} {a0 : Array Value} {Z : State}
variable {p : Program} {l : Launch} {e : Env} {R : Room} {s : State} {mi : MethodId} {args : Array Value} {below : List Frame} {meth : Method} {c : Code} {n0 q : Nat}
theorem EndP.trans {T T1 : State} {A A1 : Nat → Addr} {t t1 : Nat} {locs l1 : List Loc} {cells slots cells1 slots1 : Nat} {f0 f1 : JFrame} {r : Option OV} {t' : Nat} {m' : OMem}
    (E : EndP P C fnm fkd Z nA p l e R s mi args below meth c n0 q T1 A1 t1 (locs ++ l1) cells1 slots1 f1 r t' m') (hA : ∀ j, j ≤ (t + 1) / 2 → A1 j = A j) (ht : t ≤ t1) (hn : ∀ j, (t + 1) / 2 < j → j ≤ (t1 + 1) / 2 → T.heap.size ≤ A1 j) (hF : Fr n0 l1)
    (hc : cells1 + (nA - (t1 + 1) / 2) ≤ cells + (nA - (t + 1) / 2)) (hs : slots1 + (psum P nA - psum P ((t1 + 1) / 2)) ≤ slots + (psum P nA - psum P ((t + 1) / 2))) (hq : q ≠ 0 → t1 = t ∧ cells1 = cells ∧ slots1 = slots) (hS : Sam T.heap T1.heap A ((t + 1) / 2))
    (st : ∀ target, Steps p.tables e below (T1.setTop f1) target → Steps p.tables e below (T.setTop f0) target) : EndP P C fnm fkd Z nA p l e R s mi args below meth c n0 q T A t locs cells slots f0 r t' m' := by
  obtain ⟨v, T', A', lw, cells', slots', h1, h2, h3, h4, h5, h6, h7, h8, h9, h10, h11, h12, h13⟩ := E
  refine ⟨v, T', A', l1 ++ lw, cells', slots', by rw [← List.append_assoc]; exact h1, h2, fun j hj => (h3 j (by omega)).trans (hA j hj), by omega, fun j g1 g2 => ?_, hF.app h6, by omega, by omega, fun hq' => ?_, hS.trans h10 hA hn, h11, h12, fun fs hfs => st _ (h13 fs hfs)⟩
  · by_cases hj : j ≤ (t1 + 1) / 2
    · rw [h3 j hj]; exact hn j g1 hj
    · exact Nat.le_trans hS.1 (h5 j (by omega) g2)
  · obtain ⟨a1, a2, a3⟩ := hq hq'
    obtain ⟨b1, b2, b3⟩ := h9 hq'
    exact ⟨b1.trans a1, b2.trans a2, b3.trans a3⟩
/-- a step that leaves the heap as it is -/
theorem EndP.still {T T1 : State} {A : Nat → Addr} {t : Nat} {locs : List Loc} {cells slots : Nat} {f0 f1 : JFrame} {r : Option OV} {t' : Nat} {m' : OMem}
    (E : EndP P C fnm fkd Z nA p l e R s mi args below meth c n0 q T1 A t locs cells slots f1 r t' m') (hh : T1.heap = T.heap) (st : ∀ target, Steps p.tables e below (T1.setTop f1) target → Steps p.tables e below (T.setTop f0) target) :
    EndP P C fnm fkd Z nA p l e R s mi args below meth c n0 q T A t locs cells slots f0 r t' m' :=
  EndP.trans (l1 := []) (by rw [List.append_nil]; exact E) (fun _ _ => rfl) (Nat.le_refl _) (fun j h1 h2 => by omega) (Fr.nil _) (Nat.le_refl _) (Nat.le_refl _) (fun _ => ⟨rfl, rfl, rfl⟩) (by rw [hh]; exact Sam.refl _ _ _) st
def SoundAt (P : PT) (C : String) (fnm : FN) (fkd : FK) (bys : Nat → ByteArray) (nA : Nat) (Z : State) (l : Launch) (n : Nat) : Prop :=
  ∀ q pc L S t m r t' m', runP P n q pc L S t m = some (r, t', m') → ∀ ps ml rk fr lc, pinf P q = some (ps, ml, rk, fr, lc) →
  ∀ (p : Program) (e : Env) (R : Room) (s : State) (mi : MethodId) (args : Array Value) (below : List Frame) (meth : Method) (c : Code) (T : State) (locs : List Loc) (cells slots : Nat) (A : Nat → Addr) (Ls : Array Slot) (St : List Value) (n0 : Nat),
    Stand p l e R s mi args below meth c T locs cells slots → p.tables.exec = Jvm.exec → Z.Warmed39 s.vm → s.vm.findClass C = some mi.cls → c.code = bys q → c.maxLocals = ml → meth.sig.returnType = rty rk → (q = 0 → meth.name = "<init>") →
    RepO P C fnm fkd Z T.heap A n0 t m → LR A ((t + 1) / 2) L Ls → SR A ((t + 1) / 2) S St → Ls.size = ml → n0 ≤ T.heap.size → fr ≤ R.frames → lc ≤ R.locals → cells ≤ R.cells → slots ≤ R.slots →
    (q = 0 → cells + (nA - (t + 1) / 2) ≤ R.cells ∧ slots + (psum P nA - psum P ((t + 1) / 2)) ≤ R.slots) →
    EndP P C fnm fkd Z nA p l e R s mi args below meth c n0 q T A t locs cells slots (mkF mi pc Ls St) r t' m'
/-- what a method of the object leaves -/
def QP (P : PT) (C : String) (fnm : FN) (fkd : FK) (Z : State) (n0 q t : Nat) (A : Nat → Addr) (h : Heap) (r : Option OV) (t' : Nat) (m' : OMem) (v : Option Value) (h' : Heap) (L : List Loc) : Prop :=
  ∃ A', RepO P C fnm fkd Z h' A' n0 t' m' ∧ (∀ j, j ≤ (t + 1) / 2 → A' j = A j) ∧ t ≤ t' ∧ (∀ j, (t + 1) / 2 < j → j ≤ (t' + 1) / 2 → h.size ≤ A' j) ∧ Fr n0 L ∧ Sam h h' A ((t + 1) / 2) ∧ RVl r v ∧ (q ≠ 0 → t' = t)
theorem metP (HT : TabP P C fnm fkd nm bys nA nf a0 Z) {n : Nat} (hS : SoundAt P C fnm fkd bys nA Z l n) {ps : List Bool} {ml rk fr lc : Nat} (hq : pinf P q = some (ps, ml, rk, fr, lc)) {as : List OV} {t : Nat} {m : OMem} {r : Option OV} {t' : Nat} {m' : OMem}
    (hrun : runP P n q 0 (initL as ml) [] t m = some (r, t', m')) (hsz : (initL as ml).length ≤ ml) {A : Nat → Addr} {h : Heap} (hn0 : n0 ≤ h.size) (hR : RepO P C fnm fkd Z h A n0 t m) {vals : List Value} (hv : SR A ((t + 1) / 2) as vals) {cl sl : Nat}
    (hcl : q = 0 → nA - (t + 1) / 2 ≤ cl ∧ psum P nA - psum P ((t + 1) / 2) ≤ sl) :
    MetFree l (nm q) (head1 [Jvm.Cond.code (nm q) (bys q) ml (rty rk)] ({ frames := fr, cells := cl, slots := sl, locals := lc } : Room)) (fun a U => a = vals.toArray ∧ Z.Warmed39 U.vm ∧ U.heap = h) (fun _ _ _ _ _ => True)
      (fun _ U o U' => ∃ v L, o = .returned v ∧ QP P C fnm fkd Z n0 q t A h r t' m' v U'.heap L ∧ FrameEnd U o U' L cl sl) := by
  have HT' := HT
  obtain ⟨-, -, -, -, -, -, -, -, hinf, -, -, -, -, hpn, -, hin, -⟩ := HT'
  obtain ⟨hcls, -⟩ := hinf q ps ml rk fr lc hq
  refine MetFree.of_bodySF (plainFor_of_name (by rw [hcls]; exact hpn)) hisR ?_
  intro p e s m' args below meth c s₁ Bd hml0 hP hK
  obtain ⟨rfl, hZ, hh⟩ := hP
  have X0 := Stand.of_body Bd
  have e0 : s₁.heap = h := by rw [← hh, Bd.state]; rfl
  have hown : s.vm.findClass C = some m'.cls := by rw [← hcls]; exact findClass_of_methodNamed Bd.named
  have hnm := (name_of_methodNamed Bd.named Bd.method).1
  have hL := entry_rel (n := ml) hv
  have hz : (argsToLocals vals.toArray ml).size = ml := by
    rw [← hL.1]
    refine Nat.le_antisymm hsz ?_
    simp only [initL, List.length_append, List.length_replicate]; omega
  obtain ⟨v, T', A', lw, cells', slots', h1, h2, h3, h4, h5, h6, h7, h8, h9, h10, h11, h12, h13⟩ := hS q 0 _ [] t m r t' _ hrun ps ml rk fr lc hq p e _ s m' _ below meth c s₁ [] 0 0 A (argsToLocals vals.toArray ml) [] n0 X0 Bd.exec hZ hown Bd.bytes hml0 Bd.returns (fun q0 => by subst q0; exact hnm.trans hin)
    (by rw [e0]; exact hR) hL trivial hz (by rw [e0]; exact hn0) (Nat.le_refl _) (Nat.le_refl _) (Nat.zero_le _) (Nat.zero_le _) (fun q0 => by have := hcl q0; exact ⟨by show 0 + _ ≤ cl; omega, by show 0 + _ ≤ sl; omega⟩)
  rw [e0] at h5 h10
  obtain ⟨fs, hr, hrun', hended, hW, hsame⟩ := h1.leave (v := v) h12
  refine ⟨_, _, h13 fs hr, hrun', hended, v, _, rfl, ⟨A', h2, h3, h4, h5, h6, h10, h11, fun q0 => (h9 q0).1⟩, ⟨_, rfl⟩, hW, hsame.mono ?_ ?_⟩
  · by_cases q0 : q = 0
    · have := (hcl q0).1; omega
    · have := (h9 q0).2.1; omega
  · by_cases q0 : q = 0
    · have := (hcl q0).2; omega
    · have := (h9 q0).2.2; omega
end Sound
end Jvm.OwnMini
namespace Jvm.OwnMini
open Jvm Jvm.ClassFile Sem Op Lib Jvm.Free Jvm.Stand Jvm.LawKit Jvm.RoadKit
section Inv
variable {P : PT} {k : Nat → Nat → OLs → List OV → Nat → OMem → RT} {q pc len t : Nat} {L : OLs} {S : List OV} {m : OMem} {r : Option OV × Nat × OMem}
theorem getfield_some {x : Nat} (h : stepS P k q pc L S t m (.getfield x) len = some r) : ∃ S', S = .inr (.inr 0) :: S' ∧
    ((∃ f j fin, pfld P x = some (f, 0, j, fin) ∧ j ≤ t / 2 ∧ k q (pc + len) L (vr j :: S') t m = some r) ∨ (∃ f kd j fin, pfld P x = some (f, kd, j, fin) ∧ (kd = 1 ∨ kd = 2) ∧ k q (pc + len) L (vi (m 0 f) :: S') t m = some r) ∨ (∃ f j fin, pfld P x = some (f, 4, j, fin) ∧ k q (pc + len) L (vl (m 0 f) :: S') t m = some r)) := by
  simp only [stepS] at h
  split at h
  · refine ⟨_, rfl, ?_⟩
    split at h
    · rename_i f j fin hf
      cases hb : Nat.ble j (t / 2) with
      | false => rw [hb] at h; cases h
      | true => rw [hb] at h; exact Or.inl ⟨f, j, fin, hf, Nat.le_of_ble_eq_true hb, h⟩
    · rename_i f j fin hf; exact Or.inr (Or.inl ⟨f, 1, j, fin, hf, Or.inl rfl, h⟩)
    · rename_i f j fin hf; exact Or.inr (Or.inl ⟨f, 2, j, fin, hf, Or.inr rfl, h⟩)
    · rename_i f j fin hf; exact Or.inr (Or.inr ⟨f, j, fin, hf, h⟩)
    · cases h
  · cases h
theorem cond_some {α : Type} {b : Bool} {x : Option α} {a : α} (h : cond b x none = some a) : b = true ∧ x = some a := by
  cases b
  · cases h
  · exact ⟨rfl, h⟩
theorem putfield_some {x : Nat} (h : stepS P k q pc L S t m (.putfield x) len = some r) :
    (∃ f j fin S', pfld P x = some (f, 0, j, fin) ∧ S = .inr (.inr j) :: .inr (.inr 0) :: S' ∧ t + 1 = 2 * j ∧ q = 0 ∧ k q (pc + len) L S' (t + 1) m = some r) ∨
    (∃ f kd j fin z S', pfld P x = some (f, kd, j, fin) ∧ (kd = 1 ∨ kd = 2) ∧ S = .inl z :: .inr (.inr 0) :: S' ∧ (fin = false ∨ q = 0) ∧ k q (pc + len) L S' t (sto m 0 f (if kd = 2 then z % 2 else z)) = some r) ∨
    (∃ f j fin z S', pfld P x = some (f, 4, j, fin) ∧ S = .inr (.inl z) :: .inr (.inr 0) :: S' ∧ (fin = false ∨ q = 0) ∧ k q (pc + len) L S' t (sto m 0 f z) = some r) := by
  have fq : ∀ {fin : Bool}, (!fin || Nat.beq q 0) = true → fin = false ∨ q = 0 := fun {fin} hh => by
    cases fin
    · exact Or.inl rfl
    · exact Or.inr (Nat.eq_of_beq_eq_true (by simpa using hh))
  simp only [stepS] at h
  split at h
  · rename_i f j fin hf
    split at h
    · rename_i j' S'
      obtain ⟨hb, hh⟩ := cond_some h
      simp only [Bool.and_eq_true] at hb
      obtain ⟨⟨h1, h2⟩, h3⟩ := hb
      cases Nat.eq_of_beq_eq_true h1
      exact Or.inl ⟨f, _, fin, S', hf, rfl, Nat.eq_of_beq_eq_true h2, Nat.eq_of_beq_eq_true h3, hh⟩
    · cases h
  · rename_i f j fin hf
    split at h
    · obtain ⟨hb, h⟩ := cond_some h
      exact Or.inr (Or.inl ⟨f, 1, j, fin, _, _, hf, Or.inl rfl, rfl, fq hb, h⟩)
    · cases h
  · rename_i f j fin hf
    split at h
    · obtain ⟨hb, h⟩ := cond_some h
      exact Or.inr (Or.inl ⟨f, 2, j, fin, _, _, hf, Or.inr rfl, rfl, fq hb, h⟩)
    · cases h
  · rename_i f j fin hf
    split at h
    · obtain ⟨hb, h⟩ := cond_some h
      exact Or.inr (Or.inr ⟨f, j, fin, _, _, hf, rfl, fq hb, h⟩)
    · cases h
  · cases h
theorem ald_some {kd : Nat → Bool} {f : Nat → Int → List OV → RT} (h : ald P kd S t f = some r) : ∃ i j S' k n, S = .inl i :: .inr (.inr j) :: S' ∧ play P j = some (k, n) ∧ kd k = true ∧ j ≤ t / 2 ∧ 0 ≤ i ∧ i < n ∧ f j i S' = some r := by
  simp only [ald] at h
  split at h
  · split at h
    · rename_i hl
      obtain ⟨hb, h⟩ := cond_some h
      simp only [Bool.and_eq_true] at hb
      split at h
      · rename_i hc
        exact ⟨_, _, _, _, _, rfl, hl, hb.1, Nat.le_of_ble_eq_true hb.2, hc.1, hc.2, h⟩
      · cases h
    · cases h
  · cases h
theorem asi_some {kd : Nat → Bool} {f : Nat → Nat → Int → Int → List OV → RT} (h : asi P kd S t f = some r) : ∃ z i j S' k n, S = .inl z :: .inl i :: .inr (.inr j) :: S' ∧ play P j = some (k, n) ∧ kd k = true ∧ j ≤ t / 2 ∧ 0 ≤ i ∧ i < n ∧ f k j i z S' = some r := by
  simp only [asi] at h
  split at h
  · split at h
    · rename_i hl
      obtain ⟨hb, h⟩ := cond_some h
      simp only [Bool.and_eq_true] at hb
      split at h
      · rename_i hc
        exact ⟨_, _, _, _, _, _, rfl, hl, hb.1, Nat.le_of_ble_eq_true hb.2, hc.1, hc.2, h⟩
      · cases h
    · cases h
  · cases h
theorem asl_some {kd : Nat → Bool} {f : Nat → Int → Int → List OV → RT} (h : asl P kd S t f = some r) : ∃ z i j S' k n, S = .inr (.inl z) :: .inl i :: .inr (.inr j) :: S' ∧ play P j = some (k, n) ∧ kd k = true ∧ j ≤ t / 2 ∧ 0 ≤ i ∧ i < n ∧ f j i z S' = some r := by
  simp only [asl] at h
  split at h
  · split at h
    · rename_i hl
      obtain ⟨hb, h⟩ := cond_some h
      simp only [Bool.and_eq_true] at hb
      split at h
      · rename_i hc
        exact ⟨_, _, _, _, _, _, rfl, hl, hb.1, Nat.le_of_ble_eq_true hb.2, hc.1, hc.2, h⟩
      · cases h
    · cases h
  · cases h
theorem arraylength_some (h : stepS P k q pc L S t m .arraylength len = some r) : ∃ j S' kd n, S = .inr (.inr j) :: S' ∧ play P j = some (kd, n) ∧ j ≤ t / 2 ∧ k q (pc + len) L (vi n :: S') t m = some r := by
  simp only [stepS] at h
  split at h
  · split at h
    · rename_i hl
      obtain ⟨hb, h⟩ := cond_some h
      exact ⟨_, _, _, _, rfl, hl, Nat.le_of_ble_eq_true hb, h⟩
    · cases h
  · cases h
theorem newarray_some {a : ArrayType} (h : stepS P k q pc L S t m (.newarray a) len = some r) : ∃ S' kd n, S = .inl n :: S' ∧ play P (t / 2 + 1) = some (kd, n) ∧ t % 2 = 0 ∧ kd = akind a ∧ q = 0 ∧ k q (pc + len) L (vr (t / 2 + 1) :: S') (t + 1) m = some r := by
  simp only [stepS] at h
  split at h
  · split at h
    · rename_i hl
      obtain ⟨hb, hh⟩ := cond_some h
      simp only [Bool.and_eq_true] at hb
      obtain ⟨⟨h1, h2⟩, h3⟩ := hb
      split at hh
      · rename_i hz
        subst hz
        exact ⟨_, _, _, rfl, hl, Nat.eq_of_beq_eq_true h1, Nat.eq_of_beq_eq_true h2, Nat.eq_of_beq_eq_true h3, hh⟩
      · cases hh
    · cases h
  · cases h
theorem invokespecial_some {x : Nat} (h : stepS P k q pc L S t m (.invokespecial x) len = some r) : ∃ S' ps ml rk fr lc, S = .inr (.inr 0) :: S' ∧ pinf P q = some (ps, ml, rk, fr, lc) ∧ pobi P x = true ∧ 1 ≤ fr ∧ cats S' + 12 ≤ lc ∧ k q (pc + len) L S' t m = some r := by
  simp only [stepS] at h
  split at h
  · split at h
    · rename_i hl
      obtain ⟨hb, h⟩ := cond_some h
      simp only [Bool.and_eq_true] at hb
      obtain ⟨⟨h1, h2⟩, h3⟩ := hb
      exact ⟨_, _, _, _, _, _, rfl, hl, h1, Nat.le_of_ble_eq_true h2, Nat.le_of_ble_eq_true h3, h⟩
    · cases h
  · cases h
theorem invokevirtual_some {x : Nat} (h : stepS P k q pc L S t m (.invokevirtual x) len = some r) : ∃ q' ps ml rk fr' lc' ps0 ml0 rk0 fr lc as S' y, pmth P x = some q' ∧ pinf P q' = some (ps, ml, rk, fr', lc') ∧ pinf P q = some (ps0, ml0, rk0, fr, lc) ∧ popA ps S [] = some (as, .inr (.inr 0) :: S') ∧
    fr' + 1 ≤ fr ∧ cats S' + (ml + 11) + lc' ≤ lc ∧ q' ≠ 0 ∧ (initL (vr 0 :: as) ml).length ≤ ml ∧ k q' 0 (initL (vr 0 :: as) ml) [] t m = some y ∧ k q (pc + len) L (pushR y.1 S') y.2.1 y.2.2 = some r := by
  simp only [stepS] at h
  split at h
  · rename_i q' hq'
    split at h
    · rename_i ps ml rk fr' lc' ps0 ml0 rk0 fr lc h1 h2
      split at h
      · rename_i as S' hp
        obtain ⟨hb, h⟩ := cond_some h
        simp only [Bool.and_eq_true] at hb
        obtain ⟨⟨⟨g1, g2⟩, g3⟩, g4⟩ := hb
        obtain ⟨y, h3, h4⟩ := Option.bind_eq_some_iff.mp h
        exact ⟨q', ps, ml, rk, fr', lc', ps0, ml0, rk0, fr, lc, as, S', y, hq', h1, h2, hp, Nat.le_of_ble_eq_true g1, Nat.le_of_ble_eq_true g2, fun e => by subst e; simp at g3, Nat.le_of_ble_eq_true g4, h3, h4⟩
      · cases h
    · cases h
  · cases h
theorem ireturn_some (h : stepS P k q pc L S t m .ireturn len = some r) : ∃ z S' ps ml rk fr lc, S = .inl z :: S' ∧ pinf P q = some (ps, ml, rk, fr, lc) ∧ ((rk = 1 ∧ r = (some (vi z), t, m)) ∨ (rk = 2 ∧ r = (some (vi (z % 2)), t, m))) := by
  simp only [stepS] at h
  split at h
  · split at h
    · rename_i hl; cases h; exact ⟨_, _, _, _, _, _, _, rfl, hl, Or.inl ⟨rfl, rfl⟩⟩
    · rename_i hl; cases h; exact ⟨_, _, _, _, _, _, _, rfl, hl, Or.inr ⟨rfl, rfl⟩⟩
    · cases h
  · cases h
theorem lreturn_some (h : stepS P k q pc L S t m .lreturn len = some r) : ∃ z S' ps ml fr lc, S = .inr (.inl z) :: S' ∧ pinf P q = some (ps, ml, 4, fr, lc) ∧ r = (some (vl z), t, m) := by
  simp only [stepS] at h
  split at h
  · split at h
    · rename_i hl; cases h; exact ⟨_, _, _, _, _, _, rfl, hl, rfl⟩
    · cases h
  · cases h
theorem return_some (h : stepS P k q pc L S t m .return_ len = some r) : ∃ ps ml fr lc, S = [] ∧ pinf P q = some (ps, ml, 0, fr, lc) ∧ r = (none, t, m) := by
  simp only [stepS] at h
  split at h
  · split at h
    · rename_i hl; cases h; exact ⟨_, _, _, _, rfl, hl, rfl⟩
    · cases h
  · cases h
end Inv
end Jvm.OwnMini
namespace Jvm.OwnMini
open Jvm Jvm.ClassFile Sem Op Lib Jvm.Free Jvm.Stand Jvm.LawKit Jvm.RoadKit
theorem kty_akind : ∀ {a : ArrayType} {kd : Nat}, kd = akind a → (kd = 1 ∨ kd = 2 ∨ kd = 3 ∨ kd = 4) → newarray.typeOf a = kty kd := by
  intro a kd h hk
  cases a <;> simp only [akind] at h <;> subst h <;> first | rfl | (rcases hk with q | q | q | q <;> cases q)
theorem idx32 {j : Int32} {n : Nat} (h0 : 0 ≤ j.toInt) (h1 : j.toInt < n) : ¬ (j < 0 ∨ n ≤ j.toNatClampNeg) := by
  simp only [Int32.lt_iff_toInt_lt, Int32.toNatClampNeg, Int32.reduceToInt]; omega
theorem clamp32 {j : Int32} (h0 : 0 ≤ j.toInt) : (j.toNatClampNeg : Int) = j.toInt := by
  simp only [Int32.toNatClampNeg]; omega
theorem EV.int {kd : Nat} {v : Value} {z : Int} (h : EV kd v z) (hk : kd ≠ 4) : ∃ x : Int32, v = .int x ∧ x.toInt = z := by
  rcases h with ⟨q, -⟩ | ⟨-, q⟩
  · exact absurd q hk
  · exact q
theorem EV.long {kd : Nat} {v : Value} {z : Int} (h : EV kd v z) (hk : kd = 4) : ∃ x : Int64, v = .long x ∧ x.toInt = z := by
  rcases h with ⟨-, q⟩ | ⟨q, -⟩
  · exact q
  · exact absurd hk q
theorem psum_mono (P : PT) {a b : Nat} (h : a ≤ b) : psum P a ≤ psum P b := by
  induction h with
  | refl => exact Nat.le_refl _
  | step _ ih => exact Nat.le_trans ih (Nat.le_add_right _ _)
set_option maxHeartbeats 4000000 in
theorem soundP {P : PT} {C : String} {fnm : FN} {fkd : FK} {nm : Nat → MethodName} {bys : Nat → ByteArray} {nA nf : Nat} {a0 : Array Value} {Z : State} (HT : TabP P C fnm fkd nm bys nA nf a0 Z) (l : Launch) : ∀ n, SoundAt P C fnm fkd bys nA Z l n
  | 0 => fun q pc L S t m r t' m' h => by cases h
  | n + 1 => by
    intro q pc L0 S t m r t' m' h ps ml rk fr lc hq p e R s mi args below meth c T locs cells slots A Ls St n0 X hx hZ hown hby hml hret hini hR hL0 hSt hsz hn0 hfr hlc hce hsl hroom
    have IH := soundP HT l n
    have HT' := HT
    obtain ⟨tcode, tfld, tfkd, -, -, tlay, tcst, tmth, tinf, tobi, ⟨tob1, tob2⟩, tins, tini, tpn, thn, tnm, tall⟩ := HT'
    replace h : stepP P (runP P n) q pc L0 S t m = some (r, t', m') := h
    unfold stepP at h
    cases hcd : pcode P q pc with
    | none => rw [hcd] at h; cases h
    | some il =>
      obtain ⟨i, len⟩ := il
      rw [hcd] at h
      replace h : stepI P (runP P n) q pc (mask (pliv P q pc) L0) S t m i len = some (r, t', m') := h
      have hL := hL0.mask (pliv P q pc)
      generalize mask (pliv P q pc) L0 = L at h hL
      obtain ⟨hdec, hchk⟩ := tcode q pc i len hcd
      have hd : decode c.code pc = .ok (i, len) := by rw [hby]; exact hdec
      have hcst : (∀ x z, pcst P x = some (.inl z) → ∃ v : Int32, (Jvm.Cond.constant C x v).before args s = true ∧ v.toInt = z) ∧ (∀ x z, pcst P x = some (.inr (.inl z)) → ∃ v : Int64, (Jvm.Cond.constantLong C x v).before args s = true ∧ v.toInt = z) :=
        ⟨fun x z hz => by obtain ⟨v, h1, h2⟩ := tcst.1 x z hz; exact ⟨v, mv hZ h1, h2⟩, fun x z hz => by obtain ⟨v, h1, h2⟩ := tcst.2 x z hz; exact ⟨v, mv hZ h1, h2⟩⟩
      -- going on from the same heap
      have go : ∀ {T1 : State} {pc' : Nat} {L' : OLs} {S' : List OV} {Ls' : Array Slot} {St' : List Value}, Stand p l e R s mi args below meth c T1 locs cells slots → T1.heap = T.heap → runP P n q pc' L' S' t m = some (r, t', m') → LR A ((t + 1) / 2) L' Ls' → SR A ((t + 1) / 2) S' St' → Ls'.size = ml →
          (∀ target, Steps p.tables e below (T1.setTop (mkF mi pc' Ls' St')) target → Steps p.tables e below (T.setTop (mkF mi pc Ls St)) target) →
          EndP P C fnm fkd Z nA p l e R s mi args below meth c n0 q T A t locs cells slots (mkF mi pc Ls St) r t' m' := fun X1 hh hrun hL1 hS1 hz1 st =>
        (IH q _ _ _ t m r t' m' hrun ps ml rk fr lc hq p e R s mi args below meth c _ locs cells slots A _ _ n0 X1 hx hZ hown hby hml hret hini (by rw [hh]; exact hR) hL1 hS1 hz1 (by rw [hh]; exact hn0) hfr hlc hce hsl hroom).still hh st
      -- going on from a heap in which the object's own cells were written
      have gw : ∀ {T1 : State} {t1 : Nat} {m1 : OMem} {pc' : Nat} {S' : List OV} {St' : List Value} {j sl : Nat} {v : Value}, Stand p l e R s mi args below meth c T1 (locs ++ [⟨A j, sl⟩]) cells slots → j ≤ (t + 1) / 2 → Wr T.heap T1.heap (A j) sl v → RepO P C fnm fkd Z T1.heap A n0 t1 m1 → t ≤ t1 → (t1 + 1) / 2 = (t + 1) / 2 → (q ≠ 0 → t1 = t) →
          runP P n q pc' L S' t1 m1 = some (r, t', m') → SR A ((t + 1) / 2) S' St' →
          (∀ target, Steps p.tables e below (T1.setTop (mkF mi pc' Ls St')) target → Steps p.tables e below (T.setTop (mkF mi pc Ls St)) target) →
          EndP P C fnm fkd Z nA p l e R s mi args below meth c n0 q T A t locs cells slots (mkF mi pc Ls St) r t' m' := fun {T1 t1 m1 pc' S' St' j sl v} X1 hj W hR1 ht1 et hqt hrun hS1 st => by
        refine EndP.trans (l1 := [⟨A j, sl⟩]) (IH q _ _ _ t1 m1 r t' m' hrun ps ml rk fr lc hq p e R s mi args below meth c T1 _ cells slots A Ls St' n0 X1 hx hZ hown hby hml hret hini hR1 (by rw [et]; exact hL) (by rw [et]; exact hS1) hsz (by rw [W.size]; exact hn0) hfr hlc hce hsl (fun q0 => by rw [et]; exact hroom q0)) (fun _ _ => rfl) ht1 (fun j h1 h2 => by omega) ?_ (by omega) (by rw [et]; exact Nat.le_refl _) (fun q0 => ⟨hqt q0, rfl, rfl⟩) (Sam.wr W hj) st
        intro y hy
        cases List.mem_singleton.mp hy
        by_cases e0 : j = 0
        · subst e0; exact hR.2.1
        · exact (hR.2.2.2.1 j (by omega) hj).1
      cases hsp : isSpec i with
      | false =>
        simp only [stepI, hsp, cond_false] at h
        obtain ⟨pc', L', S', Ls', St', h1, h2, h3, h4, h5⟩ := pstep_sound (cst := pcst P) (k := fun pc' L' S' => runP P n q pc' L' S' t m) X hx hown hcst hL hSt hd hchk h
        exact go X rfl h1 h2 h3 (h4.trans hsz) h5
      | true =>
      simp only [stepI, hsp, cond_true] at h
      clear hcd
      cases i
      case getfield x =>
        obtain rfl : len = 3 := by simpa [chk, ilen] using hchk
        obtain ⟨S', rfl, hgf⟩ := getfield_some h
        clear h
        obtain ⟨hb0, St', rfl, hS'⟩ := SR.r1 hSt
        rcases hgf with ⟨f, j, fin, hf, hj, h⟩ | ⟨f, kd, j, fin, hf, hkd, h⟩ | ⟨f, j, fin, hf, h⟩
        · obtain ⟨w, hk⟩ := tfld x _ _ _ _ hf
          obtain ⟨v, F, hv1, -⟩ := hR.2.2.1 f _ _ _ hk
          obtain ⟨T1, X1, e1, st⟩ := getF X hx hZ hown (host := "") (Or.inl w) Via.refl rfl F (g := mkF mi pc Ls (.ref (A 0) :: St')) rfl rfl hd
          obtain rfl := hv1 rfl hj
          exact go X1 e1 h hL (SR.cr (by omega) hS') hsz st
        · obtain ⟨w, hk⟩ := tfld x _ _ _ _ hf
          obtain ⟨v, F, -, hv⟩ := hR.2.2.1 f _ _ _ hk
          obtain ⟨T1, X1, e1, st⟩ := getF X hx hZ hown (host := "") (Or.inl w) Via.refl rfl F (g := mkF mi pc Ls (.ref (A 0) :: St')) rfl rfl hd
          obtain ⟨y, rfl, hy⟩ := (hv (by omega)).int (by omega)
          exact go X1 e1 h hL (SR.ci hy hS') hsz st
        · obtain ⟨w, hk⟩ := tfld x _ _ _ _ hf
          obtain ⟨v, F, -, hv⟩ := hR.2.2.1 f _ _ _ hk
          obtain ⟨T1, X1, e1, st⟩ := getF X hx hZ hown (host := "") (Or.inl w) Via.refl rfl F (g := mkF mi pc Ls (.ref (A 0) :: St')) rfl rfl hd
          obtain ⟨y, rfl, hy⟩ := (hv (by omega)).long rfl
          exact go X1 e1 h hL (SR.cj hy hS') hsz st
      case putfield x =>
        obtain rfl : len = 3 := by simpa [chk, ilen] using hchk
        have lays : ∀ {f : Int} {kd j : Nat} {fin : Bool}, fkd f = some (kd, j, fin) → (fin = false ∨ q = 0) → (Jvm.Cond.lays C C (fnm f).1 (fnm f).2).before a0 Z = true ∨ ((Jvm.Cond.laysFinal C C (fnm f).1 (fnm f).2).before a0 Z = true ∧ C = C ∧ meth.name = "<init>") := fun hk hfq => by
          rcases (tfkd _ _ _ _ hk).1 with ⟨-, q1⟩ | ⟨q0, q1⟩
          · exact Or.inl q1
          · rcases hfq with hfq | hfq
            · rw [hfq] at q0; cases q0
            · exact Or.inr ⟨q1, rfl, hini hfq⟩
        rcases putfield_some h with ⟨f, j, fin, S', hf, rfl, ht, hq0, h⟩ | ⟨f, kd, j, fin, z, S', hf, hkd, rfl, hfq, h⟩ | ⟨f, j, fin, z, S', hf, rfl, hfq, h⟩
        · obtain ⟨w, hk⟩ := tfld x _ _ _ _ hf
          obtain ⟨hbj, St1, rfl, hS1⟩ := SR.r1 hSt
          obtain ⟨hb0, St', rfl, hS'⟩ := SR.r1 hS1
          obtain ⟨v, F, -⟩ := hR.2.2.1 f _ _ _ hk
          obtain ⟨T1, h1, X1, e1, W, st⟩ := putFN X hx hZ hown w Via.refl rfl F hR.1 (lays hk (Or.inr hq0)) tins (tfkd _ _ _ _ hk).2.1 (v := .ref (A j)) (v' := .ref (A j)) rfl rfl (g := mkF mi pc Ls (.ref (A j) :: .ref (A 0) :: St')) rfl rfl hd
          subst e1
          exact gw X1 (by omega) W (hR.wrP HT hk ht W) (by omega) (by omega) (fun q0 => absurd hq0 q0) h hS' st
        · obtain ⟨w, hk⟩ := tfld x _ _ _ _ hf
          obtain ⟨y, St1, rfl, hy, hS1⟩ := SR.i1 hSt
          obtain ⟨hb0, St', rfl, hS'⟩ := SR.r1 hS1
          obtain ⟨v, F, -⟩ := hR.2.2.1 f _ _ _ hk
          rcases hkd with rfl | rfl
          · obtain ⟨T1, h1, X1, e1, W, st⟩ := putFN X hx hZ hown w Via.refl rfl F hR.1 (lays hk hfq) tins (tfkd _ _ _ _ hk).2.1 (v := .int y) (v' := .int y) rfl rfl (g := mkF mi pc Ls (.int y :: .ref (A 0) :: St')) rfl rfl hd
            subst e1
            exact gw X1 (by omega) W (hR.wrF HT hk (by omega) (Or.inr ⟨by omega, y, rfl, hy⟩) W) (Nat.le_refl _) rfl (fun _ => rfl) h hS' st
          · obtain ⟨T1, h1, X1, e1, W, st⟩ := putFN X hx hZ hown w Via.refl rfl F hR.1 (lays hk hfq) tins (tfkd _ _ _ _ hk).2.1 (v := .int y) (v' := .int (y &&& 1)) rfl (fits_nar_bool y) (g := mkF mi pc Ls (.int y :: .ref (A 0) :: St')) rfl rfl hd
            subst e1
            exact gw X1 (by omega) W (hR.wrF HT hk (by omega) (Or.inr ⟨by omega, y &&& 1, rfl, by rw [and1_eq, hy]; rfl⟩) W) (Nat.le_refl _) rfl (fun _ => rfl) h hS' st
        · obtain ⟨w, hk⟩ := tfld x _ _ _ _ hf
          obtain ⟨y, St1, rfl, hy, hS1⟩ := SR.l1 hSt
          obtain ⟨hb0, St', rfl, hS'⟩ := SR.r1 hS1
          obtain ⟨v, F, -⟩ := hR.2.2.1 f _ _ _ hk
          obtain ⟨T1, h1, X1, e1, W, st⟩ := putFN X hx hZ hown w Via.refl rfl F hR.1 (lays hk hfq) tins (tfkd _ _ _ _ hk).2.1 (v := .long y) (v' := .long y) rfl rfl (g := mkF mi pc Ls (.long y :: .ref (A 0) :: St')) rfl rfl hd
          subst e1
          exact gw X1 (by omega) W (hR.wrF HT hk (by omega) (Or.inl ⟨rfl, y, rfl, hy⟩) W) (Nat.le_refl _) rfl (fun _ => rfl) h hS' st
      case iaload =>
        obtain rfl : len = 1 := by simpa [chk, ilen] using hchk
        obtain ⟨i, j, S', kd, nn, rfl, hl, hkd, hj, hi0, hi1, h⟩ := ald_some h
        cases Nat.eq_of_beq_eq_true hkd
        obtain ⟨y, St1, rfl, rfl, hS1⟩ := SR.i1 hSt
        obtain ⟨hbj, St', rfl, hS'⟩ := SR.r1 hS1
        obtain ⟨-, kd', n', hl', cl, hA, hsz', hel⟩ := hR.2.2.2.1 j (tlay j _ _ hl).1 (by omega)
        cases hl.symm.trans hl'
        obtain ⟨v, hv, hev⟩ := hel y.toNatClampNeg (by have := clamp32 hi0; omega)
        obtain ⟨w, rfl, hw⟩ := hev.int (by omega)
        rw [clamp32 hi0] at hw
        exact go X rfl h hL (SR.ci hw hS') hsz (fun target hr => X.iaload hx hA.1 (State.isArrayOf_alike hZ.alike hA.2.1) hA.2.2 (idx32 hi0 (by omega)) hv (g := mkF mi pc Ls (.int y :: .ref (A j) :: St')) rfl rfl hd target hr)
      case laload =>
        obtain rfl : len = 1 := by simpa [chk, ilen] using hchk
        obtain ⟨i, j, S', kd, nn, rfl, hl, hkd, hj, hi0, hi1, h⟩ := ald_some h
        cases Nat.eq_of_beq_eq_true hkd
        obtain ⟨y, St1, rfl, rfl, hS1⟩ := SR.i1 hSt
        obtain ⟨hbj, St', rfl, hS'⟩ := SR.r1 hS1
        obtain ⟨-, kd', n', hl', cl, hA, hsz', hel⟩ := hR.2.2.2.1 j (tlay j _ _ hl).1 (by omega)
        cases hl.symm.trans hl'
        obtain ⟨v, hv, hev⟩ := hel y.toNatClampNeg (by have := clamp32 hi0; omega)
        obtain ⟨w, rfl, hw⟩ := hev.long rfl
        rw [clamp32 hi0] at hw
        exact go X rfl h hL (SR.cj hw hS') hsz (fun target hr => X.laload hx hA.1 (State.isArrayOf_alike hZ.alike hA.2.1) hA.2.2 (idx32 hi0 (by omega)) hv (g := mkF mi pc Ls (.int y :: .ref (A j) :: St')) rfl rfl hd target hr)
      case baload =>
        obtain rfl : len = 1 := by simpa [chk, ilen] using hchk
        obtain ⟨i, j, S', kd, nn, rfl, hl, hkd, hj, hi0, hi1, h⟩ := ald_some h
        obtain ⟨y, St1, rfl, rfl, hS1⟩ := SR.i1 hSt
        obtain ⟨hbj, St', rfl, hS'⟩ := SR.r1 hS1
        obtain ⟨-, kd', n', hl', cl, hA, hsz', hel⟩ := hR.2.2.2.1 j (tlay j _ _ hl).1 (by omega)
        cases hl.symm.trans hl'
        have hkd : kd = 2 ∨ kd = 3 := by
          rw [Bool.or_eq_true] at hkd
          exact hkd.imp Nat.eq_of_beq_eq_true Nat.eq_of_beq_eq_true
        obtain ⟨v, hv, hev⟩ := hel y.toNatClampNeg (by have := clamp32 hi0; omega)
        obtain ⟨w, rfl, hw⟩ := hev.int (by omega)
        rw [clamp32 hi0] at hw
        rcases hkd with rfl | rfl
        · exact go X rfl h hL (SR.ci hw hS') hsz (fun target hr => X.baloadBooleans hx hA.1 (State.isArrayOf_alike hZ.alike hA.2.1) hA.2.2 (idx32 hi0 (by omega)) hv (g := mkF mi pc Ls (.int y :: .ref (A j) :: St')) rfl rfl hd target hr)
        · exact go X rfl h hL (SR.ci hw hS') hsz (fun target hr => X.baloadBytes hx hA.1 (State.isArrayOf_alike hZ.alike hA.2.1) hA.2.2 (idx32 hi0 (by omega)) hv (g := mkF mi pc Ls (.int y :: .ref (A j) :: St')) rfl rfl hd target hr)
      case iastore =>
        obtain rfl : len = 1 := by simpa [chk, ilen] using hchk
        obtain ⟨z, i, j, S', kd, nn, rfl, hl, hkd, hj, hi0, hi1, h⟩ := asi_some h
        cases Nat.eq_of_beq_eq_true hkd
        obtain ⟨zz, y, St1, rfl, hzz, rfl, hS1⟩ := SR.i2 hSt
        obtain ⟨hbj, St', rfl, hS'⟩ := SR.r1 hS1
        have h1j := (tlay j _ _ hl).1
        obtain ⟨-, kd', n', hl', cl, hA, hsz', hel⟩ := hR.2.2.2.1 j h1j (by omega)
        cases hl.symm.trans hl'
        obtain ⟨T1, h1, X1, e1, W, st⟩ := stI X hx hZ rfl hA (idx32 hi0 (by omega)) (x := zz) (g := mkF mi pc Ls (.int zz :: .int y :: .ref (A j) :: St')) rfl rfl hd
        subst e1
        have hR1 := hR.wrA h1j (by omega) hl (Or.inr ⟨by omega, zz, rfl, hzz⟩) W
        rw [clamp32 hi0] at hR1
        exact gw X1 (by omega) W hR1 (Nat.le_refl _) rfl (fun _ => rfl) h hS' st
      case lastore =>
        obtain rfl : len = 1 := by simpa [chk, ilen] using hchk
        obtain ⟨z, i, j, S', kd, nn, rfl, hl, hkd, hj, hi0, hi1, h⟩ := asl_some h
        cases Nat.eq_of_beq_eq_true hkd
        obtain ⟨zz, St0, rfl, hzz, hS0⟩ := SR.l1 hSt
        obtain ⟨y, St1, rfl, rfl, hS1⟩ := SR.i1 hS0
        obtain ⟨hbj, St', rfl, hS'⟩ := SR.r1 hS1
        have h1j := (tlay j _ _ hl).1
        obtain ⟨-, kd', n', hl', cl, hA, hsz', hel⟩ := hR.2.2.2.1 j h1j (by omega)
        cases hl.symm.trans hl'
        obtain ⟨T1, h1, X1, e1, W, st⟩ := stJ X hx hZ rfl hA (idx32 hi0 (by omega)) (x := zz) (g := mkF mi pc Ls (.long zz :: .int y :: .ref (A j) :: St')) rfl rfl hd
        subst e1
        have hR1 := hR.wrA h1j (by omega) hl (Or.inl ⟨rfl, zz, rfl, hzz⟩) W
        rw [clamp32 hi0] at hR1
        exact gw X1 (by omega) W hR1 (Nat.le_refl _) rfl (fun _ => rfl) h hS' st
      case bastore =>
        obtain rfl : len = 1 := by simpa [chk, ilen] using hchk
        obtain ⟨z, i, j, S', kd, nn, rfl, hl, hkd, hj, hi0, hi1, h⟩ := asi_some h
        obtain ⟨zz, y, St1, rfl, hzz, rfl, hS1⟩ := SR.i2 hSt
        obtain ⟨hbj, St', rfl, hS'⟩ := SR.r1 hS1
        have h1j := (tlay j _ _ hl).1
        obtain ⟨-, kd', n', hl', cl, hA, hsz', hel⟩ := hR.2.2.2.1 j h1j (by omega)
        cases hl.symm.trans hl'
        have hkd : kd = 2 ∨ kd = 3 := by
          rw [Bool.or_eq_true] at hkd
          exact hkd.imp Nat.eq_of_beq_eq_true Nat.eq_of_beq_eq_true
        rcases hkd with rfl | rfl
        · obtain ⟨T1, h1, X1, e1, W, st⟩ := stZ X hx hZ rfl hA (idx32 hi0 (by omega)) (x := zz) (g := mkF mi pc Ls (.int zz :: .int y :: .ref (A j) :: St')) rfl rfl hd
          subst e1
          have hR1 := hR.wrA (z := z % 2) h1j (by omega) hl (Or.inr ⟨by omega, zz &&& 1, rfl, by rw [and1_eq, hzz]⟩) W
          rw [clamp32 hi0] at hR1
          exact gw X1 (by omega) W hR1 (Nat.le_refl _) rfl (fun _ => rfl) h hS' st
        · obtain ⟨T1, h1, X1, e1, W, st⟩ := stB X hx hZ rfl hA (idx32 hi0 (by omega)) (x := zz) (g := mkF mi pc Ls (.int zz :: .int y :: .ref (A j) :: St')) rfl rfl hd
          subst e1
          have hR1 := hR.wrA (z := b8 z) h1j (by omega) hl (Or.inr ⟨by omega, zz.toInt8.toInt32, rfl, by rw [b8_eq, hzz]⟩) W
          rw [clamp32 hi0] at hR1
          exact gw X1 (by omega) W hR1 (Nat.le_refl _) rfl (fun _ => rfl) h hS' st
      case arraylength =>
        obtain rfl : len = 1 := by simpa [chk, ilen] using hchk
        obtain ⟨j, S', kd, nn, rfl, hl, hj, h⟩ := arraylength_some h
        obtain ⟨hbj, St', rfl, hS'⟩ := SR.r1 hSt
        obtain ⟨t1, t2, t3, t4, -⟩ := tlay j _ _ hl
        obtain ⟨-, kd', n', hl', cl, hA, hsz', hel⟩ := hR.2.2.2.1 j t1 (by omega)
        cases hl.symm.trans hl'
        exact go X rfl h hL (SR.ci (by rw [len_toInt (by omega)]; exact hsz') hS') hsz (fun target hr => X.arraylength hx hA.1 (State.isArrayOf_alike hZ.alike hA.2.1) (g := mkF mi pc Ls (.ref (A j) :: St')) rfl rfl hd target hr)
      case newarray a =>
        obtain rfl : len = 2 := by simpa [chk, ilen] using hchk
        obtain ⟨S', kd, nn, rfl, hl, ht, hka, hq0, h⟩ := newarray_some h
        obtain ⟨y, St', rfl, hy, hS'⟩ := SR.i1 hSt
        obtain ⟨t1, t2, t3, t4, t5, t6⟩ := tlay _ _ _ hl
        obtain ⟨r1, r2⟩ := hroom hq0
        have hty := kty_akind hka t5
        have e1 : (t + 1) / 2 = t / 2 := by omega
        rw [e1] at r1 r2
        have e2 : (t + 1 + 1) / 2 = t / 2 + 1 := by omega
        have hcl : (y.toNatClampNeg : Int) = nn := by rw [clamp32 (by omega)]; exact hy
        have es : psum P (t / 2 + 1) = psum P (t / 2) + nn.toNat := by simp only [psum, hl]
        have em := psum_mono P t2
        obtain ⟨T1, h1, cA, X1, eh, E, hA, st⟩ := newP X hx hZ (aty := a) (by rw [hty]; exact t6) rfl (g := mkF mi pc Ls (.int y :: St')) rfl hd rfl (by rw [Int32.lt_iff_toInt_lt]; simp only [Int32.reduceToInt]; omega) (cap := y.toNatClampNeg) (Nat.le_refl _) (by omega) (by omega) (by omega)
        subst eh
        rw [hty] at hA
        have hR1 := hR.new ht hn0 hl t5 E hy t3 hA
        have hAg : ∀ j, j ≤ (t + 1) / 2 → updA A (t / 2 + 1) T.heap.size j = A j := fun j hj => updA_ne (by omega)
        refine EndP.trans (l1 := []) (IH q _ _ _ (t + 1) m r t' m' h ps ml rk fr lc hq p e R s mi args below meth c T1 _ (cells + 1) (slots + y.toNatClampNeg) (updA A (t / 2 + 1) T.heap.size) Ls (.ref T.heap.size :: St') n0 (by rw [List.append_nil]; exact X1) hx hZ hown hby hml hret hini hR1 (hL.mono hAg (by omega)) ⟨⟨by omega, by rw [updA_eq]⟩, hS'.mono hAg (by omega)⟩ hsz (Nat.le_trans hn0 E.1) hfr hlc (by omega) (by omega) (fun _ => ⟨by rw [e2]; omega, by rw [e2, es]; omega⟩)) hAg (by omega) (fun j h1 h2 => ?_) (Fr.nil _) (by omega) (by rw [e2, es, e1]; omega) (fun q0 => absurd hq0 q0) (Sam.ext E _) st
        have : j = t / 2 + 1 := by omega
        subst this
        rw [updA_eq]; exact Nat.le_refl _
      case invokespecial x =>
        obtain rfl : len = 3 := by simpa [chk, ilen] using hchk
        obtain ⟨S', ps', ml', rk', fr', lc', rfl, hq', hob, h1, h2, h⟩ := invokespecial_some h
        cases hq.symm.trans hq'
        obtain ⟨hb0, St', rfl, hS'⟩ := SR.r1 hSt
        obtain ⟨T1, X1, e1, st⟩ := initO X hx hZ hown (tobi x hob) tob1 tob2 rfl (g := mkF mi pc Ls (.ref (A 0) :: St')) rfl (by rw [hml]; exact hsz) rfl hd (by omega) (W := cats S') (by show 2 * 0 + _ ≤ _; rw [hS'.catsum]; omega) (by omega)
        exact go X1 e1 h hL hS' hsz st
      case invokevirtual x =>
        obtain rfl : len = 3 := by simpa [chk, ilen] using hchk
        obtain ⟨q', ps', ml', rk', fr', lc', ps0, ml0, rk0, fr0, lc0, as, S', y, hm', hi', hq0, hpop, hf1, hl1, hq'0, hlen, hcall, hcont⟩ := invokevirtual_some h
        clear h
        cases hq.symm.trans hq0
        obtain ⟨y1, t1, m1⟩ := y
        obtain ⟨B, St1, hB, hS1, rfl, hBl⟩ := popA_rel hpop hSt
        obtain ⟨hb0, St', rfl, hS'⟩ := SR.r1 hS1
        have hargs : SR A ((t + 1) / 2) (vr 0 :: as) (.ref (A 0) :: B) := ⟨⟨by omega, rfl⟩, by simpa using hB A ((t + 1) / 2) [] trivial⟩
        obtain ⟨icls, iinst, icode, ipv, params, ipd, ipl⟩ := tinf q' _ _ _ _ _ hi'
        have hM := metP (l := l) (cl := 0) (sl := 0) HT IH hi' hcall hlen hn0 hR hargs (fun q0 => absurd q0 hq'0)
        have hBk := backOf (R := R) (p := p) (e := e) (below := below) (s := s) (args := args) (len := 3) (W := cats S') (rm := { frames := fr', cells := 0, slots := 0, locals := lc' }) (Q := QP P C fnm fkd Z n0 q' t A T.heap y1 t1 m1) hM hZ icode (by rw [icls]; exact tini) (by show fr' + 1 ≤ R.frames; omega) (by show cats S' + (ml' + 11) + lc' ≤ R.locals; omega)
        have hyn : (nm q').cls ≠ "java/lang/invoke/MethodHandle" ∧ (nm q').cls ≠ "java/lang/invoke/VarHandle" := by rw [icls]; exact thn
        have fin : ∀ {T1 : State} {L1 : List Loc} {v : Option Value}, Stand p l e R s mi args below meth c T1 (locs ++ L1) cells slots → QP P C fnm fkd Z n0 q' t A T.heap y1 t1 m1 v T1.heap L1 →
            (∀ target, Steps p.tables e below (T1.setTop (mkF mi (pc + 3) Ls (v.toList ++ St'))) target → Steps p.tables e below (T.setTop (mkF mi pc Ls (B.reverse ++ .ref (A 0) :: St'))) target) →
            EndP P C fnm fkd Z nA p l e R s mi args below meth c n0 q T A t locs cells slots (mkF mi pc Ls (B.reverse ++ .ref (A 0) :: St')) r t' m' := fun {T1 L1 v} X1 hQ st => by
          obtain ⟨A', g1, g2, g3, g4, g5, g6, g7, g8⟩ := hQ
          obtain rfl := g8 hq'0
          exact EndP.trans (IH q _ _ _ t1 m1 r t' m' hcont ps ml rk fr lc hq p e R s mi args below meth c T1 _ cells slots A' Ls _ n0 X1 hx hZ hown hby hml hret hini g1 (hL.mono g2 (Nat.le_refl _)) (g7.push (hS'.mono g2 (Nat.le_refl _))) hsz (Nat.le_trans hn0 g6.1) hfr hlc hce hsl hroom) g2 (Nat.le_refl _) g4 g5 (Nat.le_refl _) (Nat.le_refl _) (fun _ => ⟨rfl, rfl, rfl⟩) g6 st
        obtain ⟨cB, kB, i1, i2, i3⟩ := isOf hZ rfl hR.1
        have hlenA : ∀ sig, parseMethodDescriptor (nm q').desc = some sig → B.length = sig.parameters.length := lenOf ipd (by rw [hBl, ipl])
        rcases ipv hq'0 with hpv | ⟨hdc, hsel⟩
        · obtain ⟨cc, hcc, hcv⟩ := hR.1.cell
          have hPr : s.PrivateAt (nm q') := Jvm.Cond.privateMethod_at (mvP (args := args) hZ hpv)
          obtain ⟨c2, k2, j1, j2, j3, j4, -⟩ := Jvm.Cond.instantiable_spec (mv (args := args) hZ tins)
          have hsel : (Jvm.Cond.selects (nm q').cls (nm q') (nm q')).before args s = true := Jvm.Stand.selects_self_of_private (by rw [icls]; exact j1) j2 (by simp only [Bool.or_eq_false_iff] at j4; exact j4.1) hPr (mv hZ iinst) hyn
          obtain ⟨v, vm1, ⟨T1, L1, k1, n1⟩, -, X1, ⟨Lc, hQ, l1, c1, s1⟩, st⟩ := X.privateBack hx hown (mv hZ (tmth x _ hm')) (mv hZ iinst) hsel hPr (mv hZ icode) hyn hBk (g := mkF mi pc Ls (B.reverse ++ .ref (A 0) :: St')) rfl (by rw [hml]; exact hsz) (Steps.refl _) (a := A 0) hcc hcv (argsL := B) (rest := St') hlenA rfl (by show 2 * 0 + _ ≤ _; rw [hS'.catsum]; omega) hd (fun _ _ => ⟨rfl, rfl, hce, hsl⟩)
          dsimp only [Pt.U, Pt.locs, Pt.cells, Pt.slots] at X1 l1 c1 s1 st hQ
          subst l1 c1 s1
          exact fin X1 hQ (fun target hr => st.trans hr)
        · obtain ⟨v, vm1, ⟨T1, L1, k1, n1⟩, -, X1, ⟨Lc, hQ, l1, c1, s1⟩, st⟩ := X.virtualBack hx (C := C) (y := nm q') (z := nm q') hown (mv hZ (tmth x _ hm')) (mv hZ hdc) (notFace_of_selects (args := args) (mv hZ hsel)) (mv hZ hsel) (mv hZ iinst) hyn hBk i1 i3 (g := mkF mi pc Ls (B.reverse ++ .ref (A 0) :: St')) rfl (by rw [hml]; exact hsz) (Steps.refl _) (argsL := B) (rest := St') hlenA rfl (by show 2 * 0 + _ ≤ _; rw [hS'.catsum]; omega) hd (fun _ _ => ⟨rfl, rfl, hce, hsl⟩)
          dsimp only [Pt.U, Pt.locs, Pt.cells, Pt.slots] at X1 l1 c1 s1 st hQ
          subst l1 c1 s1
          exact fin X1 hQ (fun target hr => st.trans hr)
      case ireturn =>
        obtain rfl : len = 1 := by simpa [chk, ilen] using hchk
        obtain ⟨z, S', ps', ml', rk', fr', lc', rfl, hq', hcase⟩ := ireturn_some h
        cases hq.symm.trans hq'
        obtain ⟨y, St', rfl, hy, hS'⟩ := SR.i1 hSt
        rcases hcase with ⟨rfl, hr⟩ | ⟨rfl, hr⟩
        · cases hr
          exact ⟨some (.int y), T, A, [], cells, slots, by rw [List.append_nil]; exact X, hR, fun _ _ => rfl, Nat.le_refl _, fun j h1 h2 => by omega, Fr.nil _, Nat.le_refl _, Nat.le_refl _, fun _ => ⟨rfl, rfl, rfl⟩, Sam.refl _ _ _, ⟨y, rfl, hy⟩, (fun q => by rw [hret] at q; cases q), fun fs hfs => retI' X hx hret hd hfs⟩
        · cases hr
          exact ⟨some (.int (y &&& 1)), T, A, [], cells, slots, by rw [List.append_nil]; exact X, hR, fun _ _ => rfl, Nat.le_refl _, fun j h1 h2 => by omega, Fr.nil _, Nat.le_refl _, Nat.le_refl _, fun _ => ⟨rfl, rfl, rfl⟩, Sam.refl _ _ _, ⟨_, rfl, by rw [and1_eq, hy]⟩, (fun q => by rw [hret] at q; cases q), fun fs hfs => retN X hx (t := .boolean) hret (by simp) hd hfs⟩
      case lreturn =>
        obtain rfl : len = 1 := by simpa [chk, ilen] using hchk
        obtain ⟨z, S', ps', ml', fr', lc', rfl, hq', hr⟩ := lreturn_some h
        cases hq.symm.trans hq'
        cases hr
        obtain ⟨y, St', rfl, hy, hS'⟩ := SR.l1 hSt
        exact ⟨some (.long y), T, A, [], cells, slots, by rw [List.append_nil]; exact X, hR, fun _ _ => rfl, Nat.le_refl _, fun j h1 h2 => by omega, Fr.nil _, Nat.le_refl _, Nat.le_refl _, fun _ => ⟨rfl, rfl, rfl⟩, Sam.refl _ _ _, ⟨y, rfl, hy⟩, (fun q => by rw [hret] at q; cases q), fun fs hfs => retOut X hx hret rfl (Or.inr (Or.inl ⟨rfl, rfl, y, rfl⟩)) hd hfs⟩
      case return_ =>
        obtain rfl : len = 1 := by simpa [chk, ilen] using hchk
        obtain ⟨ps', ml', fr', lc', rfl, hq', hr⟩ := return_some h
        cases hq.symm.trans hq'
        cases hr
        cases St with
        | cons _ _ => exact hSt.elim
        | nil => exact ⟨none, T, A, [], cells, slots, by rw [List.append_nil]; exact X, hR, fun _ _ => rfl, Nat.le_refl _, fun j h1 h2 => by omega, Fr.nil _, Nat.le_refl _, Nat.le_refl _, fun _ => ⟨rfl, rfl, rfl⟩, Sam.refl _ _ _, rfl, fun _ => rfl, fun fs hfs => X.returnOut hx hret hd hfs⟩
      all_goals cases hsp
end Jvm.OwnMini
namespace Jvm.OwnMini
open Jvm Jvm.ClassFile Sem Op Lib Jvm.Free Jvm.Stand Jvm.LawKit Jvm.RoadKit
/-! The law's own methods: the objects that it has made (reference k + 1: the k-th), the script (reference 0). -/
abbrev OWd := List (Nat × OMem)
abbrev RTL := Option (Option OV × OWd)
/-- code; constants; by the pool's index: the project's method, is it the maker, the law's own static method, is it the project's class; by the law's method: parameters from the last (0 int, 1 long, 2 reference), locals, kind of the result, frames, words; live variables -/
abbrev LT := CodeT × (Nat → Option OV) × (Nat → Option Nat) × (Nat → Bool) × (Nat → Option Nat) × (Nat → Bool) × (Nat → Option (List Nat × Nat × Nat × Nat × Nat)) × LivT
abbrev lcode (Q : LT) : CodeT := Q.1
abbrev lcst (Q : LT) : Nat → Option OV := Q.2.1
abbrev lvm (Q : LT) : Nat → Option Nat := Q.2.2.1
abbrev lmk (Q : LT) : Nat → Bool := Q.2.2.2.1
abbrev lsm (Q : LT) : Nat → Option Nat := Q.2.2.2.2.1
abbrev lcl (Q : LT) : Nat → Bool := Q.2.2.2.2.2.1
abbrev linf (Q : LT) : Nat → Option (List Nat × Nat × Nat × Nat × Nat) := Q.2.2.2.2.2.2.1
abbrev lliv (Q : LT) : LivT := Q.2.2.2.2.2.2.2
/-- the script: is there one, its length, its cells -/
abbrev ScT := Bool × Int × (Int → Int)
def wget : OWd → Nat → Option (Nat × OMem)
  | [], _ => none
  | o :: _, 0 => some o
  | _ :: W, n + 1 => wget W n
def wput : OWd → Nat → Nat × OMem → OWd
  | [], _, _ => []
  | _ :: W, 0, x => x :: W
  | o :: W, n + 1, x => o :: wput W n x
def z0 : OMem := fun _ _ => 0
def popB : List Nat → List OV → List OV → Option (List OV × List OV)
  | [], S, acc => some (acc, S)
  | 0 :: ts, .inl z :: S, acc => popB ts S (vi z :: acc)
  | 1 :: ts, .inr (.inl z) :: S, acc => popB ts S (vl z :: acc)
  | 2 :: ts, .inr (.inr z) :: S, acc => popB ts S (vr z :: acc)
  | _, _, _ => none
def isSpecL : Instr → Bool
  | .new _ | .arraylength | .iaload | .invokespecial _ | .invokevirtual _ | .invokestatic _ | .ireturn | .lreturn | .return_ => true
  | _ => false
def stepLS (P : PT) (Q : LT) (T mo : Nat) (sc : ScT) (kP : Nat → Nat → OLs → List OV → Nat → OMem → RT) (k : Nat → Nat → OLs → List OV → OWd → RTL) (q pc : Nat) (L : OLs) (S : List OV) (W : OWd) (i : Instr) (len : Nat) : RTL :=
  match i with
  | .new x => cond (lcl Q x && Nat.beq q 0 && Nat.blt W.length mo) (k q (pc + len) L (vr (W.length + 1) :: S) (W ++ [(0, z0)])) none
  | .arraylength =>
    match S with
    | .inr (.inr 0) :: S' => cond sc.1 (k q (pc + len) L (vi sc.2.1 :: S') W) none
    | _ => none
  | .iaload =>
    match S with
    | .inl i :: .inr (.inr 0) :: S' => cond sc.1 (if 0 ≤ i ∧ i < sc.2.1 then k q (pc + len) L (vi (sc.2.2 i) :: S') W else none) none
    | _ => none
  | .invokespecial x =>
    match pinf P 0, linf Q q with
    | some (ps, ml, _, fr', lc'), some (_, _, _, fr, lc) =>
      match popA ps S [] with
      | some (as, .inr (.inr (o + 1)) :: S') =>
        match wget W o with
        | some (0, m) =>
          cond (lmk Q x && Nat.beq q 0 && Nat.ble (fr' + 1) fr && Nat.ble (cats S' + (ml + 11) + lc') lc && Nat.ble (initL (vr 0 :: as) ml).length ml)
            ((kP 0 0 (initL (vr 0 :: as) ml) [] 0 m).bind fun y => cond (Nat.beq y.2.1 T) (k q (pc + len) L (pushR y.1 S') (wput W o y.2)) none) none
        | _ => none
      | _ => none
    | _, _ => none
  | .invokevirtual x =>
    match lvm Q x with
    | some q' =>
      match pinf P q', linf Q q with
      | some (ps, ml, _, fr', lc'), some (_, _, _, fr, lc) =>
        match popA ps S [] with
        | some (as, .inr (.inr (o + 1)) :: S') =>
          match wget W o with
          | some (t, m) =>
            cond (Nat.ble (fr' + 1) fr && Nat.ble (cats S' + (ml + 11) + lc') lc && !(Nat.beq q' 0) && Nat.ble (initL (vr 0 :: as) ml).length ml)
              ((kP q' 0 (initL (vr 0 :: as) ml) [] t m).bind fun y => k q (pc + len) L (pushR y.1 S') (wput W o y.2)) none
          | none => none
        | _ => none
      | _, _ => none
    | none => none
  | .invokestatic x =>
    match lsm Q x with
    | some q' =>
      match linf Q q', linf Q q with
      | some (ps, ml, _, fr', lc'), some (_, _, _, fr, lc) =>
        match popB ps S [] with
        | some (as, S') =>
          cond (Nat.ble (fr' + 1) fr && Nat.ble (cats S' + (ml + 11) + lc') lc && !(Nat.beq q' 0) && Nat.ble (initL as ml).length ml)
            ((k q' 0 (initL as ml) [] W).bind fun y => k q (pc + len) L (pushR y.1 S') y.2) none
        | none => none
      | _, _ => none
    | none => none
  | .ireturn =>
    match S with
    | .inl z :: _ =>
      match linf Q q with
      | some (_, _, 1, _) => some (some (vi z), W)
      | some (_, _, 2, _) => some (some (vi (z % 2)), W)
      | _ => none
    | _ => none
  | .lreturn =>
    match S with
    | .inr (.inl z) :: _ =>
      match linf Q q with
      | some (_, _, 4, _) => some (some (vl z), W)
      | _ => none
    | _ => none
  | .return_ =>
    match S with
    | [] =>
      match linf Q q with
      | some (_, _, 0, _) => some (none, W)
      | _ => none
    | _ => none
  | _ => none
def stepLI (P : PT) (Q : LT) (T mo : Nat) (sc : ScT) (kP : Nat → Nat → OLs → List OV → Nat → OMem → RT) (k : Nat → Nat → OLs → List OV → OWd → RTL) (q pc : Nat) (L : OLs) (S : List OV) (W : OWd) (i : Instr) (len : Nat) : RTL :=
  cond (isSpecL i) (stepLS P Q T mo sc kP k q pc L S W i len) (pstep (lcst Q) i pc len L S fun pc' L' S' => k q pc' L' S' W)
def stepL (P : PT) (Q : LT) (T mo : Nat) (sc : ScT) (kP : Nat → Nat → OLs → List OV → Nat → OMem → RT) (k : Nat → Nat → OLs → List OV → OWd → RTL) (q pc : Nat) (L : OLs) (S : List OV) (W : OWd) : RTL :=
  match lcode Q q pc with
  | some (i, len) => stepLI P Q T mo sc kP k q pc (mask (lliv Q q pc) L) S W i len
  | none => none
def runL (P : PT) (Q : LT) (T mo : Nat) (sc : ScT) : Nat → Nat → Nat → OLs → List OV → OWd → RTL
  | 0 => fun _ _ _ _ _ => none
  | n + 1 => stepL P Q T mo sc (runP P n) (runL P Q T mo sc n)
end Jvm.OwnMini
namespace Jvm.OwnMini
open Jvm Jvm.ClassFile Sem Op Lib Jvm.Free Jvm.Stand Jvm.LawKit Jvm.RoadKit
/-! The law's objects and script in the JVM's heap. -/
def ScR (Z : State) (h : Heap) (n0 : Nat) (a : Addr) (sc : ScT) : Prop := sc.1 = true → a < n0 ∧ ∃ c : Cell, Arr Z h a c .int ∧ (c.slots.size : Int) = sc.2.1 ∧ sc.2.1 < 2147483648 ∧ ∀ i : Nat, i < c.slots.size → ∃ x : Int32, c.slots[i]? = some (.int x) ∧ x.toInt = sc.2.2 i
def RepW (P : PT) (C : String) (fnm : FN) (fkd : FK) (Z : State) (sc : ScT) (h : Heap) (A : Nat → Addr) (AO : Nat → Nat → Addr) (n0 : Nat) (W : OWd) : Prop :=
  (∀ k t m, wget W k = some (t, m) → RepO P C fnm fkd Z h (AO k) n0 t m ∧ AO k 0 = A (k + 1)) ∧
  (∀ k k' t m t' m' j j', wget W k = some (t, m) → wget W k' = some (t', m') → k ≠ k' → j ≤ (t + 1) / 2 → j' ≤ (t' + 1) / 2 → AO k j ≠ AO k' j') ∧ ScR Z h n0 (A 0) sc
def cW (a b : Nat) : OWd → Nat
  | [] => 0
  | (0, _) :: W => a + cW a b W
  | (_ + 1, _) :: W => (a + b) + cW a b W
def ts (W : OWd) : List Nat := W.map fun o => o.1
theorem cW_ts {a b : Nat} : ∀ {W W' : OWd}, ts W = ts W' → cW a b W = cW a b W'
  | [], [], _ => rfl
  | [], _ :: _, h => by simp [ts] at h
  | _ :: _, [], h => by simp [ts] at h
  | (t, m) :: W, (t', m') :: W', h => by
    simp only [ts, List.map_cons, List.cons.injEq] at h
    obtain ⟨rfl, h⟩ := h
    have := cW_ts (a := a) (b := b) (W := W) (W' := W') h
    cases t <;> simp only [cW, this]
theorem ts_len {W W' : OWd} (h : ts W = ts W') : W.length = W'.length := by
  have := congrArg List.length h
  simpa [ts] using this
theorem cW_le (a b : Nat) : ∀ W : OWd, cW a b W ≤ W.length * (a + b)
  | [] => by simp [cW]
  | (0, _) :: W => by
    have := cW_le a b W
    simp only [cW, List.length_cons, Nat.add_mul]; omega
  | (_ + 1, _) :: W => by
    have := cW_le a b W
    simp only [cW, List.length_cons, Nat.add_mul]; omega
theorem cW_append (a b : Nat) (m : OMem) : ∀ W : OWd, cW a b (W ++ [(0, m)]) = cW a b W + a
  | [] => by simp [cW]
  | (0, _) :: W => by simp only [List.cons_append, cW, cW_append a b m W]; omega
  | (_ + 1, _) :: W => by simp only [List.cons_append, cW, cW_append a b m W]; omega
theorem wget_lt : ∀ {W : OWd} {k : Nat} {o : Nat × OMem}, wget W k = some o → k < W.length
  | [], _, _, h => by cases h
  | _ :: _, 0, _, _ => by simp
  | _ :: W, k + 1, _, h => by
    have := wget_lt (W := W) (k := k) h
    simp only [List.length_cons]; omega
theorem wput_len : ∀ (W : OWd) (k : Nat) (x : Nat × OMem), (wput W k x).length = W.length
  | [], _, _ => rfl
  | _ :: _, 0, _ => rfl
  | _ :: W, k + 1, x => by simp [wput, wput_len W k x]
theorem wget_wput : ∀ {W : OWd} {k j : Nat} {x : Nat × OMem}, k < W.length → wget (wput W k x) j = if j = k then some x else wget W j
  | [], k, j, x, h => by simp at h
  | o :: W, 0, 0, x, h => by simp [wput, wget]
  | o :: W, 0, j + 1, x, h => by simp [wput, wget]
  | o :: W, k + 1, 0, x, h => by simp [wput, wget]
  | o :: W, k + 1, j + 1, x, h => by
    have := wget_wput (W := W) (k := k) (j := j) (x := x) (by simpa using h)
    simp only [wput, wget, this, Nat.add_right_cancel_iff]
theorem ts_wput : ∀ {W : OWd} {k t : Nat} {m m' : OMem}, wget W k = some (t, m) → ts (wput W k (t, m')) = ts W
  | [], _, _, _, _, h => by cases h
  | (t, m) :: W, 0, _, _, _, h => by cases h; rfl
  | o :: W, k + 1, t, m, m', h => by
    have := ts_wput (W := W) (k := k) (t := t) (m := m) (m' := m') h
    simp only [ts, wput, List.map_cons, List.cons.injEq, true_and]
    exact this
theorem cW_made {a b : Nat} : ∀ {W : OWd} {k t : Nat} {m m' : OMem}, wget W k = some (0, m) → cW a b (wput W k (t + 1, m')) = cW a b W + b
  | [], _, _, _, _, h => by cases h
  | (t0, m) :: W, 0, _, _, _, h => by cases h; simp only [wput, cW]; omega
  | (0, m0) :: W, k + 1, t, m, m', h => by
    have := cW_made (a := a) (b := b) (W := W) (k := k) (t := t) (m := m) (m' := m') h
    simp only [wput, cW, this]; omega
  | (_ + 1, m0) :: W, k + 1, t, m, m', h => by
    have := cW_made (a := a) (b := b) (W := W) (k := k) (t := t) (m := m) (m' := m') h
    simp only [wput, cW, this]; omega
theorem cW_raw {a b : Nat} : ∀ {W : OWd} {k : Nat} {m : OMem}, wget W k = some (0, m) → cW a b W + b ≤ W.length * (a + b)
  | [], _, _, h => by cases h
  | (t0, m) :: W, 0, _, h => by
    cases h
    have := cW_le a b W
    simp only [cW, List.length_cons, Nat.add_mul]; omega
  | (0, m0) :: W, k + 1, m, h => by
    have := cW_raw (a := a) (b := b) (W := W) (k := k) (m := m) h
    simp only [cW, List.length_cons, Nat.add_mul] at *; omega
  | (_ + 1, m0) :: W, k + 1, m, h => by
    have := cW_raw (a := a) (b := b) (W := W) (k := k) (m := m) h
    simp only [cW, List.length_cons, Nat.add_mul] at *; omega
theorem wget_append : ∀ {W : OWd} {k : Nat} {x o : Nat × OMem}, wget (W ++ [x]) k = some o → (wget W k = some o ∧ k < W.length) ∨ (k = W.length ∧ o = x)
  | [], 0, x, o, h => by cases h; exact Or.inr ⟨rfl, rfl⟩
  | [], k + 1, x, o, h => by cases h
  | w :: W, 0, x, o, h => Or.inl ⟨h, by simp⟩
  | w :: W, k + 1, x, o, h => by
    rcases wget_append (W := W) (k := k) h with ⟨h1, h2⟩ | ⟨h1, h2⟩
    · exact Or.inl ⟨h1, by simpa using h2⟩
    · exact Or.inr ⟨by simpa using h1, h2⟩
section W
variable {P : PT} {C : String} {fnm : FN} {fkd : FK} {Z : State} {sc : ScT} {h h' : Heap} {A : Nat → Addr} {AO : Nat → Nat → Addr} {n0 : Nat} {W : OWd}
theorem RepW.same (hR : RepW P C fnm fkd Z sc h A AO n0 W) (e : h' = h) : RepW P C fnm fkd Z sc h' A AO n0 W := by rw [e]; exact hR
/-- an object's method has run -/
theorem RepW.ran (hR : RepW P C fnm fkd Z sc h A AO n0 W) {o t t' : Nat} {m m' : OMem} (ho : wget W o = some (t, m)) {A' : Nat → Addr} (hR' : RepO P C fnm fkd Z h' A' n0 t' m') (hA : ∀ j, j ≤ (t + 1) / 2 → A' j = AO o j) (hn : ∀ j, (t + 1) / 2 < j → j ≤ (t' + 1) / 2 → h.size ≤ A' j)
    (hS : Sam h h' (AO o) ((t + 1) / 2)) : RepW P C fnm fkd Z sc h' A (fun k => if k = o then A' else AO k) n0 (wput W o (t', m')) := by
  have hlt := wget_lt ho
  obtain ⟨r1, r2, r3⟩ := hR
  have other : ∀ {k tk mk}, wget W k = some (tk, mk) → k ≠ o → ∀ j j', j ≤ (tk + 1) / 2 → j' ≤ (t' + 1) / 2 → AO k j ≠ A' j' := fun {k tk mk} hk hne j j' hj hj' => by
    by_cases hb : j' ≤ (t + 1) / 2
    · rw [hA j' hb]; exact r2 k o _ _ _ _ j j' hk ho hne hj hb
    · have h1 := hn j' (by omega) hj'
      have h2 := (r1 k _ _ hk).1.lt hj
      exact Nat.ne_of_lt (Nat.lt_of_lt_of_le h2 h1)
  refine ⟨fun k tk mk hk => ?_, fun k k' tk mk tk' mk' j j' hk hk' hne hj hj' => ?_, fun hs => ?_⟩
  · rw [wget_wput hlt] at hk
    by_cases e : k = o
    · subst e
      rw [if_pos rfl] at hk
      cases hk
      simp only [if_true]
      exact ⟨hR', by rw [hA 0 (by omega)]; exact (r1 _ _ _ ho).2⟩
    · rw [if_neg e] at hk
      simp only [if_neg e]
      obtain ⟨q1, q2⟩ := r1 k _ _ hk
      refine ⟨q1.keep fun a c hc ⟨j, hj, ea⟩ => hS.2 a c hc fun j' hj' => ?_, q2⟩
      rw [ea]
      exact r2 k o _ _ _ _ j j' hk ho e hj hj'
  · rw [wget_wput hlt] at hk hk'
    by_cases e : k = o
    · by_cases e' : k' = o
      · exact absurd (e.trans e'.symm) hne
      · subst e
        rw [if_pos rfl] at hk
        cases hk
        rw [if_neg e'] at hk'
        simp only [if_true, if_neg e']
        exact Ne.symm (other hk' e' j' j hj' hj)
    · rw [if_neg e] at hk
      by_cases e' : k' = o
      · subst e'
        rw [if_pos rfl] at hk'
        cases hk'
        simp only [if_true, if_neg e]
        exact other hk e j j' hj hj'
      · rw [if_neg e'] at hk'
        simp only [if_neg e, if_neg e']
        exact r2 k k' _ _ _ _ j j' hk hk' hne hj hj'
  · obtain ⟨g1, c, g2, g3⟩ := r3 hs
    refine ⟨g1, c, ⟨hS.2 _ _ g2.1 fun j hj ea => ?_, g2.2⟩, g3⟩
    have : n0 ≤ AO o j := by
      by_cases e0 : j = 0
      · subst e0; exact (r1 _ _ _ ho).1.2.1
      · exact ((r1 _ _ _ ho).1.2.2.2.1 j (by omega) hj).1
    exact absurd (ea ▸ g1) (Nat.not_lt.mpr this)
theorem RepW.lt (hR : RepW P C fnm fkd Z sc h A AO n0 W) {k : Nat} (hk : 1 ≤ k) (hk' : k ≤ W.length) : ∃ t m, wget W (k - 1) = some (t, m) := by
  clear hR
  induction W generalizing k with
  | nil => simp at hk'; omega
  | cons o W ih =>
    obtain ⟨t, m⟩ := o
    by_cases e : k = 1
    · subst e; exact ⟨t, m, rfl⟩
    · obtain ⟨t', m', q⟩ := ih (k := k - 1) (by omega) (by simp at hk'; omega)
      refine ⟨t', m', ?_⟩
      have : k - 1 = (k - 1 - 1) + 1 := by omega
      rw [this]; exact q
/-- an object has been made -/
theorem RepW.made {nm : Nat → MethodName} {bys : Nat → ByteArray} {nA nf : Nat} {a0 : Array Value} (HT : TabP P C fnm fkd nm bys nA nf a0 Z) (hR : RepW P C fnm fkd Z sc h A AO n0 W) (hn0 : n0 ≤ h.size) (E : Ext h h') (X : Exa Z h' h.size C)
    (D : ∀ {O nm d : String} {ty : FieldType}, Laid Z a0 C O nm d → parseFieldDescriptor d = some ty → Fld Z h' h.size O nm d (defaultValue ty)) :
    RepW P C fnm fkd Z sc h' (updA A (W.length + 1) h.size) (fun k => if k = W.length then (fun _ => h.size) else AO k) n0 (W ++ [(0, z0)]) := by
  have old : ∀ {k t m}, wget W k = some (t, m) → ∀ j, j ≤ (t + 1) / 2 → AO k j < h.size := fun {k t m} hk j hj => (hR.1 k _ _ hk).1.lt hj
  obtain ⟨r1, r2, r3⟩ := hR
  have HT' := HT
  obtain ⟨-, -, tfkd, -⟩ := HT'
  refine ⟨fun k t m hk => ?_, fun k k' t m t' m' j j' hk hk' hne hj hj' => ?_, fun hs => ?_⟩
  · rcases wget_append hk with ⟨h1, h2⟩ | ⟨h1, h2⟩
    · have e : k ≠ W.length := by omega
      simp only [if_neg e]
      rw [updA_ne (by omega)]
      exact ⟨(r1 k _ _ h1).1.ext E, (r1 k _ _ h1).2⟩
    · subst h1
      cases h2
      simp only [if_true]
      refine ⟨⟨X, hn0, fun f kd j fin hf => ?_, fun j h1 h2 => by omega, fun j j' h1 h2 _ => by omega, fun j _ i => rfl⟩, by rw [updA_eq]⟩
      obtain ⟨t1, t2, t3, t4⟩ := tfkd f _ _ _ hf
      have F := D (HT.laid hf) t2
      refine ⟨_, F, fun e1 e2 => ?_, fun e1 => ?_⟩
      · have := t3 e1; omega
      · have : kd = 1 ∨ kd = 2 ∨ kd = 3 ∨ kd = 4 := by omega
        rcases this with rfl | rfl | rfl | rfl
        · exact Or.inr ⟨by decide, 0, rfl, rfl⟩
        · exact Or.inr ⟨by decide, 0, rfl, rfl⟩
        · exact Or.inr ⟨by decide, 0, rfl, rfl⟩
        · exact Or.inl ⟨rfl, 0, rfl, rfl⟩
  · rcases wget_append hk with ⟨h1, h2⟩ | ⟨h1, h2⟩
    · rcases wget_append hk' with ⟨h3, h4⟩ | ⟨h3, h4⟩
      · have e : k ≠ W.length := by omega
        have e' : k' ≠ W.length := by omega
        simp only [if_neg e, if_neg e']
        exact r2 k k' _ _ _ _ j j' h1 h3 hne hj hj'
      · have e : k ≠ W.length := by omega
        subst h3
        simp only [if_neg e, if_true]
        exact Nat.ne_of_lt (old h1 j hj)
    · rcases wget_append hk' with ⟨h3, h4⟩ | ⟨h3, h4⟩
      · have e' : k' ≠ W.length := by omega
        subst h1
        simp only [if_neg e', if_true]
        exact Nat.ne_of_gt (old h3 j' hj')
      · omega
  · rw [updA_ne (by omega)]
    obtain ⟨g1, c, g2, g3⟩ := r3 hs
    exact ⟨g1, c, g2.ext E, g3⟩
end W
theorem popB_rel {A : Nat → Addr} {b : Nat} : ∀ {ks : List Nat} {S : List OV} {acc as : List OV} {S' : List OV} {St : List Value} {X : List Value}, popB ks S acc = some (as, S') → SR A b S St → SR A b acc X →
    ∃ B St', SR A b as (B ++ X) ∧ SR A b S' St' ∧ St = B.reverse ++ St' ∧ B.length = ks.length
  | [], S, acc, as, S', St, X, h, hS, hX => by
    cases h
    exact ⟨[], St, hX, hS, rfl, rfl⟩
  | 0 :: ts, .inl z :: S, acc, as, S', St, X, h, hS, hX => by
    obtain ⟨y, St1, rfl, hy, hS1⟩ := SR.i1 hS
    obtain ⟨B, St', q1, q2, q3, q4⟩ := popB_rel (ks := ts) (X := .int y :: X) h hS1 ⟨⟨y, rfl, hy⟩, hX⟩
    exact ⟨B ++ [.int y], St', by simpa using q1, q2, by simp [q3], by simp [q4]⟩
  | 1 :: ts, .inr (.inl z) :: S, acc, as, S', St, X, h, hS, hX => by
    obtain ⟨y, St1, rfl, hy, hS1⟩ := SR.l1 hS
    obtain ⟨B, St', q1, q2, q3, q4⟩ := popB_rel (ks := ts) (X := .long y :: X) h hS1 ⟨⟨y, rfl, hy⟩, hX⟩
    exact ⟨B ++ [.long y], St', by simpa using q1, q2, by simp [q3], by simp [q4]⟩
  | 2 :: ts, .inr (.inr z) :: S, acc, as, S', St, X, h, hS, hX => by
    obtain ⟨hb, St1, rfl, hS1⟩ := SR.r1 hS
    obtain ⟨B, St', q1, q2, q3, q4⟩ := popB_rel (ks := ts) (X := .ref (A z) :: X) h hS1 ⟨⟨hb, rfl⟩, hX⟩
    exact ⟨B ++ [.ref (A z)], St', by simpa using q1, q2, by simp [q3], by simp [q4]⟩
def TabL (P : PT) (Q : LT) (C own : String) (nm lnm : Nat → MethodName) (lbys : Nat → ByteArray) (a0 : Array Value) (Z : State) : Prop :=
  (∀ q pc i len, lcode Q q pc = some (i, len) → decode (lbys q) pc = .ok (i, len) ∧ chk pc i len = true) ∧
  ((∀ x z, lcst Q x = some (.inl z) → ∃ v : Int32, (Jvm.Cond.constant own x v).before a0 Z = true ∧ v.toInt = z) ∧ (∀ x z, lcst Q x = some (.inr (.inl z)) → ∃ v : Int64, (Jvm.Cond.constantLong own x v).before a0 Z = true ∧ v.toInt = z)) ∧
  (∀ x q, lvm Q x = some q → (Jvm.Cond.methodLink own x (nm q)).before a0 Z = true ∧ (Jvm.Cond.declares (nm q)).before a0 Z = true ∧ (Jvm.Cond.selects C (nm q) (nm q)).before a0 Z = true) ∧
  (∀ x, lmk Q x = true → (Jvm.Cond.methodLink own x (nm 0)).before a0 Z = true) ∧
  (∀ x q, lsm Q x = some q → (Jvm.Cond.methodLink own x (lnm q)).before a0 Z = true) ∧
  (∀ x, lcl Q x = true → (Jvm.Cond.classLink own x C).before a0 Z = true) ∧
  (∀ q ps ml rk fr lc, linf Q q = some (ps, ml, rk, fr, lc) → q ≠ 0 → (lnm q).cls = own ∧ (Jvm.Cond.static (lnm q)).before a0 Z = true ∧ (Jvm.Cond.initialized own).before a0 Z = true ∧ (Jvm.Cond.code (lnm q) (lbys q) ml (rty rk)).before a0 Z = true ∧ ∃ params, parseMethodDescriptor (lnm q).desc = some ⟨params, rty rk⟩ ∧ params.length = ps.length) ∧
  plainName own = true ∧ (own ≠ "java/lang/invoke/MethodHandle" ∧ own ≠ "java/lang/invoke/VarHandle")
end Jvm.OwnMini
namespace Jvm.OwnMini
open Jvm Jvm.ClassFile Sem Op Lib Jvm.Free Jvm.Stand Jvm.LawKit Jvm.RoadKit
section InvL
variable {P : PT} {Q : LT} {TT mo : Nat} {sc : ScT} {kP : Nat → Nat → OLs → List OV → Nat → OMem → RT} {k : Nat → Nat → OLs → List OV → OWd → RTL} {q pc len : Nat} {L : OLs} {S : List OV} {W : OWd} {r : Option OV × OWd}
theorem new_someL {x : Nat} (h : stepLS P Q TT mo sc kP k q pc L S W (.new x) len = some r) : lcl Q x = true ∧ q = 0 ∧ W.length < mo ∧ k q (pc + len) L (vr (W.length + 1) :: S) (W ++ [(0, z0)]) = some r := by
  simp only [stepLS] at h
  obtain ⟨hb, h⟩ := cond_some h
  simp only [Bool.and_eq_true] at hb
  exact ⟨hb.1.1, Nat.eq_of_beq_eq_true hb.1.2, by simpa [Nat.blt_eq] using hb.2, h⟩
theorem length_someL (h : stepLS P Q TT mo sc kP k q pc L S W .arraylength len = some r) : ∃ S', S = .inr (.inr 0) :: S' ∧ sc.1 = true ∧ k q (pc + len) L (vi sc.2.1 :: S') W = some r := by
  simp only [stepLS] at h
  split at h
  · obtain ⟨hb, h⟩ := cond_some h
    exact ⟨_, rfl, hb, h⟩
  · cases h
theorem iaload_someL (h : stepLS P Q TT mo sc kP k q pc L S W .iaload len = some r) : ∃ i S', S = .inl i :: .inr (.inr 0) :: S' ∧ sc.1 = true ∧ 0 ≤ i ∧ i < sc.2.1 ∧ k q (pc + len) L (vi (sc.2.2 i) :: S') W = some r := by
  simp only [stepLS] at h
  split at h
  · obtain ⟨hb, h⟩ := cond_some h
    split at h
    · rename_i hc
      exact ⟨_, _, rfl, hb, hc.1, hc.2, h⟩
    · cases h
  · cases h
theorem special_someL {x : Nat} (h : stepLS P Q TT mo sc kP k q pc L S W (.invokespecial x) len = some r) : ∃ ps ml rk fr' lc' ps0 ml0 rk0 fr lc as o S' m y, pinf P 0 = some (ps, ml, rk, fr', lc') ∧ linf Q q = some (ps0, ml0, rk0, fr, lc) ∧ popA ps S [] = some (as, .inr (.inr (o + 1)) :: S') ∧ wget W o = some (0, m) ∧
    lmk Q x = true ∧ q = 0 ∧ fr' + 1 ≤ fr ∧ cats S' + (ml + 11) + lc' ≤ lc ∧ (initL (vr 0 :: as) ml).length ≤ ml ∧ kP 0 0 (initL (vr 0 :: as) ml) [] 0 m = some y ∧ y.2.1 = TT ∧ k q (pc + len) L (pushR y.1 S') (wput W o y.2) = some r := by
  simp only [stepLS] at h
  split at h
  · rename_i ps ml rk fr' lc' ps0 ml0 rk0 fr lc h1 h2
    split at h
    · rename_i as o S' hp
      split at h
      · rename_i m hw
        obtain ⟨hb, h⟩ := cond_some h
        simp only [Bool.and_eq_true] at hb
        obtain ⟨⟨⟨⟨g1, g2⟩, g3⟩, g4⟩, g5⟩ := hb
        obtain ⟨y, h3, h4⟩ := Option.bind_eq_some_iff.mp h
        obtain ⟨hb', h4⟩ := cond_some h4
        exact ⟨ps, ml, rk, fr', lc', ps0, ml0, rk0, fr, lc, as, o, S', m, y, h1, h2, hp, hw, g1, Nat.eq_of_beq_eq_true g2, Nat.le_of_ble_eq_true g3, Nat.le_of_ble_eq_true g4, Nat.le_of_ble_eq_true g5, h3, Nat.eq_of_beq_eq_true hb', h4⟩
      · cases h
    · cases h
  · cases h
theorem virtual_someL {x : Nat} (h : stepLS P Q TT mo sc kP k q pc L S W (.invokevirtual x) len = some r) : ∃ q' ps ml rk fr' lc' ps0 ml0 rk0 fr lc as o S' t m y, lvm Q x = some q' ∧ pinf P q' = some (ps, ml, rk, fr', lc') ∧ linf Q q = some (ps0, ml0, rk0, fr, lc) ∧ popA ps S [] = some (as, .inr (.inr (o + 1)) :: S') ∧ wget W o = some (t, m) ∧
    fr' + 1 ≤ fr ∧ cats S' + (ml + 11) + lc' ≤ lc ∧ q' ≠ 0 ∧ (initL (vr 0 :: as) ml).length ≤ ml ∧ kP q' 0 (initL (vr 0 :: as) ml) [] t m = some y ∧ k q (pc + len) L (pushR y.1 S') (wput W o y.2) = some r := by
  simp only [stepLS] at h
  split at h
  · rename_i q' hq'
    split at h
    · rename_i ps ml rk fr' lc' ps0 ml0 rk0 fr lc h1 h2
      split at h
      · rename_i as o S' hp
        split at h
        · rename_i t m hw
          obtain ⟨hb, h⟩ := cond_some h
          simp only [Bool.and_eq_true] at hb
          obtain ⟨⟨⟨g1, g2⟩, g3⟩, g4⟩ := hb
          obtain ⟨y, h3, h4⟩ := Option.bind_eq_some_iff.mp h
          exact ⟨q', ps, ml, rk, fr', lc', ps0, ml0, rk0, fr, lc, as, o, S', t, m, y, hq', h1, h2, hp, hw, Nat.le_of_ble_eq_true g1, Nat.le_of_ble_eq_true g2, (fun e => by subst e; simp at g3), Nat.le_of_ble_eq_true g4, h3, h4⟩
        · cases h
      · cases h
    · cases h
  · cases h
theorem static_someL {x : Nat} (h : stepLS P Q TT mo sc kP k q pc L S W (.invokestatic x) len = some r) : ∃ q' ps ml rk fr' lc' ps0 ml0 rk0 fr lc as S' y, lsm Q x = some q' ∧ linf Q q' = some (ps, ml, rk, fr', lc') ∧ linf Q q = some (ps0, ml0, rk0, fr, lc) ∧ popB ps S [] = some (as, S') ∧
    fr' + 1 ≤ fr ∧ cats S' + (ml + 11) + lc' ≤ lc ∧ q' ≠ 0 ∧ (initL as ml).length ≤ ml ∧ k q' 0 (initL as ml) [] W = some y ∧ k q (pc + len) L (pushR y.1 S') y.2 = some r := by
  simp only [stepLS] at h
  split at h
  · rename_i q' hq'
    split at h
    · rename_i ps ml rk fr' lc' ps0 ml0 rk0 fr lc h1 h2
      split at h
      · rename_i as S' hp
        obtain ⟨hb, h⟩ := cond_some h
        simp only [Bool.and_eq_true] at hb
        obtain ⟨⟨⟨g1, g2⟩, g3⟩, g4⟩ := hb
        obtain ⟨y, h3, h4⟩ := Option.bind_eq_some_iff.mp h
        exact ⟨q', ps, ml, rk, fr', lc', ps0, ml0, rk0, fr, lc, as, S', y, hq', h1, h2, hp, Nat.le_of_ble_eq_true g1, Nat.le_of_ble_eq_true g2, (fun e => by subst e; simp at g3), Nat.le_of_ble_eq_true g4, h3, h4⟩
      · cases h
    · cases h
  · cases h
theorem ireturn_someL (h : stepLS P Q TT mo sc kP k q pc L S W .ireturn len = some r) : ∃ z S' ps ml rk fr lc, S = .inl z :: S' ∧ linf Q q = some (ps, ml, rk, fr, lc) ∧ ((rk = 1 ∧ r = (some (vi z), W)) ∨ (rk = 2 ∧ r = (some (vi (z % 2)), W))) := by
  simp only [stepLS] at h
  split at h
  · split at h
    · rename_i hl; cases h; exact ⟨_, _, _, _, _, _, _, rfl, hl, Or.inl ⟨rfl, rfl⟩⟩
    · rename_i hl; cases h; exact ⟨_, _, _, _, _, _, _, rfl, hl, Or.inr ⟨rfl, rfl⟩⟩
    · cases h
  · cases h
theorem lreturn_someL (h : stepLS P Q TT mo sc kP k q pc L S W .lreturn len = some r) : ∃ z S' ps ml fr lc, S = .inr (.inl z) :: S' ∧ linf Q q = some (ps, ml, 4, fr, lc) ∧ r = (some (vl z), W) := by
  simp only [stepLS] at h
  split at h
  · split at h
    · rename_i hl; cases h; exact ⟨_, _, _, _, _, _, rfl, hl, rfl⟩
    · cases h
  · cases h
theorem return_someL (h : stepLS P Q TT mo sc kP k q pc L S W .return_ len = some r) : ∃ ps ml fr lc, S = [] ∧ linf Q q = some (ps, ml, 0, fr, lc) ∧ r = (none, W) := by
  simp only [stepLS] at h
  split at h
  · split at h
    · rename_i hl; cases h; exact ⟨_, _, _, _, rfl, hl, rfl⟩
    · cases h
  · cases h
end InvL
def EndL (P : PT) (C : String) (fnm : FN) (fkd : FK) (Z : State) (sc : ScT) (nA nf mo : Nat) (p : Program) (l : Launch) (e : Env) (R : Room) (s : State) (mi : MethodId) (args : Array Value) (below : List Frame) (meth : Method) (c : Code) (n0 q : Nat)
    (T : State) (A : Nat → Addr) (W : OWd) (locs : List Loc) (cells slots : Nat) (f0 : JFrame) (r : Option OV) (W' : OWd) : Prop :=
  ∃ (v : Option Value) (T' : State) (A' : Nat → Addr) (AO' : Nat → Nat → Addr) (lw : List Loc) (cells' slots' : Nat),
    Stand p l e R s mi args below meth c T' (locs ++ lw) cells' slots' ∧ RepW P C fnm fkd Z sc T'.heap A' AO' n0 W' ∧ (∀ k, k ≤ W.length → A' k = A k) ∧ W.length ≤ W'.length ∧ T.heap.size ≤ T'.heap.size ∧ Fr n0 lw ∧
    (q = 0 → cells' ≤ cW 1 nA W' ∧ slots' ≤ cW nf (psum P nA) W' ∧ W'.length ≤ mo) ∧ (q ≠ 0 → OwnMini.ts W' = OwnMini.ts W ∧ cells' = cells ∧ slots' = slots) ∧ RVl r v ∧ (meth.sig.returnType = none → v = none) ∧
    ∀ fs, (∀ (f : JFrame) (acts : List Action), f.method = mi → f.locked = none → f.entered = [] → (doReturn e (T'.setTop f) acts v).1 = T'.setFrames fs) → Steps p.tables e below (T.setTop f0) (T'.setFrames fs)
section SoundL
variable {P : PT} {Q : LT} {C own : String} {fnm : FN} {fkd : FK} {nm lnm : Nat → MethodName} {bys lbys : Nat → ByteArray} {nA nf mo : Nat} {a0 : Array Value} {Z : State} {sc : ScT}
variable {p : Program} {l : Launch} {e : Env} {R : Room} {s : State} {mi : MethodId} {args : Array Value} {below : List Frame} {meth : Method} {c : Code} {n0 q : Nat}
theorem EndL.trans {T T1 : State} {A A1 : Nat → Addr} {W W1 : OWd} {locs l1 : List Loc} {cells slots cells1 slots1 : Nat} {f0 f1 : JFrame} {r : Option OV} {W' : OWd}
    (E : EndL P C fnm fkd Z sc nA nf mo p l e R s mi args below meth c n0 q T1 A1 W1 (locs ++ l1) cells1 slots1 f1 r W') (hA : ∀ k, k ≤ W.length → A1 k = A k) (hW : W.length ≤ W1.length) (hh : T.heap.size ≤ T1.heap.size) (hF : Fr n0 l1) (hq : q ≠ 0 → OwnMini.ts W1 = OwnMini.ts W ∧ cells1 = cells ∧ slots1 = slots)
    (st : ∀ target, Steps p.tables e below (T1.setTop f1) target → Steps p.tables e below (T.setTop f0) target) : EndL P C fnm fkd Z sc nA nf mo p l e R s mi args below meth c n0 q T A W locs cells slots f0 r W' := by
  obtain ⟨v, T', A', AO', lw, cells', slots', h1, h2, h3, h4, h5, h6, h7, h8, h9, h10, h11⟩ := E
  refine ⟨v, T', A', AO', l1 ++ lw, cells', slots', by rw [← List.append_assoc]; exact h1, h2, fun k hk => (h3 k (by omega)).trans (hA k hk), by omega, by omega, hF.app h6, h7, fun hq' => ?_, h9, h10, fun fs hfs => st _ (h11 fs hfs)⟩
  obtain ⟨a1, a2, a3⟩ := hq hq'
  obtain ⟨b1, b2, b3⟩ := h8 hq'
  exact ⟨b1.trans a1, b2.trans a2, b3.trans a3⟩
def SoundAtL (P : PT) (Q : LT) (C own : String) (fnm : FN) (fkd : FK) (lbys : Nat → ByteArray) (nA nf mo : Nat) (Z : State) (sc : ScT) (l : Launch) (n : Nat) : Prop :=
  ∀ q pc L S W r W', runL P Q (2 * nA) mo sc n q pc L S W = some (r, W') → ∀ ps ml rk fr lc, linf Q q = some (ps, ml, rk, fr, lc) →
  ∀ (p : Program) (e : Env) (R : Room) (s : State) (mi : MethodId) (args : Array Value) (below : List Frame) (meth : Method) (c : Code) (T : State) (locs : List Loc) (cells slots : Nat) (A : Nat → Addr) (AO : Nat → Nat → Addr) (Ls : Array Slot) (St : List Value) (n0 : Nat),
    Stand p l e R s mi args below meth c T locs cells slots → p.tables.exec = Jvm.exec → Z.Warmed39 s.vm → s.vm.findClass own = some mi.cls → c.code = lbys q → c.maxLocals = ml → meth.sig.returnType = rty rk →
    RepW P C fnm fkd Z sc T.heap A AO n0 W → LR A W.length L Ls → SR A W.length S St → Ls.size = ml → n0 ≤ T.heap.size → fr ≤ R.frames → lc ≤ R.locals → cells ≤ R.cells → slots ≤ R.slots → W.length ≤ mo →
    (q = 0 → cells ≤ cW 1 nA W ∧ slots ≤ cW nf (psum P nA) W ∧ mo * (1 + nA) ≤ R.cells ∧ mo * (nf + psum P nA) ≤ R.slots) →
    EndL P C fnm fkd Z sc nA nf mo p l e R s mi args below meth c n0 q T A W locs cells slots (mkF mi pc Ls St) r W'
def QL (P : PT) (C : String) (fnm : FN) (fkd : FK) (Z : State) (sc : ScT) (n0 : Nat) (W : OWd) (A : Nat → Addr) (h : Heap) (r : Option OV) (W' : OWd) (v : Option Value) (h' : Heap) (L : List Loc) : Prop :=
  ∃ A' AO', RepW P C fnm fkd Z sc h' A' AO' n0 W' ∧ (∀ k, k ≤ W.length → A' k = A k) ∧ h.size ≤ h'.size ∧ Fr n0 L ∧ OwnMini.ts W' = OwnMini.ts W ∧ RVl r v
theorem metL (HL : TabL P Q C own nm lnm lbys a0 Z) {n : Nat} (hS : SoundAtL P Q C own fnm fkd lbys nA nf mo Z sc l n) {ps : List Nat} {ml rk fr lc : Nat} (hq : linf Q q = some (ps, ml, rk, fr, lc)) (hq0 : q ≠ 0) {as : List OV} {W : OWd} {r : Option OV} {W' : OWd}
    (hrun : runL P Q (2 * nA) mo sc n q 0 (initL as ml) [] W = some (r, W')) (hsz : (initL as ml).length ≤ ml) {A : Nat → Addr} {AO : Nat → Nat → Addr} {h : Heap} (hn0 : n0 ≤ h.size) (hR : RepW P C fnm fkd Z sc h A AO n0 W) (hmo : W.length ≤ mo) {vals : List Value} (hv : SR A W.length as vals) :
    MetFree l (lnm q) (head1 [Jvm.Cond.code (lnm q) (lbys q) ml (rty rk)] ({ frames := fr, cells := 0, slots := 0, locals := lc } : Room)) (fun a U => a = vals.toArray ∧ Z.Warmed39 U.vm ∧ U.heap = h) (fun _ _ _ _ _ => True)
      (fun _ U o U' => ∃ v L, o = .returned v ∧ QL P C fnm fkd Z sc n0 W A h r W' v U'.heap L ∧ FrameEnd U o U' L 0 0) := by
  have HL' := HL
  obtain ⟨-, -, -, -, -, -, hinf, hpn, -⟩ := HL'
  obtain ⟨hcls, -⟩ := hinf q ps ml rk fr lc hq hq0
  refine MetFree.of_bodySF (plainFor_of_name (by rw [hcls]; exact hpn)) hisR ?_
  intro p e s m' args below meth c s₁ Bd hml0 hP hK
  obtain ⟨rfl, hZ, hh⟩ := hP
  have X0 := Stand.of_body Bd
  have e0 : s₁.heap = h := by rw [← hh, Bd.state]; rfl
  have hown : s.vm.findClass own = some m'.cls := by rw [← hcls]; exact findClass_of_methodNamed Bd.named
  have hL := entry_rel (n := ml) hv
  have hz : (argsToLocals vals.toArray ml).size = ml := by
    rw [← hL.1]
    refine Nat.le_antisymm hsz ?_
    simp only [initL, List.length_append, List.length_replicate]; omega
  obtain ⟨v, T', A', AO', lw, cells', slots', h1, h2, h3, h4, h5, h6, h7, h8, h9, h10, h11⟩ := hS q 0 _ [] W r W' hrun ps ml rk fr lc hq p e _ s m' _ below meth c s₁ [] 0 0 A AO (argsToLocals vals.toArray ml) [] n0 X0 Bd.exec hZ hown Bd.bytes hml0 Bd.returns
    (by rw [e0]; exact hR) hL trivial hz (by rw [e0]; exact hn0) (Nat.le_refl _) (Nat.le_refl _) (Nat.zero_le _) (Nat.zero_le _) hmo (fun q0 => absurd q0 hq0)
  rw [e0] at h5
  obtain ⟨b1, b2, b3⟩ := h8 hq0
  obtain ⟨fs, hr, hrun', hended, hW, hsame⟩ := h1.leave (v := v) h10
  exact ⟨_, _, h11 fs hr, hrun', hended, v, _, rfl, ⟨A', AO', h2, h3, h5, h6, b1, h9⟩, ⟨_, rfl⟩, hW, hsame.mono (by omega) (by omega)⟩
end SoundL
set_option maxHeartbeats 4000000 in
theorem soundL {P : PT} {Q : LT} {C own : String} {fnm : FN} {fkd : FK} {nm lnm : Nat → MethodName} {bys lbys : Nat → ByteArray} {nA nf mo : Nat} {a0 : Array Value} {Z : State} {sc : ScT} (HT : TabP P C fnm fkd nm bys nA nf a0 Z) (HL : TabL P Q C own nm lnm lbys a0 Z) (hA1 : 1 ≤ nA) (l : Launch) : ∀ n, SoundAtL P Q C own fnm fkd lbys nA nf mo Z sc l n
  | 0 => fun q pc L S W r W' h => by cases h
  | n + 1 => by
    intro q pc L0 S W r W' h ps ml rk fr lc hq p e R s mi args below meth c T locs cells slots A AO Ls St n0 X hx hZ hown hby hml hret hR hL0 hSt hsz hn0 hfr hlc hce hsl hmo hroom
    have IH := soundL (mo := mo) (sc := sc) HT HL hA1 l n
    have IP := soundP HT l n
    have HT' := HT
    obtain ⟨-, -, -, -, -, -, -, -, tinf, -, -, tins, tini, -, thn, tnm, trk⟩ := HT'
    have HL' := HL
    obtain ⟨lcod, lcs, lv, lm, ls, lc', lin, lpn, lhn⟩ := HL'
    replace h : stepL P Q (2 * nA) mo sc (runP P n) (runL P Q (2 * nA) mo sc n) q pc L0 S W = some (r, W') := h
    unfold stepL at h
    cases hcd : lcode Q q pc with
    | none => rw [hcd] at h; cases h
    | some il =>
      obtain ⟨i, len⟩ := il
      rw [hcd] at h
      replace h : stepLI P Q (2 * nA) mo sc (runP P n) (runL P Q (2 * nA) mo sc n) q pc (mask (lliv Q q pc) L0) S W i len = some (r, W') := h
      have hL := hL0.mask (lliv Q q pc)
      generalize mask (lliv Q q pc) L0 = L at h hL
      obtain ⟨hdec, hchk⟩ := lcod q pc i len hcd
      have hd : decode c.code pc = .ok (i, len) := by rw [hby]; exact hdec
      have hcst : (∀ x z, lcst Q x = some (.inl z) → ∃ v : Int32, (Jvm.Cond.constant own x v).before args s = true ∧ v.toInt = z) ∧ (∀ x z, lcst Q x = some (.inr (.inl z)) → ∃ v : Int64, (Jvm.Cond.constantLong own x v).before args s = true ∧ v.toInt = z) :=
        ⟨fun x z hz => by obtain ⟨v, h1, h2⟩ := lcs.1 x z hz; exact ⟨v, mv hZ h1, h2⟩, fun x z hz => by obtain ⟨v, h1, h2⟩ := lcs.2 x z hz; exact ⟨v, mv hZ h1, h2⟩⟩
      have go : ∀ {pc' : Nat} {L' : OLs} {S' : List OV} {Ls' : Array Slot} {St' : List Value}, runL P Q (2 * nA) mo sc n q pc' L' S' W = some (r, W') → LR A W.length L' Ls' → SR A W.length S' St' → Ls'.size = ml →
          (∀ target, Steps p.tables e below (T.setTop (mkF mi pc' Ls' St')) target → Steps p.tables e below (T.setTop (mkF mi pc Ls St)) target) →
          EndL P C fnm fkd Z sc nA nf mo p l e R s mi args below meth c n0 q T A W locs cells slots (mkF mi pc Ls St) r W' := fun hrun hL1 hS1 hz1 st =>
        EndL.trans (l1 := []) (IH q _ _ _ W r W' hrun ps ml rk fr lc hq p e R s mi args below meth c T _ cells slots A AO _ _ n0 (by rw [List.append_nil]; exact X) hx hZ hown hby hml hret hR hL1 hS1 hz1 hn0 hfr hlc hce hsl hmo hroom) (fun _ _ => rfl) (Nat.le_refl _) (Nat.le_refl _) (Fr.nil _) (fun _ => ⟨rfl, rfl, rfl⟩) st
      -- going on behind an object's method
      have gv : ∀ {T1 : State} {L1 : List Loc} {v : Option Value} {y1 : Option OV} {o t t1 : Nat} {m m1 : OMem} {S' : List OV} {St' : List Value} {cells1 slots1 : Nat}, wget W o = some (t, m) → Stand p l e R s mi args below meth c T1 (locs ++ L1) cells1 slots1 →
          (∃ A', RepO P C fnm fkd Z T1.heap A' n0 t1 m1 ∧ (∀ j, j ≤ (t + 1) / 2 → A' j = AO o j) ∧ t ≤ t1 ∧ (∀ j, (t + 1) / 2 < j → j ≤ (t1 + 1) / 2 → T.heap.size ≤ A' j) ∧ Fr n0 L1 ∧ Sam T.heap T1.heap (AO o) ((t + 1) / 2) ∧ RVl y1 v) → SR A W.length S' St' → runL P Q (2 * nA) mo sc n q (pc + 3) L (pushR y1 S') (wput W o (t1, m1)) = some (r, W') →
          cells1 ≤ R.cells → slots1 ≤ R.slots → (q = 0 → cells1 ≤ cW 1 nA (wput W o (t1, m1)) ∧ slots1 ≤ cW nf (psum P nA) (wput W o (t1, m1))) → (q ≠ 0 → t1 = t ∧ cells1 = cells ∧ slots1 = slots) →
          (∀ target, Steps p.tables e below (T1.setTop (mkF mi (pc + 3) Ls (v.toList ++ St'))) target → Steps p.tables e below (T.setTop (mkF mi pc Ls St)) target) →
          EndL P C fnm fkd Z sc nA nf mo p l e R s mi args below meth c n0 q T A W locs cells slots (mkF mi pc Ls St) r W' := fun {T1 L1 v y1 o t t1 m m1 S' St' cells1 slots1} ho X1 hQ hS1 hrun hc1 hs1 h0 h1 st => by
        obtain ⟨A', g1, g2, g3, g4, g5, g6, g7⟩ := hQ
        have hR1 := hR.ran ho g1 g2 g4 g6
        have hlen := wput_len W o (t1, m1)
        refine EndL.trans (l1 := L1) (IH q _ _ _ _ r W' hrun ps ml rk fr lc hq p e R s mi args below meth c T1 _ cells1 slots1 A _ Ls _ n0 X1 hx hZ hown hby hml hret hR1 (by rw [hlen]; exact hL) (by rw [hlen]; exact g7.push hS1) hsz (Nat.le_trans hn0 g6.1) hfr hlc hc1 hs1 (by rw [hlen]; exact hmo) (fun q0 => ⟨(h0 q0).1, (h0 q0).2, (hroom q0).2.2.1, (hroom q0).2.2.2⟩)) (fun _ _ => rfl) (by rw [hlen]; exact Nat.le_refl _) g6.1 g5 (fun q0 => ?_) st
        obtain ⟨e1, e2, e3⟩ := h1 q0
        subst e1
        exact ⟨ts_wput ho, e2, e3⟩
      cases hsp : isSpecL i with
      | false =>
        simp only [stepLI, hsp, cond_false] at h
        obtain ⟨pc', L', S', Ls', St', h1, h2, h3, h4, h5⟩ := pstep_sound (cst := lcst Q) (k := fun pc' L' S' => runL P Q (2 * nA) mo sc n q pc' L' S' W) X hx hown hcst hL hSt hd hchk h
        exact go h1 h2 h3 (h4.trans hsz) h5
      | true =>
      simp only [stepLI, hsp, cond_true] at h
      clear hcd
      cases i
      case new x =>
        obtain rfl : len = 3 := by simpa [chk, ilen] using hchk
        obtain ⟨hcl, hq0, hlt, h⟩ := new_someL h
        obtain ⟨b1, b2, b3, b4⟩ := hroom hq0
        have d1 := cW_le 1 nA W
        have d2 := cW_le nf (psum P nA) W
        have d3 : (W.length + 1) * (1 + nA) ≤ mo * (1 + nA) := Nat.mul_le_mul_right _ hlt
        have d4 : (W.length + 1) * (nf + psum P nA) ≤ mo * (nf + psum P nA) := Nat.mul_le_mul_right _ hlt
        rw [Nat.add_mul] at d3 d4
        obtain ⟨T1, h1, X1, e1, E, Ex, D, -, st⟩ := newO X hx hZ hown (lc' x hcl) tins tini rfl (g := mkF mi pc Ls St) rfl hd (by omega) (by omega)
        subst e1
        have hR1 := hR.made HT hn0 E Ex D
        have hAg : ∀ k, k ≤ W.length → updA A (W.length + 1) T.heap.size k = A k := fun k hk => updA_ne (by omega)
        have hln : (W ++ [((0 : Nat), z0)]).length = W.length + 1 := by simp
        refine EndL.trans (l1 := []) (IH q _ _ _ _ r W' h ps ml rk fr lc hq p e R s mi args below meth c T1 _ (cells + 1) (slots + nf) _ _ Ls (.ref T.heap.size :: St) n0 (by rw [List.append_nil]; exact X1) hx hZ hown hby hml hret hR1 (by rw [hln]; exact hL.mono hAg (by omega)) (by rw [hln]; exact ⟨⟨Nat.le_refl _, by rw [updA_eq]⟩, hSt.mono hAg (by omega)⟩) hsz (Nat.le_trans hn0 E.1) hfr hlc (by omega) (by omega) (by rw [hln]; omega) (fun _ => ⟨by rw [cW_append]; omega, by rw [cW_append]; omega, b3, b4⟩)) hAg (by rw [hln]; omega) E.1 (Fr.nil _) (fun q0 => absurd hq0 q0) st
      case arraylength =>
        obtain rfl : len = 1 := by simpa [chk, ilen] using hchk
        obtain ⟨S', rfl, hs, h⟩ := length_someL h
        obtain ⟨hb0, St', rfl, hS'⟩ := SR.r1 hSt
        obtain ⟨g1, cl, g2, g3, g4, g5⟩ := hR.2.2 hs
        exact go h hL (SR.ci (by rw [len_toInt (by omega)]; exact g3) hS') hsz (fun target hr => X.arraylength hx g2.1 (State.isArrayOf_alike hZ.alike g2.2.1) (g := mkF mi pc Ls (.ref (A 0) :: St')) rfl rfl hd target hr)
      case iaload =>
        obtain rfl : len = 1 := by simpa [chk, ilen] using hchk
        obtain ⟨i, S', rfl, hs, hi0, hi1, h⟩ := iaload_someL h
        obtain ⟨y, St1, rfl, rfl, hS1⟩ := SR.i1 hSt
        obtain ⟨hb0, St', rfl, hS'⟩ := SR.r1 hS1
        obtain ⟨g1, cl, g2, g3, g4, g5⟩ := hR.2.2 hs
        obtain ⟨w, hv, hw⟩ := g5 y.toNatClampNeg (by have := clamp32 hi0; omega)
        rw [clamp32 hi0] at hw
        exact go h hL (SR.ci hw hS') hsz (fun target hr => X.iaload hx g2.1 (State.isArrayOf_alike hZ.alike g2.2.1) g2.2.2 (idx32 hi0 (by omega)) hv (g := mkF mi pc Ls (.int y :: .ref (A 0) :: St')) rfl rfl hd target hr)
      case invokespecial x =>
        obtain rfl : len = 3 := by simpa [chk, ilen] using hchk
        obtain ⟨ps', ml', rk', fr', lc'', ps0, ml0, rk0, fr0, lc0, as, o, S', m, y, hi', hq1, hpop, ho, hmk, hq0, hf1, hl1, hlen, hcall, hyT, hcont⟩ := special_someL h
        clear h
        cases hq.symm.trans hq1
        obtain ⟨y1, t1, m1⟩ := y
        have hyT : t1 = 2 * nA := hyT
        obtain ⟨B, St1, hB, hS1, rfl, hBl⟩ := popA_rel hpop hSt
        obtain ⟨hb0, St', rfl, hS'⟩ := SR.r1 hS1
        obtain ⟨hRo, hA0⟩ := hR.1 o _ _ ho
        obtain ⟨b1, b2, b3, b4⟩ := hroom hq0
        have d1 := cW_raw (a := 1) (b := nA) ho
        have d2 := cW_raw (a := nf) (b := psum P nA) ho
        have d3 : W.length * (1 + nA) ≤ mo * (1 + nA) := Nat.mul_le_mul_right _ hmo
        have d4 : W.length * (nf + psum P nA) ≤ mo * (nf + psum P nA) := Nat.mul_le_mul_right _ hmo
        have hargs : SR (AO o) ((0 + 1) / 2) (vr 0 :: as) (.ref (A (o + 1)) :: B) := ⟨⟨by omega, by rw [hA0]⟩, by simpa using hB (AO o) ((0 + 1) / 2) [] trivial⟩
        obtain ⟨icls, iinst, icode, -, params, ipd, ipl⟩ := tinf 0 _ _ _ _ _ hi'
        have hM := metP (l := l) (cl := nA) (sl := psum P nA) HT IP hi' hcall hlen hn0 hRo hargs (fun _ => ⟨by omega, by omega⟩)
        have hBk := backOf (R := R) (p := p) (e := e) (below := below) (s := s) (args := args) (len := 3) (W := cats S') (rm := { frames := fr', cells := nA, slots := psum P nA, locals := lc'' }) (Q := QP P C fnm fkd Z n0 0 0 (AO o) T.heap y1 t1 m1) hM hZ icode (by rw [icls]; exact tini) (by show fr' + 1 ≤ R.frames; omega) (by show cats S' + (ml' + 11) + lc'' ≤ R.locals; omega)
        have hyn : (nm 0).cls ≠ "java/lang/invoke/MethodHandle" ∧ (nm 0).cls ≠ "java/lang/invoke/VarHandle" := by rw [icls]; exact thn
        have hlenA : ∀ sig, parseMethodDescriptor (nm 0).desc = some sig → B.length = sig.parameters.length := lenOf ipd (by rw [hBl, ipl])
        have hrk : rty rk' = none := by rw [trk _ _ _ _ _ hi']; rfl
        rw [hrk] at icode
        obtain ⟨v, vm1, ⟨T1, L1, k1, n1⟩, -, X1, ⟨Lc, hQ, l1, c1, s1⟩, st⟩ := X.specialBack hx tnm hown (mv hZ (lm x hmk)) (mv hZ iinst) (mv hZ icode) hyn hBk (g := mkF mi pc Ls (B.reverse ++ .ref (A (o + 1)) :: St')) rfl (by rw [hml]; exact hsz) (Steps.refl _) (a := A (o + 1)) (argsL := B) (rest := St') hlenA rfl (by show 2 * 0 + _ ≤ _; rw [hS'.catsum]; omega) hd (fun _ _ => ⟨rfl, rfl, by show cells + nA ≤ _; omega, by show slots + psum P nA ≤ _; omega⟩)
        dsimp only [Pt.U, Pt.locs, Pt.cells, Pt.slots] at X1 l1 c1 s1 st hQ
        subst l1 c1 s1
        obtain ⟨A', g1, g2, g3, g4, g5, g6, g7, g8⟩ := hQ
        subst hyT
        have e2 : 2 * nA = (2 * nA - 1) + 1 := by omega
        have w1 : cW 1 nA (wput W o (2 * nA, m1)) = cW 1 nA W + nA := by rw [e2]; exact cW_made ho
        have w2 : cW nf (psum P nA) (wput W o (2 * nA, m1)) = cW nf (psum P nA) W + psum P nA := by rw [e2]; exact cW_made ho
        exact gv ho X1 ⟨A', g1, g2, g3, g4, g5, g6, g7⟩ hS' hcont (by omega) (by omega) (fun _ => ⟨by omega, by omega⟩) (fun q0 => absurd hq0 q0) (fun target hr => st.trans hr)
      case invokevirtual x =>
        obtain rfl : len = 3 := by simpa [chk, ilen] using hchk
        obtain ⟨q', ps', ml', rk', fr', lc'', ps0, ml0, rk0, fr0, lc0, as, o, S', t, m, y, hx', hi', hq1, hpop, ho, hf1, hl1, hq'0, hlen, hcall, hcont⟩ := virtual_someL h
        clear h
        cases hq.symm.trans hq1
        obtain ⟨y1, t1, m1⟩ := y
        obtain ⟨B, St1, hB, hS1, rfl, hBl⟩ := popA_rel hpop hSt
        obtain ⟨hb0, St', rfl, hS'⟩ := SR.r1 hS1
        obtain ⟨hRo, hA0⟩ := hR.1 o _ _ ho
        have hargs : SR (AO o) ((t + 1) / 2) (vr 0 :: as) (.ref (A (o + 1)) :: B) := ⟨⟨by omega, by rw [hA0]⟩, by simpa using hB (AO o) ((t + 1) / 2) [] trivial⟩
        obtain ⟨icls, iinst, icode, -, params, ipd, ipl⟩ := tinf q' _ _ _ _ _ hi'
        obtain ⟨vl1, vl2, vl3⟩ := lv x _ hx'
        have hM := metP (l := l) (cl := 0) (sl := 0) HT IP hi' hcall hlen hn0 hRo hargs (fun q0 => absurd q0 hq'0)
        have hBk := backOf (R := R) (p := p) (e := e) (below := below) (s := s) (args := args) (len := 3) (W := cats S') (rm := { frames := fr', cells := 0, slots := 0, locals := lc'' }) (Q := QP P C fnm fkd Z n0 q' t (AO o) T.heap y1 t1 m1) hM hZ icode (by rw [icls]; exact tini) (by show fr' + 1 ≤ R.frames; omega) (by show cats S' + (ml' + 11) + lc'' ≤ R.locals; omega)
        have hyn : (nm q').cls ≠ "java/lang/invoke/MethodHandle" ∧ (nm q').cls ≠ "java/lang/invoke/VarHandle" := by rw [icls]; exact thn
        have hlenA : ∀ sig, parseMethodDescriptor (nm q').desc = some sig → B.length = sig.parameters.length := lenOf ipd (by rw [hBl, ipl])
        obtain ⟨cB, kB, i1, i2, i3⟩ := isOf (T := T) hZ rfl hRo.1
        rw [hA0] at i3
        obtain ⟨v, vm1, ⟨T1, L1, k1, n1⟩, -, X1, ⟨Lc, hQ, l1, c1, s1⟩, st⟩ := X.virtualBack hx (C := C) (y := nm q') (z := nm q') hown (mv hZ vl1) (mv hZ vl2) (notFace_of_selects (args := args) (mv hZ vl3)) (mv hZ vl3) (mv hZ iinst) hyn hBk i1 i3 (g := mkF mi pc Ls (B.reverse ++ .ref (A (o + 1)) :: St')) rfl (by rw [hml]; exact hsz) (Steps.refl _) (argsL := B) (rest := St') hlenA rfl (by show 2 * 0 + _ ≤ _; rw [hS'.catsum]; omega) hd (fun _ _ => ⟨rfl, rfl, hce, hsl⟩)
        dsimp only [Pt.U, Pt.locs, Pt.cells, Pt.slots] at X1 l1 c1 s1 st hQ
        subst l1 c1 s1
        obtain ⟨A', g1, g2, g3, g4, g5, g6, g7, g8⟩ := hQ
        obtain rfl := g8 hq'0
        have w1 := cW_ts (a := 1) (b := nA) (ts_wput (m' := m1) ho)
        have w2 := cW_ts (a := nf) (b := psum P nA) (ts_wput (m' := m1) ho)
        exact gv ho X1 ⟨A', g1, g2, g3, g4, g5, g6, g7⟩ hS' hcont hce hsl (fun q0 => ⟨by rw [w1]; exact (hroom q0).1, by rw [w2]; exact (hroom q0).2.1⟩) (fun _ => ⟨rfl, rfl, rfl⟩) (fun target hr => st.trans hr)
      case invokestatic x =>
        obtain rfl : len = 3 := by simpa [chk, ilen] using hchk
        obtain ⟨q', ps', ml', rk', fr', lc'', ps0, ml0, rk0, fr0, lc0, as, S', y, hx', hi', hq1, hpop, hf1, hl1, hq'0, hlen, hcall, hcont⟩ := static_someL h
        clear h
        cases hq.symm.trans hq1
        obtain ⟨y1, W1⟩ := y
        obtain ⟨B, St', hB, hS', rfl, hBl⟩ := popB_rel (X := []) hpop hSt trivial
        rw [List.append_nil] at hB
        obtain ⟨icls, istat, iini, icode, params, ipd, ipl⟩ := lin q' _ _ _ _ _ hi' hq'0
        have hM := metL (l := l) HL IH hi' hq'0 hcall hlen hn0 hR hmo hB
        have hBk := backOf (R := R) (p := p) (e := e) (below := below) (s := s) (args := args) (len := 3) (W := cats S') (rm := { frames := fr', cells := 0, slots := 0, locals := lc'' }) (Q := QL P C fnm fkd Z sc n0 W A T.heap y1 W1) hM hZ icode (by rw [icls]; exact iini) (by show fr' + 1 ≤ R.frames; omega) (by show cats S' + (ml' + 11) + lc'' ≤ R.locals; omega)
        have hyn : (lnm q').cls ≠ "java/lang/invoke/MethodHandle" ∧ (lnm q').cls ≠ "java/lang/invoke/VarHandle" := by rw [icls]; exact lhn
        have hlenA : ∀ sig, parseMethodDescriptor (lnm q').desc = some sig → B.length = sig.parameters.length := lenOf ipd (by rw [hBl, ipl])
        obtain ⟨v, vm1, ⟨T1, L1, k1, n1⟩, -, X1, ⟨Lc, hQ, l1, c1, s1⟩, st⟩ := Jvm.LawKit.callS X hx hown (mv hZ (ls x _ hx')) (mv hZ istat) (mv hZ (by rw [icls]; exact iini)) (mv hZ icode) hyn hBk (g := mkF mi pc Ls (B.reverse ++ St')) rfl (by rw [hml]; exact hsz) (argsL := B) (rest := St') hlenA rfl (by show 2 * 0 + _ ≤ _; rw [hS'.catsum]; omega) hd (fun _ _ => ⟨rfl, rfl, hce, hsl⟩)
        dsimp only [Pt.U, Pt.locs, Pt.cells, Pt.slots] at X1 l1 c1 s1 st hQ
        subst l1 c1 s1
        obtain ⟨A', AO', g1, g2, g3, g4, g5, g6⟩ := hQ
        have w1 := cW_ts (a := 1) (b := nA) g5
        have w2 := cW_ts (a := nf) (b := psum P nA) g5
        have wl := ts_len g5
        exact EndL.trans (l1 := Lc) (IH q _ _ _ W1 r W' hcont ps ml rk fr lc hq p e R s mi args below meth c T1 _ _ _ A' AO' Ls _ n0 X1 hx hZ hown hby hml hret g1 (by rw [wl]; exact hL.mono g2 (Nat.le_refl _)) (by rw [wl]; exact g6.push (hS'.mono g2 (Nat.le_refl _))) hsz (Nat.le_trans hn0 g3) hfr hlc hce hsl (by rw [wl]; exact hmo) (fun q0 => ⟨by rw [w1]; exact (hroom q0).1, by rw [w2]; exact (hroom q0).2.1, (hroom q0).2.2.1, (hroom q0).2.2.2⟩)) g2 (by rw [wl]; exact Nat.le_refl _) g3 g4 (fun _ => ⟨g5, rfl, rfl⟩) st
      case ireturn =>
        obtain rfl : len = 1 := by simpa [chk, ilen] using hchk
        obtain ⟨z, S', ps', ml', rk', fr', lc'', rfl, hq', hcase⟩ := ireturn_someL h
        cases hq.symm.trans hq'
        obtain ⟨y, St', rfl, hy, hS'⟩ := SR.i1 hSt
        rcases hcase with ⟨rfl, hr⟩ | ⟨rfl, hr⟩
        · cases hr
          exact ⟨some (.int y), T, A, AO, [], cells, slots, by rw [List.append_nil]; exact X, hR, fun _ _ => rfl, Nat.le_refl _, Nat.le_refl _, Fr.nil _, fun q0 => ⟨(hroom q0).1, (hroom q0).2.1, hmo⟩, fun _ => ⟨rfl, rfl, rfl⟩, ⟨y, rfl, hy⟩, (fun q => by rw [hret] at q; cases q), fun fs hfs => retI' X hx hret hd hfs⟩
        · cases hr
          exact ⟨some (.int (y &&& 1)), T, A, AO, [], cells, slots, by rw [List.append_nil]; exact X, hR, fun _ _ => rfl, Nat.le_refl _, Nat.le_refl _, Fr.nil _, fun q0 => ⟨(hroom q0).1, (hroom q0).2.1, hmo⟩, fun _ => ⟨rfl, rfl, rfl⟩, ⟨_, rfl, by rw [and1_eq, hy]⟩, (fun q => by rw [hret] at q; cases q), fun fs hfs => retN X hx (t := .boolean) hret (by simp) hd hfs⟩
      case lreturn =>
        obtain rfl : len = 1 := by simpa [chk, ilen] using hchk
        obtain ⟨z, S', ps', ml', fr', lc'', rfl, hq', hr⟩ := lreturn_someL h
        cases hq.symm.trans hq'
        cases hr
        obtain ⟨y, St', rfl, hy, hS'⟩ := SR.l1 hSt
        exact ⟨some (.long y), T, A, AO, [], cells, slots, by rw [List.append_nil]; exact X, hR, fun _ _ => rfl, Nat.le_refl _, Nat.le_refl _, Fr.nil _, fun q0 => ⟨(hroom q0).1, (hroom q0).2.1, hmo⟩, fun _ => ⟨rfl, rfl, rfl⟩, ⟨y, rfl, hy⟩, (fun q => by rw [hret] at q; cases q), fun fs hfs => retOut X hx hret rfl (Or.inr (Or.inl ⟨rfl, rfl, y, rfl⟩)) hd hfs⟩
      case return_ =>
        obtain rfl : len = 1 := by simpa [chk, ilen] using hchk
        obtain ⟨ps', ml', fr', lc'', rfl, hq', hr⟩ := return_someL h
        cases hq.symm.trans hq'
        cases hr
        cases St with
        | cons _ _ => exact hSt.elim
        | nil => exact ⟨none, T, A, AO, [], cells, slots, by rw [List.append_nil]; exact X, hR, fun _ _ => rfl, Nat.le_refl _, Nat.le_refl _, Fr.nil _, fun q0 => ⟨(hroom q0).1, (hroom q0).2.1, hmo⟩, fun _ => ⟨rfl, rfl, rfl⟩, rfl, fun _ => rfl, fun fs hfs => X.returnOut hx hret hd hfs⟩
      all_goals cases hsp
end Jvm.OwnMini
namespace Jvm.OwnMini
/-! A plain function's outcome, followed by what the machine does from there, is what the machine does. -/
def Sim {α ρ : Type} (o : Option α) (K : α → Nat → Option ρ) (F : Nat → Option ρ) : Prop := ∀ a, o = some a → ∀ r, (∃ n, K a n = some r) → ∃ n, F n = some r
def Mono {ρ : Type} (F : Nat → Option ρ) : Prop := ∀ n r, F n = some r → F (n + 1) = some r
theorem Mono.le {ρ : Type} {F : Nat → Option ρ} (h : Mono F) {n k : Nat} (hk : n ≤ k) {r : ρ} (hn : F n = some r) : F k = some r := by
  induction hk with
  | refl => exact hn
  | step _ ih => exact h _ _ ih
section
variable {α β ρ ρ1 σ ε : Type} {K : α → Nat → Option ρ} {F : Nat → Option ρ}
theorem Sim.pur (a : α) (K : α → Nat → Option ρ) : Sim (some a) K (K a) := fun b h r hr => by cases h; exact hr
theorem Sim.non : Sim none K F := fun b h => by cases h
theorem Sim.shift (k : Nat) {o : Option α} {G : Nat → Option ρ} (h : ∀ n, F (n + k) = G n) (s : Sim o K G) : Sim o K F := fun a ha r hr => by
  obtain ⟨n, hn⟩ := s a ha r hr
  exact ⟨n + k, (h n).trans hn⟩
theorem Sim.ite {c : Prop} [Decidable c] {x y : Option α} {F G : Nat → Option ρ} (h1 : c → Sim x K F) (h2 : ¬ c → Sim y K G) : Sim (if c then x else y) K (fun n => if c then F n else G n) := by
  by_cases h : c
  · simp only [if_pos h]; exact h1 h
  · simp only [if_neg h]; exact h2 h
theorem Sim.grd {c : Prop} [Decidable c] {x : Option α} {F : Nat → Option ρ} (h1 : c → Sim x K F) : Sim (if c then x else none) K (fun n => if c then F n else none) := Sim.ite h1 (fun _ => Sim.non)
theorem Sim.dv {c : Prop} [Decidable c] {x : Option α} {F : Nat → Option ρ} (h1 : ¬ c → Sim x K F) : Sim (if c then none else x) K (fun n => if c then none else F n) := Sim.ite (fun _ => Sim.non) h1
theorem Sim.bind {f : Option β} {g : β → Option α} {K1 : β → Nat → Option ρ} (h1 : Sim f K1 F) (h2 : ∀ b, Sim (g b) K (K1 b)) : Sim (f.bind g) K F := fun a ha r hr => by
  cases f with
  | none => cases ha
  | some b => exact h1 b rfl r (h2 b a ha r hr)
theorem Sim.jmp {o : Option α} {G : Nat → Option ρ} (s : Sim o K G) (h0 : G 0 = none) (h : ∀ n, F (n + 1) = G (n + 1)) : Sim o K F := fun a ha r hr => by
  obtain ⟨n, hn⟩ := s a ha r hr
  cases n with
  | zero => rw [h0] at hn; cases hn
  | succ n => exact ⟨n + 1, (h n).trans hn⟩
theorem Sim.leaf {a : α} (h0 : K a 0 = none) (h : ∀ n, F (n + 1) = K a (n + 1)) : Sim (some a) K F := Sim.jmp (Sim.pur a K) h0 h
theorem Sim.call {f : Option β} {g : β → Option α} {K1 : β → Nat → Option ρ1} {F1 : Nat → Option ρ1} {F2 : ρ1 → Nat → Option ρ} {v : β → ρ1} (h1 : Sim f K1 F1) (hK : ∀ b n, K1 b n = some (v b)) (m1 : Mono F1) (m2 : ∀ y, Mono (F2 y)) (h2 : ∀ b, Sim (g b) K (F2 (v b))) :
    Sim (f.bind g) K (fun n => (F1 n).bind fun y => F2 y n) := fun a ha r hr => by
  cases f with
  | none => cases ha
  | some b =>
    obtain ⟨n1, hn1⟩ := h1 b rfl (v b) ⟨0, hK b 0⟩
    obtain ⟨n2, hn2⟩ := h2 b a ha r hr
    refine ⟨max n1 n2, ?_⟩
    show (F1 (max n1 n2)).bind _ = _
    rw [m1.le (Nat.le_max_left _ _) hn1]
    exact (m2 _).le (Nat.le_max_right _ _) hn2
/-- a loop: its body says: once more, or out -/
def lp (body : σ → Option (σ ⊕ ε)) : Nat → σ → Option ε
  | 0, _ => none
  | n + 1, s => match body s with
    | none => none
    | some (.inl s') => lp body n s'
    | some (.inr e) => some e
theorem Sim.lp {body : σ → Option (σ ⊕ ε)} {H : σ → Nat → Option ρ} {X : ε → Nat → Option ρ} (hb : ∀ s, Sim (body s) (Sum.elim H X) (H s)) : ∀ N s, Sim (OwnMini.lp body N s) X (H s)
  | 0, s => Sim.non
  | N + 1, s => fun a ha r hr => by
    unfold OwnMini.lp at ha
    cases hbs : body s with
    | none => rw [hbs] at ha; cases ha
    | some x =>
      rw [hbs] at ha
      cases x with
      | inl s' => exact hb s _ hbs r (Sim.lp hb N s' a ha r hr)
      | inr e => cases ha; exact hb s _ hbs r hr
end
/-- more turns than any loop here makes -/
def NN : Nat := 4611686018427387904
end Jvm.OwnMini
namespace Jvm.OwnMini
open Jvm Jvm.ClassFile Sem Op Lib Jvm.Free Jvm.Stand Jvm.LawKit Jvm.RoadKit
/-! More fuel never changes an answer. -/
theorem br_mono {β : Type} {c : ClassFile.Cond} {a b : Int} {x y x' y' : Option β} {r : β} (h1 : x = some r → x' = some r) (h2 : y = some r → y' = some r) (h : br c a b x y = some r) : br c a b x' y' = some r := by
  cases c <;> simp only [br] at h ⊢ <;> split at h <;> rename_i q <;> first | (rw [if_pos q]; first | exact h1 h | exact h2 h) | (rw [if_neg q]; first | exact h1 h | exact h2 h)
theorem tsw_mono {β : Type} (a : Int) : ∀ (lo : Int) (os : List Int) {f f' : Int → Option β} {d d' : Option β} {r : β}, (∀ o, f o = some r → f' o = some r) → (d = some r → d' = some r) → tsw a lo os f d = some r → tsw a lo os f' d' = some r
  | lo, [], f, f', d, d', r, h1, h2, h => h2 h
  | lo, o :: os, f, f', d, d', r, h1, h2, h => by
    unfold tsw at h ⊢
    split at h
    · rename_i q; rw [if_pos q]; exact h1 o h
    · rename_i q; rw [if_neg q]; exact tsw_mono a _ os h1 h2 h
set_option maxHeartbeats 4000000 in
theorem pstep_mono {β : Type} {cst : Nat → Option OV} {i : Instr} {pc len : Nat} {L : OLs} {S : List OV} {k k' : Nat → OLs → List OV → Option β} (hk : ∀ a b c r, k a b c = some r → k' a b c = some r) {r : β} (h : pstep cst i pc len L S k = some r) : pstep cst i pc len L S k' = some r := by
  cases i
  case iconst z =>
    exact hk _ _ _ _ h
  case bipush z =>
    exact hk _ _ _ _ h
  case sipush z =>
    exact hk _ _ _ _ h
  case lconst z =>
    exact hk _ _ _ _ h
  case ldc x =>
    simp only [pstep] at h ⊢
    cases hq : cst x with
    | none => rw [hq] at h; cases h
    | some v =>
      rw [hq] at h
      rcases v with z | z | z
      · exact hk _ _ _ _ h
      · cases h
      · cases h
  case ldc_w x =>
    simp only [pstep] at h ⊢
    cases hq : cst x with
    | none => rw [hq] at h; cases h
    | some v =>
      rw [hq] at h
      rcases v with z | z | z
      · exact hk _ _ _ _ h
      · cases h
      · cases h
  case ldc2_w x =>
    simp only [pstep] at h ⊢
    cases hq : cst x with
    | none => rw [hq] at h; cases h
    | some v =>
      rw [hq] at h
      rcases v with z | z | z
      · cases h
      · exact hk _ _ _ _ h
      · cases h
  case iload x =>
    obtain ⟨z, hg, h⟩ := gi_some h
    simp only [pstep, gi, hg]
    exact hk _ _ _ _ h
  case iload_n x =>
    obtain ⟨z, hg, h⟩ := gi_some h
    simp only [pstep, gi, hg]
    exact hk _ _ _ _ h
  case lload x =>
    obtain ⟨z, hg, h⟩ := gl_some h
    simp only [pstep, gl, hg]
    exact hk _ _ _ _ h
  case lload_n x =>
    obtain ⟨z, hg, h⟩ := gl_some h
    simp only [pstep, gl, hg]
    exact hk _ _ _ _ h
  case aload x =>
    obtain ⟨z, hg, h⟩ := gr_some h
    simp only [pstep, gr, hg]
    exact hk _ _ _ _ h
  case aload_n x =>
    obtain ⟨z, hg, h⟩ := gr_some h
    simp only [pstep, gr, hg]
    exact hk _ _ _ _ h
  case istore x =>
    obtain ⟨z, S', rfl, h⟩ := pi1_some h
    obtain ⟨h0, h⟩ := inL_some h
    simp only [pstep, pi1, inL, if_pos h0]
    exact hk _ _ _ _ h
  case istore_n x =>
    obtain ⟨z, S', rfl, h⟩ := pi1_some h
    obtain ⟨h0, h⟩ := inL_some h
    simp only [pstep, pi1, inL, if_pos h0]
    exact hk _ _ _ _ h
  case lstore x =>
    obtain ⟨z, S', rfl, h⟩ := pl1_some h
    obtain ⟨h0, h⟩ := inL_some h
    simp only [pstep, pl1, inL, if_pos h0]
    exact hk _ _ _ _ h
  case lstore_n x =>
    obtain ⟨z, S', rfl, h⟩ := pl1_some h
    obtain ⟨h0, h⟩ := inL_some h
    simp only [pstep, pl1, inL, if_pos h0]
    exact hk _ _ _ _ h
  case astore x =>
    obtain ⟨z, S', rfl, h⟩ := pr1_some h
    obtain ⟨h0, h⟩ := inL_some h
    simp only [pstep, pr1, inL, if_pos h0]
    exact hk _ _ _ _ h
  case astore_n x =>
    obtain ⟨z, S', rfl, h⟩ := pr1_some h
    obtain ⟨h0, h⟩ := inL_some h
    simp only [pstep, pr1, inL, if_pos h0]
    exact hk _ _ _ _ h
  case iinc x z =>
    obtain ⟨a, hg, h⟩ := gi_some h
    obtain ⟨h0, h⟩ := inL_some h
    simp only [pstep, gi, hg, inL, if_pos h0]
    exact hk _ _ _ _ h
  case iadd =>
    obtain ⟨a, b', S', rfl, h⟩ := pi2_some h
    exact hk _ _ _ _ h
  case isub =>
    obtain ⟨a, b', S', rfl, h⟩ := pi2_some h
    exact hk _ _ _ _ h
  case imul =>
    obtain ⟨a, b', S', rfl, h⟩ := pi2_some h
    exact hk _ _ _ _ h
  case iand =>
    obtain ⟨a, b', S', rfl, h⟩ := pi2_some h
    exact hk _ _ _ _ h
  case ior =>
    obtain ⟨a, b', S', rfl, h⟩ := pi2_some h
    exact hk _ _ _ _ h
  case ixor =>
    obtain ⟨a, b', S', rfl, h⟩ := pi2_some h
    exact hk _ _ _ _ h
  case ishl =>
    obtain ⟨a, b', S', rfl, h⟩ := pi2_some h
    exact hk _ _ _ _ h
  case ishr =>
    obtain ⟨a, b', S', rfl, h⟩ := pi2_some h
    exact hk _ _ _ _ h
  case iushr =>
    obtain ⟨a, b', S', rfl, h⟩ := pi2_some h
    exact hk _ _ _ _ h
  case ladd =>
    obtain ⟨a, b', S', rfl, h⟩ := pl2_some h
    exact hk _ _ _ _ h
  case lsub =>
    obtain ⟨a, b', S', rfl, h⟩ := pl2_some h
    exact hk _ _ _ _ h
  case lmul =>
    obtain ⟨a, b', S', rfl, h⟩ := pl2_some h
    exact hk _ _ _ _ h
  case land =>
    obtain ⟨a, b', S', rfl, h⟩ := pl2_some h
    exact hk _ _ _ _ h
  case lor =>
    obtain ⟨a, b', S', rfl, h⟩ := pl2_some h
    exact hk _ _ _ _ h
  case lxor =>
    obtain ⟨a, b', S', rfl, h⟩ := pl2_some h
    exact hk _ _ _ _ h
  case lcmp =>
    obtain ⟨a, b', S', rfl, h⟩ := pl2_some h
    exact hk _ _ _ _ h
  case lshl =>
    obtain ⟨a, b', S', rfl, h⟩ := pli_some h
    exact hk _ _ _ _ h
  case lshr =>
    obtain ⟨a, b', S', rfl, h⟩ := pli_some h
    exact hk _ _ _ _ h
  case lushr =>
    obtain ⟨a, b', S', rfl, h⟩ := pli_some h
    exact hk _ _ _ _ h
  case idiv =>
    obtain ⟨a, b', S', rfl, h⟩ := pi2_some h
    simp only [pstep, pi2] at h ⊢
    by_cases hz : b' = 0
    · rw [if_pos hz] at h; cases h
    · rw [if_neg hz] at h ⊢; exact hk _ _ _ _ h
  case irem =>
    obtain ⟨a, b', S', rfl, h⟩ := pi2_some h
    simp only [pstep, pi2] at h ⊢
    by_cases hz : b' = 0
    · rw [if_pos hz] at h; cases h
    · rw [if_neg hz] at h ⊢; exact hk _ _ _ _ h
  case ldiv =>
    obtain ⟨a, b', S', rfl, h⟩ := pl2_some h
    simp only [pstep, pl2] at h ⊢
    by_cases hz : b' = 0
    · rw [if_pos hz] at h; cases h
    · rw [if_neg hz] at h ⊢; exact hk _ _ _ _ h
  case lrem =>
    obtain ⟨a, b', S', rfl, h⟩ := pl2_some h
    simp only [pstep, pl2] at h ⊢
    by_cases hz : b' = 0
    · rw [if_pos hz] at h; cases h
    · rw [if_neg hz] at h ⊢; exact hk _ _ _ _ h
  case ineg =>
    obtain ⟨a, S', rfl, h⟩ := pi1_some h
    exact hk _ _ _ _ h
  case i2l =>
    obtain ⟨a, S', rfl, h⟩ := pi1_some h
    exact hk _ _ _ _ h
  case i2b =>
    obtain ⟨a, S', rfl, h⟩ := pi1_some h
    exact hk _ _ _ _ h
  case lneg =>
    obtain ⟨a, S', rfl, h⟩ := pl1_some h
    exact hk _ _ _ _ h
  case l2i =>
    obtain ⟨a, S', rfl, h⟩ := pl1_some h
    exact hk _ _ _ _ h
  case goto o =>
    exact hk _ _ _ _ h
  case if_icmp c o =>
    obtain ⟨a, b', S', rfl, h⟩ := pi2_some h
    exact br_mono (hk _ _ _ _) (hk _ _ _ _) h
  case ifCond c o =>
    obtain ⟨a, S', rfl, h⟩ := pi1_some h
    exact br_mono (hk _ _ _ _) (hk _ _ _ _) h
  case tableswitch d lo hi os =>
    obtain ⟨a, S', rfl, h⟩ := pi1_some h
    exact tsw_mono _ _ _ (fun o => hk _ _ _ _) (hk _ _ _ _) h
  case dup =>
    obtain ⟨v, S', rfl, hv, h⟩ := dup_some h
    rcases v with z | z | z
    · exact hk _ _ _ _ h
    · cases hv
    · exact hk _ _ _ _ h
  case pop =>
    obtain ⟨v, S', rfl, hv, h⟩ := pop_some h
    rcases v with z | z | z
    · exact hk _ _ _ _ h
    · cases hv
    · exact hk _ _ _ _ h
  case dup2 =>
    rcases dup2_some h with ⟨z, S', rfl, h⟩ | ⟨u, v, S', rfl, hu, hv, h⟩
    · exact hk _ _ _ _ h
    · rcases u with z | z | z
      · rcases v with y | y | y
        · exact hk _ _ _ _ h
        · cases hv
        · exact hk _ _ _ _ h
      · cases hu
      · rcases v with y | y | y
        · exact hk _ _ _ _ h
        · cases hv
        · exact hk _ _ _ _ h
  all_goals cases h
theorem cond_mono {α : Type} {b : Bool} {x x' : Option α} {r : α} (h1 : x = some r → x' = some r) (h : cond b x none = some r) : cond b x' none = some r := by
  cases b
  · cases h
  · exact h1 h
theorem ite_mono {α : Type} {c : Prop} [Decidable c] {x x' : Option α} {r : α} (h1 : x = some r → x' = some r) (h : (if c then x else none) = some r) : (if c then x' else none) = some r := by
  by_cases q : c
  · rw [if_pos q] at h ⊢; exact h1 h
  · rw [if_neg q] at h; cases h
theorem bind_mono {α β : Type} {x x' : Option α} {f f' : α → Option β} {r : β} (h1 : ∀ a, x = some a → x' = some a) (h2 : ∀ a, f a = some r → f' a = some r) (h : x.bind f = some r) : x'.bind f' = some r := by
  obtain ⟨a, q1, q2⟩ := Option.bind_eq_some_iff.mp h
  rw [h1 a q1]; exact h2 a q2
theorem ald_mono {P : PT} {kd : Nat → Bool} {S : List OV} {t : Nat} {f f' : Nat → Int → List OV → RT} {r : Option OV × Nat × OMem} (hf : ∀ a b c, f a b c = some r → f' a b c = some r) (h : ald P kd S t f = some r) : ald P kd S t f' = some r := by
  unfold ald at h ⊢
  split at h
  · split at h
    · rename_i hl
      try simp only [hl]
      exact cond_mono (ite_mono (hf _ _ _)) h
    · cases h
  · cases h
theorem asi_mono {P : PT} {kd : Nat → Bool} {S : List OV} {t : Nat} {f f' : Nat → Nat → Int → Int → List OV → RT} {r : Option OV × Nat × OMem} (hf : ∀ a b c d e, f a b c d e = some r → f' a b c d e = some r) (h : asi P kd S t f = some r) : asi P kd S t f' = some r := by
  unfold asi at h ⊢
  split at h
  · split at h
    · rename_i hl
      try simp only [hl]
      exact cond_mono (ite_mono (hf _ _ _ _ _)) h
    · cases h
  · cases h
theorem asl_mono {P : PT} {kd : Nat → Bool} {S : List OV} {t : Nat} {f f' : Nat → Int → Int → List OV → RT} {r : Option OV × Nat × OMem} (hf : ∀ a b c d, f a b c d = some r → f' a b c d = some r) (h : asl P kd S t f = some r) : asl P kd S t f' = some r := by
  unfold asl at h ⊢
  split at h
  · split at h
    · rename_i hl
      try simp only [hl]
      exact cond_mono (ite_mono (hf _ _ _ _)) h
    · cases h
  · cases h
set_option maxHeartbeats 4000000 in
theorem stepI_mono {P : PT} {k k' : Nat → Nat → OLs → List OV → Nat → OMem → RT} (hk : ∀ a b c d e f r, k a b c d e f = some r → k' a b c d e f = some r) {q pc len t : Nat} {L : OLs} {S : List OV} {m : OMem} {i : Instr} {r : Option OV × Nat × OMem} (h : stepI P k q pc L S t m i len = some r) : stepI P k' q pc L S t m i len = some r := by
  cases hsp : isSpec i with
  | false =>
    simp only [stepI, hsp, cond_false] at h ⊢
    exact pstep_mono (fun _ _ _ _ => hk _ _ _ _ _ _ _) h
  | true =>
  simp only [stepI, hsp, cond_true] at h ⊢
  cases i
  case getfield x =>
    simp only [stepS] at h ⊢
    split at h
    · split at h
      · rename_i hf; (try simp only [hf]); exact cond_mono (hk _ _ _ _ _ _ _) h
      · rename_i hf; (try simp only [hf]); exact hk _ _ _ _ _ _ _ h
      · rename_i hf; (try simp only [hf]); exact hk _ _ _ _ _ _ _ h
      · rename_i hf; (try simp only [hf]); exact hk _ _ _ _ _ _ _ h
      · cases h
    · cases h
  case putfield x =>
    simp only [stepS] at h ⊢
    split at h
    · rename_i hf
      split at h
      · (try simp only [hf]); exact cond_mono (hk _ _ _ _ _ _ _) h
      · cases h
    · rename_i hf
      split at h
      · (try simp only [hf]); exact cond_mono (hk _ _ _ _ _ _ _) h
      · cases h
    · rename_i hf
      split at h
      · (try simp only [hf]); exact cond_mono (hk _ _ _ _ _ _ _) h
      · cases h
    · rename_i hf
      split at h
      · (try simp only [hf]); exact cond_mono (hk _ _ _ _ _ _ _) h
      · cases h
    · cases h
  case iaload => exact ald_mono (fun _ _ _ => hk _ _ _ _ _ _ _) h
  case baload => exact ald_mono (fun _ _ _ => hk _ _ _ _ _ _ _) h
  case laload => exact ald_mono (fun _ _ _ => hk _ _ _ _ _ _ _) h
  case iastore => exact asi_mono (fun _ _ _ _ _ => hk _ _ _ _ _ _ _) h
  case bastore => exact asi_mono (fun _ _ _ _ _ => hk _ _ _ _ _ _ _) h
  case lastore => exact asl_mono (fun _ _ _ _ => hk _ _ _ _ _ _ _) h
  case arraylength =>
    simp only [stepS] at h ⊢
    split at h
    · split at h
      · rename_i hf; (try simp only [hf]); exact cond_mono (hk _ _ _ _ _ _ _) h
      · cases h
    · cases h
  case newarray a =>
    simp only [stepS] at h ⊢
    split at h
    · split at h
      · rename_i hf; (try simp only [hf]); exact cond_mono (ite_mono (hk _ _ _ _ _ _ _)) h
      · cases h
    · cases h
  case invokespecial x =>
    simp only [stepS] at h ⊢
    split at h
    · split at h
      · rename_i hf; (try simp only [hf]); exact cond_mono (hk _ _ _ _ _ _ _) h
      · cases h
    · cases h
  case invokevirtual x =>
    simp only [stepS] at h ⊢
    split at h
    · rename_i h0
      split at h
      · rename_i h1 h2
        split at h
        · rename_i h3
          try simp only [h0, h1, h2, h3]
          exact cond_mono (bind_mono (fun _ => hk _ _ _ _ _ _ _) (fun _ => hk _ _ _ _ _ _ _)) h
        · cases h
      · cases h
    · cases h
  case ireturn => exact h
  case lreturn => exact h
  case return_ => exact h
  all_goals cases hsp
theorem runP_mono {P : PT} (q pc : Nat) (L : OLs) (S : List OV) (t : Nat) (m : OMem) : Mono (fun n => runP P n q pc L S t m) := by
  intro n
  show ∀ r, runP P n q pc L S t m = some r → runP P (n + 1) q pc L S t m = some r
  induction n generalizing q pc L S t m with
  | zero => intro r h; cases h
  | succ n ih =>
    intro r h
    have h : stepP P (runP P n) q pc L S t m = some r := h
    show stepP P (runP P (n + 1)) q pc L S t m = some r
    unfold stepP at h ⊢
    split at h
    · rename_i hc
      try simp only [hc]
      exact stepI_mono (fun a b c d e f => ih a b c d e f) h
    · cases h
set_option maxHeartbeats 4000000 in
theorem stepLI_mono {P : PT} {Q : LT} {T mo : Nat} {sc : ScT} {kP kP' : Nat → Nat → OLs → List OV → Nat → OMem → RT} {k k' : Nat → Nat → OLs → List OV → OWd → RTL} (hp : ∀ a b c d e f r, kP a b c d e f = some r → kP' a b c d e f = some r) (hk : ∀ a b c d e r, k a b c d e = some r → k' a b c d e = some r) {q pc len : Nat} {L : OLs} {S : List OV} {W : OWd} {i : Instr} {r : Option OV × OWd}
    (h : stepLI P Q T mo sc kP k q pc L S W i len = some r) : stepLI P Q T mo sc kP' k' q pc L S W i len = some r := by
  cases hsp : isSpecL i with
  | false =>
    simp only [stepLI, hsp, cond_false] at h ⊢
    exact pstep_mono (fun _ _ _ _ => hk _ _ _ _ _ _) h
  | true =>
  simp only [stepLI, hsp, cond_true] at h ⊢
  cases i
  case new x => exact cond_mono (hk _ _ _ _ _ _) h
  case arraylength =>
    simp only [stepLS] at h ⊢
    split at h
    · exact cond_mono (hk _ _ _ _ _ _) h
    · cases h
  case iaload =>
    simp only [stepLS] at h ⊢
    split at h
    · exact cond_mono (ite_mono (hk _ _ _ _ _ _)) h
    · cases h
  case invokespecial x =>
    simp only [stepLS] at h ⊢
    split at h
    · rename_i h1 h2
      split at h
      · rename_i h3
        split at h
        · rename_i h4
          try simp only [h1, h2, h3, h4]
          exact cond_mono (bind_mono (fun _ => hp _ _ _ _ _ _ _) (fun _ => cond_mono (hk _ _ _ _ _ _))) h
        · cases h
      · cases h
    · cases h
  case invokevirtual x =>
    simp only [stepLS] at h ⊢
    split at h
    · rename_i h0
      split at h
      · rename_i h1 h2
        split at h
        · rename_i h3
          split at h
          · rename_i h4
            try simp only [h0, h1, h2, h3, h4]
            exact cond_mono (bind_mono (fun _ => hp _ _ _ _ _ _ _) (fun _ => hk _ _ _ _ _ _)) h
          · cases h
        · cases h
      · cases h
    · cases h
  case invokestatic x =>
    simp only [stepLS] at h ⊢
    split at h
    · rename_i h0
      split at h
      · rename_i h1 h2
        split at h
        · rename_i h3
          try simp only [h0, h1, h2, h3]
          exact cond_mono (bind_mono (fun _ => hk _ _ _ _ _ _) (fun _ => hk _ _ _ _ _ _)) h
        · cases h
      · cases h
    · cases h
  case ireturn => exact h
  case lreturn => exact h
  case return_ => exact h
  all_goals cases hsp
theorem runL_mono {P : PT} {Q : LT} {T mo : Nat} {sc : ScT} (q pc : Nat) (L : OLs) (S : List OV) (W : OWd) : Mono (fun n => runL P Q T mo sc n q pc L S W) := by
  intro n
  show ∀ r, runL P Q T mo sc n q pc L S W = some r → runL P Q T mo sc (n + 1) q pc L S W = some r
  induction n generalizing q pc L S W with
  | zero => intro r h; cases h
  | succ n ih =>
    intro r h
    have h : stepL P Q T mo sc (runP P n) (runL P Q T mo sc n) q pc L S W = some r := h
    show stepL P Q T mo sc (runP P (n + 1)) (runL P Q T mo sc (n + 1)) q pc L S W = some r
    unfold stepL at h ⊢
    split at h
    · rename_i hc
      try simp only [hc]
      exact stepLI_mono (fun a b c d e f => runP_mono a b c d e f n) (fun a b c d e => ih a b c d e) h
    · cases h
theorem cond_Mono {α : Type} {b : Bool} {F : Nat → Option α} (h : Mono F) : Mono (fun n => cond b (F n) none) := fun n r hn => by
  cases b
  · cases hn
  · exact h n r hn
end Jvm.OwnMini
namespace Jvm.OwnMini
open Jvm Jvm.ClassFile Sem Op Lib Jvm.Free Jvm.Stand Jvm.LawKit Jvm.RoadKit
/-! Statements on all entries of a table, from its finite list. -/
def AllL {α : Type} (Q : Nat → α → Prop) : List (Nat × α) → Prop
  | [] => True
  | x :: L => Q x.1 x.2 ∧ AllL Q L
def AllN (Q : Nat → Prop) : Nat → Prop
  | 0 => True
  | n + 1 => AllN Q n ∧ Q n
theorem allN {Q : Nat → Prop} : ∀ {N : Nat}, AllN Q N → ∀ q, q < N → Q q
  | 0, _, q, h => by omega
  | N + 1, ⟨h1, h2⟩, q, h => by
    by_cases e : q = N
    · subst e; exact h2
    · exact allN h1 q (by omega)
theorem cond_ge {α : Type} {N x : Nat} {y : Option α} (h : N ≤ x) : cond (Nat.blt x N) y none = none := by
  have : Nat.blt x N = false := by
    cases hb : Nat.blt x N with
    | false => rfl
    | true => exact absurd (Nat.le_of_ble_eq_true hb) (by omega)
  rw [this]; rfl
theorem allL_mem {α : Type} {Q : Nat → α → Prop} : ∀ {L : List (Nat × α)}, AllL Q L → ∀ x e, (x, e) ∈ L → Q x e
  | [], _, x, e, h => by cases h
  | y :: L, ⟨h1, h2⟩, x, e, h => by
    cases h with
    | head => exact h1
    | tail _ h => exact allL_mem h2 x e h
theorem tab_all {α : Type} [DecidableEq α] {f : Nat → Option α} (N : Nat) (L : List (Nat × α)) (hN : ∀ x, N ≤ x → f x = none) (h : ((List.range N).all fun x => match f x with | none => true | some e => L.any fun y => decide (y = (x, e))) = true) {Q : Nat → α → Prop} (hQ : AllL Q L) : ∀ x e, f x = some e → Q x e := by
  intro x e hx
  by_cases hlt : x < N
  · have h1 := List.all_eq_true.mp h x (List.mem_range.mpr hlt)
    rw [hx] at h1
    obtain ⟨y, hy, h2⟩ := List.any_eq_true.mp h1
    have h3 := of_decide_eq_true h2
    subst h3
    exact allL_mem hQ x e hy
  · rw [hN x (by omega)] at hx; cases hx
theorem code_all {f : Nat → Option (Instr × Nat)} {bytes : ByteArray} (N : Nat) (hN : ∀ x, N ≤ x → f x = none) (h : ((List.range N).all fun pc => match f pc with | none => true | some (i, len) => decide (decode bytes pc = .ok (i, len)) && chk pc i len) = true) : ∀ pc i len, f pc = some (i, len) → decode bytes pc = .ok (i, len) ∧ chk pc i len = true := by
  intro pc i len hx
  by_cases hlt : pc < N
  · have h1 := List.all_eq_true.mp h pc (List.mem_range.mpr hlt)
    rw [hx] at h1
    simp only [Bool.and_eq_true, decide_eq_true_eq] at h1
    exact h1
  · rw [hN pc (by omega)] at hx; cases hx
/-- the fields by their numbers -/
def fkdOf (f : Nat → Option (Nat × Nat × Bool)) : FK := fun z => match z with
  | .ofNat n => f n
  | .negSucc _ => none
def fnmOf (f : Nat → String × String) : FN := fun z => f z.toNat
theorem names_all {f : Nat → Option (Nat × Nat × Bool)} {g : Nat → String × String} (N : Nat) (hN : ∀ x, N ≤ x → f x = none) (h : ((List.range N).all fun n => (List.range N).all fun n' => Nat.beq n n' || (match f n, f n' with | some _, some _ => decide ((g n).1 ≠ (g n').1) | _, _ => true)) = true) :
    ∀ z z' x x', fkdOf f z = some x → fkdOf f z' = some x' → z ≠ z' → (fnmOf g z).1 ≠ (fnmOf g z').1 := by
  intro z z' x x' h1 h2 hne
  match z, z', h1, h2 with
  | .ofNat n, .ofNat n', h1, h2 =>
    have h1 : f n = some x := h1
    have h2 : f n' = some x' := h2
    have l1 : n < N := Nat.lt_of_not_le fun q => by rw [hN n q] at h1; cases h1
    have l2 : n' < N := Nat.lt_of_not_le fun q => by rw [hN n' q] at h2; cases h2
    have q := List.all_eq_true.mp (List.all_eq_true.mp h n (List.mem_range.mpr l1)) n' (List.mem_range.mpr l2)
    rw [h1, h2] at q
    simp only [Bool.or_eq_true, decide_eq_true_eq] at q
    rcases q with q | q
    · exact absurd (congrArg Int.ofNat (Nat.eq_of_beq_eq_true q)) hne
    · exact q
theorem ptrs_all {f : Nat → Option (Nat × Nat × Bool)} (N : Nat) (hN : ∀ x, N ≤ x → f x = none) (h : ((List.range N).all fun n => (List.range N).all fun n' => Nat.beq n n' || (match f n, f n' with | some (0, j, _), some (0, j', _) => decide (j ≠ j') | _, _ => true)) = true) :
    ∀ z z' j b b', fkdOf f z = some (0, j, b) → fkdOf f z' = some (0, j, b') → z = z' := by
  intro z z' j b b' h1 h2
  match z, z', h1, h2 with
  | .ofNat n, .ofNat n', h1, h2 =>
    have h1 : f n = some (0, j, b) := h1
    have h2 : f n' = some (0, j, b') := h2
    have l1 : n < N := Nat.lt_of_not_le fun q => by rw [hN n q] at h1; cases h1
    have l2 : n' < N := Nat.lt_of_not_le fun q => by rw [hN n' q] at h2; cases h2
    have q := List.all_eq_true.mp (List.all_eq_true.mp h n (List.mem_range.mpr l1)) n' (List.mem_range.mpr l2)
    rw [h1, h2] at q
    simp only [Bool.or_eq_true, decide_eq_true_eq] at q
    rcases q with q | q
    · rw [Nat.eq_of_beq_eq_true q]
    · exact absurd rfl q
theorem fkd_all {f : Nat → Option (Nat × Nat × Bool)} {Q : Int → Nat → Nat → Bool → Prop} (h : ∀ n e, f n = some e → Q (Int.ofNat n) e.1 e.2.1 e.2.2) : ∀ z kd j b, fkdOf f z = some (kd, j, b) → Q z kd j b := by
  intro z kd j b hz
  match z, hz with
  | .ofNat n, hz => exact h n _ hz
/-- the law, from the case's start -/
theorem lawMet {P : PT} {Q : LT} {C own : String} {fnm : FN} {fkd : FK} {nm lnm : Nat → MethodName} {bys lbys : Nat → ByteArray} {nA nf mo : Nat} {a0 : Array Value} {Z : State} {sc : ScT} (HT : TabP P C fnm fkd nm bys nA nf a0 Z) (HL : TabL P Q C own nm lnm lbys a0 Z) (hA1 : 1 ≤ nA) (l : Launch)
    {x : MethodName} (hxc : x.cls = own) {ps : List Nat} {ml fr lc : Nat} (hq : linf Q 0 = some (ps, ml, 2, fr, lc)) {n : Nat} {as : List OV} {W' : OWd} (hrun : runL P Q (2 * nA) mo sc n 0 0 (initL as ml) [] [] = some (some (vi 1), W')) (hsz : (initL as ml).length ≤ ml)
    (ws : List Jvm.Cond) {rm : Room} (hfr : fr ≤ rm.frames) (hlc : lc ≤ rm.locals) (hce : mo * (1 + nA) ≤ rm.cells) (hsl : mo * (nf + psum P nA) ≤ rm.slots) {h : Heap} {n0 : Nat} (hn0 : n0 ≤ h.size) {A : Nat → Addr} (hs : ScR Z h n0 (A 0) sc) {vals : List Value} (hv : SR A 0 as vals) :
    MetFree l x (head1 (Jvm.Cond.code x (lbys 0) ml (some .boolean) :: ws) rm) (fun a U => a = vals.toArray ∧ Z.Warmed39 U.vm ∧ U.heap = h) (fun _ _ _ _ _ => True) (fun _ U o U' => ∃ L, o = .returned (some (.int 1)) ∧ Fr n0 L ∧ FrameEnd U o U' L rm.cells rm.slots) := by
  have HL' := HL
  obtain ⟨-, -, -, -, -, -, -, hpn, -⟩ := HL'
  refine MetFree.of_bodySF (plainFor_of_name (by rw [hxc]; exact hpn)) hisR ?_
  intro p e s m' args below meth c s₁ Bd hml0 hP hK
  obtain ⟨rfl, hZ, hh⟩ := hP
  have X0 := Stand.of_body Bd
  have e0 : s₁.heap = h := by rw [← hh, Bd.state]; rfl
  have hown : s.vm.findClass own = some m'.cls := by rw [← hxc]; exact findClass_of_methodNamed Bd.named
  have hL := entry_rel (n := ml) hv
  have hz : (argsToLocals vals.toArray ml).size = ml := by
    rw [← hL.1]
    refine Nat.le_antisymm hsz ?_
    simp only [initL, List.length_append, List.length_replicate]; omega
  have hRW : RepW P C fnm fkd Z sc s₁.heap A (fun _ _ => 0) n0 [] := by
    rw [e0]
    exact ⟨fun k t m q => (by cases q), fun k k' t m t' m2 j j' q => (by cases q), hs⟩
  obtain ⟨v, T', A', AO', lw, cells', slots', h1, h2, h3, h4, h5, h6, h7, h8, h9, h10, h11⟩ := soundL HT HL hA1 l n 0 0 _ [] [] _ W' hrun ps ml 2 fr lc hq p e _ s m' _ below meth c s₁ [] 0 0 A (fun _ _ => 0) (argsToLocals vals.toArray ml) [] n0 X0 Bd.exec hZ hown Bd.bytes hml0 Bd.returns
    hRW hL trivial hz (by rw [e0]; exact hn0) hfr hlc (Nat.zero_le _) (Nat.zero_le _) (Nat.zero_le _) (fun _ => ⟨Nat.zero_le _, Nat.zero_le _, hce, hsl⟩)
  obtain ⟨b1, b2, b3⟩ := h7 rfl
  obtain ⟨y, rfl, hy⟩ := h9
  obtain rfl : y = 1 := Int32.toInt_inj.mp hy
  obtain ⟨fs, hr, hrun', hended, hW, hsame⟩ := h1.leave (v := some (.int 1)) h10
  have d1 := cW_le 1 nA W'
  have d2 := cW_le nf (psum P nA) W'
  have d3 : W'.length * (1 + nA) ≤ mo * (1 + nA) := Nat.mul_le_mul_right _ b3
  have d4 : W'.length * (nf + psum P nA) ≤ mo * (nf + psum P nA) := Nat.mul_le_mul_right _ b3
  exact ⟨_, _, h11 fs hr, hrun', hended, lw, rfl, h6, ⟨_, rfl⟩, hW, hsame.mono (by omega) (by omega)⟩
end Jvm.OwnMini
namespace Jvm.OwnMini
/-! Reasoning on the plain functions. -/
def Ok {α : Type} (o : Option α) (Q : α → Prop) : Prop := ∃ a, o = some a ∧ Q a
section
variable {α β σ ε : Type} {Q : α → Prop}
theorem Ok.ret {a : α} (h : Q a) : Ok (some a) Q := ⟨a, rfl, h⟩
theorem Ok.mono {o : Option α} {P : α → Prop} (h : Ok o P) (h2 : ∀ a, P a → Q a) : Ok o Q := by
  obtain ⟨a, e, q⟩ := h; exact ⟨a, e, h2 a q⟩
theorem Ok.bind {f : Option β} {g : β → Option α} {P : β → Prop} (h : Ok f P) (h2 : ∀ b, P b → Ok (g b) Q) : Ok (f.bind g) Q := by
  obtain ⟨a, e, q⟩ := h
  obtain ⟨c, e2, q2⟩ := h2 a q
  exact ⟨c, by rw [e]; exact e2, q2⟩
theorem Ok.bindE {f : Option β} {g : β → Option α} {b : β} (h : f = some b) (h2 : Ok (g b) Q) : Ok (f.bind g) Q := by
  rw [h]; exact h2
theorem Ok.ite {c : Prop} [Decidable c] {x y : Option α} (h1 : c → Ok x Q) (h2 : ¬ c → Ok y Q) : Ok (if c then x else y) Q := by
  by_cases h : c
  · rw [if_pos h]; exact h1 h
  · rw [if_neg h]; exact h2 h
theorem Ok.pos {c : Prop} [Decidable c] {x y : Option α} (h : c) (h1 : Ok x Q) : Ok (if c then x else y) Q := by rw [if_pos h]; exact h1
theorem Ok.neg {c : Prop} [Decidable c] {x y : Option α} (h : ¬ c) (h1 : Ok y Q) : Ok (if c then x else y) Q := by rw [if_neg h]; exact h1
theorem Ok.lp {body : σ → Option (σ ⊕ ε)} {I : σ → Prop} {μ : σ → Nat} {Qx : ε → Prop} (h : ∀ s, I s → Ok (body s) (fun x => match x with | .inl s' => I s' ∧ μ s' < μ s | .inr e => Qx e)) : ∀ (n : Nat) (s : σ), I s → μ s < n → Ok (OwnMini.lp body n s) Qx
  | 0, s, _, hn => by omega
  | n + 1, s, hI, hn => by
    obtain ⟨x, e, q⟩ := h s hI
    unfold OwnMini.lp
    rw [e]
    cases x with
    | inl s' => exact Ok.lp h n s' q.1 (by have := q.2; omega)
    | inr e' => exact ⟨e', rfl, q⟩
/-- one turn by hand -/
theorem lp_more {body : σ → Option (σ ⊕ ε)} {n : Nat} {s s' : σ} (h : body s = some (.inl s')) : lp body (n + 1) s = lp body n s' := by
  show (match body s with | none => none | some (.inl s') => lp body n s' | some (.inr e) => some e) = _
  rw [h]
theorem lp_out {body : σ → Option (σ ⊕ ε)} {n : Nat} {s : σ} {e : ε} (h : body s = some (.inr e)) : lp body (n + 1) s = some e := by
  show (match body s with | none => none | some (.inl s') => lp body n s' | some (.inr e) => some e) = _
  rw [h]
end
theorem NN_eq : NN = 4611686018427387904 := rfl
theorem w32_id {z : Int} (h : -2147483648 ≤ z ∧ z < 2147483648) : w32 z = z := by unfold w32; omega
theorem w64_id {z : Int} (h : -9223372036854775808 ≤ z ∧ z < 9223372036854775808) : w64 z = z := by unfold w64; omega
theorem sto_at (m : OMem) (k : Nat) (i z : Int) : sto m k i z k i = z := by simp [sto]
theorem sto_k (m : OMem) {k k' : Nat} (i z i' : Int) (h : k' ≠ k) : sto m k i z k' i' = m k' i' := by simp [sto, h]
theorem sto_i (m : OMem) (k k' : Nat) {i i' : Int} (z : Int) (h : i' ≠ i) : sto m k i z k' i' = m k' i' := by simp [sto, h]
end Jvm.OwnMini
namespace Jvm.OwnMini
section
variable {α β σ ε : Type} {Q : α → Prop}
theorem Ok.bind' {f : Option β} {g : β → Option α} (h : Ok f (fun b => Ok (g b) Q)) : Ok (f.bind g) Q := Ok.bind h (fun _ h => h)
theorem Ok.grd {c : Prop} [Decidable c] {x : Option α} (h : c) (h1 : Ok x Q) : Ok (if c then x else none) Q := Ok.pos h h1
theorem Ok.lp1 {body : σ → Option (σ ⊕ α)} {n : Nat} {s : σ} (h : Ok (body s) (fun x => match x with | .inl s' => Ok (OwnMini.lp body n s') Q | .inr e => Q e)) : Ok (OwnMini.lp body (n + 1) s) Q := by
  obtain ⟨x, e, q⟩ := h
  unfold OwnMini.lp
  rw [e]
  cases x with
  | inl s' => exact q
  | inr e' => exact ⟨e', rfl, q⟩
theorem Ok.lpNN {body : σ → Option (σ ⊕ α)} {s : σ} (h : Ok (body s) (fun x => match x with | .inl s' => Ok (OwnMini.lp body 4611686018427387903 s') Q | .inr e => Q e)) : Ok (OwnMini.lp body NN s) Q := Ok.lp1 (n := 4611686018427387903) h
theorem Ok.loop {body : σ → Option (σ ⊕ α)} {s : σ} (I : σ → Prop) (μ : σ → Nat) (hI : I s) (hμ : μ s < 4611686018427387904) (h : ∀ s, I s → Ok (body s) (fun x => match x with | .inl s' => I s' ∧ μ s' < μ s | .inr e => Q e)) : Ok (OwnMini.lp body NN s) Q :=
  Ok.lp (Qx := Q) (fun s hs => by obtain ⟨x, e, q⟩ := h s hs; exact ⟨x, e, by cases x <;> exact q⟩) NN s hI hμ
end
theorem Ok.law {o : Option (Int × OWd)} (h : Ok o (fun r => r.1 = 1)) : ∃ W, o = some (1, W) := by
  obtain ⟨⟨a, W⟩, e, q⟩ := h
  cases q
  exact ⟨W, e⟩
theorem w32_rng (z : Int) : -2147483648 ≤ w32 z ∧ w32 z < 2147483648 := by unfold w32; omega
theorem w32_al (a b : Int) : w32 (w32 a + b) = w32 (a + b) := by unfold w32; omega
theorem w32_ar (a b : Int) : w32 (a + w32 b) = w32 (a + b) := by unfold w32; omega
theorem w32_sl (a b : Int) : w32 (w32 a - b) = w32 (a - b) := by unfold w32; omega
theorem w32_sr (a b : Int) : w32 (a - w32 b) = w32 (a - b) := by unfold w32; omega
theorem w32_m4 (a : Int) : w32 (w32 a * 4) = w32 (a * 4) := by unfold w32; omega
theorem w32_m6 (a : Int) : w32 (w32 a * 6) = w32 (a * 6) := by unfold w32; omega
theorem w32_m10 (a : Int) : w32 (w32 a * 10) = w32 (a * 10) := by unfold w32; omega
theorem w32_m16 (a : Int) : w32 (w32 a * 16) = w32 (a * 16) := by unfold w32; omega
theorem w32_m24 (a : Int) : w32 (w32 a * 24) = w32 (a * 24) := by unfold w32; omega
theorem z0_at (k : Nat) (i : Int) : z0 k i = 0 := rfl
end Jvm.OwnMini
namespace Jvm.OwnMini
open Jvm.Kit
/-! Masks and shifts in plain integers. -/
theorem ofInt32_toInt (z : Int) : (Int32.ofInt z).toInt = w32 z := by
  rw [Int32.toInt_ofInt]; unfold w32; simp only [Int.bmod, Int32.size]; split <;> omega
theorem ofInt64_toInt (z : Int) : (Int64.ofInt z).toInt = w64 z := by
  rw [Int64.toInt_ofInt]; unfold w64; simp only [Int.bmod, Int64.size]; split <;> omega
theorem and32_1 (z : Int) : and32 z 1 = z % 2 := by
  unfold and32; rw [i32_mask _ _ (k := 1) (by decide) (by decide), ofInt32_toInt]; unfold w32; omega
theorem and32_3 (z : Int) : and32 z 3 = z % 4 := by
  unfold and32; rw [i32_mask _ _ (k := 2) (by decide) (by decide), ofInt32_toInt]; unfold w32; omega
theorem and32_7 (z : Int) : and32 z 7 = z % 8 := by
  unfold and32; rw [i32_mask _ _ (k := 3) (by decide) (by decide), ofInt32_toInt]; unfold w32; omega
theorem and32_15 (z : Int) : and32 z 15 = z % 16 := by
  unfold and32; rw [i32_mask _ _ (k := 4) (by decide) (by decide), ofInt32_toInt]; unfold w32; omega
theorem and32_31 (z : Int) : and32 z 31 = z % 32 := by
  unfold and32; rw [i32_mask _ _ (k := 5) (by decide) (by decide), ofInt32_toInt]; unfold w32; omega
theorem and32_63 (z : Int) : and32 z 63 = z % 64 := by
  unfold and32; rw [i32_mask _ _ (k := 6) (by decide) (by decide), ofInt32_toInt]; unfold w32; omega
theorem and32_127 (z : Int) : and32 z 127 = z % 128 := by
  unfold and32; rw [i32_mask _ _ (k := 7) (by decide) (by decide), ofInt32_toInt]; unfold w32; omega
theorem and32_255 (z : Int) : and32 z 255 = z % 256 := by
  unfold and32; rw [i32_mask _ _ (k := 8) (by decide) (by decide), ofInt32_toInt]; unfold w32; omega
theorem and32_511 (z : Int) : and32 z 511 = z % 512 := by
  unfold and32; rw [i32_mask _ _ (k := 9) (by decide) (by decide), ofInt32_toInt]; unfold w32; omega
theorem and32_1023 (z : Int) : and32 z 1023 = z % 1024 := by
  unfold and32; rw [i32_mask _ _ (k := 10) (by decide) (by decide), ofInt32_toInt]; unfold w32; omega
theorem and32_max (z : Int) : and32 z 2147483647 = z % 2147483648 := by
  unfold and32; rw [i32_mask _ _ (k := 31) (by decide) (by decide), ofInt32_toInt]; unfold w32; omega
theorem div32_nn {a b : Int} (ha : 0 ≤ a) (ha2 : a < 2147483648) (hb : 0 < b) : div32 a b = a / b := by
  unfold div32
  rw [Int.tdiv_eq_ediv_of_nonneg ha]
  have h1 : 0 ≤ a / b := Int.ediv_nonneg ha (by omega)
  have h2 : a / b ≤ a := Int.ediv_le_self b ha
  exact w32_id (by omega)
theorem rem32_nn {a b : Int} (ha : 0 ≤ a) : rem32 a b = a % b := by
  unfold rem32
  exact Int.tmod_eq_emod_of_nonneg ha
end Jvm.OwnMini
namespace Jvm.OwnMini
open Jvm.Kit
theorem shl1_dec : ∀ k : Fin 31, (shl32 1 (k.val : Int)) = ((2 ^ k.val : Nat) : Int) := by decide +kernel
theorem shl1_eq (k : Int) (h : 0 ≤ k ∧ k ≤ 30) : shl32 1 k = ((2 ^ k.toNat : Nat) : Int) := by
  have := shl1_dec ⟨k.toNat, by omega⟩
  simp only [Int.toNat_of_nonneg h.1] at this
  exact this
theorem shl1_rng (k : Int) (h : 0 ≤ k ∧ k ≤ 10) : 1 ≤ shl32 1 k ∧ shl32 1 k ≤ 1024 := by
  have : ∀ j : Fin 11, 1 ≤ shl32 1 (j.val : Int) ∧ shl32 1 (j.val : Int) ≤ 1024 := by decide +kernel
  have := this ⟨k.toNat, by omega⟩
  simp only [Int.toNat_of_nonneg h.1] at this
  exact this
theorem and32_nn {a : Int} (b : Int) (h : 0 ≤ a) (h2 : a < 2147483648) : 0 ≤ and32 a b ∧ and32 a b ≤ a := by
  have ha : (Int32.ofInt a).toInt = a := by rw [ofInt32_toInt, w32_id (by omega)]
  have h0 : 0 ≤ Int32.ofInt a := by rw [Int32.le_iff_toInt_le, ha]; exact h
  have g := i32_and_bounds (Int32.ofInt b) h0
  rw [Int32.le_iff_toInt_le, Int32.le_iff_toInt_le, ha, Int32.and_comm] at g
  exact g
end Jvm.OwnMini
namespace Jvm.OwnMini
theorem and32_0 (b : Int) : and32 0 b = 0 := by unfold and32; simp
theorem or32_shl (a b : Int) : or32 0 (shl32 a b) = shl32 a b := by unfold or32 shl32; rw [Int32.ofInt_toInt]; simp
theorem and32_not (b : Int) : and32 b (xor32 b (-1)) = 0 := by
  unfold and32 xor32
  rw [Int32.ofInt_toInt]
  have : Int32.ofInt b &&& (Int32.ofInt b ^^^ Int32.ofInt (-1)) = 0 := by
    rw [← Int32.toBitVec_inj]
    simp only [Int32.toBitVec_and, Int32.toBitVec_xor]
    rw [show (Int32.ofInt (-1)).toBitVec = BitVec.allOnes 32 from by decide, show (0 : Int32).toBitVec = 0#32 from by decide]
    rw [BitVec.xor_allOnes, BitVec.and_not_self]; rfl
  rw [this]; rfl
end Jvm.OwnMini
namespace Jvm.OwnMini
open Jvm Jvm.ClassFile Sem Op Lib Jvm.Free Jvm.Stand Jvm.LawKit Jvm.RoadKit
/-! The script: its length and its numbers. -/
theorem own_len {Z : State} {args : Array Value} {t : Term} {n : Int32} {a : Addr} {cl : Cell} {ty : FieldType} (h : (Jvm.Cond.le (.length t) (.int n)).value args Z none Z [] = some true) (ea : t.eval args Z none [] Z = some (.ref a)) (A : Arr Z Z.heap a cl ty) : cl.slots.size < 2 ^ 31 ∧ (cl.slots.size : Int) ≤ n.toInt := by
  obtain ⟨x, y, e1, -, -, -⟩ := cmp_v (Or.inr (Or.inr h))
  obtain ⟨b, c, f1, f2, f3, rfl⟩ := Jvm.Lib.length_spec e1
  cases ea.symm.trans f1
  cases f2.symm.trans (Arr.fin (Vm.Alike.refl _) A)
  have g := gotT (Jvm.Cond.le_ints e1 rfl) h
  rw [Int32.le_iff_toInt_le, len_toInt f3] at g
  exact ⟨f3, g⟩
def own_sc (c : Cell) (i : Int) : Int := match c.slots[i.toNat]? with | some (.int x) => x.toInt | _ => 0
theorem own_sc_rng (c : Cell) (i : Int) : -2147483648 ≤ own_sc c i ∧ own_sc c i < 2147483648 := by
  unfold own_sc
  split
  · rename_i x _
    have h1 := x.le_toInt
    have h2 := x.toInt_lt
    omega
  · omega
theorem own_sc_at {c : Cell} {i : Nat} {x : Int32} (h : c.slots[i]? = some (.int x)) : own_sc c (i : Int) = x.toInt := by
  unfold own_sc
  rw [Int.toNat_natCast, h]
theorem own_elem {Z : State} {a : Addr} {cl : Cell} (hf : Fit Z) (A : Arr Z Z.heap a cl .int) {i : Nat} (hi : i < cl.slots.size) (q : cl.slots.size < 2 ^ 31) : ∃ x : Int32, cl.slots[i]? = some (.int x) := by
  have e1 : (i.toInt32).toInt = i := len_toInt (by omega)
  have e2 : (i.toInt32).toNatClampNeg = i := by simp only [Int32.toNatClampNeg, e1]; rfl
  have hj : ¬ (i.toInt32 < 0 ∨ cl.slots.size ≤ (i.toInt32).toNatClampNeg) := by
    rw [e2]
    rintro (h | h)
    · rw [Int32.lt_iff_toInt_lt, e1] at h
      have : (0 : Int32).toInt = 0 := rfl
      omega
    · omega
  obtain ⟨v, h1, h2⟩ := elem_fit hf A hj
  obtain ⟨x, rfl⟩ := fit_I h2 (by simp)
  rw [e2] at h1
  exact ⟨x, h1⟩
end Jvm.OwnMini

namespace Jvm.Pilot.@@N@@
open Jvm Jvm.ClassFile Sem Op Lib Jvm.Free Jvm.Stand Jvm.LawKit Jvm.RoadKit Bundle Jvm.Pilot.@@N@@.Jvm.D Jvm.OwnMini
def cd_0 : Nat → Option (Instr × Nat) := fun pc => cond (Nat.blt pc 224) (cond (Nat.blt pc 117) (cond (Nat.blt pc 57) (cond (Nat.blt pc 28) (cond (Nat.blt pc 13) (cond (Nat.blt pc 5) (cond (Nat.blt pc 1) (cond (Nat.beq pc 0) (some (.aload_n 0, 1)) none) (cond (Nat.blt pc 4) (cond (Nat.beq pc 1) (some (.invokespecial 1, 3)) none) (cond (Nat.beq pc 4) (some (.aload_n 0, 1)) none))) (cond (Nat.blt pc 9) (cond (Nat.blt pc 7) (cond (Nat.beq pc 5) (some (.bipush 8, 2)) none) (cond (Nat.beq pc 7) (some (.newarray .boolean, 2)) none)) (cond (Nat.blt pc 12) (cond (Nat.beq pc 9) (some (.putfield 7, 3)) none) (cond (Nat.beq pc 12) (some (.aload_n 0, 1)) none)))) (cond (Nat.blt pc 20) (cond (Nat.blt pc 15) (cond (Nat.beq pc 13) (some (.bipush 8, 2)) none) (cond (Nat.blt pc 17) (cond (Nat.beq pc 15) (some (.newarray .int, 2)) none) (cond (Nat.beq pc 17) (some (.putfield 13, 3)) none))) (cond (Nat.blt pc 23) (cond (Nat.blt pc 21) (cond (Nat.beq pc 20) (some (.aload_n 0, 1)) none) (cond (Nat.beq pc 21) (some (.bipush 8, 2)) none)) (cond (Nat.blt pc 25) (cond (Nat.beq pc 23) (some (.newarray .int, 2)) none) (cond (Nat.beq pc 25) (some (.putfield 17, 3)) none))))) (cond (Nat.blt pc 41) (cond (Nat.blt pc 33) (cond (Nat.blt pc 29) (cond (Nat.beq pc 28) (some (.aload_n 0, 1)) none) (cond (Nat.blt pc 31) (cond (Nat.beq pc 29) (some (.bipush 8, 2)) none) (cond (Nat.beq pc 31) (some (.newarray .int, 2)) none))) (cond (Nat.blt pc 37) (cond (Nat.blt pc 36) (cond (Nat.beq pc 33) (some (.putfield 20, 3)) none) (cond (Nat.beq pc 36) (some (.aload_n 0, 1)) none)) (cond (Nat.blt pc 39) (cond (Nat.beq pc 37) (some (.bipush 8, 2)) none) (cond (Nat.beq pc 39) (some (.newarray .int, 2)) none)))) (cond (Nat.blt pc 49) (cond (Nat.blt pc 45) (cond (Nat.blt pc 44) (cond (Nat.beq pc 41) (some (.putfield 23, 3)) none) (cond (Nat.beq pc 44) (some (.aload_n 0, 1)) none)) (cond (Nat.blt pc 47) (cond (Nat.beq pc 45) (some (.bipush 8, 2)) none) (cond (Nat.beq pc 47) (some (.newarray .int, 2)) none))) (cond (Nat.blt pc 53) (cond (Nat.blt pc 52) (cond (Nat.beq pc 49) (some (.putfield 26, 3)) none) (cond (Nat.beq pc 52) (some (.aload_n 0, 1)) none)) (cond (Nat.blt pc 55) (cond (Nat.beq pc 53) (some (.bipush 16, 2)) none) (cond (Nat.beq pc 55) (some (.newarray .int, 2)) none)))))) (cond (Nat.blt pc 87) (cond (Nat.blt pc 71) (cond (Nat.blt pc 63) (cond (Nat.blt pc 60) (cond (Nat.beq pc 57) (some (.putfield 29, 3)) none) (cond (Nat.blt pc 61) (cond (Nat.beq pc 60) (some (.aload_n 0, 1)) none) (cond (Nat.beq pc 61) (some (.bipush 16, 2)) none))) (cond (Nat.blt pc 68) (cond (Nat.blt pc 65) (cond (Nat.beq pc 63) (some (.newarray .int, 2)) none) (cond (Nat.beq pc 65) (some (.putfield 32, 3)) none)) (cond (Nat.blt pc 69) (cond (Nat.beq pc 68) (some (.aload_n 0, 1)) none) (cond (Nat.beq pc 69) (some (.bipush 16, 2)) none)))) (cond (Nat.blt pc 79) (cond (Nat.blt pc 76) (cond (Nat.blt pc 73) (cond (Nat.beq pc 71) (some (.newarray .int, 2)) none) (cond (Nat.beq pc 73) (some (.putfield 35, 3)) none)) (cond (Nat.blt pc 77) (cond (Nat.beq pc 76) (some (.aload_n 0, 1)) none) (cond (Nat.beq pc 77) (some (.bipush 16, 2)) none))) (cond (Nat.blt pc 84) (cond (Nat.blt pc 81) (cond (Nat.beq pc 79) (some (.newarray .int, 2)) none) (cond (Nat.beq pc 81) (some (.putfield 38, 3)) none)) (cond (Nat.blt pc 85) (cond (Nat.beq pc 84) (some (.aload_n 0, 1)) none) (cond (Nat.beq pc 85) (some (.bipush 16, 2)) none))))) (cond (Nat.blt pc 101) (cond (Nat.blt pc 93) (cond (Nat.blt pc 89) (cond (Nat.beq pc 87) (some (.newarray .int, 2)) none) (cond (Nat.blt pc 92) (cond (Nat.beq pc 89) (some (.putfield 41, 3)) none) (cond (Nat.beq pc 92) (some (.aload_n 0, 1)) none))) (cond (Nat.blt pc 97) (cond (Nat.blt pc 95) (cond (Nat.beq pc 93) (some (.bipush 16, 2)) none) (cond (Nat.beq pc 95) (some (.newarray .int, 2)) none)) (cond (Nat.blt pc 100) (cond (Nat.beq pc 97) (some (.putfield 44, 3)) none) (cond (Nat.beq pc 100) (some (.aload_n 0, 1)) none)))) (cond (Nat.blt pc 109) (cond (Nat.blt pc 105) (cond (Nat.blt pc 103) (cond (Nat.beq pc 101) (some (.bipush 16, 2)) none) (cond (Nat.beq pc 103) (some (.newarray .int, 2)) none)) (cond (Nat.blt pc 108) (cond (Nat.beq pc 105) (some (.putfield 47, 3)) none) (cond (Nat.beq pc 108) (some (.aload_n 0, 1)) none))) (cond (Nat.blt pc 113) (cond (Nat.blt pc 111) (cond (Nat.beq pc 109) (some (.bipush 16, 2)) none) (cond (Nat.beq pc 111) (some (.newarray .int, 2)) none)) (cond (Nat.blt pc 116) (cond (Nat.beq pc 113) (some (.putfield 50, 3)) none) (cond (Nat.beq pc 116) (some (.aload_n 0, 1)) none))))))) (cond (Nat.blt pc 172) (cond (Nat.blt pc 148) (cond (Nat.blt pc 132) (cond (Nat.blt pc 124) (cond (Nat.blt pc 119) (cond (Nat.beq pc 117) (some (.bipush 16, 2)) none) (cond (Nat.blt pc 121) (cond (Nat.beq pc 119) (some (.newarray .int, 2)) none) (cond (Nat.beq pc 121) (some (.putfield 53, 3)) none))) (cond (Nat.blt pc 127) (cond (Nat.blt pc 125) (cond (Nat.beq pc 124) (some (.aload_n 0, 1)) none) (cond (Nat.beq pc 125) (some (.bipush 16, 2)) none)) (cond (Nat.blt pc 129) (cond (Nat.beq pc 127) (some (.newarray .int, 2)) none) (cond (Nat.beq pc 129) (some (.putfield 56, 3)) none)))) (cond (Nat.blt pc 140) (cond (Nat.blt pc 135) (cond (Nat.blt pc 133) (cond (Nat.beq pc 132) (some (.aload_n 0, 1)) none) (cond (Nat.beq pc 133) (some (.bipush 16, 2)) none)) (cond (Nat.blt pc 137) (cond (Nat.beq pc 135) (some (.newarray .int, 2)) none) (cond (Nat.beq pc 137) (some (.putfield 59, 3)) none))) (cond (Nat.blt pc 143) (cond (Nat.blt pc 141) (cond (Nat.beq pc 140) (some (.aload_n 0, 1)) none) (cond (Nat.beq pc 141) (some (.bipush 16, 2)) none)) (cond (Nat.blt pc 145) (cond (Nat.beq pc 143) (some (.newarray .int, 2)) none) (cond (Nat.beq pc 145) (some (.putfield 62, 3)) none))))) (cond (Nat.blt pc 159) (cond (Nat.blt pc 153) (cond (Nat.blt pc 149) (cond (Nat.beq pc 148) (some (.aload_n 0, 1)) none) (cond (Nat.blt pc 151) (cond (Nat.beq pc 149) (some (.bipush 16, 2)) none) (cond (Nat.beq pc 151) (some (.newarray .int, 2)) none))) (cond (Nat.blt pc 157) (cond (Nat.blt pc 156) (cond (Nat.beq pc 153) (some (.putfield 65, 3)) none) (cond (Nat.beq pc 156) (some (.aload_n 0, 1)) none)) (cond (Nat.blt pc 158) (cond (Nat.beq pc 157) (some (.aload_n 0, 1)) none) (cond (Nat.beq pc 158) (some (.iload_n 1, 1)) none)))) (cond (Nat.blt pc 168) (cond (Nat.blt pc 162) (cond (Nat.blt pc 160) (cond (Nat.beq pc 159) (some (.iconst 1, 1)) none) (cond (Nat.beq pc 160) (some (.bipush 8, 2)) none)) (cond (Nat.blt pc 165) (cond (Nat.beq pc 162) (some (.invokevirtual 68, 3)) none) (cond (Nat.beq pc 165) (some (.putfield 72, 3)) none))) (cond (Nat.blt pc 170) (cond (Nat.blt pc 169) (cond (Nat.beq pc 168) (some (.aload_n 0, 1)) none) (cond (Nat.beq pc 169) (some (.aload_n 0, 1)) none)) (cond (Nat.blt pc 171) (cond (Nat.beq pc 170) (some (.iload_n 2, 1)) none) (cond (Nat.beq pc 171) (some (.iconst 1, 1)) none)))))) (cond (Nat.blt pc 199) (cond (Nat.blt pc 185) (cond (Nat.blt pc 180) (cond (Nat.blt pc 174) (cond (Nat.beq pc 172) (some (.bipush 16, 2)) none) (cond (Nat.blt pc 177) (cond (Nat.beq pc 174) (some (.invokevirtual 68, 3)) none) (cond (Nat.beq pc 177) (some (.putfield 76, 3)) none))) (cond (Nat.blt pc 182) (cond (Nat.blt pc 181) (cond (Nat.beq pc 180) (some (.iconst 0, 1)) none) (cond (Nat.beq pc 181) (some (.istore_n 3, 1)) none)) (cond (Nat.blt pc 183) (cond (Nat.beq pc 182) (some (.iload_n 3, 1)) none) (cond (Nat.beq pc 183) (some (.bipush 16, 2)) none)))) (cond (Nat.blt pc 193) (cond (Nat.blt pc 189) (cond (Nat.blt pc 188) (cond (Nat.beq pc 185) (some (.if_icmp .ge 23, 3)) none) (cond (Nat.beq pc 188) (some (.aload_n 0, 1)) none)) (cond (Nat.blt pc 192) (cond (Nat.beq pc 189) (some (.getfield 29, 3)) none) (cond (Nat.beq pc 192) (some (.iload_n 3, 1)) none))) (cond (Nat.blt pc 195) (cond (Nat.blt pc 194) (cond (Nat.beq pc 193) (some (.iconst 0, 1)) none) (cond (Nat.beq pc 194) (some (.iastore, 1)) none)) (cond (Nat.blt pc 196) (cond (Nat.beq pc 195) (some (.aload_n 0, 1)) none) (cond (Nat.beq pc 196) (some (.getfield 32, 3)) none))))) (cond (Nat.blt pc 210) (cond (Nat.blt pc 202) (cond (Nat.blt pc 200) (cond (Nat.beq pc 199) (some (.iload_n 3, 1)) none) (cond (Nat.blt pc 201) (cond (Nat.beq pc 200) (some (.iconst (-1), 1)) none) (cond (Nat.beq pc 201) (some (.iastore, 1)) none))) (cond (Nat.blt pc 208) (cond (Nat.blt pc 205) (cond (Nat.beq pc 202) (some (.iinc 3 1, 3)) none) (cond (Nat.beq pc 205) (some (.goto (-23), 3)) none)) (cond (Nat.blt pc 209) (cond (Nat.beq pc 208) (some (.aload_n 0, 1)) none) (cond (Nat.beq pc 209) (some (.iconst 0, 1)) none)))) (cond (Nat.blt pc 218) (cond (Nat.blt pc 214) (cond (Nat.blt pc 213) (cond (Nat.beq pc 210) (some (.putfield 79, 3)) none) (cond (Nat.beq pc 213) (some (.aload_n 0, 1)) none)) (cond (Nat.blt pc 215) (cond (Nat.beq pc 214) (some (.iconst (-1), 1)) none) (cond (Nat.beq pc 215) (some (.putfield 82, 3)) none))) (cond (Nat.blt pc 220) (cond (Nat.blt pc 219) (cond (Nat.beq pc 218) (some (.aload_n 0, 1)) none) (cond (Nat.beq pc 219) (some (.iconst 0, 1)) none)) (cond (Nat.blt pc 223) (cond (Nat.beq pc 220) (some (.putfield 85, 3)) none) (cond (Nat.beq pc 223) (some (.return_, 1)) none)))))))) none
def cd_1 : Nat → Option (Instr × Nat) := fun pc => cond (Nat.blt pc 16) (cond (Nat.blt pc 8) (cond (Nat.blt pc 5) (cond (Nat.blt pc 1) (cond (Nat.beq pc 0) (some (.iload_n 1, 1)) none) (cond (Nat.blt pc 2) (cond (Nat.beq pc 1) (some (.iload_n 2, 1)) none) (cond (Nat.beq pc 2) (some (.if_icmp .ge 5, 3)) none))) (cond (Nat.blt pc 6) (cond (Nat.beq pc 5) (some (.iload_n 2, 1)) none) (cond (Nat.blt pc 7) (cond (Nat.beq pc 6) (some (.ireturn, 1)) none) (cond (Nat.beq pc 7) (some (.iload_n 1, 1)) none)))) (cond (Nat.blt pc 13) (cond (Nat.blt pc 9) (cond (Nat.beq pc 8) (some (.iload_n 3, 1)) none) (cond (Nat.blt pc 12) (cond (Nat.beq pc 9) (some (.if_icmp .le 5, 3)) none) (cond (Nat.beq pc 12) (some (.iload_n 3, 1)) none))) (cond (Nat.blt pc 14) (cond (Nat.beq pc 13) (some (.ireturn, 1)) none) (cond (Nat.blt pc 15) (cond (Nat.beq pc 14) (some (.iload_n 1, 1)) none) (cond (Nat.beq pc 15) (some (.ireturn, 1)) none))))) none
def cd_2 : Nat → Option (Instr × Nat) := fun pc => cond (Nat.blt pc 35) (cond (Nat.blt pc 19) (cond (Nat.blt pc 9) (cond (Nat.blt pc 2) (cond (Nat.blt pc 1) (cond (Nat.beq pc 0) (some (.aload_n 0, 1)) none) (cond (Nat.beq pc 1) (some (.iload_n 1, 1)) none)) (cond (Nat.blt pc 5) (cond (Nat.beq pc 2) (some (.invokevirtual 98, 3)) none) (cond (Nat.blt pc 8) (cond (Nat.beq pc 5) (some (.ifCond .eq 12, 3)) none) (cond (Nat.beq pc 8) (some (.aload_n 0, 1)) none)))) (cond (Nat.blt pc 14) (cond (Nat.blt pc 12) (cond (Nat.beq pc 9) (some (.getfield 29, 3)) none) (cond (Nat.blt pc 13) (cond (Nat.beq pc 12) (some (.iload_n 1, 1)) none) (cond (Nat.beq pc 13) (some (.iaload, 1)) none))) (cond (Nat.blt pc 17) (cond (Nat.beq pc 14) (some (.ifCond .ne 5, 3)) none) (cond (Nat.blt pc 18) (cond (Nat.beq pc 17) (some (.iconst 0, 1)) none) (cond (Nat.beq pc 18) (some (.ireturn, 1)) none))))) (cond (Nat.blt pc 27) (cond (Nat.blt pc 24) (cond (Nat.blt pc 20) (cond (Nat.beq pc 19) (some (.aload_n 0, 1)) none) (cond (Nat.blt pc 23) (cond (Nat.beq pc 20) (some (.getfield 29, 3)) none) (cond (Nat.beq pc 23) (some (.iload_n 1, 1)) none))) (cond (Nat.blt pc 25) (cond (Nat.beq pc 24) (some (.iconst 0, 1)) none) (cond (Nat.blt pc 26) (cond (Nat.beq pc 25) (some (.iastore, 1)) none) (cond (Nat.beq pc 26) (some (.aload_n 0, 1)) none)))) (cond (Nat.blt pc 32) (cond (Nat.blt pc 30) (cond (Nat.beq pc 27) (some (.getfield 32, 3)) none) (cond (Nat.blt pc 31) (cond (Nat.beq pc 30) (some (.iload_n 1, 1)) none) (cond (Nat.beq pc 31) (some (.iconst (-1), 1)) none))) (cond (Nat.blt pc 33) (cond (Nat.beq pc 32) (some (.iastore, 1)) none) (cond (Nat.blt pc 34) (cond (Nat.beq pc 33) (some (.iconst 1, 1)) none) (cond (Nat.beq pc 34) (some (.ireturn, 1)) none)))))) none
def cd_3 : Nat → Option (Instr × Nat) := fun pc => cond (Nat.blt pc 24) (cond (Nat.blt pc 12) (cond (Nat.blt pc 5) (cond (Nat.blt pc 1) (cond (Nat.beq pc 0) (some (.iload_n 1, 1)) none) (cond (Nat.blt pc 4) (cond (Nat.beq pc 1) (some (.ifCond .lt 21, 3)) none) (cond (Nat.beq pc 4) (some (.iload_n 1, 1)) none))) (cond (Nat.blt pc 6) (cond (Nat.beq pc 5) (some (.aload_n 0, 1)) none) (cond (Nat.blt pc 9) (cond (Nat.beq pc 6) (some (.getfield 76, 3)) none) (cond (Nat.beq pc 9) (some (.if_icmp .ge 13, 3)) none)))) (cond (Nat.blt pc 18) (cond (Nat.blt pc 13) (cond (Nat.beq pc 12) (some (.iload_n 1, 1)) none) (cond (Nat.blt pc 15) (cond (Nat.beq pc 13) (some (.bipush 16, 2)) none) (cond (Nat.beq pc 15) (some (.if_icmp .ge 7, 3)) none))) (cond (Nat.blt pc 22) (cond (Nat.blt pc 19) (cond (Nat.beq pc 18) (some (.iconst 1, 1)) none) (cond (Nat.beq pc 19) (some (.goto 4, 3)) none)) (cond (Nat.blt pc 23) (cond (Nat.beq pc 22) (some (.iconst 0, 1)) none) (cond (Nat.beq pc 23) (some (.ireturn, 1)) none))))) none
def cd_4 : Nat → Option (Instr × Nat) := fun pc => cond (Nat.blt pc 167) (cond (Nat.blt pc 87) (cond (Nat.blt pc 42) (cond (Nat.blt pc 21) (cond (Nat.blt pc 9) (cond (Nat.blt pc 2) (cond (Nat.blt pc 1) (cond (Nat.beq pc 0) (some (.iload_n 1, 1)) none) (cond (Nat.beq pc 1) (some (.iconst 1, 1)) none)) (cond (Nat.blt pc 5) (cond (Nat.beq pc 2) (some (.if_icmp .lt 33, 3)) none) (cond (Nat.blt pc 6) (cond (Nat.beq pc 5) (some (.iload_n 1, 1)) none) (cond (Nat.beq pc 6) (some (.sipush 1000, 3)) none)))) (cond (Nat.blt pc 14) (cond (Nat.blt pc 12) (cond (Nat.beq pc 9) (some (.if_icmp .gt 26, 3)) none) (cond (Nat.blt pc 13) (cond (Nat.beq pc 12) (some (.iload_n 2, 1)) none) (cond (Nat.beq pc 13) (some (.iconst 1, 1)) none))) (cond (Nat.blt pc 17) (cond (Nat.beq pc 14) (some (.if_icmp .lt 21, 3)) none) (cond (Nat.blt pc 18) (cond (Nat.beq pc 17) (some (.iload_n 2, 1)) none) (cond (Nat.beq pc 18) (some (.sipush 1000, 3)) none))))) (cond (Nat.blt pc 30) (cond (Nat.blt pc 25) (cond (Nat.blt pc 24) (cond (Nat.beq pc 21) (some (.if_icmp .gt 14, 3)) none) (cond (Nat.beq pc 24) (some (.iload_n 3, 1)) none)) (cond (Nat.blt pc 26) (cond (Nat.beq pc 25) (some (.iconst 1, 1)) none) (cond (Nat.blt pc 29) (cond (Nat.beq pc 26) (some (.if_icmp .lt 9, 3)) none) (cond (Nat.beq pc 29) (some (.iload_n 3, 1)) none)))) (cond (Nat.blt pc 36) (cond (Nat.blt pc 32) (cond (Nat.beq pc 30) (some (.bipush 8, 2)) none) (cond (Nat.blt pc 35) (cond (Nat.beq pc 32) (some (.if_icmp .le 5, 3)) none) (cond (Nat.beq pc 35) (some (.iconst (-1), 1)) none))) (cond (Nat.blt pc 37) (cond (Nat.beq pc 36) (some (.ireturn, 1)) none) (cond (Nat.blt pc 39) (cond (Nat.beq pc 37) (some (.iload 4, 2)) none) (cond (Nat.beq pc 39) (some (.ifCond .lt 10, 3)) none)))))) (cond (Nat.blt pc 60) (cond (Nat.blt pc 51) (cond (Nat.blt pc 46) (cond (Nat.blt pc 44) (cond (Nat.beq pc 42) (some (.iload 4, 2)) none) (cond (Nat.beq pc 44) (some (.ldc 88, 2)) none)) (cond (Nat.blt pc 49) (cond (Nat.beq pc 46) (some (.if_icmp .le 5, 3)) none) (cond (Nat.blt pc 50) (cond (Nat.beq pc 49) (some (.iconst (-1), 1)) none) (cond (Nat.beq pc 50) (some (.ireturn, 1)) none)))) (cond (Nat.blt pc 55) (cond (Nat.blt pc 52) (cond (Nat.beq pc 51) (some (.iconst (-1), 1)) none) (cond (Nat.blt pc 54) (cond (Nat.beq pc 52) (some (.istore 5, 2)) none) (cond (Nat.beq pc 54) (some (.iconst 0, 1)) none))) (cond (Nat.blt pc 57) (cond (Nat.beq pc 55) (some (.istore 6, 2)) none) (cond (Nat.blt pc 59) (cond (Nat.beq pc 57) (some (.iload 6, 2)) none) (cond (Nat.beq pc 59) (some (.aload_n 0, 1)) none))))) (cond (Nat.blt pc 74) (cond (Nat.blt pc 68) (cond (Nat.blt pc 63) (cond (Nat.beq pc 60) (some (.getfield 72, 3)) none) (cond (Nat.blt pc 66) (cond (Nat.beq pc 63) (some (.if_icmp .ge 33, 3)) none) (cond (Nat.beq pc 66) (some (.iload 6, 2)) none))) (cond (Nat.blt pc 70) (cond (Nat.beq pc 68) (some (.bipush 8, 2)) none) (cond (Nat.blt pc 73) (cond (Nat.beq pc 70) (some (.if_icmp .ge 26, 3)) none) (cond (Nat.beq pc 73) (some (.aload_n 0, 1)) none)))) (cond (Nat.blt pc 80) (cond (Nat.blt pc 77) (cond (Nat.beq pc 74) (some (.getfield 7, 3)) none) (cond (Nat.blt pc 79) (cond (Nat.beq pc 77) (some (.iload 6, 2)) none) (cond (Nat.beq pc 79) (some (.baload, 1)) none))) (cond (Nat.blt pc 83) (cond (Nat.beq pc 80) (some (.ifCond .ne 10, 3)) none) (cond (Nat.blt pc 85) (cond (Nat.beq pc 83) (some (.iload 6, 2)) none) (cond (Nat.beq pc 85) (some (.istore 5, 2)) none))))))) (cond (Nat.blt pc 127) (cond (Nat.blt pc 110) (cond (Nat.blt pc 101) (cond (Nat.blt pc 93) (cond (Nat.blt pc 90) (cond (Nat.beq pc 87) (some (.goto 9, 3)) none) (cond (Nat.beq pc 90) (some (.iinc 6 1, 3)) none)) (cond (Nat.blt pc 96) (cond (Nat.beq pc 93) (some (.goto (-36), 3)) none) (cond (Nat.blt pc 98) (cond (Nat.beq pc 96) (some (.iload 5, 2)) none) (cond (Nat.beq pc 98) (some (.ifCond .ge 5, 3)) none)))) (cond (Nat.blt pc 104) (cond (Nat.blt pc 102) (cond (Nat.beq pc 101) (some (.iconst (-1), 1)) none) (cond (Nat.blt pc 103) (cond (Nat.beq pc 102) (some (.ireturn, 1)) none) (cond (Nat.beq pc 103) (some (.aload_n 0, 1)) none))) (cond (Nat.blt pc 107) (cond (Nat.beq pc 104) (some (.getfield 7, 3)) none) (cond (Nat.blt pc 109) (cond (Nat.beq pc 107) (some (.iload 5, 2)) none) (cond (Nat.beq pc 109) (some (.iconst 1, 1)) none))))) (cond (Nat.blt pc 118) (cond (Nat.blt pc 112) (cond (Nat.blt pc 111) (cond (Nat.beq pc 110) (some (.bastore, 1)) none) (cond (Nat.beq pc 111) (some (.aload_n 0, 1)) none)) (cond (Nat.blt pc 115) (cond (Nat.beq pc 112) (some (.getfield 13, 3)) none) (cond (Nat.blt pc 117) (cond (Nat.beq pc 115) (some (.iload 5, 2)) none) (cond (Nat.beq pc 117) (some (.iload_n 1, 1)) none)))) (cond (Nat.blt pc 123) (cond (Nat.blt pc 119) (cond (Nat.beq pc 118) (some (.iastore, 1)) none) (cond (Nat.blt pc 120) (cond (Nat.beq pc 119) (some (.aload_n 0, 1)) none) (cond (Nat.beq pc 120) (some (.getfield 17, 3)) none))) (cond (Nat.blt pc 125) (cond (Nat.beq pc 123) (some (.iload 5, 2)) none) (cond (Nat.blt pc 126) (cond (Nat.beq pc 125) (some (.iload_n 2, 1)) none) (cond (Nat.beq pc 126) (some (.iastore, 1)) none)))))) (cond (Nat.blt pc 147) (cond (Nat.blt pc 135) (cond (Nat.blt pc 131) (cond (Nat.blt pc 128) (cond (Nat.beq pc 127) (some (.aload_n 0, 1)) none) (cond (Nat.beq pc 128) (some (.getfield 20, 3)) none)) (cond (Nat.blt pc 133) (cond (Nat.beq pc 131) (some (.iload 5, 2)) none) (cond (Nat.blt pc 134) (cond (Nat.beq pc 133) (some (.iload_n 3, 1)) none) (cond (Nat.beq pc 134) (some (.iastore, 1)) none)))) (cond (Nat.blt pc 141) (cond (Nat.blt pc 136) (cond (Nat.beq pc 135) (some (.aload_n 0, 1)) none) (cond (Nat.blt pc 139) (cond (Nat.beq pc 136) (some (.getfield 23, 3)) none) (cond (Nat.beq pc 139) (some (.iload 5, 2)) none))) (cond (Nat.blt pc 143) (cond (Nat.beq pc 141) (some (.iload 4, 2)) none) (cond (Nat.blt pc 146) (cond (Nat.beq pc 143) (some (.sipush 255, 3)) none) (cond (Nat.beq pc 146) (some (.iand, 1)) none))))) (cond (Nat.blt pc 158) (cond (Nat.blt pc 152) (cond (Nat.blt pc 148) (cond (Nat.beq pc 147) (some (.iastore, 1)) none) (cond (Nat.blt pc 149) (cond (Nat.beq pc 148) (some (.aload_n 0, 1)) none) (cond (Nat.beq pc 149) (some (.getfield 26, 3)) none))) (cond (Nat.blt pc 154) (cond (Nat.beq pc 152) (some (.iload 5, 2)) none) (cond (Nat.blt pc 156) (cond (Nat.beq pc 154) (some (.iload 4, 2)) none) (cond (Nat.beq pc 156) (some (.bipush 8, 2)) none)))) (cond (Nat.blt pc 163) (cond (Nat.blt pc 159) (cond (Nat.beq pc 158) (some (.ishr, 1)) none) (cond (Nat.blt pc 162) (cond (Nat.beq pc 159) (some (.sipush 255, 3)) none) (cond (Nat.beq pc 162) (some (.iand, 1)) none))) (cond (Nat.blt pc 164) (cond (Nat.beq pc 163) (some (.iastore, 1)) none) (cond (Nat.blt pc 166) (cond (Nat.beq pc 164) (some (.iload 5, 2)) none) (cond (Nat.beq pc 166) (some (.ireturn, 1)) none)))))))) none
def cd_5 : Nat → Option (Instr × Nat) := fun pc => cond (Nat.blt pc 180) (cond (Nat.blt pc 98) (cond (Nat.blt pc 49) (cond (Nat.blt pc 24) (cond (Nat.blt pc 12) (cond (Nat.blt pc 5) (cond (Nat.blt pc 1) (cond (Nat.beq pc 0) (some (.iload_n 1, 1)) none) (cond (Nat.blt pc 2) (cond (Nat.beq pc 1) (some (.iconst 1, 1)) none) (cond (Nat.beq pc 2) (some (.if_icmp .lt 22, 3)) none))) (cond (Nat.blt pc 6) (cond (Nat.beq pc 5) (some (.iload_n 1, 1)) none) (cond (Nat.blt pc 9) (cond (Nat.beq pc 6) (some (.sipush 1000, 3)) none) (cond (Nat.beq pc 9) (some (.if_icmp .gt 15, 3)) none)))) (cond (Nat.blt pc 17) (cond (Nat.blt pc 13) (cond (Nat.beq pc 12) (some (.iload_n 2, 1)) none) (cond (Nat.blt pc 14) (cond (Nat.beq pc 13) (some (.iconst 1, 1)) none) (cond (Nat.beq pc 14) (some (.if_icmp .lt 10, 3)) none))) (cond (Nat.blt pc 18) (cond (Nat.beq pc 17) (some (.iload_n 2, 1)) none) (cond (Nat.blt pc 21) (cond (Nat.beq pc 18) (some (.sipush 1000, 3)) none) (cond (Nat.beq pc 21) (some (.if_icmp .le 5, 3)) none))))) (cond (Nat.blt pc 34) (cond (Nat.blt pc 27) (cond (Nat.blt pc 25) (cond (Nat.beq pc 24) (some (.iconst (-1), 1)) none) (cond (Nat.blt pc 26) (cond (Nat.beq pc 25) (some (.ireturn, 1)) none) (cond (Nat.beq pc 26) (some (.iload_n 3, 1)) none))) (cond (Nat.blt pc 30) (cond (Nat.beq pc 27) (some (.ifCond .lt 22, 3)) none) (cond (Nat.blt pc 31) (cond (Nat.beq pc 30) (some (.iload_n 3, 1)) none) (cond (Nat.beq pc 31) (some (.sipush 1000, 3)) none)))) (cond (Nat.blt pc 42) (cond (Nat.blt pc 37) (cond (Nat.beq pc 34) (some (.if_icmp .gt 15, 3)) none) (cond (Nat.blt pc 39) (cond (Nat.beq pc 37) (some (.iload 4, 2)) none) (cond (Nat.beq pc 39) (some (.ifCond .lt 10, 3)) none))) (cond (Nat.blt pc 44) (cond (Nat.beq pc 42) (some (.iload 4, 2)) none) (cond (Nat.blt pc 46) (cond (Nat.beq pc 44) (some (.ldc 97, 2)) none) (cond (Nat.beq pc 46) (some (.if_icmp .le 5, 3)) none)))))) (cond (Nat.blt pc 70) (cond (Nat.blt pc 57) (cond (Nat.blt pc 52) (cond (Nat.blt pc 50) (cond (Nat.beq pc 49) (some (.iconst (-1), 1)) none) (cond (Nat.blt pc 51) (cond (Nat.beq pc 50) (some (.ireturn, 1)) none) (cond (Nat.beq pc 51) (some (.iconst (-1), 1)) none))) (cond (Nat.blt pc 54) (cond (Nat.beq pc 52) (some (.istore 5, 2)) none) (cond (Nat.blt pc 55) (cond (Nat.beq pc 54) (some (.iconst 0, 1)) none) (cond (Nat.beq pc 55) (some (.istore 6, 2)) none)))) (cond (Nat.blt pc 63) (cond (Nat.blt pc 59) (cond (Nat.beq pc 57) (some (.iload 6, 2)) none) (cond (Nat.blt pc 60) (cond (Nat.beq pc 59) (some (.aload_n 0, 1)) none) (cond (Nat.beq pc 60) (some (.getfield 76, 3)) none))) (cond (Nat.blt pc 66) (cond (Nat.beq pc 63) (some (.if_icmp .ge 33, 3)) none) (cond (Nat.blt pc 68) (cond (Nat.beq pc 66) (some (.iload 6, 2)) none) (cond (Nat.beq pc 68) (some (.bipush 16, 2)) none))))) (cond (Nat.blt pc 83) (cond (Nat.blt pc 77) (cond (Nat.blt pc 73) (cond (Nat.beq pc 70) (some (.if_icmp .ge 26, 3)) none) (cond (Nat.blt pc 74) (cond (Nat.beq pc 73) (some (.aload_n 0, 1)) none) (cond (Nat.beq pc 74) (some (.getfield 29, 3)) none))) (cond (Nat.blt pc 79) (cond (Nat.beq pc 77) (some (.iload 6, 2)) none) (cond (Nat.blt pc 80) (cond (Nat.beq pc 79) (some (.iaload, 1)) none) (cond (Nat.beq pc 80) (some (.ifCond .ne 10, 3)) none)))) (cond (Nat.blt pc 90) (cond (Nat.blt pc 85) (cond (Nat.beq pc 83) (some (.iload 6, 2)) none) (cond (Nat.blt pc 87) (cond (Nat.beq pc 85) (some (.istore 5, 2)) none) (cond (Nat.beq pc 87) (some (.goto 9, 3)) none))) (cond (Nat.blt pc 93) (cond (Nat.beq pc 90) (some (.iinc 6 1, 3)) none) (cond (Nat.blt pc 96) (cond (Nat.beq pc 93) (some (.goto (-36), 3)) none) (cond (Nat.beq pc 96) (some (.iload 5, 2)) none))))))) (cond (Nat.blt pc 139) (cond (Nat.blt pc 118) (cond (Nat.blt pc 109) (cond (Nat.blt pc 103) (cond (Nat.blt pc 101) (cond (Nat.beq pc 98) (some (.ifCond .ge 5, 3)) none) (cond (Nat.blt pc 102) (cond (Nat.beq pc 101) (some (.iconst (-1), 1)) none) (cond (Nat.beq pc 102) (some (.ireturn, 1)) none))) (cond (Nat.blt pc 104) (cond (Nat.beq pc 103) (some (.aload_n 0, 1)) none) (cond (Nat.blt pc 107) (cond (Nat.beq pc 104) (some (.getfield 35, 3)) none) (cond (Nat.beq pc 107) (some (.iload 5, 2)) none)))) (cond (Nat.blt pc 112) (cond (Nat.blt pc 110) (cond (Nat.beq pc 109) (some (.iload_n 1, 1)) none) (cond (Nat.blt pc 111) (cond (Nat.beq pc 110) (some (.iastore, 1)) none) (cond (Nat.beq pc 111) (some (.aload_n 0, 1)) none))) (cond (Nat.blt pc 115) (cond (Nat.beq pc 112) (some (.getfield 38, 3)) none) (cond (Nat.blt pc 117) (cond (Nat.beq pc 115) (some (.iload 5, 2)) none) (cond (Nat.beq pc 117) (some (.iload_n 2, 1)) none))))) (cond (Nat.blt pc 127) (cond (Nat.blt pc 123) (cond (Nat.blt pc 119) (cond (Nat.beq pc 118) (some (.iastore, 1)) none) (cond (Nat.blt pc 120) (cond (Nat.beq pc 119) (some (.aload_n 0, 1)) none) (cond (Nat.beq pc 120) (some (.getfield 41, 3)) none))) (cond (Nat.blt pc 125) (cond (Nat.beq pc 123) (some (.iload 5, 2)) none) (cond (Nat.blt pc 126) (cond (Nat.beq pc 125) (some (.iload_n 3, 1)) none) (cond (Nat.beq pc 126) (some (.iastore, 1)) none)))) (cond (Nat.blt pc 133) (cond (Nat.blt pc 128) (cond (Nat.beq pc 127) (some (.aload_n 0, 1)) none) (cond (Nat.blt pc 131) (cond (Nat.beq pc 128) (some (.getfield 44, 3)) none) (cond (Nat.beq pc 131) (some (.iload 5, 2)) none))) (cond (Nat.blt pc 135) (cond (Nat.beq pc 133) (some (.iload 4, 2)) none) (cond (Nat.blt pc 138) (cond (Nat.beq pc 135) (some (.sipush 255, 3)) none) (cond (Nat.beq pc 138) (some (.iand, 1)) none)))))) (cond (Nat.blt pc 160) (cond (Nat.blt pc 150) (cond (Nat.blt pc 144) (cond (Nat.blt pc 140) (cond (Nat.beq pc 139) (some (.iastore, 1)) none) (cond (Nat.blt pc 141) (cond (Nat.beq pc 140) (some (.aload_n 0, 1)) none) (cond (Nat.beq pc 141) (some (.getfield 47, 3)) none))) (cond (Nat.blt pc 146) (cond (Nat.beq pc 144) (some (.iload 5, 2)) none) (cond (Nat.blt pc 148) (cond (Nat.beq pc 146) (some (.iload 4, 2)) none) (cond (Nat.beq pc 148) (some (.bipush 8, 2)) none)))) (cond (Nat.blt pc 155) (cond (Nat.blt pc 151) (cond (Nat.beq pc 150) (some (.ishr, 1)) none) (cond (Nat.blt pc 154) (cond (Nat.beq pc 151) (some (.sipush 255, 3)) none) (cond (Nat.beq pc 154) (some (.iand, 1)) none))) (cond (Nat.blt pc 156) (cond (Nat.beq pc 155) (some (.iastore, 1)) none) (cond (Nat.blt pc 157) (cond (Nat.beq pc 156) (some (.aload_n 0, 1)) none) (cond (Nat.beq pc 157) (some (.getfield 50, 3)) none))))) (cond (Nat.blt pc 170) (cond (Nat.blt pc 166) (cond (Nat.blt pc 162) (cond (Nat.beq pc 160) (some (.iload 5, 2)) none) (cond (Nat.blt pc 164) (cond (Nat.beq pc 162) (some (.iload 4, 2)) none) (cond (Nat.beq pc 164) (some (.bipush 16, 2)) none))) (cond (Nat.blt pc 167) (cond (Nat.beq pc 166) (some (.ishr, 1)) none) (cond (Nat.blt pc 169) (cond (Nat.beq pc 167) (some (.bipush 15, 2)) none) (cond (Nat.beq pc 169) (some (.iand, 1)) none)))) (cond (Nat.blt pc 174) (cond (Nat.blt pc 171) (cond (Nat.beq pc 170) (some (.iastore, 1)) none) (cond (Nat.blt pc 172) (cond (Nat.beq pc 171) (some (.aload_n 0, 1)) none) (cond (Nat.beq pc 172) (some (.iload 5, 2)) none))) (cond (Nat.blt pc 177) (cond (Nat.beq pc 174) (some (.invokevirtual 93, 3)) none) (cond (Nat.blt pc 179) (cond (Nat.beq pc 177) (some (.iload 5, 2)) none) (cond (Nat.beq pc 179) (some (.ireturn, 1)) none)))))))) none
def cd_6 : Nat → Option (Instr × Nat) := fun pc => cond (Nat.blt pc 35) (cond (Nat.blt pc 17) (cond (Nat.blt pc 9) (cond (Nat.blt pc 4) (cond (Nat.blt pc 1) (cond (Nat.beq pc 0) (some (.aload_n 0, 1)) none) (cond (Nat.beq pc 1) (some (.getfield 53, 3)) none)) (cond (Nat.blt pc 5) (cond (Nat.beq pc 4) (some (.iload_n 1, 1)) none) (cond (Nat.blt pc 6) (cond (Nat.beq pc 5) (some (.aload_n 0, 1)) none) (cond (Nat.beq pc 6) (some (.getfield 79, 3)) none)))) (cond (Nat.blt pc 12) (cond (Nat.blt pc 10) (cond (Nat.beq pc 9) (some (.iastore, 1)) none) (cond (Nat.blt pc 11) (cond (Nat.beq pc 10) (some (.aload_n 0, 1)) none) (cond (Nat.beq pc 11) (some (.aload_n 0, 1)) none))) (cond (Nat.blt pc 15) (cond (Nat.beq pc 12) (some (.getfield 79, 3)) none) (cond (Nat.blt pc 16) (cond (Nat.beq pc 15) (some (.iconst 1, 1)) none) (cond (Nat.beq pc 16) (some (.iadd, 1)) none))))) (cond (Nat.blt pc 27) (cond (Nat.blt pc 24) (cond (Nat.blt pc 20) (cond (Nat.beq pc 17) (some (.putfield 79, 3)) none) (cond (Nat.blt pc 21) (cond (Nat.beq pc 20) (some (.aload_n 0, 1)) none) (cond (Nat.beq pc 21) (some (.getfield 29, 3)) none))) (cond (Nat.blt pc 25) (cond (Nat.beq pc 24) (some (.iload_n 1, 1)) none) (cond (Nat.blt pc 26) (cond (Nat.beq pc 25) (some (.iconst 1, 1)) none) (cond (Nat.beq pc 26) (some (.iastore, 1)) none)))) (cond (Nat.blt pc 32) (cond (Nat.blt pc 28) (cond (Nat.beq pc 27) (some (.aload_n 0, 1)) none) (cond (Nat.blt pc 31) (cond (Nat.beq pc 28) (some (.getfield 32, 3)) none) (cond (Nat.beq pc 31) (some (.iload_n 1, 1)) none))) (cond (Nat.blt pc 33) (cond (Nat.beq pc 32) (some (.iconst (-1), 1)) none) (cond (Nat.blt pc 34) (cond (Nat.beq pc 33) (some (.iastore, 1)) none) (cond (Nat.beq pc 34) (some (.return_, 1)) none)))))) none
def cd_7 : Nat → Option (Instr × Nat) := fun pc => cond (Nat.blt pc 71) (cond (Nat.blt pc 34) (cond (Nat.blt pc 14) (cond (Nat.blt pc 9) (cond (Nat.blt pc 2) (cond (Nat.blt pc 1) (cond (Nat.beq pc 0) (some (.aload_n 0, 1)) none) (cond (Nat.beq pc 1) (some (.iload_n 1, 1)) none)) (cond (Nat.blt pc 5) (cond (Nat.beq pc 2) (some (.invokevirtual 89, 3)) none) (cond (Nat.blt pc 8) (cond (Nat.beq pc 5) (some (.ifCond .ne 5, 3)) none) (cond (Nat.beq pc 8) (some (.iconst (-1), 1)) none)))) (cond (Nat.blt pc 11) (cond (Nat.blt pc 10) (cond (Nat.beq pc 9) (some (.ireturn, 1)) none) (cond (Nat.beq pc 10) (some (.iconst 0, 1)) none)) (cond (Nat.blt pc 12) (cond (Nat.beq pc 11) (some (.istore_n 2, 1)) none) (cond (Nat.blt pc 13) (cond (Nat.beq pc 12) (some (.iconst 0, 1)) none) (cond (Nat.beq pc 13) (some (.istore_n 3, 1)) none))))) (cond (Nat.blt pc 23) (cond (Nat.blt pc 16) (cond (Nat.blt pc 15) (cond (Nat.beq pc 14) (some (.iload_n 3, 1)) none) (cond (Nat.beq pc 15) (some (.aload_n 0, 1)) none)) (cond (Nat.blt pc 19) (cond (Nat.beq pc 16) (some (.getfield 76, 3)) none) (cond (Nat.blt pc 22) (cond (Nat.beq pc 19) (some (.if_icmp .ge 43, 3)) none) (cond (Nat.beq pc 22) (some (.iload_n 3, 1)) none)))) (cond (Nat.blt pc 29) (cond (Nat.blt pc 25) (cond (Nat.beq pc 23) (some (.bipush 16, 2)) none) (cond (Nat.blt pc 28) (cond (Nat.beq pc 25) (some (.if_icmp .ge 37, 3)) none) (cond (Nat.beq pc 28) (some (.aload_n 0, 1)) none))) (cond (Nat.blt pc 32) (cond (Nat.beq pc 29) (some (.getfield 29, 3)) none) (cond (Nat.blt pc 33) (cond (Nat.beq pc 32) (some (.iload_n 3, 1)) none) (cond (Nat.beq pc 33) (some (.iaload, 1)) none)))))) (cond (Nat.blt pc 50) (cond (Nat.blt pc 43) (cond (Nat.blt pc 38) (cond (Nat.blt pc 35) (cond (Nat.beq pc 34) (some (.iconst 2, 1)) none) (cond (Nat.beq pc 35) (some (.if_icmp .ne 21, 3)) none)) (cond (Nat.blt pc 39) (cond (Nat.beq pc 38) (some (.aload_n 0, 1)) none) (cond (Nat.blt pc 42) (cond (Nat.beq pc 39) (some (.getfield 32, 3)) none) (cond (Nat.beq pc 42) (some (.iload_n 3, 1)) none)))) (cond (Nat.blt pc 45) (cond (Nat.blt pc 44) (cond (Nat.beq pc 43) (some (.iaload, 1)) none) (cond (Nat.beq pc 44) (some (.iload_n 1, 1)) none)) (cond (Nat.blt pc 48) (cond (Nat.beq pc 45) (some (.if_icmp .ne 11, 3)) none) (cond (Nat.blt pc 49) (cond (Nat.beq pc 48) (some (.aload_n 0, 1)) none) (cond (Nat.beq pc 49) (some (.iload_n 3, 1)) none))))) (cond (Nat.blt pc 63) (cond (Nat.blt pc 56) (cond (Nat.blt pc 53) (cond (Nat.beq pc 50) (some (.invokevirtual 93, 3)) none) (cond (Nat.beq pc 53) (some (.iinc 2 1, 3)) none)) (cond (Nat.blt pc 59) (cond (Nat.beq pc 56) (some (.iinc 3 1, 3)) none) (cond (Nat.blt pc 62) (cond (Nat.beq pc 59) (some (.goto (-45), 3)) none) (cond (Nat.beq pc 62) (some (.aload_n 0, 1)) none)))) (cond (Nat.blt pc 68) (cond (Nat.blt pc 66) (cond (Nat.beq pc 63) (some (.getfield 7, 3)) none) (cond (Nat.blt pc 67) (cond (Nat.beq pc 66) (some (.iload_n 1, 1)) none) (cond (Nat.beq pc 67) (some (.iconst 0, 1)) none))) (cond (Nat.blt pc 69) (cond (Nat.beq pc 68) (some (.bastore, 1)) none) (cond (Nat.blt pc 70) (cond (Nat.beq pc 69) (some (.iload_n 2, 1)) none) (cond (Nat.beq pc 70) (some (.ireturn, 1)) none))))))) none
def cd_8 : Nat → Option (Instr × Nat) := fun pc => cond (Nat.blt pc 33) (cond (Nat.blt pc 18) (cond (Nat.blt pc 6) (cond (Nat.blt pc 4) (cond (Nat.blt pc 1) (cond (Nat.beq pc 0) (some (.iload_n 1, 1)) none) (cond (Nat.beq pc 1) (some (.ifCond .lt 30, 3)) none)) (cond (Nat.blt pc 5) (cond (Nat.beq pc 4) (some (.iload_n 1, 1)) none) (cond (Nat.beq pc 5) (some (.aload_n 0, 1)) none))) (cond (Nat.blt pc 12) (cond (Nat.blt pc 9) (cond (Nat.beq pc 6) (some (.getfield 72, 3)) none) (cond (Nat.beq pc 9) (some (.if_icmp .ge 22, 3)) none)) (cond (Nat.blt pc 13) (cond (Nat.beq pc 12) (some (.iload_n 1, 1)) none) (cond (Nat.blt pc 15) (cond (Nat.beq pc 13) (some (.bipush 8, 2)) none) (cond (Nat.beq pc 15) (some (.if_icmp .ge 16, 3)) none))))) (cond (Nat.blt pc 24) (cond (Nat.blt pc 22) (cond (Nat.blt pc 19) (cond (Nat.beq pc 18) (some (.aload_n 0, 1)) none) (cond (Nat.beq pc 19) (some (.getfield 7, 3)) none)) (cond (Nat.blt pc 23) (cond (Nat.beq pc 22) (some (.iload_n 1, 1)) none) (cond (Nat.beq pc 23) (some (.baload, 1)) none))) (cond (Nat.blt pc 28) (cond (Nat.blt pc 27) (cond (Nat.beq pc 24) (some (.ifCond .eq 7, 3)) none) (cond (Nat.beq pc 27) (some (.iconst 1, 1)) none)) (cond (Nat.blt pc 31) (cond (Nat.beq pc 28) (some (.goto 4, 3)) none) (cond (Nat.blt pc 32) (cond (Nat.beq pc 31) (some (.iconst 0, 1)) none) (cond (Nat.beq pc 32) (some (.ireturn, 1)) none)))))) none
def cd_9 : Nat → Option (Instr × Nat) := fun pc => cond (Nat.blt pc 107) (cond (Nat.blt pc 52) (cond (Nat.blt pc 23) (cond (Nat.blt pc 13) (cond (Nat.blt pc 5) (cond (Nat.blt pc 1) (cond (Nat.beq pc 0) (some (.aload_n 0, 1)) none) (cond (Nat.blt pc 2) (cond (Nat.beq pc 1) (some (.iload_n 1, 1)) none) (cond (Nat.beq pc 2) (some (.invokevirtual 98, 3)) none))) (cond (Nat.blt pc 9) (cond (Nat.blt pc 8) (cond (Nat.beq pc 5) (some (.ifCond .eq 13, 3)) none) (cond (Nat.beq pc 8) (some (.aload_n 0, 1)) none)) (cond (Nat.blt pc 12) (cond (Nat.beq pc 9) (some (.getfield 29, 3)) none) (cond (Nat.beq pc 12) (some (.iload_n 1, 1)) none)))) (cond (Nat.blt pc 19) (cond (Nat.blt pc 15) (cond (Nat.blt pc 14) (cond (Nat.beq pc 13) (some (.iaload, 1)) none) (cond (Nat.beq pc 14) (some (.iconst 1, 1)) none)) (cond (Nat.blt pc 18) (cond (Nat.beq pc 15) (some (.if_icmp .eq 5, 3)) none) (cond (Nat.beq pc 18) (some (.iconst (-1), 1)) none))) (cond (Nat.blt pc 21) (cond (Nat.blt pc 20) (cond (Nat.beq pc 19) (some (.ireturn, 1)) none) (cond (Nat.beq pc 20) (some (.iconst 0, 1)) none)) (cond (Nat.blt pc 22) (cond (Nat.beq pc 21) (some (.istore_n 2, 1)) none) (cond (Nat.beq pc 22) (some (.iconst 0, 1)) none))))) (cond (Nat.blt pc 38) (cond (Nat.blt pc 29) (cond (Nat.blt pc 25) (cond (Nat.blt pc 24) (cond (Nat.beq pc 23) (some (.istore_n 3, 1)) none) (cond (Nat.beq pc 24) (some (.iload_n 3, 1)) none)) (cond (Nat.blt pc 26) (cond (Nat.beq pc 25) (some (.aload_n 0, 1)) none) (cond (Nat.beq pc 26) (some (.getfield 76, 3)) none))) (cond (Nat.blt pc 33) (cond (Nat.blt pc 32) (cond (Nat.beq pc 29) (some (.if_icmp .ge 76, 3)) none) (cond (Nat.beq pc 32) (some (.iload_n 3, 1)) none)) (cond (Nat.blt pc 35) (cond (Nat.beq pc 33) (some (.bipush 16, 2)) none) (cond (Nat.beq pc 35) (some (.if_icmp .ge 70, 3)) none)))) (cond (Nat.blt pc 44) (cond (Nat.blt pc 42) (cond (Nat.blt pc 39) (cond (Nat.beq pc 38) (some (.aload_n 0, 1)) none) (cond (Nat.beq pc 39) (some (.getfield 29, 3)) none)) (cond (Nat.blt pc 43) (cond (Nat.beq pc 42) (some (.iload_n 3, 1)) none) (cond (Nat.beq pc 43) (some (.iaload, 1)) none))) (cond (Nat.blt pc 48) (cond (Nat.blt pc 45) (cond (Nat.beq pc 44) (some (.iconst 1, 1)) none) (cond (Nat.beq pc 45) (some (.if_icmp .eq 6, 3)) none)) (cond (Nat.blt pc 51) (cond (Nat.beq pc 48) (some (.goto 51, 3)) none) (cond (Nat.beq pc 51) (some (.aload_n 0, 1)) none)))))) (cond (Nat.blt pc 77) (cond (Nat.blt pc 63) (cond (Nat.blt pc 57) (cond (Nat.blt pc 55) (cond (Nat.beq pc 52) (some (.getfield 41, 3)) none) (cond (Nat.blt pc 56) (cond (Nat.beq pc 55) (some (.iload_n 3, 1)) none) (cond (Nat.beq pc 56) (some (.iaload, 1)) none))) (cond (Nat.blt pc 61) (cond (Nat.blt pc 58) (cond (Nat.beq pc 57) (some (.aload_n 0, 1)) none) (cond (Nat.beq pc 58) (some (.getfield 41, 3)) none)) (cond (Nat.blt pc 62) (cond (Nat.beq pc 61) (some (.iload_n 1, 1)) none) (cond (Nat.beq pc 62) (some (.iaload, 1)) none)))) (cond (Nat.blt pc 71) (cond (Nat.blt pc 67) (cond (Nat.blt pc 66) (cond (Nat.beq pc 63) (some (.if_icmp .gt 33, 3)) none) (cond (Nat.beq pc 66) (some (.aload_n 0, 1)) none)) (cond (Nat.blt pc 70) (cond (Nat.beq pc 67) (some (.getfield 41, 3)) none) (cond (Nat.beq pc 70) (some (.iload_n 3, 1)) none))) (cond (Nat.blt pc 73) (cond (Nat.blt pc 72) (cond (Nat.beq pc 71) (some (.iaload, 1)) none) (cond (Nat.beq pc 72) (some (.aload_n 0, 1)) none)) (cond (Nat.blt pc 76) (cond (Nat.beq pc 73) (some (.getfield 41, 3)) none) (cond (Nat.beq pc 76) (some (.iload_n 1, 1)) none))))) (cond (Nat.blt pc 91) (cond (Nat.blt pc 85) (cond (Nat.blt pc 81) (cond (Nat.blt pc 78) (cond (Nat.beq pc 77) (some (.iaload, 1)) none) (cond (Nat.beq pc 78) (some (.if_icmp .ne 21, 3)) none)) (cond (Nat.blt pc 82) (cond (Nat.beq pc 81) (some (.aload_n 0, 1)) none) (cond (Nat.beq pc 82) (some (.getfield 53, 3)) none))) (cond (Nat.blt pc 87) (cond (Nat.blt pc 86) (cond (Nat.beq pc 85) (some (.iload_n 3, 1)) none) (cond (Nat.beq pc 86) (some (.iaload, 1)) none)) (cond (Nat.blt pc 88) (cond (Nat.beq pc 87) (some (.aload_n 0, 1)) none) (cond (Nat.beq pc 88) (some (.getfield 53, 3)) none)))) (cond (Nat.blt pc 99) (cond (Nat.blt pc 93) (cond (Nat.blt pc 92) (cond (Nat.beq pc 91) (some (.iload_n 1, 1)) none) (cond (Nat.beq pc 92) (some (.iaload, 1)) none)) (cond (Nat.blt pc 96) (cond (Nat.beq pc 93) (some (.if_icmp .ge 6, 3)) none) (cond (Nat.beq pc 96) (some (.iinc 2 1, 3)) none))) (cond (Nat.blt pc 105) (cond (Nat.blt pc 102) (cond (Nat.beq pc 99) (some (.iinc 3 1, 3)) none) (cond (Nat.beq pc 102) (some (.goto (-78), 3)) none)) (cond (Nat.blt pc 106) (cond (Nat.beq pc 105) (some (.iload_n 2, 1)) none) (cond (Nat.beq pc 106) (some (.ireturn, 1)) none))))))) none
def cd_10 : Nat → Option (Instr × Nat) := fun pc => cond (Nat.blt pc 17) (cond (Nat.blt pc 9) (cond (Nat.blt pc 2) (cond (Nat.blt pc 1) (cond (Nat.beq pc 0) (some (.aload_n 0, 1)) none) (cond (Nat.beq pc 1) (some (.iload_n 1, 1)) none)) (cond (Nat.blt pc 5) (cond (Nat.beq pc 2) (some (.invokevirtual 98, 3)) none) (cond (Nat.blt pc 8) (cond (Nat.beq pc 5) (some (.ifCond .ne 5, 3)) none) (cond (Nat.beq pc 8) (some (.iconst (-1), 1)) none)))) (cond (Nat.blt pc 14) (cond (Nat.blt pc 10) (cond (Nat.beq pc 9) (some (.ireturn, 1)) none) (cond (Nat.blt pc 11) (cond (Nat.beq pc 10) (some (.aload_n 0, 1)) none) (cond (Nat.beq pc 11) (some (.getfield 29, 3)) none))) (cond (Nat.blt pc 15) (cond (Nat.beq pc 14) (some (.iload_n 1, 1)) none) (cond (Nat.blt pc 16) (cond (Nat.beq pc 15) (some (.iaload, 1)) none) (cond (Nat.beq pc 16) (some (.ireturn, 1)) none))))) none
def cd_11 : Nat → Option (Instr × Nat) := fun pc => cond (Nat.blt pc 38) (cond (Nat.blt pc 20) (cond (Nat.blt pc 12) (cond (Nat.blt pc 5) (cond (Nat.blt pc 1) (cond (Nat.beq pc 0) (some (.aload_n 0, 1)) none) (cond (Nat.blt pc 2) (cond (Nat.beq pc 1) (some (.iload_n 1, 1)) none) (cond (Nat.beq pc 2) (some (.invokevirtual 98, 3)) none))) (cond (Nat.blt pc 8) (cond (Nat.beq pc 5) (some (.ifCond .eq 13, 3)) none) (cond (Nat.blt pc 9) (cond (Nat.beq pc 8) (some (.aload_n 0, 1)) none) (cond (Nat.beq pc 9) (some (.getfield 29, 3)) none)))) (cond (Nat.blt pc 15) (cond (Nat.blt pc 13) (cond (Nat.beq pc 12) (some (.iload_n 1, 1)) none) (cond (Nat.blt pc 14) (cond (Nat.beq pc 13) (some (.iaload, 1)) none) (cond (Nat.beq pc 14) (some (.iconst 1, 1)) none))) (cond (Nat.blt pc 18) (cond (Nat.beq pc 15) (some (.if_icmp .eq 5, 3)) none) (cond (Nat.blt pc 19) (cond (Nat.beq pc 18) (some (.iconst (-1), 1)) none) (cond (Nat.beq pc 19) (some (.ireturn, 1)) none))))) (cond (Nat.blt pc 30) (cond (Nat.blt pc 23) (cond (Nat.blt pc 21) (cond (Nat.beq pc 20) (some (.aload_n 0, 1)) none) (cond (Nat.blt pc 22) (cond (Nat.beq pc 21) (some (.iload_n 1, 1)) none) (cond (Nat.beq pc 22) (some (.iload_n 2, 1)) none))) (cond (Nat.blt pc 26) (cond (Nat.beq pc 23) (some (.invokevirtual 109, 3)) none) (cond (Nat.blt pc 29) (cond (Nat.beq pc 26) (some (.ifCond .ne 5, 3)) none) (cond (Nat.beq pc 29) (some (.iconst (-1), 1)) none)))) (cond (Nat.blt pc 33) (cond (Nat.blt pc 31) (cond (Nat.beq pc 30) (some (.ireturn, 1)) none) (cond (Nat.blt pc 32) (cond (Nat.beq pc 31) (some (.aload_n 0, 1)) none) (cond (Nat.beq pc 32) (some (.iload_n 1, 1)) none))) (cond (Nat.blt pc 34) (cond (Nat.beq pc 33) (some (.iload_n 2, 1)) none) (cond (Nat.blt pc 37) (cond (Nat.beq pc 34) (some (.invokevirtual 113, 3)) none) (cond (Nat.beq pc 37) (some (.ireturn, 1)) none)))))) none
def cd_12 : Nat → Option (Instr × Nat) := fun pc => cond (Nat.blt pc 119) (cond (Nat.blt pc 59) (cond (Nat.blt pc 28) (cond (Nat.blt pc 17) (cond (Nat.blt pc 8) (cond (Nat.blt pc 2) (cond (Nat.blt pc 1) (cond (Nat.beq pc 0) (some (.aload_n 0, 1)) none) (cond (Nat.beq pc 1) (some (.iload_n 2, 1)) none)) (cond (Nat.blt pc 5) (cond (Nat.beq pc 2) (some (.invokevirtual 89, 3)) none) (cond (Nat.beq pc 5) (some (.ifCond .eq 12, 3)) none))) (cond (Nat.blt pc 10) (cond (Nat.blt pc 9) (cond (Nat.beq pc 8) (some (.aload_n 0, 1)) none) (cond (Nat.beq pc 9) (some (.iload_n 1, 1)) none)) (cond (Nat.blt pc 11) (cond (Nat.beq pc 10) (some (.iload_n 2, 1)) none) (cond (Nat.blt pc 14) (cond (Nat.beq pc 11) (some (.invokevirtual 116, 3)) none) (cond (Nat.beq pc 14) (some (.ifCond .ne 5, 3)) none))))) (cond (Nat.blt pc 21) (cond (Nat.blt pc 19) (cond (Nat.blt pc 18) (cond (Nat.beq pc 17) (some (.iconst 0, 1)) none) (cond (Nat.beq pc 18) (some (.ireturn, 1)) none)) (cond (Nat.blt pc 20) (cond (Nat.beq pc 19) (some (.aload_n 0, 1)) none) (cond (Nat.beq pc 20) (some (.iload_n 2, 1)) none))) (cond (Nat.blt pc 25) (cond (Nat.blt pc 22) (cond (Nat.beq pc 21) (some (.iconst 0, 1)) none) (cond (Nat.beq pc 22) (some (.invokevirtual 105, 3)) none)) (cond (Nat.blt pc 26) (cond (Nat.beq pc 25) (some (.istore_n 3, 1)) none) (cond (Nat.blt pc 27) (cond (Nat.beq pc 26) (some (.aload_n 0, 1)) none) (cond (Nat.beq pc 27) (some (.iload_n 2, 1)) none)))))) (cond (Nat.blt pc 43) (cond (Nat.blt pc 35) (cond (Nat.blt pc 32) (cond (Nat.blt pc 29) (cond (Nat.beq pc 28) (some (.iconst 1, 1)) none) (cond (Nat.beq pc 29) (some (.invokevirtual 105, 3)) none)) (cond (Nat.blt pc 34) (cond (Nat.beq pc 32) (some (.istore 4, 2)) none) (cond (Nat.beq pc 34) (some (.aload_n 0, 1)) none))) (cond (Nat.blt pc 37) (cond (Nat.blt pc 36) (cond (Nat.beq pc 35) (some (.iload_n 2, 1)) none) (cond (Nat.beq pc 36) (some (.iconst 2, 1)) none)) (cond (Nat.blt pc 40) (cond (Nat.beq pc 37) (some (.invokevirtual 105, 3)) none) (cond (Nat.blt pc 42) (cond (Nat.beq pc 40) (some (.istore 5, 2)) none) (cond (Nat.beq pc 42) (some (.iload_n 3, 1)) none))))) (cond (Nat.blt pc 50) (cond (Nat.blt pc 47) (cond (Nat.blt pc 44) (cond (Nat.beq pc 43) (some (.aload_n 0, 1)) none) (cond (Nat.beq pc 44) (some (.getfield 35, 3)) none)) (cond (Nat.blt pc 48) (cond (Nat.beq pc 47) (some (.iload_n 1, 1)) none) (cond (Nat.blt pc 49) (cond (Nat.beq pc 48) (some (.iaload, 1)) none) (cond (Nat.beq pc 49) (some (.iadd, 1)) none)))) (cond (Nat.blt pc 54) (cond (Nat.blt pc 51) (cond (Nat.beq pc 50) (some (.aload_n 0, 1)) none) (cond (Nat.beq pc 51) (some (.getfield 13, 3)) none)) (cond (Nat.blt pc 55) (cond (Nat.beq pc 54) (some (.iload_n 2, 1)) none) (cond (Nat.blt pc 56) (cond (Nat.beq pc 55) (some (.iaload, 1)) none) (cond (Nat.beq pc 56) (some (.if_icmp .gt 34, 3)) none))))))) (cond (Nat.blt pc 90) (cond (Nat.blt pc 73) (cond (Nat.blt pc 66) (cond (Nat.blt pc 62) (cond (Nat.blt pc 61) (cond (Nat.beq pc 59) (some (.iload 4, 2)) none) (cond (Nat.beq pc 61) (some (.aload_n 0, 1)) none)) (cond (Nat.blt pc 65) (cond (Nat.beq pc 62) (some (.getfield 38, 3)) none) (cond (Nat.beq pc 65) (some (.iload_n 1, 1)) none))) (cond (Nat.blt pc 68) (cond (Nat.blt pc 67) (cond (Nat.beq pc 66) (some (.iaload, 1)) none) (cond (Nat.beq pc 67) (some (.iadd, 1)) none)) (cond (Nat.blt pc 69) (cond (Nat.beq pc 68) (some (.aload_n 0, 1)) none) (cond (Nat.blt pc 72) (cond (Nat.beq pc 69) (some (.getfield 17, 3)) none) (cond (Nat.beq pc 72) (some (.iload_n 2, 1)) none))))) (cond (Nat.blt pc 81) (cond (Nat.blt pc 77) (cond (Nat.blt pc 74) (cond (Nat.beq pc 73) (some (.iaload, 1)) none) (cond (Nat.beq pc 74) (some (.if_icmp .gt 16, 3)) none)) (cond (Nat.blt pc 79) (cond (Nat.beq pc 77) (some (.iload 5, 2)) none) (cond (Nat.blt pc 80) (cond (Nat.beq pc 79) (some (.iconst 1, 1)) none) (cond (Nat.beq pc 80) (some (.iadd, 1)) none)))) (cond (Nat.blt pc 85) (cond (Nat.blt pc 82) (cond (Nat.beq pc 81) (some (.aload_n 0, 1)) none) (cond (Nat.beq pc 82) (some (.getfield 20, 3)) none)) (cond (Nat.blt pc 86) (cond (Nat.beq pc 85) (some (.iload_n 2, 1)) none) (cond (Nat.blt pc 87) (cond (Nat.beq pc 86) (some (.iaload, 1)) none) (cond (Nat.beq pc 87) (some (.if_icmp .le 5, 3)) none)))))) (cond (Nat.blt pc 103) (cond (Nat.blt pc 96) (cond (Nat.blt pc 92) (cond (Nat.blt pc 91) (cond (Nat.beq pc 90) (some (.iconst 0, 1)) none) (cond (Nat.beq pc 91) (some (.ireturn, 1)) none)) (cond (Nat.blt pc 93) (cond (Nat.beq pc 92) (some (.aload_n 0, 1)) none) (cond (Nat.beq pc 93) (some (.getfield 50, 3)) none))) (cond (Nat.blt pc 98) (cond (Nat.blt pc 97) (cond (Nat.beq pc 96) (some (.iload_n 1, 1)) none) (cond (Nat.beq pc 97) (some (.iaload, 1)) none)) (cond (Nat.blt pc 101) (cond (Nat.beq pc 98) (some (.ifCond .eq 19, 3)) none) (cond (Nat.blt pc 102) (cond (Nat.beq pc 101) (some (.aload_n 0, 1)) none) (cond (Nat.beq pc 102) (some (.iload_n 2, 1)) none))))) (cond (Nat.blt pc 112) (cond (Nat.blt pc 107) (cond (Nat.blt pc 104) (cond (Nat.beq pc 103) (some (.aload_n 0, 1)) none) (cond (Nat.beq pc 104) (some (.getfield 50, 3)) none)) (cond (Nat.blt pc 108) (cond (Nat.beq pc 107) (some (.iload_n 1, 1)) none) (cond (Nat.blt pc 109) (cond (Nat.beq pc 108) (some (.iaload, 1)) none) (cond (Nat.beq pc 109) (some (.invokevirtual 119, 3)) none)))) (cond (Nat.blt pc 116) (cond (Nat.blt pc 115) (cond (Nat.beq pc 112) (some (.ifCond .le 5, 3)) none) (cond (Nat.beq pc 115) (some (.iconst 0, 1)) none)) (cond (Nat.blt pc 117) (cond (Nat.beq pc 116) (some (.ireturn, 1)) none) (cond (Nat.blt pc 118) (cond (Nat.beq pc 117) (some (.iconst 1, 1)) none) (cond (Nat.beq pc 118) (some (.ireturn, 1)) none)))))))) none
def cd_13 : Nat → Option (Instr × Nat) := fun pc => cond (Nat.blt pc 26) (cond (Nat.blt pc 14) (cond (Nat.blt pc 8) (cond (Nat.blt pc 2) (cond (Nat.blt pc 1) (cond (Nat.beq pc 0) (some (.aload_n 0, 1)) none) (cond (Nat.beq pc 1) (some (.iload_n 1, 1)) none)) (cond (Nat.blt pc 5) (cond (Nat.beq pc 2) (some (.invokevirtual 89, 3)) none) (cond (Nat.beq pc 5) (some (.ifCond .eq 12, 3)) none))) (cond (Nat.blt pc 12) (cond (Nat.blt pc 9) (cond (Nat.beq pc 8) (some (.iload_n 2, 1)) none) (cond (Nat.beq pc 9) (some (.ifCond .lt 8, 3)) none)) (cond (Nat.blt pc 13) (cond (Nat.beq pc 12) (some (.iload_n 2, 1)) none) (cond (Nat.beq pc 13) (some (.iconst 2, 1)) none)))) (cond (Nat.blt pc 20) (cond (Nat.blt pc 18) (cond (Nat.blt pc 17) (cond (Nat.beq pc 14) (some (.if_icmp .le 5, 3)) none) (cond (Nat.beq pc 17) (some (.iconst (-1), 1)) none)) (cond (Nat.blt pc 19) (cond (Nat.beq pc 18) (some (.ireturn, 1)) none) (cond (Nat.beq pc 19) (some (.aload_n 0, 1)) none))) (cond (Nat.blt pc 22) (cond (Nat.blt pc 21) (cond (Nat.beq pc 20) (some (.iload_n 1, 1)) none) (cond (Nat.beq pc 21) (some (.iload_n 2, 1)) none)) (cond (Nat.blt pc 25) (cond (Nat.beq pc 22) (some (.invokevirtual 105, 3)) none) (cond (Nat.beq pc 25) (some (.ireturn, 1)) none))))) none
def cd_14 : Nat → Option (Instr × Nat) := fun pc => cond (Nat.blt pc 5) (cond (Nat.blt pc 1) (cond (Nat.beq pc 0) (some (.aload_n 0, 1)) none) (cond (Nat.blt pc 4) (cond (Nat.beq pc 1) (some (.getfield 82, 3)) none) (cond (Nat.beq pc 4) (some (.ireturn, 1)) none))) none
def cd_15 : Nat → Option (Instr × Nat) := fun pc => cond (Nat.blt pc 102) (cond (Nat.blt pc 51) (cond (Nat.blt pc 24) (cond (Nat.blt pc 9) (cond (Nat.blt pc 3) (cond (Nat.blt pc 1) (cond (Nat.beq pc 0) (some (.iconst (-1), 1)) none) (cond (Nat.blt pc 2) (cond (Nat.beq pc 1) (some (.istore_n 1, 1)) none) (cond (Nat.beq pc 2) (some (.iconst 0, 1)) none))) (cond (Nat.blt pc 5) (cond (Nat.blt pc 4) (cond (Nat.beq pc 3) (some (.istore_n 2, 1)) none) (cond (Nat.beq pc 4) (some (.iload_n 2, 1)) none)) (cond (Nat.blt pc 6) (cond (Nat.beq pc 5) (some (.aload_n 0, 1)) none) (cond (Nat.beq pc 6) (some (.getfield 76, 3)) none)))) (cond (Nat.blt pc 18) (cond (Nat.blt pc 13) (cond (Nat.blt pc 12) (cond (Nat.beq pc 9) (some (.if_icmp .ge 79, 3)) none) (cond (Nat.beq pc 12) (some (.iload_n 2, 1)) none)) (cond (Nat.blt pc 15) (cond (Nat.beq pc 13) (some (.bipush 16, 2)) none) (cond (Nat.beq pc 15) (some (.if_icmp .ge 73, 3)) none))) (cond (Nat.blt pc 22) (cond (Nat.blt pc 19) (cond (Nat.beq pc 18) (some (.aload_n 0, 1)) none) (cond (Nat.beq pc 19) (some (.getfield 29, 3)) none)) (cond (Nat.blt pc 23) (cond (Nat.beq pc 22) (some (.iload_n 2, 1)) none) (cond (Nat.beq pc 23) (some (.iaload, 1)) none))))) (cond (Nat.blt pc 39) (cond (Nat.blt pc 31) (cond (Nat.blt pc 25) (cond (Nat.beq pc 24) (some (.iconst 1, 1)) none) (cond (Nat.blt pc 28) (cond (Nat.beq pc 25) (some (.if_icmp .eq 6, 3)) none) (cond (Nat.beq pc 28) (some (.goto 54, 3)) none))) (cond (Nat.blt pc 35) (cond (Nat.blt pc 32) (cond (Nat.beq pc 31) (some (.iload_n 1, 1)) none) (cond (Nat.beq pc 32) (some (.ifCond .lt 48, 3)) none)) (cond (Nat.blt pc 36) (cond (Nat.beq pc 35) (some (.aload_n 0, 1)) none) (cond (Nat.beq pc 36) (some (.getfield 41, 3)) none)))) (cond (Nat.blt pc 45) (cond (Nat.blt pc 41) (cond (Nat.blt pc 40) (cond (Nat.beq pc 39) (some (.iload_n 2, 1)) none) (cond (Nat.beq pc 40) (some (.iaload, 1)) none)) (cond (Nat.blt pc 42) (cond (Nat.beq pc 41) (some (.aload_n 0, 1)) none) (cond (Nat.beq pc 42) (some (.getfield 41, 3)) none))) (cond (Nat.blt pc 47) (cond (Nat.blt pc 46) (cond (Nat.beq pc 45) (some (.iload_n 1, 1)) none) (cond (Nat.beq pc 46) (some (.iaload, 1)) none)) (cond (Nat.blt pc 50) (cond (Nat.beq pc 47) (some (.if_icmp .gt 33, 3)) none) (cond (Nat.beq pc 50) (some (.aload_n 0, 1)) none)))))) (cond (Nat.blt pc 76) (cond (Nat.blt pc 62) (cond (Nat.blt pc 56) (cond (Nat.blt pc 54) (cond (Nat.beq pc 51) (some (.getfield 41, 3)) none) (cond (Nat.blt pc 55) (cond (Nat.beq pc 54) (some (.iload_n 2, 1)) none) (cond (Nat.beq pc 55) (some (.iaload, 1)) none))) (cond (Nat.blt pc 60) (cond (Nat.blt pc 57) (cond (Nat.beq pc 56) (some (.aload_n 0, 1)) none) (cond (Nat.beq pc 57) (some (.getfield 41, 3)) none)) (cond (Nat.blt pc 61) (cond (Nat.beq pc 60) (some (.iload_n 1, 1)) none) (cond (Nat.beq pc 61) (some (.iaload, 1)) none)))) (cond (Nat.blt pc 70) (cond (Nat.blt pc 66) (cond (Nat.blt pc 65) (cond (Nat.beq pc 62) (some (.if_icmp .ne 20, 3)) none) (cond (Nat.beq pc 65) (some (.aload_n 0, 1)) none)) (cond (Nat.blt pc 69) (cond (Nat.beq pc 66) (some (.getfield 53, 3)) none) (cond (Nat.beq pc 69) (some (.iload_n 2, 1)) none))) (cond (Nat.blt pc 72) (cond (Nat.blt pc 71) (cond (Nat.beq pc 70) (some (.iaload, 1)) none) (cond (Nat.beq pc 71) (some (.aload_n 0, 1)) none)) (cond (Nat.blt pc 75) (cond (Nat.beq pc 72) (some (.getfield 53, 3)) none) (cond (Nat.beq pc 75) (some (.iload_n 1, 1)) none))))) (cond (Nat.blt pc 92) (cond (Nat.blt pc 82) (cond (Nat.blt pc 80) (cond (Nat.blt pc 77) (cond (Nat.beq pc 76) (some (.iaload, 1)) none) (cond (Nat.beq pc 77) (some (.if_icmp .ge 5, 3)) none)) (cond (Nat.blt pc 81) (cond (Nat.beq pc 80) (some (.iload_n 2, 1)) none) (cond (Nat.beq pc 81) (some (.istore_n 1, 1)) none))) (cond (Nat.blt pc 88) (cond (Nat.blt pc 85) (cond (Nat.beq pc 82) (some (.iinc 2 1, 3)) none) (cond (Nat.beq pc 85) (some (.goto (-81), 3)) none)) (cond (Nat.blt pc 89) (cond (Nat.beq pc 88) (some (.iload_n 1, 1)) none) (cond (Nat.beq pc 89) (some (.ifCond .ge 5, 3)) none)))) (cond (Nat.blt pc 96) (cond (Nat.blt pc 94) (cond (Nat.blt pc 93) (cond (Nat.beq pc 92) (some (.iconst (-1), 1)) none) (cond (Nat.beq pc 93) (some (.ireturn, 1)) none)) (cond (Nat.blt pc 95) (cond (Nat.beq pc 94) (some (.aload_n 0, 1)) none) (cond (Nat.beq pc 95) (some (.iload_n 1, 1)) none))) (cond (Nat.blt pc 100) (cond (Nat.blt pc 99) (cond (Nat.beq pc 96) (some (.invokevirtual 101, 3)) none) (cond (Nat.beq pc 99) (some (.pop, 1)) none)) (cond (Nat.blt pc 101) (cond (Nat.beq pc 100) (some (.iload_n 1, 1)) none) (cond (Nat.beq pc 101) (some (.ireturn, 1)) none))))))) none
def cd_16 : Nat → Option (Instr × Nat) := fun pc => cond (Nat.blt pc 103) (cond (Nat.blt pc 52) (cond (Nat.blt pc 23) (cond (Nat.blt pc 11) (cond (Nat.blt pc 5) (cond (Nat.blt pc 1) (cond (Nat.beq pc 0) (some (.aload_n 0, 1)) none) (cond (Nat.blt pc 2) (cond (Nat.beq pc 1) (some (.iload_n 1, 1)) none) (cond (Nat.beq pc 2) (some (.invokevirtual 122, 3)) none))) (cond (Nat.blt pc 7) (cond (Nat.blt pc 6) (cond (Nat.beq pc 5) (some (.istore_n 2, 1)) none) (cond (Nat.beq pc 6) (some (.iload_n 2, 1)) none)) (cond (Nat.blt pc 10) (cond (Nat.beq pc 7) (some (.ifCond .lt 17, 3)) none) (cond (Nat.beq pc 10) (some (.aload_n 0, 1)) none)))) (cond (Nat.blt pc 17) (cond (Nat.blt pc 13) (cond (Nat.blt pc 12) (cond (Nat.beq pc 11) (some (.iload_n 1, 1)) none) (cond (Nat.beq pc 12) (some (.iload_n 2, 1)) none)) (cond (Nat.blt pc 16) (cond (Nat.beq pc 13) (some (.invokevirtual 125, 3)) none) (cond (Nat.beq pc 16) (some (.aload_n 0, 1)) none))) (cond (Nat.blt pc 19) (cond (Nat.blt pc 18) (cond (Nat.beq pc 17) (some (.iconst 1, 1)) none) (cond (Nat.beq pc 18) (some (.iconst 0, 1)) none)) (cond (Nat.blt pc 22) (cond (Nat.beq pc 19) (some (.invokevirtual 129, 3)) none) (cond (Nat.beq pc 22) (some (.iconst 1, 1)) none))))) (cond (Nat.blt pc 35) (cond (Nat.blt pc 29) (cond (Nat.blt pc 25) (cond (Nat.blt pc 24) (cond (Nat.beq pc 23) (some (.ireturn, 1)) none) (cond (Nat.beq pc 24) (some (.aload_n 0, 1)) none)) (cond (Nat.blt pc 26) (cond (Nat.beq pc 25) (some (.iload_n 1, 1)) none) (cond (Nat.beq pc 26) (some (.invokevirtual 132, 3)) none))) (cond (Nat.blt pc 33) (cond (Nat.blt pc 32) (cond (Nat.beq pc 29) (some (.ifCond .eq 61, 3)) none) (cond (Nat.beq pc 32) (some (.iconst 0, 1)) none)) (cond (Nat.blt pc 34) (cond (Nat.beq pc 33) (some (.istore_n 3, 1)) none) (cond (Nat.beq pc 34) (some (.iload_n 3, 1)) none)))) (cond (Nat.blt pc 43) (cond (Nat.blt pc 39) (cond (Nat.blt pc 36) (cond (Nat.beq pc 35) (some (.aload_n 0, 1)) none) (cond (Nat.beq pc 36) (some (.getfield 76, 3)) none)) (cond (Nat.blt pc 42) (cond (Nat.beq pc 39) (some (.if_icmp .ge 31, 3)) none) (cond (Nat.beq pc 42) (some (.iload_n 3, 1)) none))) (cond (Nat.blt pc 48) (cond (Nat.blt pc 45) (cond (Nat.beq pc 43) (some (.bipush 16, 2)) none) (cond (Nat.beq pc 45) (some (.if_icmp .ge 25, 3)) none)) (cond (Nat.blt pc 49) (cond (Nat.beq pc 48) (some (.aload_n 0, 1)) none) (cond (Nat.beq pc 49) (some (.getfield 135, 3)) none)))))) (cond (Nat.blt pc 79) (cond (Nat.blt pc 61) (cond (Nat.blt pc 55) (cond (Nat.blt pc 53) (cond (Nat.beq pc 52) (some (.iload_n 3, 1)) none) (cond (Nat.blt pc 54) (cond (Nat.beq pc 53) (some (.ishr, 1)) none) (cond (Nat.beq pc 54) (some (.iconst 1, 1)) none))) (cond (Nat.blt pc 59) (cond (Nat.blt pc 56) (cond (Nat.beq pc 55) (some (.iand, 1)) none) (cond (Nat.beq pc 56) (some (.ifCond .eq 8, 3)) none)) (cond (Nat.blt pc 60) (cond (Nat.beq pc 59) (some (.aload_n 0, 1)) none) (cond (Nat.beq pc 60) (some (.iload_n 3, 1)) none)))) (cond (Nat.blt pc 71) (cond (Nat.blt pc 67) (cond (Nat.blt pc 64) (cond (Nat.beq pc 61) (some (.invokevirtual 93, 3)) none) (cond (Nat.beq pc 64) (some (.iinc 3 1, 3)) none)) (cond (Nat.blt pc 70) (cond (Nat.beq pc 67) (some (.goto (-33), 3)) none) (cond (Nat.beq pc 70) (some (.aload_n 0, 1)) none))) (cond (Nat.blt pc 73) (cond (Nat.blt pc 72) (cond (Nat.beq pc 71) (some (.iload_n 1, 1)) none) (cond (Nat.beq pc 72) (some (.aload_n 0, 1)) none)) (cond (Nat.blt pc 76) (cond (Nat.beq pc 73) (some (.getfield 138, 3)) none) (cond (Nat.beq pc 76) (some (.invokevirtual 125, 3)) none))))) (cond (Nat.blt pc 91) (cond (Nat.blt pc 85) (cond (Nat.blt pc 81) (cond (Nat.blt pc 80) (cond (Nat.beq pc 79) (some (.aload_n 0, 1)) none) (cond (Nat.beq pc 80) (some (.iconst 2, 1)) none)) (cond (Nat.blt pc 82) (cond (Nat.beq pc 81) (some (.aload_n 0, 1)) none) (cond (Nat.beq pc 82) (some (.getfield 135, 3)) none))) (cond (Nat.blt pc 89) (cond (Nat.blt pc 88) (cond (Nat.beq pc 85) (some (.invokevirtual 129, 3)) none) (cond (Nat.beq pc 88) (some (.iconst 2, 1)) none)) (cond (Nat.blt pc 90) (cond (Nat.beq pc 89) (some (.ireturn, 1)) none) (cond (Nat.beq pc 90) (some (.aload_n 0, 1)) none)))) (cond (Nat.blt pc 97) (cond (Nat.blt pc 95) (cond (Nat.blt pc 92) (cond (Nat.beq pc 91) (some (.iload_n 1, 1)) none) (cond (Nat.beq pc 92) (some (.invokevirtual 93, 3)) none)) (cond (Nat.blt pc 96) (cond (Nat.beq pc 95) (some (.aload_n 0, 1)) none) (cond (Nat.beq pc 96) (some (.iconst 0, 1)) none))) (cond (Nat.blt pc 101) (cond (Nat.blt pc 98) (cond (Nat.beq pc 97) (some (.iconst 0, 1)) none) (cond (Nat.beq pc 98) (some (.invokevirtual 129, 3)) none)) (cond (Nat.blt pc 102) (cond (Nat.beq pc 101) (some (.iconst 0, 1)) none) (cond (Nat.beq pc 102) (some (.ireturn, 1)) none))))))) none
def cd_17 : Nat → Option (Instr × Nat) := fun pc => cond (Nat.blt pc 69) (cond (Nat.blt pc 33) (cond (Nat.blt pc 13) (cond (Nat.blt pc 4) (cond (Nat.blt pc 2) (cond (Nat.blt pc 1) (cond (Nat.beq pc 0) (some (.iconst (-1), 1)) none) (cond (Nat.beq pc 1) (some (.istore_n 2, 1)) none)) (cond (Nat.blt pc 3) (cond (Nat.beq pc 2) (some (.iconst (-1), 1)) none) (cond (Nat.beq pc 3) (some (.istore_n 3, 1)) none))) (cond (Nat.blt pc 7) (cond (Nat.blt pc 5) (cond (Nat.beq pc 4) (some (.iconst 0, 1)) none) (cond (Nat.beq pc 5) (some (.istore 4, 2)) none)) (cond (Nat.blt pc 9) (cond (Nat.beq pc 7) (some (.iload 4, 2)) none) (cond (Nat.blt pc 10) (cond (Nat.beq pc 9) (some (.aload_n 0, 1)) none) (cond (Nat.beq pc 10) (some (.getfield 72, 3)) none))))) (cond (Nat.blt pc 23) (cond (Nat.blt pc 18) (cond (Nat.blt pc 16) (cond (Nat.beq pc 13) (some (.if_icmp .ge 54, 3)) none) (cond (Nat.beq pc 16) (some (.iload 4, 2)) none)) (cond (Nat.blt pc 20) (cond (Nat.beq pc 18) (some (.bipush 8, 2)) none) (cond (Nat.beq pc 20) (some (.if_icmp .ge 47, 3)) none))) (cond (Nat.blt pc 25) (cond (Nat.blt pc 24) (cond (Nat.beq pc 23) (some (.aload_n 0, 1)) none) (cond (Nat.beq pc 24) (some (.iload_n 1, 1)) none)) (cond (Nat.blt pc 27) (cond (Nat.beq pc 25) (some (.iload 4, 2)) none) (cond (Nat.blt pc 30) (cond (Nat.beq pc 27) (some (.invokevirtual 109, 3)) none) (cond (Nat.beq pc 30) (some (.ifCond .ne 6, 3)) none)))))) (cond (Nat.blt pc 51) (cond (Nat.blt pc 40) (cond (Nat.blt pc 37) (cond (Nat.blt pc 36) (cond (Nat.beq pc 33) (some (.goto 28, 3)) none) (cond (Nat.beq pc 36) (some (.aload_n 0, 1)) none)) (cond (Nat.blt pc 38) (cond (Nat.beq pc 37) (some (.iload_n 1, 1)) none) (cond (Nat.beq pc 38) (some (.iload 4, 2)) none))) (cond (Nat.blt pc 45) (cond (Nat.blt pc 43) (cond (Nat.beq pc 40) (some (.invokevirtual 113, 3)) none) (cond (Nat.beq pc 43) (some (.istore 5, 2)) none)) (cond (Nat.blt pc 46) (cond (Nat.beq pc 45) (some (.iload_n 2, 1)) none) (cond (Nat.blt pc 49) (cond (Nat.beq pc 46) (some (.ifCond .lt 9, 3)) none) (cond (Nat.beq pc 49) (some (.iload 5, 2)) none))))) (cond (Nat.blt pc 60) (cond (Nat.blt pc 55) (cond (Nat.blt pc 52) (cond (Nat.beq pc 51) (some (.iload_n 3, 1)) none) (cond (Nat.beq pc 52) (some (.if_icmp .le 9, 3)) none)) (cond (Nat.blt pc 57) (cond (Nat.beq pc 55) (some (.iload 4, 2)) none) (cond (Nat.blt pc 58) (cond (Nat.beq pc 57) (some (.istore_n 2, 1)) none) (cond (Nat.beq pc 58) (some (.iload 5, 2)) none)))) (cond (Nat.blt pc 64) (cond (Nat.blt pc 61) (cond (Nat.beq pc 60) (some (.istore_n 3, 1)) none) (cond (Nat.beq pc 61) (some (.iinc 4 1, 3)) none)) (cond (Nat.blt pc 67) (cond (Nat.beq pc 64) (some (.goto (-57), 3)) none) (cond (Nat.blt pc 68) (cond (Nat.beq pc 67) (some (.iload_n 2, 1)) none) (cond (Nat.beq pc 68) (some (.ireturn, 1)) none))))))) none
def cd_18 : Nat → Option (Instr × Nat) := fun pc => cond (Nat.blt pc 52) (cond (Nat.blt pc 22) (cond (Nat.blt pc 11) (cond (Nat.blt pc 5) (cond (Nat.blt pc 1) (cond (Nat.beq pc 0) (some (.aload_n 0, 1)) none) (cond (Nat.blt pc 2) (cond (Nat.beq pc 1) (some (.iconst 0, 1)) none) (cond (Nat.beq pc 2) (some (.putfield 141, 3)) none))) (cond (Nat.blt pc 7) (cond (Nat.blt pc 6) (cond (Nat.beq pc 5) (some (.aload_n 0, 1)) none) (cond (Nat.beq pc 6) (some (.iconst 0, 1)) none)) (cond (Nat.blt pc 10) (cond (Nat.beq pc 7) (some (.putfield 135, 3)) none) (cond (Nat.beq pc 10) (some (.aload_n 0, 1)) none)))) (cond (Nat.blt pc 16) (cond (Nat.blt pc 12) (cond (Nat.beq pc 11) (some (.iconst (-1), 1)) none) (cond (Nat.blt pc 15) (cond (Nat.beq pc 12) (some (.putfield 138, 3)) none) (cond (Nat.beq pc 15) (some (.aload_n 0, 1)) none))) (cond (Nat.blt pc 20) (cond (Nat.blt pc 19) (cond (Nat.beq pc 16) (some (.invokevirtual 145, 3)) none) (cond (Nat.beq pc 19) (some (.iconst 0, 1)) none)) (cond (Nat.blt pc 21) (cond (Nat.beq pc 20) (some (.istore_n 2, 1)) none) (cond (Nat.beq pc 21) (some (.iload_n 2, 1)) none))))) (cond (Nat.blt pc 36) (cond (Nat.blt pc 29) (cond (Nat.blt pc 23) (cond (Nat.beq pc 22) (some (.aload_n 0, 1)) none) (cond (Nat.blt pc 26) (cond (Nat.beq pc 23) (some (.getfield 72, 3)) none) (cond (Nat.beq pc 26) (some (.if_icmp .ge 21, 3)) none))) (cond (Nat.blt pc 32) (cond (Nat.blt pc 30) (cond (Nat.beq pc 29) (some (.iload_n 2, 1)) none) (cond (Nat.beq pc 30) (some (.bipush 8, 2)) none)) (cond (Nat.blt pc 35) (cond (Nat.beq pc 32) (some (.if_icmp .ge 15, 3)) none) (cond (Nat.beq pc 35) (some (.aload_n 0, 1)) none)))) (cond (Nat.blt pc 44) (cond (Nat.blt pc 38) (cond (Nat.blt pc 37) (cond (Nat.beq pc 36) (some (.iload_n 1, 1)) none) (cond (Nat.beq pc 37) (some (.iload_n 2, 1)) none)) (cond (Nat.blt pc 41) (cond (Nat.beq pc 38) (some (.invokevirtual 148, 3)) none) (cond (Nat.beq pc 41) (some (.iinc 2 1, 3)) none))) (cond (Nat.blt pc 48) (cond (Nat.blt pc 47) (cond (Nat.beq pc 44) (some (.goto (-23), 3)) none) (cond (Nat.beq pc 47) (some (.aload_n 0, 1)) none)) (cond (Nat.blt pc 51) (cond (Nat.beq pc 48) (some (.getfield 141, 3)) none) (cond (Nat.beq pc 51) (some (.ireturn, 1)) none)))))) none
def cd_19 : Nat → Option (Instr × Nat) := fun pc => cond (Nat.blt pc 72) (cond (Nat.blt pc 37) (cond (Nat.blt pc 15) (cond (Nat.blt pc 8) (cond (Nat.blt pc 2) (cond (Nat.blt pc 1) (cond (Nat.beq pc 0) (some (.iconst 0, 1)) none) (cond (Nat.beq pc 1) (some (.istore_n 1, 1)) none)) (cond (Nat.blt pc 3) (cond (Nat.beq pc 2) (some (.iload_n 1, 1)) none) (cond (Nat.blt pc 5) (cond (Nat.beq pc 3) (some (.bipush 16, 2)) none) (cond (Nat.beq pc 5) (some (.if_icmp .ge 16, 3)) none)))) (cond (Nat.blt pc 12) (cond (Nat.blt pc 9) (cond (Nat.beq pc 8) (some (.aload_n 0, 1)) none) (cond (Nat.beq pc 9) (some (.getfield 62, 3)) none)) (cond (Nat.blt pc 13) (cond (Nat.beq pc 12) (some (.iload_n 1, 1)) none) (cond (Nat.blt pc 14) (cond (Nat.beq pc 13) (some (.iconst 0, 1)) none) (cond (Nat.beq pc 14) (some (.iastore, 1)) none))))) (cond (Nat.blt pc 24) (cond (Nat.blt pc 21) (cond (Nat.blt pc 18) (cond (Nat.beq pc 15) (some (.iinc 1 1, 3)) none) (cond (Nat.beq pc 18) (some (.goto (-16), 3)) none)) (cond (Nat.blt pc 22) (cond (Nat.beq pc 21) (some (.iconst 0, 1)) none) (cond (Nat.blt pc 23) (cond (Nat.beq pc 22) (some (.istore_n 1, 1)) none) (cond (Nat.beq pc 23) (some (.iload_n 1, 1)) none)))) (cond (Nat.blt pc 31) (cond (Nat.blt pc 25) (cond (Nat.beq pc 24) (some (.aload_n 0, 1)) none) (cond (Nat.blt pc 28) (cond (Nat.beq pc 25) (some (.getfield 76, 3)) none) (cond (Nat.beq pc 28) (some (.if_icmp .ge 43, 3)) none))) (cond (Nat.blt pc 32) (cond (Nat.beq pc 31) (some (.iload_n 1, 1)) none) (cond (Nat.blt pc 34) (cond (Nat.beq pc 32) (some (.bipush 16, 2)) none) (cond (Nat.beq pc 34) (some (.if_icmp .ge 37, 3)) none)))))) (cond (Nat.blt pc 56) (cond (Nat.blt pc 44) (cond (Nat.blt pc 41) (cond (Nat.blt pc 38) (cond (Nat.beq pc 37) (some (.aload_n 0, 1)) none) (cond (Nat.beq pc 38) (some (.getfield 29, 3)) none)) (cond (Nat.blt pc 42) (cond (Nat.beq pc 41) (some (.iload_n 1, 1)) none) (cond (Nat.blt pc 43) (cond (Nat.beq pc 42) (some (.iaload, 1)) none) (cond (Nat.beq pc 43) (some (.iconst 2, 1)) none)))) (cond (Nat.blt pc 51) (cond (Nat.blt pc 47) (cond (Nat.beq pc 44) (some (.if_icmp .ne 21, 3)) none) (cond (Nat.blt pc 48) (cond (Nat.beq pc 47) (some (.aload_n 0, 1)) none) (cond (Nat.beq pc 48) (some (.getfield 62, 3)) none))) (cond (Nat.blt pc 52) (cond (Nat.beq pc 51) (some (.aload_n 0, 1)) none) (cond (Nat.blt pc 55) (cond (Nat.beq pc 52) (some (.getfield 50, 3)) none) (cond (Nat.beq pc 55) (some (.iload_n 1, 1)) none))))) (cond (Nat.blt pc 62) (cond (Nat.blt pc 59) (cond (Nat.blt pc 57) (cond (Nat.beq pc 56) (some (.iaload, 1)) none) (cond (Nat.beq pc 57) (some (.bipush 15, 2)) none)) (cond (Nat.blt pc 60) (cond (Nat.beq pc 59) (some (.iand, 1)) none) (cond (Nat.blt pc 61) (cond (Nat.beq pc 60) (some (.dup2, 1)) none) (cond (Nat.beq pc 61) (some (.iaload, 1)) none)))) (cond (Nat.blt pc 65) (cond (Nat.blt pc 63) (cond (Nat.beq pc 62) (some (.iconst 1, 1)) none) (cond (Nat.blt pc 64) (cond (Nat.beq pc 63) (some (.iadd, 1)) none) (cond (Nat.beq pc 64) (some (.iastore, 1)) none))) (cond (Nat.blt pc 68) (cond (Nat.beq pc 65) (some (.iinc 1 1, 3)) none) (cond (Nat.blt pc 71) (cond (Nat.beq pc 68) (some (.goto (-45), 3)) none) (cond (Nat.beq pc 71) (some (.return_, 1)) none))))))) none
def cd_20 : Nat → Option (Instr × Nat) := fun pc => cond (Nat.blt pc 208) (cond (Nat.blt pc 100) (cond (Nat.blt pc 49) (cond (Nat.blt pc 22) (cond (Nat.blt pc 11) (cond (Nat.blt pc 5) (cond (Nat.blt pc 1) (cond (Nat.beq pc 0) (some (.aload_n 0, 1)) none) (cond (Nat.blt pc 4) (cond (Nat.beq pc 1) (some (.getfield 7, 3)) none) (cond (Nat.beq pc 4) (some (.iload_n 2, 1)) none))) (cond (Nat.blt pc 9) (cond (Nat.blt pc 6) (cond (Nat.beq pc 5) (some (.baload, 1)) none) (cond (Nat.beq pc 6) (some (.ifCond .eq 12, 3)) none)) (cond (Nat.blt pc 10) (cond (Nat.beq pc 9) (some (.aload_n 0, 1)) none) (cond (Nat.beq pc 10) (some (.iload_n 1, 1)) none)))) (cond (Nat.blt pc 18) (cond (Nat.blt pc 12) (cond (Nat.beq pc 11) (some (.iload_n 2, 1)) none) (cond (Nat.blt pc 15) (cond (Nat.beq pc 12) (some (.invokevirtual 116, 3)) none) (cond (Nat.beq pc 15) (some (.ifCond .ne 4, 3)) none))) (cond (Nat.blt pc 20) (cond (Nat.blt pc 19) (cond (Nat.beq pc 18) (some (.return_, 1)) none) (cond (Nat.beq pc 19) (some (.aload_n 0, 1)) none)) (cond (Nat.blt pc 21) (cond (Nat.beq pc 20) (some (.aload_n 0, 1)) none) (cond (Nat.beq pc 21) (some (.iload_n 2, 1)) none))))) (cond (Nat.blt pc 33) (cond (Nat.blt pc 29) (cond (Nat.blt pc 23) (cond (Nat.beq pc 22) (some (.iconst 0, 1)) none) (cond (Nat.blt pc 26) (cond (Nat.beq pc 23) (some (.invokevirtual 105, 3)) none) (cond (Nat.beq pc 26) (some (.putfield 151, 3)) none))) (cond (Nat.blt pc 31) (cond (Nat.blt pc 30) (cond (Nat.beq pc 29) (some (.aload_n 0, 1)) none) (cond (Nat.beq pc 30) (some (.aload_n 0, 1)) none)) (cond (Nat.blt pc 32) (cond (Nat.beq pc 31) (some (.iload_n 2, 1)) none) (cond (Nat.beq pc 32) (some (.iconst 1, 1)) none)))) (cond (Nat.blt pc 41) (cond (Nat.blt pc 39) (cond (Nat.blt pc 36) (cond (Nat.beq pc 33) (some (.invokevirtual 105, 3)) none) (cond (Nat.beq pc 36) (some (.putfield 154, 3)) none)) (cond (Nat.blt pc 40) (cond (Nat.beq pc 39) (some (.aload_n 0, 1)) none) (cond (Nat.beq pc 40) (some (.aload_n 0, 1)) none))) (cond (Nat.blt pc 43) (cond (Nat.blt pc 42) (cond (Nat.beq pc 41) (some (.iload_n 2, 1)) none) (cond (Nat.beq pc 42) (some (.iconst 2, 1)) none)) (cond (Nat.blt pc 46) (cond (Nat.beq pc 43) (some (.invokevirtual 105, 3)) none) (cond (Nat.beq pc 46) (some (.putfield 157, 3)) none)))))) (cond (Nat.blt pc 72) (cond (Nat.blt pc 60) (cond (Nat.blt pc 54) (cond (Nat.blt pc 50) (cond (Nat.beq pc 49) (some (.aload_n 0, 1)) none) (cond (Nat.blt pc 51) (cond (Nat.beq pc 50) (some (.iconst 0, 1)) none) (cond (Nat.beq pc 51) (some (.putfield 160, 3)) none))) (cond (Nat.blt pc 58) (cond (Nat.blt pc 55) (cond (Nat.beq pc 54) (some (.aload_n 0, 1)) none) (cond (Nat.beq pc 55) (some (.getfield 50, 3)) none)) (cond (Nat.blt pc 59) (cond (Nat.beq pc 58) (some (.iload_n 1, 1)) none) (cond (Nat.beq pc 59) (some (.iaload, 1)) none)))) (cond (Nat.blt pc 66) (cond (Nat.blt pc 64) (cond (Nat.blt pc 63) (cond (Nat.beq pc 60) (some (.ifCond .eq 18, 3)) none) (cond (Nat.beq pc 63) (some (.aload_n 0, 1)) none)) (cond (Nat.blt pc 65) (cond (Nat.beq pc 64) (some (.aload_n 0, 1)) none) (cond (Nat.beq pc 65) (some (.iload_n 2, 1)) none))) (cond (Nat.blt pc 70) (cond (Nat.blt pc 67) (cond (Nat.beq pc 66) (some (.aload_n 0, 1)) none) (cond (Nat.beq pc 67) (some (.getfield 50, 3)) none)) (cond (Nat.blt pc 71) (cond (Nat.beq pc 70) (some (.iload_n 1, 1)) none) (cond (Nat.beq pc 71) (some (.iaload, 1)) none))))) (cond (Nat.blt pc 85) (cond (Nat.blt pc 79) (cond (Nat.blt pc 75) (cond (Nat.beq pc 72) (some (.invokevirtual 119, 3)) none) (cond (Nat.blt pc 78) (cond (Nat.beq pc 75) (some (.putfield 160, 3)) none) (cond (Nat.beq pc 78) (some (.aload_n 0, 1)) none))) (cond (Nat.blt pc 83) (cond (Nat.blt pc 80) (cond (Nat.beq pc 79) (some (.iconst 0, 1)) none) (cond (Nat.beq pc 80) (some (.putfield 163, 3)) none)) (cond (Nat.blt pc 84) (cond (Nat.beq pc 83) (some (.iconst 0, 1)) none) (cond (Nat.beq pc 84) (some (.istore_n 3, 1)) none)))) (cond (Nat.blt pc 93) (cond (Nat.blt pc 87) (cond (Nat.blt pc 86) (cond (Nat.beq pc 85) (some (.iload_n 3, 1)) none) (cond (Nat.beq pc 86) (some (.aload_n 0, 1)) none)) (cond (Nat.blt pc 90) (cond (Nat.beq pc 87) (some (.getfield 76, 3)) none) (cond (Nat.beq pc 90) (some (.if_icmp .ge 79, 3)) none))) (cond (Nat.blt pc 96) (cond (Nat.blt pc 94) (cond (Nat.beq pc 93) (some (.iload_n 3, 1)) none) (cond (Nat.beq pc 94) (some (.bipush 16, 2)) none)) (cond (Nat.blt pc 99) (cond (Nat.beq pc 96) (some (.if_icmp .ge 73, 3)) none) (cond (Nat.beq pc 99) (some (.aload_n 0, 1)) none))))))) (cond (Nat.blt pc 153) (cond (Nat.blt pc 125) (cond (Nat.blt pc 113) (cond (Nat.blt pc 105) (cond (Nat.blt pc 103) (cond (Nat.beq pc 100) (some (.getfield 29, 3)) none) (cond (Nat.blt pc 104) (cond (Nat.beq pc 103) (some (.iload_n 3, 1)) none) (cond (Nat.beq pc 104) (some (.iaload, 1)) none))) (cond (Nat.blt pc 109) (cond (Nat.blt pc 106) (cond (Nat.beq pc 105) (some (.iconst 2, 1)) none) (cond (Nat.beq pc 106) (some (.if_icmp .ne 57, 3)) none)) (cond (Nat.blt pc 110) (cond (Nat.beq pc 109) (some (.aload_n 0, 1)) none) (cond (Nat.beq pc 110) (some (.getfield 32, 3)) none)))) (cond (Nat.blt pc 119) (cond (Nat.blt pc 115) (cond (Nat.blt pc 114) (cond (Nat.beq pc 113) (some (.iload_n 3, 1)) none) (cond (Nat.beq pc 114) (some (.iaload, 1)) none)) (cond (Nat.blt pc 116) (cond (Nat.beq pc 115) (some (.iload_n 2, 1)) none) (cond (Nat.beq pc 116) (some (.if_icmp .ne 47, 3)) none))) (cond (Nat.blt pc 123) (cond (Nat.blt pc 120) (cond (Nat.beq pc 119) (some (.aload_n 0, 1)) none) (cond (Nat.beq pc 120) (some (.getfield 41, 3)) none)) (cond (Nat.blt pc 124) (cond (Nat.beq pc 123) (some (.iload_n 3, 1)) none) (cond (Nat.beq pc 124) (some (.iaload, 1)) none))))) (cond (Nat.blt pc 138) (cond (Nat.blt pc 130) (cond (Nat.blt pc 126) (cond (Nat.beq pc 125) (some (.aload_n 0, 1)) none) (cond (Nat.blt pc 129) (cond (Nat.beq pc 126) (some (.getfield 41, 3)) none) (cond (Nat.beq pc 129) (some (.iload_n 1, 1)) none))) (cond (Nat.blt pc 134) (cond (Nat.blt pc 131) (cond (Nat.beq pc 130) (some (.iaload, 1)) none) (cond (Nat.beq pc 131) (some (.if_icmp .ge 32, 3)) none)) (cond (Nat.blt pc 135) (cond (Nat.beq pc 134) (some (.aload_n 0, 1)) none) (cond (Nat.beq pc 135) (some (.getfield 163, 3)) none)))) (cond (Nat.blt pc 147) (cond (Nat.blt pc 143) (cond (Nat.blt pc 140) (cond (Nat.beq pc 138) (some (.bipush 16, 2)) none) (cond (Nat.beq pc 140) (some (.if_icmp .ge 23, 3)) none)) (cond (Nat.blt pc 144) (cond (Nat.beq pc 143) (some (.aload_n 0, 1)) none) (cond (Nat.beq pc 144) (some (.getfield 59, 3)) none))) (cond (Nat.blt pc 151) (cond (Nat.blt pc 148) (cond (Nat.beq pc 147) (some (.aload_n 0, 1)) none) (cond (Nat.beq pc 148) (some (.getfield 163, 3)) none)) (cond (Nat.blt pc 152) (cond (Nat.beq pc 151) (some (.iload_n 3, 1)) none) (cond (Nat.beq pc 152) (some (.iastore, 1)) none)))))) (cond (Nat.blt pc 182) (cond (Nat.blt pc 166) (cond (Nat.blt pc 158) (cond (Nat.blt pc 154) (cond (Nat.beq pc 153) (some (.aload_n 0, 1)) none) (cond (Nat.blt pc 155) (cond (Nat.beq pc 154) (some (.dup, 1)) none) (cond (Nat.beq pc 155) (some (.getfield 163, 3)) none))) (cond (Nat.blt pc 160) (cond (Nat.blt pc 159) (cond (Nat.beq pc 158) (some (.iconst 1, 1)) none) (cond (Nat.beq pc 159) (some (.iadd, 1)) none)) (cond (Nat.blt pc 163) (cond (Nat.beq pc 160) (some (.putfield 163, 3)) none) (cond (Nat.beq pc 163) (some (.iinc 3 1, 3)) none)))) (cond (Nat.blt pc 176) (cond (Nat.blt pc 170) (cond (Nat.blt pc 169) (cond (Nat.beq pc 166) (some (.goto (-81), 3)) none) (cond (Nat.beq pc 169) (some (.aload_n 0, 1)) none)) (cond (Nat.blt pc 173) (cond (Nat.beq pc 170) (some (.getfield 163, 3)) none) (cond (Nat.beq pc 173) (some (.ifCond .ne 4, 3)) none))) (cond (Nat.blt pc 178) (cond (Nat.blt pc 177) (cond (Nat.beq pc 176) (some (.return_, 1)) none) (cond (Nat.beq pc 177) (some (.iconst 1, 1)) none)) (cond (Nat.blt pc 179) (cond (Nat.beq pc 178) (some (.aload_n 0, 1)) none) (cond (Nat.beq pc 179) (some (.getfield 163, 3)) none))))) (cond (Nat.blt pc 193) (cond (Nat.blt pc 185) (cond (Nat.blt pc 183) (cond (Nat.beq pc 182) (some (.ishl, 1)) none) (cond (Nat.blt pc 184) (cond (Nat.beq pc 183) (some (.istore_n 3, 1)) none) (cond (Nat.beq pc 184) (some (.iconst 1, 1)) none))) (cond (Nat.blt pc 189) (cond (Nat.blt pc 187) (cond (Nat.beq pc 185) (some (.istore 4, 2)) none) (cond (Nat.beq pc 187) (some (.iload 4, 2)) none)) (cond (Nat.blt pc 190) (cond (Nat.beq pc 189) (some (.iload_n 3, 1)) none) (cond (Nat.beq pc 190) (some (.if_icmp .ge 17, 3)) none)))) (cond (Nat.blt pc 198) (cond (Nat.blt pc 195) (cond (Nat.blt pc 194) (cond (Nat.beq pc 193) (some (.aload_n 0, 1)) none) (cond (Nat.beq pc 194) (some (.iload_n 1, 1)) none)) (cond (Nat.blt pc 196) (cond (Nat.beq pc 195) (some (.iload_n 2, 1)) none) (cond (Nat.beq pc 196) (some (.iload 4, 2)) none))) (cond (Nat.blt pc 204) (cond (Nat.blt pc 201) (cond (Nat.beq pc 198) (some (.invokevirtual 166, 3)) none) (cond (Nat.beq pc 201) (some (.iinc 4 1, 3)) none)) (cond (Nat.blt pc 207) (cond (Nat.beq pc 204) (some (.goto (-17), 3)) none) (cond (Nat.beq pc 207) (some (.return_, 1)) none)))))))) none
def cd_21 : Nat → Option (Instr × Nat) := fun pc => cond (Nat.blt pc 11) (cond (Nat.blt pc 5) (cond (Nat.blt pc 1) (cond (Nat.beq pc 0) (some (.aload_n 0, 1)) none) (cond (Nat.blt pc 2) (cond (Nat.beq pc 1) (some (.iload_n 1, 1)) none) (cond (Nat.beq pc 2) (some (.putfield 82, 3)) none))) (cond (Nat.blt pc 7) (cond (Nat.blt pc 6) (cond (Nat.beq pc 5) (some (.aload_n 0, 1)) none) (cond (Nat.beq pc 6) (some (.iload_n 2, 1)) none)) (cond (Nat.blt pc 10) (cond (Nat.beq pc 7) (some (.putfield 85, 3)) none) (cond (Nat.beq pc 10) (some (.return_, 1)) none)))) none
def cd_22 : Nat → Option (Instr × Nat) := fun pc => cond (Nat.blt pc 48) (cond (Nat.blt pc 24) (cond (Nat.blt pc 12) (cond (Nat.blt pc 6) (cond (Nat.blt pc 4) (cond (Nat.blt pc 1) (cond (Nat.beq pc 0) (some (.aload_n 0, 1)) none) (cond (Nat.beq pc 1) (some (.getfield 26, 3)) none)) (cond (Nat.blt pc 5) (cond (Nat.beq pc 4) (some (.iload_n 2, 1)) none) (cond (Nat.beq pc 5) (some (.iaload, 1)) none))) (cond (Nat.blt pc 10) (cond (Nat.blt pc 7) (cond (Nat.beq pc 6) (some (.aload_n 0, 1)) none) (cond (Nat.beq pc 7) (some (.getfield 44, 3)) none)) (cond (Nat.blt pc 11) (cond (Nat.beq pc 10) (some (.iload_n 1, 1)) none) (cond (Nat.beq pc 11) (some (.iaload, 1)) none)))) (cond (Nat.blt pc 18) (cond (Nat.blt pc 14) (cond (Nat.blt pc 13) (cond (Nat.beq pc 12) (some (.iconst (-1), 1)) none) (cond (Nat.beq pc 13) (some (.ixor, 1)) none)) (cond (Nat.blt pc 15) (cond (Nat.beq pc 14) (some (.iand, 1)) none) (cond (Nat.beq pc 15) (some (.ifCond .eq 5, 3)) none))) (cond (Nat.blt pc 20) (cond (Nat.blt pc 19) (cond (Nat.beq pc 18) (some (.iconst 0, 1)) none) (cond (Nat.beq pc 19) (some (.ireturn, 1)) none)) (cond (Nat.blt pc 21) (cond (Nat.beq pc 20) (some (.aload_n 0, 1)) none) (cond (Nat.beq pc 21) (some (.getfield 23, 3)) none))))) (cond (Nat.blt pc 34) (cond (Nat.blt pc 30) (cond (Nat.blt pc 26) (cond (Nat.blt pc 25) (cond (Nat.beq pc 24) (some (.iload_n 2, 1)) none) (cond (Nat.beq pc 25) (some (.iaload, 1)) none)) (cond (Nat.blt pc 27) (cond (Nat.beq pc 26) (some (.aload_n 0, 1)) none) (cond (Nat.beq pc 27) (some (.getfield 47, 3)) none))) (cond (Nat.blt pc 32) (cond (Nat.blt pc 31) (cond (Nat.beq pc 30) (some (.iload_n 1, 1)) none) (cond (Nat.beq pc 31) (some (.iaload, 1)) none)) (cond (Nat.blt pc 33) (cond (Nat.beq pc 32) (some (.iand, 1)) none) (cond (Nat.beq pc 33) (some (.aload_n 0, 1)) none)))) (cond (Nat.blt pc 42) (cond (Nat.blt pc 38) (cond (Nat.blt pc 37) (cond (Nat.beq pc 34) (some (.getfield 47, 3)) none) (cond (Nat.beq pc 37) (some (.iload_n 1, 1)) none)) (cond (Nat.blt pc 39) (cond (Nat.beq pc 38) (some (.iaload, 1)) none) (cond (Nat.beq pc 39) (some (.if_icmp .ne 7, 3)) none))) (cond (Nat.blt pc 46) (cond (Nat.blt pc 43) (cond (Nat.beq pc 42) (some (.iconst 1, 1)) none) (cond (Nat.beq pc 43) (some (.goto 4, 3)) none)) (cond (Nat.blt pc 47) (cond (Nat.beq pc 46) (some (.iconst 0, 1)) none) (cond (Nat.beq pc 47) (some (.ireturn, 1)) none)))))) none
def cd_23 : Nat → Option (Instr × Nat) := fun pc => cond (Nat.blt pc 92) (cond (Nat.blt pc 47) (cond (Nat.blt pc 22) (cond (Nat.blt pc 8) (cond (Nat.blt pc 3) (cond (Nat.blt pc 1) (cond (Nat.beq pc 0) (some (.iconst 0, 1)) none) (cond (Nat.blt pc 2) (cond (Nat.beq pc 1) (some (.istore_n 3, 1)) none) (cond (Nat.beq pc 2) (some (.iconst 0, 1)) none))) (cond (Nat.blt pc 5) (cond (Nat.beq pc 3) (some (.istore 4, 2)) none) (cond (Nat.blt pc 7) (cond (Nat.beq pc 5) (some (.iload 4, 2)) none) (cond (Nat.beq pc 7) (some (.aload_n 0, 1)) none)))) (cond (Nat.blt pc 16) (cond (Nat.blt pc 11) (cond (Nat.beq pc 8) (some (.getfield 76, 3)) none) (cond (Nat.blt pc 14) (cond (Nat.beq pc 11) (some (.if_icmp .ge 79, 3)) none) (cond (Nat.beq pc 14) (some (.iload 4, 2)) none))) (cond (Nat.blt pc 18) (cond (Nat.beq pc 16) (some (.bipush 16, 2)) none) (cond (Nat.blt pc 21) (cond (Nat.beq pc 18) (some (.if_icmp .ge 72, 3)) none) (cond (Nat.beq pc 21) (some (.aload_n 0, 1)) none))))) (cond (Nat.blt pc 33) (cond (Nat.blt pc 28) (cond (Nat.blt pc 25) (cond (Nat.beq pc 22) (some (.getfield 29, 3)) none) (cond (Nat.blt pc 27) (cond (Nat.beq pc 25) (some (.iload 4, 2)) none) (cond (Nat.beq pc 27) (some (.iaload, 1)) none))) (cond (Nat.blt pc 29) (cond (Nat.beq pc 28) (some (.iconst 2, 1)) none) (cond (Nat.blt pc 32) (cond (Nat.beq pc 29) (some (.if_icmp .ne 55, 3)) none) (cond (Nat.beq pc 32) (some (.aload_n 0, 1)) none)))) (cond (Nat.blt pc 39) (cond (Nat.blt pc 36) (cond (Nat.beq pc 33) (some (.getfield 32, 3)) none) (cond (Nat.blt pc 38) (cond (Nat.beq pc 36) (some (.iload 4, 2)) none) (cond (Nat.beq pc 38) (some (.iaload, 1)) none))) (cond (Nat.blt pc 43) (cond (Nat.blt pc 40) (cond (Nat.beq pc 39) (some (.iload_n 1, 1)) none) (cond (Nat.beq pc 40) (some (.if_icmp .eq 6, 3)) none)) (cond (Nat.blt pc 46) (cond (Nat.beq pc 43) (some (.goto 41, 3)) none) (cond (Nat.beq pc 46) (some (.iload_n 2, 1)) none)))))) (cond (Nat.blt pc 68) (cond (Nat.blt pc 58) (cond (Nat.blt pc 52) (cond (Nat.blt pc 50) (cond (Nat.beq pc 47) (some (.ifCond .ne 16, 3)) none) (cond (Nat.blt pc 51) (cond (Nat.beq pc 50) (some (.iload_n 3, 1)) none) (cond (Nat.beq pc 51) (some (.aload_n 0, 1)) none))) (cond (Nat.blt pc 55) (cond (Nat.beq pc 52) (some (.getfield 35, 3)) none) (cond (Nat.blt pc 57) (cond (Nat.beq pc 55) (some (.iload 4, 2)) none) (cond (Nat.beq pc 57) (some (.iaload, 1)) none)))) (cond (Nat.blt pc 63) (cond (Nat.blt pc 59) (cond (Nat.beq pc 58) (some (.iadd, 1)) none) (cond (Nat.blt pc 60) (cond (Nat.beq pc 59) (some (.istore_n 3, 1)) none) (cond (Nat.beq pc 60) (some (.goto 24, 3)) none))) (cond (Nat.blt pc 64) (cond (Nat.beq pc 63) (some (.iload_n 2, 1)) none) (cond (Nat.blt pc 65) (cond (Nat.beq pc 64) (some (.iconst 1, 1)) none) (cond (Nat.beq pc 65) (some (.if_icmp .ne 16, 3)) none))))) (cond (Nat.blt pc 77) (cond (Nat.blt pc 73) (cond (Nat.blt pc 69) (cond (Nat.beq pc 68) (some (.iload_n 3, 1)) none) (cond (Nat.blt pc 70) (cond (Nat.beq pc 69) (some (.aload_n 0, 1)) none) (cond (Nat.beq pc 70) (some (.getfield 38, 3)) none))) (cond (Nat.blt pc 75) (cond (Nat.beq pc 73) (some (.iload 4, 2)) none) (cond (Nat.blt pc 76) (cond (Nat.beq pc 75) (some (.iaload, 1)) none) (cond (Nat.beq pc 76) (some (.iadd, 1)) none)))) (cond (Nat.blt pc 84) (cond (Nat.blt pc 78) (cond (Nat.beq pc 77) (some (.istore_n 3, 1)) none) (cond (Nat.blt pc 81) (cond (Nat.beq pc 78) (some (.goto 6, 3)) none) (cond (Nat.beq pc 81) (some (.iinc 3 1, 3)) none))) (cond (Nat.blt pc 90) (cond (Nat.blt pc 87) (cond (Nat.beq pc 84) (some (.iinc 4 1, 3)) none) (cond (Nat.beq pc 87) (some (.goto (-82), 3)) none)) (cond (Nat.blt pc 91) (cond (Nat.beq pc 90) (some (.iload_n 3, 1)) none) (cond (Nat.beq pc 91) (some (.ireturn, 1)) none))))))) none
def cd_24 : Nat → Option (Instr × Nat) := fun pc => cond (Nat.blt pc 32) (cond (Nat.blt pc 18) (cond (Nat.blt pc 8) (cond (Nat.blt pc 2) (cond (Nat.blt pc 1) (cond (Nat.beq pc 0) (some (.iload_n 1, 1)) none) (cond (Nat.beq pc 1) (some (.iconst 1, 1)) none)) (cond (Nat.blt pc 5) (cond (Nat.beq pc 2) (some (.if_icmp .lt 19, 3)) none) (cond (Nat.blt pc 6) (cond (Nat.beq pc 5) (some (.iload_n 1, 1)) none) (cond (Nat.beq pc 6) (some (.bipush 15, 2)) none)))) (cond (Nat.blt pc 12) (cond (Nat.blt pc 11) (cond (Nat.beq pc 8) (some (.if_icmp .gt 13, 3)) none) (cond (Nat.beq pc 11) (some (.iload_n 2, 1)) none)) (cond (Nat.blt pc 15) (cond (Nat.beq pc 12) (some (.ifCond .lt 9, 3)) none) (cond (Nat.blt pc 16) (cond (Nat.beq pc 15) (some (.iload_n 2, 1)) none) (cond (Nat.beq pc 16) (some (.bipush 16, 2)) none))))) (cond (Nat.blt pc 27) (cond (Nat.blt pc 22) (cond (Nat.blt pc 21) (cond (Nat.beq pc 18) (some (.if_icmp .le 5, 3)) none) (cond (Nat.beq pc 21) (some (.iconst 0, 1)) none)) (cond (Nat.blt pc 23) (cond (Nat.beq pc 22) (some (.ireturn, 1)) none) (cond (Nat.blt pc 24) (cond (Nat.beq pc 23) (some (.aload_n 0, 1)) none) (cond (Nat.beq pc 24) (some (.getfield 56, 3)) none)))) (cond (Nat.blt pc 29) (cond (Nat.blt pc 28) (cond (Nat.beq pc 27) (some (.iload_n 1, 1)) none) (cond (Nat.beq pc 28) (some (.iload_n 2, 1)) none)) (cond (Nat.blt pc 30) (cond (Nat.beq pc 29) (some (.iastore, 1)) none) (cond (Nat.blt pc 31) (cond (Nat.beq pc 30) (some (.iconst 1, 1)) none) (cond (Nat.beq pc 31) (some (.ireturn, 1)) none)))))) none
def cd_25 : Nat → Option (Instr × Nat) := fun pc => cond (Nat.blt pc 26) (cond (Nat.blt pc 14) (cond (Nat.blt pc 8) (cond (Nat.blt pc 2) (cond (Nat.blt pc 1) (cond (Nat.beq pc 0) (some (.aload_n 0, 1)) none) (cond (Nat.beq pc 1) (some (.iload_n 1, 1)) none)) (cond (Nat.blt pc 5) (cond (Nat.beq pc 2) (some (.invokevirtual 98, 3)) none) (cond (Nat.beq pc 5) (some (.ifCond .eq 13, 3)) none))) (cond (Nat.blt pc 12) (cond (Nat.blt pc 9) (cond (Nat.beq pc 8) (some (.aload_n 0, 1)) none) (cond (Nat.beq pc 9) (some (.getfield 29, 3)) none)) (cond (Nat.blt pc 13) (cond (Nat.beq pc 12) (some (.iload_n 1, 1)) none) (cond (Nat.beq pc 13) (some (.iaload, 1)) none)))) (cond (Nat.blt pc 20) (cond (Nat.blt pc 18) (cond (Nat.blt pc 15) (cond (Nat.beq pc 14) (some (.iconst 1, 1)) none) (cond (Nat.beq pc 15) (some (.if_icmp .eq 5, 3)) none)) (cond (Nat.blt pc 19) (cond (Nat.beq pc 18) (some (.iconst (-1), 1)) none) (cond (Nat.beq pc 19) (some (.ireturn, 1)) none))) (cond (Nat.blt pc 22) (cond (Nat.blt pc 21) (cond (Nat.beq pc 20) (some (.aload_n 0, 1)) none) (cond (Nat.beq pc 21) (some (.iload_n 1, 1)) none)) (cond (Nat.blt pc 25) (cond (Nat.beq pc 22) (some (.invokevirtual 101, 3)) none) (cond (Nat.beq pc 25) (some (.ireturn, 1)) none))))) none
def cd_26 : Nat → Option (Instr × Nat) := fun pc => cond (Nat.blt pc 65) (cond (Nat.blt pc 32) (cond (Nat.blt pc 14) (cond (Nat.blt pc 5) (cond (Nat.blt pc 2) (cond (Nat.blt pc 1) (cond (Nat.beq pc 0) (some (.iconst 0, 1)) none) (cond (Nat.beq pc 1) (some (.istore_n 3, 1)) none)) (cond (Nat.blt pc 3) (cond (Nat.beq pc 2) (some (.iconst 0, 1)) none) (cond (Nat.beq pc 3) (some (.istore 4, 2)) none))) (cond (Nat.blt pc 8) (cond (Nat.blt pc 7) (cond (Nat.beq pc 5) (some (.iload 4, 2)) none) (cond (Nat.beq pc 7) (some (.aload_n 0, 1)) none)) (cond (Nat.blt pc 11) (cond (Nat.beq pc 8) (some (.getfield 76, 3)) none) (cond (Nat.beq pc 11) (some (.if_icmp .ge 52, 3)) none)))) (cond (Nat.blt pc 22) (cond (Nat.blt pc 18) (cond (Nat.blt pc 16) (cond (Nat.beq pc 14) (some (.iload 4, 2)) none) (cond (Nat.beq pc 16) (some (.bipush 16, 2)) none)) (cond (Nat.blt pc 21) (cond (Nat.beq pc 18) (some (.if_icmp .ge 45, 3)) none) (cond (Nat.beq pc 21) (some (.aload_n 0, 1)) none))) (cond (Nat.blt pc 27) (cond (Nat.blt pc 25) (cond (Nat.beq pc 22) (some (.getfield 29, 3)) none) (cond (Nat.beq pc 25) (some (.iload 4, 2)) none)) (cond (Nat.blt pc 28) (cond (Nat.beq pc 27) (some (.iaload, 1)) none) (cond (Nat.blt pc 29) (cond (Nat.beq pc 28) (some (.iconst 2, 1)) none) (cond (Nat.beq pc 29) (some (.if_icmp .ne 28, 3)) none)))))) (cond (Nat.blt pc 47) (cond (Nat.blt pc 39) (cond (Nat.blt pc 36) (cond (Nat.blt pc 33) (cond (Nat.beq pc 32) (some (.aload_n 0, 1)) none) (cond (Nat.beq pc 33) (some (.getfield 32, 3)) none)) (cond (Nat.blt pc 38) (cond (Nat.beq pc 36) (some (.iload 4, 2)) none) (cond (Nat.beq pc 38) (some (.iaload, 1)) none))) (cond (Nat.blt pc 43) (cond (Nat.blt pc 40) (cond (Nat.beq pc 39) (some (.iload_n 1, 1)) none) (cond (Nat.beq pc 40) (some (.if_icmp .ne 17, 3)) none)) (cond (Nat.blt pc 44) (cond (Nat.beq pc 43) (some (.aload_n 0, 1)) none) (cond (Nat.beq pc 44) (some (.getfield 50, 3)) none)))) (cond (Nat.blt pc 54) (cond (Nat.blt pc 50) (cond (Nat.blt pc 49) (cond (Nat.beq pc 47) (some (.iload 4, 2)) none) (cond (Nat.beq pc 49) (some (.iaload, 1)) none)) (cond (Nat.blt pc 51) (cond (Nat.beq pc 50) (some (.iload_n 2, 1)) none) (cond (Nat.beq pc 51) (some (.if_icmp .ne 6, 3)) none))) (cond (Nat.blt pc 60) (cond (Nat.blt pc 57) (cond (Nat.beq pc 54) (some (.iinc 3 1, 3)) none) (cond (Nat.beq pc 57) (some (.iinc 4 1, 3)) none)) (cond (Nat.blt pc 63) (cond (Nat.beq pc 60) (some (.goto (-55), 3)) none) (cond (Nat.blt pc 64) (cond (Nat.beq pc 63) (some (.iload_n 3, 1)) none) (cond (Nat.beq pc 64) (some (.ireturn, 1)) none))))))) none
def cd_27 : Nat → Option (Instr × Nat) := fun pc => cond (Nat.blt pc 118) (cond (Nat.blt pc 59) (cond (Nat.blt pc 29) (cond (Nat.blt pc 13) (cond (Nat.blt pc 6) (cond (Nat.blt pc 4) (cond (Nat.blt pc 1) (cond (Nat.beq pc 0) (some (.aload_n 0, 1)) none) (cond (Nat.beq pc 1) (some (.getfield 13, 3)) none)) (cond (Nat.blt pc 5) (cond (Nat.beq pc 4) (some (.iload_n 2, 1)) none) (cond (Nat.beq pc 5) (some (.iaload, 1)) none))) (cond (Nat.blt pc 8) (cond (Nat.blt pc 7) (cond (Nat.beq pc 6) (some (.istore_n 3, 1)) none) (cond (Nat.beq pc 7) (some (.aload_n 0, 1)) none)) (cond (Nat.blt pc 11) (cond (Nat.beq pc 8) (some (.getfield 17, 3)) none) (cond (Nat.blt pc 12) (cond (Nat.beq pc 11) (some (.iload_n 2, 1)) none) (cond (Nat.beq pc 12) (some (.iaload, 1)) none))))) (cond (Nat.blt pc 24) (cond (Nat.blt pc 16) (cond (Nat.blt pc 15) (cond (Nat.beq pc 13) (some (.istore 4, 2)) none) (cond (Nat.beq pc 15) (some (.iload_n 3, 1)) none)) (cond (Nat.blt pc 19) (cond (Nat.beq pc 16) (some (.ifCond .le 8, 3)) none) (cond (Nat.blt pc 21) (cond (Nat.beq pc 19) (some (.iload 4, 2)) none) (cond (Nat.beq pc 21) (some (.ifCond .gt 5, 3)) none)))) (cond (Nat.blt pc 26) (cond (Nat.blt pc 25) (cond (Nat.beq pc 24) (some (.iconst (-1), 1)) none) (cond (Nat.beq pc 25) (some (.ireturn, 1)) none)) (cond (Nat.blt pc 27) (cond (Nat.beq pc 26) (some (.aload_n 0, 1)) none) (cond (Nat.blt pc 28) (cond (Nat.beq pc 27) (some (.iload_n 2, 1)) none) (cond (Nat.beq pc 28) (some (.iconst 0, 1)) none)))))) (cond (Nat.blt pc 43) (cond (Nat.blt pc 37) (cond (Nat.blt pc 33) (cond (Nat.blt pc 32) (cond (Nat.beq pc 29) (some (.invokevirtual 105, 3)) none) (cond (Nat.beq pc 32) (some (.aload_n 0, 1)) none)) (cond (Nat.blt pc 36) (cond (Nat.beq pc 33) (some (.getfield 35, 3)) none) (cond (Nat.beq pc 36) (some (.iload_n 1, 1)) none))) (cond (Nat.blt pc 39) (cond (Nat.blt pc 38) (cond (Nat.beq pc 37) (some (.iaload, 1)) none) (cond (Nat.beq pc 38) (some (.iadd, 1)) none)) (cond (Nat.blt pc 41) (cond (Nat.beq pc 39) (some (.istore 5, 2)) none) (cond (Nat.blt pc 42) (cond (Nat.beq pc 41) (some (.aload_n 0, 1)) none) (cond (Nat.beq pc 42) (some (.iload_n 2, 1)) none))))) (cond (Nat.blt pc 52) (cond (Nat.blt pc 47) (cond (Nat.blt pc 44) (cond (Nat.beq pc 43) (some (.iconst 1, 1)) none) (cond (Nat.beq pc 44) (some (.invokevirtual 105, 3)) none)) (cond (Nat.blt pc 48) (cond (Nat.beq pc 47) (some (.aload_n 0, 1)) none) (cond (Nat.blt pc 51) (cond (Nat.beq pc 48) (some (.getfield 38, 3)) none) (cond (Nat.beq pc 51) (some (.iload_n 1, 1)) none)))) (cond (Nat.blt pc 54) (cond (Nat.blt pc 53) (cond (Nat.beq pc 52) (some (.iaload, 1)) none) (cond (Nat.beq pc 53) (some (.iadd, 1)) none)) (cond (Nat.blt pc 56) (cond (Nat.beq pc 54) (some (.istore 6, 2)) none) (cond (Nat.blt pc 57) (cond (Nat.beq pc 56) (some (.iload_n 3, 1)) none) (cond (Nat.beq pc 57) (some (.iload 5, 2)) none))))))) (cond (Nat.blt pc 86) (cond (Nat.blt pc 72) (cond (Nat.blt pc 64) (cond (Nat.blt pc 62) (cond (Nat.blt pc 60) (cond (Nat.beq pc 59) (some (.isub, 1)) none) (cond (Nat.beq pc 60) (some (.bipush 100, 2)) none)) (cond (Nat.blt pc 63) (cond (Nat.beq pc 62) (some (.imul, 1)) none) (cond (Nat.beq pc 63) (some (.iload_n 3, 1)) none))) (cond (Nat.blt pc 67) (cond (Nat.blt pc 65) (cond (Nat.beq pc 64) (some (.idiv, 1)) none) (cond (Nat.beq pc 65) (some (.iload 4, 2)) none)) (cond (Nat.blt pc 69) (cond (Nat.beq pc 67) (some (.iload 6, 2)) none) (cond (Nat.blt pc 70) (cond (Nat.beq pc 69) (some (.isub, 1)) none) (cond (Nat.beq pc 70) (some (.bipush 100, 2)) none))))) (cond (Nat.blt pc 78) (cond (Nat.blt pc 75) (cond (Nat.blt pc 73) (cond (Nat.beq pc 72) (some (.imul, 1)) none) (cond (Nat.beq pc 73) (some (.iload 4, 2)) none)) (cond (Nat.blt pc 76) (cond (Nat.beq pc 75) (some (.idiv, 1)) none) (cond (Nat.blt pc 77) (cond (Nat.beq pc 76) (some (.iadd, 1)) none) (cond (Nat.beq pc 77) (some (.iconst 2, 1)) none)))) (cond (Nat.blt pc 81) (cond (Nat.blt pc 79) (cond (Nat.beq pc 78) (some (.idiv, 1)) none) (cond (Nat.beq pc 79) (some (.istore 7, 2)) none)) (cond (Nat.blt pc 83) (cond (Nat.beq pc 81) (some (.iload 5, 2)) none) (cond (Nat.blt pc 85) (cond (Nat.beq pc 83) (some (.bipush 100, 2)) none) (cond (Nat.beq pc 85) (some (.imul, 1)) none)))))) (cond (Nat.blt pc 101) (cond (Nat.blt pc 93) (cond (Nat.blt pc 88) (cond (Nat.blt pc 87) (cond (Nat.beq pc 86) (some (.iload_n 3, 1)) none) (cond (Nat.beq pc 87) (some (.idiv, 1)) none)) (cond (Nat.blt pc 90) (cond (Nat.beq pc 88) (some (.iload 6, 2)) none) (cond (Nat.blt pc 92) (cond (Nat.beq pc 90) (some (.bipush 100, 2)) none) (cond (Nat.beq pc 92) (some (.imul, 1)) none)))) (cond (Nat.blt pc 96) (cond (Nat.blt pc 95) (cond (Nat.beq pc 93) (some (.iload 4, 2)) none) (cond (Nat.beq pc 95) (some (.idiv, 1)) none)) (cond (Nat.blt pc 97) (cond (Nat.beq pc 96) (some (.isub, 1)) none) (cond (Nat.blt pc 99) (cond (Nat.beq pc 97) (some (.istore 8, 2)) none) (cond (Nat.beq pc 99) (some (.iload 8, 2)) none))))) (cond (Nat.blt pc 111) (cond (Nat.blt pc 106) (cond (Nat.blt pc 104) (cond (Nat.beq pc 101) (some (.ifCond .ge 8, 3)) none) (cond (Nat.beq pc 104) (some (.iload 8, 2)) none)) (cond (Nat.blt pc 107) (cond (Nat.beq pc 106) (some (.ineg, 1)) none) (cond (Nat.blt pc 109) (cond (Nat.beq pc 107) (some (.istore 8, 2)) none) (cond (Nat.beq pc 109) (some (.iload 7, 2)) none)))) (cond (Nat.blt pc 115) (cond (Nat.blt pc 113) (cond (Nat.beq pc 111) (some (.bipush 100, 2)) none) (cond (Nat.beq pc 113) (some (.iload 8, 2)) none)) (cond (Nat.blt pc 116) (cond (Nat.beq pc 115) (some (.isub, 1)) none) (cond (Nat.blt pc 117) (cond (Nat.beq pc 116) (some (.iadd, 1)) none) (cond (Nat.beq pc 117) (some (.ireturn, 1)) none)))))))) none
def cd_28 : Nat → Option (Instr × Nat) := fun pc => cond (Nat.blt pc 15) (cond (Nat.blt pc 7) (cond (Nat.blt pc 4) (cond (Nat.blt pc 1) (cond (Nat.beq pc 0) (some (.aload_n 0, 1)) none) (cond (Nat.beq pc 1) (some (.getfield 29, 3)) none)) (cond (Nat.blt pc 5) (cond (Nat.beq pc 4) (some (.iload_n 1, 1)) none) (cond (Nat.blt pc 6) (cond (Nat.beq pc 5) (some (.iconst 2, 1)) none) (cond (Nat.beq pc 6) (some (.iastore, 1)) none)))) (cond (Nat.blt pc 12) (cond (Nat.blt pc 8) (cond (Nat.beq pc 7) (some (.aload_n 0, 1)) none) (cond (Nat.blt pc 11) (cond (Nat.beq pc 8) (some (.getfield 32, 3)) none) (cond (Nat.beq pc 11) (some (.iload_n 1, 1)) none))) (cond (Nat.blt pc 13) (cond (Nat.beq pc 12) (some (.iload_n 2, 1)) none) (cond (Nat.blt pc 14) (cond (Nat.beq pc 13) (some (.iastore, 1)) none) (cond (Nat.beq pc 14) (some (.return_, 1)) none))))) none
def cd_29 : Nat → Option (Instr × Nat) := fun pc => cond (Nat.blt pc 27) (cond (Nat.blt pc 14) (cond (Nat.blt pc 8) (cond (Nat.blt pc 2) (cond (Nat.blt pc 1) (cond (Nat.beq pc 0) (some (.aload_n 0, 1)) none) (cond (Nat.beq pc 1) (some (.iload_n 1, 1)) none)) (cond (Nat.blt pc 5) (cond (Nat.beq pc 2) (some (.invokevirtual 98, 3)) none) (cond (Nat.beq pc 5) (some (.ifCond .eq 13, 3)) none))) (cond (Nat.blt pc 12) (cond (Nat.blt pc 9) (cond (Nat.beq pc 8) (some (.aload_n 0, 1)) none) (cond (Nat.beq pc 9) (some (.getfield 29, 3)) none)) (cond (Nat.blt pc 13) (cond (Nat.beq pc 12) (some (.iload_n 1, 1)) none) (cond (Nat.beq pc 13) (some (.iaload, 1)) none)))) (cond (Nat.blt pc 20) (cond (Nat.blt pc 18) (cond (Nat.blt pc 15) (cond (Nat.beq pc 14) (some (.iconst 2, 1)) none) (cond (Nat.beq pc 15) (some (.if_icmp .eq 5, 3)) none)) (cond (Nat.blt pc 19) (cond (Nat.beq pc 18) (some (.iconst (-1), 1)) none) (cond (Nat.beq pc 19) (some (.ireturn, 1)) none))) (cond (Nat.blt pc 24) (cond (Nat.blt pc 21) (cond (Nat.beq pc 20) (some (.aload_n 0, 1)) none) (cond (Nat.beq pc 21) (some (.getfield 32, 3)) none)) (cond (Nat.blt pc 25) (cond (Nat.beq pc 24) (some (.iload_n 1, 1)) none) (cond (Nat.blt pc 26) (cond (Nat.beq pc 25) (some (.iaload, 1)) none) (cond (Nat.beq pc 26) (some (.ireturn, 1)) none)))))) none
def cd_30 : Nat → Option (Instr × Nat) := fun pc => cond (Nat.blt pc 377) (cond (Nat.blt pc 188) (cond (Nat.blt pc 97) (cond (Nat.blt pc 45) (cond (Nat.blt pc 25) (cond (Nat.blt pc 11) (cond (Nat.blt pc 5) (cond (Nat.blt pc 1) (cond (Nat.beq pc 0) (some (.iconst 0, 1)) none) (cond (Nat.blt pc 3) (cond (Nat.beq pc 1) (some (.istore 4, 2)) none) (cond (Nat.beq pc 3) (some (.iload 4, 2)) none))) (cond (Nat.blt pc 7) (cond (Nat.beq pc 5) (some (.bipush 16, 2)) none) (cond (Nat.blt pc 10) (cond (Nat.beq pc 7) (some (.if_icmp .ge 17, 3)) none) (cond (Nat.beq pc 10) (some (.aload_n 0, 1)) none)))) (cond (Nat.blt pc 17) (cond (Nat.blt pc 14) (cond (Nat.beq pc 11) (some (.getfield 65, 3)) none) (cond (Nat.blt pc 16) (cond (Nat.beq pc 14) (some (.iload 4, 2)) none) (cond (Nat.beq pc 16) (some (.iconst 0, 1)) none))) (cond (Nat.blt pc 21) (cond (Nat.blt pc 18) (cond (Nat.beq pc 17) (some (.iastore, 1)) none) (cond (Nat.beq pc 18) (some (.iinc 4 1, 3)) none)) (cond (Nat.blt pc 24) (cond (Nat.beq pc 21) (some (.goto (-18), 3)) none) (cond (Nat.beq pc 24) (some (.iconst 0, 1)) none))))) (cond (Nat.blt pc 34) (cond (Nat.blt pc 30) (cond (Nat.blt pc 27) (cond (Nat.beq pc 25) (some (.istore 4, 2)) none) (cond (Nat.blt pc 28) (cond (Nat.beq pc 27) (some (.iconst (-1), 1)) none) (cond (Nat.beq pc 28) (some (.istore 5, 2)) none))) (cond (Nat.blt pc 31) (cond (Nat.beq pc 30) (some (.iconst 0, 1)) none) (cond (Nat.blt pc 33) (cond (Nat.beq pc 31) (some (.istore 6, 2)) none) (cond (Nat.beq pc 33) (some (.iconst 0, 1)) none)))) (cond (Nat.blt pc 39) (cond (Nat.blt pc 36) (cond (Nat.beq pc 34) (some (.istore 7, 2)) none) (cond (Nat.blt pc 37) (cond (Nat.beq pc 36) (some (.iconst 0, 1)) none) (cond (Nat.beq pc 37) (some (.istore 8, 2)) none))) (cond (Nat.blt pc 42) (cond (Nat.blt pc 40) (cond (Nat.beq pc 39) (some (.iconst 0, 1)) none) (cond (Nat.beq pc 40) (some (.istore 9, 2)) none)) (cond (Nat.blt pc 43) (cond (Nat.beq pc 42) (some (.iconst 0, 1)) none) (cond (Nat.beq pc 43) (some (.istore 10, 2)) none)))))) (cond (Nat.blt pc 70) (cond (Nat.blt pc 58) (cond (Nat.blt pc 51) (cond (Nat.blt pc 47) (cond (Nat.beq pc 45) (some (.iload 10, 2)) none) (cond (Nat.blt pc 48) (cond (Nat.beq pc 47) (some (.aload_n 0, 1)) none) (cond (Nat.beq pc 48) (some (.getfield 163, 3)) none))) (cond (Nat.blt pc 54) (cond (Nat.beq pc 51) (some (.if_icmp .ge 125, 3)) none) (cond (Nat.blt pc 56) (cond (Nat.beq pc 54) (some (.iload 10, 2)) none) (cond (Nat.beq pc 56) (some (.bipush 16, 2)) none)))) (cond (Nat.blt pc 64) (cond (Nat.blt pc 61) (cond (Nat.beq pc 58) (some (.if_icmp .ge 118, 3)) none) (cond (Nat.blt pc 62) (cond (Nat.beq pc 61) (some (.iload_n 3, 1)) none) (cond (Nat.beq pc 62) (some (.iload 10, 2)) none))) (cond (Nat.blt pc 66) (cond (Nat.blt pc 65) (cond (Nat.beq pc 64) (some (.ishr, 1)) none) (cond (Nat.beq pc 65) (some (.iconst 1, 1)) none)) (cond (Nat.blt pc 67) (cond (Nat.beq pc 66) (some (.iand, 1)) none) (cond (Nat.beq pc 67) (some (.ifCond .ne 6, 3)) none))))) (cond (Nat.blt pc 85) (cond (Nat.blt pc 77) (cond (Nat.blt pc 73) (cond (Nat.beq pc 70) (some (.goto 100, 3)) none) (cond (Nat.blt pc 74) (cond (Nat.beq pc 73) (some (.aload_n 0, 1)) none) (cond (Nat.beq pc 74) (some (.getfield 59, 3)) none))) (cond (Nat.blt pc 80) (cond (Nat.blt pc 79) (cond (Nat.beq pc 77) (some (.iload 10, 2)) none) (cond (Nat.beq pc 79) (some (.iaload, 1)) none)) (cond (Nat.blt pc 82) (cond (Nat.beq pc 80) (some (.istore 11, 2)) none) (cond (Nat.beq pc 82) (some (.iinc 4 1, 3)) none)))) (cond (Nat.blt pc 91) (cond (Nat.blt pc 87) (cond (Nat.beq pc 85) (some (.iload 6, 2)) none) (cond (Nat.blt pc 88) (cond (Nat.beq pc 87) (some (.aload_n 0, 1)) none) (cond (Nat.beq pc 88) (some (.getfield 41, 3)) none))) (cond (Nat.blt pc 94) (cond (Nat.blt pc 93) (cond (Nat.beq pc 91) (some (.iload 11, 2)) none) (cond (Nat.beq pc 93) (some (.iaload, 1)) none)) (cond (Nat.blt pc 95) (cond (Nat.beq pc 94) (some (.iadd, 1)) none) (cond (Nat.beq pc 95) (some (.istore 6, 2)) none))))))) (cond (Nat.blt pc 144) (cond (Nat.blt pc 121) (cond (Nat.blt pc 109) (cond (Nat.blt pc 103) (cond (Nat.blt pc 98) (cond (Nat.beq pc 97) (some (.aload_n 0, 1)) none) (cond (Nat.blt pc 101) (cond (Nat.beq pc 98) (some (.getfield 41, 3)) none) (cond (Nat.beq pc 101) (some (.iload 11, 2)) none))) (cond (Nat.blt pc 104) (cond (Nat.beq pc 103) (some (.iaload, 1)) none) (cond (Nat.blt pc 106) (cond (Nat.beq pc 104) (some (.iload 5, 2)) none) (cond (Nat.beq pc 106) (some (.if_icmp .le 12, 3)) none)))) (cond (Nat.blt pc 115) (cond (Nat.blt pc 110) (cond (Nat.beq pc 109) (some (.aload_n 0, 1)) none) (cond (Nat.blt pc 113) (cond (Nat.beq pc 110) (some (.getfield 41, 3)) none) (cond (Nat.beq pc 113) (some (.iload 11, 2)) none))) (cond (Nat.blt pc 118) (cond (Nat.blt pc 116) (cond (Nat.beq pc 115) (some (.iaload, 1)) none) (cond (Nat.beq pc 116) (some (.istore 5, 2)) none)) (cond (Nat.blt pc 120) (cond (Nat.beq pc 118) (some (.iload 7, 2)) none) (cond (Nat.beq pc 120) (some (.aload_n 0, 1)) none))))) (cond (Nat.blt pc 132) (cond (Nat.blt pc 127) (cond (Nat.blt pc 124) (cond (Nat.beq pc 121) (some (.getfield 35, 3)) none) (cond (Nat.blt pc 126) (cond (Nat.beq pc 124) (some (.iload 11, 2)) none) (cond (Nat.beq pc 126) (some (.iaload, 1)) none))) (cond (Nat.blt pc 128) (cond (Nat.beq pc 127) (some (.iadd, 1)) none) (cond (Nat.blt pc 130) (cond (Nat.beq pc 128) (some (.istore 7, 2)) none) (cond (Nat.beq pc 130) (some (.iload 8, 2)) none)))) (cond (Nat.blt pc 138) (cond (Nat.blt pc 133) (cond (Nat.beq pc 132) (some (.aload_n 0, 1)) none) (cond (Nat.blt pc 136) (cond (Nat.beq pc 133) (some (.getfield 38, 3)) none) (cond (Nat.beq pc 136) (some (.iload 11, 2)) none))) (cond (Nat.blt pc 140) (cond (Nat.blt pc 139) (cond (Nat.beq pc 138) (some (.iaload, 1)) none) (cond (Nat.beq pc 139) (some (.iadd, 1)) none)) (cond (Nat.blt pc 142) (cond (Nat.beq pc 140) (some (.istore 8, 2)) none) (cond (Nat.beq pc 142) (some (.iload 9, 2)) none)))))) (cond (Nat.blt pc 165) (cond (Nat.blt pc 152) (cond (Nat.blt pc 148) (cond (Nat.blt pc 145) (cond (Nat.beq pc 144) (some (.iconst 1, 1)) none) (cond (Nat.blt pc 147) (cond (Nat.beq pc 145) (some (.iload 11, 2)) none) (cond (Nat.beq pc 147) (some (.ishl, 1)) none))) (cond (Nat.blt pc 149) (cond (Nat.beq pc 148) (some (.iadd, 1)) none) (cond (Nat.blt pc 151) (cond (Nat.beq pc 149) (some (.istore 9, 2)) none) (cond (Nat.beq pc 151) (some (.aload_n 0, 1)) none)))) (cond (Nat.blt pc 159) (cond (Nat.blt pc 155) (cond (Nat.beq pc 152) (some (.getfield 65, 3)) none) (cond (Nat.blt pc 156) (cond (Nat.beq pc 155) (some (.aload_n 0, 1)) none) (cond (Nat.beq pc 156) (some (.getfield 50, 3)) none))) (cond (Nat.blt pc 162) (cond (Nat.blt pc 161) (cond (Nat.beq pc 159) (some (.iload 11, 2)) none) (cond (Nat.beq pc 161) (some (.iaload, 1)) none)) (cond (Nat.blt pc 164) (cond (Nat.beq pc 162) (some (.bipush 15, 2)) none) (cond (Nat.beq pc 164) (some (.iand, 1)) none))))) (cond (Nat.blt pc 176) (cond (Nat.blt pc 168) (cond (Nat.blt pc 166) (cond (Nat.beq pc 165) (some (.dup2, 1)) none) (cond (Nat.blt pc 167) (cond (Nat.beq pc 166) (some (.iaload, 1)) none) (cond (Nat.beq pc 167) (some (.iconst 1, 1)) none))) (cond (Nat.blt pc 170) (cond (Nat.blt pc 169) (cond (Nat.beq pc 168) (some (.iadd, 1)) none) (cond (Nat.beq pc 169) (some (.iastore, 1)) none)) (cond (Nat.blt pc 173) (cond (Nat.beq pc 170) (some (.iinc 10 1, 3)) none) (cond (Nat.beq pc 173) (some (.goto (-128), 3)) none)))) (cond (Nat.blt pc 182) (cond (Nat.blt pc 177) (cond (Nat.beq pc 176) (some (.aload_n 0, 1)) none) (cond (Nat.blt pc 180) (cond (Nat.beq pc 177) (some (.getfield 151, 3)) none) (cond (Nat.beq pc 180) (some (.iload 7, 2)) none))) (cond (Nat.blt pc 184) (cond (Nat.blt pc 183) (cond (Nat.beq pc 182) (some (.isub, 1)) none) (cond (Nat.beq pc 183) (some (.aload_n 0, 1)) none)) (cond (Nat.blt pc 187) (cond (Nat.beq pc 184) (some (.getfield 35, 3)) none) (cond (Nat.beq pc 187) (some (.iload_n 1, 1)) none)))))))) (cond (Nat.blt pc 274) (cond (Nat.blt pc 230) (cond (Nat.blt pc 210) (cond (Nat.blt pc 196) (cond (Nat.blt pc 191) (cond (Nat.blt pc 189) (cond (Nat.beq pc 188) (some (.iaload, 1)) none) (cond (Nat.blt pc 190) (cond (Nat.beq pc 189) (some (.iadd, 1)) none) (cond (Nat.beq pc 190) (some (.aload_n 0, 1)) none))) (cond (Nat.blt pc 194) (cond (Nat.beq pc 191) (some (.getfield 13, 3)) none) (cond (Nat.blt pc 195) (cond (Nat.beq pc 194) (some (.iload_n 2, 1)) none) (cond (Nat.beq pc 195) (some (.iaload, 1)) none)))) (cond (Nat.blt pc 203) (cond (Nat.blt pc 199) (cond (Nat.beq pc 196) (some (.if_icmp .gt 26, 3)) none) (cond (Nat.blt pc 200) (cond (Nat.beq pc 199) (some (.aload_n 0, 1)) none) (cond (Nat.beq pc 200) (some (.getfield 154, 3)) none))) (cond (Nat.blt pc 206) (cond (Nat.blt pc 205) (cond (Nat.beq pc 203) (some (.iload 8, 2)) none) (cond (Nat.beq pc 205) (some (.isub, 1)) none)) (cond (Nat.blt pc 207) (cond (Nat.beq pc 206) (some (.aload_n 0, 1)) none) (cond (Nat.beq pc 207) (some (.getfield 38, 3)) none))))) (cond (Nat.blt pc 218) (cond (Nat.blt pc 213) (cond (Nat.blt pc 211) (cond (Nat.beq pc 210) (some (.iload_n 1, 1)) none) (cond (Nat.blt pc 212) (cond (Nat.beq pc 211) (some (.iaload, 1)) none) (cond (Nat.beq pc 212) (some (.iadd, 1)) none))) (cond (Nat.blt pc 214) (cond (Nat.beq pc 213) (some (.aload_n 0, 1)) none) (cond (Nat.blt pc 217) (cond (Nat.beq pc 214) (some (.getfield 17, 3)) none) (cond (Nat.beq pc 217) (some (.iload_n 2, 1)) none)))) (cond (Nat.blt pc 223) (cond (Nat.blt pc 219) (cond (Nat.beq pc 218) (some (.iaload, 1)) none) (cond (Nat.blt pc 222) (cond (Nat.beq pc 219) (some (.if_icmp .le 4, 3)) none) (cond (Nat.beq pc 222) (some (.return_, 1)) none))) (cond (Nat.blt pc 227) (cond (Nat.blt pc 224) (cond (Nat.beq pc 223) (some (.aload_n 0, 1)) none) (cond (Nat.beq pc 224) (some (.getfield 157, 3)) none)) (cond (Nat.blt pc 229) (cond (Nat.beq pc 227) (some (.iload 4, 2)) none) (cond (Nat.beq pc 229) (some (.isub, 1)) none)))))) (cond (Nat.blt pc 251) (cond (Nat.blt pc 238) (cond (Nat.blt pc 233) (cond (Nat.blt pc 231) (cond (Nat.beq pc 230) (some (.iconst 1, 1)) none) (cond (Nat.blt pc 232) (cond (Nat.beq pc 231) (some (.iadd, 1)) none) (cond (Nat.beq pc 232) (some (.aload_n 0, 1)) none))) (cond (Nat.blt pc 236) (cond (Nat.beq pc 233) (some (.getfield 20, 3)) none) (cond (Nat.blt pc 237) (cond (Nat.beq pc 236) (some (.iload_n 2, 1)) none) (cond (Nat.beq pc 237) (some (.iaload, 1)) none)))) (cond (Nat.blt pc 243) (cond (Nat.blt pc 241) (cond (Nat.beq pc 238) (some (.if_icmp .le 4, 3)) none) (cond (Nat.blt pc 242) (cond (Nat.beq pc 241) (some (.return_, 1)) none) (cond (Nat.beq pc 242) (some (.aload_n 0, 1)) none))) (cond (Nat.blt pc 247) (cond (Nat.blt pc 246) (cond (Nat.beq pc 243) (some (.getfield 50, 3)) none) (cond (Nat.beq pc 246) (some (.iload_n 1, 1)) none)) (cond (Nat.blt pc 248) (cond (Nat.beq pc 247) (some (.iaload, 1)) none) (cond (Nat.beq pc 248) (some (.ifCond .eq 26, 3)) none))))) (cond (Nat.blt pc 264) (cond (Nat.blt pc 256) (cond (Nat.blt pc 252) (cond (Nat.beq pc 251) (some (.aload_n 0, 1)) none) (cond (Nat.blt pc 255) (cond (Nat.beq pc 252) (some (.getfield 160, 3)) none) (cond (Nat.beq pc 255) (some (.aload_n 0, 1)) none))) (cond (Nat.blt pc 260) (cond (Nat.blt pc 259) (cond (Nat.beq pc 256) (some (.getfield 65, 3)) none) (cond (Nat.beq pc 259) (some (.aload_n 0, 1)) none)) (cond (Nat.blt pc 263) (cond (Nat.beq pc 260) (some (.getfield 50, 3)) none) (cond (Nat.beq pc 263) (some (.iload_n 1, 1)) none)))) (cond (Nat.blt pc 268) (cond (Nat.blt pc 265) (cond (Nat.beq pc 264) (some (.iaload, 1)) none) (cond (Nat.blt pc 267) (cond (Nat.beq pc 265) (some (.bipush 15, 2)) none) (cond (Nat.beq pc 267) (some (.iand, 1)) none))) (cond (Nat.blt pc 270) (cond (Nat.blt pc 269) (cond (Nat.beq pc 268) (some (.iaload, 1)) none) (cond (Nat.beq pc 269) (some (.isub, 1)) none)) (cond (Nat.blt pc 273) (cond (Nat.beq pc 270) (some (.ifCond .le 4, 3)) none) (cond (Nat.beq pc 273) (some (.return_, 1)) none))))))) (cond (Nat.blt pc 326) (cond (Nat.blt pc 300) (cond (Nat.blt pc 285) (cond (Nat.blt pc 279) (cond (Nat.blt pc 275) (cond (Nat.beq pc 274) (some (.iconst 1, 1)) none) (cond (Nat.blt pc 277) (cond (Nat.beq pc 275) (some (.istore 10, 2)) none) (cond (Nat.beq pc 277) (some (.iload 10, 2)) none))) (cond (Nat.blt pc 281) (cond (Nat.beq pc 279) (some (.bipush 16, 2)) none) (cond (Nat.blt pc 284) (cond (Nat.beq pc 281) (some (.if_icmp .ge 45, 3)) none) (cond (Nat.beq pc 284) (some (.aload_n 0, 1)) none)))) (cond (Nat.blt pc 291) (cond (Nat.blt pc 288) (cond (Nat.beq pc 285) (some (.getfield 65, 3)) none) (cond (Nat.blt pc 290) (cond (Nat.beq pc 288) (some (.iload 10, 2)) none) (cond (Nat.beq pc 290) (some (.iaload, 1)) none))) (cond (Nat.blt pc 295) (cond (Nat.blt pc 294) (cond (Nat.beq pc 291) (some (.ifCond .le 29, 3)) none) (cond (Nat.beq pc 294) (some (.aload_n 0, 1)) none)) (cond (Nat.blt pc 298) (cond (Nat.beq pc 295) (some (.getfield 62, 3)) none) (cond (Nat.beq pc 298) (some (.iload 10, 2)) none))))) (cond (Nat.blt pc 310) (cond (Nat.blt pc 305) (cond (Nat.blt pc 301) (cond (Nat.beq pc 300) (some (.iaload, 1)) none) (cond (Nat.blt pc 302) (cond (Nat.beq pc 301) (some (.aload_n 0, 1)) none) (cond (Nat.beq pc 302) (some (.getfield 65, 3)) none))) (cond (Nat.blt pc 308) (cond (Nat.blt pc 307) (cond (Nat.beq pc 305) (some (.iload 10, 2)) none) (cond (Nat.beq pc 307) (some (.iaload, 1)) none)) (cond (Nat.blt pc 309) (cond (Nat.beq pc 308) (some (.isub, 1)) none) (cond (Nat.beq pc 309) (some (.aload_n 0, 1)) none)))) (cond (Nat.blt pc 316) (cond (Nat.blt pc 313) (cond (Nat.beq pc 310) (some (.getfield 56, 3)) none) (cond (Nat.blt pc 315) (cond (Nat.beq pc 313) (some (.iload 10, 2)) none) (cond (Nat.beq pc 315) (some (.iaload, 1)) none))) (cond (Nat.blt pc 320) (cond (Nat.blt pc 319) (cond (Nat.beq pc 316) (some (.if_icmp .ge 4, 3)) none) (cond (Nat.beq pc 319) (some (.return_, 1)) none)) (cond (Nat.blt pc 323) (cond (Nat.beq pc 320) (some (.iinc 10 1, 3)) none) (cond (Nat.beq pc 323) (some (.goto (-46), 3)) none)))))) (cond (Nat.blt pc 350) (cond (Nat.blt pc 336) (cond (Nat.blt pc 331) (cond (Nat.blt pc 327) (cond (Nat.beq pc 326) (some (.aload_n 0, 1)) none) (cond (Nat.blt pc 329) (cond (Nat.beq pc 327) (some (.iload 5, 2)) none) (cond (Nat.beq pc 329) (some (.iload 4, 2)) none))) (cond (Nat.blt pc 333) (cond (Nat.beq pc 331) (some (.iload 6, 2)) none) (cond (Nat.blt pc 334) (cond (Nat.beq pc 333) (some (.iload_n 2, 1)) none) (cond (Nat.beq pc 334) (some (.iload 9, 2)) none)))) (cond (Nat.blt pc 343) (cond (Nat.blt pc 339) (cond (Nat.beq pc 336) (some (.invokevirtual 170, 3)) none) (cond (Nat.blt pc 342) (cond (Nat.beq pc 339) (some (.ifCond .eq 37, 3)) none) (cond (Nat.beq pc 342) (some (.aload_n 0, 1)) none))) (cond (Nat.blt pc 347) (cond (Nat.blt pc 344) (cond (Nat.beq pc 343) (some (.iconst 1, 1)) none) (cond (Nat.beq pc 344) (some (.putfield 141, 3)) none)) (cond (Nat.blt pc 348) (cond (Nat.beq pc 347) (some (.aload_n 0, 1)) none) (cond (Nat.beq pc 348) (some (.iload 5, 2)) none))))) (cond (Nat.blt pc 365) (cond (Nat.blt pc 356) (cond (Nat.blt pc 353) (cond (Nat.beq pc 350) (some (.putfield 174, 3)) none) (cond (Nat.blt pc 354) (cond (Nat.beq pc 353) (some (.aload_n 0, 1)) none) (cond (Nat.beq pc 354) (some (.iload 4, 2)) none))) (cond (Nat.blt pc 360) (cond (Nat.blt pc 359) (cond (Nat.beq pc 356) (some (.putfield 177, 3)) none) (cond (Nat.beq pc 359) (some (.aload_n 0, 1)) none)) (cond (Nat.blt pc 362) (cond (Nat.beq pc 360) (some (.iload 6, 2)) none) (cond (Nat.beq pc 362) (some (.putfield 180, 3)) none)))) (cond (Nat.blt pc 370) (cond (Nat.blt pc 366) (cond (Nat.beq pc 365) (some (.aload_n 0, 1)) none) (cond (Nat.blt pc 367) (cond (Nat.beq pc 366) (some (.iload_n 2, 1)) none) (cond (Nat.beq pc 367) (some (.putfield 138, 3)) none))) (cond (Nat.blt pc 373) (cond (Nat.blt pc 371) (cond (Nat.beq pc 370) (some (.aload_n 0, 1)) none) (cond (Nat.beq pc 371) (some (.iload 9, 2)) none)) (cond (Nat.blt pc 376) (cond (Nat.beq pc 373) (some (.putfield 135, 3)) none) (cond (Nat.beq pc 376) (some (.return_, 1)) none))))))))) none
def cd_31 : Nat → Option (Instr × Nat) := fun pc => cond (Nat.blt pc 114) (cond (Nat.blt pc 54) (cond (Nat.blt pc 29) (cond (Nat.blt pc 11) (cond (Nat.blt pc 7) (cond (Nat.blt pc 1) (cond (Nat.beq pc 0) (some (.aload_n 0, 1)) none) (cond (Nat.blt pc 4) (cond (Nat.beq pc 1) (some (.getfield 141, 3)) none) (cond (Nat.beq pc 4) (some (.ifCond .ne 5, 3)) none))) (cond (Nat.blt pc 9) (cond (Nat.blt pc 8) (cond (Nat.beq pc 7) (some (.iconst 1, 1)) none) (cond (Nat.beq pc 8) (some (.ireturn, 1)) none)) (cond (Nat.blt pc 10) (cond (Nat.beq pc 9) (some (.iload_n 1, 1)) none) (cond (Nat.beq pc 10) (some (.aload_n 0, 1)) none)))) (cond (Nat.blt pc 19) (cond (Nat.blt pc 17) (cond (Nat.blt pc 14) (cond (Nat.beq pc 11) (some (.getfield 174, 3)) none) (cond (Nat.beq pc 14) (some (.if_icmp .eq 17, 3)) none)) (cond (Nat.blt pc 18) (cond (Nat.beq pc 17) (some (.iload_n 1, 1)) none) (cond (Nat.beq pc 18) (some (.aload_n 0, 1)) none))) (cond (Nat.blt pc 25) (cond (Nat.blt pc 22) (cond (Nat.beq pc 19) (some (.getfield 174, 3)) none) (cond (Nat.beq pc 22) (some (.if_icmp .ge 7, 3)) none)) (cond (Nat.blt pc 26) (cond (Nat.beq pc 25) (some (.iconst 1, 1)) none) (cond (Nat.beq pc 26) (some (.goto 4, 3)) none))))) (cond (Nat.blt pc 40) (cond (Nat.blt pc 32) (cond (Nat.blt pc 30) (cond (Nat.beq pc 29) (some (.iconst 0, 1)) none) (cond (Nat.blt pc 31) (cond (Nat.beq pc 30) (some (.ireturn, 1)) none) (cond (Nat.beq pc 31) (some (.iload_n 2, 1)) none))) (cond (Nat.blt pc 36) (cond (Nat.blt pc 33) (cond (Nat.beq pc 32) (some (.aload_n 0, 1)) none) (cond (Nat.beq pc 33) (some (.getfield 177, 3)) none)) (cond (Nat.blt pc 39) (cond (Nat.beq pc 36) (some (.if_icmp .eq 17, 3)) none) (cond (Nat.beq pc 39) (some (.iload_n 2, 1)) none)))) (cond (Nat.blt pc 48) (cond (Nat.blt pc 44) (cond (Nat.blt pc 41) (cond (Nat.beq pc 40) (some (.aload_n 0, 1)) none) (cond (Nat.beq pc 41) (some (.getfield 177, 3)) none)) (cond (Nat.blt pc 47) (cond (Nat.beq pc 44) (some (.if_icmp .ge 7, 3)) none) (cond (Nat.beq pc 47) (some (.iconst 1, 1)) none))) (cond (Nat.blt pc 52) (cond (Nat.blt pc 51) (cond (Nat.beq pc 48) (some (.goto 4, 3)) none) (cond (Nat.beq pc 51) (some (.iconst 0, 1)) none)) (cond (Nat.blt pc 53) (cond (Nat.beq pc 52) (some (.ireturn, 1)) none) (cond (Nat.beq pc 53) (some (.iload_n 3, 1)) none)))))) (cond (Nat.blt pc 84) (cond (Nat.blt pc 69) (cond (Nat.blt pc 61) (cond (Nat.blt pc 55) (cond (Nat.beq pc 54) (some (.aload_n 0, 1)) none) (cond (Nat.blt pc 58) (cond (Nat.beq pc 55) (some (.getfield 180, 3)) none) (cond (Nat.beq pc 58) (some (.if_icmp .eq 17, 3)) none))) (cond (Nat.blt pc 63) (cond (Nat.blt pc 62) (cond (Nat.beq pc 61) (some (.iload_n 3, 1)) none) (cond (Nat.beq pc 62) (some (.aload_n 0, 1)) none)) (cond (Nat.blt pc 66) (cond (Nat.beq pc 63) (some (.getfield 180, 3)) none) (cond (Nat.beq pc 66) (some (.if_icmp .ge 7, 3)) none)))) (cond (Nat.blt pc 75) (cond (Nat.blt pc 73) (cond (Nat.blt pc 70) (cond (Nat.beq pc 69) (some (.iconst 1, 1)) none) (cond (Nat.beq pc 70) (some (.goto 4, 3)) none)) (cond (Nat.blt pc 74) (cond (Nat.beq pc 73) (some (.iconst 0, 1)) none) (cond (Nat.beq pc 74) (some (.ireturn, 1)) none))) (cond (Nat.blt pc 78) (cond (Nat.blt pc 77) (cond (Nat.beq pc 75) (some (.iload 4, 2)) none) (cond (Nat.beq pc 77) (some (.aload_n 0, 1)) none)) (cond (Nat.blt pc 81) (cond (Nat.beq pc 78) (some (.getfield 138, 3)) none) (cond (Nat.beq pc 81) (some (.if_icmp .eq 18, 3)) none))))) (cond (Nat.blt pc 99) (cond (Nat.blt pc 93) (cond (Nat.blt pc 87) (cond (Nat.blt pc 86) (cond (Nat.beq pc 84) (some (.iload 4, 2)) none) (cond (Nat.beq pc 86) (some (.aload_n 0, 1)) none)) (cond (Nat.blt pc 90) (cond (Nat.beq pc 87) (some (.getfield 138, 3)) none) (cond (Nat.beq pc 90) (some (.if_icmp .ge 7, 3)) none))) (cond (Nat.blt pc 97) (cond (Nat.blt pc 94) (cond (Nat.beq pc 93) (some (.iconst 1, 1)) none) (cond (Nat.beq pc 94) (some (.goto 4, 3)) none)) (cond (Nat.blt pc 98) (cond (Nat.beq pc 97) (some (.iconst 0, 1)) none) (cond (Nat.beq pc 98) (some (.ireturn, 1)) none)))) (cond (Nat.blt pc 108) (cond (Nat.blt pc 102) (cond (Nat.blt pc 101) (cond (Nat.beq pc 99) (some (.iload 5, 2)) none) (cond (Nat.beq pc 101) (some (.aload_n 0, 1)) none)) (cond (Nat.blt pc 105) (cond (Nat.beq pc 102) (some (.getfield 135, 3)) none) (cond (Nat.beq pc 105) (some (.if_icmp .ge 7, 3)) none))) (cond (Nat.blt pc 112) (cond (Nat.blt pc 109) (cond (Nat.beq pc 108) (some (.iconst 1, 1)) none) (cond (Nat.beq pc 109) (some (.goto 4, 3)) none)) (cond (Nat.blt pc 113) (cond (Nat.beq pc 112) (some (.iconst 0, 1)) none) (cond (Nat.beq pc 113) (some (.ireturn, 1)) none))))))) none
def PPcode : CodeT := fun q pc => cond (Nat.blt q 32) (cond (Nat.blt q 16) (cond (Nat.blt q 8) (cond (Nat.blt q 4) (cond (Nat.blt q 2) (cond (Nat.blt q 1) (cond (Nat.beq q 0) (cd_0 pc) none) (cond (Nat.beq q 1) (cd_1 pc) none)) (cond (Nat.blt q 3) (cond (Nat.beq q 2) (cd_2 pc) none) (cond (Nat.beq q 3) (cd_3 pc) none))) (cond (Nat.blt q 6) (cond (Nat.blt q 5) (cond (Nat.beq q 4) (cd_4 pc) none) (cond (Nat.beq q 5) (cd_5 pc) none)) (cond (Nat.blt q 7) (cond (Nat.beq q 6) (cd_6 pc) none) (cond (Nat.beq q 7) (cd_7 pc) none)))) (cond (Nat.blt q 12) (cond (Nat.blt q 10) (cond (Nat.blt q 9) (cond (Nat.beq q 8) (cd_8 pc) none) (cond (Nat.beq q 9) (cd_9 pc) none)) (cond (Nat.blt q 11) (cond (Nat.beq q 10) (cd_10 pc) none) (cond (Nat.beq q 11) (cd_11 pc) none))) (cond (Nat.blt q 14) (cond (Nat.blt q 13) (cond (Nat.beq q 12) (cd_12 pc) none) (cond (Nat.beq q 13) (cd_13 pc) none)) (cond (Nat.blt q 15) (cond (Nat.beq q 14) (cd_14 pc) none) (cond (Nat.beq q 15) (cd_15 pc) none))))) (cond (Nat.blt q 24) (cond (Nat.blt q 20) (cond (Nat.blt q 18) (cond (Nat.blt q 17) (cond (Nat.beq q 16) (cd_16 pc) none) (cond (Nat.beq q 17) (cd_17 pc) none)) (cond (Nat.blt q 19) (cond (Nat.beq q 18) (cd_18 pc) none) (cond (Nat.beq q 19) (cd_19 pc) none))) (cond (Nat.blt q 22) (cond (Nat.blt q 21) (cond (Nat.beq q 20) (cd_20 pc) none) (cond (Nat.beq q 21) (cd_21 pc) none)) (cond (Nat.blt q 23) (cond (Nat.beq q 22) (cd_22 pc) none) (cond (Nat.beq q 23) (cd_23 pc) none)))) (cond (Nat.blt q 28) (cond (Nat.blt q 26) (cond (Nat.blt q 25) (cond (Nat.beq q 24) (cd_24 pc) none) (cond (Nat.beq q 25) (cd_25 pc) none)) (cond (Nat.blt q 27) (cond (Nat.beq q 26) (cd_26 pc) none) (cond (Nat.beq q 27) (cd_27 pc) none))) (cond (Nat.blt q 30) (cond (Nat.blt q 29) (cond (Nat.beq q 28) (cd_28 pc) none) (cond (Nat.beq q 29) (cd_29 pc) none)) (cond (Nat.blt q 31) (cond (Nat.beq q 30) (cd_30 pc) none) (cond (Nat.beq q 31) (cd_31 pc) none)))))) none
def PPfld : FldT := fun x => cond (Nat.blt x 181) (cond (Nat.blt x 62) (cond (Nat.blt x 35) (cond (Nat.blt x 23) (cond (Nat.blt x 17) (cond (Nat.blt x 13) (cond (Nat.beq x 7) (some (0, 0, 1, false)) none) (cond (Nat.beq x 13) (some (1, 0, 2, false)) none)) (cond (Nat.blt x 20) (cond (Nat.beq x 17) (some (2, 0, 3, false)) none) (cond (Nat.beq x 20) (some (3, 0, 4, false)) none))) (cond (Nat.blt x 29) (cond (Nat.blt x 26) (cond (Nat.beq x 23) (some (4, 0, 5, false)) none) (cond (Nat.beq x 26) (some (5, 0, 6, false)) none)) (cond (Nat.blt x 32) (cond (Nat.beq x 29) (some (6, 0, 7, false)) none) (cond (Nat.beq x 32) (some (7, 0, 8, false)) none)))) (cond (Nat.blt x 47) (cond (Nat.blt x 41) (cond (Nat.blt x 38) (cond (Nat.beq x 35) (some (8, 0, 9, false)) none) (cond (Nat.beq x 38) (some (9, 0, 10, false)) none)) (cond (Nat.blt x 44) (cond (Nat.beq x 41) (some (10, 0, 11, false)) none) (cond (Nat.beq x 44) (some (11, 0, 12, false)) none))) (cond (Nat.blt x 53) (cond (Nat.blt x 50) (cond (Nat.beq x 47) (some (12, 0, 13, false)) none) (cond (Nat.beq x 50) (some (13, 0, 14, false)) none)) (cond (Nat.blt x 56) (cond (Nat.beq x 53) (some (14, 0, 15, false)) none) (cond (Nat.blt x 59) (cond (Nat.beq x 56) (some (15, 0, 16, false)) none) (cond (Nat.beq x 59) (some (16, 0, 17, false)) none)))))) (cond (Nat.blt x 141) (cond (Nat.blt x 79) (cond (Nat.blt x 72) (cond (Nat.blt x 65) (cond (Nat.beq x 62) (some (17, 0, 18, false)) none) (cond (Nat.beq x 65) (some (18, 0, 19, false)) none)) (cond (Nat.blt x 76) (cond (Nat.beq x 72) (some (19, 1, 0, false)) none) (cond (Nat.beq x 76) (some (20, 1, 0, false)) none))) (cond (Nat.blt x 85) (cond (Nat.blt x 82) (cond (Nat.beq x 79) (some (21, 1, 0, false)) none) (cond (Nat.beq x 82) (some (22, 1, 0, false)) none)) (cond (Nat.blt x 135) (cond (Nat.beq x 85) (some (23, 1, 0, false)) none) (cond (Nat.blt x 138) (cond (Nat.beq x 135) (some (24, 1, 0, false)) none) (cond (Nat.beq x 138) (some (25, 1, 0, false)) none))))) (cond (Nat.blt x 160) (cond (Nat.blt x 154) (cond (Nat.blt x 151) (cond (Nat.beq x 141) (some (26, 2, 0, false)) none) (cond (Nat.beq x 151) (some (27, 1, 0, false)) none)) (cond (Nat.blt x 157) (cond (Nat.beq x 154) (some (28, 1, 0, false)) none) (cond (Nat.beq x 157) (some (29, 1, 0, false)) none))) (cond (Nat.blt x 174) (cond (Nat.blt x 163) (cond (Nat.beq x 160) (some (30, 1, 0, false)) none) (cond (Nat.beq x 163) (some (31, 1, 0, false)) none)) (cond (Nat.blt x 177) (cond (Nat.beq x 174) (some (32, 1, 0, false)) none) (cond (Nat.blt x 180) (cond (Nat.beq x 177) (some (33, 1, 0, false)) none) (cond (Nat.beq x 180) (some (34, 1, 0, false)) none))))))) none
def PPlay : LayT := fun j => cond (Nat.blt j 20) (cond (Nat.blt j 10) (cond (Nat.blt j 5) (cond (Nat.blt j 3) (cond (Nat.blt j 2) (cond (Nat.beq j 1) (some (2, 8)) none) (cond (Nat.beq j 2) (some (1, 8)) none)) (cond (Nat.blt j 4) (cond (Nat.beq j 3) (some (1, 8)) none) (cond (Nat.beq j 4) (some (1, 8)) none))) (cond (Nat.blt j 7) (cond (Nat.blt j 6) (cond (Nat.beq j 5) (some (1, 8)) none) (cond (Nat.beq j 6) (some (1, 8)) none)) (cond (Nat.blt j 8) (cond (Nat.beq j 7) (some (1, 16)) none) (cond (Nat.blt j 9) (cond (Nat.beq j 8) (some (1, 16)) none) (cond (Nat.beq j 9) (some (1, 16)) none))))) (cond (Nat.blt j 15) (cond (Nat.blt j 12) (cond (Nat.blt j 11) (cond (Nat.beq j 10) (some (1, 16)) none) (cond (Nat.beq j 11) (some (1, 16)) none)) (cond (Nat.blt j 13) (cond (Nat.beq j 12) (some (1, 16)) none) (cond (Nat.blt j 14) (cond (Nat.beq j 13) (some (1, 16)) none) (cond (Nat.beq j 14) (some (1, 16)) none)))) (cond (Nat.blt j 17) (cond (Nat.blt j 16) (cond (Nat.beq j 15) (some (1, 16)) none) (cond (Nat.beq j 16) (some (1, 16)) none)) (cond (Nat.blt j 18) (cond (Nat.beq j 17) (some (1, 16)) none) (cond (Nat.blt j 19) (cond (Nat.beq j 18) (some (1, 16)) none) (cond (Nat.beq j 19) (some (1, 16)) none)))))) none
def PPcst : Nat → Option OV := fun x => cond (Nat.blt x 98) (cond (Nat.blt x 97) (cond (Nat.beq x 88) (some (vi 65535)) none) (cond (Nat.beq x 97) (some (vi 1048575)) none)) none
def PPmth : Nat → Option Nat := fun x => cond (Nat.blt x 171) (cond (Nat.blt x 119) (cond (Nat.blt x 101) (cond (Nat.blt x 93) (cond (Nat.blt x 89) (cond (Nat.beq x 68) (some 1) none) (cond (Nat.beq x 89) (some 8) none)) (cond (Nat.blt x 98) (cond (Nat.beq x 93) (some 6) none) (cond (Nat.beq x 98) (some 3) none))) (cond (Nat.blt x 109) (cond (Nat.blt x 105) (cond (Nat.beq x 101) (some 16) none) (cond (Nat.beq x 105) (some 23) none)) (cond (Nat.blt x 113) (cond (Nat.beq x 109) (some 12) none) (cond (Nat.blt x 116) (cond (Nat.beq x 113) (some 27) none) (cond (Nat.beq x 116) (some 22) none))))) (cond (Nat.blt x 132) (cond (Nat.blt x 125) (cond (Nat.blt x 122) (cond (Nat.beq x 119) (some 26) none) (cond (Nat.beq x 122) (some 17) none)) (cond (Nat.blt x 129) (cond (Nat.beq x 125) (some 28) none) (cond (Nat.beq x 129) (some 21) none))) (cond (Nat.blt x 148) (cond (Nat.blt x 145) (cond (Nat.beq x 132) (some 18) none) (cond (Nat.beq x 145) (some 19) none)) (cond (Nat.blt x 166) (cond (Nat.beq x 148) (some 20) none) (cond (Nat.blt x 170) (cond (Nat.beq x 166) (some 30) none) (cond (Nat.beq x 170) (some 31) none)))))) none
def PPinf : InfT := fun q => cond (Nat.blt q 32) (cond (Nat.blt q 16) (cond (Nat.blt q 8) (cond (Nat.blt q 4) (cond (Nat.blt q 2) (cond (Nat.blt q 1) (cond (Nat.beq q 0) (some ([false, false], 4, 0, 1, 16)) none) (cond (Nat.beq q 1) (some ([false, false, false], 4, 1, 0, 0)) none)) (cond (Nat.blt q 3) (cond (Nat.beq q 2) (some ([false], 2, 2, 1, 13)) none) (cond (Nat.beq q 3) (some ([false], 2, 2, 0, 0)) none))) (cond (Nat.blt q 6) (cond (Nat.blt q 5) (cond (Nat.beq q 4) (some ([false, false, false, false], 7, 1, 0, 0)) none) (cond (Nat.beq q 5) (some ([false, false, false, false], 7, 1, 1, 13)) none)) (cond (Nat.blt q 7) (cond (Nat.beq q 6) (some ([false], 2, 0, 0, 0)) none) (cond (Nat.beq q 7) (some ([false], 4, 1, 1, 13)) none)))) (cond (Nat.blt q 12) (cond (Nat.blt q 10) (cond (Nat.blt q 9) (cond (Nat.beq q 8) (some ([false], 2, 2, 0, 0)) none) (cond (Nat.beq q 9) (some ([false], 4, 1, 1, 13)) none)) (cond (Nat.blt q 11) (cond (Nat.beq q 10) (some ([false], 2, 1, 1, 13)) none) (cond (Nat.beq q 11) (some ([false, false], 3, 1, 2, 36)) none))) (cond (Nat.blt q 14) (cond (Nat.blt q 13) (cond (Nat.beq q 12) (some ([false, false], 6, 2, 1, 16)) none) (cond (Nat.beq q 13) (some ([false, false], 3, 1, 1, 16)) none)) (cond (Nat.blt q 15) (cond (Nat.beq q 14) (some ([], 1, 1, 0, 0)) none) (cond (Nat.beq q 15) (some ([], 3, 1, 5, 85)) none))))) (cond (Nat.blt q 24) (cond (Nat.blt q 20) (cond (Nat.blt q 18) (cond (Nat.blt q 17) (cond (Nat.beq q 16) (some ([false], 4, 1, 4, 70)) none) (cond (Nat.beq q 17) (some ([false], 6, 1, 2, 36)) none)) (cond (Nat.blt q 19) (cond (Nat.beq q 18) (some ([false], 3, 2, 3, 56)) none) (cond (Nat.beq q 19) (some ([], 2, 0, 0, 0)) none))) (cond (Nat.blt q 22) (cond (Nat.blt q 21) (cond (Nat.beq q 20) (some ([false, false], 5, 0, 2, 40)) none) (cond (Nat.beq q 21) (some ([false, false], 3, 0, 0, 0)) none)) (cond (Nat.blt q 23) (cond (Nat.beq q 22) (some ([false, false], 3, 2, 0, 0)) none) (cond (Nat.beq q 23) (some ([false, false], 5, 1, 0, 0)) none)))) (cond (Nat.blt q 28) (cond (Nat.blt q 26) (cond (Nat.blt q 25) (cond (Nat.beq q 24) (some ([false, false], 3, 2, 0, 0)) none) (cond (Nat.beq q 25) (some ([false], 2, 1, 5, 85)) none)) (cond (Nat.blt q 27) (cond (Nat.beq q 26) (some ([false, false], 5, 1, 0, 0)) none) (cond (Nat.beq q 27) (some ([false, false], 9, 1, 1, 16)) none))) (cond (Nat.blt q 30) (cond (Nat.blt q 29) (cond (Nat.beq q 28) (some ([false, false], 3, 0, 0, 0)) none) (cond (Nat.beq q 29) (some ([false], 2, 1, 1, 13)) none)) (cond (Nat.blt q 31) (cond (Nat.beq q 30) (some ([false, false, false], 12, 0, 1, 17)) none) (cond (Nat.beq q 31) (some ([false, false, false, false, false], 6, 2, 0, 0)) none)))))) none
def PPobi : Nat → Bool := fun x => Nat.beq x 1
def PPliv : LivT := fun q pc => cond (Nat.blt q 16) (cond (Nat.blt q 8) (cond (Nat.blt q 4) (cond (Nat.blt q 2) (cond (Nat.blt q 1) (cond (Nat.beq q 0) (cond (Nat.blt pc 188) (cond (Nat.blt pc 182) (cond (Nat.beq pc 0) (some [true, true, true, false]) none) (cond (Nat.beq pc 182) (some [true, false, false, true]) none)) (cond (Nat.blt pc 208) (cond (Nat.beq pc 188) (some [true, false, false, true]) none) (cond (Nat.beq pc 208) (some [true, false, false, false]) none))) none) (cond (Nat.beq q 1) (cond (Nat.blt pc 7) (cond (Nat.blt pc 5) (cond (Nat.beq pc 0) (some [false, true, true, true]) none) (cond (Nat.beq pc 5) (some [false, false, true, false]) none)) (cond (Nat.blt pc 12) (cond (Nat.beq pc 7) (some [false, true, false, true]) none) (cond (Nat.blt pc 14) (cond (Nat.beq pc 12) (some [false, false, false, true]) none) (cond (Nat.beq pc 14) (some [false, true, false, false]) none)))) none)) (cond (Nat.blt q 3) (cond (Nat.beq q 2) (cond (Nat.blt pc 17) (cond (Nat.blt pc 8) (cond (Nat.beq pc 0) (some [true, true]) none) (cond (Nat.beq pc 8) (some [true, true]) none)) (cond (Nat.blt pc 19) (cond (Nat.beq pc 17) (some [false, false]) none) (cond (Nat.beq pc 19) (some [true, true]) none))) none) (cond (Nat.beq q 3) (cond (Nat.blt pc 18) (cond (Nat.blt pc 4) (cond (Nat.beq pc 0) (some [true, true]) none) (cond (Nat.blt pc 12) (cond (Nat.beq pc 4) (some [true, true]) none) (cond (Nat.beq pc 12) (some [false, true]) none))) (cond (Nat.blt pc 22) (cond (Nat.beq pc 18) (some [false, false]) none) (cond (Nat.blt pc 23) (cond (Nat.beq pc 22) (some [false, false]) none) (cond (Nat.beq pc 23) (some [false, false]) none)))) none))) (cond (Nat.blt q 6) (cond (Nat.blt q 5) (cond (Nat.beq q 4) (cond (Nat.blt pc 49) (cond (Nat.blt pc 24) (cond (Nat.blt pc 12) (cond (Nat.blt pc 5) (cond (Nat.beq pc 0) (some [true, true, true, true, true, false, false]) none) (cond (Nat.beq pc 5) (some [true, true, true, true, true, false, false]) none)) (cond (Nat.blt pc 17) (cond (Nat.beq pc 12) (some [true, true, true, true, true, false, false]) none) (cond (Nat.beq pc 17) (some [true, true, true, true, true, false, false]) none))) (cond (Nat.blt pc 35) (cond (Nat.blt pc 29) (cond (Nat.beq pc 24) (some [true, true, true, true, true, false, false]) none) (cond (Nat.beq pc 29) (some [true, true, true, true, true, false, false]) none)) (cond (Nat.blt pc 37) (cond (Nat.beq pc 35) (some [false, false, false, false, false, false, false]) none) (cond (Nat.blt pc 42) (cond (Nat.beq pc 37) (some [true, true, true, true, true, false, false]) none) (cond (Nat.beq pc 42) (some [true, true, true, true, true, false, false]) none))))) (cond (Nat.blt pc 83) (cond (Nat.blt pc 57) (cond (Nat.blt pc 51) (cond (Nat.beq pc 49) (some [false, false, false, false, false, false, false]) none) (cond (Nat.beq pc 51) (some [true, true, true, true, true, false, false]) none)) (cond (Nat.blt pc 66) (cond (Nat.beq pc 57) (some [true, true, true, true, true, true, true]) none) (cond (Nat.blt pc 73) (cond (Nat.beq pc 66) (some [true, true, true, true, true, true, true]) none) (cond (Nat.beq pc 73) (some [true, true, true, true, true, true, true]) none)))) (cond (Nat.blt pc 96) (cond (Nat.blt pc 90) (cond (Nat.beq pc 83) (some [true, true, true, true, true, false, true]) none) (cond (Nat.beq pc 90) (some [true, true, true, true, true, true, true]) none)) (cond (Nat.blt pc 101) (cond (Nat.beq pc 96) (some [true, true, true, true, true, true, false]) none) (cond (Nat.blt pc 103) (cond (Nat.beq pc 101) (some [false, false, false, false, false, false, false]) none) (cond (Nat.beq pc 103) (some [true, true, true, true, true, true, false]) none)))))) none) (cond (Nat.beq q 5) (cond (Nat.blt pc 49) (cond (Nat.blt pc 24) (cond (Nat.blt pc 12) (cond (Nat.blt pc 5) (cond (Nat.beq pc 0) (some [true, true, true, true, true, false, false]) none) (cond (Nat.beq pc 5) (some [true, true, true, true, true, false, false]) none)) (cond (Nat.blt pc 17) (cond (Nat.beq pc 12) (some [true, true, true, true, true, false, false]) none) (cond (Nat.beq pc 17) (some [true, true, true, true, true, false, false]) none))) (cond (Nat.blt pc 30) (cond (Nat.blt pc 26) (cond (Nat.beq pc 24) (some [false, false, false, false, false, false, false]) none) (cond (Nat.beq pc 26) (some [true, true, true, true, true, false, false]) none)) (cond (Nat.blt pc 37) (cond (Nat.beq pc 30) (some [true, true, true, true, true, false, false]) none) (cond (Nat.blt pc 42) (cond (Nat.beq pc 37) (some [true, true, true, true, true, false, false]) none) (cond (Nat.beq pc 42) (some [true, true, true, true, true, false, false]) none))))) (cond (Nat.blt pc 83) (cond (Nat.blt pc 57) (cond (Nat.blt pc 51) (cond (Nat.beq pc 49) (some [false, false, false, false, false, false, false]) none) (cond (Nat.beq pc 51) (some [true, true, true, true, true, false, false]) none)) (cond (Nat.blt pc 66) (cond (Nat.beq pc 57) (some [true, true, true, true, true, true, true]) none) (cond (Nat.blt pc 73) (cond (Nat.beq pc 66) (some [true, true, true, true, true, true, true]) none) (cond (Nat.beq pc 73) (some [true, true, true, true, true, true, true]) none)))) (cond (Nat.blt pc 96) (cond (Nat.blt pc 90) (cond (Nat.beq pc 83) (some [true, true, true, true, true, false, true]) none) (cond (Nat.beq pc 90) (some [true, true, true, true, true, true, true]) none)) (cond (Nat.blt pc 101) (cond (Nat.beq pc 96) (some [true, true, true, true, true, true, false]) none) (cond (Nat.blt pc 103) (cond (Nat.beq pc 101) (some [false, false, false, false, false, false, false]) none) (cond (Nat.beq pc 103) (some [true, true, true, true, true, true, false]) none)))))) none)) (cond (Nat.blt q 7) (cond (Nat.beq q 6) (cond (Nat.beq pc 0) (some [true, true]) none) none) (cond (Nat.beq q 7) (cond (Nat.blt pc 28) (cond (Nat.blt pc 10) (cond (Nat.blt pc 8) (cond (Nat.beq pc 0) (some [true, true, false, false]) none) (cond (Nat.beq pc 8) (some [false, false, false, false]) none)) (cond (Nat.blt pc 14) (cond (Nat.beq pc 10) (some [true, true, false, false]) none) (cond (Nat.blt pc 22) (cond (Nat.beq pc 14) (some [true, true, true, true]) none) (cond (Nat.beq pc 22) (some [true, true, true, true]) none)))) (cond (Nat.blt pc 48) (cond (Nat.blt pc 38) (cond (Nat.beq pc 28) (some [true, true, true, true]) none) (cond (Nat.beq pc 38) (some [true, true, true, true]) none)) (cond (Nat.blt pc 56) (cond (Nat.beq pc 48) (some [true, true, true, true]) none) (cond (Nat.blt pc 62) (cond (Nat.beq pc 56) (some [true, true, true, true]) none) (cond (Nat.beq pc 62) (some [true, true, true, false]) none))))) none)))) (cond (Nat.blt q 12) (cond (Nat.blt q 10) (cond (Nat.blt q 9) (cond (Nat.beq q 8) (cond (Nat.blt pc 18) (cond (Nat.blt pc 4) (cond (Nat.beq pc 0) (some [true, true]) none) (cond (Nat.blt pc 12) (cond (Nat.beq pc 4) (some [true, true]) none) (cond (Nat.beq pc 12) (some [true, true]) none))) (cond (Nat.blt pc 31) (cond (Nat.blt pc 27) (cond (Nat.beq pc 18) (some [true, true]) none) (cond (Nat.beq pc 27) (some [false, false]) none)) (cond (Nat.blt pc 32) (cond (Nat.beq pc 31) (some [false, false]) none) (cond (Nat.beq pc 32) (some [false, false]) none)))) none) (cond (Nat.beq q 9) (cond (Nat.blt pc 48) (cond (Nat.blt pc 20) (cond (Nat.blt pc 8) (cond (Nat.beq pc 0) (some [true, true, false, false]) none) (cond (Nat.blt pc 18) (cond (Nat.beq pc 8) (some [true, true, false, false]) none) (cond (Nat.beq pc 18) (some [false, false, false, false]) none))) (cond (Nat.blt pc 32) (cond (Nat.blt pc 24) (cond (Nat.beq pc 20) (some [true, true, false, false]) none) (cond (Nat.beq pc 24) (some [true, true, true, true]) none)) (cond (Nat.blt pc 38) (cond (Nat.beq pc 32) (some [true, true, true, true]) none) (cond (Nat.beq pc 38) (some [true, true, true, true]) none)))) (cond (Nat.blt pc 81) (cond (Nat.blt pc 51) (cond (Nat.beq pc 48) (some [true, true, true, true]) none) (cond (Nat.blt pc 66) (cond (Nat.beq pc 51) (some [true, true, true, true]) none) (cond (Nat.beq pc 66) (some [true, true, true, true]) none))) (cond (Nat.blt pc 99) (cond (Nat.blt pc 96) (cond (Nat.beq pc 81) (some [true, true, true, true]) none) (cond (Nat.beq pc 96) (some [true, true, true, true]) none)) (cond (Nat.blt pc 105) (cond (Nat.beq pc 99) (some [true, true, true, true]) none) (cond (Nat.beq pc 105) (some [false, false, true, false]) none))))) none)) (cond (Nat.blt q 11) (cond (Nat.beq q 10) (cond (Nat.blt pc 8) (cond (Nat.beq pc 0) (some [true, true]) none) (cond (Nat.blt pc 10) (cond (Nat.beq pc 8) (some [false, false]) none) (cond (Nat.beq pc 10) (some [true, true]) none))) none) (cond (Nat.beq q 11) (cond (Nat.blt pc 20) (cond (Nat.blt pc 8) (cond (Nat.beq pc 0) (some [true, true, true]) none) (cond (Nat.blt pc 18) (cond (Nat.beq pc 8) (some [true, true, true]) none) (cond (Nat.beq pc 18) (some [false, false, false]) none))) (cond (Nat.blt pc 29) (cond (Nat.beq pc 20) (some [true, true, true]) none) (cond (Nat.blt pc 31) (cond (Nat.beq pc 29) (some [false, false, false]) none) (cond (Nat.beq pc 31) (some [true, true, true]) none)))) none))) (cond (Nat.blt q 14) (cond (Nat.blt q 13) (cond (Nat.beq q 12) (cond (Nat.blt pc 77) (cond (Nat.blt pc 17) (cond (Nat.blt pc 8) (cond (Nat.beq pc 0) (some [true, true, true, false, false, false]) none) (cond (Nat.beq pc 8) (some [true, true, true, false, false, false]) none)) (cond (Nat.blt pc 19) (cond (Nat.beq pc 17) (some [false, false, false, false, false, false]) none) (cond (Nat.blt pc 59) (cond (Nat.beq pc 19) (some [true, true, true, false, false, false]) none) (cond (Nat.beq pc 59) (some [true, true, true, false, true, true]) none)))) (cond (Nat.blt pc 101) (cond (Nat.blt pc 90) (cond (Nat.beq pc 77) (some [true, true, true, false, false, true]) none) (cond (Nat.blt pc 92) (cond (Nat.beq pc 90) (some [false, false, false, false, false, false]) none) (cond (Nat.beq pc 92) (some [true, true, true, false, false, false]) none))) (cond (Nat.blt pc 115) (cond (Nat.beq pc 101) (some [true, true, true, false, false, false]) none) (cond (Nat.blt pc 117) (cond (Nat.beq pc 115) (some [false, false, false, false, false, false]) none) (cond (Nat.beq pc 117) (some [false, false, false, false, false, false]) none))))) none) (cond (Nat.beq q 13) (cond (Nat.blt pc 12) (cond (Nat.blt pc 8) (cond (Nat.beq pc 0) (some [true, true, true]) none) (cond (Nat.beq pc 8) (some [true, true, true]) none)) (cond (Nat.blt pc 17) (cond (Nat.beq pc 12) (some [true, true, true]) none) (cond (Nat.blt pc 19) (cond (Nat.beq pc 17) (some [false, false, false]) none) (cond (Nat.beq pc 19) (some [true, true, true]) none)))) none)) (cond (Nat.blt q 15) (cond (Nat.beq q 14) (cond (Nat.beq pc 0) (some [true]) none) none) (cond (Nat.beq q 15) (cond (Nat.blt pc 50) (cond (Nat.blt pc 18) (cond (Nat.blt pc 4) (cond (Nat.beq pc 0) (some [true, false, false]) none) (cond (Nat.blt pc 12) (cond (Nat.beq pc 4) (some [true, true, true]) none) (cond (Nat.beq pc 12) (some [true, true, true]) none))) (cond (Nat.blt pc 31) (cond (Nat.blt pc 28) (cond (Nat.beq pc 18) (some [true, true, true]) none) (cond (Nat.beq pc 28) (some [true, true, true]) none)) (cond (Nat.blt pc 35) (cond (Nat.beq pc 31) (some [true, true, true]) none) (cond (Nat.beq pc 35) (some [true, true, true]) none)))) (cond (Nat.blt pc 82) (cond (Nat.blt pc 65) (cond (Nat.beq pc 50) (some [true, true, true]) none) (cond (Nat.blt pc 80) (cond (Nat.beq pc 65) (some [true, true, true]) none) (cond (Nat.beq pc 80) (some [true, false, true]) none))) (cond (Nat.blt pc 92) (cond (Nat.blt pc 88) (cond (Nat.beq pc 82) (some [true, true, true]) none) (cond (Nat.beq pc 88) (some [true, true, false]) none)) (cond (Nat.blt pc 94) (cond (Nat.beq pc 92) (some [false, false, false]) none) (cond (Nat.beq pc 94) (some [true, true, false]) none))))) none))))) (cond (Nat.blt q 24) (cond (Nat.blt q 20) (cond (Nat.blt q 18) (cond (Nat.blt q 17) (cond (Nat.beq q 16) (cond (Nat.blt pc 42) (cond (Nat.blt pc 24) (cond (Nat.blt pc 10) (cond (Nat.beq pc 0) (some [true, true, false, false]) none) (cond (Nat.beq pc 10) (some [true, true, true, false]) none)) (cond (Nat.blt pc 32) (cond (Nat.beq pc 24) (some [true, true, false, false]) none) (cond (Nat.blt pc 34) (cond (Nat.beq pc 32) (some [true, true, false, false]) none) (cond (Nat.beq pc 34) (some [true, true, false, true]) none)))) (cond (Nat.blt pc 64) (cond (Nat.blt pc 48) (cond (Nat.beq pc 42) (some [true, true, false, true]) none) (cond (Nat.blt pc 59) (cond (Nat.beq pc 48) (some [true, true, false, true]) none) (cond (Nat.beq pc 59) (some [true, true, false, true]) none))) (cond (Nat.blt pc 70) (cond (Nat.beq pc 64) (some [true, true, false, true]) none) (cond (Nat.blt pc 90) (cond (Nat.beq pc 70) (some [true, true, false, false]) none) (cond (Nat.beq pc 90) (some [true, true, false, false]) none))))) none) (cond (Nat.beq q 17) (cond (Nat.blt pc 36) (cond (Nat.blt pc 16) (cond (Nat.blt pc 7) (cond (Nat.beq pc 0) (some [true, true, false, false, false, false]) none) (cond (Nat.beq pc 7) (some [true, true, true, true, true, false]) none)) (cond (Nat.blt pc 23) (cond (Nat.beq pc 16) (some [true, true, true, true, true, false]) none) (cond (Nat.blt pc 33) (cond (Nat.beq pc 23) (some [true, true, true, true, true, false]) none) (cond (Nat.beq pc 33) (some [true, true, true, true, true, false]) none)))) (cond (Nat.blt pc 55) (cond (Nat.blt pc 49) (cond (Nat.beq pc 36) (some [true, true, true, true, true, false]) none) (cond (Nat.beq pc 49) (some [true, true, true, true, true, true]) none)) (cond (Nat.blt pc 61) (cond (Nat.beq pc 55) (some [true, true, false, false, true, true]) none) (cond (Nat.blt pc 67) (cond (Nat.beq pc 61) (some [true, true, true, true, true, false]) none) (cond (Nat.beq pc 67) (some [false, false, true, false, false, false]) none))))) none)) (cond (Nat.blt q 19) (cond (Nat.beq q 18) (cond (Nat.blt pc 29) (cond (Nat.blt pc 21) (cond (Nat.beq pc 0) (some [true, true, false]) none) (cond (Nat.beq pc 21) (some [true, true, true]) none)) (cond (Nat.blt pc 35) (cond (Nat.beq pc 29) (some [true, true, true]) none) (cond (Nat.blt pc 47) (cond (Nat.beq pc 35) (some [true, true, true]) none) (cond (Nat.beq pc 47) (some [true, false, false]) none)))) none) (cond (Nat.beq q 19) (cond (Nat.blt pc 31) (cond (Nat.blt pc 8) (cond (Nat.blt pc 2) (cond (Nat.beq pc 0) (some [true, false]) none) (cond (Nat.beq pc 2) (some [true, true]) none)) (cond (Nat.blt pc 21) (cond (Nat.beq pc 8) (some [true, true]) none) (cond (Nat.blt pc 23) (cond (Nat.beq pc 21) (some [true, false]) none) (cond (Nat.beq pc 23) (some [true, true]) none)))) (cond (Nat.blt pc 47) (cond (Nat.blt pc 37) (cond (Nat.beq pc 31) (some [true, true]) none) (cond (Nat.beq pc 37) (some [true, true]) none)) (cond (Nat.blt pc 65) (cond (Nat.beq pc 47) (some [true, true]) none) (cond (Nat.blt pc 71) (cond (Nat.beq pc 65) (some [true, true]) none) (cond (Nat.beq pc 71) (some [false, false]) none))))) none))) (cond (Nat.blt q 22) (cond (Nat.blt q 21) (cond (Nat.beq q 20) (cond (Nat.blt pc 119) (cond (Nat.blt pc 78) (cond (Nat.blt pc 18) (cond (Nat.blt pc 9) (cond (Nat.beq pc 0) (some [true, true, true, false, false]) none) (cond (Nat.beq pc 9) (some [true, true, true, false, false]) none)) (cond (Nat.blt pc 19) (cond (Nat.beq pc 18) (some [false, false, false, false, false]) none) (cond (Nat.blt pc 63) (cond (Nat.beq pc 19) (some [true, true, true, false, false]) none) (cond (Nat.beq pc 63) (some [true, true, true, false, false]) none)))) (cond (Nat.blt pc 93) (cond (Nat.blt pc 85) (cond (Nat.beq pc 78) (some [true, true, true, false, false]) none) (cond (Nat.beq pc 85) (some [true, true, true, true, false]) none)) (cond (Nat.blt pc 99) (cond (Nat.beq pc 93) (some [true, true, true, true, false]) none) (cond (Nat.blt pc 109) (cond (Nat.beq pc 99) (some [true, true, true, true, false]) none) (cond (Nat.beq pc 109) (some [true, true, true, true, false]) none))))) (cond (Nat.blt pc 176) (cond (Nat.blt pc 143) (cond (Nat.blt pc 134) (cond (Nat.beq pc 119) (some [true, true, true, true, false]) none) (cond (Nat.beq pc 134) (some [true, true, true, true, false]) none)) (cond (Nat.blt pc 163) (cond (Nat.beq pc 143) (some [true, true, true, true, false]) none) (cond (Nat.blt pc 169) (cond (Nat.beq pc 163) (some [true, true, true, true, false]) none) (cond (Nat.beq pc 169) (some [true, true, true, false, false]) none)))) (cond (Nat.blt pc 187) (cond (Nat.blt pc 177) (cond (Nat.beq pc 176) (some [false, false, false, false, false]) none) (cond (Nat.beq pc 177) (some [true, true, true, false, false]) none)) (cond (Nat.blt pc 193) (cond (Nat.beq pc 187) (some [true, true, true, true, true]) none) (cond (Nat.blt pc 207) (cond (Nat.beq pc 193) (some [true, true, true, true, true]) none) (cond (Nat.beq pc 207) (some [false, false, false, false, false]) none)))))) none) (cond (Nat.beq q 21) (cond (Nat.beq pc 0) (some [true, true, true]) none) none)) (cond (Nat.blt q 23) (cond (Nat.beq q 22) (cond (Nat.blt pc 42) (cond (Nat.blt pc 18) (cond (Nat.beq pc 0) (some [true, true, true]) none) (cond (Nat.blt pc 20) (cond (Nat.beq pc 18) (some [false, false, false]) none) (cond (Nat.beq pc 20) (some [true, true, true]) none))) (cond (Nat.blt pc 46) (cond (Nat.beq pc 42) (some [false, false, false]) none) (cond (Nat.blt pc 47) (cond (Nat.beq pc 46) (some [false, false, false]) none) (cond (Nat.beq pc 47) (some [false, false, false]) none)))) none) (cond (Nat.beq q 23) (cond (Nat.blt pc 46) (cond (Nat.blt pc 21) (cond (Nat.blt pc 5) (cond (Nat.beq pc 0) (some [true, true, true, false, false]) none) (cond (Nat.blt pc 14) (cond (Nat.beq pc 5) (some [true, true, true, true, true]) none) (cond (Nat.beq pc 14) (some [true, true, true, true, true]) none))) (cond (Nat.blt pc 32) (cond (Nat.beq pc 21) (some [true, true, true, true, true]) none) (cond (Nat.blt pc 43) (cond (Nat.beq pc 32) (some [true, true, true, true, true]) none) (cond (Nat.beq pc 43) (some [true, true, true, true, true]) none)))) (cond (Nat.blt pc 68) (cond (Nat.blt pc 50) (cond (Nat.beq pc 46) (some [true, true, true, true, true]) none) (cond (Nat.blt pc 63) (cond (Nat.beq pc 50) (some [true, true, true, true, true]) none) (cond (Nat.beq pc 63) (some [true, true, true, true, true]) none))) (cond (Nat.blt pc 84) (cond (Nat.blt pc 81) (cond (Nat.beq pc 68) (some [true, true, true, true, true]) none) (cond (Nat.beq pc 81) (some [true, true, true, true, true]) none)) (cond (Nat.blt pc 90) (cond (Nat.beq pc 84) (some [true, true, true, true, true]) none) (cond (Nat.beq pc 90) (some [false, false, false, true, false]) none))))) none)))) (cond (Nat.blt q 28) (cond (Nat.blt q 26) (cond (Nat.blt q 25) (cond (Nat.beq q 24) (cond (Nat.blt pc 15) (cond (Nat.blt pc 5) (cond (Nat.beq pc 0) (some [true, true, true]) none) (cond (Nat.blt pc 11) (cond (Nat.beq pc 5) (some [true, true, true]) none) (cond (Nat.beq pc 11) (some [true, true, true]) none))) (cond (Nat.blt pc 21) (cond (Nat.beq pc 15) (some [true, true, true]) none) (cond (Nat.blt pc 23) (cond (Nat.beq pc 21) (some [false, false, false]) none) (cond (Nat.beq pc 23) (some [true, true, true]) none)))) none) (cond (Nat.beq q 25) (cond (Nat.blt pc 18) (cond (Nat.blt pc 8) (cond (Nat.beq pc 0) (some [true, true]) none) (cond (Nat.beq pc 8) (some [true, true]) none)) (cond (Nat.blt pc 20) (cond (Nat.beq pc 18) (some [false, false]) none) (cond (Nat.beq pc 20) (some [true, true]) none))) none)) (cond (Nat.blt q 27) (cond (Nat.beq q 26) (cond (Nat.blt pc 32) (cond (Nat.blt pc 14) (cond (Nat.blt pc 5) (cond (Nat.beq pc 0) (some [true, true, true, false, false]) none) (cond (Nat.beq pc 5) (some [true, true, true, true, true]) none)) (cond (Nat.blt pc 21) (cond (Nat.beq pc 14) (some [true, true, true, true, true]) none) (cond (Nat.beq pc 21) (some [true, true, true, true, true]) none))) (cond (Nat.blt pc 54) (cond (Nat.blt pc 43) (cond (Nat.beq pc 32) (some [true, true, true, true, true]) none) (cond (Nat.beq pc 43) (some [true, true, true, true, true]) none)) (cond (Nat.blt pc 57) (cond (Nat.beq pc 54) (some [true, true, true, true, true]) none) (cond (Nat.blt pc 63) (cond (Nat.beq pc 57) (some [true, true, true, true, true]) none) (cond (Nat.beq pc 63) (some [false, false, false, true, false]) none))))) none) (cond (Nat.beq q 27) (cond (Nat.blt pc 26) (cond (Nat.blt pc 19) (cond (Nat.beq pc 0) (some [true, true, true, false, false, false, false, false, false]) none) (cond (Nat.blt pc 24) (cond (Nat.beq pc 19) (some [true, true, true, true, true, false, false, false, false]) none) (cond (Nat.beq pc 24) (some [false, false, false, false, false, false, false, false, false]) none))) (cond (Nat.blt pc 104) (cond (Nat.beq pc 26) (some [true, true, true, true, true, false, false, false, false]) none) (cond (Nat.blt pc 109) (cond (Nat.beq pc 104) (some [false, false, false, false, false, false, false, true, true]) none) (cond (Nat.beq pc 109) (some [false, false, false, false, false, false, false, true, true]) none)))) none))) (cond (Nat.blt q 30) (cond (Nat.blt q 29) (cond (Nat.beq q 28) (cond (Nat.beq pc 0) (some [true, true, true]) none) none) (cond (Nat.beq q 29) (cond (Nat.blt pc 18) (cond (Nat.blt pc 8) (cond (Nat.beq pc 0) (some [true, true]) none) (cond (Nat.beq pc 8) (some [true, true]) none)) (cond (Nat.blt pc 20) (cond (Nat.beq pc 18) (some [false, false]) none) (cond (Nat.beq pc 20) (some [true, true]) none))) none)) (cond (Nat.blt q 31) (cond (Nat.beq q 30) (cond (Nat.blt pc 222) (cond (Nat.blt pc 70) (cond (Nat.blt pc 24) (cond (Nat.blt pc 3) (cond (Nat.beq pc 0) (some [true, true, true, true, false, false, false, false, false, false, false, false]) none) (cond (Nat.blt pc 10) (cond (Nat.beq pc 3) (some [true, true, true, true, true, false, false, false, false, false, false, false]) none) (cond (Nat.beq pc 10) (some [true, true, true, true, true, false, false, false, false, false, false, false]) none))) (cond (Nat.blt pc 54) (cond (Nat.blt pc 45) (cond (Nat.beq pc 24) (some [true, true, true, true, false, false, false, false, false, false, false, false]) none) (cond (Nat.beq pc 45) (some [true, true, true, true, true, true, true, true, true, true, true, false]) none)) (cond (Nat.blt pc 61) (cond (Nat.beq pc 54) (some [true, true, true, true, true, true, true, true, true, true, true, false]) none) (cond (Nat.beq pc 61) (some [true, true, true, true, true, true, true, true, true, true, true, false]) none)))) (cond (Nat.blt pc 118) (cond (Nat.blt pc 73) (cond (Nat.beq pc 70) (some [true, true, true, true, true, true, true, true, true, true, true, false]) none) (cond (Nat.blt pc 109) (cond (Nat.beq pc 73) (some [true, true, true, true, true, true, true, true, true, true, true, false]) none) (cond (Nat.beq pc 109) (some [true, true, true, true, true, false, true, true, true, true, true, true]) none))) (cond (Nat.blt pc 176) (cond (Nat.blt pc 170) (cond (Nat.beq pc 118) (some [true, true, true, true, true, true, true, true, true, true, true, true]) none) (cond (Nat.beq pc 170) (some [true, true, true, true, true, true, true, true, true, true, true, false]) none)) (cond (Nat.blt pc 199) (cond (Nat.beq pc 176) (some [true, true, true, false, true, true, true, true, true, true, false, false]) none) (cond (Nat.beq pc 199) (some [true, true, true, false, true, true, true, false, true, true, false, false]) none))))) (cond (Nat.blt pc 277) (cond (Nat.blt pc 242) (cond (Nat.blt pc 223) (cond (Nat.beq pc 222) (some [false, false, false, false, false, false, false, false, false, false, false, false]) none) (cond (Nat.blt pc 241) (cond (Nat.beq pc 223) (some [true, true, true, false, true, true, true, false, false, true, false, false]) none) (cond (Nat.beq pc 241) (some [false, false, false, false, false, false, false, false, false, false, false, false]) none))) (cond (Nat.blt pc 273) (cond (Nat.blt pc 251) (cond (Nat.beq pc 242) (some [true, true, true, false, true, true, true, false, false, true, false, false]) none) (cond (Nat.beq pc 251) (some [true, true, true, false, true, true, true, false, false, true, false, false]) none)) (cond (Nat.blt pc 274) (cond (Nat.beq pc 273) (some [false, false, false, false, false, false, false, false, false, false, false, false]) none) (cond (Nat.beq pc 274) (some [true, false, true, false, true, true, true, false, false, true, false, false]) none)))) (cond (Nat.blt pc 320) (cond (Nat.blt pc 294) (cond (Nat.blt pc 284) (cond (Nat.beq pc 277) (some [true, false, true, false, true, true, true, false, false, true, true, false]) none) (cond (Nat.beq pc 284) (some [true, false, true, false, true, true, true, false, false, true, true, false]) none)) (cond (Nat.blt pc 319) (cond (Nat.beq pc 294) (some [true, false, true, false, true, true, true, false, false, true, true, false]) none) (cond (Nat.beq pc 319) (some [false, false, false, false, false, false, false, false, false, false, false, false]) none))) (cond (Nat.blt pc 342) (cond (Nat.blt pc 326) (cond (Nat.beq pc 320) (some [true, false, true, false, true, true, true, false, false, true, true, false]) none) (cond (Nat.beq pc 326) (some [true, false, true, false, true, true, true, false, false, true, false, false]) none)) (cond (Nat.blt pc 376) (cond (Nat.beq pc 342) (some [true, false, true, false, true, true, true, false, false, true, false, false]) none) (cond (Nat.beq pc 376) (some [false, false, false, false, false, false, false, false, false, false, false, false]) none)))))) none) (cond (Nat.beq q 31) (cond (Nat.blt pc 61) (cond (Nat.blt pc 30) (cond (Nat.blt pc 17) (cond (Nat.blt pc 7) (cond (Nat.beq pc 0) (some [true, true, true, true, true, true]) none) (cond (Nat.blt pc 9) (cond (Nat.beq pc 7) (some [false, false, false, false, false, false]) none) (cond (Nat.beq pc 9) (some [true, true, true, true, true, true]) none))) (cond (Nat.blt pc 25) (cond (Nat.beq pc 17) (some [true, true, false, false, false, false]) none) (cond (Nat.blt pc 29) (cond (Nat.beq pc 25) (some [false, false, false, false, false, false]) none) (cond (Nat.beq pc 29) (some [false, false, false, false, false, false]) none)))) (cond (Nat.blt pc 47) (cond (Nat.blt pc 31) (cond (Nat.beq pc 30) (some [false, false, false, false, false, false]) none) (cond (Nat.blt pc 39) (cond (Nat.beq pc 31) (some [true, false, true, true, true, true]) none) (cond (Nat.beq pc 39) (some [true, false, true, false, false, false]) none))) (cond (Nat.blt pc 52) (cond (Nat.blt pc 51) (cond (Nat.beq pc 47) (some [false, false, false, false, false, false]) none) (cond (Nat.beq pc 51) (some [false, false, false, false, false, false]) none)) (cond (Nat.blt pc 53) (cond (Nat.beq pc 52) (some [false, false, false, false, false, false]) none) (cond (Nat.beq pc 53) (some [true, false, false, true, true, true]) none))))) (cond (Nat.blt pc 93) (cond (Nat.blt pc 74) (cond (Nat.blt pc 69) (cond (Nat.beq pc 61) (some [true, false, false, true, false, false]) none) (cond (Nat.blt pc 73) (cond (Nat.beq pc 69) (some [false, false, false, false, false, false]) none) (cond (Nat.beq pc 73) (some [false, false, false, false, false, false]) none))) (cond (Nat.blt pc 75) (cond (Nat.beq pc 74) (some [false, false, false, false, false, false]) none) (cond (Nat.blt pc 84) (cond (Nat.beq pc 75) (some [true, false, false, false, true, true]) none) (cond (Nat.beq pc 84) (some [true, false, false, false, true, false]) none)))) (cond (Nat.blt pc 99) (cond (Nat.blt pc 97) (cond (Nat.beq pc 93) (some [false, false, false, false, false, false]) none) (cond (Nat.blt pc 98) (cond (Nat.beq pc 97) (some [false, false, false, false, false, false]) none) (cond (Nat.beq pc 98) (some [false, false, false, false, false, false]) none))) (cond (Nat.blt pc 112) (cond (Nat.blt pc 108) (cond (Nat.beq pc 99) (some [true, false, false, false, false, true]) none) (cond (Nat.beq pc 108) (some [false, false, false, false, false, false]) none)) (cond (Nat.blt pc 113) (cond (Nat.beq pc 112) (some [false, false, false, false, false, false]) none) (cond (Nat.beq pc 113) (some [false, false, false, false, false, false]) none)))))) none)))))
def PP : PT := (PPcode, PPfld, PPlay, PPcst, PPmth, PPinf, PPobi, PPliv)
abbrev R := runP PP
abbrev Rr (n q pc : Nat) (L : OLs) (S : List OV) (y : Option OV × Nat × OMem) : RT := runP PP n q pc L (pushR y.1 S) y.2.1 y.2.2
def f_clamp (x1 x2 x3 : Int) (m : OMem) : Option (Int) := if x1 < x2 then (some x2) else (if x3 < x1 then (some x3) else (some x1))
set_option maxRecDepth 65536 in
set_option maxHeartbeats 16000000 in
theorem f_clamp_ok (t : Nat) (x1 x2 x3 : Int) (m : OMem) : Sim (f_clamp x1 x2 x3 m) (fun r _ => some (some (vi r), t, m)) (fun n => R n 1 0 [qr 0, qi x1, qi x2, qi x3] [] t m) :=
  Sim.shift 3 (G := fun n => if x1 < x2 then R n 1 5 [qn, qi x1, qi x2, qi x3] [] t m else R n 1 7 [qn, qi x1, qi x2, qi x3] [] t m) (fun _ => rfl) (Sim.ite (fun _ => Sim.shift 2 (G := (fun _ => some (some (vi x2), t, m))) (fun _ => rfl) (Sim.pur _ _)) (fun _ => Sim.shift 3 (G := fun n => if x3 < x1 then R n 1 12 [qn, qi x1, qn, qi x3] [] t m else R n 1 14 [qn, qi x1, qn, qi x3] [] t m) (fun _ => rfl) (Sim.ite (fun _ => Sim.shift 2 (G := (fun _ => some (some (vi x3), t, m))) (fun _ => rfl) (Sim.pur _ _)) (fun _ => Sim.shift 2 (G := (fun _ => some (some (vi x1), t, m))) (fun _ => rfl) (Sim.pur _ _)))))
def f_init_l182_H : Int × OMem → Nat → RT := fun (x3, m) n => R n 0 182 [qr 0, qn, qn, qi x3] [] 38 m
def f_init_l182_X : (OMem) → Nat → RT := fun e n => match e with | w => R n 0 208 [qr 0, qn, qn, qn] [] 38 w
def f_init_l182 : Int × OMem → Option ((Int × OMem) ⊕ ((OMem))) := fun (x3, m) => if x3 < 16 then (if 0 ≤ x3 ∧ x3 < 16 then (if 0 ≤ x3 ∧ x3 < 16 then (some (.inl (w32 (x3 + 1), sto (sto m 7 x3 0) 8 x3 (-1)))) else none) else none) else (some (.inr m))
set_option maxRecDepth 65536 in
set_option maxHeartbeats 16000000 in
theorem f_init_l182_ok (x3 : Int) (m : OMem) : Sim (f_init_l182 (x3, m)) (Sum.elim (f_init_l182_H ) (f_init_l182_X )) (f_init_l182_H (x3, m)) :=
  Sim.shift 3 (G := fun n => if x3 < 16 then R n 0 188 [qr 0, qn, qn, qi x3] [] 38 m else R n 0 208 [qr 0, qn, qn, qi x3] [] 38 m) (fun _ => rfl) (Sim.ite (fun _ => Sim.shift 5 (G := fun n => if 0 ≤ x3 ∧ x3 < 16 then R n 0 195 [qr 0, qn, qn, qi x3] [] 38 (sto m 7 x3 0) else none) (fun _ => rfl) (Sim.grd fun _ => Sim.shift 5 (G := fun n => if 0 ≤ x3 ∧ x3 < 16 then R n 0 202 [qr 0, qn, qn, qi x3] [] 38 (sto (sto m 7 x3 0) 8 x3 (-1)) else none) (fun _ => rfl) (Sim.grd fun _ => Sim.shift 2 (G := fun n => R n 0 182 [qr 0, qn, qn, qi (w32 (x3 + 1))] [] 38 (sto (sto m 7 x3 0) 8 x3 (-1))) (fun _ => rfl) (Sim.pur _ _)))) (fun _ => Sim.leaf rfl (fun _ => rfl)))
def f_init (x1 x2 : Int) (m : OMem) : Option (OMem) := (f_clamp x1 1 8 m).bind fun r_1 => ((f_clamp x2 1 16 (sto m 0 19 r_1)).bind fun r_2 => ((lp (f_init_l182 ) NN (0, sto (sto m 0 19 r_1) 0 20 r_2)).bind fun m_3 => (some (sto (sto (sto m_3 0 21 0) 0 22 (-1)) 0 23 0))))
set_option maxRecDepth 65536 in
set_option maxHeartbeats 16000000 in
theorem f_init_ok (x1 x2 : Int) (m : OMem) : Sim (f_init x1 x2 m) (fun w0 _ => some (none, 38, w0)) (fun n => R n 0 0 [qr 0, qi x1, qi x2, qn] [] 0 m) :=
  Sim.shift 12 (G := fun n => R n 0 23 [qr 0, qi x1, qi x2, qn] [vi 8, vr 0] 4 m) (fun _ => rfl) (Sim.shift 12 (G := fun n => R n 0 47 [qr 0, qi x1, qi x2, qn] [vi 8, vr 0] 10 m) (fun _ => rfl) (Sim.shift 12 (G := fun n => R n 0 71 [qr 0, qi x1, qi x2, qn] [vi 16, vr 0] 16 m) (fun _ => rfl) (Sim.shift 12 (G := fun n => R n 0 95 [qr 0, qi x1, qi x2, qn] [vi 16, vr 0] 22 m) (fun _ => rfl) (Sim.shift 12 (G := fun n => R n 0 119 [qr 0, qi x1, qi x2, qn] [vi 16, vr 0] 28 m) (fun _ => rfl) (Sim.shift 12 (G := fun n => R n 0 143 [qr 0, qi x1, qi x2, qn] [vi 16, vr 0] 34 m) (fun _ => rfl) (Sim.shift 12 (G := fun n => (R n 1 0 [qr 0, qi x1, qi 1, qi 8] [] 38 m).bind fun y => Rr n 0 165 [qr 0, qi x1, qi x2, qn] [vr 0] y) (fun _ => rfl) (Sim.call (f_clamp_ok 38 x1 1 8 m) (fun _ _ => rfl) (runP_mono _ _ _ _ _ _) (fun _ => runP_mono _ _ _ _ _ _) (fun r_1 => Sim.shift 0 (G := fun n => R n 0 165 [qr 0, qi x1, qi x2, qn] [vi r_1, vr 0] 38 m) (fun _ => rfl) (Sim.shift 7 (G := fun n => (R n 1 0 [qr 0, qi x2, qi 1, qi 16] [] 38 (sto m 0 19 r_1)).bind fun y => Rr n 0 177 [qr 0, qi x1, qi x2, qn] [vr 0] y) (fun _ => rfl) (Sim.call (f_clamp_ok 38 x2 1 16 (sto m 0 19 r_1)) (fun _ _ => rfl) (runP_mono _ _ _ _ _ _) (fun _ => runP_mono _ _ _ _ _ _) (fun r_2 => Sim.shift 0 (G := fun n => R n 0 177 [qr 0, qi x1, qi x2, qn] [vi r_2, vr 0] 38 (sto m 0 19 r_1)) (fun _ => rfl) (Sim.shift 3 (G := fun n => R n 0 182 [qr 0, qi x1, qi x2, qi 0] [] 38 (sto (sto m 0 19 r_1) 0 20 r_2)) (fun _ => rfl) (Sim.jmp (Sim.bind (Sim.lp (σ := Int × OMem) (fun ⟨x3L, mL⟩ => f_init_l182_ok x3L mL) NN (0, sto (sto m 0 19 r_1) 0 20 r_2)) (fun m_3 => Sim.shift 10 (G := (fun _ => some (none, 38, sto (sto (sto m_3 0 21 0) 0 22 (-1)) 0 23 0))) (fun _ => rfl) (Sim.pur _ _))) rfl (fun _ => rfl))))))))))))))
def f_validPod_b23 (s0 : Int) (m : OMem) : Option (Int) := some (s0 % 2)
set_option maxRecDepth 65536 in
set_option maxHeartbeats 16000000 in
theorem f_validPod_b23_ok (t : Nat) (s0 : Int) (m : OMem) : Sim (f_validPod_b23 s0 m) (fun r _ => some (some (vi r), t, m)) (fun n => R n 3 23 [qn, qn] [vi s0] t m) :=
  Sim.shift 1 (G := (fun _ => some (some (vi (s0 % 2)), t, m))) (fun _ => rfl) (Sim.pur _ _)
def f_validPod_b22 (m : OMem) : Option (Int) := f_validPod_b23 0 m
set_option maxRecDepth 65536 in
set_option maxHeartbeats 16000000 in
theorem f_validPod_b22_ok (t : Nat) (m : OMem) : Sim (f_validPod_b22 m) (fun r _ => some (some (vi r), t, m)) (fun n => R n 3 22 [qn, qn] [] t m) :=
  Sim.shift 1 (G := fun n => R n 3 23 [qn, qn] [vi 0] t m) (fun _ => rfl) (f_validPod_b23_ok t 0 m)
def f_validPod (x1 : Int) (m : OMem) : Option (Int) := if x1 < 0 then (f_validPod_b22 m) else (if x1 < m 0 20 then (if x1 < 16 then (f_validPod_b23 1 m) else (f_validPod_b22 m)) else (f_validPod_b22 m))
set_option maxRecDepth 65536 in
set_option maxHeartbeats 16000000 in
theorem f_validPod_ok (t : Nat) (x1 : Int) (m : OMem) : Sim (f_validPod x1 m) (fun r _ => some (some (vi r), t, m)) (fun n => R n 3 0 [qr 0, qi x1] [] t m) :=
  Sim.shift 2 (G := fun n => if x1 < 0 then R n 3 22 [qr 0, qi x1] [] t m else R n 3 4 [qr 0, qi x1] [] t m) (fun _ => rfl) (Sim.ite (fun _ => Sim.jmp (f_validPod_b22_ok t m) rfl (fun _ => rfl)) (fun _ => Sim.shift 4 (G := fun n => if x1 < m 0 20 then R n 3 12 [qr 0, qi x1] [] t m else R n 3 22 [qr 0, qi x1] [] t m) (fun _ => rfl) (Sim.ite (fun _ => Sim.shift 3 (G := fun n => if x1 < 16 then R n 3 18 [qn, qi x1] [] t m else R n 3 22 [qn, qi x1] [] t m) (fun _ => rfl) (Sim.ite (fun _ => Sim.shift 2 (G := fun n => R n 3 23 [qn, qn] [vi 1] t m) (fun _ => rfl) (f_validPod_b23_ok t 1 m)) (fun _ => Sim.jmp (f_validPod_b22_ok t m) rfl (fun _ => rfl)))) (fun _ => Sim.jmp (f_validPod_b22_ok t m) rfl (fun _ => rfl)))))
def f_deletePod_b17 (m : OMem) : Option (Int × OMem) := some (0, m)
set_option maxRecDepth 65536 in
set_option maxHeartbeats 16000000 in
theorem f_deletePod_b17_ok (m : OMem) : Sim (f_deletePod_b17 m) (fun (r, w0) _ => some (some (vi r), 38, w0)) (fun n => R n 2 17 [qn, qn] [] 38 m) :=
  Sim.shift 2 (G := (fun _ => some (some (vi 0), 38, m))) (fun _ => rfl) (Sim.pur _ _)
def f_deletePod (x1 : Int) (m : OMem) : Option (Int × OMem) := (f_validPod x1 m).bind fun r_4 => (if r_4 = 0 then (f_deletePod_b17 m) else (if 0 ≤ x1 ∧ x1 < 16 then (if m 7 x1 = 0 then (f_deletePod_b17 m) else (if 0 ≤ x1 ∧ x1 < 16 then (if 0 ≤ x1 ∧ x1 < 16 then (some (1, sto (sto m 7 x1 0) 8 x1 (-1))) else none) else none)) else none))
set_option maxRecDepth 65536 in
set_option maxHeartbeats 16000000 in
theorem f_deletePod_ok (x1 : Int) (m : OMem) : Sim (f_deletePod x1 m) (fun (r, w0) _ => some (some (vi r), 38, w0)) (fun n => R n 2 0 [qr 0, qi x1] [] 38 m) :=
  Sim.shift 3 (G := fun n => (R n 3 0 [qr 0, qi x1] [] 38 m).bind fun y => Rr n 2 5 [qr 0, qi x1] [] y) (fun _ => rfl) (Sim.call (f_validPod_ok 38 x1 m) (fun _ _ => rfl) (runP_mono _ _ _ _ _ _) (fun _ => runP_mono _ _ _ _ _ _) (fun r_4 => Sim.shift 0 (G := fun n => R n 2 5 [qr 0, qi x1] [vi r_4] 38 m) (fun _ => rfl) (Sim.shift 1 (G := fun n => if r_4 = 0 then R n 2 17 [qr 0, qi x1] [] 38 m else R n 2 8 [qr 0, qi x1] [] 38 m) (fun _ => rfl) (Sim.ite (fun _ => Sim.jmp (f_deletePod_b17_ok m) rfl (fun _ => rfl)) (fun _ => Sim.shift 4 (G := fun n => if 0 ≤ x1 ∧ x1 < 16 then R n 2 14 [qr 0, qi x1] [vi (m 7 x1)] 38 m else none) (fun _ => rfl) (Sim.grd fun _ => Sim.shift 1 (G := fun n => if m 7 x1 = 0 then R n 2 17 [qr 0, qi x1] [] 38 m else R n 2 19 [qr 0, qi x1] [] 38 m) (fun _ => rfl) (Sim.ite (fun _ => Sim.jmp (f_deletePod_b17_ok m) rfl (fun _ => rfl)) (fun _ => Sim.shift 5 (G := fun n => if 0 ≤ x1 ∧ x1 < 16 then R n 2 26 [qr 0, qi x1] [] 38 (sto m 7 x1 0) else none) (fun _ => rfl) (Sim.grd fun _ => Sim.shift 5 (G := fun n => if 0 ≤ x1 ∧ x1 < 16 then R n 2 33 [qr 0, qi x1] [] 38 (sto (sto m 7 x1 0) 8 x1 (-1)) else none) (fun _ => rfl) (Sim.grd fun _ => Sim.shift 2 (G := (fun _ => some (some (vi 1), 38, sto (sto m 7 x1 0) 8 x1 (-1)))) (fun _ => rfl) (Sim.pur _ _)))))))))))
def f_addNode_b35 (m : OMem) : Option (Int × OMem) := some ((-1), m)
set_option maxRecDepth 65536 in
set_option maxHeartbeats 16000000 in
theorem f_addNode_b35_ok (m : OMem) : Sim (f_addNode_b35 m) (fun (r, w0) _ => some (some (vi r), 38, w0)) (fun n => R n 4 35 [qn, qn, qn, qn, qn, qn, qn] [] 38 m) :=
  Sim.shift 2 (G := (fun _ => some (some (vi (-1)), 38, m))) (fun _ => rfl) (Sim.pur _ _)
def f_addNode_b49 (m : OMem) : Option (Int × OMem) := some ((-1), m)
set_option maxRecDepth 65536 in
set_option maxHeartbeats 16000000 in
theorem f_addNode_b49_ok (m : OMem) : Sim (f_addNode_b49 m) (fun (r, w0) _ => some (some (vi r), 38, w0)) (fun n => R n 4 49 [qn, qn, qn, qn, qn, qn, qn] [] 38 m) :=
  Sim.shift 2 (G := (fun _ => some (some (vi (-1)), 38, m))) (fun _ => rfl) (Sim.pur _ _)
def f_addNode_l57_H (m : OMem) (x1 x2 x3 x4 x5 : Int) : Int → Nat → RT := fun x6 n => R n 4 57 [qr 0, qi x1, qi x2, qi x3, qi x4, qi x5, qi x6] [] 38 m
def f_addNode_l57_X (m : OMem) (x1 x2 x3 x4 x5 : Int) : (Int) ⊕ (Unit) → Nat → RT := fun e n => match e with | (.inl y6) => R n 4 83 [qr 0, qi x1, qi x2, qi x3, qi x4, qn, qi y6] [] 38 m | (.inr _) => R n 4 96 [qr 0, qi x1, qi x2, qi x3, qi x4, qi x5, qn] [] 38 m
def f_addNode_l57 (m : OMem) (x1 x2 x3 x4 x5 : Int) : Int → Option ((Int) ⊕ ((Int) ⊕ (Unit))) := fun x6 => if x6 < m 0 19 then (if x6 < 8 then (if 0 ≤ x6 ∧ x6 < 8 then (if m 1 x6 = 0 then (some (.inr (.inl x6))) else (some (.inl (w32 (x6 + 1))))) else none) else (some (.inr (.inr ())))) else (some (.inr (.inr ())))
set_option maxRecDepth 65536 in
set_option maxHeartbeats 16000000 in
theorem f_addNode_l57_ok (m : OMem) (x1 x2 x3 x4 x5 : Int) (x6 : Int) : Sim (f_addNode_l57 m x1 x2 x3 x4 x5 x6) (Sum.elim (f_addNode_l57_H m x1 x2 x3 x4 x5 ) (f_addNode_l57_X m x1 x2 x3 x4 x5 )) (f_addNode_l57_H m x1 x2 x3 x4 x5 x6) :=
  Sim.shift 4 (G := fun n => if x6 < m 0 19 then R n 4 66 [qr 0, qi x1, qi x2, qi x3, qi x4, qi x5, qi x6] [] 38 m else R n 4 96 [qr 0, qi x1, qi x2, qi x3, qi x4, qi x5, qi x6] [] 38 m) (fun _ => rfl) (Sim.ite (fun _ => Sim.shift 3 (G := fun n => if x6 < 8 then R n 4 73 [qr 0, qi x1, qi x2, qi x3, qi x4, qi x5, qi x6] [] 38 m else R n 4 96 [qr 0, qi x1, qi x2, qi x3, qi x4, qi x5, qi x6] [] 38 m) (fun _ => rfl) (Sim.ite (fun _ => Sim.shift 4 (G := fun n => if 0 ≤ x6 ∧ x6 < 8 then R n 4 80 [qr 0, qi x1, qi x2, qi x3, qi x4, qi x5, qi x6] [vi (m 1 x6)] 38 m else none) (fun _ => rfl) (Sim.grd fun _ => Sim.shift 1 (G := fun n => if m 1 x6 = 0 then R n 4 83 [qr 0, qi x1, qi x2, qi x3, qi x4, qi x5, qi x6] [] 38 m else R n 4 90 [qr 0, qi x1, qi x2, qi x3, qi x4, qi x5, qi x6] [] 38 m) (fun _ => rfl) (Sim.ite (fun _ => Sim.leaf rfl (fun _ => rfl)) (fun _ => Sim.shift 2 (G := fun n => R n 4 57 [qr 0, qi x1, qi x2, qi x3, qi x4, qi x5, qi (w32 (x6 + 1))] [] 38 m) (fun _ => rfl) (Sim.pur _ _))))) (fun _ => Sim.leaf rfl (fun _ => rfl)))) (fun _ => Sim.leaf rfl (fun _ => rfl)))
def f_addNode_b96 (x1 x2 x3 x4 x5 : Int) (m : OMem) : Option (Int × OMem) := if x5 < 0 then (some ((-1), m)) else (if 0 ≤ x5 ∧ x5 < 8 then (if 0 ≤ x5 ∧ x5 < 8 then (if 0 ≤ x5 ∧ x5 < 8 then (if 0 ≤ x5 ∧ x5 < 8 then (if 0 ≤ x5 ∧ x5 < 8 then (if 0 ≤ x5 ∧ x5 < 8 then (some (x5, sto (sto (sto (sto (sto (sto m 1 x5 1) 2 x5 x1) 3 x5 x2) 4 x5 x3) 5 x5 (and32 x4 255)) 6 x5 (and32 (shr32 x4 8) 255))) else none) else none) else none) else none) else none) else none)
set_option maxRecDepth 65536 in
set_option maxHeartbeats 16000000 in
theorem f_addNode_b96_ok (x1 x2 x3 x4 x5 : Int) (m : OMem) : Sim (f_addNode_b96 x1 x2 x3 x4 x5 m) (fun (r, w0) _ => some (some (vi r), 38, w0)) (fun n => R n 4 96 [qr 0, qi x1, qi x2, qi x3, qi x4, qi x5, qn] [] 38 m) :=
  Sim.shift 2 (G := fun n => if x5 < 0 then R n 4 101 [qr 0, qi x1, qi x2, qi x3, qi x4, qi x5, qn] [] 38 m else R n 4 103 [qr 0, qi x1, qi x2, qi x3, qi x4, qi x5, qn] [] 38 m) (fun _ => rfl) (Sim.ite (fun _ => Sim.shift 2 (G := (fun _ => some (some (vi (-1)), 38, m))) (fun _ => rfl) (Sim.pur _ _)) (fun _ => Sim.shift 5 (G := fun n => if 0 ≤ x5 ∧ x5 < 8 then R n 4 111 [qr 0, qi x1, qi x2, qi x3, qi x4, qi x5, qn] [] 38 (sto m 1 x5 1) else none) (fun _ => rfl) (Sim.grd fun _ => Sim.shift 5 (G := fun n => if 0 ≤ x5 ∧ x5 < 8 then R n 4 119 [qr 0, qi x1, qi x2, qi x3, qi x4, qi x5, qn] [] 38 (sto (sto m 1 x5 1) 2 x5 x1) else none) (fun _ => rfl) (Sim.grd fun _ => Sim.shift 5 (G := fun n => if 0 ≤ x5 ∧ x5 < 8 then R n 4 127 [qr 0, qi x1, qi x2, qi x3, qi x4, qi x5, qn] [] 38 (sto (sto (sto m 1 x5 1) 2 x5 x1) 3 x5 x2) else none) (fun _ => rfl) (Sim.grd fun _ => Sim.shift 5 (G := fun n => if 0 ≤ x5 ∧ x5 < 8 then R n 4 135 [qr 0, qi x1, qi x2, qi x3, qi x4, qi x5, qn] [] 38 (sto (sto (sto (sto m 1 x5 1) 2 x5 x1) 3 x5 x2) 4 x5 x3) else none) (fun _ => rfl) (Sim.grd fun _ => Sim.shift 7 (G := fun n => if 0 ≤ x5 ∧ x5 < 8 then R n 4 148 [qr 0, qi x1, qi x2, qi x3, qi x4, qi x5, qn] [] 38 (sto (sto (sto (sto (sto m 1 x5 1) 2 x5 x1) 3 x5 x2) 4 x5 x3) 5 x5 (and32 x4 255)) else none) (fun _ => rfl) (Sim.grd fun _ => Sim.shift 7 (G := fun n => R n 4 162 [qr 0, qi x1, qi x2, qi x3, qi x4, qi x5, qn] [vi 255, vi (shr32 x4 8), vi x5, vr 6] 38 (sto (sto (sto (sto (sto m 1 x5 1) 2 x5 x1) 3 x5 x2) 4 x5 x3) 5 x5 (and32 x4 255))) (fun _ => rfl) (Sim.shift 2 (G := fun n => if 0 ≤ x5 ∧ x5 < 8 then R n 4 164 [qr 0, qi x1, qi x2, qi x3, qi x4, qi x5, qn] [] 38 (sto (sto (sto (sto (sto (sto m 1 x5 1) 2 x5 x1) 3 x5 x2) 4 x5 x3) 5 x5 (and32 x4 255)) 6 x5 (and32 (shr32 x4 8) 255)) else none) (fun _ => rfl) (Sim.grd fun _ => Sim.shift 2 (G := (fun _ => some (some (vi x5), 38, sto (sto (sto (sto (sto (sto m 1 x5 1) 2 x5 x1) 3 x5 x2) 4 x5 x3) 5 x5 (and32 x4 255)) 6 x5 (and32 (shr32 x4 8) 255)))) (fun _ => rfl) (Sim.pur _ _))))))))))
def f_addNode (x1 x2 x3 x4 : Int) (m : OMem) : Option (Int × OMem) := if x1 < 1 then (f_addNode_b35 m) else (if 1000 < x1 then (f_addNode_b35 m) else (if x2 < 1 then (f_addNode_b35 m) else (if 1000 < x2 then (f_addNode_b35 m) else (if x3 < 1 then (f_addNode_b35 m) else (if 8 < x3 then (f_addNode_b35 m) else (if x4 < 0 then (f_addNode_b49 m) else (if 65535 < x4 then (f_addNode_b49 m) else ((lp (f_addNode_l57 m x1 x2 x3 x4 (-1)) NN 0).bind fun e => match e with | (.inl x6_5) => (f_addNode_b96 x1 x2 x3 x4 x6_5 m) | (.inr _) => (f_addNode_b96 x1 x2 x3 x4 (-1) m)))))))))
set_option maxRecDepth 65536 in
set_option maxHeartbeats 16000000 in
theorem f_addNode_ok (x1 x2 x3 x4 : Int) (m : OMem) : Sim (f_addNode x1 x2 x3 x4 m) (fun (r, w0) _ => some (some (vi r), 38, w0)) (fun n => R n 4 0 [qr 0, qi x1, qi x2, qi x3, qi x4, qn, qn] [] 38 m) :=
  Sim.shift 3 (G := fun n => if x1 < 1 then R n 4 35 [qr 0, qi x1, qi x2, qi x3, qi x4, qn, qn] [] 38 m else R n 4 5 [qr 0, qi x1, qi x2, qi x3, qi x4, qn, qn] [] 38 m) (fun _ => rfl) (Sim.ite (fun _ => Sim.jmp (f_addNode_b35_ok m) rfl (fun _ => rfl)) (fun _ => Sim.shift 3 (G := fun n => if 1000 < x1 then R n 4 35 [qr 0, qi x1, qi x2, qi x3, qi x4, qn, qn] [] 38 m else R n 4 12 [qr 0, qi x1, qi x2, qi x3, qi x4, qn, qn] [] 38 m) (fun _ => rfl) (Sim.ite (fun _ => Sim.jmp (f_addNode_b35_ok m) rfl (fun _ => rfl)) (fun _ => Sim.shift 3 (G := fun n => if x2 < 1 then R n 4 35 [qr 0, qi x1, qi x2, qi x3, qi x4, qn, qn] [] 38 m else R n 4 17 [qr 0, qi x1, qi x2, qi x3, qi x4, qn, qn] [] 38 m) (fun _ => rfl) (Sim.ite (fun _ => Sim.jmp (f_addNode_b35_ok m) rfl (fun _ => rfl)) (fun _ => Sim.shift 3 (G := fun n => if 1000 < x2 then R n 4 35 [qr 0, qi x1, qi x2, qi x3, qi x4, qn, qn] [] 38 m else R n 4 24 [qr 0, qi x1, qi x2, qi x3, qi x4, qn, qn] [] 38 m) (fun _ => rfl) (Sim.ite (fun _ => Sim.jmp (f_addNode_b35_ok m) rfl (fun _ => rfl)) (fun _ => Sim.shift 3 (G := fun n => if x3 < 1 then R n 4 35 [qr 0, qi x1, qi x2, qi x3, qi x4, qn, qn] [] 38 m else R n 4 29 [qr 0, qi x1, qi x2, qi x3, qi x4, qn, qn] [] 38 m) (fun _ => rfl) (Sim.ite (fun _ => Sim.jmp (f_addNode_b35_ok m) rfl (fun _ => rfl)) (fun _ => Sim.shift 3 (G := fun n => if 8 < x3 then R n 4 35 [qr 0, qi x1, qi x2, qi x3, qi x4, qn, qn] [] 38 m else R n 4 37 [qr 0, qi x1, qi x2, qi x3, qi x4, qn, qn] [] 38 m) (fun _ => rfl) (Sim.ite (fun _ => Sim.jmp (f_addNode_b35_ok m) rfl (fun _ => rfl)) (fun _ => Sim.shift 2 (G := fun n => if x4 < 0 then R n 4 49 [qr 0, qi x1, qi x2, qi x3, qi x4, qn, qn] [] 38 m else R n 4 42 [qr 0, qi x1, qi x2, qi x3, qi x4, qn, qn] [] 38 m) (fun _ => rfl) (Sim.ite (fun _ => Sim.jmp (f_addNode_b49_ok m) rfl (fun _ => rfl)) (fun _ => Sim.shift 3 (G := fun n => if 65535 < x4 then R n 4 49 [qr 0, qi x1, qi x2, qi x3, qi x4, qn, qn] [] 38 m else R n 4 51 [qr 0, qi x1, qi x2, qi x3, qi x4, qn, qn] [] 38 m) (fun _ => rfl) (Sim.ite (fun _ => Sim.jmp (f_addNode_b49_ok m) rfl (fun _ => rfl)) (fun _ => Sim.shift 4 (G := fun n => R n 4 57 [qr 0, qi x1, qi x2, qi x3, qi x4, qi (-1), qi 0] [] 38 m) (fun _ => rfl) (Sim.bind (Sim.lp (σ := Int) (fun x6L => f_addNode_l57_ok m x1 x2 x3 x4 (-1) x6L) NN 0) (fun e => match e with | (.inl x6_5) => Sim.shift 3 (G := fun n => R n 4 96 [qr 0, qi x1, qi x2, qi x3, qi x4, qi x6_5, qi x6_5] [] 38 m) (fun _ => rfl) (Sim.jmp (f_addNode_b96_ok x1 x2 x3 x4 x6_5 m) rfl (fun _ => rfl)) | (.inr _) => f_addNode_b96_ok x1 x2 x3 x4 (-1) m))))))))))))))))))
def f_queue (x1 : Int) (m : OMem) : Option (OMem) := if 0 ≤ x1 ∧ x1 < 16 then (if 0 ≤ x1 ∧ x1 < 16 then (if 0 ≤ x1 ∧ x1 < 16 then (some (sto (sto (sto (sto m 15 x1 (m 0 21)) 0 21 (w32 ((m 0 21) + 1))) 7 x1 1) 8 x1 (-1))) else none) else none) else none
set_option maxRecDepth 65536 in
set_option maxHeartbeats 16000000 in
theorem f_queue_ok (x1 : Int) (m : OMem) : Sim (f_queue x1 m) (fun w0 _ => some (none, 38, w0)) (fun n => R n 6 0 [qr 0, qi x1] [] 38 m) :=
  Sim.shift 6 (G := fun n => if 0 ≤ x1 ∧ x1 < 16 then R n 6 10 [qr 0, qi x1] [] 38 (sto m 15 x1 (m 0 21)) else none) (fun _ => rfl) (Sim.grd fun _ => Sim.shift 8 (G := fun n => R n 6 24 [qr 0, qi x1] [vr 7] 38 (sto (sto m 15 x1 (m 0 21)) 0 21 (w32 ((m 0 21) + 1)))) (fun _ => rfl) (Sim.shift 3 (G := fun n => if 0 ≤ x1 ∧ x1 < 16 then R n 6 27 [qr 0, qi x1] [] 38 (sto (sto (sto m 15 x1 (m 0 21)) 0 21 (w32 ((m 0 21) + 1))) 7 x1 1) else none) (fun _ => rfl) (Sim.grd fun _ => Sim.shift 5 (G := fun n => if 0 ≤ x1 ∧ x1 < 16 then R n 6 34 [qr 0, qi x1] [] 38 (sto (sto (sto (sto m 15 x1 (m 0 21)) 0 21 (w32 ((m 0 21) + 1))) 7 x1 1) 8 x1 (-1)) else none) (fun _ => rfl) (Sim.grd fun _ => Sim.shift 1 (G := (fun _ => some (none, 38, sto (sto (sto (sto m 15 x1 (m 0 21)) 0 21 (w32 ((m 0 21) + 1))) 7 x1 1) 8 x1 (-1)))) (fun _ => rfl) (Sim.pur _ _)))))
def f_createPod_b24 (m : OMem) : Option (Int × OMem) := some ((-1), m)
set_option maxRecDepth 65536 in
set_option maxHeartbeats 16000000 in
theorem f_createPod_b24_ok (m : OMem) : Sim (f_createPod_b24 m) (fun (r, w0) _ => some (some (vi r), 38, w0)) (fun n => R n 5 24 [qn, qn, qn, qn, qn, qn, qn] [] 38 m) :=
  Sim.shift 2 (G := (fun _ => some (some (vi (-1)), 38, m))) (fun _ => rfl) (Sim.pur _ _)
def f_createPod_b49 (m : OMem) : Option (Int × OMem) := some ((-1), m)
set_option maxRecDepth 65536 in
set_option maxHeartbeats 16000000 in
theorem f_createPod_b49_ok (m : OMem) : Sim (f_createPod_b49 m) (fun (r, w0) _ => some (some (vi r), 38, w0)) (fun n => R n 5 49 [qn, qn, qn, qn, qn, qn, qn] [] 38 m) :=
  Sim.shift 2 (G := (fun _ => some (some (vi (-1)), 38, m))) (fun _ => rfl) (Sim.pur _ _)
def f_createPod_l57_H (m : OMem) (x1 x2 x3 x4 x5 : Int) : Int → Nat → RT := fun x6 n => R n 5 57 [qr 0, qi x1, qi x2, qi x3, qi x4, qi x5, qi x6] [] 38 m
def f_createPod_l57_X (m : OMem) (x1 x2 x3 x4 x5 : Int) : (Int) ⊕ (Unit) → Nat → RT := fun e n => match e with | (.inl y6) => R n 5 83 [qr 0, qi x1, qi x2, qi x3, qi x4, qn, qi y6] [] 38 m | (.inr _) => R n 5 96 [qr 0, qi x1, qi x2, qi x3, qi x4, qi x5, qn] [] 38 m
def f_createPod_l57 (m : OMem) (x1 x2 x3 x4 x5 : Int) : Int → Option ((Int) ⊕ ((Int) ⊕ (Unit))) := fun x6 => if x6 < m 0 20 then (if x6 < 16 then (if 0 ≤ x6 ∧ x6 < 16 then (if m 7 x6 = 0 then (some (.inr (.inl x6))) else (some (.inl (w32 (x6 + 1))))) else none) else (some (.inr (.inr ())))) else (some (.inr (.inr ())))
set_option maxRecDepth 65536 in
set_option maxHeartbeats 16000000 in
theorem f_createPod_l57_ok (m : OMem) (x1 x2 x3 x4 x5 : Int) (x6 : Int) : Sim (f_createPod_l57 m x1 x2 x3 x4 x5 x6) (Sum.elim (f_createPod_l57_H m x1 x2 x3 x4 x5 ) (f_createPod_l57_X m x1 x2 x3 x4 x5 )) (f_createPod_l57_H m x1 x2 x3 x4 x5 x6) :=
  Sim.shift 4 (G := fun n => if x6 < m 0 20 then R n 5 66 [qr 0, qi x1, qi x2, qi x3, qi x4, qi x5, qi x6] [] 38 m else R n 5 96 [qr 0, qi x1, qi x2, qi x3, qi x4, qi x5, qi x6] [] 38 m) (fun _ => rfl) (Sim.ite (fun _ => Sim.shift 3 (G := fun n => if x6 < 16 then R n 5 73 [qr 0, qi x1, qi x2, qi x3, qi x4, qi x5, qi x6] [] 38 m else R n 5 96 [qr 0, qi x1, qi x2, qi x3, qi x4, qi x5, qi x6] [] 38 m) (fun _ => rfl) (Sim.ite (fun _ => Sim.shift 4 (G := fun n => if 0 ≤ x6 ∧ x6 < 16 then R n 5 80 [qr 0, qi x1, qi x2, qi x3, qi x4, qi x5, qi x6] [vi (m 7 x6)] 38 m else none) (fun _ => rfl) (Sim.grd fun _ => Sim.shift 1 (G := fun n => if m 7 x6 = 0 then R n 5 83 [qr 0, qi x1, qi x2, qi x3, qi x4, qi x5, qi x6] [] 38 m else R n 5 90 [qr 0, qi x1, qi x2, qi x3, qi x4, qi x5, qi x6] [] 38 m) (fun _ => rfl) (Sim.ite (fun _ => Sim.leaf rfl (fun _ => rfl)) (fun _ => Sim.shift 2 (G := fun n => R n 5 57 [qr 0, qi x1, qi x2, qi x3, qi x4, qi x5, qi (w32 (x6 + 1))] [] 38 m) (fun _ => rfl) (Sim.pur _ _))))) (fun _ => Sim.leaf rfl (fun _ => rfl)))) (fun _ => Sim.leaf rfl (fun _ => rfl)))
def f_createPod_b96 (x1 x2 x3 x4 x5 : Int) (m : OMem) : Option (Int × OMem) := if x5 < 0 then (some ((-1), m)) else (if 0 ≤ x5 ∧ x5 < 16 then (if 0 ≤ x5 ∧ x5 < 16 then (if 0 ≤ x5 ∧ x5 < 16 then (if 0 ≤ x5 ∧ x5 < 16 then (if 0 ≤ x5 ∧ x5 < 16 then (if 0 ≤ x5 ∧ x5 < 16 then ((f_queue x5 (sto (sto (sto (sto (sto (sto m 9 x5 x1) 10 x5 x2) 11 x5 x3) 12 x5 (and32 x4 255)) 13 x5 (and32 (shr32 x4 8) 255)) 14 x5 (and32 (shr32 x4 16) 15))).bind fun m_7 => (some (x5, m_7))) else none) else none) else none) else none) else none) else none)
set_option maxRecDepth 65536 in
set_option maxHeartbeats 16000000 in
theorem f_createPod_b96_ok (x1 x2 x3 x4 x5 : Int) (m : OMem) : Sim (f_createPod_b96 x1 x2 x3 x4 x5 m) (fun (r, w0) _ => some (some (vi r), 38, w0)) (fun n => R n 5 96 [qr 0, qi x1, qi x2, qi x3, qi x4, qi x5, qn] [] 38 m) :=
  Sim.shift 2 (G := fun n => if x5 < 0 then R n 5 101 [qr 0, qi x1, qi x2, qi x3, qi x4, qi x5, qn] [] 38 m else R n 5 103 [qr 0, qi x1, qi x2, qi x3, qi x4, qi x5, qn] [] 38 m) (fun _ => rfl) (Sim.ite (fun _ => Sim.shift 2 (G := (fun _ => some (some (vi (-1)), 38, m))) (fun _ => rfl) (Sim.pur _ _)) (fun _ => Sim.shift 5 (G := fun n => if 0 ≤ x5 ∧ x5 < 16 then R n 5 111 [qr 0, qi x1, qi x2, qi x3, qi x4, qi x5, qn] [] 38 (sto m 9 x5 x1) else none) (fun _ => rfl) (Sim.grd fun _ => Sim.shift 5 (G := fun n => if 0 ≤ x5 ∧ x5 < 16 then R n 5 119 [qr 0, qi x1, qi x2, qi x3, qi x4, qi x5, qn] [] 38 (sto (sto m 9 x5 x1) 10 x5 x2) else none) (fun _ => rfl) (Sim.grd fun _ => Sim.shift 5 (G := fun n => if 0 ≤ x5 ∧ x5 < 16 then R n 5 127 [qr 0, qi x1, qi x2, qi x3, qi x4, qi x5, qn] [] 38 (sto (sto (sto m 9 x5 x1) 10 x5 x2) 11 x5 x3) else none) (fun _ => rfl) (Sim.grd fun _ => Sim.shift 7 (G := fun n => if 0 ≤ x5 ∧ x5 < 16 then R n 5 140 [qr 0, qi x1, qi x2, qi x3, qi x4, qi x5, qn] [] 38 (sto (sto (sto (sto m 9 x5 x1) 10 x5 x2) 11 x5 x3) 12 x5 (and32 x4 255)) else none) (fun _ => rfl) (Sim.grd fun _ => Sim.shift 7 (G := fun n => R n 5 154 [qr 0, qi x1, qi x2, qi x3, qi x4, qi x5, qn] [vi 255, vi (shr32 x4 8), vi x5, vr 13] 38 (sto (sto (sto (sto m 9 x5 x1) 10 x5 x2) 11 x5 x3) 12 x5 (and32 x4 255))) (fun _ => rfl) (Sim.shift 2 (G := fun n => if 0 ≤ x5 ∧ x5 < 16 then R n 5 156 [qr 0, qi x1, qi x2, qi x3, qi x4, qi x5, qn] [] 38 (sto (sto (sto (sto (sto m 9 x5 x1) 10 x5 x2) 11 x5 x3) 12 x5 (and32 x4 255)) 13 x5 (and32 (shr32 x4 8) 255)) else none) (fun _ => rfl) (Sim.grd fun _ => Sim.shift 7 (G := fun n => R n 5 169 [qr 0, qi x1, qi x2, qi x3, qi x4, qi x5, qn] [vi 15, vi (shr32 x4 16), vi x5, vr 14] 38 (sto (sto (sto (sto (sto m 9 x5 x1) 10 x5 x2) 11 x5 x3) 12 x5 (and32 x4 255)) 13 x5 (and32 (shr32 x4 8) 255))) (fun _ => rfl) (Sim.shift 2 (G := fun n => if 0 ≤ x5 ∧ x5 < 16 then R n 5 171 [qr 0, qi x1, qi x2, qi x3, qi x4, qi x5, qn] [] 38 (sto (sto (sto (sto (sto (sto m 9 x5 x1) 10 x5 x2) 11 x5 x3) 12 x5 (and32 x4 255)) 13 x5 (and32 (shr32 x4 8) 255)) 14 x5 (and32 (shr32 x4 16) 15)) else none) (fun _ => rfl) (Sim.grd fun _ => Sim.shift 3 (G := fun n => (R n 6 0 [qr 0, qi x5] [] 38 (sto (sto (sto (sto (sto (sto m 9 x5 x1) 10 x5 x2) 11 x5 x3) 12 x5 (and32 x4 255)) 13 x5 (and32 (shr32 x4 8) 255)) 14 x5 (and32 (shr32 x4 16) 15))).bind fun y => Rr n 5 177 [qr 0, qi x1, qi x2, qi x3, qi x4, qi x5, qn] [] y) (fun _ => rfl) (Sim.call (f_queue_ok x5 (sto (sto (sto (sto (sto (sto m 9 x5 x1) 10 x5 x2) 11 x5 x3) 12 x5 (and32 x4 255)) 13 x5 (and32 (shr32 x4 8) 255)) 14 x5 (and32 (shr32 x4 16) 15))) (fun _ _ => rfl) (runP_mono _ _ _ _ _ _) (fun _ => runP_mono _ _ _ _ _ _) (fun m_7 => Sim.shift 0 (G := fun n => R n 5 177 [qr 0, qi x1, qi x2, qi x3, qi x4, qi x5, qn] [] 38 m_7) (fun _ => rfl) (Sim.shift 2 (G := (fun _ => some (some (vi x5), 38, m_7))) (fun _ => rfl) (Sim.pur _ _))))))))))))))
def f_createPod (x1 x2 x3 x4 : Int) (m : OMem) : Option (Int × OMem) := if x1 < 1 then (f_createPod_b24 m) else (if 1000 < x1 then (f_createPod_b24 m) else (if x2 < 1 then (f_createPod_b24 m) else (if 1000 < x2 then (f_createPod_b24 m) else (if x3 < 0 then (f_createPod_b49 m) else (if 1000 < x3 then (f_createPod_b49 m) else (if x4 < 0 then (f_createPod_b49 m) else (if 1048575 < x4 then (f_createPod_b49 m) else ((lp (f_createPod_l57 m x1 x2 x3 x4 (-1)) NN 0).bind fun e => match e with | (.inl x6_6) => (f_createPod_b96 x1 x2 x3 x4 x6_6 m) | (.inr _) => (f_createPod_b96 x1 x2 x3 x4 (-1) m)))))))))
set_option maxRecDepth 65536 in
set_option maxHeartbeats 16000000 in
theorem f_createPod_ok (x1 x2 x3 x4 : Int) (m : OMem) : Sim (f_createPod x1 x2 x3 x4 m) (fun (r, w0) _ => some (some (vi r), 38, w0)) (fun n => R n 5 0 [qr 0, qi x1, qi x2, qi x3, qi x4, qn, qn] [] 38 m) :=
  Sim.shift 3 (G := fun n => if x1 < 1 then R n 5 24 [qr 0, qi x1, qi x2, qi x3, qi x4, qn, qn] [] 38 m else R n 5 5 [qr 0, qi x1, qi x2, qi x3, qi x4, qn, qn] [] 38 m) (fun _ => rfl) (Sim.ite (fun _ => Sim.jmp (f_createPod_b24_ok m) rfl (fun _ => rfl)) (fun _ => Sim.shift 3 (G := fun n => if 1000 < x1 then R n 5 24 [qr 0, qi x1, qi x2, qi x3, qi x4, qn, qn] [] 38 m else R n 5 12 [qr 0, qi x1, qi x2, qi x3, qi x4, qn, qn] [] 38 m) (fun _ => rfl) (Sim.ite (fun _ => Sim.jmp (f_createPod_b24_ok m) rfl (fun _ => rfl)) (fun _ => Sim.shift 3 (G := fun n => if x2 < 1 then R n 5 24 [qr 0, qi x1, qi x2, qi x3, qi x4, qn, qn] [] 38 m else R n 5 17 [qr 0, qi x1, qi x2, qi x3, qi x4, qn, qn] [] 38 m) (fun _ => rfl) (Sim.ite (fun _ => Sim.jmp (f_createPod_b24_ok m) rfl (fun _ => rfl)) (fun _ => Sim.shift 3 (G := fun n => if 1000 < x2 then R n 5 24 [qr 0, qi x1, qi x2, qi x3, qi x4, qn, qn] [] 38 m else R n 5 26 [qr 0, qi x1, qi x2, qi x3, qi x4, qn, qn] [] 38 m) (fun _ => rfl) (Sim.ite (fun _ => Sim.jmp (f_createPod_b24_ok m) rfl (fun _ => rfl)) (fun _ => Sim.shift 2 (G := fun n => if x3 < 0 then R n 5 49 [qr 0, qi x1, qi x2, qi x3, qi x4, qn, qn] [] 38 m else R n 5 30 [qr 0, qi x1, qi x2, qi x3, qi x4, qn, qn] [] 38 m) (fun _ => rfl) (Sim.ite (fun _ => Sim.jmp (f_createPod_b49_ok m) rfl (fun _ => rfl)) (fun _ => Sim.shift 3 (G := fun n => if 1000 < x3 then R n 5 49 [qr 0, qi x1, qi x2, qi x3, qi x4, qn, qn] [] 38 m else R n 5 37 [qr 0, qi x1, qi x2, qi x3, qi x4, qn, qn] [] 38 m) (fun _ => rfl) (Sim.ite (fun _ => Sim.jmp (f_createPod_b49_ok m) rfl (fun _ => rfl)) (fun _ => Sim.shift 2 (G := fun n => if x4 < 0 then R n 5 49 [qr 0, qi x1, qi x2, qi x3, qi x4, qn, qn] [] 38 m else R n 5 42 [qr 0, qi x1, qi x2, qi x3, qi x4, qn, qn] [] 38 m) (fun _ => rfl) (Sim.ite (fun _ => Sim.jmp (f_createPod_b49_ok m) rfl (fun _ => rfl)) (fun _ => Sim.shift 3 (G := fun n => if 1048575 < x4 then R n 5 49 [qr 0, qi x1, qi x2, qi x3, qi x4, qn, qn] [] 38 m else R n 5 51 [qr 0, qi x1, qi x2, qi x3, qi x4, qn, qn] [] 38 m) (fun _ => rfl) (Sim.ite (fun _ => Sim.jmp (f_createPod_b49_ok m) rfl (fun _ => rfl)) (fun _ => Sim.shift 4 (G := fun n => R n 5 57 [qr 0, qi x1, qi x2, qi x3, qi x4, qi (-1), qi 0] [] 38 m) (fun _ => rfl) (Sim.bind (Sim.lp (σ := Int) (fun x6L => f_createPod_l57_ok m x1 x2 x3 x4 (-1) x6L) NN 0) (fun e => match e with | (.inl x6_6) => Sim.shift 3 (G := fun n => R n 5 96 [qr 0, qi x1, qi x2, qi x3, qi x4, qi x6_6, qi x6_6] [] 38 m) (fun _ => rfl) (Sim.jmp (f_createPod_b96_ok x1 x2 x3 x4 x6_6 m) rfl (fun _ => rfl)) | (.inr _) => f_createPod_b96_ok x1 x2 x3 x4 (-1) m))))))))))))))))))
def f_validNode_b32 (s0 : Int) (m : OMem) : Option (Int) := some (s0 % 2)
set_option maxRecDepth 65536 in
set_option maxHeartbeats 16000000 in
theorem f_validNode_b32_ok (s0 : Int) (m : OMem) : Sim (f_validNode_b32 s0 m) (fun r _ => some (some (vi r), 38, m)) (fun n => R n 8 32 [qn, qn] [vi s0] 38 m) :=
  Sim.shift 1 (G := (fun _ => some (some (vi (s0 % 2)), 38, m))) (fun _ => rfl) (Sim.pur _ _)
def f_validNode_b31 (m : OMem) : Option (Int) := f_validNode_b32 0 m
set_option maxRecDepth 65536 in
set_option maxHeartbeats 16000000 in
theorem f_validNode_b31_ok (m : OMem) : Sim (f_validNode_b31 m) (fun r _ => some (some (vi r), 38, m)) (fun n => R n 8 31 [qn, qn] [] 38 m) :=
  Sim.shift 1 (G := fun n => R n 8 32 [qn, qn] [vi 0] 38 m) (fun _ => rfl) (f_validNode_b32_ok 0 m)
def f_validNode (x1 : Int) (m : OMem) : Option (Int) := if x1 < 0 then (f_validNode_b31 m) else (if x1 < m 0 19 then (if x1 < 8 then (if 0 ≤ x1 ∧ x1 < 8 then (if m 1 x1 = 0 then (f_validNode_b31 m) else (f_validNode_b32 1 m)) else none) else (f_validNode_b31 m)) else (f_validNode_b31 m))
set_option maxRecDepth 65536 in
set_option maxHeartbeats 16000000 in
theorem f_validNode_ok (x1 : Int) (m : OMem) : Sim (f_validNode x1 m) (fun r _ => some (some (vi r), 38, m)) (fun n => R n 8 0 [qr 0, qi x1] [] 38 m) :=
  Sim.shift 2 (G := fun n => if x1 < 0 then R n 8 31 [qr 0, qi x1] [] 38 m else R n 8 4 [qr 0, qi x1] [] 38 m) (fun _ => rfl) (Sim.ite (fun _ => Sim.jmp (f_validNode_b31_ok m) rfl (fun _ => rfl)) (fun _ => Sim.shift 4 (G := fun n => if x1 < m 0 19 then R n 8 12 [qr 0, qi x1] [] 38 m else R n 8 31 [qr 0, qi x1] [] 38 m) (fun _ => rfl) (Sim.ite (fun _ => Sim.shift 3 (G := fun n => if x1 < 8 then R n 8 18 [qr 0, qi x1] [] 38 m else R n 8 31 [qr 0, qi x1] [] 38 m) (fun _ => rfl) (Sim.ite (fun _ => Sim.shift 4 (G := fun n => if 0 ≤ x1 ∧ x1 < 8 then R n 8 24 [qr 0, qi x1] [vi (m 1 x1)] 38 m else none) (fun _ => rfl) (Sim.grd fun _ => Sim.shift 1 (G := fun n => if m 1 x1 = 0 then R n 8 31 [qr 0, qi x1] [] 38 m else R n 8 27 [qr 0, qi x1] [] 38 m) (fun _ => rfl) (Sim.ite (fun _ => Sim.jmp (f_validNode_b31_ok m) rfl (fun _ => rfl)) (fun _ => Sim.shift 2 (G := fun n => R n 8 32 [qn, qn] [vi 1] 38 m) (fun _ => rfl) (f_validNode_b32_ok 1 m))))) (fun _ => Sim.jmp (f_validNode_b31_ok m) rfl (fun _ => rfl)))) (fun _ => Sim.jmp (f_validNode_b31_ok m) rfl (fun _ => rfl)))))
def f_removeNode_l14_H (x1 : Int) : Int × Int × OMem → Nat → RT := fun (x2, x3, m) n => R n 7 14 [qr 0, qi x1, qi x2, qi x3] [] 38 m
def f_removeNode_l14_X (x1 : Int) : (Int × OMem) → Nat → RT := fun e n => match e with | (y2, w) => R n 7 62 [qr 0, qi x1, qi y2, qn] [] 38 w
def f_removeNode_b56 (x1 x2 x3 : Int) (m : OMem) : Option ((Int × Int × OMem) ⊕ ((Int × OMem))) := some (.inl (x2, w32 (x3 + 1), m))
set_option maxRecDepth 65536 in
set_option maxHeartbeats 16000000 in
theorem f_removeNode_b56_ok (x1 x2 x3 : Int) (m : OMem) : Sim (f_removeNode_b56 x1 x2 x3 m) (Sum.elim (f_removeNode_l14_H x1 ) (f_removeNode_l14_X x1 )) (fun n => R n 7 56 [qr 0, qi x1, qi x2, qi x3] [] 38 m) :=
  Sim.shift 2 (G := fun n => R n 7 14 [qr 0, qi x1, qi x2, qi (w32 (x3 + 1))] [] 38 m) (fun _ => rfl) (Sim.pur _ _)
def f_removeNode_l14 (x1 : Int) : Int × Int × OMem → Option ((Int × Int × OMem) ⊕ ((Int × OMem))) := fun (x2, x3, m) => if x3 < m 0 20 then (if x3 < 16 then (if 0 ≤ x3 ∧ x3 < 16 then (if m 7 x3 = 2 then (if 0 ≤ x3 ∧ x3 < 16 then (if m 8 x3 = x1 then ((f_queue x3 m).bind fun m_9 => (f_removeNode_b56 x1 (w32 (x2 + 1)) x3 m_9)) else (f_removeNode_b56 x1 x2 x3 m)) else none) else (f_removeNode_b56 x1 x2 x3 m)) else none) else (some (.inr (x2, m)))) else (some (.inr (x2, m)))
set_option maxRecDepth 65536 in
set_option maxHeartbeats 16000000 in
theorem f_removeNode_l14_ok (x1 : Int) (x2 x3 : Int) (m : OMem) : Sim (f_removeNode_l14 x1 (x2, x3, m)) (Sum.elim (f_removeNode_l14_H x1 ) (f_removeNode_l14_X x1 )) (f_removeNode_l14_H x1 (x2, x3, m)) :=
  Sim.shift 4 (G := fun n => if x3 < m 0 20 then R n 7 22 [qr 0, qi x1, qi x2, qi x3] [] 38 m else R n 7 62 [qr 0, qi x1, qi x2, qi x3] [] 38 m) (fun _ => rfl) (Sim.ite (fun _ => Sim.shift 3 (G := fun n => if x3 < 16 then R n 7 28 [qr 0, qi x1, qi x2, qi x3] [] 38 m else R n 7 62 [qr 0, qi x1, qi x2, qi x3] [] 38 m) (fun _ => rfl) (Sim.ite (fun _ => Sim.shift 4 (G := fun n => if 0 ≤ x3 ∧ x3 < 16 then R n 7 34 [qr 0, qi x1, qi x2, qi x3] [vi (m 7 x3)] 38 m else none) (fun _ => rfl) (Sim.grd fun _ => Sim.shift 2 (G := fun n => if m 7 x3 = 2 then R n 7 38 [qr 0, qi x1, qi x2, qi x3] [] 38 m else R n 7 56 [qr 0, qi x1, qi x2, qi x3] [] 38 m) (fun _ => rfl) (Sim.ite (fun _ => Sim.shift 4 (G := fun n => if 0 ≤ x3 ∧ x3 < 16 then R n 7 44 [qr 0, qi x1, qi x2, qi x3] [vi (m 8 x3)] 38 m else none) (fun _ => rfl) (Sim.grd fun _ => Sim.shift 2 (G := fun n => if m 8 x3 = x1 then R n 7 48 [qr 0, qi x1, qi x2, qi x3] [] 38 m else R n 7 56 [qr 0, qi x1, qi x2, qi x3] [] 38 m) (fun _ => rfl) (Sim.ite (fun _ => Sim.shift 3 (G := fun n => (R n 6 0 [qr 0, qi x3] [] 38 m).bind fun y => Rr n 7 53 [qr 0, qi x1, qi x2, qi x3] [] y) (fun _ => rfl) (Sim.call (f_queue_ok x3 m) (fun _ _ => rfl) (runP_mono _ _ _ _ _ _) (fun _ => runP_mono _ _ _ _ _ _) (fun m_9 => Sim.shift 0 (G := fun n => R n 7 53 [qr 0, qi x1, qi x2, qi x3] [] 38 m_9) (fun _ => rfl) (Sim.shift 1 (G := fun n => R n 7 56 [qr 0, qi x1, qi (w32 (x2 + 1)), qi x3] [] 38 m_9) (fun _ => rfl) (f_removeNode_b56_ok x1 (w32 (x2 + 1)) x3 m_9))))) (fun _ => f_removeNode_b56_ok x1 x2 x3 m)))) (fun _ => f_removeNode_b56_ok x1 x2 x3 m)))) (fun _ => Sim.leaf rfl (fun _ => rfl)))) (fun _ => Sim.leaf rfl (fun _ => rfl)))
def f_removeNode_b62 (x1 x2 : Int) (m : OMem) : Option (Int × OMem) := if 0 ≤ x1 ∧ x1 < 8 then (some (x2, sto m 1 x1 0)) else none
set_option maxRecDepth 65536 in
set_option maxHeartbeats 16000000 in
theorem f_removeNode_b62_ok (x1 x2 : Int) (m : OMem) : Sim (f_removeNode_b62 x1 x2 m) (fun (r, w0) _ => some (some (vi r), 38, w0)) (fun n => R n 7 62 [qr 0, qi x1, qi x2, qn] [] 38 m) :=
  Sim.shift 5 (G := fun n => if 0 ≤ x1 ∧ x1 < 8 then R n 7 69 [qr 0, qi x1, qi x2, qn] [] 38 (sto m 1 x1 0) else none) (fun _ => rfl) (Sim.grd fun _ => Sim.shift 2 (G := (fun _ => some (some (vi x2), 38, sto m 1 x1 0))) (fun _ => rfl) (Sim.pur _ _))
def f_removeNode (x1 : Int) (m : OMem) : Option (Int × OMem) := (f_validNode x1 m).bind fun r_8 => (if r_8 = 0 then (some ((-1), m)) else ((lp (f_removeNode_l14 x1) NN (0, 0, m)).bind fun (x2_10, m_11) => (f_removeNode_b62 x1 x2_10 m_11)))
set_option maxRecDepth 65536 in
set_option maxHeartbeats 16000000 in
theorem f_removeNode_ok (x1 : Int) (m : OMem) : Sim (f_removeNode x1 m) (fun (r, w0) _ => some (some (vi r), 38, w0)) (fun n => R n 7 0 [qr 0, qi x1, qn, qn] [] 38 m) :=
  Sim.shift 3 (G := fun n => (R n 8 0 [qr 0, qi x1] [] 38 m).bind fun y => Rr n 7 5 [qr 0, qi x1, qn, qn] [] y) (fun _ => rfl) (Sim.call (f_validNode_ok x1 m) (fun _ _ => rfl) (runP_mono _ _ _ _ _ _) (fun _ => runP_mono _ _ _ _ _ _) (fun r_8 => Sim.shift 0 (G := fun n => R n 7 5 [qr 0, qi x1, qn, qn] [vi r_8] 38 m) (fun _ => rfl) (Sim.shift 1 (G := fun n => if r_8 = 0 then R n 7 8 [qr 0, qi x1, qn, qn] [] 38 m else R n 7 10 [qr 0, qi x1, qn, qn] [] 38 m) (fun _ => rfl) (Sim.ite (fun _ => Sim.shift 2 (G := (fun _ => some (some (vi (-1)), 38, m))) (fun _ => rfl) (Sim.pur _ _)) (fun _ => Sim.shift 4 (G := fun n => R n 7 14 [qr 0, qi x1, qi 0, qi 0] [] 38 m) (fun _ => rfl) (Sim.bind (Sim.lp (σ := Int × Int × OMem) (fun ⟨x2L, x3L, mL⟩ => f_removeNode_l14_ok x1 x2L x3L mL) NN (0, 0, m)) (fun ⟨x2_10, m_11⟩ => f_removeNode_b62_ok x1 x2_10 m_11)))))))
def f_pendingRank_b18 (m : OMem) : Option (Int) := some (-1)
set_option maxRecDepth 65536 in
set_option maxHeartbeats 16000000 in
theorem f_pendingRank_b18_ok (m : OMem) : Sim (f_pendingRank_b18 m) (fun r _ => some (some (vi r), 38, m)) (fun n => R n 9 18 [qn, qn, qn, qn] [] 38 m) :=
  Sim.shift 2 (G := (fun _ => some (some (vi (-1)), 38, m))) (fun _ => rfl) (Sim.pur _ _)
def f_pendingRank_l24_H (m : OMem) (x1 : Int) : Int × Int → Nat → RT := fun (x2, x3) n => R n 9 24 [qr 0, qi x1, qi x2, qi x3] [] 38 m
def f_pendingRank_l24_X (m : OMem) (x1 : Int) : (Int) → Nat → RT := fun e n => match e with | y2 => R n 9 105 [qn, qn, qi y2, qn] [] 38 m
def f_pendingRank_b99 (x1 x2 x3 : Int) (m : OMem) : Option ((Int × Int) ⊕ ((Int))) := some (.inl (x2, w32 (x3 + 1)))
set_option maxRecDepth 65536 in
set_option maxHeartbeats 16000000 in
theorem f_pendingRank_b99_ok (x1 x2 x3 : Int) (m : OMem) : Sim (f_pendingRank_b99 x1 x2 x3 m) (Sum.elim (f_pendingRank_l24_H m x1 ) (f_pendingRank_l24_X m x1 )) (fun n => R n 9 99 [qr 0, qi x1, qi x2, qi x3] [] 38 m) :=
  Sim.shift 2 (G := fun n => R n 9 24 [qr 0, qi x1, qi x2, qi (w32 (x3 + 1))] [] 38 m) (fun _ => rfl) (Sim.pur _ _)
def f_pendingRank_b96 (x1 x2 x3 : Int) (m : OMem) : Option ((Int × Int) ⊕ ((Int))) := f_pendingRank_b99 x1 (w32 (x2 + 1)) x3 m
set_option maxRecDepth 65536 in
set_option maxHeartbeats 16000000 in
theorem f_pendingRank_b96_ok (x1 x2 x3 : Int) (m : OMem) : Sim (f_pendingRank_b96 x1 x2 x3 m) (Sum.elim (f_pendingRank_l24_H m x1 ) (f_pendingRank_l24_X m x1 )) (fun n => R n 9 96 [qr 0, qi x1, qi x2, qi x3] [] 38 m) :=
  Sim.shift 1 (G := fun n => R n 9 99 [qr 0, qi x1, qi (w32 (x2 + 1)), qi x3] [] 38 m) (fun _ => rfl) (f_pendingRank_b99_ok x1 (w32 (x2 + 1)) x3 m)
def f_pendingRank_l24 (m : OMem) (x1 : Int) : Int × Int → Option ((Int × Int) ⊕ ((Int))) := fun (x2, x3) => if x3 < m 0 20 then (if x3 < 16 then (if 0 ≤ x3 ∧ x3 < 16 then (if m 7 x3 = 1 then (if 0 ≤ x3 ∧ x3 < 16 then (if 0 ≤ x1 ∧ x1 < 16 then (if m 11 x1 < m 11 x3 then (f_pendingRank_b96 x1 x2 x3 m) else (if 0 ≤ x3 ∧ x3 < 16 then (if 0 ≤ x1 ∧ x1 < 16 then (if m 11 x3 = m 11 x1 then (if 0 ≤ x3 ∧ x3 < 16 then (if 0 ≤ x1 ∧ x1 < 16 then (if m 15 x3 < m 15 x1 then (f_pendingRank_b96 x1 x2 x3 m) else (f_pendingRank_b99 x1 x2 x3 m)) else none) else none) else (f_pendingRank_b99 x1 x2 x3 m)) else none) else none)) else none) else none) else (f_pendingRank_b99 x1 x2 x3 m)) else none) else (some (.inr x2))) else (some (.inr x2))
set_option maxRecDepth 65536 in
set_option maxHeartbeats 16000000 in
theorem f_pendingRank_l24_ok (m : OMem) (x1 : Int) (x2 x3 : Int) : Sim (f_pendingRank_l24 m x1 (x2, x3)) (Sum.elim (f_pendingRank_l24_H m x1 ) (f_pendingRank_l24_X m x1 )) (f_pendingRank_l24_H m x1 (x2, x3)) :=
  Sim.shift 4 (G := fun n => if x3 < m 0 20 then R n 9 32 [qr 0, qi x1, qi x2, qi x3] [] 38 m else R n 9 105 [qr 0, qi x1, qi x2, qi x3] [] 38 m) (fun _ => rfl) (Sim.ite (fun _ => Sim.shift 3 (G := fun n => if x3 < 16 then R n 9 38 [qr 0, qi x1, qi x2, qi x3] [] 38 m else R n 9 105 [qr 0, qi x1, qi x2, qi x3] [] 38 m) (fun _ => rfl) (Sim.ite (fun _ => Sim.shift 4 (G := fun n => if 0 ≤ x3 ∧ x3 < 16 then R n 9 44 [qr 0, qi x1, qi x2, qi x3] [vi (m 7 x3)] 38 m else none) (fun _ => rfl) (Sim.grd fun _ => Sim.shift 2 (G := fun n => if m 7 x3 = 1 then R n 9 51 [qr 0, qi x1, qi x2, qi x3] [] 38 m else R n 9 48 [qr 0, qi x1, qi x2, qi x3] [] 38 m) (fun _ => rfl) (Sim.ite (fun _ => Sim.shift 4 (G := fun n => if 0 ≤ x3 ∧ x3 < 16 then R n 9 57 [qr 0, qi x1, qi x2, qi x3] [vi (m 11 x3)] 38 m else none) (fun _ => rfl) (Sim.grd fun _ => Sim.shift 4 (G := fun n => if 0 ≤ x1 ∧ x1 < 16 then R n 9 63 [qr 0, qi x1, qi x2, qi x3] [vi (m 11 x1), vi (m 11 x3)] 38 m else none) (fun _ => rfl) (Sim.grd fun _ => Sim.shift 1 (G := fun n => if m 11 x1 < m 11 x3 then R n 9 96 [qr 0, qi x1, qi x2, qi x3] [] 38 m else R n 9 66 [qr 0, qi x1, qi x2, qi x3] [] 38 m) (fun _ => rfl) (Sim.ite (fun _ => f_pendingRank_b96_ok x1 x2 x3 m) (fun _ => Sim.shift 4 (G := fun n => if 0 ≤ x3 ∧ x3 < 16 then R n 9 72 [qr 0, qi x1, qi x2, qi x3] [vi (m 11 x3)] 38 m else none) (fun _ => rfl) (Sim.grd fun _ => Sim.shift 4 (G := fun n => if 0 ≤ x1 ∧ x1 < 16 then R n 9 78 [qr 0, qi x1, qi x2, qi x3] [vi (m 11 x1), vi (m 11 x3)] 38 m else none) (fun _ => rfl) (Sim.grd fun _ => Sim.shift 1 (G := fun n => if m 11 x3 = m 11 x1 then R n 9 81 [qr 0, qi x1, qi x2, qi x3] [] 38 m else R n 9 99 [qr 0, qi x1, qi x2, qi x3] [] 38 m) (fun _ => rfl) (Sim.ite (fun _ => Sim.shift 4 (G := fun n => if 0 ≤ x3 ∧ x3 < 16 then R n 9 87 [qr 0, qi x1, qi x2, qi x3] [vi (m 15 x3)] 38 m else none) (fun _ => rfl) (Sim.grd fun _ => Sim.shift 4 (G := fun n => if 0 ≤ x1 ∧ x1 < 16 then R n 9 93 [qr 0, qi x1, qi x2, qi x3] [vi (m 15 x1), vi (m 15 x3)] 38 m else none) (fun _ => rfl) (Sim.grd fun _ => Sim.shift 1 (G := fun n => if m 15 x3 < m 15 x1 then R n 9 96 [qr 0, qi x1, qi x2, qi x3] [] 38 m else R n 9 99 [qr 0, qi x1, qi x2, qi x3] [] 38 m) (fun _ => rfl) (Sim.ite (fun _ => f_pendingRank_b96_ok x1 x2 x3 m) (fun _ => f_pendingRank_b99_ok x1 x2 x3 m))))) (fun _ => f_pendingRank_b99_ok x1 x2 x3 m))))))))) (fun _ => Sim.shift 1 (G := fun n => R n 9 99 [qr 0, qi x1, qi x2, qi x3] [] 38 m) (fun _ => rfl) (f_pendingRank_b99_ok x1 x2 x3 m))))) (fun _ => Sim.leaf rfl (fun _ => rfl)))) (fun _ => Sim.leaf rfl (fun _ => rfl)))
def f_pendingRank_b105 (x2 : Int) (m : OMem) : Option (Int) := some x2
set_option maxRecDepth 65536 in
set_option maxHeartbeats 16000000 in
theorem f_pendingRank_b105_ok (x2 : Int) (m : OMem) : Sim (f_pendingRank_b105 x2 m) (fun r _ => some (some (vi r), 38, m)) (fun n => R n 9 105 [qn, qn, qi x2, qn] [] 38 m) :=
  Sim.shift 2 (G := (fun _ => some (some (vi x2), 38, m))) (fun _ => rfl) (Sim.pur _ _)
def f_pendingRank (x1 : Int) (m : OMem) : Option (Int) := (f_validPod x1 m).bind fun r_12 => (if r_12 = 0 then (f_pendingRank_b18 m) else (if 0 ≤ x1 ∧ x1 < 16 then (if m 7 x1 = 1 then ((lp (f_pendingRank_l24 m x1) NN (0, 0)).bind fun x2_13 => (f_pendingRank_b105 x2_13 m)) else (f_pendingRank_b18 m)) else none))
set_option maxRecDepth 65536 in
set_option maxHeartbeats 16000000 in
theorem f_pendingRank_ok (x1 : Int) (m : OMem) : Sim (f_pendingRank x1 m) (fun r _ => some (some (vi r), 38, m)) (fun n => R n 9 0 [qr 0, qi x1, qn, qn] [] 38 m) :=
  Sim.shift 3 (G := fun n => (R n 3 0 [qr 0, qi x1] [] 38 m).bind fun y => Rr n 9 5 [qr 0, qi x1, qn, qn] [] y) (fun _ => rfl) (Sim.call (f_validPod_ok 38 x1 m) (fun _ _ => rfl) (runP_mono _ _ _ _ _ _) (fun _ => runP_mono _ _ _ _ _ _) (fun r_12 => Sim.shift 0 (G := fun n => R n 9 5 [qr 0, qi x1, qn, qn] [vi r_12] 38 m) (fun _ => rfl) (Sim.shift 1 (G := fun n => if r_12 = 0 then R n 9 18 [qr 0, qi x1, qn, qn] [] 38 m else R n 9 8 [qr 0, qi x1, qn, qn] [] 38 m) (fun _ => rfl) (Sim.ite (fun _ => Sim.jmp (f_pendingRank_b18_ok m) rfl (fun _ => rfl)) (fun _ => Sim.shift 4 (G := fun n => if 0 ≤ x1 ∧ x1 < 16 then R n 9 14 [qr 0, qi x1, qn, qn] [vi (m 7 x1)] 38 m else none) (fun _ => rfl) (Sim.grd fun _ => Sim.shift 2 (G := fun n => if m 7 x1 = 1 then R n 9 20 [qr 0, qi x1, qn, qn] [] 38 m else R n 9 18 [qr 0, qi x1, qn, qn] [] 38 m) (fun _ => rfl) (Sim.ite (fun _ => Sim.shift 4 (G := fun n => R n 9 24 [qr 0, qi x1, qi 0, qi 0] [] 38 m) (fun _ => rfl) (Sim.bind (Sim.lp (σ := Int × Int) (fun ⟨x2L, x3L⟩ => f_pendingRank_l24_ok m x1 x2L x3L) NN (0, 0)) (fun x2_13 => f_pendingRank_b105_ok x2_13 m))) (fun _ => Sim.jmp (f_pendingRank_b18_ok m) rfl (fun _ => rfl)))))))))
def f_podState (x1 : Int) (m : OMem) : Option (Int) := (f_validPod x1 m).bind fun r_14 => (if r_14 = 0 then (some (-1)) else (if 0 ≤ x1 ∧ x1 < 16 then (some (m 7 x1)) else none))
set_option maxRecDepth 65536 in
set_option maxHeartbeats 16000000 in
theorem f_podState_ok (x1 : Int) (m : OMem) : Sim (f_podState x1 m) (fun r _ => some (some (vi r), 38, m)) (fun n => R n 10 0 [qr 0, qi x1] [] 38 m) :=
  Sim.shift 3 (G := fun n => (R n 3 0 [qr 0, qi x1] [] 38 m).bind fun y => Rr n 10 5 [qr 0, qi x1] [] y) (fun _ => rfl) (Sim.call (f_validPod_ok 38 x1 m) (fun _ _ => rfl) (runP_mono _ _ _ _ _ _) (fun _ => runP_mono _ _ _ _ _ _) (fun r_14 => Sim.shift 0 (G := fun n => R n 10 5 [qr 0, qi x1] [vi r_14] 38 m) (fun _ => rfl) (Sim.shift 1 (G := fun n => if r_14 = 0 then R n 10 8 [qr 0, qi x1] [] 38 m else R n 10 10 [qr 0, qi x1] [] 38 m) (fun _ => rfl) (Sim.ite (fun _ => Sim.shift 2 (G := (fun _ => some (some (vi (-1)), 38, m))) (fun _ => rfl) (Sim.pur _ _)) (fun _ => Sim.shift 4 (G := fun n => if 0 ≤ x1 ∧ x1 < 16 then R n 10 16 [qr 0, qi x1] [vi (m 7 x1)] 38 m else none) (fun _ => rfl) (Sim.grd fun _ => Sim.shift 1 (G := (fun _ => some (some (vi (m 7 x1)), 38, m))) (fun _ => rfl) (Sim.pur _ _)))))))
def f_labelsMatch_b47 (s0 : Int) (m : OMem) : Option (Int) := some (s0 % 2)
set_option maxRecDepth 65536 in
set_option maxHeartbeats 16000000 in
theorem f_labelsMatch_b47_ok (s0 : Int) (m : OMem) : Sim (f_labelsMatch_b47 s0 m) (fun r _ => some (some (vi r), 38, m)) (fun n => R n 22 47 [qn, qn, qn] [vi s0] 38 m) :=
  Sim.shift 1 (G := (fun _ => some (some (vi (s0 % 2)), 38, m))) (fun _ => rfl) (Sim.pur _ _)
def f_labelsMatch (x1 x2 : Int) (m : OMem) : Option (Int) := if 0 ≤ x2 ∧ x2 < 8 then (if 0 ≤ x1 ∧ x1 < 16 then (if and32 (m 6 x2) (xor32 (m 12 x1) (-1)) = 0 then (if 0 ≤ x2 ∧ x2 < 8 then (if 0 ≤ x1 ∧ x1 < 16 then (if 0 ≤ x1 ∧ x1 < 16 then (if and32 (m 5 x2) (m 13 x1) = m 13 x1 then (f_labelsMatch_b47 1 m) else (f_labelsMatch_b47 0 m)) else none) else none) else none) else (some 0)) else none) else none
set_option maxRecDepth 65536 in
set_option maxHeartbeats 16000000 in
theorem f_labelsMatch_ok (x1 x2 : Int) (m : OMem) : Sim (f_labelsMatch x1 x2 m) (fun r _ => some (some (vi r), 38, m)) (fun n => R n 22 0 [qr 0, qi x1, qi x2] [] 38 m) :=
  Sim.shift 4 (G := fun n => if 0 ≤ x2 ∧ x2 < 8 then R n 22 6 [qr 0, qi x1, qi x2] [vi (m 6 x2)] 38 m else none) (fun _ => rfl) (Sim.grd fun _ => Sim.shift 4 (G := fun n => if 0 ≤ x1 ∧ x1 < 16 then R n 22 12 [qr 0, qi x1, qi x2] [vi (m 12 x1), vi (m 6 x2)] 38 m else none) (fun _ => rfl) (Sim.grd fun _ => Sim.shift 2 (G := fun n => R n 22 14 [qr 0, qi x1, qi x2] [vi (xor32 (m 12 x1) (-1)), vi (m 6 x2)] 38 m) (fun _ => rfl) (Sim.shift 2 (G := fun n => if and32 (m 6 x2) (xor32 (m 12 x1) (-1)) = 0 then R n 22 20 [qr 0, qi x1, qi x2] [] 38 m else R n 22 18 [qr 0, qi x1, qi x2] [] 38 m) (fun _ => rfl) (Sim.ite (fun _ => Sim.shift 4 (G := fun n => if 0 ≤ x2 ∧ x2 < 8 then R n 22 26 [qr 0, qi x1, qi x2] [vi (m 5 x2)] 38 m else none) (fun _ => rfl) (Sim.grd fun _ => Sim.shift 4 (G := fun n => if 0 ≤ x1 ∧ x1 < 16 then R n 22 32 [qr 0, qi x1, qi x2] [vi (m 13 x1), vi (m 5 x2)] 38 m else none) (fun _ => rfl) (Sim.grd fun _ => Sim.shift 5 (G := fun n => if 0 ≤ x1 ∧ x1 < 16 then R n 22 39 [qr 0, qi x1, qi x2] [vi (m 13 x1), vi (and32 (m 5 x2) (m 13 x1))] 38 m else none) (fun _ => rfl) (Sim.grd fun _ => Sim.shift 1 (G := fun n => if and32 (m 5 x2) (m 13 x1) = m 13 x1 then R n 22 42 [qr 0, qi x1, qi x2] [] 38 m else R n 22 46 [qr 0, qi x1, qi x2] [] 38 m) (fun _ => rfl) (Sim.ite (fun _ => Sim.shift 2 (G := fun n => R n 22 47 [qn, qn, qn] [vi 1] 38 m) (fun _ => rfl) (f_labelsMatch_b47_ok 1 m)) (fun _ => Sim.shift 1 (G := fun n => R n 22 47 [qn, qn, qn] [vi 0] 38 m) (fun _ => rfl) (f_labelsMatch_b47_ok 0 m))))))) (fun _ => Sim.shift 2 (G := (fun _ => some (some (vi 0), 38, m))) (fun _ => rfl) (Sim.pur _ _))))))
def f_usedOf_l5_H (m : OMem) (x1 x2 : Int) : Int × Int → Nat → RT := fun (x3, x4) n => R n 23 5 [qr 0, qi x1, qi x2, qi x3, qi x4] [] 38 m
def f_usedOf_l5_X (m : OMem) (x1 x2 : Int) : (Int) → Nat → RT := fun e n => match e with | y3 => R n 23 90 [qn, qn, qn, qi y3, qn] [] 38 m
def f_usedOf_b84 (x1 x2 x3 x4 : Int) (m : OMem) : Option ((Int × Int) ⊕ ((Int))) := some (.inl (x3, w32 (x4 + 1)))
set_option maxRecDepth 65536 in
set_option maxHeartbeats 16000000 in
theorem f_usedOf_b84_ok (x1 x2 x3 x4 : Int) (m : OMem) : Sim (f_usedOf_b84 x1 x2 x3 x4 m) (Sum.elim (f_usedOf_l5_H m x1 x2 ) (f_usedOf_l5_X m x1 x2 )) (fun n => R n 23 84 [qr 0, qi x1, qi x2, qi x3, qi x4] [] 38 m) :=
  Sim.shift 2 (G := fun n => R n 23 5 [qr 0, qi x1, qi x2, qi x3, qi (w32 (x4 + 1))] [] 38 m) (fun _ => rfl) (Sim.pur _ _)
def f_usedOf_l5 (m : OMem) (x1 x2 : Int) : Int × Int → Option ((Int × Int) ⊕ ((Int))) := fun (x3, x4) => if x4 < m 0 20 then (if x4 < 16 then (if 0 ≤ x4 ∧ x4 < 16 then (if m 7 x4 = 2 then (if 0 ≤ x4 ∧ x4 < 16 then (if m 8 x4 = x1 then (if x2 = 0 then (if 0 ≤ x4 ∧ x4 < 16 then (f_usedOf_b84 x1 x2 (w32 (x3 + (m 9 x4))) x4 m) else none) else (if x2 = 1 then (if 0 ≤ x4 ∧ x4 < 16 then (f_usedOf_b84 x1 x2 (w32 (x3 + (m 10 x4))) x4 m) else none) else (f_usedOf_b84 x1 x2 (w32 (x3 + 1)) x4 m))) else (f_usedOf_b84 x1 x2 x3 x4 m)) else none) else (f_usedOf_b84 x1 x2 x3 x4 m)) else none) else (some (.inr x3))) else (some (.inr x3))
set_option maxRecDepth 65536 in
set_option maxHeartbeats 16000000 in
theorem f_usedOf_l5_ok (m : OMem) (x1 x2 : Int) (x3 x4 : Int) : Sim (f_usedOf_l5 m x1 x2 (x3, x4)) (Sum.elim (f_usedOf_l5_H m x1 x2 ) (f_usedOf_l5_X m x1 x2 )) (f_usedOf_l5_H m x1 x2 (x3, x4)) :=
  Sim.shift 4 (G := fun n => if x4 < m 0 20 then R n 23 14 [qr 0, qi x1, qi x2, qi x3, qi x4] [] 38 m else R n 23 90 [qr 0, qi x1, qi x2, qi x3, qi x4] [] 38 m) (fun _ => rfl) (Sim.ite (fun _ => Sim.shift 3 (G := fun n => if x4 < 16 then R n 23 21 [qr 0, qi x1, qi x2, qi x3, qi x4] [] 38 m else R n 23 90 [qr 0, qi x1, qi x2, qi x3, qi x4] [] 38 m) (fun _ => rfl) (Sim.ite (fun _ => Sim.shift 4 (G := fun n => if 0 ≤ x4 ∧ x4 < 16 then R n 23 28 [qr 0, qi x1, qi x2, qi x3, qi x4] [vi (m 7 x4)] 38 m else none) (fun _ => rfl) (Sim.grd fun _ => Sim.shift 2 (G := fun n => if m 7 x4 = 2 then R n 23 32 [qr 0, qi x1, qi x2, qi x3, qi x4] [] 38 m else R n 23 84 [qr 0, qi x1, qi x2, qi x3, qi x4] [] 38 m) (fun _ => rfl) (Sim.ite (fun _ => Sim.shift 4 (G := fun n => if 0 ≤ x4 ∧ x4 < 16 then R n 23 39 [qr 0, qi x1, qi x2, qi x3, qi x4] [vi (m 8 x4)] 38 m else none) (fun _ => rfl) (Sim.grd fun _ => Sim.shift 2 (G := fun n => if m 8 x4 = x1 then R n 23 46 [qr 0, qi x1, qi x2, qi x3, qi x4] [] 38 m else R n 23 43 [qr 0, qi x1, qi x2, qi x3, qi x4] [] 38 m) (fun _ => rfl) (Sim.ite (fun _ => Sim.shift 2 (G := fun n => if x2 = 0 then R n 23 50 [qr 0, qi x1, qi x2, qi x3, qi x4] [] 38 m else R n 23 63 [qr 0, qi x1, qi x2, qi x3, qi x4] [] 38 m) (fun _ => rfl) (Sim.ite (fun _ => Sim.shift 5 (G := fun n => if 0 ≤ x4 ∧ x4 < 16 then R n 23 58 [qr 0, qi x1, qi x2, qi x3, qi x4] [vi (m 9 x4), vi x3] 38 m else none) (fun _ => rfl) (Sim.grd fun _ => Sim.shift 3 (G := fun n => R n 23 84 [qr 0, qi x1, qi x2, qi (w32 (x3 + (m 9 x4))), qi x4] [] 38 m) (fun _ => rfl) (f_usedOf_b84_ok x1 x2 (w32 (x3 + (m 9 x4))) x4 m))) (fun _ => Sim.shift 3 (G := fun n => if x2 = 1 then R n 23 68 [qr 0, qi x1, qi x2, qi x3, qi x4] [] 38 m else R n 23 81 [qr 0, qi x1, qi x2, qi x3, qi x4] [] 38 m) (fun _ => rfl) (Sim.ite (fun _ => Sim.shift 5 (G := fun n => if 0 ≤ x4 ∧ x4 < 16 then R n 23 76 [qr 0, qi x1, qi x2, qi x3, qi x4] [vi (m 10 x4), vi x3] 38 m else none) (fun _ => rfl) (Sim.grd fun _ => Sim.shift 3 (G := fun n => R n 23 84 [qr 0, qi x1, qi x2, qi (w32 (x3 + (m 10 x4))), qi x4] [] 38 m) (fun _ => rfl) (f_usedOf_b84_ok x1 x2 (w32 (x3 + (m 10 x4))) x4 m))) (fun _ => Sim.shift 1 (G := fun n => R n 23 84 [qr 0, qi x1, qi x2, qi (w32 (x3 + 1)), qi x4] [] 38 m) (fun _ => rfl) (f_usedOf_b84_ok x1 x2 (w32 (x3 + 1)) x4 m)))))) (fun _ => Sim.shift 1 (G := fun n => R n 23 84 [qr 0, qi x1, qi x2, qi x3, qi x4] [] 38 m) (fun _ => rfl) (f_usedOf_b84_ok x1 x2 x3 x4 m))))) (fun _ => f_usedOf_b84_ok x1 x2 x3 x4 m)))) (fun _ => Sim.leaf rfl (fun _ => rfl)))) (fun _ => Sim.leaf rfl (fun _ => rfl)))
def f_usedOf_b90 (x3 : Int) (m : OMem) : Option (Int) := some x3
set_option maxRecDepth 65536 in
set_option maxHeartbeats 16000000 in
theorem f_usedOf_b90_ok (x3 : Int) (m : OMem) : Sim (f_usedOf_b90 x3 m) (fun r _ => some (some (vi r), 38, m)) (fun n => R n 23 90 [qn, qn, qn, qi x3, qn] [] 38 m) :=
  Sim.shift 2 (G := (fun _ => some (some (vi x3), 38, m))) (fun _ => rfl) (Sim.pur _ _)
def f_usedOf (x1 x2 : Int) (m : OMem) : Option (Int) := (lp (f_usedOf_l5 m x1 x2) NN (0, 0)).bind fun x3_18 => (f_usedOf_b90 x3_18 m)
set_option maxRecDepth 65536 in
set_option maxHeartbeats 16000000 in
theorem f_usedOf_ok (x1 x2 : Int) (m : OMem) : Sim (f_usedOf x1 x2 m) (fun r _ => some (some (vi r), 38, m)) (fun n => R n 23 0 [qr 0, qi x1, qi x2, qn, qn] [] 38 m) :=
  Sim.shift 4 (G := fun n => R n 23 5 [qr 0, qi x1, qi x2, qi 0, qi 0] [] 38 m) (fun _ => rfl) (Sim.bind (Sim.lp (σ := Int × Int) (fun ⟨x3L, x4L⟩ => f_usedOf_l5_ok m x1 x2 x3L x4L) NN (0, 0)) (fun x3_18 => f_usedOf_b90_ok x3_18 m))
def f_groupOnNode_l5_H (m : OMem) (x1 x2 : Int) : Int × Int → Nat → RT := fun (x3, x4) n => R n 26 5 [qr 0, qi x1, qi x2, qi x3, qi x4] [] 38 m
def f_groupOnNode_l5_X (m : OMem) (x1 x2 : Int) : (Int) → Nat → RT := fun e n => match e with | y3 => R n 26 63 [qn, qn, qn, qi y3, qn] [] 38 m
def f_groupOnNode_b57 (x1 x2 x3 x4 : Int) (m : OMem) : Option ((Int × Int) ⊕ ((Int))) := some (.inl (x3, w32 (x4 + 1)))
set_option maxRecDepth 65536 in
set_option maxHeartbeats 16000000 in
theorem f_groupOnNode_b57_ok (x1 x2 x3 x4 : Int) (m : OMem) : Sim (f_groupOnNode_b57 x1 x2 x3 x4 m) (Sum.elim (f_groupOnNode_l5_H m x1 x2 ) (f_groupOnNode_l5_X m x1 x2 )) (fun n => R n 26 57 [qr 0, qi x1, qi x2, qi x3, qi x4] [] 38 m) :=
  Sim.shift 2 (G := fun n => R n 26 5 [qr 0, qi x1, qi x2, qi x3, qi (w32 (x4 + 1))] [] 38 m) (fun _ => rfl) (Sim.pur _ _)
def f_groupOnNode_l5 (m : OMem) (x1 x2 : Int) : Int × Int → Option ((Int × Int) ⊕ ((Int))) := fun (x3, x4) => if x4 < m 0 20 then (if x4 < 16 then (if 0 ≤ x4 ∧ x4 < 16 then (if m 7 x4 = 2 then (if 0 ≤ x4 ∧ x4 < 16 then (if m 8 x4 = x1 then (if 0 ≤ x4 ∧ x4 < 16 then (if m 14 x4 = x2 then (f_groupOnNode_b57 x1 x2 (w32 (x3 + 1)) x4 m) else (f_groupOnNode_b57 x1 x2 x3 x4 m)) else none) else (f_groupOnNode_b57 x1 x2 x3 x4 m)) else none) else (f_groupOnNode_b57 x1 x2 x3 x4 m)) else none) else (some (.inr x3))) else (some (.inr x3))
set_option maxRecDepth 65536 in
set_option maxHeartbeats 16000000 in
theorem f_groupOnNode_l5_ok (m : OMem) (x1 x2 : Int) (x3 x4 : Int) : Sim (f_groupOnNode_l5 m x1 x2 (x3, x4)) (Sum.elim (f_groupOnNode_l5_H m x1 x2 ) (f_groupOnNode_l5_X m x1 x2 )) (f_groupOnNode_l5_H m x1 x2 (x3, x4)) :=
  Sim.shift 4 (G := fun n => if x4 < m 0 20 then R n 26 14 [qr 0, qi x1, qi x2, qi x3, qi x4] [] 38 m else R n 26 63 [qr 0, qi x1, qi x2, qi x3, qi x4] [] 38 m) (fun _ => rfl) (Sim.ite (fun _ => Sim.shift 3 (G := fun n => if x4 < 16 then R n 26 21 [qr 0, qi x1, qi x2, qi x3, qi x4] [] 38 m else R n 26 63 [qr 0, qi x1, qi x2, qi x3, qi x4] [] 38 m) (fun _ => rfl) (Sim.ite (fun _ => Sim.shift 4 (G := fun n => if 0 ≤ x4 ∧ x4 < 16 then R n 26 28 [qr 0, qi x1, qi x2, qi x3, qi x4] [vi (m 7 x4)] 38 m else none) (fun _ => rfl) (Sim.grd fun _ => Sim.shift 2 (G := fun n => if m 7 x4 = 2 then R n 26 32 [qr 0, qi x1, qi x2, qi x3, qi x4] [] 38 m else R n 26 57 [qr 0, qi x1, qi x2, qi x3, qi x4] [] 38 m) (fun _ => rfl) (Sim.ite (fun _ => Sim.shift 4 (G := fun n => if 0 ≤ x4 ∧ x4 < 16 then R n 26 39 [qr 0, qi x1, qi x2, qi x3, qi x4] [vi (m 8 x4)] 38 m else none) (fun _ => rfl) (Sim.grd fun _ => Sim.shift 2 (G := fun n => if m 8 x4 = x1 then R n 26 43 [qr 0, qi x1, qi x2, qi x3, qi x4] [] 38 m else R n 26 57 [qr 0, qi x1, qi x2, qi x3, qi x4] [] 38 m) (fun _ => rfl) (Sim.ite (fun _ => Sim.shift 4 (G := fun n => if 0 ≤ x4 ∧ x4 < 16 then R n 26 50 [qr 0, qi x1, qi x2, qi x3, qi x4] [vi (m 14 x4)] 38 m else none) (fun _ => rfl) (Sim.grd fun _ => Sim.shift 2 (G := fun n => if m 14 x4 = x2 then R n 26 54 [qr 0, qi x1, qi x2, qi x3, qi x4] [] 38 m else R n 26 57 [qr 0, qi x1, qi x2, qi x3, qi x4] [] 38 m) (fun _ => rfl) (Sim.ite (fun _ => Sim.shift 1 (G := fun n => R n 26 57 [qr 0, qi x1, qi x2, qi (w32 (x3 + 1)), qi x4] [] 38 m) (fun _ => rfl) (f_groupOnNode_b57_ok x1 x2 (w32 (x3 + 1)) x4 m)) (fun _ => f_groupOnNode_b57_ok x1 x2 x3 x4 m)))) (fun _ => f_groupOnNode_b57_ok x1 x2 x3 x4 m)))) (fun _ => f_groupOnNode_b57_ok x1 x2 x3 x4 m)))) (fun _ => Sim.leaf rfl (fun _ => rfl)))) (fun _ => Sim.leaf rfl (fun _ => rfl)))
def f_groupOnNode_b63 (x3 : Int) (m : OMem) : Option (Int) := some x3
set_option maxRecDepth 65536 in
set_option maxHeartbeats 16000000 in
theorem f_groupOnNode_b63_ok (x3 : Int) (m : OMem) : Sim (f_groupOnNode_b63 x3 m) (fun r _ => some (some (vi r), 38, m)) (fun n => R n 26 63 [qn, qn, qn, qi x3, qn] [] 38 m) :=
  Sim.shift 2 (G := (fun _ => some (some (vi x3), 38, m))) (fun _ => rfl) (Sim.pur _ _)
def f_groupOnNode (x1 x2 : Int) (m : OMem) : Option (Int) := (lp (f_groupOnNode_l5 m x1 x2) NN (0, 0)).bind fun x3_22 => (f_groupOnNode_b63 x3_22 m)
set_option maxRecDepth 65536 in
set_option maxHeartbeats 16000000 in
theorem f_groupOnNode_ok (x1 x2 : Int) (m : OMem) : Sim (f_groupOnNode x1 x2 m) (fun r _ => some (some (vi r), 38, m)) (fun n => R n 26 0 [qr 0, qi x1, qi x2, qn, qn] [] 38 m) :=
  Sim.shift 4 (G := fun n => R n 26 5 [qr 0, qi x1, qi x2, qi 0, qi 0] [] 38 m) (fun _ => rfl) (Sim.bind (Sim.lp (σ := Int × Int) (fun ⟨x3L, x4L⟩ => f_groupOnNode_l5_ok m x1 x2 x3L x4L) NN (0, 0)) (fun x3_22 => f_groupOnNode_b63_ok x3_22 m))
def f_fits_b17 (m : OMem) : Option (Int) := some 0
set_option maxRecDepth 65536 in
set_option maxHeartbeats 16000000 in
theorem f_fits_b17_ok (m : OMem) : Sim (f_fits_b17 m) (fun r _ => some (some (vi r), 38, m)) (fun n => R n 12 17 [qn, qn, qn, qn, qn, qn] [] 38 m) :=
  Sim.shift 2 (G := (fun _ => some (some (vi 0), 38, m))) (fun _ => rfl) (Sim.pur _ _)
def f_fits_b90 (m : OMem) : Option (Int) := some 0
set_option maxRecDepth 65536 in
set_option maxHeartbeats 16000000 in
theorem f_fits_b90_ok (m : OMem) : Sim (f_fits_b90 m) (fun r _ => some (some (vi r), 38, m)) (fun n => R n 12 90 [qn, qn, qn, qn, qn, qn] [] 38 m) :=
  Sim.shift 2 (G := (fun _ => some (some (vi 0), 38, m))) (fun _ => rfl) (Sim.pur _ _)
def f_fits_b117 (m : OMem) : Option (Int) := some 1
set_option maxRecDepth 65536 in
set_option maxHeartbeats 16000000 in
theorem f_fits_b117_ok (m : OMem) : Sim (f_fits_b117 m) (fun r _ => some (some (vi r), 38, m)) (fun n => R n 12 117 [qn, qn, qn, qn, qn, qn] [] 38 m) :=
  Sim.shift 2 (G := (fun _ => some (some (vi 1), 38, m))) (fun _ => rfl) (Sim.pur _ _)
def f_fits (x1 x2 : Int) (m : OMem) : Option (Int) := (f_validNode x2 m).bind fun r_16 => (if r_16 = 0 then (f_fits_b17 m) else ((f_labelsMatch x1 x2 m).bind fun r_17 => (if r_17 = 0 then (f_fits_b17 m) else ((f_usedOf x2 0 m).bind fun r_19 => ((f_usedOf x2 1 m).bind fun r_20 => ((f_usedOf x2 2 m).bind fun r_21 => (if 0 ≤ x1 ∧ x1 < 16 then (if 0 ≤ x2 ∧ x2 < 8 then (if m 2 x2 < w32 (r_19 + (m 9 x1)) then (f_fits_b90 m) else (if 0 ≤ x1 ∧ x1 < 16 then (if 0 ≤ x2 ∧ x2 < 8 then (if m 3 x2 < w32 (r_20 + (m 10 x1)) then (f_fits_b90 m) else (if 0 ≤ x2 ∧ x2 < 8 then (if m 4 x2 < w32 (r_21 + 1) then (f_fits_b90 m) else (if 0 ≤ x1 ∧ x1 < 16 then (if m 14 x1 = 0 then (f_fits_b117 m) else (if 0 ≤ x1 ∧ x1 < 16 then ((f_groupOnNode x2 (m 14 x1) m).bind fun r_23 => (if 0 < r_23 then (some 0) else (f_fits_b117 m))) else none)) else none)) else none)) else none) else none)) else none) else none)))))))
set_option maxRecDepth 65536 in
set_option maxHeartbeats 16000000 in
theorem f_fits_ok (x1 x2 : Int) (m : OMem) : Sim (f_fits x1 x2 m) (fun r _ => some (some (vi r), 38, m)) (fun n => R n 12 0 [qr 0, qi x1, qi x2, qn, qn, qn] [] 38 m) :=
  Sim.shift 3 (G := fun n => (R n 8 0 [qr 0, qi x2] [] 38 m).bind fun y => Rr n 12 5 [qr 0, qi x1, qi x2, qn, qn, qn] [] y) (fun _ => rfl) (Sim.call (f_validNode_ok x2 m) (fun _ _ => rfl) (runP_mono _ _ _ _ _ _) (fun _ => runP_mono _ _ _ _ _ _) (fun r_16 => Sim.shift 0 (G := fun n => R n 12 5 [qr 0, qi x1, qi x2, qn, qn, qn] [vi r_16] 38 m) (fun _ => rfl) (Sim.shift 1 (G := fun n => if r_16 = 0 then R n 12 17 [qr 0, qi x1, qi x2, qn, qn, qn] [] 38 m else R n 12 8 [qr 0, qi x1, qi x2, qn, qn, qn] [] 38 m) (fun _ => rfl) (Sim.ite (fun _ => Sim.jmp (f_fits_b17_ok m) rfl (fun _ => rfl)) (fun _ => Sim.shift 4 (G := fun n => (R n 22 0 [qr 0, qi x1, qi x2] [] 38 m).bind fun y => Rr n 12 14 [qr 0, qi x1, qi x2, qn, qn, qn] [] y) (fun _ => rfl) (Sim.call (f_labelsMatch_ok x1 x2 m) (fun _ _ => rfl) (runP_mono _ _ _ _ _ _) (fun _ => runP_mono _ _ _ _ _ _) (fun r_17 => Sim.shift 0 (G := fun n => R n 12 14 [qr 0, qi x1, qi x2, qn, qn, qn] [vi r_17] 38 m) (fun _ => rfl) (Sim.shift 1 (G := fun n => if r_17 = 0 then R n 12 17 [qr 0, qi x1, qi x2, qn, qn, qn] [] 38 m else R n 12 19 [qr 0, qi x1, qi x2, qn, qn, qn] [] 38 m) (fun _ => rfl) (Sim.ite (fun _ => Sim.jmp (f_fits_b17_ok m) rfl (fun _ => rfl)) (fun _ => Sim.shift 4 (G := fun n => (R n 23 0 [qr 0, qi x2, qi 0, qn, qn] [] 38 m).bind fun y => Rr n 12 25 [qr 0, qi x1, qi x2, qn, qn, qn] [] y) (fun _ => rfl) (Sim.call (f_usedOf_ok x2 0 m) (fun _ _ => rfl) (runP_mono _ _ _ _ _ _) (fun _ => runP_mono _ _ _ _ _ _) (fun r_19 => Sim.shift 0 (G := fun n => R n 12 25 [qr 0, qi x1, qi x2, qn, qn, qn] [vi r_19] 38 m) (fun _ => rfl) (Sim.shift 5 (G := fun n => (R n 23 0 [qr 0, qi x2, qi 1, qn, qn] [] 38 m).bind fun y => Rr n 12 32 [qr 0, qi x1, qi x2, qi r_19, qn, qn] [] y) (fun _ => rfl) (Sim.call (f_usedOf_ok x2 1 m) (fun _ _ => rfl) (runP_mono _ _ _ _ _ _) (fun _ => runP_mono _ _ _ _ _ _) (fun r_20 => Sim.shift 0 (G := fun n => R n 12 32 [qr 0, qi x1, qi x2, qi r_19, qn, qn] [vi r_20] 38 m) (fun _ => rfl) (Sim.shift 5 (G := fun n => (R n 23 0 [qr 0, qi x2, qi 2, qn, qn] [] 38 m).bind fun y => Rr n 12 40 [qr 0, qi x1, qi x2, qi r_19, qi r_20, qn] [] y) (fun _ => rfl) (Sim.call (f_usedOf_ok x2 2 m) (fun _ _ => rfl) (runP_mono _ _ _ _ _ _) (fun _ => runP_mono _ _ _ _ _ _) (fun r_21 => Sim.shift 0 (G := fun n => R n 12 40 [qr 0, qi x1, qi x2, qi r_19, qi r_20, qn] [vi r_21] 38 m) (fun _ => rfl) (Sim.shift 6 (G := fun n => if 0 ≤ x1 ∧ x1 < 16 then R n 12 49 [qr 0, qi x1, qi x2, qi r_19, qi r_20, qi r_21] [vi (m 9 x1), vi r_19] 38 m else none) (fun _ => rfl) (Sim.grd fun _ => Sim.shift 5 (G := fun n => if 0 ≤ x2 ∧ x2 < 8 then R n 12 56 [qr 0, qi x1, qi x2, qi r_19, qi r_20, qi r_21] [vi (m 2 x2), vi (w32 (r_19 + (m 9 x1)))] 38 m else none) (fun _ => rfl) (Sim.grd fun _ => Sim.shift 1 (G := fun n => if m 2 x2 < w32 (r_19 + (m 9 x1)) then R n 12 90 [qr 0, qi x1, qi x2, qi r_19, qi r_20, qi r_21] [] 38 m else R n 12 59 [qr 0, qi x1, qi x2, qi r_19, qi r_20, qi r_21] [] 38 m) (fun _ => rfl) (Sim.ite (fun _ => Sim.jmp (f_fits_b90_ok m) rfl (fun _ => rfl)) (fun _ => Sim.shift 5 (G := fun n => if 0 ≤ x1 ∧ x1 < 16 then R n 12 67 [qr 0, qi x1, qi x2, qn, qi r_20, qi r_21] [vi (m 10 x1), vi r_20] 38 m else none) (fun _ => rfl) (Sim.grd fun _ => Sim.shift 5 (G := fun n => if 0 ≤ x2 ∧ x2 < 8 then R n 12 74 [qr 0, qi x1, qi x2, qn, qi r_20, qi r_21] [vi (m 3 x2), vi (w32 (r_20 + (m 10 x1)))] 38 m else none) (fun _ => rfl) (Sim.grd fun _ => Sim.shift 1 (G := fun n => if m 3 x2 < w32 (r_20 + (m 10 x1)) then R n 12 90 [qr 0, qi x1, qi x2, qn, qi r_20, qi r_21] [] 38 m else R n 12 77 [qr 0, qi x1, qi x2, qn, qi r_20, qi r_21] [] 38 m) (fun _ => rfl) (Sim.ite (fun _ => Sim.jmp (f_fits_b90_ok m) rfl (fun _ => rfl)) (fun _ => Sim.shift 7 (G := fun n => if 0 ≤ x2 ∧ x2 < 8 then R n 12 87 [qr 0, qi x1, qi x2, qn, qn, qi r_21] [vi (m 4 x2), vi (w32 (r_21 + 1))] 38 m else none) (fun _ => rfl) (Sim.grd fun _ => Sim.shift 1 (G := fun n => if m 4 x2 < w32 (r_21 + 1) then R n 12 90 [qr 0, qi x1, qi x2, qn, qn, qi r_21] [] 38 m else R n 12 92 [qr 0, qi x1, qi x2, qn, qn, qi r_21] [] 38 m) (fun _ => rfl) (Sim.ite (fun _ => Sim.jmp (f_fits_b90_ok m) rfl (fun _ => rfl)) (fun _ => Sim.shift 4 (G := fun n => if 0 ≤ x1 ∧ x1 < 16 then R n 12 98 [qr 0, qi x1, qi x2, qn, qn, qn] [vi (m 14 x1)] 38 m else none) (fun _ => rfl) (Sim.grd fun _ => Sim.shift 1 (G := fun n => if m 14 x1 = 0 then R n 12 117 [qr 0, qi x1, qi x2, qn, qn, qn] [] 38 m else R n 12 101 [qr 0, qi x1, qi x2, qn, qn, qn] [] 38 m) (fun _ => rfl) (Sim.ite (fun _ => Sim.jmp (f_fits_b117_ok m) rfl (fun _ => rfl)) (fun _ => Sim.shift 6 (G := fun n => if 0 ≤ x1 ∧ x1 < 16 then R n 12 109 [qr 0, qi x1, qi x2, qn, qn, qn] [vi (m 14 x1), vi x2, vr 0] 38 m else none) (fun _ => rfl) (Sim.grd fun _ => Sim.shift 1 (G := fun n => (R n 26 0 [qr 0, qi x2, qi (m 14 x1), qn, qn] [] 38 m).bind fun y => Rr n 12 112 [qr 0, qi x1, qi x2, qn, qn, qn] [] y) (fun _ => rfl) (Sim.call (f_groupOnNode_ok x2 (m 14 x1) m) (fun _ _ => rfl) (runP_mono _ _ _ _ _ _) (fun _ => runP_mono _ _ _ _ _ _) (fun r_23 => Sim.shift 0 (G := fun n => R n 12 112 [qr 0, qi x1, qi x2, qn, qn, qn] [vi r_23] 38 m) (fun _ => rfl) (Sim.shift 1 (G := fun n => if 0 < r_23 then R n 12 115 [qr 0, qi x1, qi x2, qn, qn, qn] [] 38 m else R n 12 117 [qr 0, qi x1, qi x2, qn, qn, qn] [] 38 m) (fun _ => rfl) (Sim.ite (fun _ => Sim.shift 2 (G := (fun _ => some (some (vi 0), 38, m))) (fun _ => rfl) (Sim.pur _ _)) (fun _ => Sim.jmp (f_fits_b117_ok m) rfl (fun _ => rfl))))))))))))))))))))))))))))))))))))))))
def f_scoreOf_b109 (x7 x8 : Int) (m : OMem) : Option (Int) := some (w32 (x7 + (w32 (100 - x8))))
set_option maxRecDepth 65536 in
set_option maxHeartbeats 16000000 in
theorem f_scoreOf_b109_ok (x7 x8 : Int) (m : OMem) : Sim (f_scoreOf_b109 x7 x8 m) (fun r _ => some (some (vi r), 38, m)) (fun n => R n 27 109 [qn, qn, qn, qn, qn, qn, qn, qi x7, qi x8] [] 38 m) :=
  Sim.shift 5 (G := fun n => R n 27 117 [qn, qn, qn, qn, qn, qn, qn, qi x7, qi x8] [vi (w32 (x7 + (w32 (100 - x8))))] 38 m) (fun _ => rfl) (Sim.shift 1 (G := (fun _ => some (some (vi (w32 (x7 + (w32 (100 - x8))))), 38, m))) (fun _ => rfl) (Sim.pur _ _))
def f_scoreOf_b24 (m : OMem) : Option (Int) := some (-1)
set_option maxRecDepth 65536 in
set_option maxHeartbeats 16000000 in
theorem f_scoreOf_b24_ok (m : OMem) : Sim (f_scoreOf_b24 m) (fun r _ => some (some (vi r), 38, m)) (fun n => R n 27 24 [qn, qn, qn, qn, qn, qn, qn, qn, qn] [] 38 m) :=
  Sim.shift 2 (G := (fun _ => some (some (vi (-1)), 38, m))) (fun _ => rfl) (Sim.pur _ _)
def f_scoreOf (x1 x2 : Int) (m : OMem) : Option (Int) := if 0 ≤ x2 ∧ x2 < 8 then (if 0 ≤ x2 ∧ x2 < 8 then (if 0 < m 2 x2 then (if 0 < m 3 x2 then ((f_usedOf x2 0 m).bind fun r_25 => (if 0 ≤ x1 ∧ x1 < 16 then ((f_usedOf x2 1 m).bind fun r_26 => (if 0 ≤ x1 ∧ x1 < 16 then (if (m 2 x2) = 0 then none else (if (m 3 x2) = 0 then none else (if (m 2 x2) = 0 then none else (if (m 3 x2) = 0 then none else (if w32 ((div32 (w32 ((w32 (r_25 + (m 9 x1))) * 100)) (m 2 x2)) - (div32 (w32 ((w32 (r_26 + (m 10 x1))) * 100)) (m 3 x2))) < 0 then (f_scoreOf_b109 (div32 (w32 ((div32 (w32 ((w32 ((m 2 x2) - (w32 (r_25 + (m 9 x1))))) * 100)) (m 2 x2)) + (div32 (w32 ((w32 ((m 3 x2) - (w32 (r_26 + (m 10 x1))))) * 100)) (m 3 x2)))) 2) (w32 (-(w32 ((div32 (w32 ((w32 (r_25 + (m 9 x1))) * 100)) (m 2 x2)) - (div32 (w32 ((w32 (r_26 + (m 10 x1))) * 100)) (m 3 x2)))))) m) else (f_scoreOf_b109 (div32 (w32 ((div32 (w32 ((w32 ((m 2 x2) - (w32 (r_25 + (m 9 x1))))) * 100)) (m 2 x2)) + (div32 (w32 ((w32 ((m 3 x2) - (w32 (r_26 + (m 10 x1))))) * 100)) (m 3 x2)))) 2) (w32 ((div32 (w32 ((w32 (r_25 + (m 9 x1))) * 100)) (m 2 x2)) - (div32 (w32 ((w32 (r_26 + (m 10 x1))) * 100)) (m 3 x2)))) m)))))) else none)) else none)) else (f_scoreOf_b24 m)) else (f_scoreOf_b24 m)) else none) else none
set_option maxRecDepth 65536 in
set_option maxHeartbeats 16000000 in
theorem f_scoreOf_ok (x1 x2 : Int) (m : OMem) : Sim (f_scoreOf x1 x2 m) (fun r _ => some (some (vi r), 38, m)) (fun n => R n 27 0 [qr 0, qi x1, qi x2, qn, qn, qn, qn, qn, qn] [] 38 m) :=
  Sim.shift 4 (G := fun n => if 0 ≤ x2 ∧ x2 < 8 then R n 27 6 [qr 0, qi x1, qi x2, qn, qn, qn, qn, qn, qn] [vi (m 2 x2)] 38 m else none) (fun _ => rfl) (Sim.grd fun _ => Sim.shift 5 (G := fun n => if 0 ≤ x2 ∧ x2 < 8 then R n 27 13 [qr 0, qi x1, qi x2, qi (m 2 x2), qn, qn, qn, qn, qn] [vi (m 3 x2)] 38 m else none) (fun _ => rfl) (Sim.grd fun _ => Sim.shift 3 (G := fun n => if 0 < m 2 x2 then R n 27 19 [qr 0, qi x1, qi x2, qi (m 2 x2), qi (m 3 x2), qn, qn, qn, qn] [] 38 m else R n 27 24 [qr 0, qi x1, qi x2, qi (m 2 x2), qi (m 3 x2), qn, qn, qn, qn] [] 38 m) (fun _ => rfl) (Sim.ite (fun _ => Sim.shift 2 (G := fun n => if 0 < m 3 x2 then R n 27 26 [qr 0, qi x1, qi x2, qi (m 2 x2), qi (m 3 x2), qn, qn, qn, qn] [] 38 m else R n 27 24 [qr 0, qi x1, qi x2, qi (m 2 x2), qi (m 3 x2), qn, qn, qn, qn] [] 38 m) (fun _ => rfl) (Sim.ite (fun _ => Sim.shift 4 (G := fun n => (R n 23 0 [qr 0, qi x2, qi 0, qn, qn] [] 38 m).bind fun y => Rr n 27 32 [qr 0, qi x1, qi x2, qi (m 2 x2), qi (m 3 x2), qn, qn, qn, qn] [] y) (fun _ => rfl) (Sim.call (f_usedOf_ok x2 0 m) (fun _ _ => rfl) (runP_mono _ _ _ _ _ _) (fun _ => runP_mono _ _ _ _ _ _) (fun r_25 => Sim.shift 0 (G := fun n => R n 27 32 [qr 0, qi x1, qi x2, qi (m 2 x2), qi (m 3 x2), qn, qn, qn, qn] [vi r_25] 38 m) (fun _ => rfl) (Sim.shift 4 (G := fun n => if 0 ≤ x1 ∧ x1 < 16 then R n 27 38 [qr 0, qi x1, qi x2, qi (m 2 x2), qi (m 3 x2), qn, qn, qn, qn] [vi (m 9 x1), vi r_25] 38 m else none) (fun _ => rfl) (Sim.grd fun _ => Sim.shift 5 (G := fun n => R n 27 44 [qr 0, qi x1, qi x2, qi (m 2 x2), qi (m 3 x2), qi (w32 (r_25 + (m 9 x1))), qn, qn, qn] [vi 1, vi x2, vr 0] 38 m) (fun _ => rfl) (Sim.shift 1 (G := fun n => (R n 23 0 [qr 0, qi x2, qi 1, qn, qn] [] 38 m).bind fun y => Rr n 27 47 [qr 0, qi x1, qi x2, qi (m 2 x2), qi (m 3 x2), qi (w32 (r_25 + (m 9 x1))), qn, qn, qn] [] y) (fun _ => rfl) (Sim.call (f_usedOf_ok x2 1 m) (fun _ _ => rfl) (runP_mono _ _ _ _ _ _) (fun _ => runP_mono _ _ _ _ _ _) (fun r_26 => Sim.shift 0 (G := fun n => R n 27 47 [qr 0, qi x1, qi x2, qi (m 2 x2), qi (m 3 x2), qi (w32 (r_25 + (m 9 x1))), qn, qn, qn] [vi r_26] 38 m) (fun _ => rfl) (Sim.shift 4 (G := fun n => if 0 ≤ x1 ∧ x1 < 16 then R n 27 53 [qr 0, qi x1, qi x2, qi (m 2 x2), qi (m 3 x2), qi (w32 (r_25 + (m 9 x1))), qn, qn, qn] [vi (m 10 x1), vi r_26] 38 m else none) (fun _ => rfl) (Sim.grd fun _ => Sim.shift 5 (G := fun n => R n 27 60 [qr 0, qi x1, qi x2, qi (m 2 x2), qi (m 3 x2), qi (w32 (r_25 + (m 9 x1))), qi (w32 (r_26 + (m 10 x1))), qn, qn] [vi (w32 ((m 2 x2) - (w32 (r_25 + (m 9 x1)))))] 38 m) (fun _ => rfl) (Sim.shift 3 (G := fun n => R n 27 64 [qr 0, qi x1, qi x2, qi (m 2 x2), qi (m 3 x2), qi (w32 (r_25 + (m 9 x1))), qi (w32 (r_26 + (m 10 x1))), qn, qn] [vi (m 2 x2), vi (w32 ((w32 ((m 2 x2) - (w32 (r_25 + (m 9 x1))))) * 100))] 38 m) (fun _ => rfl) (Sim.shift 1 (G := fun n => if (m 2 x2) = 0 then none else R n 27 65 [qr 0, qi x1, qi x2, qi (m 2 x2), qi (m 3 x2), qi (w32 (r_25 + (m 9 x1))), qi (w32 (r_26 + (m 10 x1))), qn, qn] [vi (div32 (w32 ((w32 ((m 2 x2) - (w32 (r_25 + (m 9 x1))))) * 100)) (m 2 x2))] 38 m) (fun _ => rfl) (Sim.dv fun _ => Sim.shift 4 (G := fun n => R n 27 72 [qr 0, qi x1, qi x2, qi (m 2 x2), qi (m 3 x2), qi (w32 (r_25 + (m 9 x1))), qi (w32 (r_26 + (m 10 x1))), qn, qn] [vi 100, vi (w32 ((m 3 x2) - (w32 (r_26 + (m 10 x1))))), vi (div32 (w32 ((w32 ((m 2 x2) - (w32 (r_25 + (m 9 x1))))) * 100)) (m 2 x2))] 38 m) (fun _ => rfl) (Sim.shift 2 (G := fun n => R n 27 75 [qr 0, qi x1, qi x2, qi (m 2 x2), qi (m 3 x2), qi (w32 (r_25 + (m 9 x1))), qi (w32 (r_26 + (m 10 x1))), qn, qn] [vi (m 3 x2), vi (w32 ((w32 ((m 3 x2) - (w32 (r_26 + (m 10 x1))))) * 100)), vi (div32 (w32 ((w32 ((m 2 x2) - (w32 (r_25 + (m 9 x1))))) * 100)) (m 2 x2))] 38 m) (fun _ => rfl) (Sim.shift 1 (G := fun n => if (m 3 x2) = 0 then none else R n 27 76 [qr 0, qi x1, qi x2, qi (m 2 x2), qi (m 3 x2), qi (w32 (r_25 + (m 9 x1))), qi (w32 (r_26 + (m 10 x1))), qn, qn] [vi (div32 (w32 ((w32 ((m 3 x2) - (w32 (r_26 + (m 10 x1))))) * 100)) (m 3 x2)), vi (div32 (w32 ((w32 ((m 2 x2) - (w32 (r_25 + (m 9 x1))))) * 100)) (m 2 x2))] 38 m) (fun _ => rfl) (Sim.dv fun _ => Sim.shift 2 (G := fun n => R n 27 78 [qr 0, qi x1, qi x2, qi (m 2 x2), qi (m 3 x2), qi (w32 (r_25 + (m 9 x1))), qi (w32 (r_26 + (m 10 x1))), qn, qn] [vi 2, vi (w32 ((div32 (w32 ((w32 ((m 2 x2) - (w32 (r_25 + (m 9 x1))))) * 100)) (m 2 x2)) + (div32 (w32 ((w32 ((m 3 x2) - (w32 (r_26 + (m 10 x1))))) * 100)) (m 3 x2))))] 38 m) (fun _ => rfl) (Sim.shift 4 (G := fun n => R n 27 85 [qr 0, qi x1, qi x2, qi (m 2 x2), qi (m 3 x2), qi (w32 (r_25 + (m 9 x1))), qi (w32 (r_26 + (m 10 x1))), qi (div32 (w32 ((div32 (w32 ((w32 ((m 2 x2) - (w32 (r_25 + (m 9 x1))))) * 100)) (m 2 x2)) + (div32 (w32 ((w32 ((m 3 x2) - (w32 (r_26 + (m 10 x1))))) * 100)) (m 3 x2)))) 2), qn] [vi 100, vi (w32 (r_25 + (m 9 x1)))] 38 m) (fun _ => rfl) (Sim.shift 2 (G := fun n => R n 27 87 [qr 0, qi x1, qi x2, qi (m 2 x2), qi (m 3 x2), qi (w32 (r_25 + (m 9 x1))), qi (w32 (r_26 + (m 10 x1))), qi (div32 (w32 ((div32 (w32 ((w32 ((m 2 x2) - (w32 (r_25 + (m 9 x1))))) * 100)) (m 2 x2)) + (div32 (w32 ((w32 ((m 3 x2) - (w32 (r_26 + (m 10 x1))))) * 100)) (m 3 x2)))) 2), qn] [vi (m 2 x2), vi (w32 ((w32 (r_25 + (m 9 x1))) * 100))] 38 m) (fun _ => rfl) (Sim.shift 1 (G := fun n => if (m 2 x2) = 0 then none else R n 27 88 [qr 0, qi x1, qi x2, qi (m 2 x2), qi (m 3 x2), qi (w32 (r_25 + (m 9 x1))), qi (w32 (r_26 + (m 10 x1))), qi (div32 (w32 ((div32 (w32 ((w32 ((m 2 x2) - (w32 (r_25 + (m 9 x1))))) * 100)) (m 2 x2)) + (div32 (w32 ((w32 ((m 3 x2) - (w32 (r_26 + (m 10 x1))))) * 100)) (m 3 x2)))) 2), qn] [vi (div32 (w32 ((w32 (r_25 + (m 9 x1))) * 100)) (m 2 x2))] 38 m) (fun _ => rfl) (Sim.dv fun _ => Sim.shift 4 (G := fun n => R n 27 95 [qr 0, qi x1, qi x2, qi (m 2 x2), qi (m 3 x2), qi (w32 (r_25 + (m 9 x1))), qi (w32 (r_26 + (m 10 x1))), qi (div32 (w32 ((div32 (w32 ((w32 ((m 2 x2) - (w32 (r_25 + (m 9 x1))))) * 100)) (m 2 x2)) + (div32 (w32 ((w32 ((m 3 x2) - (w32 (r_26 + (m 10 x1))))) * 100)) (m 3 x2)))) 2), qn] [vi (m 3 x2), vi (w32 ((w32 (r_26 + (m 10 x1))) * 100)), vi (div32 (w32 ((w32 (r_25 + (m 9 x1))) * 100)) (m 2 x2))] 38 m) (fun _ => rfl) (Sim.shift 1 (G := fun n => if (m 3 x2) = 0 then none else R n 27 96 [qr 0, qi x1, qi x2, qi (m 2 x2), qi (m 3 x2), qi (w32 (r_25 + (m 9 x1))), qi (w32 (r_26 + (m 10 x1))), qi (div32 (w32 ((div32 (w32 ((w32 ((m 2 x2) - (w32 (r_25 + (m 9 x1))))) * 100)) (m 2 x2)) + (div32 (w32 ((w32 ((m 3 x2) - (w32 (r_26 + (m 10 x1))))) * 100)) (m 3 x2)))) 2), qn] [vi (div32 (w32 ((w32 (r_26 + (m 10 x1))) * 100)) (m 3 x2)), vi (div32 (w32 ((w32 (r_25 + (m 9 x1))) * 100)) (m 2 x2))] 38 m) (fun _ => rfl) (Sim.dv fun _ => Sim.shift 4 (G := fun n => if w32 ((div32 (w32 ((w32 (r_25 + (m 9 x1))) * 100)) (m 2 x2)) - (div32 (w32 ((w32 (r_26 + (m 10 x1))) * 100)) (m 3 x2))) < 0 then R n 27 104 [qr 0, qi x1, qi x2, qi (m 2 x2), qi (m 3 x2), qi (w32 (r_25 + (m 9 x1))), qi (w32 (r_26 + (m 10 x1))), qi (div32 (w32 ((div32 (w32 ((w32 ((m 2 x2) - (w32 (r_25 + (m 9 x1))))) * 100)) (m 2 x2)) + (div32 (w32 ((w32 ((m 3 x2) - (w32 (r_26 + (m 10 x1))))) * 100)) (m 3 x2)))) 2), qi (w32 ((div32 (w32 ((w32 (r_25 + (m 9 x1))) * 100)) (m 2 x2)) - (div32 (w32 ((w32 (r_26 + (m 10 x1))) * 100)) (m 3 x2))))] [] 38 m else R n 27 109 [qr 0, qi x1, qi x2, qi (m 2 x2), qi (m 3 x2), qi (w32 (r_25 + (m 9 x1))), qi (w32 (r_26 + (m 10 x1))), qi (div32 (w32 ((div32 (w32 ((w32 ((m 2 x2) - (w32 (r_25 + (m 9 x1))))) * 100)) (m 2 x2)) + (div32 (w32 ((w32 ((m 3 x2) - (w32 (r_26 + (m 10 x1))))) * 100)) (m 3 x2)))) 2), qi (w32 ((div32 (w32 ((w32 (r_25 + (m 9 x1))) * 100)) (m 2 x2)) - (div32 (w32 ((w32 (r_26 + (m 10 x1))) * 100)) (m 3 x2))))] [] 38 m) (fun _ => rfl) (Sim.ite (fun _ => Sim.shift 3 (G := fun n => R n 27 109 [qn, qn, qn, qn, qn, qn, qn, qi (div32 (w32 ((div32 (w32 ((w32 ((m 2 x2) - (w32 (r_25 + (m 9 x1))))) * 100)) (m 2 x2)) + (div32 (w32 ((w32 ((m 3 x2) - (w32 (r_26 + (m 10 x1))))) * 100)) (m 3 x2)))) 2), qi (w32 (-(w32 ((div32 (w32 ((w32 (r_25 + (m 9 x1))) * 100)) (m 2 x2)) - (div32 (w32 ((w32 (r_26 + (m 10 x1))) * 100)) (m 3 x2))))))] [] 38 m) (fun _ => rfl) (f_scoreOf_b109_ok (div32 (w32 ((div32 (w32 ((w32 ((m 2 x2) - (w32 (r_25 + (m 9 x1))))) * 100)) (m 2 x2)) + (div32 (w32 ((w32 ((m 3 x2) - (w32 (r_26 + (m 10 x1))))) * 100)) (m 3 x2)))) 2) (w32 (-(w32 ((div32 (w32 ((w32 (r_25 + (m 9 x1))) * 100)) (m 2 x2)) - (div32 (w32 ((w32 (r_26 + (m 10 x1))) * 100)) (m 3 x2)))))) m)) (fun _ => Sim.jmp (f_scoreOf_b109_ok (div32 (w32 ((div32 (w32 ((w32 ((m 2 x2) - (w32 (r_25 + (m 9 x1))))) * 100)) (m 2 x2)) + (div32 (w32 ((w32 ((m 3 x2) - (w32 (r_26 + (m 10 x1))))) * 100)) (m 3 x2)))) 2) (w32 ((div32 (w32 ((w32 (r_25 + (m 9 x1))) * 100)) (m 2 x2)) - (div32 (w32 ((w32 (r_26 + (m 10 x1))) * 100)) (m 3 x2)))) m) rfl (fun _ => rfl))))))))))))))))))))))))) (fun _ => Sim.jmp (f_scoreOf_b24_ok m) rfl (fun _ => rfl)))) (fun _ => Sim.jmp (f_scoreOf_b24_ok m) rfl (fun _ => rfl)))))
def f_score_b18 (m : OMem) : Option (Int) := some (-1)
set_option maxRecDepth 65536 in
set_option maxHeartbeats 16000000 in
theorem f_score_b18_ok (m : OMem) : Sim (f_score_b18 m) (fun r _ => some (some (vi r), 38, m)) (fun n => R n 11 18 [qn, qn, qn] [] 38 m) :=
  Sim.shift 2 (G := (fun _ => some (some (vi (-1)), 38, m))) (fun _ => rfl) (Sim.pur _ _)
def f_score (x1 x2 : Int) (m : OMem) : Option (Int) := (f_validPod x1 m).bind fun r_15 => (if r_15 = 0 then (f_score_b18 m) else (if 0 ≤ x1 ∧ x1 < 16 then (if m 7 x1 = 1 then ((f_fits x1 x2 m).bind fun r_24 => (if r_24 = 0 then (some (-1)) else ((f_scoreOf x1 x2 m).bind fun r_27 => (some r_27)))) else (f_score_b18 m)) else none))
set_option maxRecDepth 65536 in
set_option maxHeartbeats 16000000 in
theorem f_score_ok (x1 x2 : Int) (m : OMem) : Sim (f_score x1 x2 m) (fun r _ => some (some (vi r), 38, m)) (fun n => R n 11 0 [qr 0, qi x1, qi x2] [] 38 m) :=
  Sim.shift 3 (G := fun n => (R n 3 0 [qr 0, qi x1] [] 38 m).bind fun y => Rr n 11 5 [qr 0, qi x1, qi x2] [] y) (fun _ => rfl) (Sim.call (f_validPod_ok 38 x1 m) (fun _ _ => rfl) (runP_mono _ _ _ _ _ _) (fun _ => runP_mono _ _ _ _ _ _) (fun r_15 => Sim.shift 0 (G := fun n => R n 11 5 [qr 0, qi x1, qi x2] [vi r_15] 38 m) (fun _ => rfl) (Sim.shift 1 (G := fun n => if r_15 = 0 then R n 11 18 [qr 0, qi x1, qi x2] [] 38 m else R n 11 8 [qr 0, qi x1, qi x2] [] 38 m) (fun _ => rfl) (Sim.ite (fun _ => Sim.jmp (f_score_b18_ok m) rfl (fun _ => rfl)) (fun _ => Sim.shift 4 (G := fun n => if 0 ≤ x1 ∧ x1 < 16 then R n 11 14 [qr 0, qi x1, qi x2] [vi (m 7 x1)] 38 m else none) (fun _ => rfl) (Sim.grd fun _ => Sim.shift 2 (G := fun n => if m 7 x1 = 1 then R n 11 20 [qr 0, qi x1, qi x2] [] 38 m else R n 11 18 [qr 0, qi x1, qi x2] [] 38 m) (fun _ => rfl) (Sim.ite (fun _ => Sim.shift 4 (G := fun n => (R n 12 0 [qr 0, qi x1, qi x2, qn, qn, qn] [] 38 m).bind fun y => Rr n 11 26 [qr 0, qi x1, qi x2] [] y) (fun _ => rfl) (Sim.call (f_fits_ok x1 x2 m) (fun _ _ => rfl) (runP_mono _ _ _ _ _ _) (fun _ => runP_mono _ _ _ _ _ _) (fun r_24 => Sim.shift 0 (G := fun n => R n 11 26 [qr 0, qi x1, qi x2] [vi r_24] 38 m) (fun _ => rfl) (Sim.shift 1 (G := fun n => if r_24 = 0 then R n 11 29 [qr 0, qi x1, qi x2] [] 38 m else R n 11 31 [qr 0, qi x1, qi x2] [] 38 m) (fun _ => rfl) (Sim.ite (fun _ => Sim.shift 2 (G := (fun _ => some (some (vi (-1)), 38, m))) (fun _ => rfl) (Sim.pur _ _)) (fun _ => Sim.shift 4 (G := fun n => (R n 27 0 [qr 0, qi x1, qi x2, qn, qn, qn, qn, qn, qn] [] 38 m).bind fun y => Rr n 11 37 [qr 0, qi x1, qi x2] [] y) (fun _ => rfl) (Sim.call (f_scoreOf_ok x1 x2 m) (fun _ _ => rfl) (runP_mono _ _ _ _ _ _) (fun _ => runP_mono _ _ _ _ _ _) (fun r_27 => Sim.shift 0 (G := fun n => R n 11 37 [qr 0, qi x1, qi x2] [vi r_27] 38 m) (fun _ => rfl) (Sim.shift 1 (G := (fun _ => some (some (vi r_27), 38, m))) (fun _ => rfl) (Sim.pur _ _)))))))))) (fun _ => Sim.jmp (f_score_b18_ok m) rfl (fun _ => rfl)))))))))
def f_nodeUsed_b17 (m : OMem) : Option (Int) := some (-1)
set_option maxRecDepth 65536 in
set_option maxHeartbeats 16000000 in
theorem f_nodeUsed_b17_ok (m : OMem) : Sim (f_nodeUsed_b17 m) (fun r _ => some (some (vi r), 38, m)) (fun n => R n 13 17 [qn, qn, qn] [] 38 m) :=
  Sim.shift 2 (G := (fun _ => some (some (vi (-1)), 38, m))) (fun _ => rfl) (Sim.pur _ _)
def f_nodeUsed (x1 x2 : Int) (m : OMem) : Option (Int) := (f_validNode x1 m).bind fun r_28 => (if r_28 = 0 then (f_nodeUsed_b17 m) else (if x2 < 0 then (f_nodeUsed_b17 m) else (if 2 < x2 then (f_nodeUsed_b17 m) else ((f_usedOf x1 x2 m).bind fun r_29 => (some r_29)))))
set_option maxRecDepth 65536 in
set_option maxHeartbeats 16000000 in
theorem f_nodeUsed_ok (x1 x2 : Int) (m : OMem) : Sim (f_nodeUsed x1 x2 m) (fun r _ => some (some (vi r), 38, m)) (fun n => R n 13 0 [qr 0, qi x1, qi x2] [] 38 m) :=
  Sim.shift 3 (G := fun n => (R n 8 0 [qr 0, qi x1] [] 38 m).bind fun y => Rr n 13 5 [qr 0, qi x1, qi x2] [] y) (fun _ => rfl) (Sim.call (f_validNode_ok x1 m) (fun _ _ => rfl) (runP_mono _ _ _ _ _ _) (fun _ => runP_mono _ _ _ _ _ _) (fun r_28 => Sim.shift 0 (G := fun n => R n 13 5 [qr 0, qi x1, qi x2] [vi r_28] 38 m) (fun _ => rfl) (Sim.shift 1 (G := fun n => if r_28 = 0 then R n 13 17 [qr 0, qi x1, qi x2] [] 38 m else R n 13 8 [qr 0, qi x1, qi x2] [] 38 m) (fun _ => rfl) (Sim.ite (fun _ => Sim.jmp (f_nodeUsed_b17_ok m) rfl (fun _ => rfl)) (fun _ => Sim.shift 2 (G := fun n => if x2 < 0 then R n 13 17 [qr 0, qi x1, qi x2] [] 38 m else R n 13 12 [qr 0, qi x1, qi x2] [] 38 m) (fun _ => rfl) (Sim.ite (fun _ => Sim.jmp (f_nodeUsed_b17_ok m) rfl (fun _ => rfl)) (fun _ => Sim.shift 3 (G := fun n => if 2 < x2 then R n 13 17 [qr 0, qi x1, qi x2] [] 38 m else R n 13 19 [qr 0, qi x1, qi x2] [] 38 m) (fun _ => rfl) (Sim.ite (fun _ => Sim.jmp (f_nodeUsed_b17_ok m) rfl (fun _ => rfl)) (fun _ => Sim.shift 4 (G := fun n => (R n 23 0 [qr 0, qi x1, qi x2, qn, qn] [] 38 m).bind fun y => Rr n 13 25 [qr 0, qi x1, qi x2] [] y) (fun _ => rfl) (Sim.call (f_usedOf_ok x1 x2 m) (fun _ _ => rfl) (runP_mono _ _ _ _ _ _) (fun _ => runP_mono _ _ _ _ _ _) (fun r_29 => Sim.shift 0 (G := fun n => R n 13 25 [qr 0, qi x1, qi x2] [vi r_29] 38 m) (fun _ => rfl) (Sim.shift 1 (G := (fun _ => some (some (vi r_29), 38, m))) (fun _ => rfl) (Sim.pur _ _)))))))))))))
def f_lastOutcome (m : OMem) : Option (Int) := some (m 0 22)
set_option maxRecDepth 65536 in
set_option maxHeartbeats 16000000 in
theorem f_lastOutcome_ok (t : Nat) (m : OMem) : Sim (f_lastOutcome m) (fun r _ => some (some (vi r), t, m)) (fun n => R n 14 0 [qr 0] [] t m) :=
  Sim.shift 3 (G := (fun _ => some (some (vi (m 0 22)), t, m))) (fun _ => rfl) (Sim.pur _ _)
def f_bestFitNode_l7_H (m : OMem) (x1 : Int) : Int × Int × Int → Nat → RT := fun (x2, x3, x4) n => R n 17 7 [qr 0, qi x1, qi x2, qi x3, qi x4, qn] [] 38 m
def f_bestFitNode_l7_X (m : OMem) (x1 : Int) : (Int) → Nat → RT := fun e n => match e with | y2 => R n 17 67 [qn, qn, qi y2, qn, qn, qn] [] 38 m
def f_bestFitNode_b61 (x1 x2 x3 x4 : Int) (m : OMem) : Option ((Int × Int × Int) ⊕ ((Int))) := some (.inl (x2, x3, w32 (x4 + 1)))
set_option maxRecDepth 65536 in
set_option maxHeartbeats 16000000 in
theorem f_bestFitNode_b61_ok (x1 x2 x3 x4 : Int) (m : OMem) : Sim (f_bestFitNode_b61 x1 x2 x3 x4 m) (Sum.elim (f_bestFitNode_l7_H m x1 ) (f_bestFitNode_l7_X m x1 )) (fun n => R n 17 61 [qr 0, qi x1, qi x2, qi x3, qi x4, qn] [] 38 m) :=
  Sim.shift 2 (G := fun n => R n 17 7 [qr 0, qi x1, qi x2, qi x3, qi (w32 (x4 + 1)), qn] [] 38 m) (fun _ => rfl) (Sim.pur _ _)
def f_bestFitNode_b55 (x1 x4 x5 : Int) (m : OMem) : Option ((Int × Int × Int) ⊕ ((Int))) := f_bestFitNode_b61 x1 x4 x5 x4 m
set_option maxRecDepth 65536 in
set_option maxHeartbeats 16000000 in
theorem f_bestFitNode_b55_ok (x1 x4 x5 : Int) (m : OMem) : Sim (f_bestFitNode_b55 x1 x4 x5 m) (Sum.elim (f_bestFitNode_l7_H m x1 ) (f_bestFitNode_l7_X m x1 )) (fun n => R n 17 55 [qr 0, qi x1, qn, qn, qi x4, qi x5] [] 38 m) :=
  Sim.shift 4 (G := fun n => R n 17 61 [qr 0, qi x1, qi x4, qi x5, qi x4, qi x5] [] 38 m) (fun _ => rfl) (Sim.jmp (f_bestFitNode_b61_ok x1 x4 x5 x4 m) rfl (fun _ => rfl))
def f_bestFitNode_l7 (m : OMem) (x1 : Int) : Int × Int × Int → Option ((Int × Int × Int) ⊕ ((Int))) := fun (x2, x3, x4) => if x4 < m 0 19 then (if x4 < 8 then ((f_fits x1 x4 m).bind fun r_31 => (if r_31 = 0 then (f_bestFitNode_b61 x1 x2 x3 x4 m) else ((f_scoreOf x1 x4 m).bind fun r_32 => (if x2 < 0 then (f_bestFitNode_b55 x1 x4 r_32 m) else (if x3 < r_32 then (f_bestFitNode_b55 x1 x4 r_32 m) else (f_bestFitNode_b61 x1 x2 x3 x4 m)))))) else (some (.inr x2))) else (some (.inr x2))
set_option maxRecDepth 65536 in
set_option maxHeartbeats 16000000 in
theorem f_bestFitNode_l7_ok (m : OMem) (x1 : Int) (x2 x3 x4 : Int) : Sim (f_bestFitNode_l7 m x1 (x2, x3, x4)) (Sum.elim (f_bestFitNode_l7_H m x1 ) (f_bestFitNode_l7_X m x1 )) (f_bestFitNode_l7_H m x1 (x2, x3, x4)) :=
  Sim.shift 4 (G := fun n => if x4 < m 0 19 then R n 17 16 [qr 0, qi x1, qi x2, qi x3, qi x4, qn] [] 38 m else R n 17 67 [qr 0, qi x1, qi x2, qi x3, qi x4, qn] [] 38 m) (fun _ => rfl) (Sim.ite (fun _ => Sim.shift 3 (G := fun n => if x4 < 8 then R n 17 23 [qr 0, qi x1, qi x2, qi x3, qi x4, qn] [] 38 m else R n 17 67 [qr 0, qi x1, qi x2, qi x3, qi x4, qn] [] 38 m) (fun _ => rfl) (Sim.ite (fun _ => Sim.shift 4 (G := fun n => (R n 12 0 [qr 0, qi x1, qi x4, qn, qn, qn] [] 38 m).bind fun y => Rr n 17 30 [qr 0, qi x1, qi x2, qi x3, qi x4, qn] [] y) (fun _ => rfl) (Sim.call (f_fits_ok x1 x4 m) (fun _ _ => rfl) (runP_mono _ _ _ _ _ _) (fun _ => runP_mono _ _ _ _ _ _) (fun r_31 => Sim.shift 0 (G := fun n => R n 17 30 [qr 0, qi x1, qi x2, qi x3, qi x4, qn] [vi r_31] 38 m) (fun _ => rfl) (Sim.shift 1 (G := fun n => if r_31 = 0 then R n 17 33 [qr 0, qi x1, qi x2, qi x3, qi x4, qn] [] 38 m else R n 17 36 [qr 0, qi x1, qi x2, qi x3, qi x4, qn] [] 38 m) (fun _ => rfl) (Sim.ite (fun _ => Sim.shift 1 (G := fun n => R n 17 61 [qr 0, qi x1, qi x2, qi x3, qi x4, qn] [] 38 m) (fun _ => rfl) (f_bestFitNode_b61_ok x1 x2 x3 x4 m)) (fun _ => Sim.shift 4 (G := fun n => (R n 27 0 [qr 0, qi x1, qi x4, qn, qn, qn, qn, qn, qn] [] 38 m).bind fun y => Rr n 17 43 [qr 0, qi x1, qi x2, qi x3, qi x4, qn] [] y) (fun _ => rfl) (Sim.call (f_scoreOf_ok x1 x4 m) (fun _ _ => rfl) (runP_mono _ _ _ _ _ _) (fun _ => runP_mono _ _ _ _ _ _) (fun r_32 => Sim.shift 0 (G := fun n => R n 17 43 [qr 0, qi x1, qi x2, qi x3, qi x4, qn] [vi r_32] 38 m) (fun _ => rfl) (Sim.shift 3 (G := fun n => if x2 < 0 then R n 17 55 [qr 0, qi x1, qi x2, qi x3, qi x4, qi r_32] [] 38 m else R n 17 49 [qr 0, qi x1, qi x2, qi x3, qi x4, qi r_32] [] 38 m) (fun _ => rfl) (Sim.ite (fun _ => Sim.jmp (f_bestFitNode_b55_ok x1 x4 r_32 m) rfl (fun _ => rfl)) (fun _ => Sim.shift 3 (G := fun n => if x3 < r_32 then R n 17 55 [qr 0, qi x1, qi x2, qi x3, qi x4, qi r_32] [] 38 m else R n 17 61 [qr 0, qi x1, qi x2, qi x3, qi x4, qi r_32] [] 38 m) (fun _ => rfl) (Sim.ite (fun _ => Sim.jmp (f_bestFitNode_b55_ok x1 x4 r_32 m) rfl (fun _ => rfl)) (fun _ => Sim.jmp (f_bestFitNode_b61_ok x1 x2 x3 x4 m) rfl (fun _ => rfl)))))))))))))) (fun _ => Sim.leaf rfl (fun _ => rfl)))) (fun _ => Sim.leaf rfl (fun _ => rfl)))
def f_bestFitNode_b67 (x2 : Int) (m : OMem) : Option (Int) := some x2
set_option maxRecDepth 65536 in
set_option maxHeartbeats 16000000 in
theorem f_bestFitNode_b67_ok (x2 : Int) (m : OMem) : Sim (f_bestFitNode_b67 x2 m) (fun r _ => some (some (vi r), 38, m)) (fun n => R n 17 67 [qn, qn, qi x2, qn, qn, qn] [] 38 m) :=
  Sim.shift 2 (G := (fun _ => some (some (vi x2), 38, m))) (fun _ => rfl) (Sim.pur _ _)
def f_bestFitNode (x1 : Int) (m : OMem) : Option (Int) := (lp (f_bestFitNode_l7 m x1) NN ((-1), (-1), 0)).bind fun x2_33 => (f_bestFitNode_b67 x2_33 m)
set_option maxRecDepth 65536 in
set_option maxHeartbeats 16000000 in
theorem f_bestFitNode_ok (x1 : Int) (m : OMem) : Sim (f_bestFitNode x1 m) (fun r _ => some (some (vi r), 38, m)) (fun n => R n 17 0 [qr 0, qi x1, qn, qn, qn, qn] [] 38 m) :=
  Sim.shift 6 (G := fun n => R n 17 7 [qr 0, qi x1, qi (-1), qi (-1), qi 0, qn] [] 38 m) (fun _ => rfl) (Sim.bind (Sim.lp (σ := Int × Int × Int) (fun ⟨x2L, x3L, x4L⟩ => f_bestFitNode_l7_ok m x1 x2L x3L x4L) NN ((-1), (-1), 0)) (fun x2_33 => f_bestFitNode_b67_ok x2_33 m))
def f_computeGroupBound_l2_H : Int × OMem → Nat → RT := fun (x1, m) n => R n 19 2 [qr 0, qi x1] [] 38 m
def f_computeGroupBound_l2_X : (OMem) → Nat → RT := fun e n => match e with | w => R n 19 21 [qr 0, qn] [] 38 w
def f_computeGroupBound_l2 : Int × OMem → Option ((Int × OMem) ⊕ ((OMem))) := fun (x1, m) => if x1 < 16 then (if 0 ≤ x1 ∧ x1 < 16 then (some (.inl (w32 (x1 + 1), sto m 18 x1 0))) else none) else (some (.inr m))
set_option maxRecDepth 65536 in
set_option maxHeartbeats 16000000 in
theorem f_computeGroupBound_l2_ok (x1 : Int) (m : OMem) : Sim (f_computeGroupBound_l2 (x1, m)) (Sum.elim (f_computeGroupBound_l2_H ) (f_computeGroupBound_l2_X )) (f_computeGroupBound_l2_H (x1, m)) :=
  Sim.shift 3 (G := fun n => if x1 < 16 then R n 19 8 [qr 0, qi x1] [] 38 m else R n 19 21 [qr 0, qi x1] [] 38 m) (fun _ => rfl) (Sim.ite (fun _ => Sim.shift 5 (G := fun n => if 0 ≤ x1 ∧ x1 < 16 then R n 19 15 [qr 0, qi x1] [] 38 (sto m 18 x1 0) else none) (fun _ => rfl) (Sim.grd fun _ => Sim.shift 2 (G := fun n => R n 19 2 [qr 0, qi (w32 (x1 + 1))] [] 38 (sto m 18 x1 0)) (fun _ => rfl) (Sim.pur _ _))) (fun _ => Sim.leaf rfl (fun _ => rfl)))
def f_computeGroupBound_l23_H : Int × OMem → Nat → RT := fun (x1, m) n => R n 19 23 [qr 0, qi x1] [] 38 m
def f_computeGroupBound_l23_X : (OMem) → Nat → RT := fun e n => match e with | w => R n 19 71 [qn, qn] [] 38 w
def f_computeGroupBound_b65 (x1 : Int) (m : OMem) : Option ((Int × OMem) ⊕ ((OMem))) := some (.inl (w32 (x1 + 1), m))
set_option maxRecDepth 65536 in
set_option maxHeartbeats 16000000 in
theorem f_computeGroupBound_b65_ok (x1 : Int) (m : OMem) : Sim (f_computeGroupBound_b65 x1 m) (Sum.elim (f_computeGroupBound_l23_H ) (f_computeGroupBound_l23_X )) (fun n => R n 19 65 [qr 0, qi x1] [] 38 m) :=
  Sim.shift 2 (G := fun n => R n 19 23 [qr 0, qi (w32 (x1 + 1))] [] 38 m) (fun _ => rfl) (Sim.pur _ _)
def f_computeGroupBound_l23 : Int × OMem → Option ((Int × OMem) ⊕ ((OMem))) := fun (x1, m) => if x1 < m 0 20 then (if x1 < 16 then (if 0 ≤ x1 ∧ x1 < 16 then (if m 7 x1 = 2 then (if 0 ≤ x1 ∧ x1 < 16 then (if 0 ≤ and32 (m 14 x1) 15 ∧ and32 (m 14 x1) 15 < 16 then (if 0 ≤ and32 (m 14 x1) 15 ∧ and32 (m 14 x1) 15 < 16 then (f_computeGroupBound_b65 x1 (sto m 18 (and32 (m 14 x1) 15) (w32 ((m 18 (and32 (m 14 x1) 15)) + 1)))) else none) else none) else none) else (f_computeGroupBound_b65 x1 m)) else none) else (some (.inr m))) else (some (.inr m))
set_option maxRecDepth 65536 in
set_option maxHeartbeats 16000000 in
theorem f_computeGroupBound_l23_ok (x1 : Int) (m : OMem) : Sim (f_computeGroupBound_l23 (x1, m)) (Sum.elim (f_computeGroupBound_l23_H ) (f_computeGroupBound_l23_X )) (f_computeGroupBound_l23_H (x1, m)) :=
  Sim.shift 4 (G := fun n => if x1 < m 0 20 then R n 19 31 [qr 0, qi x1] [] 38 m else R n 19 71 [qr 0, qi x1] [] 38 m) (fun _ => rfl) (Sim.ite (fun _ => Sim.shift 3 (G := fun n => if x1 < 16 then R n 19 37 [qr 0, qi x1] [] 38 m else R n 19 71 [qr 0, qi x1] [] 38 m) (fun _ => rfl) (Sim.ite (fun _ => Sim.shift 4 (G := fun n => if 0 ≤ x1 ∧ x1 < 16 then R n 19 43 [qr 0, qi x1] [vi (m 7 x1)] 38 m else none) (fun _ => rfl) (Sim.grd fun _ => Sim.shift 2 (G := fun n => if m 7 x1 = 2 then R n 19 47 [qr 0, qi x1] [] 38 m else R n 19 65 [qr 0, qi x1] [] 38 m) (fun _ => rfl) (Sim.ite (fun _ => Sim.shift 6 (G := fun n => if 0 ≤ x1 ∧ x1 < 16 then R n 19 57 [qr 0, qi x1] [vi (m 14 x1), vr 18] 38 m else none) (fun _ => rfl) (Sim.grd fun _ => Sim.shift 4 (G := fun n => if 0 ≤ and32 (m 14 x1) 15 ∧ and32 (m 14 x1) 15 < 16 then R n 19 62 [qr 0, qi x1] [vi (m 18 (and32 (m 14 x1) 15)), vi (and32 (m 14 x1) 15), vr 18] 38 m else none) (fun _ => rfl) (Sim.grd fun _ => Sim.shift 3 (G := fun n => if 0 ≤ and32 (m 14 x1) 15 ∧ and32 (m 14 x1) 15 < 16 then R n 19 65 [qr 0, qi x1] [] 38 (sto m 18 (and32 (m 14 x1) 15) (w32 ((m 18 (and32 (m 14 x1) 15)) + 1))) else none) (fun _ => rfl) (Sim.grd fun _ => f_computeGroupBound_b65_ok x1 (sto m 18 (and32 (m 14 x1) 15) (w32 ((m 18 (and32 (m 14 x1) 15)) + 1))))))) (fun _ => f_computeGroupBound_b65_ok x1 m)))) (fun _ => Sim.leaf rfl (fun _ => rfl)))) (fun _ => Sim.leaf rfl (fun _ => rfl)))
def f_computeGroupBound_b71 (m : OMem) : Option (OMem) := some m
set_option maxRecDepth 65536 in
set_option maxHeartbeats 16000000 in
theorem f_computeGroupBound_b71_ok (m : OMem) : Sim (f_computeGroupBound_b71 m) (fun w0 _ => some (none, 38, w0)) (fun n => R n 19 71 [qn, qn] [] 38 m) :=
  Sim.shift 1 (G := (fun _ => some (none, 38, m))) (fun _ => rfl) (Sim.pur _ _)
def f_computeGroupBound (m : OMem) : Option (OMem) := (lp (f_computeGroupBound_l2 ) NN (0, m)).bind fun m_35 => ((lp (f_computeGroupBound_l23 ) NN (0, m_35)).bind fun m_36 => (f_computeGroupBound_b71 m_36))
set_option maxRecDepth 65536 in
set_option maxHeartbeats 16000000 in
theorem f_computeGroupBound_ok (m : OMem) : Sim (f_computeGroupBound m) (fun w0 _ => some (none, 38, w0)) (fun n => R n 19 0 [qr 0, qn] [] 38 m) :=
  Sim.shift 2 (G := fun n => R n 19 2 [qr 0, qi 0] [] 38 m) (fun _ => rfl) (Sim.bind (Sim.lp (σ := Int × OMem) (fun ⟨x1L, mL⟩ => f_computeGroupBound_l2_ok x1L mL) NN (0, m)) (fun m_35 => Sim.shift 2 (G := fun n => R n 19 23 [qr 0, qi 0] [] 38 m_35) (fun _ => rfl) (Sim.bind (Sim.lp (σ := Int × OMem) (fun ⟨x1L, mL⟩ => f_computeGroupBound_l23_ok x1L mL) NN (0, m_35)) (fun m_36 => f_computeGroupBound_b71_ok m_36))))
def f_better_b113 (s0 : Int) (m : OMem) : Option (Int) := some (s0 % 2)
set_option maxRecDepth 65536 in
set_option maxHeartbeats 16000000 in
theorem f_better_b113_ok (t : Nat) (s0 : Int) (m : OMem) : Sim (f_better_b113 s0 m) (fun r _ => some (some (vi r), t, m)) (fun n => R n 31 113 [qn, qn, qn, qn, qn, qn] [vi s0] t m) :=
  Sim.shift 1 (G := (fun _ => some (some (vi (s0 % 2)), t, m))) (fun _ => rfl) (Sim.pur _ _)
def f_better_b98 (s0 : Int) (m : OMem) : Option (Int) := some (s0 % 2)
set_option maxRecDepth 65536 in
set_option maxHeartbeats 16000000 in
theorem f_better_b98_ok (t : Nat) (s0 : Int) (m : OMem) : Sim (f_better_b98 s0 m) (fun r _ => some (some (vi r), t, m)) (fun n => R n 31 98 [qn, qn, qn, qn, qn, qn] [vi s0] t m) :=
  Sim.shift 1 (G := (fun _ => some (some (vi (s0 % 2)), t, m))) (fun _ => rfl) (Sim.pur _ _)
def f_better_b74 (s0 : Int) (m : OMem) : Option (Int) := some (s0 % 2)
set_option maxRecDepth 65536 in
set_option maxHeartbeats 16000000 in
theorem f_better_b74_ok (t : Nat) (s0 : Int) (m : OMem) : Sim (f_better_b74 s0 m) (fun r _ => some (some (vi r), t, m)) (fun n => R n 31 74 [qn, qn, qn, qn, qn, qn] [vi s0] t m) :=
  Sim.shift 1 (G := (fun _ => some (some (vi (s0 % 2)), t, m))) (fun _ => rfl) (Sim.pur _ _)
def f_better_b52 (s0 : Int) (m : OMem) : Option (Int) := some (s0 % 2)
set_option maxRecDepth 65536 in
set_option maxHeartbeats 16000000 in
theorem f_better_b52_ok (t : Nat) (s0 : Int) (m : OMem) : Sim (f_better_b52 s0 m) (fun r _ => some (some (vi r), t, m)) (fun n => R n 31 52 [qn, qn, qn, qn, qn, qn] [vi s0] t m) :=
  Sim.shift 1 (G := (fun _ => some (some (vi (s0 % 2)), t, m))) (fun _ => rfl) (Sim.pur _ _)
def f_better_b30 (s0 : Int) (m : OMem) : Option (Int) := some (s0 % 2)
set_option maxRecDepth 65536 in
set_option maxHeartbeats 16000000 in
theorem f_better_b30_ok (t : Nat) (s0 : Int) (m : OMem) : Sim (f_better_b30 s0 m) (fun r _ => some (some (vi r), t, m)) (fun n => R n 31 30 [qn, qn, qn, qn, qn, qn] [vi s0] t m) :=
  Sim.shift 1 (G := (fun _ => some (some (vi (s0 % 2)), t, m))) (fun _ => rfl) (Sim.pur _ _)
def f_better (x1 x2 x3 x4 x5 : Int) (m : OMem) : Option (Int) := if m 0 26 = 0 then (some 1) else (if x1 = m 0 32 then (if x2 = m 0 33 then (if x3 = m 0 34 then (if x4 = m 0 25 then (if x5 < m 0 24 then (f_better_b113 1 m) else (f_better_b113 0 m)) else (if x4 < m 0 25 then (f_better_b98 1 m) else (f_better_b98 0 m))) else (if x3 < m 0 34 then (f_better_b74 1 m) else (f_better_b74 0 m))) else (if x2 < m 0 33 then (f_better_b52 1 m) else (f_better_b52 0 m))) else (if x1 < m 0 32 then (f_better_b30 1 m) else (f_better_b30 0 m)))
set_option maxRecDepth 65536 in
set_option maxHeartbeats 16000000 in
theorem f_better_ok (t : Nat) (x1 x2 x3 x4 x5 : Int) (m : OMem) : Sim (f_better x1 x2 x3 x4 x5 m) (fun r _ => some (some (vi r), t, m)) (fun n => R n 31 0 [qr 0, qi x1, qi x2, qi x3, qi x4, qi x5] [] t m) :=
  Sim.shift 3 (G := fun n => if m 0 26 = 0 then R n 31 7 [qr 0, qi x1, qi x2, qi x3, qi x4, qi x5] [] t m else R n 31 9 [qr 0, qi x1, qi x2, qi x3, qi x4, qi x5] [] t m) (fun _ => rfl) (Sim.ite (fun _ => Sim.shift 2 (G := (fun _ => some (some (vi 1), t, m))) (fun _ => rfl) (Sim.pur _ _)) (fun _ => Sim.shift 4 (G := fun n => if x1 = m 0 32 then R n 31 31 [qr 0, qi x1, qi x2, qi x3, qi x4, qi x5] [] t m else R n 31 17 [qr 0, qi x1, qi x2, qi x3, qi x4, qi x5] [] t m) (fun _ => rfl) (Sim.ite (fun _ => Sim.shift 4 (G := fun n => if x2 = m 0 33 then R n 31 53 [qr 0, qn, qi x2, qi x3, qi x4, qi x5] [] t m else R n 31 39 [qr 0, qn, qi x2, qi x3, qi x4, qi x5] [] t m) (fun _ => rfl) (Sim.ite (fun _ => Sim.shift 4 (G := fun n => if x3 = m 0 34 then R n 31 75 [qr 0, qn, qn, qi x3, qi x4, qi x5] [] t m else R n 31 61 [qr 0, qn, qn, qi x3, qi x4, qi x5] [] t m) (fun _ => rfl) (Sim.ite (fun _ => Sim.shift 4 (G := fun n => if x4 = m 0 25 then R n 31 99 [qr 0, qn, qn, qn, qi x4, qi x5] [] t m else R n 31 84 [qr 0, qn, qn, qn, qi x4, qi x5] [] t m) (fun _ => rfl) (Sim.ite (fun _ => Sim.shift 4 (G := fun n => if x5 < m 0 24 then R n 31 108 [qr 0, qn, qn, qn, qn, qi x5] [] t m else R n 31 112 [qr 0, qn, qn, qn, qn, qi x5] [] t m) (fun _ => rfl) (Sim.ite (fun _ => Sim.shift 2 (G := fun n => R n 31 113 [qn, qn, qn, qn, qn, qn] [vi 1] t m) (fun _ => rfl) (f_better_b113_ok t 1 m)) (fun _ => Sim.shift 1 (G := fun n => R n 31 113 [qn, qn, qn, qn, qn, qn] [vi 0] t m) (fun _ => rfl) (f_better_b113_ok t 0 m)))) (fun _ => Sim.shift 4 (G := fun n => if x4 < m 0 25 then R n 31 93 [qr 0, qn, qn, qn, qi x4, qn] [] t m else R n 31 97 [qr 0, qn, qn, qn, qi x4, qn] [] t m) (fun _ => rfl) (Sim.ite (fun _ => Sim.shift 2 (G := fun n => R n 31 98 [qn, qn, qn, qn, qn, qn] [vi 1] t m) (fun _ => rfl) (f_better_b98_ok t 1 m)) (fun _ => Sim.shift 1 (G := fun n => R n 31 98 [qn, qn, qn, qn, qn, qn] [vi 0] t m) (fun _ => rfl) (f_better_b98_ok t 0 m)))))) (fun _ => Sim.shift 4 (G := fun n => if x3 < m 0 34 then R n 31 69 [qr 0, qn, qn, qi x3, qn, qn] [] t m else R n 31 73 [qr 0, qn, qn, qi x3, qn, qn] [] t m) (fun _ => rfl) (Sim.ite (fun _ => Sim.shift 2 (G := fun n => R n 31 74 [qn, qn, qn, qn, qn, qn] [vi 1] t m) (fun _ => rfl) (f_better_b74_ok t 1 m)) (fun _ => Sim.shift 1 (G := fun n => R n 31 74 [qn, qn, qn, qn, qn, qn] [vi 0] t m) (fun _ => rfl) (f_better_b74_ok t 0 m)))))) (fun _ => Sim.shift 4 (G := fun n => if x2 < m 0 33 then R n 31 47 [qr 0, qn, qi x2, qn, qn, qn] [] t m else R n 31 51 [qr 0, qn, qi x2, qn, qn, qn] [] t m) (fun _ => rfl) (Sim.ite (fun _ => Sim.shift 2 (G := fun n => R n 31 52 [qn, qn, qn, qn, qn, qn] [vi 1] t m) (fun _ => rfl) (f_better_b52_ok t 1 m)) (fun _ => Sim.shift 1 (G := fun n => R n 31 52 [qn, qn, qn, qn, qn, qn] [vi 0] t m) (fun _ => rfl) (f_better_b52_ok t 0 m)))))) (fun _ => Sim.shift 4 (G := fun n => if x1 < m 0 32 then R n 31 25 [qr 0, qi x1, qn, qn, qn, qn] [] t m else R n 31 29 [qr 0, qi x1, qn, qn, qn, qn] [] t m) (fun _ => rfl) (Sim.ite (fun _ => Sim.shift 2 (G := fun n => R n 31 30 [qn, qn, qn, qn, qn, qn] [vi 1] t m) (fun _ => rfl) (f_better_b30_ok t 1 m)) (fun _ => Sim.shift 1 (G := fun n => R n 31 30 [qn, qn, qn, qn, qn, qn] [vi 0] t m) (fun _ => rfl) (f_better_b30_ok t 0 m)))))))
def f_evaluateSubset_l3_H (x1 x2 x3 : Int) : Int × OMem → Nat → RT := fun (x4, m) n => R n 30 3 [qr 0, qi x1, qi x2, qi x3, qi x4, qn, qn, qn, qn, qn, qn, qn] [] 38 m
def f_evaluateSubset_l3_X (x1 x2 x3 : Int) : (OMem) → Nat → RT := fun e n => match e with | w => R n 30 24 [qr 0, qi x1, qi x2, qi x3, qn, qn, qn, qn, qn, qn, qn, qn] [] 38 w
def f_evaluateSubset_l3 (x1 x2 x3 : Int) : Int × OMem → Option ((Int × OMem) ⊕ ((OMem))) := fun (x4, m) => if x4 < 16 then (if 0 ≤ x4 ∧ x4 < 16 then (some (.inl (w32 (x4 + 1), sto m 19 x4 0))) else none) else (some (.inr m))
set_option maxRecDepth 65536 in
set_option maxHeartbeats 16000000 in
theorem f_evaluateSubset_l3_ok (x1 x2 x3 : Int) (x4 : Int) (m : OMem) : Sim (f_evaluateSubset_l3 x1 x2 x3 (x4, m)) (Sum.elim (f_evaluateSubset_l3_H x1 x2 x3 ) (f_evaluateSubset_l3_X x1 x2 x3 )) (f_evaluateSubset_l3_H x1 x2 x3 (x4, m)) :=
  Sim.shift 3 (G := fun n => if x4 < 16 then R n 30 10 [qr 0, qi x1, qi x2, qi x3, qi x4, qn, qn, qn, qn, qn, qn, qn] [] 38 m else R n 30 24 [qr 0, qi x1, qi x2, qi x3, qi x4, qn, qn, qn, qn, qn, qn, qn] [] 38 m) (fun _ => rfl) (Sim.ite (fun _ => Sim.shift 5 (G := fun n => if 0 ≤ x4 ∧ x4 < 16 then R n 30 18 [qr 0, qi x1, qi x2, qi x3, qi x4, qn, qn, qn, qn, qn, qn, qn] [] 38 (sto m 19 x4 0) else none) (fun _ => rfl) (Sim.grd fun _ => Sim.shift 2 (G := fun n => R n 30 3 [qr 0, qi x1, qi x2, qi x3, qi (w32 (x4 + 1)), qn, qn, qn, qn, qn, qn, qn] [] 38 (sto m 19 x4 0)) (fun _ => rfl) (Sim.pur _ _))) (fun _ => Sim.leaf rfl (fun _ => rfl)))
def f_evaluateSubset_l45_H (x1 x2 x3 : Int) : Int × Int × Int × Int × Int × Int × Int × OMem → Nat → RT := fun (x4, x5, x6, x7, x8, x9, x10, m) n => R n 30 45 [qr 0, qi x1, qi x2, qi x3, qi x4, qi x5, qi x6, qi x7, qi x8, qi x9, qi x10, qn] [] 38 m
def f_evaluateSubset_l45_X (x1 x2 x3 : Int) : (Int × Int × Int × Int × Int × Int × OMem) → Nat → RT := fun e n => match e with | (y4, y5, y6, y7, y8, y9, w) => R n 30 176 [qr 0, qi x1, qi x2, qn, qi y4, qi y5, qi y6, qi y7, qi y8, qi y9, qn, qn] [] 38 w
def f_evaluateSubset_b170 (x1 x2 x3 x4 x5 x6 x7 x8 x9 x10 : Int) (m : OMem) : Option ((Int × Int × Int × Int × Int × Int × Int × OMem) ⊕ ((Int × Int × Int × Int × Int × Int × OMem))) := some (.inl (x4, x5, x6, x7, x8, x9, w32 (x10 + 1), m))
set_option maxRecDepth 65536 in
set_option maxHeartbeats 16000000 in
theorem f_evaluateSubset_b170_ok (x1 x2 x3 x4 x5 x6 x7 x8 x9 x10 : Int) (m : OMem) : Sim (f_evaluateSubset_b170 x1 x2 x3 x4 x5 x6 x7 x8 x9 x10 m) (Sum.elim (f_evaluateSubset_l45_H x1 x2 x3 ) (f_evaluateSubset_l45_X x1 x2 x3 )) (fun n => R n 30 170 [qr 0, qi x1, qi x2, qi x3, qi x4, qi x5, qi x6, qi x7, qi x8, qi x9, qi x10, qn] [] 38 m) :=
  Sim.shift 2 (G := fun n => R n 30 45 [qr 0, qi x1, qi x2, qi x3, qi x4, qi x5, qi x6, qi x7, qi x8, qi x9, qi (w32 (x10 + 1)), qn] [] 38 m) (fun _ => rfl) (Sim.pur _ _)
def f_evaluateSubset_b118 (x1 x2 x3 x4 x5 x6 x7 x8 x9 x10 x11 : Int) (m : OMem) : Option ((Int × Int × Int × Int × Int × Int × Int × OMem) ⊕ ((Int × Int × Int × Int × Int × Int × OMem))) := if 0 ≤ x11 ∧ x11 < 16 then (if 0 ≤ x11 ∧ x11 < 16 then (if 0 ≤ x11 ∧ x11 < 16 then (if 0 ≤ and32 (m 14 x11) 15 ∧ and32 (m 14 x11) 15 < 16 then (if 0 ≤ and32 (m 14 x11) 15 ∧ and32 (m 14 x11) 15 < 16 then (f_evaluateSubset_b170 x1 x2 x3 x4 x5 x6 (w32 (x7 + (m 9 x11))) (w32 (x8 + (m 10 x11))) (w32 (x9 + (shl32 1 x11))) x10 (sto m 19 (and32 (m 14 x11) 15) (w32 ((m 19 (and32 (m 14 x11) 15)) + 1)))) else none) else none) else none) else none) else none
set_option maxRecDepth 65536 in
set_option maxHeartbeats 16000000 in
theorem f_evaluateSubset_b118_ok (x1 x2 x3 x4 x5 x6 x7 x8 x9 x10 x11 : Int) (m : OMem) : Sim (f_evaluateSubset_b118 x1 x2 x3 x4 x5 x6 x7 x8 x9 x10 x11 m) (Sum.elim (f_evaluateSubset_l45_H x1 x2 x3 ) (f_evaluateSubset_l45_X x1 x2 x3 )) (fun n => R n 30 118 [qr 0, qi x1, qi x2, qi x3, qi x4, qi x5, qi x6, qi x7, qi x8, qi x9, qi x10, qi x11] [] 38 m) :=
  Sim.shift 5 (G := fun n => if 0 ≤ x11 ∧ x11 < 16 then R n 30 127 [qr 0, qi x1, qi x2, qi x3, qi x4, qi x5, qi x6, qi x7, qi x8, qi x9, qi x10, qi x11] [vi (m 9 x11), vi x7] 38 m else none) (fun _ => rfl) (Sim.grd fun _ => Sim.shift 5 (G := fun n => R n 30 136 [qr 0, qi x1, qi x2, qi x3, qi x4, qi x5, qi x6, qi (w32 (x7 + (m 9 x11))), qi x8, qi x9, qi x10, qi x11] [vr 10, vi x8] 38 m) (fun _ => rfl) (Sim.shift 2 (G := fun n => if 0 ≤ x11 ∧ x11 < 16 then R n 30 139 [qr 0, qi x1, qi x2, qi x3, qi x4, qi x5, qi x6, qi (w32 (x7 + (m 9 x11))), qi x8, qi x9, qi x10, qi x11] [vi (m 10 x11), vi x8] 38 m else none) (fun _ => rfl) (Sim.grd fun _ => Sim.shift 5 (G := fun n => R n 30 147 [qr 0, qi x1, qi x2, qi x3, qi x4, qi x5, qi x6, qi (w32 (x7 + (m 9 x11))), qi (w32 (x8 + (m 10 x11))), qi x9, qi x10, qi x11] [vi x11, vi 1, vi x9] 38 m) (fun _ => rfl) (Sim.shift 3 (G := fun n => R n 30 151 [qr 0, qi x1, qi x2, qi x3, qi x4, qi x5, qi x6, qi (w32 (x7 + (m 9 x11))), qi (w32 (x8 + (m 10 x11))), qi (w32 (x9 + (shl32 1 x11))), qi x10, qi x11] [] 38 m) (fun _ => rfl) (Sim.shift 6 (G := fun n => if 0 ≤ x11 ∧ x11 < 16 then R n 30 162 [qr 0, qi x1, qi x2, qi x3, qi x4, qi x5, qi x6, qi (w32 (x7 + (m 9 x11))), qi (w32 (x8 + (m 10 x11))), qi (w32 (x9 + (shl32 1 x11))), qi x10, qi x11] [vi (m 14 x11), vr 19] 38 m else none) (fun _ => rfl) (Sim.grd fun _ => Sim.shift 4 (G := fun n => if 0 ≤ and32 (m 14 x11) 15 ∧ and32 (m 14 x11) 15 < 16 then R n 30 167 [qr 0, qi x1, qi x2, qi x3, qi x4, qi x5, qi x6, qi (w32 (x7 + (m 9 x11))), qi (w32 (x8 + (m 10 x11))), qi (w32 (x9 + (shl32 1 x11))), qi x10, qi x11] [vi (m 19 (and32 (m 14 x11) 15)), vi (and32 (m 14 x11) 15), vr 19] 38 m else none) (fun _ => rfl) (Sim.grd fun _ => Sim.shift 3 (G := fun n => if 0 ≤ and32 (m 14 x11) 15 ∧ and32 (m 14 x11) 15 < 16 then R n 30 170 [qr 0, qi x1, qi x2, qi x3, qi x4, qi x5, qi x6, qi (w32 (x7 + (m 9 x11))), qi (w32 (x8 + (m 10 x11))), qi (w32 (x9 + (shl32 1 x11))), qi x10, qi x11] [] 38 (sto m 19 (and32 (m 14 x11) 15) (w32 ((m 19 (and32 (m 14 x11) 15)) + 1))) else none) (fun _ => rfl) (Sim.grd fun _ => Sim.jmp (f_evaluateSubset_b170_ok x1 x2 x3 x4 x5 x6 (w32 (x7 + (m 9 x11))) (w32 (x8 + (m 10 x11))) (w32 (x9 + (shl32 1 x11))) x10 (sto m 19 (and32 (m 14 x11) 15) (w32 ((m 19 (and32 (m 14 x11) 15)) + 1)))) rfl (fun _ => rfl)))))))))
def f_evaluateSubset_l45 (x1 x2 x3 : Int) : Int × Int × Int × Int × Int × Int × Int × OMem → Option ((Int × Int × Int × Int × Int × Int × Int × OMem) ⊕ ((Int × Int × Int × Int × Int × Int × OMem))) := fun (x4, x5, x6, x7, x8, x9, x10, m) => if x10 < m 0 31 then (if x10 < 16 then (if and32 (shr32 x3 x10) 1 = 0 then (f_evaluateSubset_b170 x1 x2 x3 x4 x5 x6 x7 x8 x9 x10 m) else (if 0 ≤ x10 ∧ x10 < 16 then (if 0 ≤ m 17 x10 ∧ m 17 x10 < 16 then (if 0 ≤ m 17 x10 ∧ m 17 x10 < 16 then (if x5 < m 11 (m 17 x10) then (if 0 ≤ m 17 x10 ∧ m 17 x10 < 16 then (f_evaluateSubset_b118 x1 x2 x3 (w32 (x4 + 1)) (m 11 (m 17 x10)) (w32 (x6 + (m 11 (m 17 x10)))) x7 x8 x9 x10 (m 17 x10) m) else none) else (f_evaluateSubset_b118 x1 x2 x3 (w32 (x4 + 1)) x5 (w32 (x6 + (m 11 (m 17 x10)))) x7 x8 x9 x10 (m 17 x10) m)) else none) else none) else none)) else (some (.inr (x4, x5, x6, x7, x8, x9, m)))) else (some (.inr (x4, x5, x6, x7, x8, x9, m)))
set_option maxRecDepth 65536 in
set_option maxHeartbeats 16000000 in
theorem f_evaluateSubset_l45_ok (x1 x2 x3 : Int) (x4 x5 x6 x7 x8 x9 x10 : Int) (m : OMem) : Sim (f_evaluateSubset_l45 x1 x2 x3 (x4, x5, x6, x7, x8, x9, x10, m)) (Sum.elim (f_evaluateSubset_l45_H x1 x2 x3 ) (f_evaluateSubset_l45_X x1 x2 x3 )) (f_evaluateSubset_l45_H x1 x2 x3 (x4, x5, x6, x7, x8, x9, x10, m)) :=
  Sim.shift 4 (G := fun n => if x10 < m 0 31 then R n 30 54 [qr 0, qi x1, qi x2, qi x3, qi x4, qi x5, qi x6, qi x7, qi x8, qi x9, qi x10, qn] [] 38 m else R n 30 176 [qr 0, qi x1, qi x2, qi x3, qi x4, qi x5, qi x6, qi x7, qi x8, qi x9, qi x10, qn] [] 38 m) (fun _ => rfl) (Sim.ite (fun _ => Sim.shift 3 (G := fun n => if x10 < 16 then R n 30 61 [qr 0, qi x1, qi x2, qi x3, qi x4, qi x5, qi x6, qi x7, qi x8, qi x9, qi x10, qn] [] 38 m else R n 30 176 [qr 0, qi x1, qi x2, qi x3, qi x4, qi x5, qi x6, qi x7, qi x8, qi x9, qi x10, qn] [] 38 m) (fun _ => rfl) (Sim.ite (fun _ => Sim.shift 4 (G := fun n => R n 30 66 [qr 0, qi x1, qi x2, qi x3, qi x4, qi x5, qi x6, qi x7, qi x8, qi x9, qi x10, qn] [vi 1, vi (shr32 x3 x10)] 38 m) (fun _ => rfl) (Sim.shift 2 (G := fun n => if and32 (shr32 x3 x10) 1 = 0 then R n 30 70 [qr 0, qi x1, qi x2, qi x3, qi x4, qi x5, qi x6, qi x7, qi x8, qi x9, qi x10, qn] [] 38 m else R n 30 73 [qr 0, qi x1, qi x2, qi x3, qi x4, qi x5, qi x6, qi x7, qi x8, qi x9, qi x10, qn] [] 38 m) (fun _ => rfl) (Sim.ite (fun _ => Sim.shift 1 (G := fun n => R n 30 170 [qr 0, qi x1, qi x2, qi x3, qi x4, qi x5, qi x6, qi x7, qi x8, qi x9, qi x10, qn] [] 38 m) (fun _ => rfl) (f_evaluateSubset_b170_ok x1 x2 x3 x4 x5 x6 x7 x8 x9 x10 m)) (fun _ => Sim.shift 4 (G := fun n => if 0 ≤ x10 ∧ x10 < 16 then R n 30 80 [qr 0, qi x1, qi x2, qi x3, qi x4, qi x5, qi x6, qi x7, qi x8, qi x9, qi x10, qn] [vi (m 17 x10)] 38 m else none) (fun _ => rfl) (Sim.grd fun _ => Sim.shift 6 (G := fun n => R n 30 93 [qr 0, qi x1, qi x2, qi x3, qi (w32 (x4 + 1)), qi x5, qi x6, qi x7, qi x8, qi x9, qi x10, qi (m 17 x10)] [vi (m 17 x10), vr 11, vi x6] 38 m) (fun _ => rfl) (Sim.shift 1 (G := fun n => if 0 ≤ m 17 x10 ∧ m 17 x10 < 16 then R n 30 94 [qr 0, qi x1, qi x2, qi x3, qi (w32 (x4 + 1)), qi x5, qi x6, qi x7, qi x8, qi x9, qi x10, qi (m 17 x10)] [vi (m 11 (m 17 x10)), vi x6] 38 m else none) (fun _ => rfl) (Sim.grd fun _ => Sim.shift 5 (G := fun n => R n 30 103 [qr 0, qi x1, qi x2, qi x3, qi (w32 (x4 + 1)), qi x5, qi (w32 (x6 + (m 11 (m 17 x10)))), qi x7, qi x8, qi x9, qi x10, qi (m 17 x10)] [vi (m 17 x10), vr 11] 38 m) (fun _ => rfl) (Sim.shift 1 (G := fun n => if 0 ≤ m 17 x10 ∧ m 17 x10 < 16 then R n 30 104 [qr 0, qi x1, qi x2, qi x3, qi (w32 (x4 + 1)), qi x5, qi (w32 (x6 + (m 11 (m 17 x10)))), qi x7, qi x8, qi x9, qi x10, qi (m 17 x10)] [vi (m 11 (m 17 x10))] 38 m else none) (fun _ => rfl) (Sim.grd fun _ => Sim.shift 2 (G := fun n => if x5 < m 11 (m 17 x10) then R n 30 109 [qr 0, qi x1, qi x2, qi x3, qi (w32 (x4 + 1)), qi x5, qi (w32 (x6 + (m 11 (m 17 x10)))), qi x7, qi x8, qi x9, qi x10, qi (m 17 x10)] [] 38 m else R n 30 118 [qr 0, qi x1, qi x2, qi x3, qi (w32 (x4 + 1)), qi x5, qi (w32 (x6 + (m 11 (m 17 x10)))), qi x7, qi x8, qi x9, qi x10, qi (m 17 x10)] [] 38 m) (fun _ => rfl) (Sim.ite (fun _ => Sim.shift 4 (G := fun n => if 0 ≤ m 17 x10 ∧ m 17 x10 < 16 then R n 30 116 [qr 0, qi x1, qi x2, qi x3, qi (w32 (x4 + 1)), qn, qi (w32 (x6 + (m 11 (m 17 x10)))), qi x7, qi x8, qi x9, qi x10, qi (m 17 x10)] [vi (m 11 (m 17 x10))] 38 m else none) (fun _ => rfl) (Sim.grd fun _ => Sim.shift 1 (G := fun n => R n 30 118 [qr 0, qi x1, qi x2, qi x3, qi (w32 (x4 + 1)), qi (m 11 (m 17 x10)), qi (w32 (x6 + (m 11 (m 17 x10)))), qi x7, qi x8, qi x9, qi x10, qi (m 17 x10)] [] 38 m) (fun _ => rfl) (f_evaluateSubset_b118_ok x1 x2 x3 (w32 (x4 + 1)) (m 11 (m 17 x10)) (w32 (x6 + (m 11 (m 17 x10)))) x7 x8 x9 x10 (m 17 x10) m))) (fun _ => f_evaluateSubset_b118_ok x1 x2 x3 (w32 (x4 + 1)) x5 (w32 (x6 + (m 11 (m 17 x10)))) x7 x8 x9 x10 (m 17 x10) m))))))))))) (fun _ => Sim.leaf rfl (fun _ => rfl)))) (fun _ => Sim.leaf rfl (fun _ => rfl)))
def f_evaluateSubset_b222 (m : OMem) : Option (OMem) := some m
set_option maxRecDepth 65536 in
set_option maxHeartbeats 16000000 in
theorem f_evaluateSubset_b222_ok (m : OMem) : Sim (f_evaluateSubset_b222 m) (fun w0 _ => some (none, 38, w0)) (fun n => R n 30 222 [qn, qn, qn, qn, qn, qn, qn, qn, qn, qn, qn, qn] [] 38 m) :=
  Sim.shift 1 (G := (fun _ => some (none, 38, m))) (fun _ => rfl) (Sim.pur _ _)
def f_evaluateSubset_l277_H (m : OMem) (x2 x4 x5 x6 x9 : Int) : Int → Nat → RT := fun x10 n => R n 30 277 [qr 0, qn, qi x2, qn, qi x4, qi x5, qi x6, qn, qn, qi x9, qi x10, qn] [] 38 m
def f_evaluateSubset_l277_X (m : OMem) (x2 x4 x5 x6 x9 : Int) : (Unit) ⊕ (Unit) → Nat → RT := fun e n => match e with | (.inl _) => R n 30 319 [qn, qn, qn, qn, qn, qn, qn, qn, qn, qn, qn, qn] [] 38 m | (.inr _) => R n 30 326 [qr 0, qn, qi x2, qn, qi x4, qi x5, qi x6, qn, qn, qi x9, qn, qn] [] 38 m
def f_evaluateSubset_b320 (x2 x4 x5 x6 x9 x10 : Int) (m : OMem) : Option ((Int) ⊕ ((Unit) ⊕ (Unit))) := some (.inl (w32 (x10 + 1)))
set_option maxRecDepth 65536 in
set_option maxHeartbeats 16000000 in
theorem f_evaluateSubset_b320_ok (x2 x4 x5 x6 x9 x10 : Int) (m : OMem) : Sim (f_evaluateSubset_b320 x2 x4 x5 x6 x9 x10 m) (Sum.elim (f_evaluateSubset_l277_H m x2 x4 x5 x6 x9 ) (f_evaluateSubset_l277_X m x2 x4 x5 x6 x9 )) (fun n => R n 30 320 [qr 0, qn, qi x2, qn, qi x4, qi x5, qi x6, qn, qn, qi x9, qi x10, qn] [] 38 m) :=
  Sim.shift 2 (G := fun n => R n 30 277 [qr 0, qn, qi x2, qn, qi x4, qi x5, qi x6, qn, qn, qi x9, qi (w32 (x10 + 1)), qn] [] 38 m) (fun _ => rfl) (Sim.pur _ _)
def f_evaluateSubset_l277 (m : OMem) (x2 x4 x5 x6 x9 : Int) : Int → Option ((Int) ⊕ ((Unit) ⊕ (Unit))) := fun x10 => if x10 < 16 then (if 0 ≤ x10 ∧ x10 < 16 then (if 0 < m 19 x10 then (if 0 ≤ x10 ∧ x10 < 16 then (if 0 ≤ x10 ∧ x10 < 16 then (if 0 ≤ x10 ∧ x10 < 16 then (if w32 ((m 18 x10) - (m 19 x10)) < m 16 x10 then (some (.inr (.inl ()))) else (f_evaluateSubset_b320 x2 x4 x5 x6 x9 x10 m)) else none) else none) else none) else (f_evaluateSubset_b320 x2 x4 x5 x6 x9 x10 m)) else none) else (some (.inr (.inr ())))
set_option maxRecDepth 65536 in
set_option maxHeartbeats 16000000 in
theorem f_evaluateSubset_l277_ok (m : OMem) (x2 x4 x5 x6 x9 : Int) (x10 : Int) : Sim (f_evaluateSubset_l277 m x2 x4 x5 x6 x9 x10) (Sum.elim (f_evaluateSubset_l277_H m x2 x4 x5 x6 x9 ) (f_evaluateSubset_l277_X m x2 x4 x5 x6 x9 )) (f_evaluateSubset_l277_H m x2 x4 x5 x6 x9 x10) :=
  Sim.shift 3 (G := fun n => if x10 < 16 then R n 30 284 [qr 0, qn, qi x2, qn, qi x4, qi x5, qi x6, qn, qn, qi x9, qi x10, qn] [] 38 m else R n 30 326 [qr 0, qn, qi x2, qn, qi x4, qi x5, qi x6, qn, qn, qi x9, qi x10, qn] [] 38 m) (fun _ => rfl) (Sim.ite (fun _ => Sim.shift 4 (G := fun n => if 0 ≤ x10 ∧ x10 < 16 then R n 30 291 [qr 0, qn, qi x2, qn, qi x4, qi x5, qi x6, qn, qn, qi x9, qi x10, qn] [vi (m 19 x10)] 38 m else none) (fun _ => rfl) (Sim.grd fun _ => Sim.shift 1 (G := fun n => if 0 < m 19 x10 then R n 30 294 [qr 0, qn, qi x2, qn, qi x4, qi x5, qi x6, qn, qn, qi x9, qi x10, qn] [] 38 m else R n 30 320 [qr 0, qn, qi x2, qn, qi x4, qi x5, qi x6, qn, qn, qi x9, qi x10, qn] [] 38 m) (fun _ => rfl) (Sim.ite (fun _ => Sim.shift 4 (G := fun n => if 0 ≤ x10 ∧ x10 < 16 then R n 30 301 [qr 0, qn, qi x2, qn, qi x4, qi x5, qi x6, qn, qn, qi x9, qi x10, qn] [vi (m 18 x10)] 38 m else none) (fun _ => rfl) (Sim.grd fun _ => Sim.shift 4 (G := fun n => if 0 ≤ x10 ∧ x10 < 16 then R n 30 308 [qr 0, qn, qi x2, qn, qi x4, qi x5, qi x6, qn, qn, qi x9, qi x10, qn] [vi (m 19 x10), vi (m 18 x10)] 38 m else none) (fun _ => rfl) (Sim.grd fun _ => Sim.shift 5 (G := fun n => if 0 ≤ x10 ∧ x10 < 16 then R n 30 316 [qr 0, qn, qi x2, qn, qi x4, qi x5, qi x6, qn, qn, qi x9, qi x10, qn] [vi (m 16 x10), vi (w32 ((m 18 x10) - (m 19 x10)))] 38 m else none) (fun _ => rfl) (Sim.grd fun _ => Sim.shift 1 (G := fun n => if w32 ((m 18 x10) - (m 19 x10)) < m 16 x10 then R n 30 319 [qr 0, qn, qi x2, qn, qi x4, qi x5, qi x6, qn, qn, qi x9, qi x10, qn] [] 38 m else R n 30 320 [qr 0, qn, qi x2, qn, qi x4, qi x5, qi x6, qn, qn, qi x9, qi x10, qn] [] 38 m) (fun _ => rfl) (Sim.ite (fun _ => Sim.leaf rfl (fun _ => rfl)) (fun _ => f_evaluateSubset_b320_ok x2 x4 x5 x6 x9 x10 m)))))) (fun _ => f_evaluateSubset_b320_ok x2 x4 x5 x6 x9 x10 m)))) (fun _ => Sim.leaf rfl (fun _ => rfl)))
def f_evaluateSubset_b376 (m : OMem) : Option (OMem) := some m
set_option maxRecDepth 65536 in
set_option maxHeartbeats 16000000 in
theorem f_evaluateSubset_b376_ok (m : OMem) : Sim (f_evaluateSubset_b376 m) (fun w0 _ => some (none, 38, w0)) (fun n => R n 30 376 [qn, qn, qn, qn, qn, qn, qn, qn, qn, qn, qn, qn] [] 38 m) :=
  Sim.shift 1 (G := (fun _ => some (none, 38, m))) (fun _ => rfl) (Sim.pur _ _)
def f_evaluateSubset_b274 (x2 x4 x5 x6 x9 : Int) (m : OMem) : Option (OMem) := (lp (f_evaluateSubset_l277 m x2 x4 x5 x6 x9) NN 1).bind fun e => match e with | (.inl _) => (some m) | (.inr _) => ((f_better x5 x4 x6 x2 x9 m).bind fun r_51 => (if r_51 = 0 then (f_evaluateSubset_b376 m) else (f_evaluateSubset_b376 (sto (sto (sto (sto (sto (sto m 0 26 1) 0 32 x5) 0 33 x4) 0 34 x6) 0 25 x2) 0 24 x9))))
set_option maxRecDepth 65536 in
set_option maxHeartbeats 16000000 in
theorem f_evaluateSubset_b274_ok (x2 x4 x5 x6 x9 : Int) (m : OMem) : Sim (f_evaluateSubset_b274 x2 x4 x5 x6 x9 m) (fun w0 _ => some (none, 38, w0)) (fun n => R n 30 274 [qr 0, qn, qi x2, qn, qi x4, qi x5, qi x6, qn, qn, qi x9, qn, qn] [] 38 m) :=
  Sim.shift 2 (G := fun n => R n 30 277 [qr 0, qn, qi x2, qn, qi x4, qi x5, qi x6, qn, qn, qi x9, qi 1, qn] [] 38 m) (fun _ => rfl) (Sim.bind (Sim.lp (σ := Int) (fun x10L => f_evaluateSubset_l277_ok m x2 x4 x5 x6 x9 x10L) NN 1) (fun e => match e with | (.inl _) => Sim.shift 1 (G := (fun _ => some (none, 38, m))) (fun _ => rfl) (Sim.pur _ _) | (.inr _) => Sim.shift 7 (G := fun n => (R n 31 0 [qr 0, qi x5, qi x4, qi x6, qi x2, qi x9] [] 38 m).bind fun y => Rr n 30 339 [qr 0, qn, qi x2, qn, qi x4, qi x5, qi x6, qn, qn, qi x9, qn, qn] [] y) (fun _ => rfl) (Sim.call (f_better_ok 38 x5 x4 x6 x2 x9 m) (fun _ _ => rfl) (runP_mono _ _ _ _ _ _) (fun _ => runP_mono _ _ _ _ _ _) (fun r_51 => Sim.shift 0 (G := fun n => R n 30 339 [qr 0, qn, qi x2, qn, qi x4, qi x5, qi x6, qn, qn, qi x9, qn, qn] [vi r_51] 38 m) (fun _ => rfl) (Sim.shift 1 (G := fun n => if r_51 = 0 then R n 30 376 [qr 0, qn, qi x2, qn, qi x4, qi x5, qi x6, qn, qn, qi x9, qn, qn] [] 38 m else R n 30 342 [qr 0, qn, qi x2, qn, qi x4, qi x5, qi x6, qn, qn, qi x9, qn, qn] [] 38 m) (fun _ => rfl) (Sim.ite (fun _ => Sim.jmp (f_evaluateSubset_b376_ok m) rfl (fun _ => rfl)) (fun _ => Sim.shift 12 (G := fun n => R n 30 365 [qr 0, qn, qi x2, qn, qi x4, qi x5, qi x6, qn, qn, qi x9, qn, qn] [] 38 (sto (sto (sto (sto m 0 26 1) 0 32 x5) 0 33 x4) 0 34 x6)) (fun _ => rfl) (Sim.shift 6 (G := fun n => R n 30 376 [qr 0, qn, qi x2, qn, qi x4, qi x5, qi x6, qn, qn, qi x9, qn, qn] [] 38 (sto (sto (sto (sto (sto (sto m 0 26 1) 0 32 x5) 0 33 x4) 0 34 x6) 0 25 x2) 0 24 x9)) (fun _ => rfl) (Sim.jmp (f_evaluateSubset_b376_ok (sto (sto (sto (sto (sto (sto m 0 26 1) 0 32 x5) 0 33 x4) 0 34 x6) 0 25 x2) 0 24 x9)) rfl (fun _ => rfl))))))))))
def f_evaluateSubset_b176 (x1 x2 x4 x5 x6 x7 x8 x9 : Int) (m : OMem) : Option (OMem) := if 0 ≤ x1 ∧ x1 < 16 then (if 0 ≤ x2 ∧ x2 < 8 then (if m 2 x2 < w32 ((w32 ((m 0 27) - x7)) + (m 9 x1)) then (f_evaluateSubset_b222 m) else (if 0 ≤ x1 ∧ x1 < 16 then (if 0 ≤ x2 ∧ x2 < 8 then (if m 3 x2 < w32 ((w32 ((m 0 28) - x8)) + (m 10 x1)) then (f_evaluateSubset_b222 m) else (if 0 ≤ x2 ∧ x2 < 8 then (if m 4 x2 < w32 ((w32 ((m 0 29) - x4)) + 1) then (some m) else (if 0 ≤ x1 ∧ x1 < 16 then (if m 14 x1 = 0 then (f_evaluateSubset_b274 x2 x4 x5 x6 x9 m) else (if 0 ≤ x1 ∧ x1 < 16 then (if 0 ≤ and32 (m 14 x1) 15 ∧ and32 (m 14 x1) 15 < 16 then (if 0 < w32 ((m 0 30) - (m 19 (and32 (m 14 x1) 15))) then (some m) else (f_evaluateSubset_b274 x2 x4 x5 x6 x9 m)) else none) else none)) else none)) else none)) else none) else none)) else none) else none
set_option maxRecDepth 65536 in
set_option maxHeartbeats 16000000 in
theorem f_evaluateSubset_b176_ok (x1 x2 x4 x5 x6 x7 x8 x9 : Int) (m : OMem) : Sim (f_evaluateSubset_b176 x1 x2 x4 x5 x6 x7 x8 x9 m) (fun w0 _ => some (none, 38, w0)) (fun n => R n 30 176 [qr 0, qi x1, qi x2, qn, qi x4, qi x5, qi x6, qi x7, qi x8, qi x9, qn, qn] [] 38 m) :=
  Sim.shift 8 (G := fun n => if 0 ≤ x1 ∧ x1 < 16 then R n 30 189 [qr 0, qi x1, qi x2, qn, qi x4, qi x5, qi x6, qi x7, qi x8, qi x9, qn, qn] [vi (m 9 x1), vi (w32 ((m 0 27) - x7))] 38 m else none) (fun _ => rfl) (Sim.grd fun _ => Sim.shift 5 (G := fun n => if 0 ≤ x2 ∧ x2 < 8 then R n 30 196 [qr 0, qi x1, qi x2, qn, qi x4, qi x5, qi x6, qi x7, qi x8, qi x9, qn, qn] [vi (m 2 x2), vi (w32 ((w32 ((m 0 27) - x7)) + (m 9 x1)))] 38 m else none) (fun _ => rfl) (Sim.grd fun _ => Sim.shift 1 (G := fun n => if m 2 x2 < w32 ((w32 ((m 0 27) - x7)) + (m 9 x1)) then R n 30 222 [qr 0, qi x1, qi x2, qn, qi x4, qi x5, qi x6, qi x7, qi x8, qi x9, qn, qn] [] 38 m else R n 30 199 [qr 0, qi x1, qi x2, qn, qi x4, qi x5, qi x6, qi x7, qi x8, qi x9, qn, qn] [] 38 m) (fun _ => rfl) (Sim.ite (fun _ => Sim.jmp (f_evaluateSubset_b222_ok m) rfl (fun _ => rfl)) (fun _ => Sim.shift 8 (G := fun n => if 0 ≤ x1 ∧ x1 < 16 then R n 30 212 [qr 0, qi x1, qi x2, qn, qi x4, qi x5, qi x6, qn, qi x8, qi x9, qn, qn] [vi (m 10 x1), vi (w32 ((m 0 28) - x8))] 38 m else none) (fun _ => rfl) (Sim.grd fun _ => Sim.shift 5 (G := fun n => if 0 ≤ x2 ∧ x2 < 8 then R n 30 219 [qr 0, qi x1, qi x2, qn, qi x4, qi x5, qi x6, qn, qi x8, qi x9, qn, qn] [vi (m 3 x2), vi (w32 ((w32 ((m 0 28) - x8)) + (m 10 x1)))] 38 m else none) (fun _ => rfl) (Sim.grd fun _ => Sim.shift 1 (G := fun n => if m 3 x2 < w32 ((w32 ((m 0 28) - x8)) + (m 10 x1)) then R n 30 222 [qr 0, qi x1, qi x2, qn, qi x4, qi x5, qi x6, qn, qi x8, qi x9, qn, qn] [] 38 m else R n 30 223 [qr 0, qi x1, qi x2, qn, qi x4, qi x5, qi x6, qn, qi x8, qi x9, qn, qn] [] 38 m) (fun _ => rfl) (Sim.ite (fun _ => Sim.jmp (f_evaluateSubset_b222_ok m) rfl (fun _ => rfl)) (fun _ => Sim.shift 6 (G := fun n => R n 30 232 [qr 0, qi x1, qi x2, qn, qi x4, qi x5, qi x6, qn, qn, qi x9, qn, qn] [vi (w32 ((w32 ((m 0 29) - x4)) + 1))] 38 m) (fun _ => rfl) (Sim.shift 4 (G := fun n => if 0 ≤ x2 ∧ x2 < 8 then R n 30 238 [qr 0, qi x1, qi x2, qn, qi x4, qi x5, qi x6, qn, qn, qi x9, qn, qn] [vi (m 4 x2), vi (w32 ((w32 ((m 0 29) - x4)) + 1))] 38 m else none) (fun _ => rfl) (Sim.grd fun _ => Sim.shift 1 (G := fun n => if m 4 x2 < w32 ((w32 ((m 0 29) - x4)) + 1) then R n 30 241 [qr 0, qi x1, qi x2, qn, qi x4, qi x5, qi x6, qn, qn, qi x9, qn, qn] [] 38 m else R n 30 242 [qr 0, qi x1, qi x2, qn, qi x4, qi x5, qi x6, qn, qn, qi x9, qn, qn] [] 38 m) (fun _ => rfl) (Sim.ite (fun _ => Sim.shift 1 (G := (fun _ => some (none, 38, m))) (fun _ => rfl) (Sim.pur _ _)) (fun _ => Sim.shift 4 (G := fun n => if 0 ≤ x1 ∧ x1 < 16 then R n 30 248 [qr 0, qi x1, qi x2, qn, qi x4, qi x5, qi x6, qn, qn, qi x9, qn, qn] [vi (m 14 x1)] 38 m else none) (fun _ => rfl) (Sim.grd fun _ => Sim.shift 1 (G := fun n => if m 14 x1 = 0 then R n 30 274 [qr 0, qi x1, qi x2, qn, qi x4, qi x5, qi x6, qn, qn, qi x9, qn, qn] [] 38 m else R n 30 251 [qr 0, qi x1, qi x2, qn, qi x4, qi x5, qi x6, qn, qn, qi x9, qn, qn] [] 38 m) (fun _ => rfl) (Sim.ite (fun _ => Sim.jmp (f_evaluateSubset_b274_ok x2 x4 x5 x6 x9 m) rfl (fun _ => rfl)) (fun _ => Sim.shift 8 (G := fun n => if 0 ≤ x1 ∧ x1 < 16 then R n 30 265 [qr 0, qi x1, qi x2, qn, qi x4, qi x5, qi x6, qn, qn, qi x9, qn, qn] [vi (m 14 x1), vr 19, vi (m 0 30)] 38 m else none) (fun _ => rfl) (Sim.grd fun _ => Sim.shift 3 (G := fun n => if 0 ≤ and32 (m 14 x1) 15 ∧ and32 (m 14 x1) 15 < 16 then R n 30 269 [qr 0, qi x1, qi x2, qn, qi x4, qi x5, qi x6, qn, qn, qi x9, qn, qn] [vi (m 19 (and32 (m 14 x1) 15)), vi (m 0 30)] 38 m else none) (fun _ => rfl) (Sim.grd fun _ => Sim.shift 2 (G := fun n => if 0 < w32 ((m 0 30) - (m 19 (and32 (m 14 x1) 15))) then R n 30 273 [qr 0, qi x1, qi x2, qn, qi x4, qi x5, qi x6, qn, qn, qi x9, qn, qn] [] 38 m else R n 30 274 [qr 0, qi x1, qi x2, qn, qi x4, qi x5, qi x6, qn, qn, qi x9, qn, qn] [] 38 m) (fun _ => rfl) (Sim.ite (fun _ => Sim.shift 1 (G := (fun _ => some (none, 38, m))) (fun _ => rfl) (Sim.pur _ _)) (fun _ => Sim.jmp (f_evaluateSubset_b274_ok x2 x4 x5 x6 x9 m) rfl (fun _ => rfl))))))))))))))))))))
def f_evaluateSubset (x1 x2 x3 : Int) (m : OMem) : Option (OMem) := (lp (f_evaluateSubset_l3 x1 x2 x3) NN (0, m)).bind fun m_43 => ((lp (f_evaluateSubset_l45 x1 x2 x3) NN (0, (-1), 0, 0, 0, 0, 0, m_43)).bind fun (x4_44, x5_45, x6_46, x7_47, x8_48, x9_49, m_50) => (f_evaluateSubset_b176 x1 x2 x4_44 x5_45 x6_46 x7_47 x8_48 x9_49 m_50))
set_option maxRecDepth 65536 in
set_option maxHeartbeats 16000000 in
theorem f_evaluateSubset_ok (x1 x2 x3 : Int) (m : OMem) : Sim (f_evaluateSubset x1 x2 x3 m) (fun w0 _ => some (none, 38, w0)) (fun n => R n 30 0 [qr 0, qi x1, qi x2, qi x3, qn, qn, qn, qn, qn, qn, qn, qn] [] 38 m) :=
  Sim.shift 2 (G := fun n => R n 30 3 [qr 0, qi x1, qi x2, qi x3, qi 0, qn, qn, qn, qn, qn, qn, qn] [] 38 m) (fun _ => rfl) (Sim.bind (Sim.lp (σ := Int × OMem) (fun ⟨x4L, mL⟩ => f_evaluateSubset_l3_ok x1 x2 x3 x4L mL) NN (0, m)) (fun m_43 => Sim.shift 6 (G := fun n => R n 30 33 [qr 0, qi x1, qi x2, qi x3, qi 0, qi (-1), qi 0, qn, qn, qn, qn, qn] [] 38 m_43) (fun _ => rfl) (Sim.shift 6 (G := fun n => R n 30 42 [qr 0, qi x1, qi x2, qi x3, qi 0, qi (-1), qi 0, qi 0, qi 0, qi 0, qn, qn] [] 38 m_43) (fun _ => rfl) (Sim.shift 2 (G := fun n => R n 30 45 [qr 0, qi x1, qi x2, qi x3, qi 0, qi (-1), qi 0, qi 0, qi 0, qi 0, qi 0, qn] [] 38 m_43) (fun _ => rfl) (Sim.bind (Sim.lp (σ := Int × Int × Int × Int × Int × Int × Int × OMem) (fun ⟨x4L, x5L, x6L, x7L, x8L, x9L, x10L, mL⟩ => f_evaluateSubset_l45_ok x1 x2 x3 x4L x5L x6L x7L x8L x9L x10L mL) NN (0, (-1), 0, 0, 0, 0, 0, m_43)) (fun ⟨x4_44, x5_45, x6_46, x7_47, x8_48, x9_49, m_50⟩ => f_evaluateSubset_b176_ok x1 x2 x4_44 x5_45 x6_46 x7_47 x8_48 x9_49 m_50))))))
def f_evaluateNode_b18 (m : OMem) : Option (OMem) := some m
set_option maxRecDepth 65536 in
set_option maxHeartbeats 16000000 in
theorem f_evaluateNode_b18_ok (m : OMem) : Sim (f_evaluateNode_b18 m) (fun w0 _ => some (none, 38, w0)) (fun n => R n 20 18 [qn, qn, qn, qn, qn] [] 38 m) :=
  Sim.shift 1 (G := (fun _ => some (none, 38, m))) (fun _ => rfl) (Sim.pur _ _)
def f_evaluateNode_l85_H (x1 x2 : Int) : Int × OMem → Nat → RT := fun (x3, m) n => R n 20 85 [qr 0, qi x1, qi x2, qi x3, qn] [] 38 m
def f_evaluateNode_l85_X (x1 x2 : Int) : (OMem) → Nat → RT := fun e n => match e with | w => R n 20 169 [qr 0, qi x1, qi x2, qn, qn] [] 38 w
def f_evaluateNode_b163 (x1 x2 x3 : Int) (m : OMem) : Option ((Int × OMem) ⊕ ((OMem))) := some (.inl (w32 (x3 + 1), m))
set_option maxRecDepth 65536 in
set_option maxHeartbeats 16000000 in
theorem f_evaluateNode_b163_ok (x1 x2 x3 : Int) (m : OMem) : Sim (f_evaluateNode_b163 x1 x2 x3 m) (Sum.elim (f_evaluateNode_l85_H x1 x2 ) (f_evaluateNode_l85_X x1 x2 )) (fun n => R n 20 163 [qr 0, qi x1, qi x2, qi x3, qn] [] 38 m) :=
  Sim.shift 2 (G := fun n => R n 20 85 [qr 0, qi x1, qi x2, qi (w32 (x3 + 1)), qn] [] 38 m) (fun _ => rfl) (Sim.pur _ _)
def f_evaluateNode_l85 (x1 x2 : Int) : Int × OMem → Option ((Int × OMem) ⊕ ((OMem))) := fun (x3, m) => if x3 < m 0 20 then (if x3 < 16 then (if 0 ≤ x3 ∧ x3 < 16 then (if m 7 x3 = 2 then (if 0 ≤ x3 ∧ x3 < 16 then (if m 8 x3 = x2 then (if 0 ≤ x3 ∧ x3 < 16 then (if 0 ≤ x1 ∧ x1 < 16 then (if m 11 x3 < m 11 x1 then (if m 0 31 < 16 then (if 0 ≤ m 0 31 ∧ m 0 31 < 16 then (f_evaluateNode_b163 x1 x2 x3 (sto (sto m 17 (m 0 31) x3) 0 31 (w32 ((m 0 31) + 1)))) else none) else (f_evaluateNode_b163 x1 x2 x3 m)) else (f_evaluateNode_b163 x1 x2 x3 m)) else none) else none) else (f_evaluateNode_b163 x1 x2 x3 m)) else none) else (f_evaluateNode_b163 x1 x2 x3 m)) else none) else (some (.inr m))) else (some (.inr m))
set_option maxRecDepth 65536 in
set_option maxHeartbeats 16000000 in
theorem f_evaluateNode_l85_ok (x1 x2 : Int) (x3 : Int) (m : OMem) : Sim (f_evaluateNode_l85 x1 x2 (x3, m)) (Sum.elim (f_evaluateNode_l85_H x1 x2 ) (f_evaluateNode_l85_X x1 x2 )) (f_evaluateNode_l85_H x1 x2 (x3, m)) :=
  Sim.shift 4 (G := fun n => if x3 < m 0 20 then R n 20 93 [qr 0, qi x1, qi x2, qi x3, qn] [] 38 m else R n 20 169 [qr 0, qi x1, qi x2, qi x3, qn] [] 38 m) (fun _ => rfl) (Sim.ite (fun _ => Sim.shift 3 (G := fun n => if x3 < 16 then R n 20 99 [qr 0, qi x1, qi x2, qi x3, qn] [] 38 m else R n 20 169 [qr 0, qi x1, qi x2, qi x3, qn] [] 38 m) (fun _ => rfl) (Sim.ite (fun _ => Sim.shift 4 (G := fun n => if 0 ≤ x3 ∧ x3 < 16 then R n 20 105 [qr 0, qi x1, qi x2, qi x3, qn] [vi (m 7 x3)] 38 m else none) (fun _ => rfl) (Sim.grd fun _ => Sim.shift 2 (G := fun n => if m 7 x3 = 2 then R n 20 109 [qr 0, qi x1, qi x2, qi x3, qn] [] 38 m else R n 20 163 [qr 0, qi x1, qi x2, qi x3, qn] [] 38 m) (fun _ => rfl) (Sim.ite (fun _ => Sim.shift 4 (G := fun n => if 0 ≤ x3 ∧ x3 < 16 then R n 20 115 [qr 0, qi x1, qi x2, qi x3, qn] [vi (m 8 x3)] 38 m else none) (fun _ => rfl) (Sim.grd fun _ => Sim.shift 2 (G := fun n => if m 8 x3 = x2 then R n 20 119 [qr 0, qi x1, qi x2, qi x3, qn] [] 38 m else R n 20 163 [qr 0, qi x1, qi x2, qi x3, qn] [] 38 m) (fun _ => rfl) (Sim.ite (fun _ => Sim.shift 4 (G := fun n => if 0 ≤ x3 ∧ x3 < 16 then R n 20 125 [qr 0, qi x1, qi x2, qi x3, qn] [vi (m 11 x3)] 38 m else none) (fun _ => rfl) (Sim.grd fun _ => Sim.shift 4 (G := fun n => if 0 ≤ x1 ∧ x1 < 16 then R n 20 131 [qr 0, qi x1, qi x2, qi x3, qn] [vi (m 11 x1), vi (m 11 x3)] 38 m else none) (fun _ => rfl) (Sim.grd fun _ => Sim.shift 1 (G := fun n => if m 11 x3 < m 11 x1 then R n 20 134 [qr 0, qi x1, qi x2, qi x3, qn] [] 38 m else R n 20 163 [qr 0, qi x1, qi x2, qi x3, qn] [] 38 m) (fun _ => rfl) (Sim.ite (fun _ => Sim.shift 4 (G := fun n => if m 0 31 < 16 then R n 20 143 [qr 0, qi x1, qi x2, qi x3, qn] [] 38 m else R n 20 163 [qr 0, qi x1, qi x2, qi x3, qn] [] 38 m) (fun _ => rfl) (Sim.ite (fun _ => Sim.shift 6 (G := fun n => if 0 ≤ m 0 31 ∧ m 0 31 < 16 then R n 20 153 [qr 0, qi x1, qi x2, qi x3, qn] [] 38 (sto m 17 (m 0 31) x3) else none) (fun _ => rfl) (Sim.grd fun _ => Sim.shift 6 (G := fun n => R n 20 163 [qr 0, qi x1, qi x2, qi x3, qn] [] 38 (sto (sto m 17 (m 0 31) x3) 0 31 (w32 ((m 0 31) + 1)))) (fun _ => rfl) (f_evaluateNode_b163_ok x1 x2 x3 (sto (sto m 17 (m 0 31) x3) 0 31 (w32 ((m 0 31) + 1)))))) (fun _ => f_evaluateNode_b163_ok x1 x2 x3 m))) (fun _ => f_evaluateNode_b163_ok x1 x2 x3 m))))) (fun _ => f_evaluateNode_b163_ok x1 x2 x3 m)))) (fun _ => f_evaluateNode_b163_ok x1 x2 x3 m)))) (fun _ => Sim.leaf rfl (fun _ => rfl)))) (fun _ => Sim.leaf rfl (fun _ => rfl)))
def f_evaluateNode_l187_H (x1 x2 x3 : Int) : Int × OMem → Nat → RT := fun (x4, m) n => R n 20 187 [qr 0, qi x1, qi x2, qi x3, qi x4] [] 38 m
def f_evaluateNode_l187_X (x1 x2 x3 : Int) : (OMem) → Nat → RT := fun e n => match e with | w => R n 20 207 [qn, qn, qn, qn, qn] [] 38 w
def f_evaluateNode_l187 (x1 x2 x3 : Int) : Int × OMem → Option ((Int × OMem) ⊕ ((OMem))) := fun (x4, m) => if x4 < x3 then ((f_evaluateSubset x1 x2 x4 m).bind fun m_52 => (some (.inl (w32 (x4 + 1), m_52)))) else (some (.inr m))
set_option maxRecDepth 65536 in
set_option maxHeartbeats 16000000 in
theorem f_evaluateNode_l187_ok (x1 x2 x3 : Int) (x4 : Int) (m : OMem) : Sim (f_evaluateNode_l187 x1 x2 x3 (x4, m)) (Sum.elim (f_evaluateNode_l187_H x1 x2 x3 ) (f_evaluateNode_l187_X x1 x2 x3 )) (f_evaluateNode_l187_H x1 x2 x3 (x4, m)) :=
  Sim.shift 3 (G := fun n => if x4 < x3 then R n 20 193 [qr 0, qi x1, qi x2, qi x3, qi x4] [] 38 m else R n 20 207 [qr 0, qi x1, qi x2, qi x3, qi x4] [] 38 m) (fun _ => rfl) (Sim.ite (fun _ => Sim.shift 5 (G := fun n => (R n 30 0 [qr 0, qi x1, qi x2, qi x4, qn, qn, qn, qn, qn, qn, qn, qn] [] 38 m).bind fun y => Rr n 20 201 [qr 0, qi x1, qi x2, qi x3, qi x4] [] y) (fun _ => rfl) (Sim.call (f_evaluateSubset_ok x1 x2 x4 m) (fun _ _ => rfl) (runP_mono _ _ _ _ _ _) (fun _ => runP_mono _ _ _ _ _ _) (fun m_52 => Sim.shift 0 (G := fun n => R n 20 201 [qr 0, qi x1, qi x2, qi x3, qi x4] [] 38 m_52) (fun _ => rfl) (Sim.shift 2 (G := fun n => R n 20 187 [qr 0, qi x1, qi x2, qi x3, qi (w32 (x4 + 1))] [] 38 m_52) (fun _ => rfl) (Sim.pur _ _))))) (fun _ => Sim.leaf rfl (fun _ => rfl)))
def f_evaluateNode_b169 (x1 x2 : Int) (m : OMem) : Option (OMem) := if m 0 31 = 0 then (some m) else ((lp (f_evaluateNode_l187 x1 x2 (shl32 1 (m 0 31))) NN (1, m)).bind fun m_53 => (some m_53))
set_option maxRecDepth 65536 in
set_option maxHeartbeats 16000000 in
theorem f_evaluateNode_b169_ok (x1 x2 : Int) (m : OMem) : Sim (f_evaluateNode_b169 x1 x2 m) (fun w0 _ => some (none, 38, w0)) (fun n => R n 20 169 [qr 0, qi x1, qi x2, qn, qn] [] 38 m) :=
  Sim.shift 3 (G := fun n => if m 0 31 = 0 then R n 20 176 [qr 0, qi x1, qi x2, qn, qn] [] 38 m else R n 20 177 [qr 0, qi x1, qi x2, qn, qn] [] 38 m) (fun _ => rfl) (Sim.ite (fun _ => Sim.shift 1 (G := (fun _ => some (none, 38, m))) (fun _ => rfl) (Sim.pur _ _)) (fun _ => Sim.shift 5 (G := fun n => R n 20 184 [qr 0, qi x1, qi x2, qi (shl32 1 (m 0 31)), qn] [] 38 m) (fun _ => rfl) (Sim.shift 2 (G := fun n => R n 20 187 [qr 0, qi x1, qi x2, qi (shl32 1 (m 0 31)), qi 1] [] 38 m) (fun _ => rfl) (Sim.bind (Sim.lp (σ := Int × OMem) (fun ⟨x4L, mL⟩ => f_evaluateNode_l187_ok x1 x2 (shl32 1 (m 0 31)) x4L mL) NN (1, m)) (fun m_53 => Sim.shift 1 (G := (fun _ => some (none, 38, m_53))) (fun _ => rfl) (Sim.pur _ _))))))
def f_evaluateNode_b78 (x1 x2 : Int) (m : OMem) : Option (OMem) := (lp (f_evaluateNode_l85 x1 x2) NN (0, sto m 0 31 0)).bind fun m_42 => (f_evaluateNode_b169 x1 x2 m_42)
set_option maxRecDepth 65536 in
set_option maxHeartbeats 16000000 in
theorem f_evaluateNode_b78_ok (x1 x2 : Int) (m : OMem) : Sim (f_evaluateNode_b78 x1 x2 m) (fun w0 _ => some (none, 38, w0)) (fun n => R n 20 78 [qr 0, qi x1, qi x2, qn, qn] [] 38 m) :=
  Sim.shift 5 (G := fun n => R n 20 85 [qr 0, qi x1, qi x2, qi 0, qn] [] 38 (sto m 0 31 0)) (fun _ => rfl) (Sim.bind (Sim.lp (σ := Int × OMem) (fun ⟨x3L, mL⟩ => f_evaluateNode_l85_ok x1 x2 x3L mL) NN (0, sto m 0 31 0)) (fun m_42 => f_evaluateNode_b169_ok x1 x2 m_42))
def f_evaluateNode (x1 x2 : Int) (m : OMem) : Option (OMem) := if 0 ≤ x2 ∧ x2 < 8 then (if m 1 x2 = 0 then (f_evaluateNode_b18 m) else ((f_labelsMatch x1 x2 m).bind fun r_38 => (if r_38 = 0 then (f_evaluateNode_b18 m) else ((f_usedOf x2 0 m).bind fun r_39 => ((f_usedOf x2 1 (sto m 0 27 r_39)).bind fun r_40 => ((f_usedOf x2 2 (sto (sto m 0 27 r_39) 0 28 r_40)).bind fun r_41 => (if 0 ≤ x1 ∧ x1 < 16 then (if m 14 x1 = 0 then (f_evaluateNode_b78 x1 x2 (sto (sto (sto (sto m 0 27 r_39) 0 28 r_40) 0 29 r_41) 0 30 0)) else (if 0 ≤ x1 ∧ x1 < 16 then ((f_groupOnNode x2 (m 14 x1) (sto (sto (sto (sto m 0 27 r_39) 0 28 r_40) 0 29 r_41) 0 30 0)).bind fun r_54 => (f_evaluateNode_b78 x1 x2 (sto (sto (sto (sto (sto m 0 27 r_39) 0 28 r_40) 0 29 r_41) 0 30 0) 0 30 r_54))) else none)) else none))))))) else none
set_option maxRecDepth 65536 in
set_option maxHeartbeats 16000000 in
theorem f_evaluateNode_ok (x1 x2 : Int) (m : OMem) : Sim (f_evaluateNode x1 x2 m) (fun w0 _ => some (none, 38, w0)) (fun n => R n 20 0 [qr 0, qi x1, qi x2, qn, qn] [] 38 m) :=
  Sim.shift 4 (G := fun n => if 0 ≤ x2 ∧ x2 < 8 then R n 20 6 [qr 0, qi x1, qi x2, qn, qn] [vi (m 1 x2)] 38 m else none) (fun _ => rfl) (Sim.grd fun _ => Sim.shift 1 (G := fun n => if m 1 x2 = 0 then R n 20 18 [qr 0, qi x1, qi x2, qn, qn] [] 38 m else R n 20 9 [qr 0, qi x1, qi x2, qn, qn] [] 38 m) (fun _ => rfl) (Sim.ite (fun _ => Sim.jmp (f_evaluateNode_b18_ok m) rfl (fun _ => rfl)) (fun _ => Sim.shift 4 (G := fun n => (R n 22 0 [qr 0, qi x1, qi x2] [] 38 m).bind fun y => Rr n 20 15 [qr 0, qi x1, qi x2, qn, qn] [] y) (fun _ => rfl) (Sim.call (f_labelsMatch_ok x1 x2 m) (fun _ _ => rfl) (runP_mono _ _ _ _ _ _) (fun _ => runP_mono _ _ _ _ _ _) (fun r_38 => Sim.shift 0 (G := fun n => R n 20 15 [qr 0, qi x1, qi x2, qn, qn] [vi r_38] 38 m) (fun _ => rfl) (Sim.shift 1 (G := fun n => if r_38 = 0 then R n 20 18 [qr 0, qi x1, qi x2, qn, qn] [] 38 m else R n 20 19 [qr 0, qi x1, qi x2, qn, qn] [] 38 m) (fun _ => rfl) (Sim.ite (fun _ => Sim.jmp (f_evaluateNode_b18_ok m) rfl (fun _ => rfl)) (fun _ => Sim.shift 5 (G := fun n => (R n 23 0 [qr 0, qi x2, qi 0, qn, qn] [] 38 m).bind fun y => Rr n 20 26 [qr 0, qi x1, qi x2, qn, qn] [vr 0] y) (fun _ => rfl) (Sim.call (f_usedOf_ok x2 0 m) (fun _ _ => rfl) (runP_mono _ _ _ _ _ _) (fun _ => runP_mono _ _ _ _ _ _) (fun r_39 => Sim.shift 0 (G := fun n => R n 20 26 [qr 0, qi x1, qi x2, qn, qn] [vi r_39, vr 0] 38 m) (fun _ => rfl) (Sim.shift 6 (G := fun n => (R n 23 0 [qr 0, qi x2, qi 1, qn, qn] [] 38 (sto m 0 27 r_39)).bind fun y => Rr n 20 36 [qr 0, qi x1, qi x2, qn, qn] [vr 0] y) (fun _ => rfl) (Sim.call (f_usedOf_ok x2 1 (sto m 0 27 r_39)) (fun _ _ => rfl) (runP_mono _ _ _ _ _ _) (fun _ => runP_mono _ _ _ _ _ _) (fun r_40 => Sim.shift 0 (G := fun n => R n 20 36 [qr 0, qi x1, qi x2, qn, qn] [vi r_40, vr 0] 38 (sto m 0 27 r_39)) (fun _ => rfl) (Sim.shift 6 (G := fun n => (R n 23 0 [qr 0, qi x2, qi 2, qn, qn] [] 38 (sto (sto m 0 27 r_39) 0 28 r_40)).bind fun y => Rr n 20 46 [qr 0, qi x1, qi x2, qn, qn] [vr 0] y) (fun _ => rfl) (Sim.call (f_usedOf_ok x2 2 (sto (sto m 0 27 r_39) 0 28 r_40)) (fun _ _ => rfl) (runP_mono _ _ _ _ _ _) (fun _ => runP_mono _ _ _ _ _ _) (fun r_41 => Sim.shift 0 (G := fun n => R n 20 46 [qr 0, qi x1, qi x2, qn, qn] [vi r_41, vr 0] 38 (sto (sto m 0 27 r_39) 0 28 r_40)) (fun _ => rfl) (Sim.shift 8 (G := fun n => if 0 ≤ x1 ∧ x1 < 16 then R n 20 60 [qr 0, qi x1, qi x2, qn, qn] [vi (m 14 x1)] 38 (sto (sto (sto (sto m 0 27 r_39) 0 28 r_40) 0 29 r_41) 0 30 0) else none) (fun _ => rfl) (Sim.grd fun _ => Sim.shift 1 (G := fun n => if m 14 x1 = 0 then R n 20 78 [qr 0, qi x1, qi x2, qn, qn] [] 38 (sto (sto (sto (sto m 0 27 r_39) 0 28 r_40) 0 29 r_41) 0 30 0) else R n 20 63 [qr 0, qi x1, qi x2, qn, qn] [] 38 (sto (sto (sto (sto m 0 27 r_39) 0 28 r_40) 0 29 r_41) 0 30 0)) (fun _ => rfl) (Sim.ite (fun _ => f_evaluateNode_b78_ok x1 x2 (sto (sto (sto (sto m 0 27 r_39) 0 28 r_40) 0 29 r_41) 0 30 0)) (fun _ => Sim.shift 7 (G := fun n => if 0 ≤ x1 ∧ x1 < 16 then R n 20 72 [qr 0, qi x1, qi x2, qn, qn] [vi (m 14 x1), vi x2, vr 0, vr 0] 38 (sto (sto (sto (sto m 0 27 r_39) 0 28 r_40) 0 29 r_41) 0 30 0) else none) (fun _ => rfl) (Sim.grd fun _ => Sim.shift 1 (G := fun n => (R n 26 0 [qr 0, qi x2, qi (m 14 x1), qn, qn] [] 38 (sto (sto (sto (sto m 0 27 r_39) 0 28 r_40) 0 29 r_41) 0 30 0)).bind fun y => Rr n 20 75 [qr 0, qi x1, qi x2, qn, qn] [vr 0] y) (fun _ => rfl) (Sim.call (f_groupOnNode_ok x2 (m 14 x1) (sto (sto (sto (sto m 0 27 r_39) 0 28 r_40) 0 29 r_41) 0 30 0)) (fun _ _ => rfl) (runP_mono _ _ _ _ _ _) (fun _ => runP_mono _ _ _ _ _ _) (fun r_54 => Sim.shift 0 (G := fun n => R n 20 75 [qr 0, qi x1, qi x2, qn, qn] [vi r_54, vr 0] 38 (sto (sto (sto (sto m 0 27 r_39) 0 28 r_40) 0 29 r_41) 0 30 0)) (fun _ => rfl) (Sim.shift 1 (G := fun n => R n 20 78 [qr 0, qi x1, qi x2, qn, qn] [] 38 (sto (sto (sto (sto (sto m 0 27 r_39) 0 28 r_40) 0 29 r_41) 0 30 0) 0 30 r_54)) (fun _ => rfl) (f_evaluateNode_b78_ok x1 x2 (sto (sto (sto (sto (sto m 0 27 r_39) 0 28 r_40) 0 29 r_41) 0 30 0) 0 30 r_54))))))))))))))))))))))))))
def f_findPreemption_l21_H (x1 : Int) : Int × OMem → Nat → RT := fun (x2, m) n => R n 18 21 [qr 0, qi x1, qi x2] [] 38 m
def f_findPreemption_l21_X (x1 : Int) : (OMem) → Nat → RT := fun e n => match e with | w => R n 18 47 [qr 0, qn, qn] [] 38 w
def f_findPreemption_l21 (x1 : Int) : Int × OMem → Option ((Int × OMem) ⊕ ((OMem))) := fun (x2, m) => if x2 < m 0 19 then (if x2 < 8 then ((f_evaluateNode x1 x2 m).bind fun m_55 => (some (.inl (w32 (x2 + 1), m_55)))) else (some (.inr m))) else (some (.inr m))
set_option maxRecDepth 65536 in
set_option maxHeartbeats 16000000 in
theorem f_findPreemption_l21_ok (x1 : Int) (x2 : Int) (m : OMem) : Sim (f_findPreemption_l21 x1 (x2, m)) (Sum.elim (f_findPreemption_l21_H x1 ) (f_findPreemption_l21_X x1 )) (f_findPreemption_l21_H x1 (x2, m)) :=
  Sim.shift 4 (G := fun n => if x2 < m 0 19 then R n 18 29 [qr 0, qi x1, qi x2] [] 38 m else R n 18 47 [qr 0, qi x1, qi x2] [] 38 m) (fun _ => rfl) (Sim.ite (fun _ => Sim.shift 3 (G := fun n => if x2 < 8 then R n 18 35 [qr 0, qi x1, qi x2] [] 38 m else R n 18 47 [qr 0, qi x1, qi x2] [] 38 m) (fun _ => rfl) (Sim.ite (fun _ => Sim.shift 4 (G := fun n => (R n 20 0 [qr 0, qi x1, qi x2, qn, qn] [] 38 m).bind fun y => Rr n 18 41 [qr 0, qi x1, qi x2] [] y) (fun _ => rfl) (Sim.call (f_evaluateNode_ok x1 x2 m) (fun _ _ => rfl) (runP_mono _ _ _ _ _ _) (fun _ => runP_mono _ _ _ _ _ _) (fun m_55 => Sim.shift 0 (G := fun n => R n 18 41 [qr 0, qi x1, qi x2] [] 38 m_55) (fun _ => rfl) (Sim.shift 2 (G := fun n => R n 18 21 [qr 0, qi x1, qi (w32 (x2 + 1))] [] 38 m_55) (fun _ => rfl) (Sim.pur _ _))))) (fun _ => Sim.leaf rfl (fun _ => rfl)))) (fun _ => Sim.leaf rfl (fun _ => rfl)))
def f_findPreemption_b47 (m : OMem) : Option (Int × OMem) := some ((m 0 26) % 2, m)
set_option maxRecDepth 65536 in
set_option maxHeartbeats 16000000 in
theorem f_findPreemption_b47_ok (m : OMem) : Sim (f_findPreemption_b47 m) (fun (r, w0) _ => some (some (vi r), 38, w0)) (fun n => R n 18 47 [qr 0, qn, qn] [] 38 m) :=
  Sim.shift 3 (G := (fun _ => some (some (vi ((m 0 26) % 2)), 38, m))) (fun _ => rfl) (Sim.pur _ _)
def f_findPreemption (x1 : Int) (m : OMem) : Option (Int × OMem) := (f_computeGroupBound (sto (sto (sto m 0 26 0) 0 24 0) 0 25 (-1))).bind fun m_37 => ((lp (f_findPreemption_l21 x1) NN (0, m_37)).bind fun m_56 => (f_findPreemption_b47 m_56))
set_option maxRecDepth 65536 in
set_option maxHeartbeats 16000000 in
theorem f_findPreemption_ok (x1 : Int) (m : OMem) : Sim (f_findPreemption x1 m) (fun (r, w0) _ => some (some (vi r), 38, w0)) (fun n => R n 18 0 [qr 0, qi x1, qn] [] 38 m) :=
  Sim.shift 11 (G := fun n => (R n 19 0 [qr 0, qn] [] 38 (sto (sto (sto m 0 26 0) 0 24 0) 0 25 (-1))).bind fun y => Rr n 18 19 [qr 0, qi x1, qn] [] y) (fun _ => rfl) (Sim.call (f_computeGroupBound_ok (sto (sto (sto m 0 26 0) 0 24 0) 0 25 (-1))) (fun _ _ => rfl) (runP_mono _ _ _ _ _ _) (fun _ => runP_mono _ _ _ _ _ _) (fun m_37 => Sim.shift 0 (G := fun n => R n 18 19 [qr 0, qi x1, qn] [] 38 m_37) (fun _ => rfl) (Sim.shift 2 (G := fun n => R n 18 21 [qr 0, qi x1, qi 0] [] 38 m_37) (fun _ => rfl) (Sim.bind (Sim.lp (σ := Int × OMem) (fun ⟨x2L, mL⟩ => f_findPreemption_l21_ok x1 x2L mL) NN (0, m_37)) (fun m_56 => f_findPreemption_b47_ok m_56)))))
def f_record (x1 x2 : Int) (m : OMem) : Option (OMem) := some (sto (sto m 0 22 x1) 0 23 x2)
set_option maxRecDepth 65536 in
set_option maxHeartbeats 16000000 in
theorem f_record_ok (t : Nat) (x1 x2 : Int) (m : OMem) : Sim (f_record x1 x2 m) (fun w0 _ => some (none, t, w0)) (fun n => R n 21 0 [qr 0, qi x1, qi x2] [] t m) :=
  Sim.shift 7 (G := (fun _ => some (none, t, sto (sto m 0 22 x1) 0 23 x2))) (fun _ => rfl) (Sim.pur _ _)
def f_bind (x1 x2 : Int) (m : OMem) : Option (OMem) := if 0 ≤ x1 ∧ x1 < 16 then (if 0 ≤ x1 ∧ x1 < 16 then (some (sto (sto m 7 x1 2) 8 x1 x2)) else none) else none
set_option maxRecDepth 65536 in
set_option maxHeartbeats 16000000 in
theorem f_bind_ok (x1 x2 : Int) (m : OMem) : Sim (f_bind x1 x2 m) (fun w0 _ => some (none, 38, w0)) (fun n => R n 28 0 [qr 0, qi x1, qi x2] [] 38 m) :=
  Sim.shift 5 (G := fun n => if 0 ≤ x1 ∧ x1 < 16 then R n 28 7 [qr 0, qi x1, qi x2] [] 38 (sto m 7 x1 2) else none) (fun _ => rfl) (Sim.grd fun _ => Sim.shift 5 (G := fun n => if 0 ≤ x1 ∧ x1 < 16 then R n 28 14 [qr 0, qi x1, qi x2] [] 38 (sto (sto m 7 x1 2) 8 x1 x2) else none) (fun _ => rfl) (Sim.grd fun _ => Sim.shift 1 (G := (fun _ => some (none, 38, sto (sto m 7 x1 2) 8 x1 x2))) (fun _ => rfl) (Sim.pur _ _)))
def f_attempt_l34_H (x1 : Int) : Int × OMem → Nat → RT := fun (x3, m) n => R n 16 34 [qr 0, qi x1, qn, qi x3] [] 38 m
def f_attempt_l34_X (x1 : Int) : (OMem) → Nat → RT := fun e n => match e with | w => R n 16 70 [qr 0, qi x1, qn, qn] [] 38 w
def f_attempt_b64 (x1 x3 : Int) (m : OMem) : Option ((Int × OMem) ⊕ ((OMem))) := some (.inl (w32 (x3 + 1), m))
set_option maxRecDepth 65536 in
set_option maxHeartbeats 16000000 in
theorem f_attempt_b64_ok (x1 x3 : Int) (m : OMem) : Sim (f_attempt_b64 x1 x3 m) (Sum.elim (f_attempt_l34_H x1 ) (f_attempt_l34_X x1 )) (fun n => R n 16 64 [qr 0, qi x1, qn, qi x3] [] 38 m) :=
  Sim.shift 2 (G := fun n => R n 16 34 [qr 0, qi x1, qn, qi (w32 (x3 + 1))] [] 38 m) (fun _ => rfl) (Sim.pur _ _)
def f_attempt_l34 (x1 : Int) : Int × OMem → Option ((Int × OMem) ⊕ ((OMem))) := fun (x3, m) => if x3 < m 0 20 then (if x3 < 16 then (if and32 (shr32 (m 0 24) x3) 1 = 0 then (f_attempt_b64 x1 x3 m) else ((f_queue x3 m).bind fun m_61 => (f_attempt_b64 x1 x3 m_61))) else (some (.inr m))) else (some (.inr m))
set_option maxRecDepth 65536 in
set_option maxHeartbeats 16000000 in
theorem f_attempt_l34_ok (x1 : Int) (x3 : Int) (m : OMem) : Sim (f_attempt_l34 x1 (x3, m)) (Sum.elim (f_attempt_l34_H x1 ) (f_attempt_l34_X x1 )) (f_attempt_l34_H x1 (x3, m)) :=
  Sim.shift 4 (G := fun n => if x3 < m 0 20 then R n 16 42 [qr 0, qi x1, qn, qi x3] [] 38 m else R n 16 70 [qr 0, qi x1, qn, qi x3] [] 38 m) (fun _ => rfl) (Sim.ite (fun _ => Sim.shift 3 (G := fun n => if x3 < 16 then R n 16 48 [qr 0, qi x1, qn, qi x3] [] 38 m else R n 16 70 [qr 0, qi x1, qn, qi x3] [] 38 m) (fun _ => rfl) (Sim.ite (fun _ => Sim.shift 5 (G := fun n => R n 16 55 [qr 0, qi x1, qn, qi x3] [vi 1, vi (shr32 (m 0 24) x3)] 38 m) (fun _ => rfl) (Sim.shift 2 (G := fun n => if and32 (shr32 (m 0 24) x3) 1 = 0 then R n 16 64 [qr 0, qi x1, qn, qi x3] [] 38 m else R n 16 59 [qr 0, qi x1, qn, qi x3] [] 38 m) (fun _ => rfl) (Sim.ite (fun _ => f_attempt_b64_ok x1 x3 m) (fun _ => Sim.shift 3 (G := fun n => (R n 6 0 [qr 0, qi x3] [] 38 m).bind fun y => Rr n 16 64 [qr 0, qi x1, qn, qi x3] [] y) (fun _ => rfl) (Sim.call (f_queue_ok x3 m) (fun _ _ => rfl) (runP_mono _ _ _ _ _ _) (fun _ => runP_mono _ _ _ _ _ _) (fun m_61 => Sim.shift 0 (G := fun n => R n 16 64 [qr 0, qi x1, qn, qi x3] [] 38 m_61) (fun _ => rfl) (f_attempt_b64_ok x1 x3 m_61))))))) (fun _ => Sim.leaf rfl (fun _ => rfl)))) (fun _ => Sim.leaf rfl (fun _ => rfl)))
def f_attempt_b70 (x1 : Int) (m : OMem) : Option (Int × OMem) := (f_bind x1 (m 0 25) m).bind fun m_63 => ((f_record 2 (m_63 0 24) m_63).bind fun m_64 => (some (2, m_64)))
set_option maxRecDepth 65536 in
set_option maxHeartbeats 16000000 in
theorem f_attempt_b70_ok (x1 : Int) (m : OMem) : Sim (f_attempt_b70 x1 m) (fun (r, w0) _ => some (some (vi r), 38, w0)) (fun n => R n 16 70 [qr 0, qi x1, qn, qn] [] 38 m) :=
  Sim.shift 5 (G := fun n => (R n 28 0 [qr 0, qi x1, qi (m 0 25)] [] 38 m).bind fun y => Rr n 16 79 [qr 0, qi x1, qn, qn] [] y) (fun _ => rfl) (Sim.call (f_bind_ok x1 (m 0 25) m) (fun _ _ => rfl) (runP_mono _ _ _ _ _ _) (fun _ => runP_mono _ _ _ _ _ _) (fun m_63 => Sim.shift 0 (G := fun n => R n 16 79 [qr 0, qi x1, qn, qn] [] 38 m_63) (fun _ => rfl) (Sim.shift 5 (G := fun n => (R n 21 0 [qr 0, qi 2, qi (m_63 0 24)] [] 38 m_63).bind fun y => Rr n 16 88 [qr 0, qi x1, qn, qn] [] y) (fun _ => rfl) (Sim.call (f_record_ok 38 2 (m_63 0 24) m_63) (fun _ _ => rfl) (runP_mono _ _ _ _ _ _) (fun _ => runP_mono _ _ _ _ _ _) (fun m_64 => Sim.shift 0 (G := fun n => R n 16 88 [qr 0, qi x1, qn, qn] [] 38 m_64) (fun _ => rfl) (Sim.shift 2 (G := (fun _ => some (some (vi 2), 38, m_64))) (fun _ => rfl) (Sim.pur _ _)))))))
def f_attempt (x1 : Int) (m : OMem) : Option (Int × OMem) := (f_bestFitNode x1 m).bind fun r_34 => (if r_34 < 0 then ((f_findPreemption x1 m).bind fun (r_57, m_58) => (if r_57 = 0 then ((f_queue x1 m_58).bind fun m_59 => ((f_record 0 0 m_59).bind fun m_60 => (some (0, m_60)))) else ((lp (f_attempt_l34 x1) NN (0, m_58)).bind fun m_62 => (f_attempt_b70 x1 m_62)))) else ((f_bind x1 r_34 m).bind fun m_65 => ((f_record 1 0 m_65).bind fun m_66 => (some (1, m_66)))))
set_option maxRecDepth 65536 in
set_option maxHeartbeats 16000000 in
theorem f_attempt_ok (x1 : Int) (m : OMem) : Sim (f_attempt x1 m) (fun (r, w0) _ => some (some (vi r), 38, w0)) (fun n => R n 16 0 [qr 0, qi x1, qn, qn] [] 38 m) :=
  Sim.shift 3 (G := fun n => (R n 17 0 [qr 0, qi x1, qn, qn, qn, qn] [] 38 m).bind fun y => Rr n 16 5 [qr 0, qi x1, qn, qn] [] y) (fun _ => rfl) (Sim.call (f_bestFitNode_ok x1 m) (fun _ _ => rfl) (runP_mono _ _ _ _ _ _) (fun _ => runP_mono _ _ _ _ _ _) (fun r_34 => Sim.shift 0 (G := fun n => R n 16 5 [qr 0, qi x1, qn, qn] [vi r_34] 38 m) (fun _ => rfl) (Sim.shift 3 (G := fun n => if r_34 < 0 then R n 16 24 [qr 0, qi x1, qi r_34, qn] [] 38 m else R n 16 10 [qr 0, qi x1, qi r_34, qn] [] 38 m) (fun _ => rfl) (Sim.ite (fun _ => Sim.shift 3 (G := fun n => (R n 18 0 [qr 0, qi x1, qn] [] 38 m).bind fun y => Rr n 16 29 [qr 0, qi x1, qn, qn] [] y) (fun _ => rfl) (Sim.call (f_findPreemption_ok x1 m) (fun _ _ => rfl) (runP_mono _ _ _ _ _ _) (fun _ => runP_mono _ _ _ _ _ _) (fun ⟨r_57, m_58⟩ => Sim.shift 0 (G := fun n => R n 16 29 [qr 0, qi x1, qn, qn] [vi r_57] 38 m_58) (fun _ => rfl) (Sim.shift 1 (G := fun n => if r_57 = 0 then R n 16 90 [qr 0, qi x1, qn, qn] [] 38 m_58 else R n 16 32 [qr 0, qi x1, qn, qn] [] 38 m_58) (fun _ => rfl) (Sim.ite (fun _ => Sim.shift 3 (G := fun n => (R n 6 0 [qr 0, qi x1] [] 38 m_58).bind fun y => Rr n 16 95 [qr 0, qi x1, qn, qn] [] y) (fun _ => rfl) (Sim.call (f_queue_ok x1 m_58) (fun _ _ => rfl) (runP_mono _ _ _ _ _ _) (fun _ => runP_mono _ _ _ _ _ _) (fun m_59 => Sim.shift 0 (G := fun n => R n 16 95 [qr 0, qi x1, qn, qn] [] 38 m_59) (fun _ => rfl) (Sim.shift 4 (G := fun n => (R n 21 0 [qr 0, qi 0, qi 0] [] 38 m_59).bind fun y => Rr n 16 101 [qr 0, qi x1, qn, qn] [] y) (fun _ => rfl) (Sim.call (f_record_ok 38 0 0 m_59) (fun _ _ => rfl) (runP_mono _ _ _ _ _ _) (fun _ => runP_mono _ _ _ _ _ _) (fun m_60 => Sim.shift 0 (G := fun n => R n 16 101 [qr 0, qi x1, qn, qn] [] 38 m_60) (fun _ => rfl) (Sim.shift 2 (G := (fun _ => some (some (vi 0), 38, m_60))) (fun _ => rfl) (Sim.pur _ _)))))))) (fun _ => Sim.shift 2 (G := fun n => R n 16 34 [qr 0, qi x1, qn, qi 0] [] 38 m_58) (fun _ => rfl) (Sim.bind (Sim.lp (σ := Int × OMem) (fun ⟨x3L, mL⟩ => f_attempt_l34_ok x1 x3L mL) NN (0, m_58)) (fun m_62 => f_attempt_b70_ok x1 m_62)))))))) (fun _ => Sim.shift 4 (G := fun n => (R n 28 0 [qr 0, qi x1, qi r_34] [] 38 m).bind fun y => Rr n 16 16 [qr 0, qi x1, qi r_34, qn] [] y) (fun _ => rfl) (Sim.call (f_bind_ok x1 r_34 m) (fun _ _ => rfl) (runP_mono _ _ _ _ _ _) (fun _ => runP_mono _ _ _ _ _ _) (fun m_65 => Sim.shift 0 (G := fun n => R n 16 16 [qr 0, qi x1, qi r_34, qn] [] 38 m_65) (fun _ => rfl) (Sim.shift 4 (G := fun n => (R n 21 0 [qr 0, qi 1, qi 0] [] 38 m_65).bind fun y => Rr n 16 22 [qr 0, qi x1, qi r_34, qn] [] y) (fun _ => rfl) (Sim.call (f_record_ok 38 1 0 m_65) (fun _ _ => rfl) (runP_mono _ _ _ _ _ _) (fun _ => runP_mono _ _ _ _ _ _) (fun m_66 => Sim.shift 0 (G := fun n => R n 16 22 [qr 0, qi x1, qi r_34, qn] [] 38 m_66) (fun _ => rfl) (Sim.shift 2 (G := (fun _ => some (some (vi 1), 38, m_66))) (fun _ => rfl) (Sim.pur _ _))))))))))))
def f_scheduleNext_l4_H (m : OMem) : Int × Int → Nat → RT := fun (x1, x2) n => R n 15 4 [qr 0, qi x1, qi x2] [] 38 m
def f_scheduleNext_l4_X (m : OMem) : (Int) → Nat → RT := fun e n => match e with | y1 => R n 15 88 [qr 0, qi y1, qn] [] 38 m
def f_scheduleNext_b82 (x1 x2 : Int) (m : OMem) : Option ((Int × Int) ⊕ ((Int))) := some (.inl (x1, w32 (x2 + 1)))
set_option maxRecDepth 65536 in
set_option maxHeartbeats 16000000 in
theorem f_scheduleNext_b82_ok (x1 x2 : Int) (m : OMem) : Sim (f_scheduleNext_b82 x1 x2 m) (Sum.elim (f_scheduleNext_l4_H m ) (f_scheduleNext_l4_X m )) (fun n => R n 15 82 [qr 0, qi x1, qi x2] [] 38 m) :=
  Sim.shift 2 (G := fun n => R n 15 4 [qr 0, qi x1, qi (w32 (x2 + 1))] [] 38 m) (fun _ => rfl) (Sim.pur _ _)
def f_scheduleNext_b80 (x2 : Int) (m : OMem) : Option ((Int × Int) ⊕ ((Int))) := f_scheduleNext_b82 x2 x2 m
set_option maxRecDepth 65536 in
set_option maxHeartbeats 16000000 in
theorem f_scheduleNext_b80_ok (x2 : Int) (m : OMem) : Sim (f_scheduleNext_b80 x2 m) (Sum.elim (f_scheduleNext_l4_H m ) (f_scheduleNext_l4_X m )) (fun n => R n 15 80 [qr 0, qn, qi x2] [] 38 m) :=
  Sim.shift 2 (G := fun n => R n 15 82 [qr 0, qi x2, qi x2] [] 38 m) (fun _ => rfl) (f_scheduleNext_b82_ok x2 x2 m)
def f_scheduleNext_l4 (m : OMem) : Int × Int → Option ((Int × Int) ⊕ ((Int))) := fun (x1, x2) => if x2 < m 0 20 then (if x2 < 16 then (if 0 ≤ x2 ∧ x2 < 16 then (if m 7 x2 = 1 then (if x1 < 0 then (f_scheduleNext_b80 x2 m) else (if 0 ≤ x2 ∧ x2 < 16 then (if 0 ≤ x1 ∧ x1 < 16 then (if m 11 x1 < m 11 x2 then (f_scheduleNext_b80 x2 m) else (if 0 ≤ x2 ∧ x2 < 16 then (if 0 ≤ x1 ∧ x1 < 16 then (if m 11 x2 = m 11 x1 then (if 0 ≤ x2 ∧ x2 < 16 then (if 0 ≤ x1 ∧ x1 < 16 then (if m 15 x2 < m 15 x1 then (f_scheduleNext_b80 x2 m) else (f_scheduleNext_b82 x1 x2 m)) else none) else none) else (f_scheduleNext_b82 x1 x2 m)) else none) else none)) else none) else none)) else (f_scheduleNext_b82 x1 x2 m)) else none) else (some (.inr x1))) else (some (.inr x1))
set_option maxRecDepth 65536 in
set_option maxHeartbeats 16000000 in
theorem f_scheduleNext_l4_ok (m : OMem) (x1 x2 : Int) : Sim (f_scheduleNext_l4 m (x1, x2)) (Sum.elim (f_scheduleNext_l4_H m ) (f_scheduleNext_l4_X m )) (f_scheduleNext_l4_H m (x1, x2)) :=
  Sim.shift 4 (G := fun n => if x2 < m 0 20 then R n 15 12 [qr 0, qi x1, qi x2] [] 38 m else R n 15 88 [qr 0, qi x1, qi x2] [] 38 m) (fun _ => rfl) (Sim.ite (fun _ => Sim.shift 3 (G := fun n => if x2 < 16 then R n 15 18 [qr 0, qi x1, qi x2] [] 38 m else R n 15 88 [qr 0, qi x1, qi x2] [] 38 m) (fun _ => rfl) (Sim.ite (fun _ => Sim.shift 4 (G := fun n => if 0 ≤ x2 ∧ x2 < 16 then R n 15 24 [qr 0, qi x1, qi x2] [vi (m 7 x2)] 38 m else none) (fun _ => rfl) (Sim.grd fun _ => Sim.shift 2 (G := fun n => if m 7 x2 = 1 then R n 15 31 [qr 0, qi x1, qi x2] [] 38 m else R n 15 28 [qr 0, qi x1, qi x2] [] 38 m) (fun _ => rfl) (Sim.ite (fun _ => Sim.shift 2 (G := fun n => if x1 < 0 then R n 15 80 [qr 0, qi x1, qi x2] [] 38 m else R n 15 35 [qr 0, qi x1, qi x2] [] 38 m) (fun _ => rfl) (Sim.ite (fun _ => Sim.jmp (f_scheduleNext_b80_ok x2 m) rfl (fun _ => rfl)) (fun _ => Sim.shift 4 (G := fun n => if 0 ≤ x2 ∧ x2 < 16 then R n 15 41 [qr 0, qi x1, qi x2] [vi (m 11 x2)] 38 m else none) (fun _ => rfl) (Sim.grd fun _ => Sim.shift 4 (G := fun n => if 0 ≤ x1 ∧ x1 < 16 then R n 15 47 [qr 0, qi x1, qi x2] [vi (m 11 x1), vi (m 11 x2)] 38 m else none) (fun _ => rfl) (Sim.grd fun _ => Sim.shift 1 (G := fun n => if m 11 x1 < m 11 x2 then R n 15 80 [qr 0, qi x1, qi x2] [] 38 m else R n 15 50 [qr 0, qi x1, qi x2] [] 38 m) (fun _ => rfl) (Sim.ite (fun _ => Sim.jmp (f_scheduleNext_b80_ok x2 m) rfl (fun _ => rfl)) (fun _ => Sim.shift 4 (G := fun n => if 0 ≤ x2 ∧ x2 < 16 then R n 15 56 [qr 0, qi x1, qi x2] [vi (m 11 x2)] 38 m else none) (fun _ => rfl) (Sim.grd fun _ => Sim.shift 4 (G := fun n => if 0 ≤ x1 ∧ x1 < 16 then R n 15 62 [qr 0, qi x1, qi x2] [vi (m 11 x1), vi (m 11 x2)] 38 m else none) (fun _ => rfl) (Sim.grd fun _ => Sim.shift 1 (G := fun n => if m 11 x2 = m 11 x1 then R n 15 65 [qr 0, qi x1, qi x2] [] 38 m else R n 15 82 [qr 0, qi x1, qi x2] [] 38 m) (fun _ => rfl) (Sim.ite (fun _ => Sim.shift 4 (G := fun n => if 0 ≤ x2 ∧ x2 < 16 then R n 15 71 [qr 0, qi x1, qi x2] [vi (m 15 x2)] 38 m else none) (fun _ => rfl) (Sim.grd fun _ => Sim.shift 4 (G := fun n => if 0 ≤ x1 ∧ x1 < 16 then R n 15 77 [qr 0, qi x1, qi x2] [vi (m 15 x1), vi (m 15 x2)] 38 m else none) (fun _ => rfl) (Sim.grd fun _ => Sim.shift 1 (G := fun n => if m 15 x2 < m 15 x1 then R n 15 80 [qr 0, qi x1, qi x2] [] 38 m else R n 15 82 [qr 0, qi x1, qi x2] [] 38 m) (fun _ => rfl) (Sim.ite (fun _ => Sim.jmp (f_scheduleNext_b80_ok x2 m) rfl (fun _ => rfl)) (fun _ => f_scheduleNext_b82_ok x1 x2 m))))) (fun _ => f_scheduleNext_b82_ok x1 x2 m))))))))))) (fun _ => Sim.shift 1 (G := fun n => R n 15 82 [qr 0, qi x1, qi x2] [] 38 m) (fun _ => rfl) (f_scheduleNext_b82_ok x1 x2 m))))) (fun _ => Sim.leaf rfl (fun _ => rfl)))) (fun _ => Sim.leaf rfl (fun _ => rfl)))
def f_scheduleNext_b88 (x1 : Int) (m : OMem) : Option (Int × OMem) := if x1 < 0 then (some ((-1), m)) else ((f_attempt x1 m).bind fun (r_67, m_68) => (some (x1, m_68)))
set_option maxRecDepth 65536 in
set_option maxHeartbeats 16000000 in
theorem f_scheduleNext_b88_ok (x1 : Int) (m : OMem) : Sim (f_scheduleNext_b88 x1 m) (fun (r, w0) _ => some (some (vi r), 38, w0)) (fun n => R n 15 88 [qr 0, qi x1, qn] [] 38 m) :=
  Sim.shift 2 (G := fun n => if x1 < 0 then R n 15 92 [qr 0, qi x1, qn] [] 38 m else R n 15 94 [qr 0, qi x1, qn] [] 38 m) (fun _ => rfl) (Sim.ite (fun _ => Sim.shift 2 (G := (fun _ => some (some (vi (-1)), 38, m))) (fun _ => rfl) (Sim.pur _ _)) (fun _ => Sim.shift 3 (G := fun n => (R n 16 0 [qr 0, qi x1, qn, qn] [] 38 m).bind fun y => Rr n 15 99 [qr 0, qi x1, qn] [] y) (fun _ => rfl) (Sim.call (f_attempt_ok x1 m) (fun _ _ => rfl) (runP_mono _ _ _ _ _ _) (fun _ => runP_mono _ _ _ _ _ _) (fun ⟨r_67, m_68⟩ => Sim.shift 0 (G := fun n => R n 15 99 [qr 0, qi x1, qn] [vi r_67] 38 m_68) (fun _ => rfl) (Sim.shift 3 (G := (fun _ => some (some (vi x1), 38, m_68))) (fun _ => rfl) (Sim.pur _ _))))))
def f_scheduleNext (m : OMem) : Option (Int × OMem) := (lp (f_scheduleNext_l4 m) NN ((-1), 0)).bind fun x1_30 => (f_scheduleNext_b88 x1_30 m)
set_option maxRecDepth 65536 in
set_option maxHeartbeats 16000000 in
theorem f_scheduleNext_ok (m : OMem) : Sim (f_scheduleNext m) (fun (r, w0) _ => some (some (vi r), 38, w0)) (fun n => R n 15 0 [qr 0, qn, qn] [] 38 m) :=
  Sim.shift 4 (G := fun n => R n 15 4 [qr 0, qi (-1), qi 0] [] 38 m) (fun _ => rfl) (Sim.bind (Sim.lp (σ := Int × Int) (fun ⟨x1L, x2L⟩ => f_scheduleNext_l4_ok m x1L x2L) NN ((-1), 0)) (fun x1_30 => f_scheduleNext_b88_ok x1_30 m))
def f_setBudget_b21 (m : OMem) : Option (Int × OMem) := some (0, m)
set_option maxRecDepth 65536 in
set_option maxHeartbeats 16000000 in
theorem f_setBudget_b21_ok (m : OMem) : Sim (f_setBudget_b21 m) (fun (r, w0) _ => some (some (vi r), 38, w0)) (fun n => R n 24 21 [qn, qn, qn] [] 38 m) :=
  Sim.shift 2 (G := (fun _ => some (some (vi 0), 38, m))) (fun _ => rfl) (Sim.pur _ _)
def f_setBudget (x1 x2 : Int) (m : OMem) : Option (Int × OMem) := if x1 < 1 then (f_setBudget_b21 m) else (if 15 < x1 then (f_setBudget_b21 m) else (if x2 < 0 then (f_setBudget_b21 m) else (if 16 < x2 then (f_setBudget_b21 m) else (if 0 ≤ x1 ∧ x1 < 16 then (some (1, sto m 16 x1 x2)) else none))))
set_option maxRecDepth 65536 in
set_option maxHeartbeats 16000000 in
theorem f_setBudget_ok (x1 x2 : Int) (m : OMem) : Sim (f_setBudget x1 x2 m) (fun (r, w0) _ => some (some (vi r), 38, w0)) (fun n => R n 24 0 [qr 0, qi x1, qi x2] [] 38 m) :=
  Sim.shift 3 (G := fun n => if x1 < 1 then R n 24 21 [qr 0, qi x1, qi x2] [] 38 m else R n 24 5 [qr 0, qi x1, qi x2] [] 38 m) (fun _ => rfl) (Sim.ite (fun _ => Sim.jmp (f_setBudget_b21_ok m) rfl (fun _ => rfl)) (fun _ => Sim.shift 3 (G := fun n => if 15 < x1 then R n 24 21 [qr 0, qi x1, qi x2] [] 38 m else R n 24 11 [qr 0, qi x1, qi x2] [] 38 m) (fun _ => rfl) (Sim.ite (fun _ => Sim.jmp (f_setBudget_b21_ok m) rfl (fun _ => rfl)) (fun _ => Sim.shift 2 (G := fun n => if x2 < 0 then R n 24 21 [qr 0, qi x1, qi x2] [] 38 m else R n 24 15 [qr 0, qi x1, qi x2] [] 38 m) (fun _ => rfl) (Sim.ite (fun _ => Sim.jmp (f_setBudget_b21_ok m) rfl (fun _ => rfl)) (fun _ => Sim.shift 3 (G := fun n => if 16 < x2 then R n 24 21 [qr 0, qi x1, qi x2] [] 38 m else R n 24 23 [qr 0, qi x1, qi x2] [] 38 m) (fun _ => rfl) (Sim.ite (fun _ => Sim.jmp (f_setBudget_b21_ok m) rfl (fun _ => rfl)) (fun _ => Sim.shift 5 (G := fun n => if 0 ≤ x1 ∧ x1 < 16 then R n 24 30 [qr 0, qi x1, qi x2] [] 38 (sto m 16 x1 x2) else none) (fun _ => rfl) (Sim.grd fun _ => Sim.shift 2 (G := (fun _ => some (some (vi 1), 38, sto m 16 x1 x2))) (fun _ => rfl) (Sim.pur _ _))))))))))
def f_schedule_b18 (m : OMem) : Option (Int × OMem) := some ((-1), m)
set_option maxRecDepth 65536 in
set_option maxHeartbeats 16000000 in
theorem f_schedule_b18_ok (m : OMem) : Sim (f_schedule_b18 m) (fun (r, w0) _ => some (some (vi r), 38, w0)) (fun n => R n 25 18 [qn, qn] [] 38 m) :=
  Sim.shift 2 (G := (fun _ => some (some (vi (-1)), 38, m))) (fun _ => rfl) (Sim.pur _ _)
def f_schedule (x1 : Int) (m : OMem) : Option (Int × OMem) := (f_validPod x1 m).bind fun r_69 => (if r_69 = 0 then (f_schedule_b18 m) else (if 0 ≤ x1 ∧ x1 < 16 then (if m 7 x1 = 1 then ((f_attempt x1 m).bind fun (r_70, m_71) => (some (r_70, m_71))) else (f_schedule_b18 m)) else none))
set_option maxRecDepth 65536 in
set_option maxHeartbeats 16000000 in
theorem f_schedule_ok (x1 : Int) (m : OMem) : Sim (f_schedule x1 m) (fun (r, w0) _ => some (some (vi r), 38, w0)) (fun n => R n 25 0 [qr 0, qi x1] [] 38 m) :=
  Sim.shift 3 (G := fun n => (R n 3 0 [qr 0, qi x1] [] 38 m).bind fun y => Rr n 25 5 [qr 0, qi x1] [] y) (fun _ => rfl) (Sim.call (f_validPod_ok 38 x1 m) (fun _ _ => rfl) (runP_mono _ _ _ _ _ _) (fun _ => runP_mono _ _ _ _ _ _) (fun r_69 => Sim.shift 0 (G := fun n => R n 25 5 [qr 0, qi x1] [vi r_69] 38 m) (fun _ => rfl) (Sim.shift 1 (G := fun n => if r_69 = 0 then R n 25 18 [qr 0, qi x1] [] 38 m else R n 25 8 [qr 0, qi x1] [] 38 m) (fun _ => rfl) (Sim.ite (fun _ => Sim.jmp (f_schedule_b18_ok m) rfl (fun _ => rfl)) (fun _ => Sim.shift 4 (G := fun n => if 0 ≤ x1 ∧ x1 < 16 then R n 25 14 [qr 0, qi x1] [vi (m 7 x1)] 38 m else none) (fun _ => rfl) (Sim.grd fun _ => Sim.shift 2 (G := fun n => if m 7 x1 = 1 then R n 25 20 [qr 0, qi x1] [] 38 m else R n 25 18 [qr 0, qi x1] [] 38 m) (fun _ => rfl) (Sim.ite (fun _ => Sim.shift 3 (G := fun n => (R n 16 0 [qr 0, qi x1, qn, qn] [] 38 m).bind fun y => Rr n 25 25 [qr 0, qi x1] [] y) (fun _ => rfl) (Sim.call (f_attempt_ok x1 m) (fun _ _ => rfl) (runP_mono _ _ _ _ _ _) (fun _ => runP_mono _ _ _ _ _ _) (fun ⟨r_70, m_71⟩ => Sim.shift 0 (G := fun n => R n 25 25 [qr 0, qi x1] [vi r_70] 38 m_71) (fun _ => rfl) (Sim.shift 1 (G := (fun _ => some (some (vi r_70), 38, m_71))) (fun _ => rfl) (Sim.pur _ _))))) (fun _ => Sim.jmp (f_schedule_b18_ok m) rfl (fun _ => rfl)))))))))
def f_podNode_b18 (m : OMem) : Option (Int) := some (-1)
set_option maxRecDepth 65536 in
set_option maxHeartbeats 16000000 in
theorem f_podNode_b18_ok (m : OMem) : Sim (f_podNode_b18 m) (fun r _ => some (some (vi r), 38, m)) (fun n => R n 29 18 [qn, qn] [] 38 m) :=
  Sim.shift 2 (G := (fun _ => some (some (vi (-1)), 38, m))) (fun _ => rfl) (Sim.pur _ _)
def f_podNode (x1 : Int) (m : OMem) : Option (Int) := (f_validPod x1 m).bind fun r_72 => (if r_72 = 0 then (f_podNode_b18 m) else (if 0 ≤ x1 ∧ x1 < 16 then (if m 7 x1 = 2 then (if 0 ≤ x1 ∧ x1 < 16 then (some (m 8 x1)) else none) else (f_podNode_b18 m)) else none))
set_option maxRecDepth 65536 in
set_option maxHeartbeats 16000000 in
theorem f_podNode_ok (x1 : Int) (m : OMem) : Sim (f_podNode x1 m) (fun r _ => some (some (vi r), 38, m)) (fun n => R n 29 0 [qr 0, qi x1] [] 38 m) :=
  Sim.shift 3 (G := fun n => (R n 3 0 [qr 0, qi x1] [] 38 m).bind fun y => Rr n 29 5 [qr 0, qi x1] [] y) (fun _ => rfl) (Sim.call (f_validPod_ok 38 x1 m) (fun _ _ => rfl) (runP_mono _ _ _ _ _ _) (fun _ => runP_mono _ _ _ _ _ _) (fun r_72 => Sim.shift 0 (G := fun n => R n 29 5 [qr 0, qi x1] [vi r_72] 38 m) (fun _ => rfl) (Sim.shift 1 (G := fun n => if r_72 = 0 then R n 29 18 [qr 0, qi x1] [] 38 m else R n 29 8 [qr 0, qi x1] [] 38 m) (fun _ => rfl) (Sim.ite (fun _ => Sim.jmp (f_podNode_b18_ok m) rfl (fun _ => rfl)) (fun _ => Sim.shift 4 (G := fun n => if 0 ≤ x1 ∧ x1 < 16 then R n 29 14 [qr 0, qi x1] [vi (m 7 x1)] 38 m else none) (fun _ => rfl) (Sim.grd fun _ => Sim.shift 2 (G := fun n => if m 7 x1 = 2 then R n 29 20 [qr 0, qi x1] [] 38 m else R n 29 18 [qr 0, qi x1] [] 38 m) (fun _ => rfl) (Sim.ite (fun _ => Sim.shift 4 (G := fun n => if 0 ≤ x1 ∧ x1 < 16 then R n 29 26 [qr 0, qi x1] [vi (m 8 x1)] 38 m else none) (fun _ => rfl) (Sim.grd fun _ => Sim.shift 1 (G := (fun _ => some (some (vi (m 8 x1)), 38, m))) (fun _ => rfl) (Sim.pur _ _))) (fun _ => Sim.jmp (f_podNode_b18_ok m) rfl (fun _ => rfl)))))))))
def lcd_0 : Nat → Option (Instr × Nat) := fun pc => cond (Nat.blt pc 580) (cond (Nat.blt pc 265) (cond (Nat.blt pc 120) (cond (Nat.blt pc 51) (cond (Nat.blt pc 28) (cond (Nat.blt pc 15) (cond (Nat.blt pc 10) (cond (Nat.blt pc 4) (cond (Nat.blt pc 3) (cond (Nat.beq pc 0) (some (.new 7, 3)) none) (cond (Nat.beq pc 3) (some (.dup, 1)) none)) (cond (Nat.blt pc 5) (cond (Nat.beq pc 4) (some (.iconst 4, 1)) none) (cond (Nat.blt pc 7) (cond (Nat.beq pc 5) (some (.bipush 8, 2)) none) (cond (Nat.beq pc 7) (some (.invokespecial 9, 3)) none)))) (cond (Nat.blt pc 12) (cond (Nat.blt pc 11) (cond (Nat.beq pc 10) (some (.astore_n 1, 1)) none) (cond (Nat.beq pc 11) (some (.iconst 0, 1)) none)) (cond (Nat.blt pc 13) (cond (Nat.beq pc 12) (some (.istore_n 2, 1)) none) (cond (Nat.blt pc 14) (cond (Nat.beq pc 13) (some (.iload_n 2, 1)) none) (cond (Nat.beq pc 14) (some (.iconst 4, 1)) none))))) (cond (Nat.blt pc 22) (cond (Nat.blt pc 17) (cond (Nat.blt pc 16) (cond (Nat.beq pc 15) (some (.iadd, 1)) none) (cond (Nat.beq pc 16) (some (.aload_n 0, 1)) none)) (cond (Nat.blt pc 18) (cond (Nat.beq pc 17) (some (.arraylength, 1)) none) (cond (Nat.blt pc 21) (cond (Nat.beq pc 18) (some (.if_icmp .ge 560, 3)) none) (cond (Nat.beq pc 21) (some (.aload_n 0, 1)) none)))) (cond (Nat.blt pc 24) (cond (Nat.blt pc 23) (cond (Nat.beq pc 22) (some (.iload_n 2, 1)) none) (cond (Nat.beq pc 23) (some (.iaload, 1)) none)) (cond (Nat.blt pc 26) (cond (Nat.beq pc 24) (some (.bipush 7, 2)) none) (cond (Nat.blt pc 27) (cond (Nat.beq pc 26) (some (.iand, 1)) none) (cond (Nat.beq pc 27) (some (.istore_n 3, 1)) none)))))) (cond (Nat.blt pc 39) (cond (Nat.blt pc 33) (cond (Nat.blt pc 30) (cond (Nat.blt pc 29) (cond (Nat.beq pc 28) (some (.aload_n 0, 1)) none) (cond (Nat.beq pc 29) (some (.iload_n 2, 1)) none)) (cond (Nat.blt pc 31) (cond (Nat.beq pc 30) (some (.iconst 1, 1)) none) (cond (Nat.blt pc 32) (cond (Nat.beq pc 31) (some (.iadd, 1)) none) (cond (Nat.beq pc 32) (some (.iaload, 1)) none)))) (cond (Nat.blt pc 36) (cond (Nat.blt pc 35) (cond (Nat.beq pc 33) (some (.istore 4, 2)) none) (cond (Nat.beq pc 35) (some (.aload_n 0, 1)) none)) (cond (Nat.blt pc 37) (cond (Nat.beq pc 36) (some (.iload_n 2, 1)) none) (cond (Nat.blt pc 38) (cond (Nat.beq pc 37) (some (.iconst 2, 1)) none) (cond (Nat.beq pc 38) (some (.iadd, 1)) none))))) (cond (Nat.blt pc 45) (cond (Nat.blt pc 42) (cond (Nat.blt pc 40) (cond (Nat.beq pc 39) (some (.iaload, 1)) none) (cond (Nat.beq pc 40) (some (.istore 5, 2)) none)) (cond (Nat.blt pc 43) (cond (Nat.beq pc 42) (some (.aload_n 0, 1)) none) (cond (Nat.blt pc 44) (cond (Nat.beq pc 43) (some (.iload_n 2, 1)) none) (cond (Nat.beq pc 44) (some (.iconst 3, 1)) none)))) (cond (Nat.blt pc 47) (cond (Nat.blt pc 46) (cond (Nat.beq pc 45) (some (.iadd, 1)) none) (cond (Nat.beq pc 46) (some (.iaload, 1)) none)) (cond (Nat.blt pc 49) (cond (Nat.beq pc 47) (some (.istore 6, 2)) none) (cond (Nat.blt pc 50) (cond (Nat.beq pc 49) (some (.aload_n 0, 1)) none) (cond (Nat.beq pc 50) (some (.iload_n 2, 1)) none))))))) (cond (Nat.blt pc 85) (cond (Nat.blt pc 66) (cond (Nat.blt pc 57) (cond (Nat.blt pc 53) (cond (Nat.blt pc 52) (cond (Nat.beq pc 51) (some (.iconst 4, 1)) none) (cond (Nat.beq pc 52) (some (.iadd, 1)) none)) (cond (Nat.blt pc 54) (cond (Nat.beq pc 53) (some (.iaload, 1)) none) (cond (Nat.blt pc 56) (cond (Nat.beq pc 54) (some (.istore 7, 2)) none) (cond (Nat.beq pc 56) (some (.iload_n 3, 1)) none)))) (cond (Nat.blt pc 61) (cond (Nat.blt pc 60) (cond (Nat.beq pc 57) (some (.ifCond .ne 32, 3)) none) (cond (Nat.beq pc 60) (some (.aload_n 1, 1)) none)) (cond (Nat.blt pc 63) (cond (Nat.beq pc 61) (some (.iload 4, 2)) none) (cond (Nat.blt pc 65) (cond (Nat.beq pc 63) (some (.bipush 63, 2)) none) (cond (Nat.beq pc 65) (some (.iand, 1)) none))))) (cond (Nat.blt pc 75) (cond (Nat.blt pc 70) (cond (Nat.blt pc 68) (cond (Nat.beq pc 66) (some (.iload 5, 2)) none) (cond (Nat.beq pc 68) (some (.bipush 63, 2)) none)) (cond (Nat.blt pc 71) (cond (Nat.beq pc 70) (some (.iand, 1)) none) (cond (Nat.blt pc 73) (cond (Nat.beq pc 71) (some (.iload 6, 2)) none) (cond (Nat.beq pc 73) (some (.bipush 7, 2)) none)))) (cond (Nat.blt pc 78) (cond (Nat.blt pc 76) (cond (Nat.beq pc 75) (some (.iand, 1)) none) (cond (Nat.beq pc 76) (some (.iload 7, 2)) none)) (cond (Nat.blt pc 81) (cond (Nat.beq pc 78) (some (.sipush 511, 3)) none) (cond (Nat.blt pc 82) (cond (Nat.beq pc 81) (some (.iand, 1)) none) (cond (Nat.beq pc 82) (some (.invokevirtual 12, 3)) none)))))) (cond (Nat.blt pc 103) (cond (Nat.blt pc 94) (cond (Nat.blt pc 89) (cond (Nat.blt pc 86) (cond (Nat.beq pc 85) (some (.pop, 1)) none) (cond (Nat.beq pc 86) (some (.goto 486, 3)) none)) (cond (Nat.blt pc 90) (cond (Nat.beq pc 89) (some (.iload_n 3, 1)) none) (cond (Nat.blt pc 91) (cond (Nat.beq pc 90) (some (.iconst 1, 1)) none) (cond (Nat.beq pc 91) (some (.if_icmp .ne 16, 3)) none)))) (cond (Nat.blt pc 97) (cond (Nat.blt pc 95) (cond (Nat.beq pc 94) (some (.aload_n 1, 1)) none) (cond (Nat.beq pc 95) (some (.iload 4, 2)) none)) (cond (Nat.blt pc 99) (cond (Nat.beq pc 97) (some (.bipush 7, 2)) none) (cond (Nat.blt pc 100) (cond (Nat.beq pc 99) (some (.iand, 1)) none) (cond (Nat.beq pc 100) (some (.invokevirtual 16, 3)) none))))) (cond (Nat.blt pc 112) (cond (Nat.blt pc 107) (cond (Nat.blt pc 104) (cond (Nat.beq pc 103) (some (.pop, 1)) none) (cond (Nat.beq pc 104) (some (.goto 468, 3)) none)) (cond (Nat.blt pc 108) (cond (Nat.beq pc 107) (some (.iload_n 3, 1)) none) (cond (Nat.blt pc 109) (cond (Nat.beq pc 108) (some (.iconst 2, 1)) none) (cond (Nat.beq pc 109) (some (.if_icmp .ne 42, 3)) none)))) (cond (Nat.blt pc 115) (cond (Nat.blt pc 113) (cond (Nat.beq pc 112) (some (.aload_n 1, 1)) none) (cond (Nat.beq pc 113) (some (.iload 4, 2)) none)) (cond (Nat.blt pc 117) (cond (Nat.beq pc 115) (some (.bipush 15, 2)) none) (cond (Nat.blt pc 118) (cond (Nat.beq pc 117) (some (.iand, 1)) none) (cond (Nat.beq pc 118) (some (.iload 5, 2)) none)))))))) (cond (Nat.blt pc 187) (cond (Nat.blt pc 152) (cond (Nat.blt pc 137) (cond (Nat.blt pc 128) (cond (Nat.blt pc 123) (cond (Nat.blt pc 122) (cond (Nat.beq pc 120) (some (.bipush 15, 2)) none) (cond (Nat.beq pc 122) (some (.iand, 1)) none)) (cond (Nat.blt pc 125) (cond (Nat.beq pc 123) (some (.iload 6, 2)) none) (cond (Nat.blt pc 127) (cond (Nat.beq pc 125) (some (.bipush 7, 2)) none) (cond (Nat.beq pc 127) (some (.iand, 1)) none)))) (cond (Nat.blt pc 133) (cond (Nat.blt pc 130) (cond (Nat.beq pc 128) (some (.iload 7, 2)) none) (cond (Nat.beq pc 130) (some (.sipush 259, 3)) none)) (cond (Nat.blt pc 134) (cond (Nat.beq pc 133) (some (.iand, 1)) none) (cond (Nat.blt pc 136) (cond (Nat.beq pc 134) (some (.iload 7, 2)) none) (cond (Nat.beq pc 136) (some (.iconst 4, 1)) none))))) (cond (Nat.blt pc 143) (cond (Nat.blt pc 139) (cond (Nat.blt pc 138) (cond (Nat.beq pc 137) (some (.ishr, 1)) none) (cond (Nat.beq pc 138) (some (.iconst 3, 1)) none)) (cond (Nat.blt pc 140) (cond (Nat.beq pc 139) (some (.iand, 1)) none) (cond (Nat.blt pc 142) (cond (Nat.beq pc 140) (some (.bipush 16, 2)) none) (cond (Nat.beq pc 142) (some (.ishl, 1)) none)))) (cond (Nat.blt pc 147) (cond (Nat.blt pc 144) (cond (Nat.beq pc 143) (some (.ior, 1)) none) (cond (Nat.beq pc 144) (some (.invokevirtual 20, 3)) none)) (cond (Nat.blt pc 148) (cond (Nat.beq pc 147) (some (.pop, 1)) none) (cond (Nat.blt pc 151) (cond (Nat.beq pc 148) (some (.goto 424, 3)) none) (cond (Nat.beq pc 151) (some (.iload_n 3, 1)) none)))))) (cond (Nat.blt pc 170) (cond (Nat.blt pc 161) (cond (Nat.blt pc 156) (cond (Nat.blt pc 153) (cond (Nat.beq pc 152) (some (.iconst 3, 1)) none) (cond (Nat.beq pc 153) (some (.if_icmp .ne 16, 3)) none)) (cond (Nat.blt pc 157) (cond (Nat.beq pc 156) (some (.aload_n 1, 1)) none) (cond (Nat.blt pc 159) (cond (Nat.beq pc 157) (some (.iload 4, 2)) none) (cond (Nat.beq pc 159) (some (.bipush 15, 2)) none)))) (cond (Nat.blt pc 165) (cond (Nat.blt pc 162) (cond (Nat.beq pc 161) (some (.iand, 1)) none) (cond (Nat.beq pc 162) (some (.invokevirtual 23, 3)) none)) (cond (Nat.blt pc 166) (cond (Nat.beq pc 165) (some (.pop, 1)) none) (cond (Nat.blt pc 169) (cond (Nat.beq pc 166) (some (.goto 406, 3)) none) (cond (Nat.beq pc 169) (some (.iload_n 3, 1)) none))))) (cond (Nat.blt pc 179) (cond (Nat.blt pc 174) (cond (Nat.blt pc 171) (cond (Nat.beq pc 170) (some (.iconst 4, 1)) none) (cond (Nat.beq pc 171) (some (.if_icmp .ne 20, 3)) none)) (cond (Nat.blt pc 175) (cond (Nat.beq pc 174) (some (.aload_n 1, 1)) none) (cond (Nat.blt pc 177) (cond (Nat.beq pc 175) (some (.iload 4, 2)) none) (cond (Nat.beq pc 177) (some (.bipush 15, 2)) none)))) (cond (Nat.blt pc 182) (cond (Nat.blt pc 180) (cond (Nat.beq pc 179) (some (.iand, 1)) none) (cond (Nat.beq pc 180) (some (.iload 5, 2)) none)) (cond (Nat.blt pc 183) (cond (Nat.beq pc 182) (some (.iconst 3, 1)) none) (cond (Nat.blt pc 184) (cond (Nat.beq pc 183) (some (.iand, 1)) none) (cond (Nat.beq pc 184) (some (.invokevirtual 27, 3)) none))))))) (cond (Nat.blt pc 226) (cond (Nat.blt pc 205) (cond (Nat.blt pc 196) (cond (Nat.blt pc 191) (cond (Nat.blt pc 188) (cond (Nat.beq pc 187) (some (.pop, 1)) none) (cond (Nat.beq pc 188) (some (.goto 384, 3)) none)) (cond (Nat.blt pc 193) (cond (Nat.beq pc 191) (some (.iload 4, 2)) none) (cond (Nat.blt pc 195) (cond (Nat.beq pc 193) (some (.bipush 15, 2)) none) (cond (Nat.beq pc 195) (some (.iand, 1)) none)))) (cond (Nat.blt pc 199) (cond (Nat.blt pc 198) (cond (Nat.beq pc 196) (some (.istore 8, 2)) none) (cond (Nat.beq pc 198) (some (.iload_n 3, 1)) none)) (cond (Nat.blt pc 201) (cond (Nat.beq pc 199) (some (.bipush 6, 2)) none) (cond (Nat.blt pc 204) (cond (Nat.beq pc 201) (some (.if_icmp .lt 35, 3)) none) (cond (Nat.beq pc 204) (some (.iconst (-1), 1)) none))))) (cond (Nat.blt pc 214) (cond (Nat.blt pc 208) (cond (Nat.blt pc 207) (cond (Nat.beq pc 205) (some (.istore 8, 2)) none) (cond (Nat.beq pc 207) (some (.iconst 0, 1)) none)) (cond (Nat.blt pc 210) (cond (Nat.beq pc 208) (some (.istore 9, 2)) none) (cond (Nat.blt pc 212) (cond (Nat.beq pc 210) (some (.iload 9, 2)) none) (cond (Nat.beq pc 212) (some (.bipush 8, 2)) none)))) (cond (Nat.blt pc 218) (cond (Nat.blt pc 217) (cond (Nat.beq pc 214) (some (.if_icmp .ge 22, 3)) none) (cond (Nat.beq pc 217) (some (.aload_n 1, 1)) none)) (cond (Nat.blt pc 220) (cond (Nat.beq pc 218) (some (.iload 9, 2)) none) (cond (Nat.blt pc 223) (cond (Nat.beq pc 220) (some (.invokevirtual 31, 3)) none) (cond (Nat.beq pc 223) (some (.ifCond .ne 7, 3)) none)))))) (cond (Nat.blt pc 247) (cond (Nat.blt pc 237) (cond (Nat.blt pc 230) (cond (Nat.blt pc 228) (cond (Nat.beq pc 226) (some (.iload 9, 2)) none) (cond (Nat.beq pc 228) (some (.istore 8, 2)) none)) (cond (Nat.blt pc 233) (cond (Nat.beq pc 230) (some (.iinc 9 1, 3)) none) (cond (Nat.blt pc 236) (cond (Nat.beq pc 233) (some (.goto (-23), 3)) none) (cond (Nat.beq pc 236) (some (.aload_n 1, 1)) none)))) (cond (Nat.blt pc 242) (cond (Nat.blt pc 239) (cond (Nat.beq pc 237) (some (.iload 8, 2)) none) (cond (Nat.beq pc 239) (some (.invokevirtual 34, 3)) none)) (cond (Nat.blt pc 243) (cond (Nat.beq pc 242) (some (.iconst 1, 1)) none) (cond (Nat.blt pc 246) (cond (Nat.beq pc 243) (some (.if_icmp .ne 7, 3)) none) (cond (Nat.beq pc 246) (some (.iconst 1, 1)) none))))) (cond (Nat.blt pc 256) (cond (Nat.blt pc 251) (cond (Nat.blt pc 250) (cond (Nat.beq pc 247) (some (.goto 4, 3)) none) (cond (Nat.beq pc 250) (some (.iconst 0, 1)) none)) (cond (Nat.blt pc 253) (cond (Nat.beq pc 251) (some (.istore 9, 2)) none) (cond (Nat.blt pc 254) (cond (Nat.beq pc 253) (some (.iconst (-1), 1)) none) (cond (Nat.beq pc 254) (some (.istore 10, 2)) none)))) (cond (Nat.blt pc 260) (cond (Nat.blt pc 257) (cond (Nat.beq pc 256) (some (.iconst (-1), 1)) none) (cond (Nat.blt pc 259) (cond (Nat.beq pc 257) (some (.istore 11, 2)) none) (cond (Nat.beq pc 259) (some (.iconst 0, 1)) none))) (cond (Nat.blt pc 262) (cond (Nat.beq pc 260) (some (.istore 12, 2)) none) (cond (Nat.blt pc 264) (cond (Nat.beq pc 262) (some (.iload 12, 2)) none) (cond (Nat.beq pc 264) (some (.iconst 4, 1)) none))))))))) (cond (Nat.blt pc 430) (cond (Nat.blt pc 348) (cond (Nat.blt pc 309) (cond (Nat.blt pc 287) (cond (Nat.blt pc 276) (cond (Nat.blt pc 269) (cond (Nat.blt pc 268) (cond (Nat.beq pc 265) (some (.if_icmp .ge 34, 3)) none) (cond (Nat.beq pc 268) (some (.aload_n 1, 1)) none)) (cond (Nat.blt pc 271) (cond (Nat.beq pc 269) (some (.iload 8, 2)) none) (cond (Nat.blt pc 273) (cond (Nat.beq pc 271) (some (.iload 12, 2)) none) (cond (Nat.beq pc 273) (some (.invokevirtual 37, 3)) none)))) (cond (Nat.blt pc 280) (cond (Nat.blt pc 278) (cond (Nat.beq pc 276) (some (.istore 13, 2)) none) (cond (Nat.beq pc 278) (some (.iload 13, 2)) none)) (cond (Nat.blt pc 282) (cond (Nat.beq pc 280) (some (.iload 11, 2)) none) (cond (Nat.blt pc 285) (cond (Nat.beq pc 282) (some (.if_icmp .le 11, 3)) none) (cond (Nat.beq pc 285) (some (.iload 13, 2)) none))))) (cond (Nat.blt pc 299) (cond (Nat.blt pc 291) (cond (Nat.blt pc 289) (cond (Nat.beq pc 287) (some (.istore 11, 2)) none) (cond (Nat.beq pc 289) (some (.iload 12, 2)) none)) (cond (Nat.blt pc 293) (cond (Nat.beq pc 291) (some (.istore 10, 2)) none) (cond (Nat.blt pc 296) (cond (Nat.beq pc 293) (some (.iinc 12 1, 3)) none) (cond (Nat.beq pc 296) (some (.goto (-34), 3)) none)))) (cond (Nat.blt pc 303) (cond (Nat.blt pc 300) (cond (Nat.beq pc 299) (some (.aload_n 1, 1)) none) (cond (Nat.beq pc 300) (some (.invokestatic 41, 3)) none)) (cond (Nat.blt pc 305) (cond (Nat.beq pc 303) (some (.lstore 12, 2)) none) (cond (Nat.blt pc 306) (cond (Nat.beq pc 305) (some (.aload_n 1, 1)) none) (cond (Nat.beq pc 306) (some (.invokevirtual 47, 3)) none)))))) (cond (Nat.blt pc 328) (cond (Nat.blt pc 317) (cond (Nat.blt pc 312) (cond (Nat.blt pc 311) (cond (Nat.beq pc 309) (some (.istore 14, 2)) none) (cond (Nat.beq pc 311) (some (.iload_n 3, 1)) none)) (cond (Nat.blt pc 313) (cond (Nat.beq pc 312) (some (.iconst 5, 1)) none) (cond (Nat.blt pc 316) (cond (Nat.beq pc 313) (some (.if_icmp .ne 14, 3)) none) (cond (Nat.beq pc 316) (some (.aload_n 1, 1)) none)))) (cond (Nat.blt pc 322) (cond (Nat.blt pc 319) (cond (Nat.beq pc 317) (some (.iload 8, 2)) none) (cond (Nat.beq pc 319) (some (.invokevirtual 51, 3)) none)) (cond (Nat.blt pc 324) (cond (Nat.beq pc 322) (some (.istore 15, 2)) none) (cond (Nat.blt pc 327) (cond (Nat.beq pc 324) (some (.goto 33, 3)) none) (cond (Nat.beq pc 327) (some (.aload_n 1, 1)) none))))) (cond (Nat.blt pc 340) (cond (Nat.blt pc 333) (cond (Nat.blt pc 331) (cond (Nat.beq pc 328) (some (.invokevirtual 54, 3)) none) (cond (Nat.beq pc 331) (some (.istore 16, 2)) none)) (cond (Nat.blt pc 335) (cond (Nat.beq pc 333) (some (.iload 16, 2)) none) (cond (Nat.blt pc 337) (cond (Nat.beq pc 335) (some (.iload 8, 2)) none) (cond (Nat.beq pc 337) (some (.if_icmp .eq 5, 3)) none)))) (cond (Nat.blt pc 342) (cond (Nat.blt pc 341) (cond (Nat.beq pc 340) (some (.iconst 0, 1)) none) (cond (Nat.beq pc 341) (some (.ireturn, 1)) none)) (cond (Nat.blt pc 344) (cond (Nat.beq pc 342) (some (.iload 16, 2)) none) (cond (Nat.blt pc 347) (cond (Nat.beq pc 344) (some (.ifCond .ge 7, 3)) none) (cond (Nat.beq pc 347) (some (.iconst (-1), 1)) none))))))) (cond (Nat.blt pc 389) (cond (Nat.blt pc 370) (cond (Nat.blt pc 358) (cond (Nat.blt pc 352) (cond (Nat.blt pc 351) (cond (Nat.beq pc 348) (some (.goto 7, 3)) none) (cond (Nat.beq pc 351) (some (.aload_n 1, 1)) none)) (cond (Nat.blt pc 355) (cond (Nat.beq pc 352) (some (.invokevirtual 47, 3)) none) (cond (Nat.blt pc 357) (cond (Nat.beq pc 355) (some (.istore 15, 2)) none) (cond (Nat.beq pc 357) (some (.aload_n 1, 1)) none)))) (cond (Nat.blt pc 363) (cond (Nat.blt pc 361) (cond (Nat.beq pc 358) (some (.invokestatic 41, 3)) none) (cond (Nat.beq pc 361) (some (.lstore 16, 2)) none)) (cond (Nat.blt pc 365) (cond (Nat.beq pc 363) (some (.iload 9, 2)) none) (cond (Nat.blt pc 368) (cond (Nat.beq pc 365) (some (.ifCond .eq 16, 3)) none) (cond (Nat.beq pc 368) (some (.iload 15, 2)) none))))) (cond (Nat.blt pc 380) (cond (Nat.blt pc 375) (cond (Nat.blt pc 373) (cond (Nat.beq pc 370) (some (.ifCond .lt 9, 3)) none) (cond (Nat.beq pc 373) (some (.iload 15, 2)) none)) (cond (Nat.blt pc 376) (cond (Nat.beq pc 375) (some (.iconst 2, 1)) none) (cond (Nat.blt pc 379) (cond (Nat.beq pc 376) (some (.if_icmp .le 5, 3)) none) (cond (Nat.beq pc 379) (some (.iconst 0, 1)) none)))) (cond (Nat.blt pc 383) (cond (Nat.blt pc 381) (cond (Nat.beq pc 380) (some (.ireturn, 1)) none) (cond (Nat.beq pc 381) (some (.iload 9, 2)) none)) (cond (Nat.blt pc 386) (cond (Nat.beq pc 383) (some (.ifCond .ne 28, 3)) none) (cond (Nat.blt pc 388) (cond (Nat.beq pc 386) (some (.iload 15, 2)) none) (cond (Nat.beq pc 388) (some (.iconst (-1), 1)) none)))))) (cond (Nat.blt pc 410) (cond (Nat.blt pc 400) (cond (Nat.blt pc 394) (cond (Nat.blt pc 392) (cond (Nat.beq pc 389) (some (.if_icmp .ne 20, 3)) none) (cond (Nat.beq pc 392) (some (.lload 16, 2)) none)) (cond (Nat.blt pc 396) (cond (Nat.beq pc 394) (some (.lload 12, 2)) none) (cond (Nat.blt pc 397) (cond (Nat.beq pc 396) (some (.lcmp, 1)) none) (cond (Nat.beq pc 397) (some (.ifCond .ne 12, 3)) none)))) (cond (Nat.blt pc 404) (cond (Nat.blt pc 401) (cond (Nat.beq pc 400) (some (.aload_n 1, 1)) none) (cond (Nat.beq pc 401) (some (.invokevirtual 47, 3)) none)) (cond (Nat.blt pc 406) (cond (Nat.beq pc 404) (some (.iload 14, 2)) none) (cond (Nat.blt pc 409) (cond (Nat.beq pc 406) (some (.if_icmp .eq 166, 3)) none) (cond (Nat.beq pc 409) (some (.iconst 0, 1)) none))))) (cond (Nat.blt pc 419) (cond (Nat.blt pc 413) (cond (Nat.blt pc 411) (cond (Nat.beq pc 410) (some (.ireturn, 1)) none) (cond (Nat.beq pc 411) (some (.iload 10, 2)) none)) (cond (Nat.blt pc 416) (cond (Nat.beq pc 413) (some (.ifCond .lt 126, 3)) none) (cond (Nat.blt pc 418) (cond (Nat.beq pc 416) (some (.iload 15, 2)) none) (cond (Nat.beq pc 418) (some (.iconst 1, 1)) none)))) (cond (Nat.blt pc 423) (cond (Nat.blt pc 422) (cond (Nat.beq pc 419) (some (.if_icmp .ne 14, 3)) none) (cond (Nat.beq pc 422) (some (.aload_n 1, 1)) none)) (cond (Nat.blt pc 425) (cond (Nat.beq pc 423) (some (.iload 8, 2)) none) (cond (Nat.blt pc 428) (cond (Nat.beq pc 425) (some (.invokevirtual 57, 3)) none) (cond (Nat.beq pc 428) (some (.iload 10, 2)) none)))))))) (cond (Nat.blt pc 503) (cond (Nat.blt pc 465) (cond (Nat.blt pc 448) (cond (Nat.blt pc 438) (cond (Nat.blt pc 434) (cond (Nat.blt pc 433) (cond (Nat.beq pc 430) (some (.if_icmp .eq 5, 3)) none) (cond (Nat.beq pc 433) (some (.iconst 0, 1)) none)) (cond (Nat.blt pc 435) (cond (Nat.beq pc 434) (some (.ireturn, 1)) none) (cond (Nat.blt pc 436) (cond (Nat.beq pc 435) (some (.iconst 0, 1)) none) (cond (Nat.beq pc 436) (some (.istore 18, 2)) none)))) (cond (Nat.blt pc 441) (cond (Nat.blt pc 440) (cond (Nat.beq pc 438) (some (.iload 18, 2)) none) (cond (Nat.beq pc 440) (some (.iconst 4, 1)) none)) (cond (Nat.blt pc 444) (cond (Nat.beq pc 441) (some (.if_icmp .ge 95, 3)) none) (cond (Nat.blt pc 446) (cond (Nat.beq pc 444) (some (.lload 12, 2)) none) (cond (Nat.beq pc 446) (some (.bipush 11, 2)) none))))) (cond (Nat.blt pc 456) (cond (Nat.blt pc 451) (cond (Nat.blt pc 450) (cond (Nat.beq pc 448) (some (.iload 18, 2)) none) (cond (Nat.beq pc 450) (some (.imul, 1)) none)) (cond (Nat.blt pc 452) (cond (Nat.beq pc 451) (some (.lshr, 1)) none) (cond (Nat.blt pc 455) (cond (Nat.beq pc 452) (some (.ldc2_w 60, 3)) none) (cond (Nat.beq pc 455) (some (.land, 1)) none)))) (cond (Nat.blt pc 460) (cond (Nat.blt pc 458) (cond (Nat.beq pc 456) (some (.lstore 19, 2)) none) (cond (Nat.beq pc 458) (some (.lload 16, 2)) none)) (cond (Nat.blt pc 462) (cond (Nat.beq pc 460) (some (.bipush 11, 2)) none) (cond (Nat.blt pc 464) (cond (Nat.beq pc 462) (some (.iload 18, 2)) none) (cond (Nat.beq pc 464) (some (.imul, 1)) none)))))) (cond (Nat.blt pc 484) (cond (Nat.blt pc 474) (cond (Nat.blt pc 469) (cond (Nat.blt pc 466) (cond (Nat.beq pc 465) (some (.lshr, 1)) none) (cond (Nat.beq pc 466) (some (.ldc2_w 60, 3)) none)) (cond (Nat.blt pc 470) (cond (Nat.beq pc 469) (some (.land, 1)) none) (cond (Nat.blt pc 472) (cond (Nat.beq pc 470) (some (.lstore 21, 2)) none) (cond (Nat.beq pc 472) (some (.iload 18, 2)) none)))) (cond (Nat.blt pc 479) (cond (Nat.blt pc 476) (cond (Nat.beq pc 474) (some (.iload 10, 2)) none) (cond (Nat.beq pc 476) (some (.if_icmp .eq 13, 3)) none)) (cond (Nat.blt pc 481) (cond (Nat.beq pc 479) (some (.lload 21, 2)) none) (cond (Nat.blt pc 483) (cond (Nat.beq pc 481) (some (.lload 19, 2)) none) (cond (Nat.beq pc 483) (some (.lcmp, 1)) none))))) (cond (Nat.blt pc 493) (cond (Nat.blt pc 488) (cond (Nat.blt pc 487) (cond (Nat.beq pc 484) (some (.ifCond .eq 5, 3)) none) (cond (Nat.beq pc 487) (some (.iconst 0, 1)) none)) (cond (Nat.blt pc 489) (cond (Nat.beq pc 488) (some (.ireturn, 1)) none) (cond (Nat.blt pc 491) (cond (Nat.beq pc 489) (some (.iload 18, 2)) none) (cond (Nat.beq pc 491) (some (.iload 10, 2)) none)))) (cond (Nat.blt pc 498) (cond (Nat.blt pc 496) (cond (Nat.beq pc 493) (some (.if_icmp .ne 37, 3)) none) (cond (Nat.beq pc 496) (some (.lload 21, 2)) none)) (cond (Nat.blt pc 500) (cond (Nat.beq pc 498) (some (.bipush 7, 2)) none) (cond (Nat.blt pc 501) (cond (Nat.beq pc 500) (some (.lshr, 1)) none) (cond (Nat.beq pc 501) (some (.lload 19, 2)) none))))))) (cond (Nat.blt pc 541) (cond (Nat.blt pc 520) (cond (Nat.blt pc 509) (cond (Nat.blt pc 506) (cond (Nat.blt pc 505) (cond (Nat.beq pc 503) (some (.bipush 7, 2)) none) (cond (Nat.beq pc 505) (some (.lshr, 1)) none)) (cond (Nat.blt pc 507) (cond (Nat.beq pc 506) (some (.lconst 1, 1)) none) (cond (Nat.blt pc 508) (cond (Nat.beq pc 507) (some (.ladd, 1)) none) (cond (Nat.beq pc 508) (some (.lcmp, 1)) none)))) (cond (Nat.blt pc 514) (cond (Nat.blt pc 512) (cond (Nat.beq pc 509) (some (.ifCond .ne 19, 3)) none) (cond (Nat.beq pc 512) (some (.lload 21, 2)) none)) (cond (Nat.blt pc 517) (cond (Nat.beq pc 514) (some (.ldc2_w 62, 3)) none) (cond (Nat.blt pc 518) (cond (Nat.beq pc 517) (some (.land, 1)) none) (cond (Nat.beq pc 518) (some (.lload 19, 2)) none))))) (cond (Nat.blt pc 529) (cond (Nat.blt pc 524) (cond (Nat.blt pc 523) (cond (Nat.beq pc 520) (some (.ldc2_w 62, 3)) none) (cond (Nat.beq pc 523) (some (.land, 1)) none)) (cond (Nat.blt pc 525) (cond (Nat.beq pc 524) (some (.lcmp, 1)) none) (cond (Nat.blt pc 528) (cond (Nat.beq pc 525) (some (.ifCond .gt 5, 3)) none) (cond (Nat.beq pc 528) (some (.iconst 0, 1)) none)))) (cond (Nat.blt pc 533) (cond (Nat.blt pc 530) (cond (Nat.beq pc 529) (some (.ireturn, 1)) none) (cond (Nat.beq pc 530) (some (.iinc 18 1, 3)) none)) (cond (Nat.blt pc 536) (cond (Nat.beq pc 533) (some (.goto (-95), 3)) none) (cond (Nat.blt pc 539) (cond (Nat.beq pc 536) (some (.goto 36, 3)) none) (cond (Nat.beq pc 539) (some (.iload 15, 2)) none)))))) (cond (Nat.blt pc 560) (cond (Nat.blt pc 549) (cond (Nat.blt pc 545) (cond (Nat.blt pc 542) (cond (Nat.beq pc 541) (some (.iconst 1, 1)) none) (cond (Nat.beq pc 542) (some (.if_icmp .ne 5, 3)) none)) (cond (Nat.blt pc 546) (cond (Nat.beq pc 545) (some (.iconst 0, 1)) none) (cond (Nat.blt pc 547) (cond (Nat.beq pc 546) (some (.ireturn, 1)) none) (cond (Nat.beq pc 547) (some (.iload 15, 2)) none)))) (cond (Nat.blt pc 554) (cond (Nat.blt pc 552) (cond (Nat.beq pc 549) (some (.ifCond .ne 23, 3)) none) (cond (Nat.beq pc 552) (some (.lload 16, 2)) none)) (cond (Nat.blt pc 556) (cond (Nat.beq pc 554) (some (.lload 12, 2)) none) (cond (Nat.blt pc 557) (cond (Nat.beq pc 556) (some (.lcmp, 1)) none) (cond (Nat.beq pc 557) (some (.ifCond .ne 13, 3)) none))))) (cond (Nat.blt pc 570) (cond (Nat.blt pc 563) (cond (Nat.blt pc 561) (cond (Nat.beq pc 560) (some (.aload_n 1, 1)) none) (cond (Nat.beq pc 561) (some (.iload 8, 2)) none)) (cond (Nat.blt pc 566) (cond (Nat.beq pc 563) (some (.invokevirtual 34, 3)) none) (cond (Nat.blt pc 567) (cond (Nat.beq pc 566) (some (.iconst 1, 1)) none) (cond (Nat.beq pc 567) (some (.if_icmp .eq 5, 3)) none)))) (cond (Nat.blt pc 575) (cond (Nat.blt pc 571) (cond (Nat.beq pc 570) (some (.iconst 0, 1)) none) (cond (Nat.blt pc 572) (cond (Nat.beq pc 571) (some (.ireturn, 1)) none) (cond (Nat.beq pc 572) (some (.iinc 2 5, 3)) none))) (cond (Nat.blt pc 578) (cond (Nat.beq pc 575) (some (.goto (-562), 3)) none) (cond (Nat.blt pc 579) (cond (Nat.beq pc 578) (some (.iconst 1, 1)) none) (cond (Nat.beq pc 579) (some (.ireturn, 1)) none)))))))))) none
def lcd_1 : Nat → Option (Instr × Nat) := fun pc => cond (Nat.blt pc 55) (cond (Nat.blt pc 26) (cond (Nat.blt pc 11) (cond (Nat.blt pc 4) (cond (Nat.blt pc 2) (cond (Nat.blt pc 1) (cond (Nat.beq pc 0) (some (.lconst 0, 1)) none) (cond (Nat.beq pc 1) (some (.lstore_n 1, 1)) none)) (cond (Nat.blt pc 3) (cond (Nat.beq pc 2) (some (.iconst 0, 1)) none) (cond (Nat.beq pc 3) (some (.istore_n 3, 1)) none))) (cond (Nat.blt pc 6) (cond (Nat.blt pc 5) (cond (Nat.beq pc 4) (some (.iload_n 3, 1)) none) (cond (Nat.beq pc 5) (some (.iconst 4, 1)) none)) (cond (Nat.blt pc 9) (cond (Nat.beq pc 6) (some (.if_icmp .ge 47, 3)) none) (cond (Nat.blt pc 10) (cond (Nat.beq pc 9) (some (.aload_n 0, 1)) none) (cond (Nat.beq pc 10) (some (.iload_n 3, 1)) none))))) (cond (Nat.blt pc 18) (cond (Nat.blt pc 15) (cond (Nat.blt pc 12) (cond (Nat.beq pc 11) (some (.iconst 0, 1)) none) (cond (Nat.beq pc 12) (some (.invokevirtual 64, 3)) none)) (cond (Nat.blt pc 16) (cond (Nat.beq pc 15) (some (.iconst 1, 1)) none) (cond (Nat.blt pc 17) (cond (Nat.beq pc 16) (some (.iadd, 1)) none) (cond (Nat.beq pc 17) (some (.i2l, 1)) none)))) (cond (Nat.blt pc 21) (cond (Nat.blt pc 20) (cond (Nat.beq pc 18) (some (.lstore 4, 2)) none) (cond (Nat.beq pc 20) (some (.aload_n 0, 1)) none)) (cond (Nat.blt pc 22) (cond (Nat.beq pc 21) (some (.iload_n 3, 1)) none) (cond (Nat.blt pc 23) (cond (Nat.beq pc 22) (some (.iconst 2, 1)) none) (cond (Nat.beq pc 23) (some (.invokevirtual 64, 3)) none)))))) (cond (Nat.blt pc 40) (cond (Nat.blt pc 32) (cond (Nat.blt pc 28) (cond (Nat.blt pc 27) (cond (Nat.beq pc 26) (some (.iconst 1, 1)) none) (cond (Nat.beq pc 27) (some (.iadd, 1)) none)) (cond (Nat.blt pc 29) (cond (Nat.beq pc 28) (some (.i2l, 1)) none) (cond (Nat.blt pc 31) (cond (Nat.beq pc 29) (some (.lstore 6, 2)) none) (cond (Nat.beq pc 31) (some (.lload_n 1, 1)) none)))) (cond (Nat.blt pc 36) (cond (Nat.blt pc 34) (cond (Nat.beq pc 32) (some (.lload 4, 2)) none) (cond (Nat.beq pc 34) (some (.lload 6, 2)) none)) (cond (Nat.blt pc 38) (cond (Nat.beq pc 36) (some (.bipush 7, 2)) none) (cond (Nat.blt pc 39) (cond (Nat.beq pc 38) (some (.lshl, 1)) none) (cond (Nat.beq pc 39) (some (.lor, 1)) none))))) (cond (Nat.blt pc 46) (cond (Nat.blt pc 43) (cond (Nat.blt pc 42) (cond (Nat.beq pc 40) (some (.bipush 11, 2)) none) (cond (Nat.beq pc 42) (some (.iload_n 3, 1)) none)) (cond (Nat.blt pc 44) (cond (Nat.beq pc 43) (some (.imul, 1)) none) (cond (Nat.blt pc 45) (cond (Nat.beq pc 44) (some (.lshl, 1)) none) (cond (Nat.beq pc 45) (some (.lor, 1)) none)))) (cond (Nat.blt pc 50) (cond (Nat.blt pc 47) (cond (Nat.beq pc 46) (some (.lstore_n 1, 1)) none) (cond (Nat.beq pc 47) (some (.iinc 3 1, 3)) none)) (cond (Nat.blt pc 53) (cond (Nat.beq pc 50) (some (.goto (-46), 3)) none) (cond (Nat.blt pc 54) (cond (Nat.beq pc 53) (some (.lload_n 1, 1)) none) (cond (Nat.beq pc 54) (some (.lreturn, 1)) none))))))) none
def LLcode : CodeT := fun q pc => cond (Nat.blt q 2) (cond (Nat.blt q 1) (cond (Nat.beq q 0) (lcd_0 pc) none) (cond (Nat.beq q 1) (lcd_1 pc) none)) none
def LLcst : Nat → Option OV := fun x => cond (Nat.blt x 63) (cond (Nat.blt x 62) (cond (Nat.beq x 60) (some (vl 2047)) none) (cond (Nat.beq x 62) (some (vl 127)) none)) none
def LLvm : Nat → Option Nat := fun x => cond (Nat.blt x 65) (cond (Nat.blt x 34) (cond (Nat.blt x 23) (cond (Nat.blt x 16) (cond (Nat.beq x 12) (some 4) none) (cond (Nat.blt x 20) (cond (Nat.beq x 16) (some 7) none) (cond (Nat.beq x 20) (some 5) none))) (cond (Nat.blt x 27) (cond (Nat.beq x 23) (some 2) none) (cond (Nat.blt x 31) (cond (Nat.beq x 27) (some 24) none) (cond (Nat.beq x 31) (some 9) none)))) (cond (Nat.blt x 51) (cond (Nat.blt x 37) (cond (Nat.beq x 34) (some 10) none) (cond (Nat.blt x 47) (cond (Nat.beq x 37) (some 11) none) (cond (Nat.beq x 47) (some 14) none))) (cond (Nat.blt x 57) (cond (Nat.blt x 54) (cond (Nat.beq x 51) (some 25) none) (cond (Nat.beq x 54) (some 15) none)) (cond (Nat.blt x 64) (cond (Nat.beq x 57) (some 29) none) (cond (Nat.beq x 64) (some 13) none))))) none
def LLmk : Nat → Bool := fun x => Nat.beq x 9
def LLsm : Nat → Option Nat := fun x => cond (Nat.blt x 42) (cond (Nat.beq x 41) (some 1) none) none
def LLcl : Nat → Bool := fun x => Nat.beq x 7
def LLinf : Nat → Option (List Nat × Nat × Nat × Nat × Nat) := fun x => cond (Nat.blt x 2) (cond (Nat.blt x 1) (cond (Nat.beq x 0) (some ([2], 23, 2, 6, 99)) none) (cond (Nat.beq x 1) (some ([2], 8, 4, 2, 30)) none)) none
def LLliv : LivT := fun q pc => cond (Nat.blt q 1) (cond (Nat.beq q 0) (cond (Nat.blt pc 355) (cond (Nat.blt pc 226) (cond (Nat.blt pc 151) (cond (Nat.blt pc 89) (cond (Nat.blt pc 21) (cond (Nat.blt pc 13) (cond (Nat.beq pc 0) (some [true, false, false, false, false, false, false, false, false, false, false, false, false, false, false, false, false, false, false, false, false, false, false]) none) (cond (Nat.beq pc 13) (some [true, true, true, false, false, false, false, false, false, false, false, false, false, false, false, false, false, false, false, false, false, false, false]) none)) (cond (Nat.blt pc 60) (cond (Nat.beq pc 21) (some [true, true, true, false, false, false, false, false, false, false, false, false, false, false, false, false, false, false, false, false, false, false, false]) none) (cond (Nat.beq pc 60) (some [true, true, true, false, true, true, true, true, false, false, false, false, false, false, false, false, false, false, false, false, false, false, false]) none))) (cond (Nat.blt pc 107) (cond (Nat.blt pc 94) (cond (Nat.beq pc 89) (some [true, true, true, true, true, true, true, true, false, false, false, false, false, false, false, false, false, false, false, false, false, false, false]) none) (cond (Nat.beq pc 94) (some [true, true, true, false, true, false, false, false, false, false, false, false, false, false, false, false, false, false, false, false, false, false, false]) none)) (cond (Nat.blt pc 112) (cond (Nat.beq pc 107) (some [true, true, true, true, true, true, true, true, false, false, false, false, false, false, false, false, false, false, false, false, false, false, false]) none) (cond (Nat.beq pc 112) (some [true, true, true, false, true, true, true, true, false, false, false, false, false, false, false, false, false, false, false, false, false, false, false]) none)))) (cond (Nat.blt pc 191) (cond (Nat.blt pc 169) (cond (Nat.blt pc 156) (cond (Nat.beq pc 151) (some [true, true, true, true, true, true, false, false, false, false, false, false, false, false, false, false, false, false, false, false, false, false, false]) none) (cond (Nat.beq pc 156) (some [true, true, true, false, true, false, false, false, false, false, false, false, false, false, false, false, false, false, false, false, false, false, false]) none)) (cond (Nat.blt pc 174) (cond (Nat.beq pc 169) (some [true, true, true, true, true, true, false, false, false, false, false, false, false, false, false, false, false, false, false, false, false, false, false]) none) (cond (Nat.beq pc 174) (some [true, true, true, false, true, true, false, false, false, false, false, false, false, false, false, false, false, false, false, false, false, false, false]) none))) (cond (Nat.blt pc 210) (cond (Nat.blt pc 204) (cond (Nat.beq pc 191) (some [true, true, true, true, true, false, false, false, false, false, false, false, false, false, false, false, false, false, false, false, false, false, false]) none) (cond (Nat.beq pc 204) (some [true, true, true, true, false, false, false, false, false, false, false, false, false, false, false, false, false, false, false, false, false, false, false]) none)) (cond (Nat.blt pc 217) (cond (Nat.beq pc 210) (some [true, true, true, true, false, false, false, false, true, true, false, false, false, false, false, false, false, false, false, false, false, false, false]) none) (cond (Nat.beq pc 217) (some [true, true, true, true, false, false, false, false, true, true, false, false, false, false, false, false, false, false, false, false, false, false, false]) none))))) (cond (Nat.blt pc 285) (cond (Nat.blt pc 250) (cond (Nat.blt pc 236) (cond (Nat.blt pc 230) (cond (Nat.beq pc 226) (some [true, true, true, true, false, false, false, false, false, true, false, false, false, false, false, false, false, false, false, false, false, false, false]) none) (cond (Nat.beq pc 230) (some [true, true, true, true, false, false, false, false, true, true, false, false, false, false, false, false, false, false, false, false, false, false, false]) none)) (cond (Nat.blt pc 246) (cond (Nat.beq pc 236) (some [true, true, true, true, false, false, false, false, true, false, false, false, false, false, false, false, false, false, false, false, false, false, false]) none) (cond (Nat.beq pc 246) (some [true, true, true, true, false, false, false, false, true, false, false, false, false, false, false, false, false, false, false, false, false, false, false]) none))) (cond (Nat.blt pc 262) (cond (Nat.blt pc 251) (cond (Nat.beq pc 250) (some [true, true, true, true, false, false, false, false, true, false, false, false, false, false, false, false, false, false, false, false, false, false, false]) none) (cond (Nat.beq pc 251) (some [true, true, true, true, false, false, false, false, true, false, false, false, false, false, false, false, false, false, false, false, false, false, false]) none)) (cond (Nat.blt pc 268) (cond (Nat.beq pc 262) (some [true, true, true, true, false, false, false, false, true, true, true, true, true, false, false, false, false, false, false, false, false, false, false]) none) (cond (Nat.beq pc 268) (some [true, true, true, true, false, false, false, false, true, true, true, true, true, false, false, false, false, false, false, false, false, false, false]) none)))) (cond (Nat.blt pc 327) (cond (Nat.blt pc 299) (cond (Nat.blt pc 293) (cond (Nat.beq pc 285) (some [true, true, true, true, false, false, false, false, true, true, false, false, true, true, false, false, false, false, false, false, false, false, false]) none) (cond (Nat.beq pc 293) (some [true, true, true, true, false, false, false, false, true, true, true, true, true, false, false, false, false, false, false, false, false, false, false]) none)) (cond (Nat.blt pc 316) (cond (Nat.beq pc 299) (some [true, true, true, true, false, false, false, false, true, true, true, false, false, false, false, false, false, false, false, false, false, false, false]) none) (cond (Nat.beq pc 316) (some [true, true, true, false, false, false, false, false, true, true, true, false, true, false, true, false, false, false, false, false, false, false, false]) none))) (cond (Nat.blt pc 342) (cond (Nat.blt pc 340) (cond (Nat.beq pc 327) (some [true, true, true, false, false, false, false, false, true, true, true, false, true, false, true, false, false, false, false, false, false, false, false]) none) (cond (Nat.beq pc 340) (some [false, false, false, false, false, false, false, false, false, false, false, false, false, false, false, false, false, false, false, false, false, false, false]) none)) (cond (Nat.blt pc 347) (cond (Nat.beq pc 342) (some [true, true, true, false, false, false, false, false, true, true, true, false, true, false, true, false, true, false, false, false, false, false, false]) none) (cond (Nat.blt pc 351) (cond (Nat.beq pc 347) (some [true, true, true, false, false, false, false, false, true, true, true, false, true, false, true, false, false, false, false, false, false, false, false]) none) (cond (Nat.beq pc 351) (some [true, true, true, false, false, false, false, false, true, true, true, false, true, false, true, false, false, false, false, false, false, false, false]) none))))))) (cond (Nat.blt pc 444) (cond (Nat.blt pc 400) (cond (Nat.blt pc 379) (cond (Nat.blt pc 368) (cond (Nat.blt pc 357) (cond (Nat.beq pc 355) (some [true, true, true, false, false, false, false, false, true, true, true, false, true, false, true, false, false, false, false, false, false, false, false]) none) (cond (Nat.beq pc 357) (some [true, true, true, false, false, false, false, false, true, true, true, false, true, false, true, true, false, false, false, false, false, false, false]) none)) (cond (Nat.blt pc 373) (cond (Nat.beq pc 368) (some [true, true, true, false, false, false, false, false, true, true, true, false, true, false, true, true, true, false, false, false, false, false, false]) none) (cond (Nat.beq pc 373) (some [true, true, true, false, false, false, false, false, true, true, true, false, true, false, true, true, true, false, false, false, false, false, false]) none))) (cond (Nat.blt pc 386) (cond (Nat.blt pc 381) (cond (Nat.beq pc 379) (some [false, false, false, false, false, false, false, false, false, false, false, false, false, false, false, false, false, false, false, false, false, false, false]) none) (cond (Nat.beq pc 381) (some [true, true, true, false, false, false, false, false, true, true, true, false, true, false, true, true, true, false, false, false, false, false, false]) none)) (cond (Nat.blt pc 392) (cond (Nat.beq pc 386) (some [true, true, true, false, false, false, false, false, false, false, false, false, true, false, true, true, true, false, false, false, false, false, false]) none) (cond (Nat.beq pc 392) (some [true, true, true, false, false, false, false, false, false, false, false, false, true, false, true, false, true, false, false, false, false, false, false]) none)))) (cond (Nat.blt pc 422) (cond (Nat.blt pc 411) (cond (Nat.blt pc 409) (cond (Nat.beq pc 400) (some [true, true, true, false, false, false, false, false, false, false, false, false, false, false, true, false, false, false, false, false, false, false, false]) none) (cond (Nat.beq pc 409) (some [false, false, false, false, false, false, false, false, false, false, false, false, false, false, false, false, false, false, false, false, false, false, false]) none)) (cond (Nat.blt pc 416) (cond (Nat.beq pc 411) (some [true, true, true, false, false, false, false, false, true, false, true, false, true, false, false, true, true, false, false, false, false, false, false]) none) (cond (Nat.beq pc 416) (some [true, true, true, false, false, false, false, false, true, false, true, false, true, false, false, true, true, false, false, false, false, false, false]) none))) (cond (Nat.blt pc 435) (cond (Nat.blt pc 433) (cond (Nat.beq pc 422) (some [true, true, true, false, false, false, false, false, true, false, true, false, true, false, false, false, true, false, false, false, false, false, false]) none) (cond (Nat.beq pc 433) (some [false, false, false, false, false, false, false, false, false, false, false, false, false, false, false, false, false, false, false, false, false, false, false]) none)) (cond (Nat.blt pc 438) (cond (Nat.beq pc 435) (some [true, true, true, false, false, false, false, false, false, false, true, false, true, false, false, false, true, false, false, false, false, false, false]) none) (cond (Nat.beq pc 438) (some [true, true, true, false, false, false, false, false, false, false, true, false, true, false, false, false, true, false, true, false, false, false, false]) none))))) (cond (Nat.blt pc 536) (cond (Nat.blt pc 496) (cond (Nat.blt pc 487) (cond (Nat.blt pc 479) (cond (Nat.beq pc 444) (some [true, true, true, false, false, false, false, false, false, false, true, false, true, false, false, false, true, false, true, false, false, false, false]) none) (cond (Nat.beq pc 479) (some [true, true, true, false, false, false, false, false, false, false, true, false, true, false, false, false, true, false, true, true, false, true, false]) none)) (cond (Nat.blt pc 489) (cond (Nat.beq pc 487) (some [false, false, false, false, false, false, false, false, false, false, false, false, false, false, false, false, false, false, false, false, false, false, false]) none) (cond (Nat.beq pc 489) (some [true, true, true, false, false, false, false, false, false, false, true, false, true, false, false, false, true, false, true, true, false, true, false]) none))) (cond (Nat.blt pc 528) (cond (Nat.blt pc 512) (cond (Nat.beq pc 496) (some [true, true, true, false, false, false, false, false, false, false, true, false, true, false, false, false, true, false, true, true, false, true, false]) none) (cond (Nat.beq pc 512) (some [true, true, true, false, false, false, false, false, false, false, true, false, true, false, false, false, true, false, true, true, false, true, false]) none)) (cond (Nat.blt pc 530) (cond (Nat.beq pc 528) (some [false, false, false, false, false, false, false, false, false, false, false, false, false, false, false, false, false, false, false, false, false, false, false]) none) (cond (Nat.beq pc 530) (some [true, true, true, false, false, false, false, false, false, false, true, false, true, false, false, false, true, false, true, false, false, false, false]) none)))) (cond (Nat.blt pc 552) (cond (Nat.blt pc 545) (cond (Nat.blt pc 539) (cond (Nat.beq pc 536) (some [true, true, true, false, false, false, false, false, false, false, false, false, false, false, false, false, false, false, false, false, false, false, false]) none) (cond (Nat.beq pc 539) (some [true, true, true, false, false, false, false, false, true, false, false, false, true, false, false, true, true, false, false, false, false, false, false]) none)) (cond (Nat.blt pc 547) (cond (Nat.beq pc 545) (some [false, false, false, false, false, false, false, false, false, false, false, false, false, false, false, false, false, false, false, false, false, false, false]) none) (cond (Nat.beq pc 547) (some [true, true, true, false, false, false, false, false, true, false, false, false, true, false, false, true, true, false, false, false, false, false, false]) none))) (cond (Nat.blt pc 570) (cond (Nat.blt pc 560) (cond (Nat.beq pc 552) (some [true, true, true, false, false, false, false, false, true, false, false, false, true, false, false, false, true, false, false, false, false, false, false]) none) (cond (Nat.beq pc 560) (some [true, true, true, false, false, false, false, false, true, false, false, false, false, false, false, false, false, false, false, false, false, false, false]) none)) (cond (Nat.blt pc 572) (cond (Nat.beq pc 570) (some [false, false, false, false, false, false, false, false, false, false, false, false, false, false, false, false, false, false, false, false, false, false, false]) none) (cond (Nat.blt pc 578) (cond (Nat.beq pc 572) (some [true, true, true, false, false, false, false, false, false, false, false, false, false, false, false, false, false, false, false, false, false, false, false]) none) (cond (Nat.beq pc 578) (some [false, false, false, false, false, false, false, false, false, false, false, false, false, false, false, false, false, false, false, false, false, false, false]) none)))))))) none) (cond (Nat.beq q 1) (cond (Nat.blt pc 9) (cond (Nat.blt pc 4) (cond (Nat.beq pc 0) (some [true, false, false, false, false, false, false, false]) none) (cond (Nat.beq pc 4) (some [true, true, false, true, false, false, false, false]) none)) (cond (Nat.blt pc 53) (cond (Nat.beq pc 9) (some [true, true, false, true, false, false, false, false]) none) (cond (Nat.beq pc 53) (some [false, true, false, false, false, false, false, false]) none))) none)
def LL : LT := (LLcode, LLcst, LLvm, LLmk, LLsm, LLcl, LLinf, LLliv)
abbrev RL (sl : Int) (sc : Int → Int) := runL PP LL 38 1 (true, sl, sc)
abbrev RLr (sl : Int) (sc : Int → Int) (n q pc : Nat) (L : OLs) (S : List OV) (y : Option OV × OWd) : RTL := RL sl sc n q pc L (pushR y.1 S) y.2
abbrev RLv (sl : Int) (sc : Int → Int) (n q pc : Nat) (L : OLs) (S : List OV) (W : OWd) (o : Nat) (y : Option OV × Nat × OMem) : RTL := RL sl sc n q pc L (pushR y.1 S) (wput W o y.2)
abbrev RLi (sl : Int) (sc : Int → Int) (n q pc : Nat) (L : OLs) (S : List OV) (W : OWd) (o : Nat) (y : Option OV × Nat × OMem) : RTL := cond (Nat.beq y.2.1 38) (RL sl sc n q pc L (pushR y.1 S) (wput W o y.2)) none
def l_snap_l4_H (sl : Int) (sc : Int → Int) (m0 : OMem) : Int × Int → Nat → RTL := fun (x1, x3) n => RL sl sc n 1 4 [qr 1, qj x1, qn, qi x3, qn, qn, qn, qn] [] [(38, m0)]
def l_snap_l4_X (sl : Int) (sc : Int → Int) (m0 : OMem) : (Int) → Nat → RTL := fun e n => match e with | y1 => RL sl sc n 1 53 [qn, qj y1, qn, qn, qn, qn, qn, qn] [] [(38, m0)]
def l_snap_l4 (sl : Int) (sc : Int → Int) (m0 : OMem) : Int × Int → Option ((Int × Int) ⊕ ((Int))) := fun (x1, x3) => if x3 < 4 then ((f_nodeUsed x3 0 m0).bind fun r_87 => ((f_nodeUsed x3 2 m0).bind fun r_88 => (some (.inl (or64 x1 (shl64 (or64 (w32 (r_87 + 1)) (shl64 (w32 (r_88 + 1)) 7)) (w32 (11 * x3))), w32 (x3 + 1)))))) else (some (.inr x1))
set_option maxRecDepth 65536 in
set_option maxHeartbeats 16000000 in
theorem l_snap_l4_ok (sl : Int) (sc : Int → Int) (m0 : OMem) (x1 x3 : Int) : Sim (l_snap_l4 sl sc m0 (x1, x3)) (Sum.elim (l_snap_l4_H sl sc m0 ) (l_snap_l4_X sl sc m0 )) (l_snap_l4_H sl sc m0 (x1, x3)) :=
  Sim.shift 3 (G := fun n => if x3 < 4 then RL sl sc n 1 9 [qr 1, qj x1, qn, qi x3, qn, qn, qn, qn] [] [(38, m0)] else RL sl sc n 1 53 [qr 1, qj x1, qn, qi x3, qn, qn, qn, qn] [] [(38, m0)]) (fun _ => rfl) (Sim.ite (fun _ => Sim.shift 4 (G := fun n => (R n 13 0 [qr 0, qi x3, qi 0] [] 38 m0).bind fun y => RLv sl sc n 1 15 [qr 1, qj x1, qn, qi x3, qn, qn, qn, qn] [] [(38, m0)] 0 y) (fun _ => rfl) (Sim.call (f_nodeUsed_ok x3 0 m0) (fun _ _ => rfl) (runP_mono _ _ _ _ _ _) (fun _ => runL_mono _ _ _ _ _) (fun r_87 => Sim.shift 0 (G := fun n => RL sl sc n 1 15 [qr 1, qj x1, qn, qi x3, qn, qn, qn, qn] [vi r_87] [(38, m0)]) (fun _ => rfl) (Sim.shift 4 (G := fun n => RL sl sc n 1 20 [qr 1, qj x1, qn, qi x3, qj (w32 (r_87 + 1)), qn, qn, qn] [] [(38, m0)]) (fun _ => rfl) (Sim.shift 4 (G := fun n => (R n 13 0 [qr 0, qi x3, qi 2] [] 38 m0).bind fun y => RLv sl sc n 1 26 [qr 1, qj x1, qn, qi x3, qj (w32 (r_87 + 1)), qn, qn, qn] [] [(38, m0)] 0 y) (fun _ => rfl) (Sim.call (f_nodeUsed_ok x3 2 m0) (fun _ _ => rfl) (runP_mono _ _ _ _ _ _) (fun _ => runL_mono _ _ _ _ _) (fun r_88 => Sim.shift 0 (G := fun n => RL sl sc n 1 26 [qr 1, qj x1, qn, qi x3, qj (w32 (r_87 + 1)), qn, qn, qn] [vi r_88] [(38, m0)]) (fun _ => rfl) (Sim.shift 4 (G := fun n => RL sl sc n 1 31 [qr 1, qj x1, qn, qi x3, qj (w32 (r_87 + 1)), qn, qj (w32 (r_88 + 1)), qn] [] [(38, m0)]) (fun _ => rfl) (Sim.shift 5 (G := fun n => RL sl sc n 1 39 [qr 1, qj x1, qn, qi x3, qj (w32 (r_87 + 1)), qn, qj (w32 (r_88 + 1)), qn] [vl (shl64 (w32 (r_88 + 1)) 7), vl (w32 (r_87 + 1)), vl x1] [(38, m0)]) (fun _ => rfl) (Sim.shift 3 (G := fun n => RL sl sc n 1 43 [qr 1, qj x1, qn, qi x3, qj (w32 (r_87 + 1)), qn, qj (w32 (r_88 + 1)), qn] [vi x3, vi 11, vl (or64 (w32 (r_87 + 1)) (shl64 (w32 (r_88 + 1)) 7)), vl x1] [(38, m0)]) (fun _ => rfl) (Sim.shift 1 (G := fun n => RL sl sc n 1 44 [qr 1, qj x1, qn, qi x3, qj (w32 (r_87 + 1)), qn, qj (w32 (r_88 + 1)), qn] [vi (w32 (11 * x3)), vl (or64 (w32 (r_87 + 1)) (shl64 (w32 (r_88 + 1)) 7)), vl x1] [(38, m0)]) (fun _ => rfl) (Sim.shift 1 (G := fun n => RL sl sc n 1 45 [qr 1, qj x1, qn, qi x3, qj (w32 (r_87 + 1)), qn, qj (w32 (r_88 + 1)), qn] [vl (shl64 (or64 (w32 (r_87 + 1)) (shl64 (w32 (r_88 + 1)) 7)) (w32 (11 * x3))), vl x1] [(38, m0)]) (fun _ => rfl) (Sim.shift 2 (G := fun n => RL sl sc n 1 47 [qr 1, qj (or64 x1 (shl64 (or64 (w32 (r_87 + 1)) (shl64 (w32 (r_88 + 1)) 7)) (w32 (11 * x3)))), qn, qi x3, qj (w32 (r_87 + 1)), qn, qj (w32 (r_88 + 1)), qn] [] [(38, m0)]) (fun _ => rfl) (Sim.shift 2 (G := fun n => RL sl sc n 1 4 [qr 1, qj (or64 x1 (shl64 (or64 (w32 (r_87 + 1)) (shl64 (w32 (r_88 + 1)) 7)) (w32 (11 * x3)))), qn, qi (w32 (x3 + 1)), qj (w32 (r_87 + 1)), qn, qj (w32 (r_88 + 1)), qn] [] [(38, m0)]) (fun _ => rfl) (Sim.leaf rfl (fun _ => rfl)))))))))))))))) (fun _ => Sim.leaf rfl (fun _ => rfl)))
def l_snap (sl : Int) (sc : Int → Int) (m0 : OMem) : Option (Int) := (lp (l_snap_l4 sl sc m0) NN (0, 0)).bind fun x1_89 => (some x1_89)
set_option maxRecDepth 65536 in
set_option maxHeartbeats 16000000 in
theorem l_snap_ok (sl : Int) (sc : Int → Int) (m0 : OMem) : Sim (l_snap sl sc m0) (fun r _ => some (some (vl r), [(38, m0)])) (fun n => RL sl sc n 1 0 [qr 1, qn, qn, qn, qn, qn, qn, qn] [] [(38, m0)]) :=
  Sim.shift 4 (G := fun n => RL sl sc n 1 4 [qr 1, qj 0, qn, qi 0, qn, qn, qn, qn] [] [(38, m0)]) (fun _ => rfl) (Sim.bind (Sim.lp (σ := Int × Int) (fun ⟨x1L, x3L⟩ => l_snap_l4_ok sl sc m0 x1L x3L) NN (0, 0)) (fun x1_89 => Sim.shift 2 (G := (fun _ => some (some (vl x1_89), [(38, m0)]))) (fun _ => rfl) (Sim.pur _ _)))
def l_law_l13_H (sl : Int) (sc : Int → Int) : Int × OMem → Nat → RTL := fun (x2, m0) n => RL sl sc n 0 13 [qr 0, qr 1, qi x2, qn, qn, qn, qn, qn, qn, qn, qn, qn, qn, qn, qn, qn, qn, qn, qn, qn, qn, qn, qn] [] [(38, m0)]
def l_law_l13_X (sl : Int) (sc : Int → Int) : (OMem) ⊕ (OMem) ⊕ (OMem) ⊕ (OMem) ⊕ (OMem) ⊕ (OMem) ⊕ (OMem) ⊕ (OMem) ⊕ (OMem) → Nat → RTL := fun e n => match e with | (.inl w0) => RL sl sc n 0 340 [qn, qn, qn, qn, qn, qn, qn, qn, qn, qn, qn, qn, qn, qn, qn, qn, qn, qn, qn, qn, qn, qn, qn] [] [(38, w0)] | (.inr (.inl w0)) => RL sl sc n 0 379 [qn, qn, qn, qn, qn, qn, qn, qn, qn, qn, qn, qn, qn, qn, qn, qn, qn, qn, qn, qn, qn, qn, qn] [] [(38, w0)] | (.inr (.inr (.inl w0))) => RL sl sc n 0 409 [qn, qn, qn, qn, qn, qn, qn, qn, qn, qn, qn, qn, qn, qn, qn, qn, qn, qn, qn, qn, qn, qn, qn] [] [(38, w0)] | (.inr (.inr (.inr (.inl w0)))) => RL sl sc n 0 433 [qn, qn, qn, qn, qn, qn, qn, qn, qn, qn, qn, qn, qn, qn, qn, qn, qn, qn, qn, qn, qn, qn, qn] [] [(38, w0)] | (.inr (.inr (.inr (.inr (.inl w0))))) => RL sl sc n 0 487 [qn, qn, qn, qn, qn, qn, qn, qn, qn, qn, qn, qn, qn, qn, qn, qn, qn, qn, qn, qn, qn, qn, qn] [] [(38, w0)] | (.inr (.inr (.inr (.inr (.inr (.inl w0)))))) => RL sl sc n 0 528 [qn, qn, qn, qn, qn, qn, qn, qn, qn, qn, qn, qn, qn, qn, qn, qn, qn, qn, qn, qn, qn, qn, qn] [] [(38, w0)] | (.inr (.inr (.inr (.inr (.inr (.inr (.inl w0))))))) => RL sl sc n 0 545 [qn, qn, qn, qn, qn, qn, qn, qn, qn, qn, qn, qn, qn, qn, qn, qn, qn, qn, qn, qn, qn, qn, qn] [] [(38, w0)] | (.inr (.inr (.inr (.inr (.inr (.inr (.inr (.inl w0)))))))) => RL sl sc n 0 570 [qn, qn, qn, qn, qn, qn, qn, qn, qn, qn, qn, qn, qn, qn, qn, qn, qn, qn, qn, qn, qn, qn, qn] [] [(38, w0)] | (.inr (.inr (.inr (.inr (.inr (.inr (.inr (.inr w0)))))))) => RL sl sc n 0 578 [qn, qn, qn, qn, qn, qn, qn, qn, qn, qn, qn, qn, qn, qn, qn, qn, qn, qn, qn, qn, qn, qn, qn] [] [(38, w0)]
def l_law_b572 (sl : Int) (sc : Int → Int) (x2 : Int) (m0 : OMem) : Option ((Int × OMem) ⊕ ((OMem) ⊕ (OMem) ⊕ (OMem) ⊕ (OMem) ⊕ (OMem) ⊕ (OMem) ⊕ (OMem) ⊕ (OMem) ⊕ (OMem))) := some (.inl (w32 (x2 + 5), m0))
set_option maxRecDepth 65536 in
set_option maxHeartbeats 16000000 in
theorem l_law_b572_ok (sl : Int) (sc : Int → Int) (x2 : Int) (m0 : OMem) : Sim (l_law_b572 sl sc x2 m0) (Sum.elim (l_law_l13_H sl sc ) (l_law_l13_X sl sc )) (fun n => RL sl sc n 0 572 [qr 0, qr 1, qi x2, qn, qn, qn, qn, qn, qn, qn, qn, qn, qn, qn, qn, qn, qn, qn, qn, qn, qn, qn, qn] [] [(38, m0)]) :=
  Sim.shift 2 (G := fun n => RL sl sc n 0 13 [qr 0, qr 1, qi (w32 (x2 + 5)), qn, qn, qn, qn, qn, qn, qn, qn, qn, qn, qn, qn, qn, qn, qn, qn, qn, qn, qn, qn] [] [(38, m0)]) (fun _ => rfl) (Sim.pur _ _)
def l_law_l262_H (sl : Int) (sc : Int → Int) (m0 : OMem) (x2 x3 x8 x9 : Int) : Int × Int × Int → Nat → RTL := fun (x10, x11, x12) n => RL sl sc n 0 262 [qr 0, qr 1, qi x2, qi x3, qn, qn, qn, qn, qi x8, qi x9, qi x10, qi x11, qi x12, qn, qn, qn, qn, qn, qn, qn, qn, qn, qn] [] [(38, m0)]
def l_law_l262_X (sl : Int) (sc : Int → Int) (m0 : OMem) (x2 x3 x8 x9 : Int) : (Int) → Nat → RTL := fun e n => match e with | y10 => RL sl sc n 0 299 [qr 0, qr 1, qi x2, qi x3, qn, qn, qn, qn, qi x8, qi x9, qi y10, qn, qn, qn, qn, qn, qn, qn, qn, qn, qn, qn, qn] [] [(38, m0)]
def l_law_b293 (sl : Int) (sc : Int → Int) (x2 x3 x8 x9 x10 x11 x12 : Int) (m0 : OMem) : Option ((Int × Int × Int) ⊕ ((Int))) := some (.inl (x10, x11, w32 (x12 + 1)))
set_option maxRecDepth 65536 in
set_option maxHeartbeats 16000000 in
theorem l_law_b293_ok (sl : Int) (sc : Int → Int) (x2 x3 x8 x9 x10 x11 x12 : Int) (m0 : OMem) : Sim (l_law_b293 sl sc x2 x3 x8 x9 x10 x11 x12 m0) (Sum.elim (l_law_l262_H sl sc m0 x2 x3 x8 x9 ) (l_law_l262_X sl sc m0 x2 x3 x8 x9 )) (fun n => RL sl sc n 0 293 [qr 0, qr 1, qi x2, qi x3, qn, qn, qn, qn, qi x8, qi x9, qi x10, qi x11, qi x12, qn, qn, qn, qn, qn, qn, qn, qn, qn, qn] [] [(38, m0)]) :=
  Sim.shift 2 (G := fun n => RL sl sc n 0 262 [qr 0, qr 1, qi x2, qi x3, qn, qn, qn, qn, qi x8, qi x9, qi x10, qi x11, qi (w32 (x12 + 1)), qn, qn, qn, qn, qn, qn, qn, qn, qn, qn] [] [(38, m0)]) (fun _ => rfl) (Sim.pur _ _)
def l_law_l262 (sl : Int) (sc : Int → Int) (m0 : OMem) (x2 x3 x8 x9 : Int) : Int × Int × Int → Option ((Int × Int × Int) ⊕ ((Int))) := fun (x10, x11, x12) => if x12 < 4 then ((f_score x8 x12 m0).bind fun r_85 => (if x11 < r_85 then (l_law_b293 sl sc x2 x3 x8 x9 x12 r_85 x12 m0) else (l_law_b293 sl sc x2 x3 x8 x9 x10 x11 x12 m0))) else (some (.inr x10))
set_option maxRecDepth 65536 in
set_option maxHeartbeats 16000000 in
theorem l_law_l262_ok (sl : Int) (sc : Int → Int) (m0 : OMem) (x2 x3 x8 x9 : Int) (x10 x11 x12 : Int) : Sim (l_law_l262 sl sc m0 x2 x3 x8 x9 (x10, x11, x12)) (Sum.elim (l_law_l262_H sl sc m0 x2 x3 x8 x9 ) (l_law_l262_X sl sc m0 x2 x3 x8 x9 )) (l_law_l262_H sl sc m0 x2 x3 x8 x9 (x10, x11, x12)) :=
  Sim.shift 3 (G := fun n => if x12 < 4 then RL sl sc n 0 268 [qr 0, qr 1, qi x2, qi x3, qn, qn, qn, qn, qi x8, qi x9, qi x10, qi x11, qi x12, qn, qn, qn, qn, qn, qn, qn, qn, qn, qn] [] [(38, m0)] else RL sl sc n 0 299 [qr 0, qr 1, qi x2, qi x3, qn, qn, qn, qn, qi x8, qi x9, qi x10, qi x11, qi x12, qn, qn, qn, qn, qn, qn, qn, qn, qn, qn] [] [(38, m0)]) (fun _ => rfl) (Sim.ite (fun _ => Sim.shift 4 (G := fun n => (R n 11 0 [qr 0, qi x8, qi x12] [] 38 m0).bind fun y => RLv sl sc n 0 276 [qr 0, qr 1, qi x2, qi x3, qn, qn, qn, qn, qi x8, qi x9, qi x10, qi x11, qi x12, qn, qn, qn, qn, qn, qn, qn, qn, qn, qn] [] [(38, m0)] 0 y) (fun _ => rfl) (Sim.call (f_score_ok x8 x12 m0) (fun _ _ => rfl) (runP_mono _ _ _ _ _ _) (fun _ => runL_mono _ _ _ _ _) (fun r_85 => Sim.shift 0 (G := fun n => RL sl sc n 0 276 [qr 0, qr 1, qi x2, qi x3, qn, qn, qn, qn, qi x8, qi x9, qi x10, qi x11, qi x12, qn, qn, qn, qn, qn, qn, qn, qn, qn, qn] [vi r_85] [(38, m0)]) (fun _ => rfl) (Sim.shift 4 (G := fun n => if x11 < r_85 then RL sl sc n 0 285 [qr 0, qr 1, qi x2, qi x3, qn, qn, qn, qn, qi x8, qi x9, qi x10, qi x11, qi x12, qi r_85, qn, qn, qn, qn, qn, qn, qn, qn, qn] [] [(38, m0)] else RL sl sc n 0 293 [qr 0, qr 1, qi x2, qi x3, qn, qn, qn, qn, qi x8, qi x9, qi x10, qi x11, qi x12, qi r_85, qn, qn, qn, qn, qn, qn, qn, qn, qn] [] [(38, m0)]) (fun _ => rfl) (Sim.ite (fun _ => Sim.shift 4 (G := fun n => RL sl sc n 0 293 [qr 0, qr 1, qi x2, qi x3, qn, qn, qn, qn, qi x8, qi x9, qi x12, qi r_85, qi x12, qi r_85, qn, qn, qn, qn, qn, qn, qn, qn, qn] [] [(38, m0)]) (fun _ => rfl) (Sim.jmp (l_law_b293_ok sl sc x2 x3 x8 x9 x12 r_85 x12 m0) rfl (fun _ => rfl))) (fun _ => Sim.jmp (l_law_b293_ok sl sc x2 x3 x8 x9 x10 x11 x12 m0) rfl (fun _ => rfl))))))) (fun _ => Sim.leaf rfl (fun _ => rfl)))
def l_law_l438_H (sl : Int) (sc : Int → Int) (m0 : OMem) (x2 x10 x12 x16 : Int) : Int → Nat → RTL := fun x18 n => RL sl sc n 0 438 [qr 0, qr 1, qi x2, qn, qn, qn, qn, qn, qn, qn, qi x10, qn, qj x12, qn, qn, qn, qj x16, qn, qi x18, qn, qn, qn, qn] [] [(38, m0)]
def l_law_l438_X (sl : Int) (sc : Int → Int) (m0 : OMem) (x2 x10 x12 x16 : Int) : (Unit) ⊕ (Unit) ⊕ (Unit) → Nat → RTL := fun e n => match e with | (.inl _) => RL sl sc n 0 487 [qn, qn, qn, qn, qn, qn, qn, qn, qn, qn, qn, qn, qn, qn, qn, qn, qn, qn, qn, qn, qn, qn, qn] [] [(38, m0)] | (.inr (.inl _)) => RL sl sc n 0 528 [qn, qn, qn, qn, qn, qn, qn, qn, qn, qn, qn, qn, qn, qn, qn, qn, qn, qn, qn, qn, qn, qn, qn] [] [(38, m0)] | (.inr (.inr _)) => RL sl sc n 0 536 [qr 0, qr 1, qi x2, qn, qn, qn, qn, qn, qn, qn, qn, qn, qn, qn, qn, qn, qn, qn, qn, qn, qn, qn, qn] [] [(38, m0)]
def l_law_b530 (sl : Int) (sc : Int → Int) (x2 x10 x12 x16 x18 : Int) (m0 : OMem) : Option ((Int) ⊕ ((Unit) ⊕ (Unit) ⊕ (Unit))) := some (.inl (w32 (x18 + 1)))
set_option maxRecDepth 65536 in
set_option maxHeartbeats 16000000 in
theorem l_law_b530_ok (sl : Int) (sc : Int → Int) (x2 x10 x12 x16 x18 : Int) (m0 : OMem) : Sim (l_law_b530 sl sc x2 x10 x12 x16 x18 m0) (Sum.elim (l_law_l438_H sl sc m0 x2 x10 x12 x16 ) (l_law_l438_X sl sc m0 x2 x10 x12 x16 )) (fun n => RL sl sc n 0 530 [qr 0, qr 1, qi x2, qn, qn, qn, qn, qn, qn, qn, qi x10, qn, qj x12, qn, qn, qn, qj x16, qn, qi x18, qn, qn, qn, qn] [] [(38, m0)]) :=
  Sim.shift 2 (G := fun n => RL sl sc n 0 438 [qr 0, qr 1, qi x2, qn, qn, qn, qn, qn, qn, qn, qi x10, qn, qj x12, qn, qn, qn, qj x16, qn, qi (w32 (x18 + 1)), qn, qn, qn, qn] [] [(38, m0)]) (fun _ => rfl) (Sim.pur _ _)
def l_law_b489 (sl : Int) (sc : Int → Int) (x2 x10 x12 x16 x18 x19 x21 : Int) (m0 : OMem) : Option ((Int) ⊕ ((Unit) ⊕ (Unit) ⊕ (Unit))) := if x18 = x10 then (if lcm (shr64 x21 7) (w64 ((shr64 x19 7) + 1)) = 0 then (if 0 < lcm (and64 x21 127) (and64 x19 127) then (l_law_b530 sl sc x2 x10 x12 x16 x18 m0) else (some (.inr (.inr (.inl ()))))) else (some (.inr (.inr (.inl ()))))) else (l_law_b530 sl sc x2 x10 x12 x16 x18 m0)
set_option maxRecDepth 65536 in
set_option maxHeartbeats 16000000 in
theorem l_law_b489_ok (sl : Int) (sc : Int → Int) (x2 x10 x12 x16 x18 x19 x21 : Int) (m0 : OMem) : Sim (l_law_b489 sl sc x2 x10 x12 x16 x18 x19 x21 m0) (Sum.elim (l_law_l438_H sl sc m0 x2 x10 x12 x16 ) (l_law_l438_X sl sc m0 x2 x10 x12 x16 )) (fun n => RL sl sc n 0 489 [qr 0, qr 1, qi x2, qn, qn, qn, qn, qn, qn, qn, qi x10, qn, qj x12, qn, qn, qn, qj x16, qn, qi x18, qj x19, qn, qj x21, qn] [] [(38, m0)]) :=
  Sim.shift 3 (G := fun n => if x18 = x10 then RL sl sc n 0 496 [qr 0, qr 1, qi x2, qn, qn, qn, qn, qn, qn, qn, qi x10, qn, qj x12, qn, qn, qn, qj x16, qn, qi x18, qj x19, qn, qj x21, qn] [] [(38, m0)] else RL sl sc n 0 530 [qr 0, qr 1, qi x2, qn, qn, qn, qn, qn, qn, qn, qi x10, qn, qj x12, qn, qn, qn, qj x16, qn, qi x18, qj x19, qn, qj x21, qn] [] [(38, m0)]) (fun _ => rfl) (Sim.ite (fun _ => Sim.shift 5 (G := fun n => RL sl sc n 0 505 [qr 0, qr 1, qi x2, qn, qn, qn, qn, qn, qn, qn, qi x10, qn, qj x12, qn, qn, qn, qj x16, qn, qi x18, qj x19, qn, qj x21, qn] [vi 7, vl x19, vl (shr64 x21 7)] [(38, m0)]) (fun _ => rfl) (Sim.shift 2 (G := fun n => RL sl sc n 0 507 [qr 0, qr 1, qi x2, qn, qn, qn, qn, qn, qn, qn, qi x10, qn, qj x12, qn, qn, qn, qj x16, qn, qi x18, qj x19, qn, qj x21, qn] [vl 1, vl (shr64 x19 7), vl (shr64 x21 7)] [(38, m0)]) (fun _ => rfl) (Sim.shift 1 (G := fun n => RL sl sc n 0 508 [qr 0, qr 1, qi x2, qn, qn, qn, qn, qn, qn, qn, qi x10, qn, qj x12, qn, qn, qn, qj x16, qn, qi x18, qj x19, qn, qj x21, qn] [vl (w64 ((shr64 x19 7) + 1)), vl (shr64 x21 7)] [(38, m0)]) (fun _ => rfl) (Sim.shift 2 (G := fun n => if lcm (shr64 x21 7) (w64 ((shr64 x19 7) + 1)) = 0 then RL sl sc n 0 512 [qr 0, qr 1, qi x2, qn, qn, qn, qn, qn, qn, qn, qi x10, qn, qj x12, qn, qn, qn, qj x16, qn, qi x18, qj x19, qn, qj x21, qn] [] [(38, m0)] else RL sl sc n 0 528 [qr 0, qr 1, qi x2, qn, qn, qn, qn, qn, qn, qn, qi x10, qn, qj x12, qn, qn, qn, qj x16, qn, qi x18, qj x19, qn, qj x21, qn] [] [(38, m0)]) (fun _ => rfl) (Sim.ite (fun _ => Sim.shift 5 (G := fun n => RL sl sc n 0 523 [qr 0, qr 1, qi x2, qn, qn, qn, qn, qn, qn, qn, qi x10, qn, qj x12, qn, qn, qn, qj x16, qn, qi x18, qj x19, qn, qj x21, qn] [vl 127, vl x19, vl (and64 x21 127)] [(38, m0)]) (fun _ => rfl) (Sim.shift 1 (G := fun n => RL sl sc n 0 524 [qr 0, qr 1, qi x2, qn, qn, qn, qn, qn, qn, qn, qi x10, qn, qj x12, qn, qn, qn, qj x16, qn, qi x18, qj x19, qn, qj x21, qn] [vl (and64 x19 127), vl (and64 x21 127)] [(38, m0)]) (fun _ => rfl) (Sim.shift 2 (G := fun n => if 0 < lcm (and64 x21 127) (and64 x19 127) then RL sl sc n 0 530 [qr 0, qr 1, qi x2, qn, qn, qn, qn, qn, qn, qn, qi x10, qn, qj x12, qn, qn, qn, qj x16, qn, qi x18, qj x19, qn, qj x21, qn] [] [(38, m0)] else RL sl sc n 0 528 [qr 0, qr 1, qi x2, qn, qn, qn, qn, qn, qn, qn, qi x10, qn, qj x12, qn, qn, qn, qj x16, qn, qi x18, qj x19, qn, qj x21, qn] [] [(38, m0)]) (fun _ => rfl) (Sim.ite (fun _ => Sim.jmp (l_law_b530_ok sl sc x2 x10 x12 x16 x18 m0) rfl (fun _ => rfl)) (fun _ => Sim.leaf rfl (fun _ => rfl)))))) (fun _ => Sim.leaf rfl (fun _ => rfl))))))) (fun _ => Sim.jmp (l_law_b530_ok sl sc x2 x10 x12 x16 x18 m0) rfl (fun _ => rfl)))
def l_law_l438 (sl : Int) (sc : Int → Int) (m0 : OMem) (x2 x10 x12 x16 : Int) : Int → Option ((Int) ⊕ ((Unit) ⊕ (Unit) ⊕ (Unit))) := fun x18 => if x18 < 4 then (if x18 = x10 then (l_law_b489 sl sc x2 x10 x12 x16 x18 (and64 (shr64 x12 (w32 (11 * x18))) 2047) (and64 (shr64 x16 (w32 (11 * x18))) 2047) m0) else (if lcm (and64 (shr64 x16 (w32 (11 * x18))) 2047) (and64 (shr64 x12 (w32 (11 * x18))) 2047) = 0 then (l_law_b489 sl sc x2 x10 x12 x16 x18 (and64 (shr64 x12 (w32 (11 * x18))) 2047) (and64 (shr64 x16 (w32 (11 * x18))) 2047) m0) else (some (.inr (.inl ()))))) else (some (.inr (.inr (.inr ()))))
set_option maxRecDepth 65536 in
set_option maxHeartbeats 16000000 in
theorem l_law_l438_ok (sl : Int) (sc : Int → Int) (m0 : OMem) (x2 x10 x12 x16 : Int) (x18 : Int) : Sim (l_law_l438 sl sc m0 x2 x10 x12 x16 x18) (Sum.elim (l_law_l438_H sl sc m0 x2 x10 x12 x16 ) (l_law_l438_X sl sc m0 x2 x10 x12 x16 )) (l_law_l438_H sl sc m0 x2 x10 x12 x16 x18) :=
  Sim.shift 3 (G := fun n => if x18 < 4 then RL sl sc n 0 444 [qr 0, qr 1, qi x2, qn, qn, qn, qn, qn, qn, qn, qi x10, qn, qj x12, qn, qn, qn, qj x16, qn, qi x18, qn, qn, qn, qn] [] [(38, m0)] else RL sl sc n 0 536 [qr 0, qr 1, qi x2, qn, qn, qn, qn, qn, qn, qn, qi x10, qn, qj x12, qn, qn, qn, qj x16, qn, qi x18, qn, qn, qn, qn] [] [(38, m0)]) (fun _ => rfl) (Sim.ite (fun _ => Sim.shift 4 (G := fun n => RL sl sc n 0 451 [qr 0, qr 1, qi x2, qn, qn, qn, qn, qn, qn, qn, qi x10, qn, qj x12, qn, qn, qn, qj x16, qn, qi x18, qn, qn, qn, qn] [vi (w32 (11 * x18)), vl x12] [(38, m0)]) (fun _ => rfl) (Sim.shift 2 (G := fun n => RL sl sc n 0 455 [qr 0, qr 1, qi x2, qn, qn, qn, qn, qn, qn, qn, qi x10, qn, qj x12, qn, qn, qn, qj x16, qn, qi x18, qn, qn, qn, qn] [vl 2047, vl (shr64 x12 (w32 (11 * x18)))] [(38, m0)]) (fun _ => rfl) (Sim.shift 2 (G := fun n => RL sl sc n 0 458 [qr 0, qr 1, qi x2, qn, qn, qn, qn, qn, qn, qn, qi x10, qn, qj x12, qn, qn, qn, qj x16, qn, qi x18, qj (and64 (shr64 x12 (w32 (11 * x18))) 2047), qn, qn, qn] [] [(38, m0)]) (fun _ => rfl) (Sim.shift 4 (G := fun n => RL sl sc n 0 465 [qr 0, qr 1, qi x2, qn, qn, qn, qn, qn, qn, qn, qi x10, qn, qj x12, qn, qn, qn, qj x16, qn, qi x18, qj (and64 (shr64 x12 (w32 (11 * x18))) 2047), qn, qn, qn] [vi (w32 (11 * x18)), vl x16] [(38, m0)]) (fun _ => rfl) (Sim.shift 2 (G := fun n => RL sl sc n 0 469 [qr 0, qr 1, qi x2, qn, qn, qn, qn, qn, qn, qn, qi x10, qn, qj x12, qn, qn, qn, qj x16, qn, qi x18, qj (and64 (shr64 x12 (w32 (11 * x18))) 2047), qn, qn, qn] [vl 2047, vl (shr64 x16 (w32 (11 * x18)))] [(38, m0)]) (fun _ => rfl) (Sim.shift 2 (G := fun n => RL sl sc n 0 472 [qr 0, qr 1, qi x2, qn, qn, qn, qn, qn, qn, qn, qi x10, qn, qj x12, qn, qn, qn, qj x16, qn, qi x18, qj (and64 (shr64 x12 (w32 (11 * x18))) 2047), qn, qj (and64 (shr64 x16 (w32 (11 * x18))) 2047), qn] [] [(38, m0)]) (fun _ => rfl) (Sim.shift 3 (G := fun n => if x18 = x10 then RL sl sc n 0 489 [qr 0, qr 1, qi x2, qn, qn, qn, qn, qn, qn, qn, qi x10, qn, qj x12, qn, qn, qn, qj x16, qn, qi x18, qj (and64 (shr64 x12 (w32 (11 * x18))) 2047), qn, qj (and64 (shr64 x16 (w32 (11 * x18))) 2047), qn] [] [(38, m0)] else RL sl sc n 0 479 [qr 0, qr 1, qi x2, qn, qn, qn, qn, qn, qn, qn, qi x10, qn, qj x12, qn, qn, qn, qj x16, qn, qi x18, qj (and64 (shr64 x12 (w32 (11 * x18))) 2047), qn, qj (and64 (shr64 x16 (w32 (11 * x18))) 2047), qn] [] [(38, m0)]) (fun _ => rfl) (Sim.ite (fun _ => l_law_b489_ok sl sc x2 x10 x12 x16 x18 (and64 (shr64 x12 (w32 (11 * x18))) 2047) (and64 (shr64 x16 (w32 (11 * x18))) 2047) m0) (fun _ => Sim.shift 4 (G := fun n => if lcm (and64 (shr64 x16 (w32 (11 * x18))) 2047) (and64 (shr64 x12 (w32 (11 * x18))) 2047) = 0 then RL sl sc n 0 489 [qr 0, qr 1, qi x2, qn, qn, qn, qn, qn, qn, qn, qi x10, qn, qj x12, qn, qn, qn, qj x16, qn, qi x18, qj (and64 (shr64 x12 (w32 (11 * x18))) 2047), qn, qj (and64 (shr64 x16 (w32 (11 * x18))) 2047), qn] [] [(38, m0)] else RL sl sc n 0 487 [qr 0, qr 1, qi x2, qn, qn, qn, qn, qn, qn, qn, qi x10, qn, qj x12, qn, qn, qn, qj x16, qn, qi x18, qj (and64 (shr64 x12 (w32 (11 * x18))) 2047), qn, qj (and64 (shr64 x16 (w32 (11 * x18))) 2047), qn] [] [(38, m0)]) (fun _ => rfl) (Sim.ite (fun _ => l_law_b489_ok sl sc x2 x10 x12 x16 x18 (and64 (shr64 x12 (w32 (11 * x18))) 2047) (and64 (shr64 x16 (w32 (11 * x18))) 2047) m0) (fun _ => Sim.leaf rfl (fun _ => rfl)))))))))))) (fun _ => Sim.leaf rfl (fun _ => rfl)))
def l_law_b381 (sl : Int) (sc : Int → Int) (x2 x8 x9 x10 x12 x14 x15 x16 : Int) (m0 : OMem) : Option ((Int × OMem) ⊕ ((OMem) ⊕ (OMem) ⊕ (OMem) ⊕ (OMem) ⊕ (OMem) ⊕ (OMem) ⊕ (OMem) ⊕ (OMem) ⊕ (OMem))) := if x9 = 0 then (if x15 = (-1) then (if lcm x16 x12 = 0 then ((f_lastOutcome m0).bind fun r_95 => (if r_95 = x14 then (l_law_b572 sl sc x2 m0) else (some (.inr (.inr (.inr (.inl m0))))))) else (some (.inr (.inr (.inr (.inl m0)))))) else (some (.inr (.inr (.inr (.inl m0)))))) else (if x10 < 0 then (if x15 = 1 then (some (.inr (.inr (.inr (.inr (.inr (.inr (.inr (.inl m0))))))))) else (if x15 = 0 then (if lcm x16 x12 = 0 then ((f_podState x8 m0).bind fun r_96 => (if r_96 = 1 then (l_law_b572 sl sc x2 m0) else (some (.inr (.inr (.inr (.inr (.inr (.inr (.inr (.inr (.inl m0)))))))))))) else (some (.inr (.inr (.inr (.inr (.inr (.inr (.inr (.inr (.inl m0))))))))))) else (l_law_b572 sl sc x2 m0))) else (if x15 = 1 then ((f_podNode x8 m0).bind fun r_97 => (if r_97 = x10 then ((lp (l_law_l438 sl sc m0 x2 x10 x12 x16) NN 0).bind fun e => match e with | (.inl _) => (some (.inr (.inr (.inr (.inr (.inr (.inl m0))))))) | (.inr (.inl _)) => (some (.inr (.inr (.inr (.inr (.inr (.inr (.inl m0)))))))) | (.inr (.inr _)) => (l_law_b572 sl sc x2 m0)) else (some (.inr (.inr (.inr (.inr (.inl m0)))))))) else (some (.inr (.inr (.inr (.inr (.inl m0))))))))
set_option maxRecDepth 65536 in
set_option maxHeartbeats 16000000 in
theorem l_law_b381_ok (sl : Int) (sc : Int → Int) (x2 x8 x9 x10 x12 x14 x15 x16 : Int) (m0 : OMem) : Sim (l_law_b381 sl sc x2 x8 x9 x10 x12 x14 x15 x16 m0) (Sum.elim (l_law_l13_H sl sc ) (l_law_l13_X sl sc )) (fun n => RL sl sc n 0 381 [qr 0, qr 1, qi x2, qn, qn, qn, qn, qn, qi x8, qi x9, qi x10, qn, qj x12, qn, qi x14, qi x15, qj x16, qn, qn, qn, qn, qn, qn] [] [(38, m0)]) :=
  Sim.shift 2 (G := fun n => if x9 = 0 then RL sl sc n 0 386 [qr 0, qr 1, qi x2, qn, qn, qn, qn, qn, qi x8, qi x9, qi x10, qn, qj x12, qn, qi x14, qi x15, qj x16, qn, qn, qn, qn, qn, qn] [] [(38, m0)] else RL sl sc n 0 411 [qr 0, qr 1, qi x2, qn, qn, qn, qn, qn, qi x8, qi x9, qi x10, qn, qj x12, qn, qi x14, qi x15, qj x16, qn, qn, qn, qn, qn, qn] [] [(38, m0)]) (fun _ => rfl) (Sim.ite (fun _ => Sim.shift 3 (G := fun n => if x15 = (-1) then RL sl sc n 0 392 [qr 0, qr 1, qi x2, qn, qn, qn, qn, qn, qn, qn, qn, qn, qj x12, qn, qi x14, qi x15, qj x16, qn, qn, qn, qn, qn, qn] [] [(38, m0)] else RL sl sc n 0 409 [qr 0, qr 1, qi x2, qn, qn, qn, qn, qn, qn, qn, qn, qn, qj x12, qn, qi x14, qi x15, qj x16, qn, qn, qn, qn, qn, qn] [] [(38, m0)]) (fun _ => rfl) (Sim.ite (fun _ => Sim.shift 4 (G := fun n => if lcm x16 x12 = 0 then RL sl sc n 0 400 [qr 0, qr 1, qi x2, qn, qn, qn, qn, qn, qn, qn, qn, qn, qj x12, qn, qi x14, qn, qj x16, qn, qn, qn, qn, qn, qn] [] [(38, m0)] else RL sl sc n 0 409 [qr 0, qr 1, qi x2, qn, qn, qn, qn, qn, qn, qn, qn, qn, qj x12, qn, qi x14, qn, qj x16, qn, qn, qn, qn, qn, qn] [] [(38, m0)]) (fun _ => rfl) (Sim.ite (fun _ => Sim.shift 2 (G := fun n => (R n 14 0 [qr 0] [] 38 m0).bind fun y => RLv sl sc n 0 404 [qr 0, qr 1, qi x2, qn, qn, qn, qn, qn, qn, qn, qn, qn, qn, qn, qi x14, qn, qn, qn, qn, qn, qn, qn, qn] [] [(38, m0)] 0 y) (fun _ => rfl) (Sim.call (f_lastOutcome_ok 38 m0) (fun _ _ => rfl) (runP_mono _ _ _ _ _ _) (fun _ => runL_mono _ _ _ _ _) (fun r_95 => Sim.shift 0 (G := fun n => RL sl sc n 0 404 [qr 0, qr 1, qi x2, qn, qn, qn, qn, qn, qn, qn, qn, qn, qn, qn, qi x14, qn, qn, qn, qn, qn, qn, qn, qn] [vi r_95] [(38, m0)]) (fun _ => rfl) (Sim.shift 2 (G := fun n => if r_95 = x14 then RL sl sc n 0 572 [qr 0, qr 1, qi x2, qn, qn, qn, qn, qn, qn, qn, qn, qn, qn, qn, qi x14, qn, qn, qn, qn, qn, qn, qn, qn] [] [(38, m0)] else RL sl sc n 0 409 [qr 0, qr 1, qi x2, qn, qn, qn, qn, qn, qn, qn, qn, qn, qn, qn, qi x14, qn, qn, qn, qn, qn, qn, qn, qn] [] [(38, m0)]) (fun _ => rfl) (Sim.ite (fun _ => Sim.jmp (l_law_b572_ok sl sc x2 m0) rfl (fun _ => rfl)) (fun _ => Sim.leaf rfl (fun _ => rfl))))))) (fun _ => Sim.leaf rfl (fun _ => rfl)))) (fun _ => Sim.leaf rfl (fun _ => rfl)))) (fun _ => Sim.shift 2 (G := fun n => if x10 < 0 then RL sl sc n 0 539 [qr 0, qr 1, qi x2, qn, qn, qn, qn, qn, qi x8, qn, qi x10, qn, qj x12, qn, qn, qi x15, qj x16, qn, qn, qn, qn, qn, qn] [] [(38, m0)] else RL sl sc n 0 416 [qr 0, qr 1, qi x2, qn, qn, qn, qn, qn, qi x8, qn, qi x10, qn, qj x12, qn, qn, qi x15, qj x16, qn, qn, qn, qn, qn, qn] [] [(38, m0)]) (fun _ => rfl) (Sim.ite (fun _ => Sim.shift 3 (G := fun n => if x15 = 1 then RL sl sc n 0 545 [qr 0, qr 1, qi x2, qn, qn, qn, qn, qn, qi x8, qn, qn, qn, qj x12, qn, qn, qi x15, qj x16, qn, qn, qn, qn, qn, qn] [] [(38, m0)] else RL sl sc n 0 547 [qr 0, qr 1, qi x2, qn, qn, qn, qn, qn, qi x8, qn, qn, qn, qj x12, qn, qn, qi x15, qj x16, qn, qn, qn, qn, qn, qn] [] [(38, m0)]) (fun _ => rfl) (Sim.ite (fun _ => Sim.leaf rfl (fun _ => rfl)) (fun _ => Sim.shift 2 (G := fun n => if x15 = 0 then RL sl sc n 0 552 [qr 0, qr 1, qi x2, qn, qn, qn, qn, qn, qi x8, qn, qn, qn, qj x12, qn, qn, qi x15, qj x16, qn, qn, qn, qn, qn, qn] [] [(38, m0)] else RL sl sc n 0 572 [qr 0, qr 1, qi x2, qn, qn, qn, qn, qn, qi x8, qn, qn, qn, qj x12, qn, qn, qi x15, qj x16, qn, qn, qn, qn, qn, qn] [] [(38, m0)]) (fun _ => rfl) (Sim.ite (fun _ => Sim.shift 4 (G := fun n => if lcm x16 x12 = 0 then RL sl sc n 0 560 [qr 0, qr 1, qi x2, qn, qn, qn, qn, qn, qi x8, qn, qn, qn, qj x12, qn, qn, qn, qj x16, qn, qn, qn, qn, qn, qn] [] [(38, m0)] else RL sl sc n 0 570 [qr 0, qr 1, qi x2, qn, qn, qn, qn, qn, qi x8, qn, qn, qn, qj x12, qn, qn, qn, qj x16, qn, qn, qn, qn, qn, qn] [] [(38, m0)]) (fun _ => rfl) (Sim.ite (fun _ => Sim.shift 3 (G := fun n => (R n 10 0 [qr 0, qi x8] [] 38 m0).bind fun y => RLv sl sc n 0 566 [qr 0, qr 1, qi x2, qn, qn, qn, qn, qn, qi x8, qn, qn, qn, qn, qn, qn, qn, qn, qn, qn, qn, qn, qn, qn] [] [(38, m0)] 0 y) (fun _ => rfl) (Sim.call (f_podState_ok x8 m0) (fun _ _ => rfl) (runP_mono _ _ _ _ _ _) (fun _ => runL_mono _ _ _ _ _) (fun r_96 => Sim.shift 0 (G := fun n => RL sl sc n 0 566 [qr 0, qr 1, qi x2, qn, qn, qn, qn, qn, qi x8, qn, qn, qn, qn, qn, qn, qn, qn, qn, qn, qn, qn, qn, qn] [vi r_96] [(38, m0)]) (fun _ => rfl) (Sim.shift 2 (G := fun n => if r_96 = 1 then RL sl sc n 0 572 [qr 0, qr 1, qi x2, qn, qn, qn, qn, qn, qi x8, qn, qn, qn, qn, qn, qn, qn, qn, qn, qn, qn, qn, qn, qn] [] [(38, m0)] else RL sl sc n 0 570 [qr 0, qr 1, qi x2, qn, qn, qn, qn, qn, qi x8, qn, qn, qn, qn, qn, qn, qn, qn, qn, qn, qn, qn, qn, qn] [] [(38, m0)]) (fun _ => rfl) (Sim.ite (fun _ => Sim.jmp (l_law_b572_ok sl sc x2 m0) rfl (fun _ => rfl)) (fun _ => Sim.leaf rfl (fun _ => rfl))))))) (fun _ => Sim.leaf rfl (fun _ => rfl)))) (fun _ => Sim.jmp (l_law_b572_ok sl sc x2 m0) rfl (fun _ => rfl)))))) (fun _ => Sim.shift 3 (G := fun n => if x15 = 1 then RL sl sc n 0 422 [qr 0, qr 1, qi x2, qn, qn, qn, qn, qn, qi x8, qn, qi x10, qn, qj x12, qn, qn, qi x15, qj x16, qn, qn, qn, qn, qn, qn] [] [(38, m0)] else RL sl sc n 0 433 [qr 0, qr 1, qi x2, qn, qn, qn, qn, qn, qi x8, qn, qi x10, qn, qj x12, qn, qn, qi x15, qj x16, qn, qn, qn, qn, qn, qn] [] [(38, m0)]) (fun _ => rfl) (Sim.ite (fun _ => Sim.shift 3 (G := fun n => (R n 29 0 [qr 0, qi x8] [] 38 m0).bind fun y => RLv sl sc n 0 428 [qr 0, qr 1, qi x2, qn, qn, qn, qn, qn, qi x8, qn, qi x10, qn, qj x12, qn, qn, qn, qj x16, qn, qn, qn, qn, qn, qn] [] [(38, m0)] 0 y) (fun _ => rfl) (Sim.call (f_podNode_ok x8 m0) (fun _ _ => rfl) (runP_mono _ _ _ _ _ _) (fun _ => runL_mono _ _ _ _ _) (fun r_97 => Sim.shift 0 (G := fun n => RL sl sc n 0 428 [qr 0, qr 1, qi x2, qn, qn, qn, qn, qn, qi x8, qn, qi x10, qn, qj x12, qn, qn, qn, qj x16, qn, qn, qn, qn, qn, qn] [vi r_97] [(38, m0)]) (fun _ => rfl) (Sim.shift 2 (G := fun n => if r_97 = x10 then RL sl sc n 0 435 [qr 0, qr 1, qi x2, qn, qn, qn, qn, qn, qi x8, qn, qi x10, qn, qj x12, qn, qn, qn, qj x16, qn, qn, qn, qn, qn, qn] [] [(38, m0)] else RL sl sc n 0 433 [qr 0, qr 1, qi x2, qn, qn, qn, qn, qn, qi x8, qn, qi x10, qn, qj x12, qn, qn, qn, qj x16, qn, qn, qn, qn, qn, qn] [] [(38, m0)]) (fun _ => rfl) (Sim.ite (fun _ => Sim.shift 2 (G := fun n => RL sl sc n 0 438 [qr 0, qr 1, qi x2, qn, qn, qn, qn, qn, qn, qn, qi x10, qn, qj x12, qn, qn, qn, qj x16, qn, qi 0, qn, qn, qn, qn] [] [(38, m0)]) (fun _ => rfl) (Sim.bind (Sim.lp (σ := Int) (fun x18L => l_law_l438_ok sl sc m0 x2 x10 x12 x16 x18L) NN 0) (fun e => match e with | (.inl _) => Sim.pur _ _ | (.inr (.inl _)) => Sim.pur _ _ | (.inr (.inr _)) => Sim.shift 1 (G := fun n => RL sl sc n 0 572 [qr 0, qr 1, qi x2, qn, qn, qn, qn, qn, qn, qn, qn, qn, qn, qn, qn, qn, qn, qn, qn, qn, qn, qn, qn] [] [(38, m0)]) (fun _ => rfl) (l_law_b572_ok sl sc x2 m0)))) (fun _ => Sim.leaf rfl (fun _ => rfl))))))) (fun _ => Sim.leaf rfl (fun _ => rfl)))))))
def l_law_b357 (sl : Int) (sc : Int → Int) (x2 x8 x9 x10 x12 x14 x15 : Int) (m0 : OMem) : Option ((Int × OMem) ⊕ ((OMem) ⊕ (OMem) ⊕ (OMem) ⊕ (OMem) ⊕ (OMem) ⊕ (OMem) ⊕ (OMem) ⊕ (OMem) ⊕ (OMem))) := (l_snap sl sc m0).bind fun r_94 => (if x9 = 0 then (l_law_b381 sl sc x2 x8 x9 x10 x12 x14 x15 r_94 m0) else (if x15 < 0 then (some (.inr (.inr (.inl m0)))) else (if 2 < x15 then (some (.inr (.inr (.inl m0)))) else (l_law_b381 sl sc x2 x8 x9 x10 x12 x14 x15 r_94 m0))))
set_option maxRecDepth 65536 in
set_option maxHeartbeats 16000000 in
theorem l_law_b357_ok (sl : Int) (sc : Int → Int) (x2 x8 x9 x10 x12 x14 x15 : Int) (m0 : OMem) : Sim (l_law_b357 sl sc x2 x8 x9 x10 x12 x14 x15 m0) (Sum.elim (l_law_l13_H sl sc ) (l_law_l13_X sl sc )) (fun n => RL sl sc n 0 357 [qr 0, qr 1, qi x2, qn, qn, qn, qn, qn, qi x8, qi x9, qi x10, qn, qj x12, qn, qi x14, qi x15, qn, qn, qn, qn, qn, qn, qn] [] [(38, m0)]) :=
  Sim.shift 2 (G := fun n => (RL sl sc n 1 0 [qr 1, qn, qn, qn, qn, qn, qn, qn] [] [(38, m0)]).bind fun y => RLr sl sc n 0 361 [qr 0, qr 1, qi x2, qn, qn, qn, qn, qn, qi x8, qi x9, qi x10, qn, qj x12, qn, qi x14, qi x15, qn, qn, qn, qn, qn, qn, qn] [] y) (fun _ => rfl) (Sim.call (l_snap_ok sl sc m0) (fun _ _ => rfl) (runL_mono _ _ _ _ _) (fun _ => runL_mono _ _ _ _ _) (fun r_94 => Sim.shift 0 (G := fun n => RL sl sc n 0 361 [qr 0, qr 1, qi x2, qn, qn, qn, qn, qn, qi x8, qi x9, qi x10, qn, qj x12, qn, qi x14, qi x15, qn, qn, qn, qn, qn, qn, qn] [vl r_94] [(38, m0)]) (fun _ => rfl) (Sim.shift 3 (G := fun n => if x9 = 0 then RL sl sc n 0 381 [qr 0, qr 1, qi x2, qn, qn, qn, qn, qn, qi x8, qi x9, qi x10, qn, qj x12, qn, qi x14, qi x15, qj r_94, qn, qn, qn, qn, qn, qn] [] [(38, m0)] else RL sl sc n 0 368 [qr 0, qr 1, qi x2, qn, qn, qn, qn, qn, qi x8, qi x9, qi x10, qn, qj x12, qn, qi x14, qi x15, qj r_94, qn, qn, qn, qn, qn, qn] [] [(38, m0)]) (fun _ => rfl) (Sim.ite (fun _ => l_law_b381_ok sl sc x2 x8 x9 x10 x12 x14 x15 r_94 m0) (fun _ => Sim.shift 2 (G := fun n => if x15 < 0 then RL sl sc n 0 379 [qr 0, qr 1, qi x2, qn, qn, qn, qn, qn, qi x8, qi x9, qi x10, qn, qj x12, qn, qi x14, qi x15, qj r_94, qn, qn, qn, qn, qn, qn] [] [(38, m0)] else RL sl sc n 0 373 [qr 0, qr 1, qi x2, qn, qn, qn, qn, qn, qi x8, qi x9, qi x10, qn, qj x12, qn, qi x14, qi x15, qj r_94, qn, qn, qn, qn, qn, qn] [] [(38, m0)]) (fun _ => rfl) (Sim.ite (fun _ => Sim.leaf rfl (fun _ => rfl)) (fun _ => Sim.shift 3 (G := fun n => if 2 < x15 then RL sl sc n 0 379 [qr 0, qr 1, qi x2, qn, qn, qn, qn, qn, qi x8, qi x9, qi x10, qn, qj x12, qn, qi x14, qi x15, qj r_94, qn, qn, qn, qn, qn, qn] [] [(38, m0)] else RL sl sc n 0 381 [qr 0, qr 1, qi x2, qn, qn, qn, qn, qn, qi x8, qi x9, qi x10, qn, qj x12, qn, qi x14, qi x15, qj r_94, qn, qn, qn, qn, qn, qn] [] [(38, m0)]) (fun _ => rfl) (Sim.ite (fun _ => Sim.leaf rfl (fun _ => rfl)) (fun _ => l_law_b381_ok sl sc x2 x8 x9 x10 x12 x14 x15 r_94 m0)))))))))
def l_law_b355 (sl : Int) (sc : Int → Int) (x2 x8 x9 x10 x12 x14 s0 : Int) (m0 : OMem) : Option ((Int × OMem) ⊕ ((OMem) ⊕ (OMem) ⊕ (OMem) ⊕ (OMem) ⊕ (OMem) ⊕ (OMem) ⊕ (OMem) ⊕ (OMem) ⊕ (OMem))) := l_law_b357 sl sc x2 x8 x9 x10 x12 x14 s0 m0
set_option maxRecDepth 65536 in
set_option maxHeartbeats 16000000 in
theorem l_law_b355_ok (sl : Int) (sc : Int → Int) (x2 x8 x9 x10 x12 x14 s0 : Int) (m0 : OMem) : Sim (l_law_b355 sl sc x2 x8 x9 x10 x12 x14 s0 m0) (Sum.elim (l_law_l13_H sl sc ) (l_law_l13_X sl sc )) (fun n => RL sl sc n 0 355 [qr 0, qr 1, qi x2, qn, qn, qn, qn, qn, qi x8, qi x9, qi x10, qn, qj x12, qn, qi x14, qn, qn, qn, qn, qn, qn, qn, qn] [vi s0] [(38, m0)]) :=
  Sim.shift 1 (G := fun n => RL sl sc n 0 357 [qr 0, qr 1, qi x2, qn, qn, qn, qn, qn, qi x8, qi x9, qi x10, qn, qj x12, qn, qi x14, qi s0, qn, qn, qn, qn, qn, qn, qn] [] [(38, m0)]) (fun _ => rfl) (l_law_b357_ok sl sc x2 x8 x9 x10 x12 x14 s0 m0)
def l_law_b251 (sl : Int) (sc : Int → Int) (x2 x3 x8 s0 : Int) (m0 : OMem) : Option ((Int × OMem) ⊕ ((OMem) ⊕ (OMem) ⊕ (OMem) ⊕ (OMem) ⊕ (OMem) ⊕ (OMem) ⊕ (OMem) ⊕ (OMem) ⊕ (OMem))) := (lp (l_law_l262 sl sc m0 x2 x3 x8 s0) NN ((-1), (-1), 0)).bind fun x10_86 => ((l_snap sl sc m0).bind fun r_90 => ((f_lastOutcome m0).bind fun r_91 => (if x3 = 5 then ((f_schedule x8 m0).bind fun (r_92, m_93) => (l_law_b357 sl sc x2 x8 s0 x10_86 r_90 r_91 r_92 m_93)) else ((f_scheduleNext m0).bind fun (r_98, m_99) => (if r_98 = x8 then (if r_98 < 0 then (l_law_b355 sl sc x2 x8 s0 x10_86 r_90 r_91 (-1) m_99) else ((f_lastOutcome m_99).bind fun r_100 => (l_law_b355 sl sc x2 x8 s0 x10_86 r_90 r_91 r_100 m_99))) else (some (.inr (.inl m_99))))))))
set_option maxRecDepth 65536 in
set_option maxHeartbeats 16000000 in
theorem l_law_b251_ok (sl : Int) (sc : Int → Int) (x2 x3 x8 s0 : Int) (m0 : OMem) : Sim (l_law_b251 sl sc x2 x3 x8 s0 m0) (Sum.elim (l_law_l13_H sl sc ) (l_law_l13_X sl sc )) (fun n => RL sl sc n 0 251 [qr 0, qr 1, qi x2, qi x3, qn, qn, qn, qn, qi x8, qn, qn, qn, qn, qn, qn, qn, qn, qn, qn, qn, qn, qn, qn] [vi s0] [(38, m0)]) :=
  Sim.shift 5 (G := fun n => RL sl sc n 0 259 [qr 0, qr 1, qi x2, qi x3, qn, qn, qn, qn, qi x8, qi s0, qi (-1), qi (-1), qn, qn, qn, qn, qn, qn, qn, qn, qn, qn, qn] [] [(38, m0)]) (fun _ => rfl) (Sim.shift 2 (G := fun n => RL sl sc n 0 262 [qr 0, qr 1, qi x2, qi x3, qn, qn, qn, qn, qi x8, qi s0, qi (-1), qi (-1), qi 0, qn, qn, qn, qn, qn, qn, qn, qn, qn, qn] [] [(38, m0)]) (fun _ => rfl) (Sim.bind (Sim.lp (σ := Int × Int × Int) (fun ⟨x10L, x11L, x12L⟩ => l_law_l262_ok sl sc m0 x2 x3 x8 s0 x10L x11L x12L) NN ((-1), (-1), 0)) (fun x10_86 => Sim.shift 2 (G := fun n => (RL sl sc n 1 0 [qr 1, qn, qn, qn, qn, qn, qn, qn] [] [(38, m0)]).bind fun y => RLr sl sc n 0 303 [qr 0, qr 1, qi x2, qi x3, qn, qn, qn, qn, qi x8, qi s0, qi x10_86, qn, qn, qn, qn, qn, qn, qn, qn, qn, qn, qn, qn] [] y) (fun _ => rfl) (Sim.call (l_snap_ok sl sc m0) (fun _ _ => rfl) (runL_mono _ _ _ _ _) (fun _ => runL_mono _ _ _ _ _) (fun r_90 => Sim.shift 0 (G := fun n => RL sl sc n 0 303 [qr 0, qr 1, qi x2, qi x3, qn, qn, qn, qn, qi x8, qi s0, qi x10_86, qn, qn, qn, qn, qn, qn, qn, qn, qn, qn, qn, qn] [vl r_90] [(38, m0)]) (fun _ => rfl) (Sim.shift 3 (G := fun n => (R n 14 0 [qr 0] [] 38 m0).bind fun y => RLv sl sc n 0 309 [qr 0, qr 1, qi x2, qi x3, qn, qn, qn, qn, qi x8, qi s0, qi x10_86, qn, qj r_90, qn, qn, qn, qn, qn, qn, qn, qn, qn, qn] [] [(38, m0)] 0 y) (fun _ => rfl) (Sim.call (f_lastOutcome_ok 38 m0) (fun _ _ => rfl) (runP_mono _ _ _ _ _ _) (fun _ => runL_mono _ _ _ _ _) (fun r_91 => Sim.shift 0 (G := fun n => RL sl sc n 0 309 [qr 0, qr 1, qi x2, qi x3, qn, qn, qn, qn, qi x8, qi s0, qi x10_86, qn, qj r_90, qn, qn, qn, qn, qn, qn, qn, qn, qn, qn] [vi r_91] [(38, m0)]) (fun _ => rfl) (Sim.shift 4 (G := fun n => if x3 = 5 then RL sl sc n 0 316 [qr 0, qr 1, qi x2, qi x3, qn, qn, qn, qn, qi x8, qi s0, qi x10_86, qn, qj r_90, qn, qi r_91, qn, qn, qn, qn, qn, qn, qn, qn] [] [(38, m0)] else RL sl sc n 0 327 [qr 0, qr 1, qi x2, qi x3, qn, qn, qn, qn, qi x8, qi s0, qi x10_86, qn, qj r_90, qn, qi r_91, qn, qn, qn, qn, qn, qn, qn, qn] [] [(38, m0)]) (fun _ => rfl) (Sim.ite (fun _ => Sim.shift 3 (G := fun n => (R n 25 0 [qr 0, qi x8] [] 38 m0).bind fun y => RLv sl sc n 0 322 [qr 0, qr 1, qi x2, qn, qn, qn, qn, qn, qi x8, qi s0, qi x10_86, qn, qj r_90, qn, qi r_91, qn, qn, qn, qn, qn, qn, qn, qn] [] [(38, m0)] 0 y) (fun _ => rfl) (Sim.call (f_schedule_ok x8 m0) (fun _ _ => rfl) (runP_mono _ _ _ _ _ _) (fun _ => runL_mono _ _ _ _ _) (fun ⟨r_92, m_93⟩ => Sim.shift 0 (G := fun n => RL sl sc n 0 322 [qr 0, qr 1, qi x2, qn, qn, qn, qn, qn, qi x8, qi s0, qi x10_86, qn, qj r_90, qn, qi r_91, qn, qn, qn, qn, qn, qn, qn, qn] [vi r_92] [(38, m_93)]) (fun _ => rfl) (Sim.shift 2 (G := fun n => RL sl sc n 0 357 [qr 0, qr 1, qi x2, qn, qn, qn, qn, qn, qi x8, qi s0, qi x10_86, qn, qj r_90, qn, qi r_91, qi r_92, qn, qn, qn, qn, qn, qn, qn] [] [(38, m_93)]) (fun _ => rfl) (l_law_b357_ok sl sc x2 x8 s0 x10_86 r_90 r_91 r_92 m_93))))) (fun _ => Sim.shift 2 (G := fun n => (R n 15 0 [qr 0, qn, qn] [] 38 m0).bind fun y => RLv sl sc n 0 331 [qr 0, qr 1, qi x2, qn, qn, qn, qn, qn, qi x8, qi s0, qi x10_86, qn, qj r_90, qn, qi r_91, qn, qn, qn, qn, qn, qn, qn, qn] [] [(38, m0)] 0 y) (fun _ => rfl) (Sim.call (f_scheduleNext_ok m0) (fun _ _ => rfl) (runP_mono _ _ _ _ _ _) (fun _ => runL_mono _ _ _ _ _) (fun ⟨r_98, m_99⟩ => Sim.shift 0 (G := fun n => RL sl sc n 0 331 [qr 0, qr 1, qi x2, qn, qn, qn, qn, qn, qi x8, qi s0, qi x10_86, qn, qj r_90, qn, qi r_91, qn, qn, qn, qn, qn, qn, qn, qn] [vi r_98] [(38, m_99)]) (fun _ => rfl) (Sim.shift 4 (G := fun n => if r_98 = x8 then RL sl sc n 0 342 [qr 0, qr 1, qi x2, qn, qn, qn, qn, qn, qi x8, qi s0, qi x10_86, qn, qj r_90, qn, qi r_91, qn, qi r_98, qn, qn, qn, qn, qn, qn] [] [(38, m_99)] else RL sl sc n 0 340 [qr 0, qr 1, qi x2, qn, qn, qn, qn, qn, qi x8, qi s0, qi x10_86, qn, qj r_90, qn, qi r_91, qn, qi r_98, qn, qn, qn, qn, qn, qn] [] [(38, m_99)]) (fun _ => rfl) (Sim.ite (fun _ => Sim.shift 2 (G := fun n => if r_98 < 0 then RL sl sc n 0 347 [qr 0, qr 1, qi x2, qn, qn, qn, qn, qn, qi x8, qi s0, qi x10_86, qn, qj r_90, qn, qi r_91, qn, qi r_98, qn, qn, qn, qn, qn, qn] [] [(38, m_99)] else RL sl sc n 0 351 [qr 0, qr 1, qi x2, qn, qn, qn, qn, qn, qi x8, qi s0, qi x10_86, qn, qj r_90, qn, qi r_91, qn, qi r_98, qn, qn, qn, qn, qn, qn] [] [(38, m_99)]) (fun _ => rfl) (Sim.ite (fun _ => Sim.shift 2 (G := fun n => RL sl sc n 0 355 [qr 0, qr 1, qi x2, qn, qn, qn, qn, qn, qi x8, qi s0, qi x10_86, qn, qj r_90, qn, qi r_91, qn, qn, qn, qn, qn, qn, qn, qn] [vi (-1)] [(38, m_99)]) (fun _ => rfl) (l_law_b355_ok sl sc x2 x8 s0 x10_86 r_90 r_91 (-1) m_99)) (fun _ => Sim.shift 2 (G := fun n => (R n 14 0 [qr 0] [] 38 m_99).bind fun y => RLv sl sc n 0 355 [qr 0, qr 1, qi x2, qn, qn, qn, qn, qn, qi x8, qi s0, qi x10_86, qn, qj r_90, qn, qi r_91, qn, qn, qn, qn, qn, qn, qn, qn] [] [(38, m_99)] 0 y) (fun _ => rfl) (Sim.call (f_lastOutcome_ok 38 m_99) (fun _ _ => rfl) (runP_mono _ _ _ _ _ _) (fun _ => runL_mono _ _ _ _ _) (fun r_100 => Sim.shift 0 (G := fun n => RL sl sc n 0 355 [qr 0, qr 1, qi x2, qn, qn, qn, qn, qn, qi x8, qi s0, qi x10_86, qn, qj r_90, qn, qi r_91, qn, qn, qn, qn, qn, qn, qn, qn] [vi r_100] [(38, m_99)]) (fun _ => rfl) (l_law_b355_ok sl sc x2 x8 s0 x10_86 r_90 r_91 r_100 m_99)))))) (fun _ => Sim.leaf rfl (fun _ => rfl)))))))))))))))))
def l_law_b236 (sl : Int) (sc : Int → Int) (x2 x3 x8 : Int) (m0 : OMem) : Option ((Int × OMem) ⊕ ((OMem) ⊕ (OMem) ⊕ (OMem) ⊕ (OMem) ⊕ (OMem) ⊕ (OMem) ⊕ (OMem) ⊕ (OMem) ⊕ (OMem))) := (f_podState x8 m0).bind fun r_84 => (if r_84 = 1 then (l_law_b251 sl sc x2 x3 x8 1 m0) else (l_law_b251 sl sc x2 x3 x8 0 m0))
set_option maxRecDepth 65536 in
set_option maxHeartbeats 16000000 in
theorem l_law_b236_ok (sl : Int) (sc : Int → Int) (x2 x3 x8 : Int) (m0 : OMem) : Sim (l_law_b236 sl sc x2 x3 x8 m0) (Sum.elim (l_law_l13_H sl sc ) (l_law_l13_X sl sc )) (fun n => RL sl sc n 0 236 [qr 0, qr 1, qi x2, qi x3, qn, qn, qn, qn, qi x8, qn, qn, qn, qn, qn, qn, qn, qn, qn, qn, qn, qn, qn, qn] [] [(38, m0)]) :=
  Sim.shift 3 (G := fun n => (R n 10 0 [qr 0, qi x8] [] 38 m0).bind fun y => RLv sl sc n 0 242 [qr 0, qr 1, qi x2, qi x3, qn, qn, qn, qn, qi x8, qn, qn, qn, qn, qn, qn, qn, qn, qn, qn, qn, qn, qn, qn] [] [(38, m0)] 0 y) (fun _ => rfl) (Sim.call (f_podState_ok x8 m0) (fun _ _ => rfl) (runP_mono _ _ _ _ _ _) (fun _ => runL_mono _ _ _ _ _) (fun r_84 => Sim.shift 0 (G := fun n => RL sl sc n 0 242 [qr 0, qr 1, qi x2, qi x3, qn, qn, qn, qn, qi x8, qn, qn, qn, qn, qn, qn, qn, qn, qn, qn, qn, qn, qn, qn] [vi r_84] [(38, m0)]) (fun _ => rfl) (Sim.shift 2 (G := fun n => if r_84 = 1 then RL sl sc n 0 246 [qr 0, qr 1, qi x2, qi x3, qn, qn, qn, qn, qi x8, qn, qn, qn, qn, qn, qn, qn, qn, qn, qn, qn, qn, qn, qn] [] [(38, m0)] else RL sl sc n 0 250 [qr 0, qr 1, qi x2, qi x3, qn, qn, qn, qn, qi x8, qn, qn, qn, qn, qn, qn, qn, qn, qn, qn, qn, qn, qn, qn] [] [(38, m0)]) (fun _ => rfl) (Sim.ite (fun _ => Sim.shift 2 (G := fun n => RL sl sc n 0 251 [qr 0, qr 1, qi x2, qi x3, qn, qn, qn, qn, qi x8, qn, qn, qn, qn, qn, qn, qn, qn, qn, qn, qn, qn, qn, qn] [vi 1] [(38, m0)]) (fun _ => rfl) (l_law_b251_ok sl sc x2 x3 x8 1 m0)) (fun _ => Sim.shift 1 (G := fun n => RL sl sc n 0 251 [qr 0, qr 1, qi x2, qi x3, qn, qn, qn, qn, qi x8, qn, qn, qn, qn, qn, qn, qn, qn, qn, qn, qn, qn, qn, qn] [vi 0] [(38, m0)]) (fun _ => rfl) (l_law_b251_ok sl sc x2 x3 x8 0 m0))))))
def l_law_l210_H (sl : Int) (sc : Int → Int) (m0 : OMem) (x2 x3 : Int) : Int × Int → Nat → RTL := fun (x8, x9) n => RL sl sc n 0 210 [qr 0, qr 1, qi x2, qi x3, qn, qn, qn, qn, qi x8, qi x9, qn, qn, qn, qn, qn, qn, qn, qn, qn, qn, qn, qn, qn] [] [(38, m0)]
def l_law_l210_X (sl : Int) (sc : Int → Int) (m0 : OMem) (x2 x3 : Int) : (Int) → Nat → RTL := fun e n => match e with | y8 => RL sl sc n 0 236 [qr 0, qr 1, qi x2, qi x3, qn, qn, qn, qn, qi y8, qn, qn, qn, qn, qn, qn, qn, qn, qn, qn, qn, qn, qn, qn] [] [(38, m0)]
def l_law_b230 (sl : Int) (sc : Int → Int) (x2 x3 x8 x9 : Int) (m0 : OMem) : Option ((Int × Int) ⊕ ((Int))) := some (.inl (x8, w32 (x9 + 1)))
set_option maxRecDepth 65536 in
set_option maxHeartbeats 16000000 in
theorem l_law_b230_ok (sl : Int) (sc : Int → Int) (x2 x3 x8 x9 : Int) (m0 : OMem) : Sim (l_law_b230 sl sc x2 x3 x8 x9 m0) (Sum.elim (l_law_l210_H sl sc m0 x2 x3 ) (l_law_l210_X sl sc m0 x2 x3 )) (fun n => RL sl sc n 0 230 [qr 0, qr 1, qi x2, qi x3, qn, qn, qn, qn, qi x8, qi x9, qn, qn, qn, qn, qn, qn, qn, qn, qn, qn, qn, qn, qn] [] [(38, m0)]) :=
  Sim.shift 2 (G := fun n => RL sl sc n 0 210 [qr 0, qr 1, qi x2, qi x3, qn, qn, qn, qn, qi x8, qi (w32 (x9 + 1)), qn, qn, qn, qn, qn, qn, qn, qn, qn, qn, qn, qn, qn] [] [(38, m0)]) (fun _ => rfl) (Sim.pur _ _)
def l_law_l210 (sl : Int) (sc : Int → Int) (m0 : OMem) (x2 x3 : Int) : Int × Int → Option ((Int × Int) ⊕ ((Int))) := fun (x8, x9) => if x9 < 8 then ((f_pendingRank x9 m0).bind fun r_101 => (if r_101 = 0 then (l_law_b230 sl sc x2 x3 x9 x9 m0) else (l_law_b230 sl sc x2 x3 x8 x9 m0))) else (some (.inr x8))
set_option maxRecDepth 65536 in
set_option maxHeartbeats 16000000 in
theorem l_law_l210_ok (sl : Int) (sc : Int → Int) (m0 : OMem) (x2 x3 : Int) (x8 x9 : Int) : Sim (l_law_l210 sl sc m0 x2 x3 (x8, x9)) (Sum.elim (l_law_l210_H sl sc m0 x2 x3 ) (l_law_l210_X sl sc m0 x2 x3 )) (l_law_l210_H sl sc m0 x2 x3 (x8, x9)) :=
  Sim.shift 3 (G := fun n => if x9 < 8 then RL sl sc n 0 217 [qr 0, qr 1, qi x2, qi x3, qn, qn, qn, qn, qi x8, qi x9, qn, qn, qn, qn, qn, qn, qn, qn, qn, qn, qn, qn, qn] [] [(38, m0)] else RL sl sc n 0 236 [qr 0, qr 1, qi x2, qi x3, qn, qn, qn, qn, qi x8, qi x9, qn, qn, qn, qn, qn, qn, qn, qn, qn, qn, qn, qn, qn] [] [(38, m0)]) (fun _ => rfl) (Sim.ite (fun _ => Sim.shift 3 (G := fun n => (R n 9 0 [qr 0, qi x9, qn, qn] [] 38 m0).bind fun y => RLv sl sc n 0 223 [qr 0, qr 1, qi x2, qi x3, qn, qn, qn, qn, qi x8, qi x9, qn, qn, qn, qn, qn, qn, qn, qn, qn, qn, qn, qn, qn] [] [(38, m0)] 0 y) (fun _ => rfl) (Sim.call (f_pendingRank_ok x9 m0) (fun _ _ => rfl) (runP_mono _ _ _ _ _ _) (fun _ => runL_mono _ _ _ _ _) (fun r_101 => Sim.shift 0 (G := fun n => RL sl sc n 0 223 [qr 0, qr 1, qi x2, qi x3, qn, qn, qn, qn, qi x8, qi x9, qn, qn, qn, qn, qn, qn, qn, qn, qn, qn, qn, qn, qn] [vi r_101] [(38, m0)]) (fun _ => rfl) (Sim.shift 1 (G := fun n => if r_101 = 0 then RL sl sc n 0 226 [qr 0, qr 1, qi x2, qi x3, qn, qn, qn, qn, qi x8, qi x9, qn, qn, qn, qn, qn, qn, qn, qn, qn, qn, qn, qn, qn] [] [(38, m0)] else RL sl sc n 0 230 [qr 0, qr 1, qi x2, qi x3, qn, qn, qn, qn, qi x8, qi x9, qn, qn, qn, qn, qn, qn, qn, qn, qn, qn, qn, qn, qn] [] [(38, m0)]) (fun _ => rfl) (Sim.ite (fun _ => Sim.shift 2 (G := fun n => RL sl sc n 0 230 [qr 0, qr 1, qi x2, qi x3, qn, qn, qn, qn, qi x9, qi x9, qn, qn, qn, qn, qn, qn, qn, qn, qn, qn, qn, qn, qn] [] [(38, m0)]) (fun _ => rfl) (l_law_b230_ok sl sc x2 x3 x9 x9 m0)) (fun _ => l_law_b230_ok sl sc x2 x3 x8 x9 m0)))))) (fun _ => Sim.leaf rfl (fun _ => rfl)))
def l_law_l13 (sl : Int) (sc : Int → Int) : Int × OMem → Option ((Int × OMem) ⊕ ((OMem) ⊕ (OMem) ⊕ (OMem) ⊕ (OMem) ⊕ (OMem) ⊕ (OMem) ⊕ (OMem) ⊕ (OMem) ⊕ (OMem))) := fun (x2, m0) => if w32 (x2 + 4) < sl then (if 0 ≤ x2 ∧ x2 < sl then (if 0 ≤ w32 (x2 + 1) ∧ w32 (x2 + 1) < sl then (if 0 ≤ w32 (x2 + 2) ∧ w32 (x2 + 2) < sl then (if 0 ≤ w32 (x2 + 3) ∧ w32 (x2 + 3) < sl then (if 0 ≤ w32 (x2 + 4) ∧ w32 (x2 + 4) < sl then (if and32 (sc x2) 7 = 0 then ((f_addNode (and32 (sc (w32 (x2 + 1))) 63) (and32 (sc (w32 (x2 + 2))) 63) (and32 (sc (w32 (x2 + 3))) 7) (and32 (sc (w32 (x2 + 4))) 511) m0).bind fun (r_74, m_75) => (l_law_b572 sl sc x2 m_75)) else (if and32 (sc x2) 7 = 1 then ((f_removeNode (and32 (sc (w32 (x2 + 1))) 7) m0).bind fun (r_76, m_77) => (l_law_b572 sl sc x2 m_77)) else (if and32 (sc x2) 7 = 2 then ((f_createPod (and32 (sc (w32 (x2 + 1))) 15) (and32 (sc (w32 (x2 + 2))) 15) (and32 (sc (w32 (x2 + 3))) 7) (or32 (and32 (sc (w32 (x2 + 4))) 259) (shl32 (and32 (shr32 (sc (w32 (x2 + 4))) 4) 3) 16)) m0).bind fun (r_78, m_79) => (l_law_b572 sl sc x2 m_79)) else (if and32 (sc x2) 7 = 3 then ((f_deletePod (and32 (sc (w32 (x2 + 1))) 15) m0).bind fun (r_80, m_81) => (l_law_b572 sl sc x2 m_81)) else (if and32 (sc x2) 7 = 4 then ((f_setBudget (and32 (sc (w32 (x2 + 1))) 15) (and32 (sc (w32 (x2 + 2))) 3) m0).bind fun (r_82, m_83) => (l_law_b572 sl sc x2 m_83)) else (if and32 (sc x2) 7 < 6 then (l_law_b236 sl sc x2 (and32 (sc x2) 7) (and32 (sc (w32 (x2 + 1))) 15) m0) else ((lp (l_law_l210 sl sc m0 x2 (and32 (sc x2) 7)) NN ((-1), 0)).bind fun x8_102 => (l_law_b236 sl sc x2 (and32 (sc x2) 7) x8_102 m0)))))))) else none) else none) else none) else none) else none) else (some (.inr (.inr (.inr (.inr (.inr (.inr (.inr (.inr (.inr m0))))))))))
set_option maxRecDepth 65536 in
set_option maxHeartbeats 16000000 in
theorem l_law_l13_ok (sl : Int) (sc : Int → Int) (x2 : Int) (m0 : OMem) : Sim (l_law_l13 sl sc (x2, m0)) (Sum.elim (l_law_l13_H sl sc ) (l_law_l13_X sl sc )) (l_law_l13_H sl sc (x2, m0)) :=
  Sim.shift 6 (G := fun n => if w32 (x2 + 4) < sl then RL sl sc n 0 21 [qr 0, qr 1, qi x2, qn, qn, qn, qn, qn, qn, qn, qn, qn, qn, qn, qn, qn, qn, qn, qn, qn, qn, qn, qn] [] [(38, m0)] else RL sl sc n 0 578 [qr 0, qr 1, qi x2, qn, qn, qn, qn, qn, qn, qn, qn, qn, qn, qn, qn, qn, qn, qn, qn, qn, qn, qn, qn] [] [(38, m0)]) (fun _ => rfl) (Sim.ite (fun _ => Sim.shift 3 (G := fun n => if 0 ≤ x2 ∧ x2 < sl then RL sl sc n 0 24 [qr 0, qr 1, qi x2, qn, qn, qn, qn, qn, qn, qn, qn, qn, qn, qn, qn, qn, qn, qn, qn, qn, qn, qn, qn] [vi (sc x2)] [(38, m0)] else none) (fun _ => rfl) (Sim.grd fun _ => Sim.shift 5 (G := fun n => RL sl sc n 0 30 [qr 0, qr 1, qi x2, qi (and32 (sc x2) 7), qn, qn, qn, qn, qn, qn, qn, qn, qn, qn, qn, qn, qn, qn, qn, qn, qn, qn, qn] [vi x2, vr 0] [(38, m0)]) (fun _ => rfl) (Sim.shift 3 (G := fun n => if 0 ≤ w32 (x2 + 1) ∧ w32 (x2 + 1) < sl then RL sl sc n 0 33 [qr 0, qr 1, qi x2, qi (and32 (sc x2) 7), qn, qn, qn, qn, qn, qn, qn, qn, qn, qn, qn, qn, qn, qn, qn, qn, qn, qn, qn] [vi (sc (w32 (x2 + 1)))] [(38, m0)] else none) (fun _ => rfl) (Sim.grd fun _ => Sim.shift 5 (G := fun n => RL sl sc n 0 39 [qr 0, qr 1, qi x2, qi (and32 (sc x2) 7), qi (sc (w32 (x2 + 1))), qn, qn, qn, qn, qn, qn, qn, qn, qn, qn, qn, qn, qn, qn, qn, qn, qn, qn] [vi (w32 (x2 + 2)), vr 0] [(38, m0)]) (fun _ => rfl) (Sim.shift 1 (G := fun n => if 0 ≤ w32 (x2 + 2) ∧ w32 (x2 + 2) < sl then RL sl sc n 0 40 [qr 0, qr 1, qi x2, qi (and32 (sc x2) 7), qi (sc (w32 (x2 + 1))), qn, qn, qn, qn, qn, qn, qn, qn, qn, qn, qn, qn, qn, qn, qn, qn, qn, qn] [vi (sc (w32 (x2 + 2)))] [(38, m0)] else none) (fun _ => rfl) (Sim.grd fun _ => Sim.shift 5 (G := fun n => RL sl sc n 0 46 [qr 0, qr 1, qi x2, qi (and32 (sc x2) 7), qi (sc (w32 (x2 + 1))), qi (sc (w32 (x2 + 2))), qn, qn, qn, qn, qn, qn, qn, qn, qn, qn, qn, qn, qn, qn, qn, qn, qn] [vi (w32 (x2 + 3)), vr 0] [(38, m0)]) (fun _ => rfl) (Sim.shift 1 (G := fun n => if 0 ≤ w32 (x2 + 3) ∧ w32 (x2 + 3) < sl then RL sl sc n 0 47 [qr 0, qr 1, qi x2, qi (and32 (sc x2) 7), qi (sc (w32 (x2 + 1))), qi (sc (w32 (x2 + 2))), qn, qn, qn, qn, qn, qn, qn, qn, qn, qn, qn, qn, qn, qn, qn, qn, qn] [vi (sc (w32 (x2 + 3)))] [(38, m0)] else none) (fun _ => rfl) (Sim.grd fun _ => Sim.shift 5 (G := fun n => RL sl sc n 0 53 [qr 0, qr 1, qi x2, qi (and32 (sc x2) 7), qi (sc (w32 (x2 + 1))), qi (sc (w32 (x2 + 2))), qi (sc (w32 (x2 + 3))), qn, qn, qn, qn, qn, qn, qn, qn, qn, qn, qn, qn, qn, qn, qn, qn] [vi (w32 (x2 + 4)), vr 0] [(38, m0)]) (fun _ => rfl) (Sim.shift 1 (G := fun n => if 0 ≤ w32 (x2 + 4) ∧ w32 (x2 + 4) < sl then RL sl sc n 0 54 [qr 0, qr 1, qi x2, qi (and32 (sc x2) 7), qi (sc (w32 (x2 + 1))), qi (sc (w32 (x2 + 2))), qi (sc (w32 (x2 + 3))), qn, qn, qn, qn, qn, qn, qn, qn, qn, qn, qn, qn, qn, qn, qn, qn] [vi (sc (w32 (x2 + 4)))] [(38, m0)] else none) (fun _ => rfl) (Sim.grd fun _ => Sim.shift 3 (G := fun n => if and32 (sc x2) 7 = 0 then RL sl sc n 0 60 [qr 0, qr 1, qi x2, qi (and32 (sc x2) 7), qi (sc (w32 (x2 + 1))), qi (sc (w32 (x2 + 2))), qi (sc (w32 (x2 + 3))), qi (sc (w32 (x2 + 4))), qn, qn, qn, qn, qn, qn, qn, qn, qn, qn, qn, qn, qn, qn, qn] [] [(38, m0)] else RL sl sc n 0 89 [qr 0, qr 1, qi x2, qi (and32 (sc x2) 7), qi (sc (w32 (x2 + 1))), qi (sc (w32 (x2 + 2))), qi (sc (w32 (x2 + 3))), qi (sc (w32 (x2 + 4))), qn, qn, qn, qn, qn, qn, qn, qn, qn, qn, qn, qn, qn, qn, qn] [] [(38, m0)]) (fun _ => rfl) (Sim.ite (fun _ => Sim.shift 6 (G := fun n => RL sl sc n 0 70 [qr 0, qr 1, qi x2, qn, qi (sc (w32 (x2 + 1))), qi (sc (w32 (x2 + 2))), qi (sc (w32 (x2 + 3))), qi (sc (w32 (x2 + 4))), qn, qn, qn, qn, qn, qn, qn, qn, qn, qn, qn, qn, qn, qn, qn] [vi 63, vi (sc (w32 (x2 + 2))), vi (and32 (sc (w32 (x2 + 1))) 63), vr 1] [(38, m0)]) (fun _ => rfl) (Sim.shift 3 (G := fun n => RL sl sc n 0 75 [qr 0, qr 1, qi x2, qn, qi (sc (w32 (x2 + 1))), qi (sc (w32 (x2 + 2))), qi (sc (w32 (x2 + 3))), qi (sc (w32 (x2 + 4))), qn, qn, qn, qn, qn, qn, qn, qn, qn, qn, qn, qn, qn, qn, qn] [vi 7, vi (sc (w32 (x2 + 3))), vi (and32 (sc (w32 (x2 + 2))) 63), vi (and32 (sc (w32 (x2 + 1))) 63), vr 1] [(38, m0)]) (fun _ => rfl) (Sim.shift 3 (G := fun n => RL sl sc n 0 81 [qr 0, qr 1, qi x2, qn, qi (sc (w32 (x2 + 1))), qi (sc (w32 (x2 + 2))), qi (sc (w32 (x2 + 3))), qi (sc (w32 (x2 + 4))), qn, qn, qn, qn, qn, qn, qn, qn, qn, qn, qn, qn, qn, qn, qn] [vi 511, vi (sc (w32 (x2 + 4))), vi (and32 (sc (w32 (x2 + 3))) 7), vi (and32 (sc (w32 (x2 + 2))) 63), vi (and32 (sc (w32 (x2 + 1))) 63), vr 1] [(38, m0)]) (fun _ => rfl) (Sim.shift 2 (G := fun n => (R n 4 0 [qr 0, qi (and32 (sc (w32 (x2 + 1))) 63), qi (and32 (sc (w32 (x2 + 2))) 63), qi (and32 (sc (w32 (x2 + 3))) 7), qi (and32 (sc (w32 (x2 + 4))) 511), qn, qn] [] 38 m0).bind fun y => RLv sl sc n 0 85 [qr 0, qr 1, qi x2, qn, qi (sc (w32 (x2 + 1))), qi (sc (w32 (x2 + 2))), qi (sc (w32 (x2 + 3))), qi (sc (w32 (x2 + 4))), qn, qn, qn, qn, qn, qn, qn, qn, qn, qn, qn, qn, qn, qn, qn] [] [(38, m0)] 0 y) (fun _ => rfl) (Sim.call (f_addNode_ok (and32 (sc (w32 (x2 + 1))) 63) (and32 (sc (w32 (x2 + 2))) 63) (and32 (sc (w32 (x2 + 3))) 7) (and32 (sc (w32 (x2 + 4))) 511) m0) (fun _ _ => rfl) (runP_mono _ _ _ _ _ _) (fun _ => runL_mono _ _ _ _ _) (fun ⟨r_74, m_75⟩ => Sim.shift 0 (G := fun n => RL sl sc n 0 85 [qr 0, qr 1, qi x2, qn, qi (sc (w32 (x2 + 1))), qi (sc (w32 (x2 + 2))), qi (sc (w32 (x2 + 3))), qi (sc (w32 (x2 + 4))), qn, qn, qn, qn, qn, qn, qn, qn, qn, qn, qn, qn, qn, qn, qn] [vi r_74] [(38, m_75)]) (fun _ => rfl) (Sim.shift 2 (G := fun n => RL sl sc n 0 572 [qr 0, qr 1, qi x2, qn, qi (sc (w32 (x2 + 1))), qi (sc (w32 (x2 + 2))), qi (sc (w32 (x2 + 3))), qi (sc (w32 (x2 + 4))), qn, qn, qn, qn, qn, qn, qn, qn, qn, qn, qn, qn, qn, qn, qn] [] [(38, m_75)]) (fun _ => rfl) (Sim.jmp (l_law_b572_ok sl sc x2 m_75) rfl (fun _ => rfl))))))))) (fun _ => Sim.shift 3 (G := fun n => if and32 (sc x2) 7 = 1 then RL sl sc n 0 94 [qr 0, qr 1, qi x2, qi (and32 (sc x2) 7), qi (sc (w32 (x2 + 1))), qi (sc (w32 (x2 + 2))), qi (sc (w32 (x2 + 3))), qi (sc (w32 (x2 + 4))), qn, qn, qn, qn, qn, qn, qn, qn, qn, qn, qn, qn, qn, qn, qn] [] [(38, m0)] else RL sl sc n 0 107 [qr 0, qr 1, qi x2, qi (and32 (sc x2) 7), qi (sc (w32 (x2 + 1))), qi (sc (w32 (x2 + 2))), qi (sc (w32 (x2 + 3))), qi (sc (w32 (x2 + 4))), qn, qn, qn, qn, qn, qn, qn, qn, qn, qn, qn, qn, qn, qn, qn] [] [(38, m0)]) (fun _ => rfl) (Sim.ite (fun _ => Sim.shift 5 (G := fun n => (R n 7 0 [qr 0, qi (and32 (sc (w32 (x2 + 1))) 7), qn, qn] [] 38 m0).bind fun y => RLv sl sc n 0 103 [qr 0, qr 1, qi x2, qn, qi (sc (w32 (x2 + 1))), qn, qn, qn, qn, qn, qn, qn, qn, qn, qn, qn, qn, qn, qn, qn, qn, qn, qn] [] [(38, m0)] 0 y) (fun _ => rfl) (Sim.call (f_removeNode_ok (and32 (sc (w32 (x2 + 1))) 7) m0) (fun _ _ => rfl) (runP_mono _ _ _ _ _ _) (fun _ => runL_mono _ _ _ _ _) (fun ⟨r_76, m_77⟩ => Sim.shift 0 (G := fun n => RL sl sc n 0 103 [qr 0, qr 1, qi x2, qn, qi (sc (w32 (x2 + 1))), qn, qn, qn, qn, qn, qn, qn, qn, qn, qn, qn, qn, qn, qn, qn, qn, qn, qn] [vi r_76] [(38, m_77)]) (fun _ => rfl) (Sim.shift 2 (G := fun n => RL sl sc n 0 572 [qr 0, qr 1, qi x2, qn, qi (sc (w32 (x2 + 1))), qn, qn, qn, qn, qn, qn, qn, qn, qn, qn, qn, qn, qn, qn, qn, qn, qn, qn] [] [(38, m_77)]) (fun _ => rfl) (Sim.jmp (l_law_b572_ok sl sc x2 m_77) rfl (fun _ => rfl)))))) (fun _ => Sim.shift 3 (G := fun n => if and32 (sc x2) 7 = 2 then RL sl sc n 0 112 [qr 0, qr 1, qi x2, qi (and32 (sc x2) 7), qi (sc (w32 (x2 + 1))), qi (sc (w32 (x2 + 2))), qi (sc (w32 (x2 + 3))), qi (sc (w32 (x2 + 4))), qn, qn, qn, qn, qn, qn, qn, qn, qn, qn, qn, qn, qn, qn, qn] [] [(38, m0)] else RL sl sc n 0 151 [qr 0, qr 1, qi x2, qi (and32 (sc x2) 7), qi (sc (w32 (x2 + 1))), qi (sc (w32 (x2 + 2))), qi (sc (w32 (x2 + 3))), qi (sc (w32 (x2 + 4))), qn, qn, qn, qn, qn, qn, qn, qn, qn, qn, qn, qn, qn, qn, qn] [] [(38, m0)]) (fun _ => rfl) (Sim.ite (fun _ => Sim.shift 6 (G := fun n => RL sl sc n 0 122 [qr 0, qr 1, qi x2, qn, qi (sc (w32 (x2 + 1))), qi (sc (w32 (x2 + 2))), qi (sc (w32 (x2 + 3))), qi (sc (w32 (x2 + 4))), qn, qn, qn, qn, qn, qn, qn, qn, qn, qn, qn, qn, qn, qn, qn] [vi 15, vi (sc (w32 (x2 + 2))), vi (and32 (sc (w32 (x2 + 1))) 15), vr 1] [(38, m0)]) (fun _ => rfl) (Sim.shift 3 (G := fun n => RL sl sc n 0 127 [qr 0, qr 1, qi x2, qn, qi (sc (w32 (x2 + 1))), qi (sc (w32 (x2 + 2))), qi (sc (w32 (x2 + 3))), qi (sc (w32 (x2 + 4))), qn, qn, qn, qn, qn, qn, qn, qn, qn, qn, qn, qn, qn, qn, qn] [vi 7, vi (sc (w32 (x2 + 3))), vi (and32 (sc (w32 (x2 + 2))) 15), vi (and32 (sc (w32 (x2 + 1))) 15), vr 1] [(38, m0)]) (fun _ => rfl) (Sim.shift 3 (G := fun n => RL sl sc n 0 133 [qr 0, qr 1, qi x2, qn, qi (sc (w32 (x2 + 1))), qi (sc (w32 (x2 + 2))), qi (sc (w32 (x2 + 3))), qi (sc (w32 (x2 + 4))), qn, qn, qn, qn, qn, qn, qn, qn, qn, qn, qn, qn, qn, qn, qn] [vi 259, vi (sc (w32 (x2 + 4))), vi (and32 (sc (w32 (x2 + 3))) 7), vi (and32 (sc (w32 (x2 + 2))) 15), vi (and32 (sc (w32 (x2 + 1))) 15), vr 1] [(38, m0)]) (fun _ => rfl) (Sim.shift 3 (G := fun n => RL sl sc n 0 137 [qr 0, qr 1, qi x2, qn, qi (sc (w32 (x2 + 1))), qi (sc (w32 (x2 + 2))), qi (sc (w32 (x2 + 3))), qi (sc (w32 (x2 + 4))), qn, qn, qn, qn, qn, qn, qn, qn, qn, qn, qn, qn, qn, qn, qn] [vi 4, vi (sc (w32 (x2 + 4))), vi (and32 (sc (w32 (x2 + 4))) 259), vi (and32 (sc (w32 (x2 + 3))) 7), vi (and32 (sc (w32 (x2 + 2))) 15), vi (and32 (sc (w32 (x2 + 1))) 15), vr 1] [(38, m0)]) (fun _ => rfl) (Sim.shift 2 (G := fun n => RL sl sc n 0 139 [qr 0, qr 1, qi x2, qn, qi (sc (w32 (x2 + 1))), qi (sc (w32 (x2 + 2))), qi (sc (w32 (x2 + 3))), qi (sc (w32 (x2 + 4))), qn, qn, qn, qn, qn, qn, qn, qn, qn, qn, qn, qn, qn, qn, qn] [vi 3, vi (shr32 (sc (w32 (x2 + 4))) 4), vi (and32 (sc (w32 (x2 + 4))) 259), vi (and32 (sc (w32 (x2 + 3))) 7), vi (and32 (sc (w32 (x2 + 2))) 15), vi (and32 (sc (w32 (x2 + 1))) 15), vr 1] [(38, m0)]) (fun _ => rfl) (Sim.shift 2 (G := fun n => RL sl sc n 0 142 [qr 0, qr 1, qi x2, qn, qi (sc (w32 (x2 + 1))), qi (sc (w32 (x2 + 2))), qi (sc (w32 (x2 + 3))), qi (sc (w32 (x2 + 4))), qn, qn, qn, qn, qn, qn, qn, qn, qn, qn, qn, qn, qn, qn, qn] [vi 16, vi (and32 (shr32 (sc (w32 (x2 + 4))) 4) 3), vi (and32 (sc (w32 (x2 + 4))) 259), vi (and32 (sc (w32 (x2 + 3))) 7), vi (and32 (sc (w32 (x2 + 2))) 15), vi (and32 (sc (w32 (x2 + 1))) 15), vr 1] [(38, m0)]) (fun _ => rfl) (Sim.shift 1 (G := fun n => RL sl sc n 0 143 [qr 0, qr 1, qi x2, qn, qi (sc (w32 (x2 + 1))), qi (sc (w32 (x2 + 2))), qi (sc (w32 (x2 + 3))), qi (sc (w32 (x2 + 4))), qn, qn, qn, qn, qn, qn, qn, qn, qn, qn, qn, qn, qn, qn, qn] [vi (shl32 (and32 (shr32 (sc (w32 (x2 + 4))) 4) 3) 16), vi (and32 (sc (w32 (x2 + 4))) 259), vi (and32 (sc (w32 (x2 + 3))) 7), vi (and32 (sc (w32 (x2 + 2))) 15), vi (and32 (sc (w32 (x2 + 1))) 15), vr 1] [(38, m0)]) (fun _ => rfl) (Sim.shift 2 (G := fun n => (R n 5 0 [qr 0, qi (and32 (sc (w32 (x2 + 1))) 15), qi (and32 (sc (w32 (x2 + 2))) 15), qi (and32 (sc (w32 (x2 + 3))) 7), qi (or32 (and32 (sc (w32 (x2 + 4))) 259) (shl32 (and32 (shr32 (sc (w32 (x2 + 4))) 4) 3) 16)), qn, qn] [] 38 m0).bind fun y => RLv sl sc n 0 147 [qr 0, qr 1, qi x2, qn, qi (sc (w32 (x2 + 1))), qi (sc (w32 (x2 + 2))), qi (sc (w32 (x2 + 3))), qi (sc (w32 (x2 + 4))), qn, qn, qn, qn, qn, qn, qn, qn, qn, qn, qn, qn, qn, qn, qn] [] [(38, m0)] 0 y) (fun _ => rfl) (Sim.call (f_createPod_ok (and32 (sc (w32 (x2 + 1))) 15) (and32 (sc (w32 (x2 + 2))) 15) (and32 (sc (w32 (x2 + 3))) 7) (or32 (and32 (sc (w32 (x2 + 4))) 259) (shl32 (and32 (shr32 (sc (w32 (x2 + 4))) 4) 3) 16)) m0) (fun _ _ => rfl) (runP_mono _ _ _ _ _ _) (fun _ => runL_mono _ _ _ _ _) (fun ⟨r_78, m_79⟩ => Sim.shift 0 (G := fun n => RL sl sc n 0 147 [qr 0, qr 1, qi x2, qn, qi (sc (w32 (x2 + 1))), qi (sc (w32 (x2 + 2))), qi (sc (w32 (x2 + 3))), qi (sc (w32 (x2 + 4))), qn, qn, qn, qn, qn, qn, qn, qn, qn, qn, qn, qn, qn, qn, qn] [vi r_78] [(38, m_79)]) (fun _ => rfl) (Sim.shift 2 (G := fun n => RL sl sc n 0 572 [qr 0, qr 1, qi x2, qn, qi (sc (w32 (x2 + 1))), qi (sc (w32 (x2 + 2))), qi (sc (w32 (x2 + 3))), qi (sc (w32 (x2 + 4))), qn, qn, qn, qn, qn, qn, qn, qn, qn, qn, qn, qn, qn, qn, qn] [] [(38, m_79)]) (fun _ => rfl) (Sim.jmp (l_law_b572_ok sl sc x2 m_79) rfl (fun _ => rfl))))))))))))) (fun _ => Sim.shift 3 (G := fun n => if and32 (sc x2) 7 = 3 then RL sl sc n 0 156 [qr 0, qr 1, qi x2, qi (and32 (sc x2) 7), qi (sc (w32 (x2 + 1))), qi (sc (w32 (x2 + 2))), qn, qn, qn, qn, qn, qn, qn, qn, qn, qn, qn, qn, qn, qn, qn, qn, qn] [] [(38, m0)] else RL sl sc n 0 169 [qr 0, qr 1, qi x2, qi (and32 (sc x2) 7), qi (sc (w32 (x2 + 1))), qi (sc (w32 (x2 + 2))), qn, qn, qn, qn, qn, qn, qn, qn, qn, qn, qn, qn, qn, qn, qn, qn, qn] [] [(38, m0)]) (fun _ => rfl) (Sim.ite (fun _ => Sim.shift 5 (G := fun n => (R n 2 0 [qr 0, qi (and32 (sc (w32 (x2 + 1))) 15)] [] 38 m0).bind fun y => RLv sl sc n 0 165 [qr 0, qr 1, qi x2, qn, qi (sc (w32 (x2 + 1))), qn, qn, qn, qn, qn, qn, qn, qn, qn, qn, qn, qn, qn, qn, qn, qn, qn, qn] [] [(38, m0)] 0 y) (fun _ => rfl) (Sim.call (f_deletePod_ok (and32 (sc (w32 (x2 + 1))) 15) m0) (fun _ _ => rfl) (runP_mono _ _ _ _ _ _) (fun _ => runL_mono _ _ _ _ _) (fun ⟨r_80, m_81⟩ => Sim.shift 0 (G := fun n => RL sl sc n 0 165 [qr 0, qr 1, qi x2, qn, qi (sc (w32 (x2 + 1))), qn, qn, qn, qn, qn, qn, qn, qn, qn, qn, qn, qn, qn, qn, qn, qn, qn, qn] [vi r_80] [(38, m_81)]) (fun _ => rfl) (Sim.shift 2 (G := fun n => RL sl sc n 0 572 [qr 0, qr 1, qi x2, qn, qi (sc (w32 (x2 + 1))), qn, qn, qn, qn, qn, qn, qn, qn, qn, qn, qn, qn, qn, qn, qn, qn, qn, qn] [] [(38, m_81)]) (fun _ => rfl) (Sim.jmp (l_law_b572_ok sl sc x2 m_81) rfl (fun _ => rfl)))))) (fun _ => Sim.shift 3 (G := fun n => if and32 (sc x2) 7 = 4 then RL sl sc n 0 174 [qr 0, qr 1, qi x2, qi (and32 (sc x2) 7), qi (sc (w32 (x2 + 1))), qi (sc (w32 (x2 + 2))), qn, qn, qn, qn, qn, qn, qn, qn, qn, qn, qn, qn, qn, qn, qn, qn, qn] [] [(38, m0)] else RL sl sc n 0 191 [qr 0, qr 1, qi x2, qi (and32 (sc x2) 7), qi (sc (w32 (x2 + 1))), qi (sc (w32 (x2 + 2))), qn, qn, qn, qn, qn, qn, qn, qn, qn, qn, qn, qn, qn, qn, qn, qn, qn] [] [(38, m0)]) (fun _ => rfl) (Sim.ite (fun _ => Sim.shift 6 (G := fun n => RL sl sc n 0 183 [qr 0, qr 1, qi x2, qn, qi (sc (w32 (x2 + 1))), qi (sc (w32 (x2 + 2))), qn, qn, qn, qn, qn, qn, qn, qn, qn, qn, qn, qn, qn, qn, qn, qn, qn] [vi 3, vi (sc (w32 (x2 + 2))), vi (and32 (sc (w32 (x2 + 1))) 15), vr 1] [(38, m0)]) (fun _ => rfl) (Sim.shift 2 (G := fun n => (R n 24 0 [qr 0, qi (and32 (sc (w32 (x2 + 1))) 15), qi (and32 (sc (w32 (x2 + 2))) 3)] [] 38 m0).bind fun y => RLv sl sc n 0 187 [qr 0, qr 1, qi x2, qn, qi (sc (w32 (x2 + 1))), qi (sc (w32 (x2 + 2))), qn, qn, qn, qn, qn, qn, qn, qn, qn, qn, qn, qn, qn, qn, qn, qn, qn] [] [(38, m0)] 0 y) (fun _ => rfl) (Sim.call (f_setBudget_ok (and32 (sc (w32 (x2 + 1))) 15) (and32 (sc (w32 (x2 + 2))) 3) m0) (fun _ _ => rfl) (runP_mono _ _ _ _ _ _) (fun _ => runL_mono _ _ _ _ _) (fun ⟨r_82, m_83⟩ => Sim.shift 0 (G := fun n => RL sl sc n 0 187 [qr 0, qr 1, qi x2, qn, qi (sc (w32 (x2 + 1))), qi (sc (w32 (x2 + 2))), qn, qn, qn, qn, qn, qn, qn, qn, qn, qn, qn, qn, qn, qn, qn, qn, qn] [vi r_82] [(38, m_83)]) (fun _ => rfl) (Sim.shift 2 (G := fun n => RL sl sc n 0 572 [qr 0, qr 1, qi x2, qn, qi (sc (w32 (x2 + 1))), qi (sc (w32 (x2 + 2))), qn, qn, qn, qn, qn, qn, qn, qn, qn, qn, qn, qn, qn, qn, qn, qn, qn] [] [(38, m_83)]) (fun _ => rfl) (Sim.jmp (l_law_b572_ok sl sc x2 m_83) rfl (fun _ => rfl))))))) (fun _ => Sim.shift 5 (G := fun n => RL sl sc n 0 199 [qr 0, qr 1, qi x2, qi (and32 (sc x2) 7), qi (sc (w32 (x2 + 1))), qn, qn, qn, qi (and32 (sc (w32 (x2 + 1))) 15), qn, qn, qn, qn, qn, qn, qn, qn, qn, qn, qn, qn, qn, qn] [vi (and32 (sc x2) 7)] [(38, m0)]) (fun _ => rfl) (Sim.shift 2 (G := fun n => if and32 (sc x2) 7 < 6 then RL sl sc n 0 236 [qr 0, qr 1, qi x2, qi (and32 (sc x2) 7), qi (sc (w32 (x2 + 1))), qn, qn, qn, qi (and32 (sc (w32 (x2 + 1))) 15), qn, qn, qn, qn, qn, qn, qn, qn, qn, qn, qn, qn, qn, qn] [] [(38, m0)] else RL sl sc n 0 204 [qr 0, qr 1, qi x2, qi (and32 (sc x2) 7), qi (sc (w32 (x2 + 1))), qn, qn, qn, qi (and32 (sc (w32 (x2 + 1))) 15), qn, qn, qn, qn, qn, qn, qn, qn, qn, qn, qn, qn, qn, qn] [] [(38, m0)]) (fun _ => rfl) (Sim.ite (fun _ => Sim.jmp (l_law_b236_ok sl sc x2 (and32 (sc x2) 7) (and32 (sc (w32 (x2 + 1))) 15) m0) rfl (fun _ => rfl)) (fun _ => Sim.shift 4 (G := fun n => RL sl sc n 0 210 [qr 0, qr 1, qi x2, qi (and32 (sc x2) 7), qn, qn, qn, qn, qi (-1), qi 0, qn, qn, qn, qn, qn, qn, qn, qn, qn, qn, qn, qn, qn] [] [(38, m0)]) (fun _ => rfl) (Sim.bind (Sim.lp (σ := Int × Int) (fun ⟨x8L, x9L⟩ => l_law_l210_ok sl sc m0 x2 (and32 (sc x2) 7) x8L x9L) NN ((-1), 0)) (fun x8_102 => l_law_b236_ok sl sc x2 (and32 (sc x2) 7) x8_102 m0))))))))))))))))))))))))) (fun _ => Sim.leaf rfl (fun _ => rfl)))
def l_law_b379 (sl : Int) (sc : Int → Int) (m0 : OMem) : Option (Int × OWd) := some (0, [(38, m0)])
set_option maxRecDepth 65536 in
set_option maxHeartbeats 16000000 in
theorem l_law_b379_ok (sl : Int) (sc : Int → Int) (m0 : OMem) : Sim (l_law_b379 sl sc m0) (fun (r, w) _ => some (some (vi r), w)) (fun n => RL sl sc n 0 379 [qn, qn, qn, qn, qn, qn, qn, qn, qn, qn, qn, qn, qn, qn, qn, qn, qn, qn, qn, qn, qn, qn, qn] [] [(38, m0)]) :=
  Sim.shift 2 (G := (fun _ => some (some (vi 0), [(38, m0)]))) (fun _ => rfl) (Sim.pur _ _)
def l_law_b409 (sl : Int) (sc : Int → Int) (m0 : OMem) : Option (Int × OWd) := some (0, [(38, m0)])
set_option maxRecDepth 65536 in
set_option maxHeartbeats 16000000 in
theorem l_law_b409_ok (sl : Int) (sc : Int → Int) (m0 : OMem) : Sim (l_law_b409 sl sc m0) (fun (r, w) _ => some (some (vi r), w)) (fun n => RL sl sc n 0 409 [qn, qn, qn, qn, qn, qn, qn, qn, qn, qn, qn, qn, qn, qn, qn, qn, qn, qn, qn, qn, qn, qn, qn] [] [(38, m0)]) :=
  Sim.shift 2 (G := (fun _ => some (some (vi 0), [(38, m0)]))) (fun _ => rfl) (Sim.pur _ _)
def l_law_b433 (sl : Int) (sc : Int → Int) (m0 : OMem) : Option (Int × OWd) := some (0, [(38, m0)])
set_option maxRecDepth 65536 in
set_option maxHeartbeats 16000000 in
theorem l_law_b433_ok (sl : Int) (sc : Int → Int) (m0 : OMem) : Sim (l_law_b433 sl sc m0) (fun (r, w) _ => some (some (vi r), w)) (fun n => RL sl sc n 0 433 [qn, qn, qn, qn, qn, qn, qn, qn, qn, qn, qn, qn, qn, qn, qn, qn, qn, qn, qn, qn, qn, qn, qn] [] [(38, m0)]) :=
  Sim.shift 2 (G := (fun _ => some (some (vi 0), [(38, m0)]))) (fun _ => rfl) (Sim.pur _ _)
def l_law_b528 (sl : Int) (sc : Int → Int) (m0 : OMem) : Option (Int × OWd) := some (0, [(38, m0)])
set_option maxRecDepth 65536 in
set_option maxHeartbeats 16000000 in
theorem l_law_b528_ok (sl : Int) (sc : Int → Int) (m0 : OMem) : Sim (l_law_b528 sl sc m0) (fun (r, w) _ => some (some (vi r), w)) (fun n => RL sl sc n 0 528 [qn, qn, qn, qn, qn, qn, qn, qn, qn, qn, qn, qn, qn, qn, qn, qn, qn, qn, qn, qn, qn, qn, qn] [] [(38, m0)]) :=
  Sim.shift 2 (G := (fun _ => some (some (vi 0), [(38, m0)]))) (fun _ => rfl) (Sim.pur _ _)
def l_law_b570 (sl : Int) (sc : Int → Int) (m0 : OMem) : Option (Int × OWd) := some (0, [(38, m0)])
set_option maxRecDepth 65536 in
set_option maxHeartbeats 16000000 in
theorem l_law_b570_ok (sl : Int) (sc : Int → Int) (m0 : OMem) : Sim (l_law_b570 sl sc m0) (fun (r, w) _ => some (some (vi r), w)) (fun n => RL sl sc n 0 570 [qn, qn, qn, qn, qn, qn, qn, qn, qn, qn, qn, qn, qn, qn, qn, qn, qn, qn, qn, qn, qn, qn, qn] [] [(38, m0)]) :=
  Sim.shift 2 (G := (fun _ => some (some (vi 0), [(38, m0)]))) (fun _ => rfl) (Sim.pur _ _)
def l_law (sl : Int) (sc : Int → Int) : Option (Int × OWd) := (f_init 4 8 z0).bind fun m_73 => ((lp (l_law_l13 sl sc) NN (0, m_73)).bind fun e => match e with | (.inl m_103) => (some (0, [(38, m_103)])) | (.inr (.inl m_104)) => (l_law_b379 sl sc m_104) | (.inr (.inr (.inl m_105))) => (l_law_b409 sl sc m_105) | (.inr (.inr (.inr (.inl m_106)))) => (l_law_b433 sl sc m_106) | (.inr (.inr (.inr (.inr (.inl m_107))))) => (some (0, [(38, m_107)])) | (.inr (.inr (.inr (.inr (.inr (.inl m_108)))))) => (l_law_b528 sl sc m_108) | (.inr (.inr (.inr (.inr (.inr (.inr (.inl m_109))))))) => (some (0, [(38, m_109)])) | (.inr (.inr (.inr (.inr (.inr (.inr (.inr (.inl m_110)))))))) => (l_law_b570 sl sc m_110) | (.inr (.inr (.inr (.inr (.inr (.inr (.inr (.inr m_111)))))))) => (some (1, [(38, m_111)])))
set_option maxRecDepth 65536 in
set_option maxHeartbeats 16000000 in
theorem l_law_ok (sl : Int) (sc : Int → Int) : Sim (l_law sl sc ) (fun (r, w) _ => some (some (vi r), w)) (fun n => RL sl sc n 0 0 [qr 0, qn, qn, qn, qn, qn, qn, qn, qn, qn, qn, qn, qn, qn, qn, qn, qn, qn, qn, qn, qn, qn, qn] [] []) :=
  Sim.shift 5 (G := fun n => (R n 0 0 [qr 0, qi 4, qi 8, qn] [] 0 z0).bind fun y => RLi sl sc n 0 10 [qr 0, qn, qn, qn, qn, qn, qn, qn, qn, qn, qn, qn, qn, qn, qn, qn, qn, qn, qn, qn, qn, qn, qn] [vr 1] [(0, z0)] 0 y) (fun _ => rfl) (Sim.call (f_init_ok 4 8 z0) (fun _ _ => rfl) (runP_mono _ _ _ _ _ _) (fun _ => cond_Mono (runL_mono _ _ _ _ _)) (fun m_73 => Sim.shift 0 (G := fun n => RL sl sc n 0 10 [qr 0, qn, qn, qn, qn, qn, qn, qn, qn, qn, qn, qn, qn, qn, qn, qn, qn, qn, qn, qn, qn, qn, qn] [vr 1] [(38, m_73)]) (fun _ => rfl) (Sim.shift 3 (G := fun n => RL sl sc n 0 13 [qr 0, qr 1, qi 0, qn, qn, qn, qn, qn, qn, qn, qn, qn, qn, qn, qn, qn, qn, qn, qn, qn, qn, qn, qn] [] [(38, m_73)]) (fun _ => rfl) (Sim.bind (Sim.lp (σ := Int × OMem) (fun ⟨x2L, m0L⟩ => l_law_l13_ok sl sc x2L m0L) NN (0, m_73)) (fun e => match e with | (.inl m_103) => Sim.shift 2 (G := (fun _ => some (some (vi 0), [(38, m_103)]))) (fun _ => rfl) (Sim.pur _ _) | (.inr (.inl m_104)) => l_law_b379_ok sl sc m_104 | (.inr (.inr (.inl m_105))) => l_law_b409_ok sl sc m_105 | (.inr (.inr (.inr (.inl m_106)))) => l_law_b433_ok sl sc m_106 | (.inr (.inr (.inr (.inr (.inl m_107))))) => Sim.shift 2 (G := (fun _ => some (some (vi 0), [(38, m_107)]))) (fun _ => rfl) (Sim.pur _ _) | (.inr (.inr (.inr (.inr (.inr (.inl m_108)))))) => l_law_b528_ok sl sc m_108 | (.inr (.inr (.inr (.inr (.inr (.inr (.inl m_109))))))) => Sim.shift 2 (G := (fun _ => some (some (vi 0), [(38, m_109)]))) (fun _ => rfl) (Sim.pur _ _) | (.inr (.inr (.inr (.inr (.inr (.inr (.inr (.inl m_110)))))))) => l_law_b570_ok sl sc m_110 | (.inr (.inr (.inr (.inr (.inr (.inr (.inr (.inr m_111)))))))) => Sim.shift 2 (G := (fun _ => some (some (vi 1), [(38, m_111)]))) (fun _ => rfl) (Sim.pur _ _))))))
def nmT : Nat → MethodName := fun q => cond (Nat.blt q 16) (cond (Nat.blt q 8) (cond (Nat.blt q 4) (cond (Nat.blt q 2) (cond (Nat.blt q 1) (cond (Nat.beq q 0) ((⟨"PodPlacer", "<init>", "(II)V"⟩ : MethodName)) (⟨"PodPlacer", "<init>", "(II)V"⟩ : MethodName)) (cond (Nat.beq q 1) ((⟨"PodPlacer", "clamp", "(III)I"⟩ : MethodName)) (⟨"PodPlacer", "<init>", "(II)V"⟩ : MethodName))) (cond (Nat.blt q 3) (cond (Nat.beq q 2) ((⟨"PodPlacer", "deletePod", "(I)Z"⟩ : MethodName)) (⟨"PodPlacer", "<init>", "(II)V"⟩ : MethodName)) (cond (Nat.beq q 3) ((⟨"PodPlacer", "validPod", "(I)Z"⟩ : MethodName)) (⟨"PodPlacer", "<init>", "(II)V"⟩ : MethodName)))) (cond (Nat.blt q 6) (cond (Nat.blt q 5) (cond (Nat.beq q 4) ((⟨"PodPlacer", "addNode", "(IIII)I"⟩ : MethodName)) (⟨"PodPlacer", "<init>", "(II)V"⟩ : MethodName)) (cond (Nat.beq q 5) ((⟨"PodPlacer", "createPod", "(IIII)I"⟩ : MethodName)) (⟨"PodPlacer", "<init>", "(II)V"⟩ : MethodName))) (cond (Nat.blt q 7) (cond (Nat.beq q 6) ((⟨"PodPlacer", "queue", "(I)V"⟩ : MethodName)) (⟨"PodPlacer", "<init>", "(II)V"⟩ : MethodName)) (cond (Nat.beq q 7) ((⟨"PodPlacer", "removeNode", "(I)I"⟩ : MethodName)) (⟨"PodPlacer", "<init>", "(II)V"⟩ : MethodName))))) (cond (Nat.blt q 12) (cond (Nat.blt q 10) (cond (Nat.blt q 9) (cond (Nat.beq q 8) ((⟨"PodPlacer", "validNode", "(I)Z"⟩ : MethodName)) (⟨"PodPlacer", "<init>", "(II)V"⟩ : MethodName)) (cond (Nat.beq q 9) ((⟨"PodPlacer", "pendingRank", "(I)I"⟩ : MethodName)) (⟨"PodPlacer", "<init>", "(II)V"⟩ : MethodName))) (cond (Nat.blt q 11) (cond (Nat.beq q 10) ((⟨"PodPlacer", "podState", "(I)I"⟩ : MethodName)) (⟨"PodPlacer", "<init>", "(II)V"⟩ : MethodName)) (cond (Nat.beq q 11) ((⟨"PodPlacer", "score", "(II)I"⟩ : MethodName)) (⟨"PodPlacer", "<init>", "(II)V"⟩ : MethodName)))) (cond (Nat.blt q 14) (cond (Nat.blt q 13) (cond (Nat.beq q 12) ((⟨"PodPlacer", "fits", "(II)Z"⟩ : MethodName)) (⟨"PodPlacer", "<init>", "(II)V"⟩ : MethodName)) (cond (Nat.beq q 13) ((⟨"PodPlacer", "nodeUsed", "(II)I"⟩ : MethodName)) (⟨"PodPlacer", "<init>", "(II)V"⟩ : MethodName))) (cond (Nat.blt q 15) (cond (Nat.beq q 14) ((⟨"PodPlacer", "lastOutcome", "()I"⟩ : MethodName)) (⟨"PodPlacer", "<init>", "(II)V"⟩ : MethodName)) (cond (Nat.beq q 15) ((⟨"PodPlacer", "scheduleNext", "()I"⟩ : MethodName)) (⟨"PodPlacer", "<init>", "(II)V"⟩ : MethodName)))))) (cond (Nat.blt q 24) (cond (Nat.blt q 20) (cond (Nat.blt q 18) (cond (Nat.blt q 17) (cond (Nat.beq q 16) ((⟨"PodPlacer", "attempt", "(I)I"⟩ : MethodName)) (⟨"PodPlacer", "<init>", "(II)V"⟩ : MethodName)) (cond (Nat.beq q 17) ((⟨"PodPlacer", "bestFitNode", "(I)I"⟩ : MethodName)) (⟨"PodPlacer", "<init>", "(II)V"⟩ : MethodName))) (cond (Nat.blt q 19) (cond (Nat.beq q 18) ((⟨"PodPlacer", "findPreemption", "(I)Z"⟩ : MethodName)) (⟨"PodPlacer", "<init>", "(II)V"⟩ : MethodName)) (cond (Nat.beq q 19) ((⟨"PodPlacer", "computeGroupBound", "()V"⟩ : MethodName)) (⟨"PodPlacer", "<init>", "(II)V"⟩ : MethodName)))) (cond (Nat.blt q 22) (cond (Nat.blt q 21) (cond (Nat.beq q 20) ((⟨"PodPlacer", "evaluateNode", "(II)V"⟩ : MethodName)) (⟨"PodPlacer", "<init>", "(II)V"⟩ : MethodName)) (cond (Nat.beq q 21) ((⟨"PodPlacer", "record", "(II)V"⟩ : MethodName)) (⟨"PodPlacer", "<init>", "(II)V"⟩ : MethodName))) (cond (Nat.blt q 23) (cond (Nat.beq q 22) ((⟨"PodPlacer", "labelsMatch", "(II)Z"⟩ : MethodName)) (⟨"PodPlacer", "<init>", "(II)V"⟩ : MethodName)) (cond (Nat.beq q 23) ((⟨"PodPlacer", "usedOf", "(II)I"⟩ : MethodName)) (⟨"PodPlacer", "<init>", "(II)V"⟩ : MethodName))))) (cond (Nat.blt q 28) (cond (Nat.blt q 26) (cond (Nat.blt q 25) (cond (Nat.beq q 24) ((⟨"PodPlacer", "setBudget", "(II)Z"⟩ : MethodName)) (⟨"PodPlacer", "<init>", "(II)V"⟩ : MethodName)) (cond (Nat.beq q 25) ((⟨"PodPlacer", "schedule", "(I)I"⟩ : MethodName)) (⟨"PodPlacer", "<init>", "(II)V"⟩ : MethodName))) (cond (Nat.blt q 27) (cond (Nat.beq q 26) ((⟨"PodPlacer", "groupOnNode", "(II)I"⟩ : MethodName)) (⟨"PodPlacer", "<init>", "(II)V"⟩ : MethodName)) (cond (Nat.beq q 27) ((⟨"PodPlacer", "scoreOf", "(II)I"⟩ : MethodName)) (⟨"PodPlacer", "<init>", "(II)V"⟩ : MethodName)))) (cond (Nat.blt q 30) (cond (Nat.blt q 29) (cond (Nat.beq q 28) ((⟨"PodPlacer", "bind", "(II)V"⟩ : MethodName)) (⟨"PodPlacer", "<init>", "(II)V"⟩ : MethodName)) (cond (Nat.beq q 29) ((⟨"PodPlacer", "podNode", "(I)I"⟩ : MethodName)) (⟨"PodPlacer", "<init>", "(II)V"⟩ : MethodName))) (cond (Nat.blt q 31) (cond (Nat.beq q 30) ((⟨"PodPlacer", "evaluateSubset", "(III)V"⟩ : MethodName)) (⟨"PodPlacer", "<init>", "(II)V"⟩ : MethodName)) (cond (Nat.beq q 31) ((⟨"PodPlacer", "better", "(IIIII)Z"⟩ : MethodName)) (⟨"PodPlacer", "<init>", "(II)V"⟩ : MethodName))))))
def byT : Nat → ByteArray := fun q => cond (Nat.blt q 16) (cond (Nat.blt q 8) (cond (Nat.blt q 4) (cond (Nat.blt q 2) (cond (Nat.blt q 1) (cond (Nat.beq q 0) (prog_1_method_1_code) prog_1_method_1_code) (cond (Nat.beq q 1) (prog_1_method_2_code) prog_1_method_1_code)) (cond (Nat.blt q 3) (cond (Nat.beq q 2) (prog_1_method_6_code) prog_1_method_1_code) (cond (Nat.beq q 3) (prog_1_method_17_code) prog_1_method_1_code))) (cond (Nat.blt q 6) (cond (Nat.blt q 5) (cond (Nat.beq q 4) (prog_1_method_3_code) prog_1_method_1_code) (cond (Nat.beq q 5) (prog_1_method_5_code) prog_1_method_1_code)) (cond (Nat.blt q 7) (cond (Nat.beq q 6) (prog_1_method_19_code) prog_1_method_1_code) (cond (Nat.beq q 7) (prog_1_method_4_code) prog_1_method_1_code)))) (cond (Nat.blt q 12) (cond (Nat.blt q 10) (cond (Nat.blt q 9) (cond (Nat.beq q 8) (prog_1_method_18_code) prog_1_method_1_code) (cond (Nat.beq q 9) (prog_1_method_12_code) prog_1_method_1_code)) (cond (Nat.blt q 11) (cond (Nat.beq q 10) (prog_1_method_10_code) prog_1_method_1_code) (cond (Nat.beq q 11) (prog_1_method_14_code) prog_1_method_1_code))) (cond (Nat.blt q 14) (cond (Nat.blt q 13) (cond (Nat.beq q 12) (prog_1_method_25_code) prog_1_method_1_code) (cond (Nat.beq q 13) (prog_1_method_13_code) prog_1_method_1_code)) (cond (Nat.blt q 15) (cond (Nat.beq q 14) (prog_1_method_15_code) prog_1_method_1_code) (cond (Nat.beq q 15) (prog_1_method_9_code) prog_1_method_1_code))))) (cond (Nat.blt q 24) (cond (Nat.blt q 20) (cond (Nat.blt q 18) (cond (Nat.blt q 17) (cond (Nat.beq q 16) (prog_1_method_28_code) prog_1_method_1_code) (cond (Nat.beq q 17) (prog_1_method_27_code) prog_1_method_1_code)) (cond (Nat.blt q 19) (cond (Nat.beq q 18) (prog_1_method_30_code) prog_1_method_1_code) (cond (Nat.beq q 19) (prog_1_method_29_code) prog_1_method_1_code))) (cond (Nat.blt q 22) (cond (Nat.blt q 21) (cond (Nat.beq q 20) (prog_1_method_31_code) prog_1_method_1_code) (cond (Nat.beq q 21) (prog_1_method_21_code) prog_1_method_1_code)) (cond (Nat.blt q 23) (cond (Nat.beq q 22) (prog_1_method_24_code) prog_1_method_1_code) (cond (Nat.beq q 23) (prog_1_method_22_code) prog_1_method_1_code)))) (cond (Nat.blt q 28) (cond (Nat.blt q 26) (cond (Nat.blt q 25) (cond (Nat.beq q 24) (prog_1_method_7_code) prog_1_method_1_code) (cond (Nat.beq q 25) (prog_1_method_8_code) prog_1_method_1_code)) (cond (Nat.blt q 27) (cond (Nat.beq q 26) (prog_1_method_23_code) prog_1_method_1_code) (cond (Nat.beq q 27) (prog_1_method_26_code) prog_1_method_1_code))) (cond (Nat.blt q 30) (cond (Nat.blt q 29) (cond (Nat.beq q 28) (prog_1_method_20_code) prog_1_method_1_code) (cond (Nat.beq q 29) (prog_1_method_11_code) prog_1_method_1_code)) (cond (Nat.blt q 31) (cond (Nat.beq q 30) (prog_1_method_32_code) prog_1_method_1_code) (cond (Nat.beq q 31) (prog_1_method_33_code) prog_1_method_1_code)))))
def fnmN : Nat → String × String := fun n => cond (Nat.blt n 17) (cond (Nat.blt n 8) (cond (Nat.blt n 4) (cond (Nat.blt n 2) (cond (Nat.blt n 1) (cond (Nat.beq n 0) (("nodePresent", "[Z")) ("", "")) (cond (Nat.beq n 1) (("nodeCpu", "[I")) ("", ""))) (cond (Nat.blt n 3) (cond (Nat.beq n 2) (("nodeMem", "[I")) ("", "")) (cond (Nat.beq n 3) (("nodeCap", "[I")) ("", "")))) (cond (Nat.blt n 6) (cond (Nat.blt n 5) (cond (Nat.beq n 4) (("nodeLabels", "[I")) ("", "")) (cond (Nat.beq n 5) (("nodeTaints", "[I")) ("", ""))) (cond (Nat.blt n 7) (cond (Nat.beq n 6) (("pState", "[I")) ("", "")) (cond (Nat.beq n 7) (("pNode", "[I")) ("", ""))))) (cond (Nat.blt n 12) (cond (Nat.blt n 10) (cond (Nat.blt n 9) (cond (Nat.beq n 8) (("pCpu", "[I")) ("", "")) (cond (Nat.beq n 9) (("pMem", "[I")) ("", ""))) (cond (Nat.blt n 11) (cond (Nat.beq n 10) (("pPrio", "[I")) ("", "")) (cond (Nat.beq n 11) (("pTol", "[I")) ("", "")))) (cond (Nat.blt n 14) (cond (Nat.blt n 13) (cond (Nat.beq n 12) (("pSel", "[I")) ("", "")) (cond (Nat.beq n 13) (("pGroup", "[I")) ("", ""))) (cond (Nat.blt n 15) (cond (Nat.beq n 14) (("pStamp", "[I")) ("", "")) (cond (Nat.blt n 16) (cond (Nat.beq n 15) (("budget", "[I")) ("", "")) (cond (Nat.beq n 16) (("candPods", "[I")) ("", ""))))))) (cond (Nat.blt n 26) (cond (Nat.blt n 21) (cond (Nat.blt n 19) (cond (Nat.blt n 18) (cond (Nat.beq n 17) (("groupBound", "[I")) ("", "")) (cond (Nat.beq n 18) (("vicGroup", "[I")) ("", ""))) (cond (Nat.blt n 20) (cond (Nat.beq n 19) (("nodeLimit", "I")) ("", "")) (cond (Nat.beq n 20) (("podLimit", "I")) ("", "")))) (cond (Nat.blt n 23) (cond (Nat.blt n 22) (cond (Nat.beq n 21) (("stampCounter", "I")) ("", "")) (cond (Nat.beq n 22) (("lastOut", "I")) ("", ""))) (cond (Nat.blt n 24) (cond (Nat.beq n 23) (("lastVict", "I")) ("", "")) (cond (Nat.blt n 25) (cond (Nat.beq n 24) (("bestMask", "I")) ("", "")) (cond (Nat.beq n 25) (("bestNode", "I")) ("", "")))))) (cond (Nat.blt n 30) (cond (Nat.blt n 28) (cond (Nat.blt n 27) (cond (Nat.beq n 26) (("bestFound", "Z")) ("", "")) (cond (Nat.beq n 27) (("baseC", "I")) ("", ""))) (cond (Nat.blt n 29) (cond (Nat.beq n 28) (("baseM", "I")) ("", "")) (cond (Nat.beq n 29) (("baseK", "I")) ("", "")))) (cond (Nat.blt n 32) (cond (Nat.blt n 31) (cond (Nat.beq n 30) (("baseGroup", "I")) ("", "")) (cond (Nat.beq n 31) (("candCount", "I")) ("", ""))) (cond (Nat.blt n 33) (cond (Nat.beq n 32) (("bestMax", "I")) ("", "")) (cond (Nat.blt n 34) (cond (Nat.beq n 33) (("bestCnt", "I")) ("", "")) (cond (Nat.beq n 34) (("bestSum", "I")) ("", "")))))))
def fkdN : Nat → Option (Nat × Nat × Bool) := fun n => cond (Nat.blt n 35) (cond (Nat.blt n 17) (cond (Nat.blt n 8) (cond (Nat.blt n 4) (cond (Nat.blt n 2) (cond (Nat.blt n 1) (cond (Nat.beq n 0) (some (0, 1, false)) none) (cond (Nat.beq n 1) (some (0, 2, false)) none)) (cond (Nat.blt n 3) (cond (Nat.beq n 2) (some (0, 3, false)) none) (cond (Nat.beq n 3) (some (0, 4, false)) none))) (cond (Nat.blt n 6) (cond (Nat.blt n 5) (cond (Nat.beq n 4) (some (0, 5, false)) none) (cond (Nat.beq n 5) (some (0, 6, false)) none)) (cond (Nat.blt n 7) (cond (Nat.beq n 6) (some (0, 7, false)) none) (cond (Nat.beq n 7) (some (0, 8, false)) none)))) (cond (Nat.blt n 12) (cond (Nat.blt n 10) (cond (Nat.blt n 9) (cond (Nat.beq n 8) (some (0, 9, false)) none) (cond (Nat.beq n 9) (some (0, 10, false)) none)) (cond (Nat.blt n 11) (cond (Nat.beq n 10) (some (0, 11, false)) none) (cond (Nat.beq n 11) (some (0, 12, false)) none))) (cond (Nat.blt n 14) (cond (Nat.blt n 13) (cond (Nat.beq n 12) (some (0, 13, false)) none) (cond (Nat.beq n 13) (some (0, 14, false)) none)) (cond (Nat.blt n 15) (cond (Nat.beq n 14) (some (0, 15, false)) none) (cond (Nat.blt n 16) (cond (Nat.beq n 15) (some (0, 16, false)) none) (cond (Nat.beq n 16) (some (0, 17, false)) none)))))) (cond (Nat.blt n 26) (cond (Nat.blt n 21) (cond (Nat.blt n 19) (cond (Nat.blt n 18) (cond (Nat.beq n 17) (some (0, 18, false)) none) (cond (Nat.beq n 18) (some (0, 19, false)) none)) (cond (Nat.blt n 20) (cond (Nat.beq n 19) (some (1, 0, false)) none) (cond (Nat.beq n 20) (some (1, 0, false)) none))) (cond (Nat.blt n 23) (cond (Nat.blt n 22) (cond (Nat.beq n 21) (some (1, 0, false)) none) (cond (Nat.beq n 22) (some (1, 0, false)) none)) (cond (Nat.blt n 24) (cond (Nat.beq n 23) (some (1, 0, false)) none) (cond (Nat.blt n 25) (cond (Nat.beq n 24) (some (1, 0, false)) none) (cond (Nat.beq n 25) (some (1, 0, false)) none))))) (cond (Nat.blt n 30) (cond (Nat.blt n 28) (cond (Nat.blt n 27) (cond (Nat.beq n 26) (some (2, 0, false)) none) (cond (Nat.beq n 27) (some (1, 0, false)) none)) (cond (Nat.blt n 29) (cond (Nat.beq n 28) (some (1, 0, false)) none) (cond (Nat.beq n 29) (some (1, 0, false)) none))) (cond (Nat.blt n 32) (cond (Nat.blt n 31) (cond (Nat.beq n 30) (some (1, 0, false)) none) (cond (Nat.beq n 31) (some (1, 0, false)) none)) (cond (Nat.blt n 33) (cond (Nat.beq n 32) (some (1, 0, false)) none) (cond (Nat.blt n 34) (cond (Nat.beq n 33) (some (1, 0, false)) none) (cond (Nat.beq n 34) (some (1, 0, false)) none))))))) none
def fnmT : FN := fnmOf fnmN
def fkdT : FK := fkdOf fkdN
set_option maxRecDepth 65536 in
set_option maxHeartbeats 8000000 in
theorem cdk_0 : ∀ pc i len, cd_0 pc = some (i, len) → decode prog_1_method_1_code pc = .ok (i, len) ∧ chk pc i len = true := code_all 224 (fun _ h => cond_ge h) (by decide +kernel)
set_option maxRecDepth 65536 in
set_option maxHeartbeats 8000000 in
theorem cdk_1 : ∀ pc i len, cd_1 pc = some (i, len) → decode prog_1_method_2_code pc = .ok (i, len) ∧ chk pc i len = true := code_all 16 (fun _ h => cond_ge h) (by decide +kernel)
set_option maxRecDepth 65536 in
set_option maxHeartbeats 8000000 in
theorem cdk_2 : ∀ pc i len, cd_2 pc = some (i, len) → decode prog_1_method_6_code pc = .ok (i, len) ∧ chk pc i len = true := code_all 35 (fun _ h => cond_ge h) (by decide +kernel)
set_option maxRecDepth 65536 in
set_option maxHeartbeats 8000000 in
theorem cdk_3 : ∀ pc i len, cd_3 pc = some (i, len) → decode prog_1_method_17_code pc = .ok (i, len) ∧ chk pc i len = true := code_all 24 (fun _ h => cond_ge h) (by decide +kernel)
set_option maxRecDepth 65536 in
set_option maxHeartbeats 8000000 in
theorem cdk_4 : ∀ pc i len, cd_4 pc = some (i, len) → decode prog_1_method_3_code pc = .ok (i, len) ∧ chk pc i len = true := code_all 167 (fun _ h => cond_ge h) (by decide +kernel)
set_option maxRecDepth 65536 in
set_option maxHeartbeats 8000000 in
theorem cdk_5 : ∀ pc i len, cd_5 pc = some (i, len) → decode prog_1_method_5_code pc = .ok (i, len) ∧ chk pc i len = true := code_all 180 (fun _ h => cond_ge h) (by decide +kernel)
set_option maxRecDepth 65536 in
set_option maxHeartbeats 8000000 in
theorem cdk_6 : ∀ pc i len, cd_6 pc = some (i, len) → decode prog_1_method_19_code pc = .ok (i, len) ∧ chk pc i len = true := code_all 35 (fun _ h => cond_ge h) (by decide +kernel)
set_option maxRecDepth 65536 in
set_option maxHeartbeats 8000000 in
theorem cdk_7 : ∀ pc i len, cd_7 pc = some (i, len) → decode prog_1_method_4_code pc = .ok (i, len) ∧ chk pc i len = true := code_all 71 (fun _ h => cond_ge h) (by decide +kernel)
set_option maxRecDepth 65536 in
set_option maxHeartbeats 8000000 in
theorem cdk_8 : ∀ pc i len, cd_8 pc = some (i, len) → decode prog_1_method_18_code pc = .ok (i, len) ∧ chk pc i len = true := code_all 33 (fun _ h => cond_ge h) (by decide +kernel)
set_option maxRecDepth 65536 in
set_option maxHeartbeats 8000000 in
theorem cdk_9 : ∀ pc i len, cd_9 pc = some (i, len) → decode prog_1_method_12_code pc = .ok (i, len) ∧ chk pc i len = true := code_all 107 (fun _ h => cond_ge h) (by decide +kernel)
set_option maxRecDepth 65536 in
set_option maxHeartbeats 8000000 in
theorem cdk_10 : ∀ pc i len, cd_10 pc = some (i, len) → decode prog_1_method_10_code pc = .ok (i, len) ∧ chk pc i len = true := code_all 17 (fun _ h => cond_ge h) (by decide +kernel)
set_option maxRecDepth 65536 in
set_option maxHeartbeats 8000000 in
theorem cdk_11 : ∀ pc i len, cd_11 pc = some (i, len) → decode prog_1_method_14_code pc = .ok (i, len) ∧ chk pc i len = true := code_all 38 (fun _ h => cond_ge h) (by decide +kernel)
set_option maxRecDepth 65536 in
set_option maxHeartbeats 8000000 in
theorem cdk_12 : ∀ pc i len, cd_12 pc = some (i, len) → decode prog_1_method_25_code pc = .ok (i, len) ∧ chk pc i len = true := code_all 119 (fun _ h => cond_ge h) (by decide +kernel)
set_option maxRecDepth 65536 in
set_option maxHeartbeats 8000000 in
theorem cdk_13 : ∀ pc i len, cd_13 pc = some (i, len) → decode prog_1_method_13_code pc = .ok (i, len) ∧ chk pc i len = true := code_all 26 (fun _ h => cond_ge h) (by decide +kernel)
set_option maxRecDepth 65536 in
set_option maxHeartbeats 8000000 in
theorem cdk_14 : ∀ pc i len, cd_14 pc = some (i, len) → decode prog_1_method_15_code pc = .ok (i, len) ∧ chk pc i len = true := code_all 5 (fun _ h => cond_ge h) (by decide +kernel)
set_option maxRecDepth 65536 in
set_option maxHeartbeats 8000000 in
theorem cdk_15 : ∀ pc i len, cd_15 pc = some (i, len) → decode prog_1_method_9_code pc = .ok (i, len) ∧ chk pc i len = true := code_all 102 (fun _ h => cond_ge h) (by decide +kernel)
set_option maxRecDepth 65536 in
set_option maxHeartbeats 8000000 in
theorem cdk_16 : ∀ pc i len, cd_16 pc = some (i, len) → decode prog_1_method_28_code pc = .ok (i, len) ∧ chk pc i len = true := code_all 103 (fun _ h => cond_ge h) (by decide +kernel)
set_option maxRecDepth 65536 in
set_option maxHeartbeats 8000000 in
theorem cdk_17 : ∀ pc i len, cd_17 pc = some (i, len) → decode prog_1_method_27_code pc = .ok (i, len) ∧ chk pc i len = true := code_all 69 (fun _ h => cond_ge h) (by decide +kernel)
set_option maxRecDepth 65536 in
set_option maxHeartbeats 8000000 in
theorem cdk_18 : ∀ pc i len, cd_18 pc = some (i, len) → decode prog_1_method_30_code pc = .ok (i, len) ∧ chk pc i len = true := code_all 52 (fun _ h => cond_ge h) (by decide +kernel)
set_option maxRecDepth 65536 in
set_option maxHeartbeats 8000000 in
theorem cdk_19 : ∀ pc i len, cd_19 pc = some (i, len) → decode prog_1_method_29_code pc = .ok (i, len) ∧ chk pc i len = true := code_all 72 (fun _ h => cond_ge h) (by decide +kernel)
set_option maxRecDepth 65536 in
set_option maxHeartbeats 8000000 in
theorem cdk_20 : ∀ pc i len, cd_20 pc = some (i, len) → decode prog_1_method_31_code pc = .ok (i, len) ∧ chk pc i len = true := code_all 208 (fun _ h => cond_ge h) (by decide +kernel)
set_option maxRecDepth 65536 in
set_option maxHeartbeats 8000000 in
theorem cdk_21 : ∀ pc i len, cd_21 pc = some (i, len) → decode prog_1_method_21_code pc = .ok (i, len) ∧ chk pc i len = true := code_all 11 (fun _ h => cond_ge h) (by decide +kernel)
set_option maxRecDepth 65536 in
set_option maxHeartbeats 8000000 in
theorem cdk_22 : ∀ pc i len, cd_22 pc = some (i, len) → decode prog_1_method_24_code pc = .ok (i, len) ∧ chk pc i len = true := code_all 48 (fun _ h => cond_ge h) (by decide +kernel)
set_option maxRecDepth 65536 in
set_option maxHeartbeats 8000000 in
theorem cdk_23 : ∀ pc i len, cd_23 pc = some (i, len) → decode prog_1_method_22_code pc = .ok (i, len) ∧ chk pc i len = true := code_all 92 (fun _ h => cond_ge h) (by decide +kernel)
set_option maxRecDepth 65536 in
set_option maxHeartbeats 8000000 in
theorem cdk_24 : ∀ pc i len, cd_24 pc = some (i, len) → decode prog_1_method_7_code pc = .ok (i, len) ∧ chk pc i len = true := code_all 32 (fun _ h => cond_ge h) (by decide +kernel)
set_option maxRecDepth 65536 in
set_option maxHeartbeats 8000000 in
theorem cdk_25 : ∀ pc i len, cd_25 pc = some (i, len) → decode prog_1_method_8_code pc = .ok (i, len) ∧ chk pc i len = true := code_all 26 (fun _ h => cond_ge h) (by decide +kernel)
set_option maxRecDepth 65536 in
set_option maxHeartbeats 8000000 in
theorem cdk_26 : ∀ pc i len, cd_26 pc = some (i, len) → decode prog_1_method_23_code pc = .ok (i, len) ∧ chk pc i len = true := code_all 65 (fun _ h => cond_ge h) (by decide +kernel)
set_option maxRecDepth 65536 in
set_option maxHeartbeats 8000000 in
theorem cdk_27 : ∀ pc i len, cd_27 pc = some (i, len) → decode prog_1_method_26_code pc = .ok (i, len) ∧ chk pc i len = true := code_all 118 (fun _ h => cond_ge h) (by decide +kernel)
set_option maxRecDepth 65536 in
set_option maxHeartbeats 8000000 in
theorem cdk_28 : ∀ pc i len, cd_28 pc = some (i, len) → decode prog_1_method_20_code pc = .ok (i, len) ∧ chk pc i len = true := code_all 15 (fun _ h => cond_ge h) (by decide +kernel)
set_option maxRecDepth 65536 in
set_option maxHeartbeats 8000000 in
theorem cdk_29 : ∀ pc i len, cd_29 pc = some (i, len) → decode prog_1_method_11_code pc = .ok (i, len) ∧ chk pc i len = true := code_all 27 (fun _ h => cond_ge h) (by decide +kernel)
set_option maxRecDepth 65536 in
set_option maxHeartbeats 8000000 in
theorem cdk_30 : ∀ pc i len, cd_30 pc = some (i, len) → decode prog_1_method_32_code pc = .ok (i, len) ∧ chk pc i len = true := code_all 377 (fun _ h => cond_ge h) (by decide +kernel)
set_option maxRecDepth 65536 in
set_option maxHeartbeats 8000000 in
theorem cdk_31 : ∀ pc i len, cd_31 pc = some (i, len) → decode prog_1_method_33_code pc = .ok (i, len) ∧ chk pc i len = true := code_all 114 (fun _ h => cond_ge h) (by decide +kernel)
theorem t_code : ∀ q pc i len, pcode PP q pc = some (i, len) → decode (byT q) pc = .ok (i, len) ∧ chk pc i len = true := by
  intro q
  by_cases hq : q < 32
  · exact allN (Q := fun q => ∀ pc i len, pcode PP q pc = some (i, len) → decode (byT q) pc = .ok (i, len) ∧ chk pc i len = true) (N := 32) (⟨⟨⟨⟨⟨⟨⟨⟨⟨⟨⟨⟨⟨⟨⟨⟨⟨⟨⟨⟨⟨⟨⟨⟨⟨⟨⟨⟨⟨⟨⟨⟨trivial, cdk_0⟩, cdk_1⟩, cdk_2⟩, cdk_3⟩, cdk_4⟩, cdk_5⟩, cdk_6⟩, cdk_7⟩, cdk_8⟩, cdk_9⟩, cdk_10⟩, cdk_11⟩, cdk_12⟩, cdk_13⟩, cdk_14⟩, cdk_15⟩, cdk_16⟩, cdk_17⟩, cdk_18⟩, cdk_19⟩, cdk_20⟩, cdk_21⟩, cdk_22⟩, cdk_23⟩, cdk_24⟩, cdk_25⟩, cdk_26⟩, cdk_27⟩, cdk_28⟩, cdk_29⟩, cdk_30⟩, cdk_31⟩) q hq
  · intro pc i len h
    have h0 : PPcode q pc = none := cond_ge (by omega)
    have h1 : PPcode q pc = some (i, len) := h
    rw [h0] at h1; cases h1
set_option maxRecDepth 65536 in
set_option maxHeartbeats 8000000 in
theorem t_fld0 {a0 : Array Value} {Z : State} (hw : ∀ d ∈ tables_1, d.before a0 Z = true) : ∀ x e, PPfld x = some e → (Jvm.Cond.fieldLink "PodPlacer" x "PodPlacer" (fnmT e.1).1 (fnmT e.1).2).before a0 Z = true ∧ fkdT e.1 = some (e.2.1, e.2.2.1, e.2.2.2) :=
  tab_all (f := PPfld) 181 [(7, (0, 0, 1, false)), (13, (1, 0, 2, false)), (17, (2, 0, 3, false)), (20, (3, 0, 4, false)), (23, (4, 0, 5, false)), (26, (5, 0, 6, false)), (29, (6, 0, 7, false)), (32, (7, 0, 8, false)), (35, (8, 0, 9, false)), (38, (9, 0, 10, false)), (41, (10, 0, 11, false)), (44, (11, 0, 12, false)), (47, (12, 0, 13, false)), (50, (13, 0, 14, false)), (53, (14, 0, 15, false)), (56, (15, 0, 16, false)), (59, (16, 0, 17, false)), (62, (17, 0, 18, false)), (65, (18, 0, 19, false)), (72, (19, 1, 0, false)), (76, (20, 1, 0, false)), (79, (21, 1, 0, false)), (82, (22, 1, 0, false)), (85, (23, 1, 0, false)), (135, (24, 1, 0, false)), (138, (25, 1, 0, false)), (141, (26, 2, 0, false)), (151, (27, 1, 0, false)), (154, (28, 1, 0, false)), (157, (29, 1, 0, false)), (160, (30, 1, 0, false)), (163, (31, 1, 0, false)), (174, (32, 1, 0, false)), (177, (33, 1, 0, false)), (180, (34, 1, 0, false))] (fun _ h => cond_ge h) (by decide +kernel) (Q := fun x e => (Jvm.Cond.fieldLink "PodPlacer" x "PodPlacer" (fnmT e.1).1 (fnmT e.1).2).before a0 Z = true ∧ fkdT e.1 = some (e.2.1, e.2.2.1, e.2.2.2)) ⟨⟨hw _ (List.mem_of_getElem? (i := 10) rfl), rfl⟩, ⟨hw _ (List.mem_of_getElem? (i := 13) rfl), rfl⟩, ⟨hw _ (List.mem_of_getElem? (i := 15) rfl), rfl⟩, ⟨hw _ (List.mem_of_getElem? (i := 17) rfl), rfl⟩, ⟨hw _ (List.mem_of_getElem? (i := 19) rfl), rfl⟩, ⟨hw _ (List.mem_of_getElem? (i := 21) rfl), rfl⟩, ⟨hw _ (List.mem_of_getElem? (i := 23) rfl), rfl⟩, ⟨hw _ (List.mem_of_getElem? (i := 25) rfl), rfl⟩, ⟨hw _ (List.mem_of_getElem? (i := 27) rfl), rfl⟩, ⟨hw _ (List.mem_of_getElem? (i := 29) rfl), rfl⟩, ⟨hw _ (List.mem_of_getElem? (i := 31) rfl), rfl⟩, ⟨hw _ (List.mem_of_getElem? (i := 33) rfl), rfl⟩, ⟨hw _ (List.mem_of_getElem? (i := 35) rfl), rfl⟩, ⟨hw _ (List.mem_of_getElem? (i := 37) rfl), rfl⟩, ⟨hw _ (List.mem_of_getElem? (i := 39) rfl), rfl⟩, ⟨hw _ (List.mem_of_getElem? (i := 41) rfl), rfl⟩, ⟨hw _ (List.mem_of_getElem? (i := 43) rfl), rfl⟩, ⟨hw _ (List.mem_of_getElem? (i := 45) rfl), rfl⟩, ⟨hw _ (List.mem_of_getElem? (i := 47) rfl), rfl⟩, ⟨hw _ (List.mem_of_getElem? (i := 53) rfl), rfl⟩, ⟨hw _ (List.mem_of_getElem? (i := 55) rfl), rfl⟩, ⟨hw _ (List.mem_of_getElem? (i := 57) rfl), rfl⟩, ⟨hw _ (List.mem_of_getElem? (i := 59) rfl), rfl⟩, ⟨hw _ (List.mem_of_getElem? (i := 61) rfl), rfl⟩, ⟨hw _ (List.mem_of_getElem? (i := 149) rfl), rfl⟩, ⟨hw _ (List.mem_of_getElem? (i := 151) rfl), rfl⟩, ⟨hw _ (List.mem_of_getElem? (i := 147) rfl), rfl⟩, ⟨hw _ (List.mem_of_getElem? (i := 173) rfl), rfl⟩, ⟨hw _ (List.mem_of_getElem? (i := 175) rfl), rfl⟩, ⟨hw _ (List.mem_of_getElem? (i := 177) rfl), rfl⟩, ⟨hw _ (List.mem_of_getElem? (i := 179) rfl), rfl⟩, ⟨hw _ (List.mem_of_getElem? (i := 181) rfl), rfl⟩, ⟨hw _ (List.mem_of_getElem? (i := 220) rfl), rfl⟩, ⟨hw _ (List.mem_of_getElem? (i := 222) rfl), rfl⟩, ⟨hw _ (List.mem_of_getElem? (i := 224) rfl), rfl⟩, trivial⟩
theorem t_fld {a0 : Array Value} {Z : State} (hw : ∀ d ∈ tables_1, d.before a0 Z = true) : ∀ x f kd j fin, pfld PP x = some (f, kd, j, fin) → (Jvm.Cond.fieldLink "PodPlacer" x "PodPlacer" (fnmT f).1 (fnmT f).2).before a0 Z = true ∧ fkdT f = some (kd, j, fin) := fun x f kd j fin h =>
  t_fld0 hw x (f, kd, j, fin) h
set_option maxRecDepth 65536 in
set_option maxHeartbeats 8000000 in
theorem t_fkd {a0 : Array Value} {Z : State} (hw : ∀ d ∈ tables_1, d.before a0 Z = true) : ∀ f kd j fin, fkdT f = some (kd, j, fin) → ((fin = false ∧ (Jvm.Cond.lays "PodPlacer" "PodPlacer" (fnmT f).1 (fnmT f).2).before a0 Z = true) ∨ (fin = true ∧ (Jvm.Cond.laysFinal "PodPlacer" "PodPlacer" (fnmT f).1 (fnmT f).2).before a0 Z = true)) ∧ parseFieldDescriptor (fnmT f).2 = some (fty PP kd j) ∧ (kd = 0 → 1 ≤ j) ∧ kd ≤ 4 :=
  fkd_all (f := fkdN) (tab_all 35 [(0, (0, 1, false)), (1, (0, 2, false)), (2, (0, 3, false)), (3, (0, 4, false)), (4, (0, 5, false)), (5, (0, 6, false)), (6, (0, 7, false)), (7, (0, 8, false)), (8, (0, 9, false)), (9, (0, 10, false)), (10, (0, 11, false)), (11, (0, 12, false)), (12, (0, 13, false)), (13, (0, 14, false)), (14, (0, 15, false)), (15, (0, 16, false)), (16, (0, 17, false)), (17, (0, 18, false)), (18, (0, 19, false)), (19, (1, 0, false)), (20, (1, 0, false)), (21, (1, 0, false)), (22, (1, 0, false)), (23, (1, 0, false)), (24, (1, 0, false)), (25, (1, 0, false)), (26, (2, 0, false)), (27, (1, 0, false)), (28, (1, 0, false)), (29, (1, 0, false)), (30, (1, 0, false)), (31, (1, 0, false)), (32, (1, 0, false)), (33, (1, 0, false)), (34, (1, 0, false))] (fun _ h => cond_ge h) (by decide +kernel) ⟨⟨Or.inl ⟨rfl, hw _ (List.mem_of_getElem? (i := 11) rfl)⟩, by decide +kernel, by decide, by decide⟩, ⟨Or.inl ⟨rfl, hw _ (List.mem_of_getElem? (i := 14) rfl)⟩, by decide +kernel, by decide, by decide⟩, ⟨Or.inl ⟨rfl, hw _ (List.mem_of_getElem? (i := 16) rfl)⟩, by decide +kernel, by decide, by decide⟩, ⟨Or.inl ⟨rfl, hw _ (List.mem_of_getElem? (i := 18) rfl)⟩, by decide +kernel, by decide, by decide⟩, ⟨Or.inl ⟨rfl, hw _ (List.mem_of_getElem? (i := 20) rfl)⟩, by decide +kernel, by decide, by decide⟩, ⟨Or.inl ⟨rfl, hw _ (List.mem_of_getElem? (i := 22) rfl)⟩, by decide +kernel, by decide, by decide⟩, ⟨Or.inl ⟨rfl, hw _ (List.mem_of_getElem? (i := 24) rfl)⟩, by decide +kernel, by decide, by decide⟩, ⟨Or.inl ⟨rfl, hw _ (List.mem_of_getElem? (i := 26) rfl)⟩, by decide +kernel, by decide, by decide⟩, ⟨Or.inl ⟨rfl, hw _ (List.mem_of_getElem? (i := 28) rfl)⟩, by decide +kernel, by decide, by decide⟩, ⟨Or.inl ⟨rfl, hw _ (List.mem_of_getElem? (i := 30) rfl)⟩, by decide +kernel, by decide, by decide⟩, ⟨Or.inl ⟨rfl, hw _ (List.mem_of_getElem? (i := 32) rfl)⟩, by decide +kernel, by decide, by decide⟩, ⟨Or.inl ⟨rfl, hw _ (List.mem_of_getElem? (i := 34) rfl)⟩, by decide +kernel, by decide, by decide⟩, ⟨Or.inl ⟨rfl, hw _ (List.mem_of_getElem? (i := 36) rfl)⟩, by decide +kernel, by decide, by decide⟩, ⟨Or.inl ⟨rfl, hw _ (List.mem_of_getElem? (i := 38) rfl)⟩, by decide +kernel, by decide, by decide⟩, ⟨Or.inl ⟨rfl, hw _ (List.mem_of_getElem? (i := 40) rfl)⟩, by decide +kernel, by decide, by decide⟩, ⟨Or.inl ⟨rfl, hw _ (List.mem_of_getElem? (i := 42) rfl)⟩, by decide +kernel, by decide, by decide⟩, ⟨Or.inl ⟨rfl, hw _ (List.mem_of_getElem? (i := 44) rfl)⟩, by decide +kernel, by decide, by decide⟩, ⟨Or.inl ⟨rfl, hw _ (List.mem_of_getElem? (i := 46) rfl)⟩, by decide +kernel, by decide, by decide⟩, ⟨Or.inl ⟨rfl, hw _ (List.mem_of_getElem? (i := 48) rfl)⟩, by decide +kernel, by decide, by decide⟩, ⟨Or.inl ⟨rfl, hw _ (List.mem_of_getElem? (i := 54) rfl)⟩, by decide +kernel, by decide, by decide⟩, ⟨Or.inl ⟨rfl, hw _ (List.mem_of_getElem? (i := 56) rfl)⟩, by decide +kernel, by decide, by decide⟩, ⟨Or.inl ⟨rfl, hw _ (List.mem_of_getElem? (i := 58) rfl)⟩, by decide +kernel, by decide, by decide⟩, ⟨Or.inl ⟨rfl, hw _ (List.mem_of_getElem? (i := 60) rfl)⟩, by decide +kernel, by decide, by decide⟩, ⟨Or.inl ⟨rfl, hw _ (List.mem_of_getElem? (i := 62) rfl)⟩, by decide +kernel, by decide, by decide⟩, ⟨Or.inl ⟨rfl, hw _ (List.mem_of_getElem? (i := 150) rfl)⟩, by decide +kernel, by decide, by decide⟩, ⟨Or.inl ⟨rfl, hw _ (List.mem_of_getElem? (i := 152) rfl)⟩, by decide +kernel, by decide, by decide⟩, ⟨Or.inl ⟨rfl, hw _ (List.mem_of_getElem? (i := 148) rfl)⟩, by decide +kernel, by decide, by decide⟩, ⟨Or.inl ⟨rfl, hw _ (List.mem_of_getElem? (i := 174) rfl)⟩, by decide +kernel, by decide, by decide⟩, ⟨Or.inl ⟨rfl, hw _ (List.mem_of_getElem? (i := 176) rfl)⟩, by decide +kernel, by decide, by decide⟩, ⟨Or.inl ⟨rfl, hw _ (List.mem_of_getElem? (i := 178) rfl)⟩, by decide +kernel, by decide, by decide⟩, ⟨Or.inl ⟨rfl, hw _ (List.mem_of_getElem? (i := 180) rfl)⟩, by decide +kernel, by decide, by decide⟩, ⟨Or.inl ⟨rfl, hw _ (List.mem_of_getElem? (i := 182) rfl)⟩, by decide +kernel, by decide, by decide⟩, ⟨Or.inl ⟨rfl, hw _ (List.mem_of_getElem? (i := 221) rfl)⟩, by decide +kernel, by decide, by decide⟩, ⟨Or.inl ⟨rfl, hw _ (List.mem_of_getElem? (i := 223) rfl)⟩, by decide +kernel, by decide, by decide⟩, ⟨Or.inl ⟨rfl, hw _ (List.mem_of_getElem? (i := 225) rfl)⟩, by decide +kernel, by decide, by decide⟩, trivial⟩)
set_option maxRecDepth 65536 in
set_option maxHeartbeats 8000000 in
theorem t_lay0 {a0 : Array Value} {Z : State} (hw : ∀ d ∈ tables_1, d.before a0 Z = true) : ∀ j e, PPlay j = some e → 1 ≤ j ∧ j ≤ 19 ∧ 0 ≤ e.2 ∧ e.2 ≤ 60000000 ∧ (e.1 = 1 ∨ e.1 = 2 ∨ e.1 = 3 ∨ e.1 = 4) ∧ (Jvm.Cond.arrayClass (kty e.1)).before a0 Z = true :=
  tab_all (f := PPlay) 20 [(1, (2, 8)), (2, (1, 8)), (3, (1, 8)), (4, (1, 8)), (5, (1, 8)), (6, (1, 8)), (7, (1, 16)), (8, (1, 16)), (9, (1, 16)), (10, (1, 16)), (11, (1, 16)), (12, (1, 16)), (13, (1, 16)), (14, (1, 16)), (15, (1, 16)), (16, (1, 16)), (17, (1, 16)), (18, (1, 16)), (19, (1, 16))] (fun _ h => cond_ge h) (by decide +kernel) (Q := fun j e => 1 ≤ j ∧ j ≤ 19 ∧ 0 ≤ e.2 ∧ e.2 ≤ 60000000 ∧ (e.1 = 1 ∨ e.1 = 2 ∨ e.1 = 3 ∨ e.1 = 4) ∧ (Jvm.Cond.arrayClass (kty e.1)).before a0 Z = true) ⟨⟨by decide, by decide, by decide, by decide, by decide, hw _ (List.mem_of_getElem? (i := 9) rfl)⟩, ⟨by decide, by decide, by decide, by decide, by decide, hw _ (List.mem_of_getElem? (i := 12) rfl)⟩, ⟨by decide, by decide, by decide, by decide, by decide, hw _ (List.mem_of_getElem? (i := 12) rfl)⟩, ⟨by decide, by decide, by decide, by decide, by decide, hw _ (List.mem_of_getElem? (i := 12) rfl)⟩, ⟨by decide, by decide, by decide, by decide, by decide, hw _ (List.mem_of_getElem? (i := 12) rfl)⟩, ⟨by decide, by decide, by decide, by decide, by decide, hw _ (List.mem_of_getElem? (i := 12) rfl)⟩, ⟨by decide, by decide, by decide, by decide, by decide, hw _ (List.mem_of_getElem? (i := 12) rfl)⟩, ⟨by decide, by decide, by decide, by decide, by decide, hw _ (List.mem_of_getElem? (i := 12) rfl)⟩, ⟨by decide, by decide, by decide, by decide, by decide, hw _ (List.mem_of_getElem? (i := 12) rfl)⟩, ⟨by decide, by decide, by decide, by decide, by decide, hw _ (List.mem_of_getElem? (i := 12) rfl)⟩, ⟨by decide, by decide, by decide, by decide, by decide, hw _ (List.mem_of_getElem? (i := 12) rfl)⟩, ⟨by decide, by decide, by decide, by decide, by decide, hw _ (List.mem_of_getElem? (i := 12) rfl)⟩, ⟨by decide, by decide, by decide, by decide, by decide, hw _ (List.mem_of_getElem? (i := 12) rfl)⟩, ⟨by decide, by decide, by decide, by decide, by decide, hw _ (List.mem_of_getElem? (i := 12) rfl)⟩, ⟨by decide, by decide, by decide, by decide, by decide, hw _ (List.mem_of_getElem? (i := 12) rfl)⟩, ⟨by decide, by decide, by decide, by decide, by decide, hw _ (List.mem_of_getElem? (i := 12) rfl)⟩, ⟨by decide, by decide, by decide, by decide, by decide, hw _ (List.mem_of_getElem? (i := 12) rfl)⟩, ⟨by decide, by decide, by decide, by decide, by decide, hw _ (List.mem_of_getElem? (i := 12) rfl)⟩, ⟨by decide, by decide, by decide, by decide, by decide, hw _ (List.mem_of_getElem? (i := 12) rfl)⟩, trivial⟩
theorem t_lay {a0 : Array Value} {Z : State} (hw : ∀ d ∈ tables_1, d.before a0 Z = true) : ∀ j kd n, play PP j = some (kd, n) → 1 ≤ j ∧ j ≤ 19 ∧ 0 ≤ n ∧ n ≤ 60000000 ∧ (kd = 1 ∨ kd = 2 ∨ kd = 3 ∨ kd = 4) ∧ (Jvm.Cond.arrayClass (kty kd)).before a0 Z = true := fun j kd n h =>
  t_lay0 hw j (kd, n) h
set_option maxRecDepth 65536 in
set_option maxHeartbeats 8000000 in
theorem t_cst0 {a0 : Array Value} {Z : State} (hw : ∀ d ∈ tables_1, d.before a0 Z = true) : ∀ x e, PPcst x = some e → (∀ z, e = .inl z → ∃ v : Int32, (Jvm.Cond.constant "PodPlacer" x v).before a0 Z = true ∧ v.toInt = z) ∧ (∀ z, e = .inr (.inl z) → ∃ v : Int64, (Jvm.Cond.constantLong "PodPlacer" x v).before a0 Z = true ∧ v.toInt = z) :=
  tab_all (f := PPcst) 98 [(88, (vi 65535)), (97, (vi 1048575))] (fun _ h => cond_ge h) (by decide +kernel) ⟨⟨fun z h => (by cases h; exact ⟨65535, hw _ (List.mem_of_getElem? (i := 77) rfl), by decide⟩), fun z h => (by cases h)⟩, ⟨fun z h => (by cases h; exact ⟨1048575, hw _ (List.mem_of_getElem? (i := 83) rfl), by decide⟩), fun z h => (by cases h)⟩, trivial⟩
theorem t_cst {a0 : Array Value} {Z : State} (hw : ∀ d ∈ tables_1, d.before a0 Z = true) : ((∀ x z, pcst PP x = some (.inl z) → ∃ v : Int32, (Jvm.Cond.constant "PodPlacer" x v).before a0 Z = true ∧ v.toInt = z) ∧ (∀ x z, pcst PP x = some (.inr (.inl z)) → ∃ v : Int64, (Jvm.Cond.constantLong "PodPlacer" x v).before a0 Z = true ∧ v.toInt = z)) := ⟨fun x z h => (t_cst0 hw x _ h).1 z rfl, fun x z h => (t_cst0 hw x _ h).2 z rfl⟩
set_option maxRecDepth 65536 in
set_option maxHeartbeats 8000000 in
theorem t_mth {a0 : Array Value} {Z : State} (hw : ∀ d ∈ tables_1, d.before a0 Z = true) : ∀ x q, pmth PP x = some q → (Jvm.Cond.methodLink "PodPlacer" x (nmT q)).before a0 Z = true :=
  tab_all (f := PPmth) 171 [(68, 1), (89, 8), (93, 6), (98, 3), (101, 16), (105, 23), (109, 12), (113, 27), (116, 22), (119, 26), (122, 17), (125, 28), (129, 21), (132, 18), (145, 19), (148, 20), (166, 30), (170, 31)] (fun _ h => cond_ge h) (by decide +kernel) ⟨hw _ (List.mem_of_getElem? (i := 49) rfl), hw _ (List.mem_of_getElem? (i := 93) rfl), hw _ (List.mem_of_getElem? (i := 84) rfl), hw _ (List.mem_of_getElem? (i := 68) rfl), hw _ (List.mem_of_getElem? (i := 135) rfl), hw _ (List.mem_of_getElem? (i := 169) rfl), hw _ (List.mem_of_getElem? (i := 112) rfl), hw _ (List.mem_of_getElem? (i := 197) rfl), hw _ (List.mem_of_getElem? (i := 165) rfl), hw _ (List.mem_of_getElem? (i := 193) rfl), hw _ (List.mem_of_getElem? (i := 139) rfl), hw _ (List.mem_of_getElem? (i := 201) rfl), hw _ (List.mem_of_getElem? (i := 161) rfl), hw _ (List.mem_of_getElem? (i := 143) rfl), hw _ (List.mem_of_getElem? (i := 153) rfl), hw _ (List.mem_of_getElem? (i := 157) rfl), hw _ (List.mem_of_getElem? (i := 212) rfl), hw _ (List.mem_of_getElem? (i := 216) rfl), trivial⟩
set_option maxRecDepth 65536 in
set_option maxHeartbeats 8000000 in
theorem t_inf0 {a0 : Array Value} {Z : State} (hw : ∀ d ∈ tables_1, d.before a0 Z = true) : ∀ q e, PPinf q = some e → (nmT q).cls = "PodPlacer" ∧ (Jvm.Cond.instanceMethod (nmT q)).before a0 Z = true ∧ (Jvm.Cond.code (nmT q) (byT q) e.2.1 (rty e.2.2.1)).before a0 Z = true ∧ (q ≠ 0 → (Jvm.Cond.privateMethod (nmT q)).before a0 Z = true ∨ ((Jvm.Cond.declares (nmT q)).before a0 Z = true ∧ (Jvm.Cond.selects "PodPlacer" (nmT q) (nmT q)).before a0 Z = true)) ∧ ∃ params, parseMethodDescriptor (nmT q).desc = some ⟨params, rty e.2.2.1⟩ ∧ params.length = e.1.length :=
  tab_all (f := PPinf) 32 [(0, ([false, false], 4, 0, 1, 16)), (1, ([false, false, false], 4, 1, 0, 0)), (2, ([false], 2, 2, 1, 13)), (3, ([false], 2, 2, 0, 0)), (4, ([false, false, false, false], 7, 1, 0, 0)), (5, ([false, false, false, false], 7, 1, 1, 13)), (6, ([false], 2, 0, 0, 0)), (7, ([false], 4, 1, 1, 13)), (8, ([false], 2, 2, 0, 0)), (9, ([false], 4, 1, 1, 13)), (10, ([false], 2, 1, 1, 13)), (11, ([false, false], 3, 1, 2, 36)), (12, ([false, false], 6, 2, 1, 16)), (13, ([false, false], 3, 1, 1, 16)), (14, ([], 1, 1, 0, 0)), (15, ([], 3, 1, 5, 85)), (16, ([false], 4, 1, 4, 70)), (17, ([false], 6, 1, 2, 36)), (18, ([false], 3, 2, 3, 56)), (19, ([], 2, 0, 0, 0)), (20, ([false, false], 5, 0, 2, 40)), (21, ([false, false], 3, 0, 0, 0)), (22, ([false, false], 3, 2, 0, 0)), (23, ([false, false], 5, 1, 0, 0)), (24, ([false, false], 3, 2, 0, 0)), (25, ([false], 2, 1, 5, 85)), (26, ([false, false], 5, 1, 0, 0)), (27, ([false, false], 9, 1, 1, 16)), (28, ([false, false], 3, 0, 0, 0)), (29, ([false], 2, 1, 1, 13)), (30, ([false, false, false], 12, 0, 1, 17)), (31, ([false, false, false, false, false], 6, 2, 0, 0))] (fun _ h => cond_ge h) (by decide +kernel) (Q := fun q e => (nmT q).cls = "PodPlacer" ∧ (Jvm.Cond.instanceMethod (nmT q)).before a0 Z = true ∧ (Jvm.Cond.code (nmT q) (byT q) e.2.1 (rty e.2.2.1)).before a0 Z = true ∧ (q ≠ 0 → (Jvm.Cond.privateMethod (nmT q)).before a0 Z = true ∨ ((Jvm.Cond.declares (nmT q)).before a0 Z = true ∧ (Jvm.Cond.selects "PodPlacer" (nmT q) (nmT q)).before a0 Z = true)) ∧ ∃ params, parseMethodDescriptor (nmT q).desc = some ⟨params, rty e.2.2.1⟩ ∧ params.length = e.1.length) ⟨⟨rfl, hw _ (List.mem_of_getElem? (i := 4) rfl), hw _ (List.mem_of_getElem? (i := 5) rfl), fun h => absurd rfl h, [.int, .int], by decide +kernel, rfl⟩, ⟨rfl, hw _ (List.mem_of_getElem? (i := 50) rfl), hw _ (List.mem_of_getElem? (i := 52) rfl), fun _ => Or.inl (hw _ (List.mem_of_getElem? (i := 51) rfl)), [.int, .int, .int], by decide +kernel, rfl⟩, ⟨rfl, hw _ (List.mem_of_getElem? (i := 65) rfl), hw _ (List.mem_of_getElem? (i := 67) rfl), fun _ => Or.inr ⟨hw _ (List.mem_of_getElem? (i := 64) rfl), hw _ (List.mem_of_getElem? (i := 66) rfl)⟩, [.int], by decide +kernel, rfl⟩, ⟨rfl, hw _ (List.mem_of_getElem? (i := 69) rfl), hw _ (List.mem_of_getElem? (i := 71) rfl), fun _ => Or.inl (hw _ (List.mem_of_getElem? (i := 70) rfl)), [.int], by decide +kernel, rfl⟩, ⟨rfl, hw _ (List.mem_of_getElem? (i := 74) rfl), hw _ (List.mem_of_getElem? (i := 76) rfl), fun _ => Or.inr ⟨hw _ (List.mem_of_getElem? (i := 73) rfl), hw _ (List.mem_of_getElem? (i := 75) rfl)⟩, [.int, .int, .int, .int], by decide +kernel, rfl⟩, ⟨rfl, hw _ (List.mem_of_getElem? (i := 80) rfl), hw _ (List.mem_of_getElem? (i := 82) rfl), fun _ => Or.inr ⟨hw _ (List.mem_of_getElem? (i := 79) rfl), hw _ (List.mem_of_getElem? (i := 81) rfl)⟩, [.int, .int, .int, .int], by decide +kernel, rfl⟩, ⟨rfl, hw _ (List.mem_of_getElem? (i := 85) rfl), hw _ (List.mem_of_getElem? (i := 87) rfl), fun _ => Or.inl (hw _ (List.mem_of_getElem? (i := 86) rfl)), [.int], by decide +kernel, rfl⟩, ⟨rfl, hw _ (List.mem_of_getElem? (i := 90) rfl), hw _ (List.mem_of_getElem? (i := 92) rfl), fun _ => Or.inr ⟨hw _ (List.mem_of_getElem? (i := 89) rfl), hw _ (List.mem_of_getElem? (i := 91) rfl)⟩, [.int], by decide +kernel, rfl⟩, ⟨rfl, hw _ (List.mem_of_getElem? (i := 94) rfl), hw _ (List.mem_of_getElem? (i := 96) rfl), fun _ => Or.inl (hw _ (List.mem_of_getElem? (i := 95) rfl)), [.int], by decide +kernel, rfl⟩, ⟨rfl, hw _ (List.mem_of_getElem? (i := 99) rfl), hw _ (List.mem_of_getElem? (i := 101) rfl), fun _ => Or.inr ⟨hw _ (List.mem_of_getElem? (i := 98) rfl), hw _ (List.mem_of_getElem? (i := 100) rfl)⟩, [.int], by decide +kernel, rfl⟩, ⟨rfl, hw _ (List.mem_of_getElem? (i := 104) rfl), hw _ (List.mem_of_getElem? (i := 106) rfl), fun _ => Or.inr ⟨hw _ (List.mem_of_getElem? (i := 103) rfl), hw _ (List.mem_of_getElem? (i := 105) rfl)⟩, [.int], by decide +kernel, rfl⟩, ⟨rfl, hw _ (List.mem_of_getElem? (i := 109) rfl), hw _ (List.mem_of_getElem? (i := 111) rfl), fun _ => Or.inr ⟨hw _ (List.mem_of_getElem? (i := 108) rfl), hw _ (List.mem_of_getElem? (i := 110) rfl)⟩, [.int, .int], by decide +kernel, rfl⟩, ⟨rfl, hw _ (List.mem_of_getElem? (i := 113) rfl), hw _ (List.mem_of_getElem? (i := 115) rfl), fun _ => Or.inl (hw _ (List.mem_of_getElem? (i := 114) rfl)), [.int, .int], by decide +kernel, rfl⟩, ⟨rfl, hw _ (List.mem_of_getElem? (i := 122) rfl), hw _ (List.mem_of_getElem? (i := 124) rfl), fun _ => Or.inr ⟨hw _ (List.mem_of_getElem? (i := 121) rfl), hw _ (List.mem_of_getElem? (i := 123) rfl)⟩, [.int, .int], by decide +kernel, rfl⟩, ⟨rfl, hw _ (List.mem_of_getElem? (i := 127) rfl), hw _ (List.mem_of_getElem? (i := 129) rfl), fun _ => Or.inr ⟨hw _ (List.mem_of_getElem? (i := 126) rfl), hw _ (List.mem_of_getElem? (i := 128) rfl)⟩, [], by decide +kernel, rfl⟩, ⟨rfl, hw _ (List.mem_of_getElem? (i := 132) rfl), hw _ (List.mem_of_getElem? (i := 134) rfl), fun _ => Or.inr ⟨hw _ (List.mem_of_getElem? (i := 131) rfl), hw _ (List.mem_of_getElem? (i := 133) rfl)⟩, [], by decide +kernel, rfl⟩, ⟨rfl, hw _ (List.mem_of_getElem? (i := 136) rfl), hw _ (List.mem_of_getElem? (i := 138) rfl), fun _ => Or.inl (hw _ (List.mem_of_getElem? (i := 137) rfl)), [.int], by decide +kernel, rfl⟩, ⟨rfl, hw _ (List.mem_of_getElem? (i := 140) rfl), hw _ (List.mem_of_getElem? (i := 142) rfl), fun _ => Or.inl (hw _ (List.mem_of_getElem? (i := 141) rfl)), [.int], by decide +kernel, rfl⟩, ⟨rfl, hw _ (List.mem_of_getElem? (i := 144) rfl), hw _ (List.mem_of_getElem? (i := 146) rfl), fun _ => Or.inl (hw _ (List.mem_of_getElem? (i := 145) rfl)), [.int], by decide +kernel, rfl⟩, ⟨rfl, hw _ (List.mem_of_getElem? (i := 154) rfl), hw _ (List.mem_of_getElem? (i := 156) rfl), fun _ => Or.inl (hw _ (List.mem_of_getElem? (i := 155) rfl)), [], by decide +kernel, rfl⟩, ⟨rfl, hw _ (List.mem_of_getElem? (i := 158) rfl), hw _ (List.mem_of_getElem? (i := 160) rfl), fun _ => Or.inl (hw _ (List.mem_of_getElem? (i := 159) rfl)), [.int, .int], by decide +kernel, rfl⟩, ⟨rfl, hw _ (List.mem_of_getElem? (i := 162) rfl), hw _ (List.mem_of_getElem? (i := 164) rfl), fun _ => Or.inl (hw _ (List.mem_of_getElem? (i := 163) rfl)), [.int, .int], by decide +kernel, rfl⟩, ⟨rfl, hw _ (List.mem_of_getElem? (i := 166) rfl), hw _ (List.mem_of_getElem? (i := 168) rfl), fun _ => Or.inl (hw _ (List.mem_of_getElem? (i := 167) rfl)), [.int, .int], by decide +kernel, rfl⟩, ⟨rfl, hw _ (List.mem_of_getElem? (i := 170) rfl), hw _ (List.mem_of_getElem? (i := 172) rfl), fun _ => Or.inl (hw _ (List.mem_of_getElem? (i := 171) rfl)), [.int, .int], by decide +kernel, rfl⟩, ⟨rfl, hw _ (List.mem_of_getElem? (i := 185) rfl), hw _ (List.mem_of_getElem? (i := 187) rfl), fun _ => Or.inr ⟨hw _ (List.mem_of_getElem? (i := 184) rfl), hw _ (List.mem_of_getElem? (i := 186) rfl)⟩, [.int, .int], by decide +kernel, rfl⟩, ⟨rfl, hw _ (List.mem_of_getElem? (i := 190) rfl), hw _ (List.mem_of_getElem? (i := 192) rfl), fun _ => Or.inr ⟨hw _ (List.mem_of_getElem? (i := 189) rfl), hw _ (List.mem_of_getElem? (i := 191) rfl)⟩, [.int], by decide +kernel, rfl⟩, ⟨rfl, hw _ (List.mem_of_getElem? (i := 194) rfl), hw _ (List.mem_of_getElem? (i := 196) rfl), fun _ => Or.inl (hw _ (List.mem_of_getElem? (i := 195) rfl)), [.int, .int], by decide +kernel, rfl⟩, ⟨rfl, hw _ (List.mem_of_getElem? (i := 198) rfl), hw _ (List.mem_of_getElem? (i := 200) rfl), fun _ => Or.inl (hw _ (List.mem_of_getElem? (i := 199) rfl)), [.int, .int], by decide +kernel, rfl⟩, ⟨rfl, hw _ (List.mem_of_getElem? (i := 202) rfl), hw _ (List.mem_of_getElem? (i := 204) rfl), fun _ => Or.inl (hw _ (List.mem_of_getElem? (i := 203) rfl)), [.int, .int], by decide +kernel, rfl⟩, ⟨rfl, hw _ (List.mem_of_getElem? (i := 207) rfl), hw _ (List.mem_of_getElem? (i := 209) rfl), fun _ => Or.inr ⟨hw _ (List.mem_of_getElem? (i := 206) rfl), hw _ (List.mem_of_getElem? (i := 208) rfl)⟩, [.int], by decide +kernel, rfl⟩, ⟨rfl, hw _ (List.mem_of_getElem? (i := 213) rfl), hw _ (List.mem_of_getElem? (i := 215) rfl), fun _ => Or.inl (hw _ (List.mem_of_getElem? (i := 214) rfl)), [.int, .int, .int], by decide +kernel, rfl⟩, ⟨rfl, hw _ (List.mem_of_getElem? (i := 217) rfl), hw _ (List.mem_of_getElem? (i := 219) rfl), fun _ => Or.inl (hw _ (List.mem_of_getElem? (i := 218) rfl)), [.int, .int, .int, .int, .int], by decide +kernel, rfl⟩, trivial⟩
theorem t_inf {a0 : Array Value} {Z : State} (hw : ∀ d ∈ tables_1, d.before a0 Z = true) : ∀ q ps ml rk fr lc, pinf PP q = some (ps, ml, rk, fr, lc) → (nmT q).cls = "PodPlacer" ∧ (Jvm.Cond.instanceMethod (nmT q)).before a0 Z = true ∧ (Jvm.Cond.code (nmT q) (byT q) ml (rty rk)).before a0 Z = true ∧ (q ≠ 0 → (Jvm.Cond.privateMethod (nmT q)).before a0 Z = true ∨ ((Jvm.Cond.declares (nmT q)).before a0 Z = true ∧ (Jvm.Cond.selects "PodPlacer" (nmT q) (nmT q)).before a0 Z = true)) ∧ ∃ params, parseMethodDescriptor (nmT q).desc = some ⟨params, rty rk⟩ ∧ params.length = ps.length := fun q ps ml rk fr lc h =>
  t_inf0 hw q (ps, ml, rk, fr, lc) h
set_option maxRecDepth 65536 in
set_option maxHeartbeats 8000000 in
theorem tabP {a0 : Array Value} {Z : State} (hw : ∀ d ∈ tables_1, d.before a0 Z = true) : TabP PP "PodPlacer" fnmT fkdT nmT byT 19 35 a0 Z :=
  ⟨t_code, t_fld hw, t_fkd hw, names_all 35 (fun _ h => cond_ge h) (by decide +kernel), ptrs_all 35 (fun _ h => cond_ge h) (by decide +kernel), t_lay hw, t_cst hw, t_mth hw, t_inf hw, fun x h => by cases Nat.eq_of_beq_eq_true h; exact hw _ (List.mem_of_getElem? (i := 6) rfl), ⟨hw _ (List.mem_of_getElem? (i := 7) rfl), hw _ (List.mem_of_getElem? (i := 8) rfl)⟩, hw _ (List.mem_of_getElem? (i := 1) rfl), hw _ (List.mem_of_getElem? (i := 2) rfl), by first | (simp [plainName, overriddenIn]; done) | decide +kernel, by decide, rfl, fun ps ml rk fr lc h => by cases h; rfl⟩
def lnmT : Nat → MethodName := fun q => cond (Nat.blt q 1) (cond (Nat.beq q 0) ((⟨"PodPlacerL7", "law", "([I)Z"⟩ : MethodName)) (⟨"PodPlacerL7", "law", "([I)Z"⟩ : MethodName)) (cond (Nat.beq q 1) ((⟨"PodPlacerL7", "snap", "(LPodPlacer;)J"⟩ : MethodName)) (⟨"PodPlacerL7", "law", "([I)Z"⟩ : MethodName))
def lbyT : Nat → ByteArray := fun q => cond (Nat.blt q 1) (cond (Nat.beq q 0) (code) code) (cond (Nat.beq q 1) (method_3_code) code)
set_option maxRecDepth 65536 in
set_option maxHeartbeats 8000000 in
theorem lcdk_0 : ∀ pc i len, lcd_0 pc = some (i, len) → decode code pc = .ok (i, len) ∧ chk pc i len = true := code_all 580 (fun _ h => cond_ge h) (by decide +kernel)
set_option maxRecDepth 65536 in
set_option maxHeartbeats 8000000 in
theorem lcdk_1 : ∀ pc i len, lcd_1 pc = some (i, len) → decode method_3_code pc = .ok (i, len) ∧ chk pc i len = true := code_all 55 (fun _ h => cond_ge h) (by decide +kernel)
theorem tl_code : ∀ q pc i len, lcode LL q pc = some (i, len) → decode (lbyT q) pc = .ok (i, len) ∧ chk pc i len = true := by
  intro q
  by_cases hq : q < 2
  · exact allN (Q := fun q => ∀ pc i len, lcode LL q pc = some (i, len) → decode (lbyT q) pc = .ok (i, len) ∧ chk pc i len = true) (N := 2) (⟨⟨trivial, lcdk_0⟩, lcdk_1⟩) q hq
  · intro pc i len h
    have h0 : LLcode q pc = none := cond_ge (by omega)
    have h1 : LLcode q pc = some (i, len) := h
    rw [h0] at h1; cases h1
set_option maxRecDepth 65536 in
set_option maxHeartbeats 8000000 in
theorem tl_cst0 {a0 : Array Value} {Z : State} (hw : ∀ d ∈ tables_1, d.before a0 Z = true) : ∀ x e, LLcst x = some e → (∀ z, e = .inl z → ∃ v : Int32, (Jvm.Cond.constant "PodPlacerL7" x v).before a0 Z = true ∧ v.toInt = z) ∧ (∀ z, e = .inr (.inl z) → ∃ v : Int64, (Jvm.Cond.constantLong "PodPlacerL7" x v).before a0 Z = true ∧ v.toInt = z) :=
  tab_all (f := LLcst) 63 [(60, (vl 2047)), (62, (vl 127))] (fun _ h => cond_ge h) (by decide +kernel) ⟨⟨fun z h => (by cases h), fun z h => by cases h; exact ⟨2047, hw _ (List.mem_of_getElem? (i := 210) rfl), by decide⟩⟩, ⟨fun z h => (by cases h), fun z h => by cases h; exact ⟨127, hw _ (List.mem_of_getElem? (i := 211) rfl), by decide⟩⟩, trivial⟩
theorem tl_cst {a0 : Array Value} {Z : State} (hw : ∀ d ∈ tables_1, d.before a0 Z = true) : ((∀ x z, lcst LL x = some (.inl z) → ∃ v : Int32, (Jvm.Cond.constant "PodPlacerL7" x v).before a0 Z = true ∧ v.toInt = z) ∧ (∀ x z, lcst LL x = some (.inr (.inl z)) → ∃ v : Int64, (Jvm.Cond.constantLong "PodPlacerL7" x v).before a0 Z = true ∧ v.toInt = z)) := ⟨fun x z h => (tl_cst0 hw x _ h).1 z rfl, fun x z h => (tl_cst0 hw x _ h).2 z rfl⟩
set_option maxRecDepth 65536 in
set_option maxHeartbeats 8000000 in
theorem tl_vm {a0 : Array Value} {Z : State} (hw : ∀ d ∈ tables_1, d.before a0 Z = true) : ∀ x q, lvm LL x = some q → (Jvm.Cond.methodLink "PodPlacerL7" x (nmT q)).before a0 Z = true ∧ (Jvm.Cond.declares (nmT q)).before a0 Z = true ∧ (Jvm.Cond.selects "PodPlacer" (nmT q) (nmT q)).before a0 Z = true :=
  tab_all (f := LLvm) 65 [(12, 4), (16, 7), (20, 5), (23, 2), (27, 24), (31, 9), (34, 10), (37, 11), (47, 14), (51, 25), (54, 15), (57, 29), (64, 13)] (fun _ h => cond_ge h) (by decide +kernel) ⟨⟨hw _ (List.mem_of_getElem? (i := 72) rfl), hw _ (List.mem_of_getElem? (i := 73) rfl), hw _ (List.mem_of_getElem? (i := 75) rfl)⟩, ⟨hw _ (List.mem_of_getElem? (i := 88) rfl), hw _ (List.mem_of_getElem? (i := 89) rfl), hw _ (List.mem_of_getElem? (i := 91) rfl)⟩, ⟨hw _ (List.mem_of_getElem? (i := 78) rfl), hw _ (List.mem_of_getElem? (i := 79) rfl), hw _ (List.mem_of_getElem? (i := 81) rfl)⟩, ⟨hw _ (List.mem_of_getElem? (i := 63) rfl), hw _ (List.mem_of_getElem? (i := 64) rfl), hw _ (List.mem_of_getElem? (i := 66) rfl)⟩, ⟨hw _ (List.mem_of_getElem? (i := 183) rfl), hw _ (List.mem_of_getElem? (i := 184) rfl), hw _ (List.mem_of_getElem? (i := 186) rfl)⟩, ⟨hw _ (List.mem_of_getElem? (i := 97) rfl), hw _ (List.mem_of_getElem? (i := 98) rfl), hw _ (List.mem_of_getElem? (i := 100) rfl)⟩, ⟨hw _ (List.mem_of_getElem? (i := 102) rfl), hw _ (List.mem_of_getElem? (i := 103) rfl), hw _ (List.mem_of_getElem? (i := 105) rfl)⟩, ⟨hw _ (List.mem_of_getElem? (i := 107) rfl), hw _ (List.mem_of_getElem? (i := 108) rfl), hw _ (List.mem_of_getElem? (i := 110) rfl)⟩, ⟨hw _ (List.mem_of_getElem? (i := 125) rfl), hw _ (List.mem_of_getElem? (i := 126) rfl), hw _ (List.mem_of_getElem? (i := 128) rfl)⟩, ⟨hw _ (List.mem_of_getElem? (i := 188) rfl), hw _ (List.mem_of_getElem? (i := 189) rfl), hw _ (List.mem_of_getElem? (i := 191) rfl)⟩, ⟨hw _ (List.mem_of_getElem? (i := 130) rfl), hw _ (List.mem_of_getElem? (i := 131) rfl), hw _ (List.mem_of_getElem? (i := 133) rfl)⟩, ⟨hw _ (List.mem_of_getElem? (i := 205) rfl), hw _ (List.mem_of_getElem? (i := 206) rfl), hw _ (List.mem_of_getElem? (i := 208) rfl)⟩, ⟨hw _ (List.mem_of_getElem? (i := 120) rfl), hw _ (List.mem_of_getElem? (i := 121) rfl), hw _ (List.mem_of_getElem? (i := 123) rfl)⟩, trivial⟩
set_option maxRecDepth 65536 in
set_option maxHeartbeats 8000000 in
theorem tl_sm {a0 : Array Value} {Z : State} (hw : ∀ d ∈ tables_1, d.before a0 Z = true) : ∀ x q, lsm LL x = some q → (Jvm.Cond.methodLink "PodPlacerL7" x (lnmT q)).before a0 Z = true :=
  tab_all (f := LLsm) 42 [(41, 1)] (fun _ h => cond_ge h) (by decide +kernel) ⟨hw _ (List.mem_of_getElem? (i := 116) rfl), trivial⟩
set_option maxRecDepth 65536 in
set_option maxHeartbeats 8000000 in
theorem tl_inf {a0 : Array Value} {Z : State} (hw : ∀ d ∈ tables_1, d.before a0 Z = true) : ∀ q ps ml rk fr lc, linf LL q = some (ps, ml, rk, fr, lc) → q ≠ 0 → (lnmT q).cls = "PodPlacerL7" ∧ (Jvm.Cond.static (lnmT q)).before a0 Z = true ∧ (Jvm.Cond.initialized "PodPlacerL7").before a0 Z = true ∧ (Jvm.Cond.code (lnmT q) (lbyT q) ml (rty rk)).before a0 Z = true ∧ ∃ params, parseMethodDescriptor (lnmT q).desc = some ⟨params, rty rk⟩ ∧ params.length = ps.length := fun q ps ml rk fr lc h =>
  tab_all (f := LLinf) 2 [(0, ([2], 23, 2, 6, 99)), (1, ([2], 8, 4, 2, 30))] (fun _ h => cond_ge h) (by decide +kernel) (Q := fun q e => q ≠ 0 → (lnmT q).cls = "PodPlacerL7" ∧ (Jvm.Cond.static (lnmT q)).before a0 Z = true ∧ (Jvm.Cond.initialized "PodPlacerL7").before a0 Z = true ∧ (Jvm.Cond.code (lnmT q) (lbyT q) e.2.1 (rty e.2.2.1)).before a0 Z = true ∧ ∃ params, parseMethodDescriptor (lnmT q).desc = some ⟨params, rty e.2.2.1⟩ ∧ params.length = e.1.length) ⟨fun h => absurd rfl h, fun _ => ⟨rfl, hw _ (List.mem_of_getElem? (i := 117) rfl), hw _ (List.mem_of_getElem? (i := 118) rfl), hw _ (List.mem_of_getElem? (i := 119) rfl), [.object "PodPlacer"], by decide +kernel, rfl⟩, trivial⟩ q _ h
theorem tabL {a0 : Array Value} {Z : State} (hw : ∀ d ∈ tables_1, d.before a0 Z = true) : TabL PP LL "PodPlacer" "PodPlacerL7" nmT lnmT lbyT a0 Z :=
  ⟨tl_code, tl_cst hw, tl_vm hw, fun x h => by cases Nat.eq_of_beq_eq_true h; exact hw _ (List.mem_of_getElem? (i := 3) rfl), tl_sm hw, fun x h => by cases Nat.eq_of_beq_eq_true h; exact hw _ (List.mem_of_getElem? (i := 0) rfl), tl_inf hw, by first | (simp [plainName, overriddenIn]; done) | decide +kernel, by decide⟩
theorem u_f_init_l182  {x3 : Int} {m : OMem} {Q : ((Int × OMem) ⊕ ((OMem))) → Prop} (h : Ok ((if x3 < 16 then (if 0 ≤ x3 ∧ x3 < 16 then (if 0 ≤ x3 ∧ x3 < 16 then (some (.inl (w32 (x3 + 1), sto (sto m 7 x3 0) 8 x3 (-1)))) else none) else none) else (some (.inr m))) : Option ((Int × OMem) ⊕ ((OMem)))) Q) : Ok (f_init_l182 (x3, m)) Q := h
theorem u_f_usedOf_b84 {x1 x2 x3 x4 : Int} {m : OMem} {Q : ((Int × Int) ⊕ ((Int))) → Prop} (h : Ok ((some (.inl (x3, w32 (x4 + 1)))) : Option ((Int × Int) ⊕ ((Int)))) Q) : Ok (f_usedOf_b84 x1 x2 x3 x4 m) Q := h
theorem u_f_usedOf_l5 {m : OMem} {x1 x2 : Int} {x3 : Int} {x4 : Int} {Q : ((Int × Int) ⊕ ((Int))) → Prop} (h : Ok ((if x4 < m 0 20 then (if x4 < 16 then (if 0 ≤ x4 ∧ x4 < 16 then (if m 7 x4 = 2 then (if 0 ≤ x4 ∧ x4 < 16 then (if m 8 x4 = x1 then (if x2 = 0 then (if 0 ≤ x4 ∧ x4 < 16 then (f_usedOf_b84 x1 x2 (w32 (x3 + (m 9 x4))) x4 m) else none) else (if x2 = 1 then (if 0 ≤ x4 ∧ x4 < 16 then (f_usedOf_b84 x1 x2 (w32 (x3 + (m 10 x4))) x4 m) else none) else (f_usedOf_b84 x1 x2 (w32 (x3 + 1)) x4 m))) else (f_usedOf_b84 x1 x2 x3 x4 m)) else none) else (f_usedOf_b84 x1 x2 x3 x4 m)) else none) else (some (.inr x3))) else (some (.inr x3))) : Option ((Int × Int) ⊕ ((Int)))) Q) : Ok (f_usedOf_l5 m x1 x2 (x3, x4)) Q := h
theorem u_f_groupOnNode_b57 {x1 x2 x3 x4 : Int} {m : OMem} {Q : ((Int × Int) ⊕ ((Int))) → Prop} (h : Ok ((some (.inl (x3, w32 (x4 + 1)))) : Option ((Int × Int) ⊕ ((Int)))) Q) : Ok (f_groupOnNode_b57 x1 x2 x3 x4 m) Q := h
theorem u_f_groupOnNode_l5 {m : OMem} {x1 x2 : Int} {x3 : Int} {x4 : Int} {Q : ((Int × Int) ⊕ ((Int))) → Prop} (h : Ok ((if x4 < m 0 20 then (if x4 < 16 then (if 0 ≤ x4 ∧ x4 < 16 then (if m 7 x4 = 2 then (if 0 ≤ x4 ∧ x4 < 16 then (if m 8 x4 = x1 then (if 0 ≤ x4 ∧ x4 < 16 then (if m 14 x4 = x2 then (f_groupOnNode_b57 x1 x2 (w32 (x3 + 1)) x4 m) else (f_groupOnNode_b57 x1 x2 x3 x4 m)) else none) else (f_groupOnNode_b57 x1 x2 x3 x4 m)) else none) else (f_groupOnNode_b57 x1 x2 x3 x4 m)) else none) else (some (.inr x3))) else (some (.inr x3))) : Option ((Int × Int) ⊕ ((Int)))) Q) : Ok (f_groupOnNode_l5 m x1 x2 (x3, x4)) Q := h
theorem u_f_better_b113 {s0 : Int} {m : OMem} {Q : (Int) → Prop} (h : Ok ((some (s0 % 2)) : Option (Int)) Q) : Ok (f_better_b113 s0 m) Q := h
theorem u_f_better_b98 {s0 : Int} {m : OMem} {Q : (Int) → Prop} (h : Ok ((some (s0 % 2)) : Option (Int)) Q) : Ok (f_better_b98 s0 m) Q := h
theorem u_f_better_b74 {s0 : Int} {m : OMem} {Q : (Int) → Prop} (h : Ok ((some (s0 % 2)) : Option (Int)) Q) : Ok (f_better_b74 s0 m) Q := h
theorem u_f_better_b52 {s0 : Int} {m : OMem} {Q : (Int) → Prop} (h : Ok ((some (s0 % 2)) : Option (Int)) Q) : Ok (f_better_b52 s0 m) Q := h
theorem u_f_better_b30 {s0 : Int} {m : OMem} {Q : (Int) → Prop} (h : Ok ((some (s0 % 2)) : Option (Int)) Q) : Ok (f_better_b30 s0 m) Q := h
theorem u_f_better {x1 x2 x3 x4 x5 : Int} {m : OMem} {Q : (Int) → Prop} (h : Ok ((if m 0 26 = 0 then (some 1) else (if x1 = m 0 32 then (if x2 = m 0 33 then (if x3 = m 0 34 then (if x4 = m 0 25 then (if x5 < m 0 24 then (f_better_b113 1 m) else (f_better_b113 0 m)) else (if x4 < m 0 25 then (f_better_b98 1 m) else (f_better_b98 0 m))) else (if x3 < m 0 34 then (f_better_b74 1 m) else (f_better_b74 0 m))) else (if x2 < m 0 33 then (f_better_b52 1 m) else (f_better_b52 0 m))) else (if x1 < m 0 32 then (f_better_b30 1 m) else (f_better_b30 0 m)))) : Option (Int)) Q) : Ok (f_better x1 x2 x3 x4 x5 m) Q := h
theorem u_f_evaluateSubset_b320 {x2 x4 x5 x6 x9 x10 : Int} {m : OMem} {Q : ((Int) ⊕ ((Unit) ⊕ (Unit))) → Prop} (h : Ok ((some (.inl (w32 (x10 + 1)))) : Option ((Int) ⊕ ((Unit) ⊕ (Unit)))) Q) : Ok (f_evaluateSubset_b320 x2 x4 x5 x6 x9 x10 m) Q := h
theorem u_f_evaluateSubset_l277 {m : OMem} {x2 x4 x5 x6 x9 : Int} {x10 : Int} {Q : ((Int) ⊕ ((Unit) ⊕ (Unit))) → Prop} (h : Ok ((if x10 < 16 then (if 0 ≤ x10 ∧ x10 < 16 then (if 0 < m 19 x10 then (if 0 ≤ x10 ∧ x10 < 16 then (if 0 ≤ x10 ∧ x10 < 16 then (if 0 ≤ x10 ∧ x10 < 16 then (if w32 ((m 18 x10) - (m 19 x10)) < m 16 x10 then (some (.inr (.inl ()))) else (f_evaluateSubset_b320 x2 x4 x5 x6 x9 x10 m)) else none) else none) else none) else (f_evaluateSubset_b320 x2 x4 x5 x6 x9 x10 m)) else none) else (some (.inr (.inr ())))) : Option ((Int) ⊕ ((Unit) ⊕ (Unit)))) Q) : Ok (f_evaluateSubset_l277 m x2 x4 x5 x6 x9 x10) Q := h
def own_cl (x a b : Int) : Int := if x < a then a else if b < x then b else x
set_option maxRecDepth 65536 in
set_option maxHeartbeats 16000000 in
theorem own_clamp (x a b : Int) (m : OMem) : f_clamp x a b m = some (own_cl x a b) := by
  unfold f_clamp own_cl
  by_cases h : x < a
  · rw [if_pos h, if_pos h]
  · rw [if_neg h, if_neg h]
    by_cases h' : b < x
    · rw [if_pos h', if_pos h']
    · rw [if_neg h', if_neg h']
set_option maxRecDepth 65536 in
set_option maxHeartbeats 16000000 in
theorem own_fill (m0 : OMem) : Ok (lp f_init_l182 NN (0, m0)) (fun m => ∀ k i, m k i = if k = 7 ∧ 0 ≤ i ∧ i < 16 then 0 else if k = 8 ∧ 0 ≤ i ∧ i < 16 then -1 else m0 k i) := by
  refine Ok.loop (fun s => 0 ≤ s.1 ∧ s.1 ≤ 16 ∧ ∀ k i, s.2 k i = if k = 7 ∧ 0 ≤ i ∧ i < s.1 then 0 else if k = 8 ∧ 0 ≤ i ∧ i < s.1 then -1 else m0 k i) (fun s => (16 - s.1).toNat) ?_ (by simp) ?_
  · refine ⟨by simp, by simp, fun k i => ?_⟩
    rw [if_neg (by simp <;> omega), if_neg (by simp <;> omega)]
  · rintro ⟨x, m⟩ ⟨a, b, c⟩
    dsimp only at a b c
    repeat' (first | ((with_reducible refine Ok.grd ?_ ?_); (focus (first | omega | ((try simp only [w32_al, w32_ar, w32_sl, w32_sr, w32_m4, w32_m6, w32_m10, w32_m16, w32_m24]); (repeat rw [w32_id (by omega)]); omega) | ((try simp only [w32_al, w32_ar, w32_sl, w32_sr, w32_m4, w32_m6, w32_m10, w32_m16, w32_m24]); unfold w32; omega) | (simp [sto, z0_at, w32]; done) | (simp [sto, z0_at, w32]; omega)))) | ((with_reducible refine Ok.ite (fun h => ?_) (fun h => ?_)) <;> (try simp [sto, z0_at, w32] at h) <;> (try (exfalso; omega))) | (with_reducible refine Ok.bind' ?_) | ((with_reducible refine Ok.ret ?_); (try dsimp only)) | (with_reducible refine Ok.lpNN ?_) | (with_reducible refine Ok.lp1 ?_) | (with_reducible refine u_f_init_l182 ?_))
    · rw [w32_id (by omega)]
      refine ⟨⟨by omega, by omega, fun k i => ?_⟩, by omega⟩
      simp only [sto, c]
      repeat' split
      all_goals omega
    · intro k i
      obtain rfl : x = 16 := by omega
      exact c k i
set_option maxRecDepth 65536 in
set_option maxHeartbeats 16000000 in
theorem own_init (x0 x1 : Int) : Ok (f_init x0 x1 z0) (fun m => m 0 19 = own_cl x0 1 8 ∧ m 0 20 = own_cl x1 1 16 ∧ m 0 21 = 0 ∧ m 0 22 = -1 ∧ m 0 23 = 0 ∧ (∀ i, m 7 i = 0) ∧ (∀ i, 0 ≤ i → i < 16 → m 8 i = -1) ∧ (∀ i, m 1 i = 0)) := by
  unfold f_init
  refine Ok.bindE (own_clamp _ _ _ _) ?_
  refine Ok.bindE (own_clamp _ _ _ _) ?_
  refine Ok.bind (own_fill _) fun m h => Ok.ret ?_
  refine ⟨?_, ?_, ?_, ?_, ?_, fun i => ?_, fun i a b => ?_, fun i => ?_⟩
  all_goals (simp [sto, h, z0_at])
  all_goals omega

/-! PodPlacer with 4 nodes and 8 pods, small figures -/
def own_val (m : OMem) (r q : Int) : Int := if r = 0 then m 9 q else if r = 1 then m 10 q else 1
def own_sum (m : OMem) (n r : Int) : Nat → Int
  | 0 => 0
  | k + 1 => own_sum m n r k + (if m 7 (k : Int) = 2 ∧ m 8 (k : Int) = n then own_val m r (k : Int) else 0)
abbrev own_U (m : OMem) (n r : Int) : Int := own_sum m n r 8
abbrev own_V (m : OMem) : Prop := (∀ q, 0 ≤ m 9 q ∧ m 9 q ≤ 15) ∧ (∀ q, 0 ≤ m 10 q ∧ m 10 q ≤ 15)
set_option maxRecDepth 65536 in
set_option maxHeartbeats 16000000 in
theorem own_val_r (m : OMem) (hV : own_V m) (r q : Int) : 0 ≤ own_val m r q ∧ own_val m r q ≤ 15 := by
  have a := hV.1 q
  have b := hV.2 q
  unfold own_val
  split
  · omega
  · split <;> omega
set_option maxRecDepth 65536 in
set_option maxHeartbeats 16000000 in
theorem own_sum_r (m : OMem) (hV : own_V m) (n r : Int) : ∀ k : Nat, 0 ≤ own_sum m n r k ∧ own_sum m n r k ≤ 15 * (k : Int)
  | 0 => by simp [own_sum]
  | k + 1 => by
    have ih := own_sum_r m hV n r k
    have a := own_val_r m hV r (k : Int)
    unfold own_sum
    split <;> omega
set_option maxRecDepth 65536 in
set_option maxHeartbeats 16000000 in
theorem own_sum_c {m m' : OMem} {n r : Int} (h : ∀ q, 0 ≤ q → q < 8 → ((m' 7 q = 2 ∧ m' 8 q = n) ↔ (m 7 q = 2 ∧ m 8 q = n)) ∧ m' 9 q = m 9 q ∧ m' 10 q = m 10 q) : ∀ k : Nat, k ≤ 8 → own_sum m' n r k = own_sum m n r k
  | 0, _ => rfl
  | k + 1, hk => by
    have ih := own_sum_c (r := r) h k (by omega)
    obtain ⟨a, b, c⟩ := h (k : Int) (by omega) (by omega)
    unfold own_sum own_val
    rw [ih, b, c]
    by_cases q : m 7 (k : Int) = 2 ∧ m 8 (k : Int) = n
    · rw [if_pos q, if_pos (a.mpr q)]
    · rw [if_neg q, if_neg (fun z => q (a.mp z))]
/- one pod more -/
set_option maxRecDepth 65536 in
set_option maxHeartbeats 16000000 in
theorem own_sum_b {m : OMem} {p b n r : Int} (hp : 0 ≤ p ∧ p < 8) (h7 : m 7 p ≠ 2) : ∀ k : Nat, own_sum (sto (sto m 7 p 2) 8 p b) n r k = own_sum m n r k + (if p < (k : Int) ∧ b = n then own_val m r p else 0)
  | 0 => by
    rw [if_neg (by omega)]
    rfl
  | k + 1 => by
    have ih := own_sum_b (n := n) (r := r) (b := b) hp h7 k
    have e7 : ∀ i, sto (sto m 7 p 2) 8 p b 7 i = if i = p then 2 else m 7 i := fun i => by simp [sto]
    have e8 : ∀ i, sto (sto m 7 p 2) 8 p b 8 i = if i = p then b else m 8 i := fun i => by simp [sto]
    have e9 : ∀ i, sto (sto m 7 p 2) 8 p b 9 i = m 9 i := fun i => by simp [sto]
    have e10 : ∀ i, sto (sto m 7 p 2) 8 p b 10 i = m 10 i := fun i => by simp [sto]
    have ev : own_val (sto (sto m 7 p 2) 8 p b) r (k : Int) = own_val m r (k : Int) := by
      unfold own_val
      rw [e9, e10]
    unfold own_sum
    rw [ih, ev, e7, e8]
    by_cases q : (k : Int) = p
    · have h7k : m 7 (k : Int) ≠ 2 := by rw [q]; exact h7
      rw [if_pos q, if_pos q, if_neg (show ¬ (p < (k : Int) ∧ b = n) by omega), if_neg (show ¬ (m 7 (k : Int) = 2 ∧ m 8 (k : Int) = n) from fun z => h7k z.1)]
      by_cases q2 : b = n
      · rw [if_pos (show (2 : Int) = 2 ∧ b = n from ⟨rfl, q2⟩), if_pos (show p < ((k + 1 : Nat) : Int) ∧ b = n from ⟨by omega, q2⟩), q]
        try omega
      · rw [if_neg (show ¬ ((2 : Int) = 2 ∧ b = n) from fun z => q2 z.2), if_neg (show ¬ (p < ((k + 1 : Nat) : Int) ∧ b = n) from fun z => q2 z.2)]
    · rw [if_neg q, if_neg q]
      by_cases q2 : p < (k : Int) ∧ b = n
      · rw [if_pos q2, if_pos (show p < ((k + 1 : Nat) : Int) ∧ b = n from ⟨by omega, q2.2⟩)]
        omega
      · rw [if_neg q2, if_neg (show ¬ (p < ((k + 1 : Nat) : Int) ∧ b = n) from fun z => q2 ⟨by omega, z.2⟩)]
        omega
set_option maxRecDepth 65536 in
set_option maxHeartbeats 16000000 in
theorem own_us (m : OMem) (n r : Int) (h20 : m 0 20 = 8) (hV : own_V m) : f_usedOf n r m = some (own_U m n r) := by
  have : Ok (f_usedOf n r m) (fun z => z = own_U m n r) := by
    unfold f_usedOf f_usedOf_b90
    refine Ok.bind (P := fun z => z = own_U m n r) ?_ fun z hz => Ok.ret hz
    refine Ok.loop (fun s => 0 ≤ s.2 ∧ s.2 ≤ 8 ∧ s.1 = own_sum m n r s.2.toNat) (fun s => (8 - s.2).toNat) ⟨by simp, by simp, rfl⟩ (by simp) ?_
    rintro ⟨x, y⟩ ⟨a, b, c⟩
    dsimp only at a b c
    obtain ⟨k, rfl⟩ : ∃ k : Nat, y = (k : Int) := ⟨y.toNat, by omega⟩
    simp only [Int.toNat_natCast] at c
    have rk := own_sum_r m hV n r k
    have v9 := hV.1 (k : Int)
    have v10 := hV.2 (k : Int)
    have st : ∀ z, z = own_sum m n r (k + 1) → (fun x : (Int × Int) ⊕ Int => match x with | .inl s' => (0 ≤ s'.2 ∧ s'.2 ≤ 8 ∧ s'.1 = own_sum m n r s'.2.toNat) ∧ (8 - s'.2).toNat < (8 - (k : Int)).toNat | .inr e => e = own_U m n r) (.inl (z, w32 ((k : Int) + 1))) ∨ ¬ (k : Int) < 8 := by
      intro z hz
      by_cases hk : (k : Int) < 8
      · left
        dsimp only
        rw [w32_id (by omega)]
        refine ⟨⟨by omega, by omega, ?_⟩, by omega⟩
        rw [hz]
        have : ((k : Int) + 1).toNat = k + 1 := by omega
        rw [this]
      · exact Or.inr hk
    unfold f_usedOf_l5 f_usedOf_b84
    dsimp only
    rw [h20]
    refine Ok.ite (fun hk => ?_) (fun hk => Ok.ret ?_)
    · refine Ok.pos (by omega) (Ok.grd (by omega) ?_)
      refine Ok.ite (fun h7 => Ok.grd (by omega) (Ok.ite (fun h8 => ?_) (fun h8 => ?_))) (fun h7 => ?_)
      · refine Ok.ite (fun r0 => Ok.grd (by omega) (Ok.ret ?_)) (fun r0 => Ok.ite (fun r1 => Ok.grd (by omega) (Ok.ret ?_)) (fun r1 => Ok.ret ?_))
        · exact (st _ (by unfold own_sum own_val; rw [if_pos ⟨h7, h8⟩, if_pos r0, ← c, w32_id (by omega)])).resolve_right (fun z => z hk)
        · exact (st _ (by unfold own_sum own_val; rw [if_pos ⟨h7, h8⟩, if_neg r0, if_pos r1, ← c, w32_id (by omega)])).resolve_right (fun z => z hk)
        · exact (st _ (by unfold own_sum own_val; rw [if_pos ⟨h7, h8⟩, if_neg r0, if_neg r1, ← c, w32_id (by omega)])).resolve_right (fun z => z hk)
      · exact Ok.ret ((st _ (by unfold own_sum; rw [if_neg (fun z => h8 z.2), ← c]; omega)).resolve_right (fun z => z hk))
      · exact Ok.ret ((st _ (by unfold own_sum; rw [if_neg (fun z => h7 z.1), ← c]; omega)).resolve_right (fun z => z hk))
    · dsimp only
      have : k = 8 := by omega
      subst this
      exact c
  obtain ⟨z, e, rfl⟩ := this
  exact e
set_option maxRecDepth 65536 in
set_option maxHeartbeats 16000000 in
theorem own_vn (m : OMem) (n : Int) (h19 : m 0 19 = 4) : f_validNode n m = some (if 0 ≤ n ∧ n < 4 ∧ m 1 n ≠ 0 then 1 else 0) := by
  have : Ok (f_validNode n m) (fun r => r = if 0 ≤ n ∧ n < 4 ∧ m 1 n ≠ 0 then 1 else 0) := by
    unfold f_validNode f_validNode_b31 f_validNode_b32
    rw [h19]
    refine Ok.ite (fun a => Ok.ret ?_) (fun a => Ok.ite (fun b => Ok.pos (by omega) (Ok.grd (by omega) (Ok.ite (fun c => Ok.ret ?_) (fun c => Ok.ret ?_)))) (fun b => Ok.ret ?_))
    · rw [if_neg (by omega)]; rfl
    · rw [if_neg (by omega)]; rfl
    · rw [if_pos ⟨by omega, b, c⟩]; rfl
    · rw [if_neg (by omega)]; rfl
  obtain ⟨z, e, rfl⟩ := this
  exact e
set_option maxRecDepth 65536 in
set_option maxHeartbeats 16000000 in
theorem own_vn1 (m : OMem) (n : Int) (h19 : m 0 19 = 4) (h : 0 ≤ n ∧ n < 4 ∧ m 1 n ≠ 0) : f_validNode n m = some 1 := by rw [own_vn m n h19, if_pos h]
set_option maxRecDepth 65536 in
set_option maxHeartbeats 16000000 in
theorem own_vn0 (m : OMem) (n : Int) (h19 : m 0 19 = 4) (h : ¬ (0 ≤ n ∧ n < 4 ∧ m 1 n ≠ 0)) : f_validNode n m = some 0 := by rw [own_vn m n h19, if_neg h]
set_option maxRecDepth 65536 in
set_option maxHeartbeats 16000000 in
theorem own_vp (m : OMem) (p : Int) (h20 : m 0 20 = 8) : f_validPod p m = some (if 0 ≤ p ∧ p < 8 then 1 else 0) := by
  have : Ok (f_validPod p m) (fun r => r = if 0 ≤ p ∧ p < 8 then 1 else 0) := by
    unfold f_validPod f_validPod_b22 f_validPod_b23
    rw [h20]
    refine Ok.ite (fun a => Ok.ret ?_) (fun a => Ok.ite (fun b => Ok.pos (by omega) (Ok.ret ?_)) (fun b => Ok.ret ?_))
    · rw [if_neg (by omega)]; rfl
    · rw [if_pos ⟨by omega, b⟩]; rfl
    · rw [if_neg (by omega)]; rfl
  obtain ⟨z, e, rfl⟩ := this
  exact e
set_option maxRecDepth 65536 in
set_option maxHeartbeats 16000000 in
theorem own_vp1 (m : OMem) (p : Int) (h20 : m 0 20 = 8) (h : 0 ≤ p ∧ p < 8) : f_validPod p m = some 1 := by rw [own_vp m p h20, if_pos h]
set_option maxRecDepth 65536 in
set_option maxHeartbeats 16000000 in
theorem own_vp0 (m : OMem) (p : Int) (h20 : m 0 20 = 8) (h : ¬ (0 ≤ p ∧ p < 8)) : f_validPod p m = some 0 := by rw [own_vp m p h20, if_neg h]
def own_nu (m : OMem) (n r : Int) : Int := if m 1 n = 0 then -1 else own_U m n r
set_option maxRecDepth 65536 in
set_option maxHeartbeats 16000000 in
theorem own_nus (m : OMem) (n r : Int) (h19 : m 0 19 = 4) (h20 : m 0 20 = 8) (hV : own_V m) (hn : 0 ≤ n ∧ n < 4) (hr : 0 ≤ r ∧ r ≤ 2) : f_nodeUsed n r m = some (own_nu m n r) := by
  have : Ok (f_nodeUsed n r m) (fun z => z = own_nu m n r) := by
    unfold f_nodeUsed f_nodeUsed_b17 own_nu
    by_cases h : m 1 n = 0
    · rw [if_pos h]
      exact Ok.bindE (own_vn0 m n h19 (by omega)) (Ok.pos rfl (Ok.ret rfl))
    · rw [if_neg h]
      refine Ok.bindE (own_vn1 m n h19 ⟨hn.1, hn.2, h⟩) ?_
      exact Ok.neg (by first | decide | omega) (Ok.neg (by omega) (Ok.neg (by omega) (Ok.bindE (own_us m n r h20 hV) (Ok.ret rfl))))
  obtain ⟨z, e, rfl⟩ := this
  exact e
set_option maxRecDepth 65536 in
set_option maxHeartbeats 16000000 in
theorem own_lm (m : OMem) (p n : Int) (hp : 0 ≤ p ∧ p < 8) (hn : 0 ≤ n ∧ n < 8) : Ok (f_labelsMatch p n m) (fun r => r = 0 ∨ r = 1) := by
  unfold f_labelsMatch f_labelsMatch_b47
  refine Ok.grd (by omega) (Ok.grd (by omega) (Ok.ite (fun _ => Ok.grd (by omega) (Ok.grd (by omega) (Ok.grd (by omega) (Ok.ite (fun _ => Ok.ret ?_) (fun _ => Ok.ret ?_))))) (fun _ => Ok.ret ?_)))
  all_goals simp
set_option maxRecDepth 65536 in
set_option maxHeartbeats 16000000 in
theorem own_gn (m : OMem) (n g : Int) : Ok (f_groupOnNode n g m) (fun _ => True) := by
  unfold f_groupOnNode f_groupOnNode_b63
  refine Ok.bind (P := fun _ => True) ?_ fun z hz => Ok.ret trivial
  refine Ok.loop (fun s => 0 ≤ s.2) (fun s => (16 - s.2).toNat) (by simp) (by simp) ?_
  rintro ⟨x, y⟩ a
  dsimp only at a
  repeat' (first | ((with_reducible refine Ok.grd ?_ ?_); (focus (first | omega | ((try simp only [w32_al, w32_ar, w32_sl, w32_sr, w32_m4, w32_m6, w32_m10, w32_m16, w32_m24]); (repeat rw [w32_id (by omega)]); omega) | ((try simp only [w32_al, w32_ar, w32_sl, w32_sr, w32_m4, w32_m6, w32_m10, w32_m16, w32_m24]); unfold w32; omega) | (simp [sto, z0_at, w32]; done) | (simp [sto, z0_at, w32]; omega)))) | ((with_reducible refine Ok.ite (fun h => ?_) (fun h => ?_)) <;> (try simp [sto, z0_at, w32] at h) <;> (try (exfalso; omega))) | (with_reducible refine Ok.bind' ?_) | ((with_reducible refine Ok.ret ?_); (try dsimp only)) | (with_reducible refine Ok.lpNN ?_) | (with_reducible refine Ok.lp1 ?_) | (with_reducible refine u_f_groupOnNode_l5 ?_) | (with_reducible refine u_f_groupOnNode_b57 ?_))
  all_goals (first | trivial | omega | ((try simp only [w32_al, w32_ar, w32_sl, w32_sr, w32_m4, w32_m6, w32_m10, w32_m16, w32_m24]); (repeat rw [w32_id (by omega)]); omega) | ((try simp only [w32_al, w32_ar, w32_sl, w32_sr, w32_m4, w32_m6, w32_m10, w32_m16, w32_m24]); unfold w32; omega) | (simp [sto, z0_at, w32]; done) | (simp [sto, z0_at, w32]; omega))
set_option maxRecDepth 65536 in
set_option maxHeartbeats 16000000 in
theorem own_fit (m : OMem) (p n : Int) (h19 : m 0 19 = 4) (h20 : m 0 20 = 8) (hV : own_V m) (hp : 0 ≤ p ∧ p < 8) (hn : 0 ≤ n ∧ n < 4) : Ok (f_fits p n m) (fun b => b = 0 ∨ (b = 1 ∧ m 1 n ≠ 0 ∧ own_U m n 0 + m 9 p ≤ m 2 n ∧ own_U m n 1 + m 10 p ≤ m 3 n)) := by
  have u0 : 0 ≤ own_U m n 0 ∧ own_U m n 0 ≤ 120 := own_sum_r m hV n 0 8
  have u1 : 0 ≤ own_U m n 1 ∧ own_U m n 1 ≤ 120 := own_sum_r m hV n 1 8
  have u2 : 0 ≤ own_U m n 2 ∧ own_U m n 2 ≤ 120 := own_sum_r m hV n 2 8
  have v9 := hV.1 p
  have v10 := hV.2 p
  unfold f_fits f_fits_b17 f_fits_b90 f_fits_b117
  by_cases h : m 1 n = 0
  · exact Ok.bindE (own_vn0 m n h19 (by omega)) (Ok.pos rfl (Ok.ret (Or.inl rfl)))
  refine Ok.bindE (own_vn1 m n h19 ⟨hn.1, hn.2, h⟩) ?_
  refine Ok.neg (by first | decide | omega) (Ok.bind (own_lm m p n hp (by omega)) fun r hr => Ok.ite (fun _ => Ok.ret (Or.inl rfl)) (fun _ => ?_))
  refine Ok.bindE (own_us m n 0 h20 hV) (Ok.bindE (own_us m n 1 h20 hV) (Ok.bindE (own_us m n 2 h20 hV) ?_))
  rw [w32_id (z := own_U m n 0 + m 9 p) (by omega), w32_id (z := own_U m n 1 + m 10 p) (by omega)]
  refine Ok.grd (by omega) (Ok.grd (by omega) (Ok.ite (fun _ => Ok.ret (Or.inl rfl)) (fun c0 => ?_)))
  refine Ok.grd (by omega) (Ok.grd (by omega) (Ok.ite (fun _ => Ok.ret (Or.inl rfl)) (fun c1 => ?_)))
  refine Ok.grd (by omega) (Ok.ite (fun _ => Ok.ret (Or.inl rfl)) (fun c2 => Ok.grd (by omega) ?_))
  have good : (1 : Int) = 0 ∨ ((1 : Int) = 1 ∧ m 1 n ≠ 0 ∧ own_U m n 0 + m 9 p ≤ m 2 n ∧ own_U m n 1 + m 10 p ≤ m 3 n) := Or.inr ⟨rfl, h, by omega, by omega⟩
  refine Ok.ite (fun _ => Ok.ret good) (fun _ => Ok.grd (by omega) (Ok.bind (own_gn m _ _) fun r _ => Ok.ite (fun _ => Ok.ret (Or.inl rfl)) (fun _ => Ok.ret good)))
set_option maxRecDepth 65536 in
set_option maxHeartbeats 16000000 in
theorem own_q100 (a b : Int) (ha : 0 ≤ a) (hab : a ≤ b) (hb : 0 < b) (hb2 : b ≤ 1000) : 0 ≤ div32 (a * 100) b ∧ div32 (a * 100) b ≤ 100 := by
  rw [div32_nn (by omega) (by omega) hb]
  constructor
  · exact Int.ediv_nonneg (by omega) (by omega)
  · have : a * 100 / b ≤ b * 100 / b := Int.ediv_le_ediv hb (by omega)
    rw [Int.mul_comm b 100, Int.mul_ediv_cancel _ (by omega)] at this
    exact this
set_option maxRecDepth 65536 in
set_option maxHeartbeats 16000000 in
theorem own_sco (m : OMem) (p n : Int) (h20 : m 0 20 = 8) (hV : own_V m) (hp : 0 ≤ p ∧ p < 8) (hn : 0 ≤ n ∧ n < 4) (h9 : 1 ≤ m 9 p) (h10 : 1 ≤ m 10 p) (h2 : m 2 n ≤ 1000) (h3 : m 3 n ≤ 1000) (c0 : own_U m n 0 + m 9 p ≤ m 2 n) (c1 : own_U m n 1 + m 10 p ≤ m 3 n) : Ok (f_scoreOf p n m) (fun v => 0 ≤ v) := by
  have u0 : 0 ≤ own_U m n 0 ∧ own_U m n 0 ≤ 120 := own_sum_r m hV n 0 8
  have u1 : 0 ≤ own_U m n 1 ∧ own_U m n 1 ≤ 120 := own_sum_r m hV n 1 8
  unfold f_scoreOf f_scoreOf_b24 f_scoreOf_b109
  refine Ok.grd (by omega) (Ok.grd (by omega) (Ok.pos (by omega) (Ok.pos (by omega) ?_)))
  refine Ok.bindE (own_us m n 0 h20 hV) (Ok.grd (by omega) (Ok.bindE (own_us m n 1 h20 hV) (Ok.grd (by omega) ?_)))
  refine Ok.neg (by omega) (Ok.neg (by omega) (Ok.neg (by omega) (Ok.neg (by omega) ?_)))
  generalize own_U m n 0 = A at *
  generalize own_U m n 1 = B at *
  rw [w32_id (z := A + m 9 p) (by omega), w32_id (z := B + m 10 p) (by omega)]
  rw [w32_id (z := m 2 n - (A + m 9 p)) (by omega), w32_id (z := m 3 n - (B + m 10 p)) (by omega)]
  rw [w32_id (z := (A + m 9 p) * 100) (by omega), w32_id (z := (B + m 10 p) * 100) (by omega)]
  rw [w32_id (z := (m 2 n - (A + m 9 p)) * 100) (by omega), w32_id (z := (m 3 n - (B + m 10 p)) * 100) (by omega)]
  have q1 := own_q100 (A + m 9 p) (m 2 n) (by omega) c0 (by omega) h2
  have q2 := own_q100 (B + m 10 p) (m 3 n) (by omega) c1 (by omega) h3
  have q3 := own_q100 (m 2 n - (A + m 9 p)) (m 2 n) (by omega) (by omega) (by omega) h2
  have q4 := own_q100 (m 3 n - (B + m 10 p)) (m 3 n) (by omega) (by omega) (by omega) h3
  generalize div32 ((A + m 9 p) * 100) (m 2 n) = a1 at *
  generalize div32 ((B + m 10 p) * 100) (m 3 n) = a2 at *
  generalize div32 ((m 2 n - (A + m 9 p)) * 100) (m 2 n) = a3 at *
  generalize div32 ((m 3 n - (B + m 10 p)) * 100) (m 3 n) = a4 at *
  rw [w32_id (z := a3 + a4) (by omega), w32_id (z := a1 - a2) (by omega), div32_nn (a := a3 + a4) (by omega) (by omega) (by omega)]
  refine Ok.ite (fun _ => Ok.ret ?_) (fun _ => Ok.ret ?_)
  · rw [w32_id (z := -(a1 - a2)) (by omega), w32_id (z := 100 - -(a1 - a2)) (by omega), w32_id (by omega)]
    omega
  · rw [w32_id (z := 100 - (a1 - a2)) (by omega), w32_id (by omega)]
    omega
/-! the search for victims touches its own scratch alone -/
def own_Fr (m m' : OMem) : Prop := ∀ k i, k ≠ 17 → k ≠ 18 → k ≠ 19 → (k = 0 → i < 24 ∨ 34 < i) → m' k i = m k i
def own_Fs (m m' : OMem) : Prop := ∀ k i, k ≠ 19 → (k = 0 → i ≠ 24 ∧ i ≠ 25 ∧ i ≠ 26 ∧ i ≠ 32 ∧ i ≠ 33 ∧ i ≠ 34) → m' k i = m k i
def own_mk (m : OMem) (x : Int) : Prop := ∃ X : Nat, x = (X : Int) ∧ X < 256 ∧ ∀ q : Nat, q < 8 → X.testBit q = true → m 7 (q : Int) = 2
def own_C (m : OMem) : Prop := 0 ≤ m 0 31 ∧ m 0 31 ≤ 8 ∧ (∀ j, 0 ≤ j → j < m 0 31 → 0 ≤ m 17 j ∧ m 17 j < 8 ∧ m 7 (m 17 j) = 2) ∧ (∀ i j, 0 ≤ i → i < j → j < m 0 31 → m 17 i < m 17 j)
set_option maxRecDepth 65536 in
set_option maxHeartbeats 16000000 in
theorem own_mk_c {m m' : OMem} {x : Int} (h : own_mk m x) (e : ∀ q, m' 7 q = m 7 q) : own_mk m' x := by
  obtain ⟨X, a, b, c⟩ := h
  exact ⟨X, a, b, fun q h1 h2 => by rw [e]; exact c q h1 h2⟩
set_option maxRecDepth 65536 in
set_option maxHeartbeats 16000000 in
theorem own_C_c {m m' : OMem} (h : own_C m) (e31 : m' 0 31 = m 0 31) (e17 : ∀ q, m' 17 q = m 17 q) (e7 : ∀ q, m' 7 q = m 7 q) : own_C m' := by
  unfold own_C
  simp only [e31, e17, e7]
  exact h
set_option maxRecDepth 65536 in
set_option maxHeartbeats 16000000 in
theorem own_badd : ∀ q : Fin 8, ∀ X : Fin 256, X.val < 2 ^ q.val → ∀ j : Fin 8, (X.val + 2 ^ q.val).testBit j.val = true → X.val.testBit j.val = true ∨ j = q := by decide +kernel
set_option maxRecDepth 65536 in
set_option maxHeartbeats 16000000 in
theorem own_badd2 : ∀ q : Fin 8, ∀ X : Fin 256, X.val < 2 ^ q.val → X.val + 2 ^ q.val < 256 := by decide +kernel
set_option maxRecDepth 65536 in
set_option maxHeartbeats 16000000 in
theorem own_bt : ∀ X : Fin 256, ∀ q : Fin 8, (and32 (shr32 (X.val : Int) (q.val : Int)) 1 = 0 ↔ X.val.testBit q.val = false) := by decide +kernel
set_option maxRecDepth 65536 in
set_option maxHeartbeats 16000000 in
theorem own_l45 (m : OMem) (x1 x2 x3 : Int) (hC : own_C m) : Ok (lp (f_evaluateSubset_l45 x1 x2 x3) NN (0, -1, 0, 0, 0, 0, 0, m)) (fun r => (∀ k i, k ≠ 19 → r.2.2.2.2.2.2 k i = m k i) ∧ own_mk m r.2.2.2.2.2.1) := by
  obtain ⟨hc0, hc8, hc1, hc2⟩ := hC
  refine Ok.loop (fun s => 0 ≤ s.2.2.2.2.2.2.1 ∧ (∀ k i, k ≠ 19 → s.2.2.2.2.2.2.2 k i = m k i) ∧ ∃ X : Nat, s.2.2.2.2.2.1 = (X : Int) ∧ X < 256 ∧ (∀ q : Nat, q < 8 → X.testBit q = true → m 7 (q : Int) = 2) ∧ (∀ j, s.2.2.2.2.2.2.1 ≤ j → j < m 0 31 → X < 2 ^ (m 17 j).toNat)) (fun s => (16 - s.2.2.2.2.2.2.1).toNat) ⟨by simp, fun _ _ _ => rfl, 0, rfl, by decide, fun q _ hq => by simp at hq, fun j _ _ => Nat.two_pow_pos _⟩ (by simp) ?_
  rintro ⟨x4, x5, x6, x7, x8, x9, x10, m1⟩ ⟨h0, hf, X, hX, hX2, hX3, hX4⟩
  dsimp only at h0 hf hX hX4
  have e31 : m1 0 31 = m 0 31 := hf 0 31 (by first | decide | omega)
  have e17 : ∀ j, m1 17 j = m 17 j := fun j => hf 17 j (by first | decide | omega)
  have e14 : ∀ j, m1 14 j = m 14 j := fun j => hf 14 j (by first | decide | omega)
  unfold f_evaluateSubset_l45 f_evaluateSubset_b118 f_evaluateSubset_b170
  dsimp only
  rw [e31]
  have done : (∀ k i, k ≠ 19 → m1 k i = m k i) ∧ own_mk m x9 := ⟨hf, X, hX, hX2, hX3⟩
  refine Ok.ite (fun h1 => Ok.ite (fun h2 => ?_) (fun _ => Ok.ret done)) (fun _ => Ok.ret done)
  rw [w32_id (z := x10 + 1) (by omega)]
  refine Ok.ite (fun _ => Ok.ret ?_) (fun _ => ?_)
  · dsimp only
    exact ⟨⟨by omega, hf, X, hX, hX2, hX3, fun j a b => hX4 j (by omega) b⟩, by omega⟩
  have hq := hc1 x10 h0 h1
  rw [e17]
  have hb : ∀ a, 0 ≤ and32 a 15 ∧ and32 a 15 < 16 := fun a => by rw [and32_15]; omega
  have hlt := hX4 x10 (Int.le_refl _) h1
  obtain ⟨Q, hQ⟩ : ∃ Q : Nat, m 17 x10 = (Q : Int) := ⟨(m 17 x10).toNat, by omega⟩
  have hQ8 : Q < 8 := by omega
  rw [hQ] at hlt
  simp only [Int.toNat_natCast] at hlt
  have hs : x9 + shl32 1 (m 17 x10) = ((X + 2 ^ Q : Nat) : Int) := by
    rw [hQ, shl1_eq (Q : Int) (by omega), hX]
    simp
  have b2 := own_badd2 ⟨Q, hQ8⟩ ⟨X, hX2⟩ hlt
  have b1 := own_badd ⟨Q, hQ8⟩ ⟨X, hX2⟩ hlt
  dsimp only at b1 b2
  have nx : ∀ f g, (0 ≤ x10 + 1 ∧ (∀ k i, k ≠ 19 → sto m1 19 f g k i = m k i) ∧ ∃ X : Nat, w32 (x9 + shl32 1 (m 17 x10)) = (X : Int) ∧ X < 256 ∧ (∀ q : Nat, q < 8 → X.testBit q = true → m 7 (q : Int) = 2) ∧ (∀ j, x10 + 1 ≤ j → j < m 0 31 → X < 2 ^ (m 17 j).toNat)) ∧ (16 - (x10 + 1)).toNat < (16 - x10).toNat := by
    intro f g
    refine ⟨⟨by omega, fun k i hk => by rw [sto_k _ _ _ _ hk]; exact hf k i hk, X + 2 ^ Q, ?_, b2, ?_, ?_⟩, by omega⟩
    · rw [hs, w32_id (by omega)]
    · intro q hq8 hqt
      rcases b1 ⟨q, hq8⟩ hqt with z | z
      · exact hX3 q hq8 z
      · have : q = Q := congrArg Fin.val z
        subst this
        rw [← hQ]
        exact hq.2.2
    · intro j hj1 hj2
      have c1 := hc2 x10 j h0 (by omega) hj2
      have c3 : Q + 1 ≤ (m 17 j).toNat := by omega
      have c4 : 2 ^ (Q + 1) ≤ 2 ^ (m 17 j).toNat := Nat.pow_le_pow_right (by first | decide | omega) c3
      rw [Nat.pow_succ] at c4
      omega
  refine Ok.grd (by omega) (Ok.grd (by omega) (Ok.grd (by omega) (Ok.ite (fun _ => Ok.grd (by omega) ?_) (fun _ => ?_))))
  · exact Ok.grd (by omega) (Ok.grd (by omega) (Ok.grd (by omega) (Ok.grd (hb _) (Ok.grd (hb _) (Ok.ret (nx _ _))))))
  · exact Ok.grd (by omega) (Ok.grd (by omega) (Ok.grd (by omega) (Ok.grd (hb _) (Ok.grd (hb _) (Ok.ret (nx _ _))))))
set_option maxRecDepth 65536 in
set_option maxHeartbeats 16000000 in
theorem own_bet (m : OMem) (a b c d e : Int) : Ok (f_better a b c d e m) (fun _ => True) := by
  repeat' (first | ((with_reducible refine Ok.grd ?_ ?_); (focus (first | omega | ((try simp only [w32_al, w32_ar, w32_sl, w32_sr, w32_m4, w32_m6, w32_m10, w32_m16, w32_m24]); (repeat rw [w32_id (by omega)]); omega) | ((try simp only [w32_al, w32_ar, w32_sl, w32_sr, w32_m4, w32_m6, w32_m10, w32_m16, w32_m24]); unfold w32; omega) | (simp [sto, z0_at, w32]; done) | (simp [sto, z0_at, w32]; omega)))) | ((with_reducible refine Ok.ite (fun h => ?_) (fun h => ?_)) <;> (try simp [sto, z0_at, w32] at h) <;> (try (exfalso; omega))) | (with_reducible refine Ok.bind' ?_) | ((with_reducible refine Ok.ret ?_); (try dsimp only)) | (with_reducible refine Ok.lpNN ?_) | (with_reducible refine Ok.lp1 ?_) | (with_reducible refine u_f_better ?_) | (with_reducible refine u_f_better_b113 ?_) | (with_reducible refine u_f_better_b98 ?_) | (with_reducible refine u_f_better_b74 ?_) | (with_reducible refine u_f_better_b52 ?_) | (with_reducible refine u_f_better_b30 ?_))
  all_goals (first | trivial | omega | ((try simp only [w32_al, w32_ar, w32_sl, w32_sr, w32_m4, w32_m6, w32_m10, w32_m16, w32_m24]); (repeat rw [w32_id (by omega)]); omega) | ((try simp only [w32_al, w32_ar, w32_sl, w32_sr, w32_m4, w32_m6, w32_m10, w32_m16, w32_m24]); unfold w32; omega) | (simp [sto, z0_at, w32]; done) | (simp [sto, z0_at, w32]; omega))
set_option maxRecDepth 65536 in
set_option maxHeartbeats 16000000 in
theorem own_l277 (m : OMem) (a b c d e : Int) : Ok (lp (f_evaluateSubset_l277 m a b c d e) NN 1) (fun _ => True) := by
  refine Ok.loop (fun s => 0 ≤ s) (fun s => (16 - s).toNat) (by simp) (by simp) ?_
  intro x h1
  repeat' (first | ((with_reducible refine Ok.grd ?_ ?_); (focus (first | omega | ((try simp only [w32_al, w32_ar, w32_sl, w32_sr, w32_m4, w32_m6, w32_m10, w32_m16, w32_m24]); (repeat rw [w32_id (by omega)]); omega) | ((try simp only [w32_al, w32_ar, w32_sl, w32_sr, w32_m4, w32_m6, w32_m10, w32_m16, w32_m24]); unfold w32; omega) | (simp [sto, z0_at, w32]; done) | (simp [sto, z0_at, w32]; omega)))) | ((with_reducible refine Ok.ite (fun h => ?_) (fun h => ?_)) <;> (try simp [sto, z0_at, w32] at h) <;> (try (exfalso; omega))) | (with_reducible refine Ok.bind' ?_) | ((with_reducible refine Ok.ret ?_); (try dsimp only)) | (with_reducible refine Ok.lpNN ?_) | (with_reducible refine Ok.lp1 ?_) | (with_reducible refine u_f_evaluateSubset_l277 ?_) | (with_reducible refine u_f_evaluateSubset_b320 ?_))
  all_goals (first | trivial | omega | ((try simp only [w32_al, w32_ar, w32_sl, w32_sr, w32_m4, w32_m6, w32_m10, w32_m16, w32_m24]); (repeat rw [w32_id (by omega)]); omega) | ((try simp only [w32_al, w32_ar, w32_sl, w32_sr, w32_m4, w32_m6, w32_m10, w32_m16, w32_m24]); unfold w32; omega) | (simp [sto, z0_at, w32]; done) | (simp [sto, z0_at, w32]; omega))
set_option maxRecDepth 65536 in
set_option maxHeartbeats 16000000 in
theorem own_es (m : OMem) (p n sub : Int) (hp : 0 ≤ p ∧ p < 8) (hn : 0 ≤ n ∧ n < 4) (hC : own_C m) : Ok (f_evaluateSubset p n sub m) (fun m' => own_Fs m m' ∧ (own_mk m (m 0 24) → own_mk m (m' 0 24))) := by
  unfold f_evaluateSubset
  refine Ok.bind (P := fun m' => ∀ k i, k ≠ 19 → m' k i = m k i) ?_ fun m1 h1 => ?_
  · refine Ok.loop (fun s => 0 ≤ s.1 ∧ ∀ k i, k ≠ 19 → s.2 k i = m k i) (fun s => (16 - s.1).toNat) ⟨by simp, fun _ _ _ => rfl⟩ (by simp) ?_
    rintro ⟨x, m1⟩ ⟨a, b⟩
    dsimp only at a b
    unfold f_evaluateSubset_l3
    dsimp only
    refine Ok.ite (fun h => Ok.grd (by omega) (Ok.ret ?_)) (fun _ => Ok.ret b)
    dsimp only
    rw [w32_id (by omega)]
    exact ⟨⟨by omega, fun k i hk => by rw [sto_k _ _ _ _ hk]; exact b k i hk⟩, by omega⟩
  have C1 := own_C_c hC (h1 0 31 (by first | decide | omega)) (fun q => h1 17 q (by first | decide | omega)) (fun q => h1 7 q (by first | decide | omega))
  refine Ok.bind (own_l45 m1 p n sub C1) fun r hr => ?_
  obtain ⟨x4, x5, x6, x7, x8, x9, m2⟩ := r
  obtain ⟨h2, hm⟩ := hr
  dsimp only at h2 hm ⊢
  have f2 : ∀ k i, k ≠ 19 → m2 k i = m k i := fun k i hk => (h2 k i hk).trans (h1 k i hk)
  have hm : own_mk m x9 := own_mk_c hm (fun q => (h1 7 q (by first | decide | omega)).symm)
  have ret : Ok (some m2) (fun m' => own_Fs m m' ∧ (own_mk m (m 0 24) → own_mk m (m' 0 24))) := Ok.ret ⟨fun k i hk _ => f2 k i hk, fun z => by rw [f2 0 24 (by first | decide | omega)]; exact z⟩
  have b274 : Ok (f_evaluateSubset_b274 n x4 x5 x6 x9 m2) (fun m' => own_Fs m m' ∧ (own_mk m (m 0 24) → own_mk m (m' 0 24))) := by
    unfold f_evaluateSubset_b274 f_evaluateSubset_b376
    refine Ok.bind (own_l277 _ _ _ _ _ _) fun e _ => ?_
    cases e with
    | inl _ => exact ret
    | inr _ =>
      refine Ok.bind (own_bet _ _ _ _ _ _) fun b _ => Ok.ite (fun _ => ret) (fun _ => Ok.ret ?_)
      refine ⟨fun k i hk hi => ?_, fun _ => by simp [sto]; exact hm⟩
      rw [← f2 k i hk]
      simp only [sto]
      by_cases hk0 : k = 0
      · have := hi hk0
        rw [if_neg (by omega), if_neg (by omega), if_neg (by omega), if_neg (by omega), if_neg (by omega), if_neg (by omega)]
      · rw [if_neg (by omega), if_neg (by omega), if_neg (by omega), if_neg (by omega), if_neg (by omega), if_neg (by omega)]
  unfold f_evaluateSubset_b176 f_evaluateSubset_b222
  refine Ok.grd (by omega) (Ok.grd (by omega) (Ok.ite (fun _ => ret) (fun _ => Ok.grd (by omega) (Ok.grd (by omega) (Ok.ite (fun _ => ret) (fun _ => Ok.grd (by omega) (Ok.ite (fun _ => ret) (fun _ => Ok.grd (by omega) (Ok.ite (fun _ => b274) (fun _ => Ok.grd (by omega) (Ok.grd (by rw [and32_15]; omega) (Ok.ite (fun _ => ret) (fun _ => b274)))))))))))))
set_option maxRecDepth 65536 in
set_option maxHeartbeats 16000000 in
theorem own_usT (m : OMem) (n r : Int) : Ok (f_usedOf n r m) (fun _ => True) := by
  unfold f_usedOf f_usedOf_b90
  refine Ok.bind (P := fun _ => True) ?_ fun z hz => Ok.ret trivial
  refine Ok.loop (fun s => 0 ≤ s.2) (fun s => (16 - s.2).toNat) (by simp) (by simp) ?_
  rintro ⟨x, y⟩ a
  dsimp only at a
  repeat' (first | ((with_reducible refine Ok.grd ?_ ?_); (focus (first | omega | ((try simp only [w32_al, w32_ar, w32_sl, w32_sr, w32_m4, w32_m6, w32_m10, w32_m16, w32_m24]); (repeat rw [w32_id (by omega)]); omega) | ((try simp only [w32_al, w32_ar, w32_sl, w32_sr, w32_m4, w32_m6, w32_m10, w32_m16, w32_m24]); unfold w32; omega) | (simp [sto, z0_at, w32]; done) | (simp [sto, z0_at, w32]; omega)))) | ((with_reducible refine Ok.ite (fun h => ?_) (fun h => ?_)) <;> (try simp [sto, z0_at, w32] at h) <;> (try (exfalso; omega))) | (with_reducible refine Ok.bind' ?_) | ((with_reducible refine Ok.ret ?_); (try dsimp only)) | (with_reducible refine Ok.lpNN ?_) | (with_reducible refine Ok.lp1 ?_) | (with_reducible refine u_f_usedOf_l5 ?_) | (with_reducible refine u_f_usedOf_b84 ?_))
  all_goals (first | trivial | omega | ((try simp only [w32_al, w32_ar, w32_sl, w32_sr, w32_m4, w32_m6, w32_m10, w32_m16, w32_m24]); (repeat rw [w32_id (by omega)]); omega) | ((try simp only [w32_al, w32_ar, w32_sl, w32_sr, w32_m4, w32_m6, w32_m10, w32_m16, w32_m24]); unfold w32; omega) | (simp [sto, z0_at, w32]; done) | (simp [sto, z0_at, w32]; omega))
set_option maxRecDepth 65536 in
set_option maxHeartbeats 16000000 in
theorem own_l85 (M : OMem) (p n : Int) (h20 : M 0 20 = 8) (hp : 0 ≤ p ∧ p < 8) : Ok (lp (f_evaluateNode_l85 p n) NN (0, sto M 0 31 0)) (fun m => (∀ k i, k ≠ 17 → (k = 0 → i ≠ 31) → m k i = M k i) ∧ own_C m) := by
  refine Ok.loop (fun s => 0 ≤ s.1 ∧ s.1 ≤ 8 ∧ (∀ k i, k ≠ 17 → (k = 0 → i ≠ 31) → s.2 k i = M k i) ∧ 0 ≤ s.2 0 31 ∧ s.2 0 31 ≤ s.1 ∧ (∀ j, 0 ≤ j → j < s.2 0 31 → 0 ≤ s.2 17 j ∧ s.2 17 j < s.1 ∧ M 7 (s.2 17 j) = 2) ∧ (∀ i j, 0 ≤ i → i < j → j < s.2 0 31 → s.2 17 i < s.2 17 j)) (fun s => (8 - s.1).toNat) ?_ (by simp) ?_
  · refine ⟨by simp, by simp, fun k i hk hi => ?_, by simp [sto], by simp [sto], fun j a b => ?_, fun i j a b c => ?_⟩
    · simp only [sto]
      rw [if_neg (fun z => hi z.1 z.2)]
    · simp [sto] at b
      omega
    · simp [sto] at c
      omega
  rintro ⟨x, m1⟩ ⟨a, b, hf, c0, c1, c2, c3⟩
  dsimp only at a b hf c0 c1 c2 c3
  have e20 : m1 0 20 = 8 := (hf 0 20 (by first | decide | omega) (by first | decide | omega)).trans h20
  have e7 : ∀ q, m1 7 q = M 7 q := fun q => hf 7 q (by first | decide | omega) (by first | decide | omega)
  unfold f_evaluateNode_l85 f_evaluateNode_b163
  dsimp only
  rw [e20]
  have done : (∀ k i, k ≠ 17 → (k = 0 → i ≠ 31) → m1 k i = M k i) ∧ own_C m1 := ⟨hf, c0, by omega, fun j z1 z2 => by
    have := c2 j z1 z2
    rw [e7]
    exact ⟨this.1, by omega, this.2.2⟩, c3⟩
  refine Ok.ite (fun h1 => Ok.pos (by omega) ?_) (fun _ => Ok.ret done)
  rw [w32_id (z := x + 1) (by omega)]
  have skip : (0 ≤ x + 1 ∧ x + 1 ≤ 8 ∧ (∀ k i, k ≠ 17 → (k = 0 → i ≠ 31) → m1 k i = M k i) ∧ 0 ≤ m1 0 31 ∧ m1 0 31 ≤ x + 1 ∧ (∀ j, 0 ≤ j → j < m1 0 31 → 0 ≤ m1 17 j ∧ m1 17 j < x + 1 ∧ M 7 (m1 17 j) = 2) ∧ (∀ i j, 0 ≤ i → i < j → j < m1 0 31 → m1 17 i < m1 17 j)) ∧ (8 - (x + 1)).toNat < (8 - x).toNat := by
    exact ⟨⟨by omega, by omega, hf, c0, by omega, fun j z1 z2 => by have := c2 j z1 z2; exact ⟨this.1, by omega, this.2.2⟩, c3⟩, by omega⟩
  refine Ok.grd (by omega) (Ok.ite (fun h7 => Ok.grd (by omega) (Ok.ite (fun _ => Ok.grd (by omega) (Ok.grd (by omega) (Ok.ite (fun _ => Ok.ite (fun _ => Ok.grd (by omega) (Ok.ret ?_)) (fun _ => Ok.ret skip)) (fun _ => Ok.ret skip)))) (fun _ => Ok.ret skip))) (fun _ => Ok.ret skip))
  dsimp only
  rw [w32_id (z := m1 0 31 + 1) (by omega)]
  have g31 : sto (sto m1 17 (m1 0 31) x) 0 31 (m1 0 31 + 1) 0 31 = m1 0 31 + 1 := by simp [sto]
  have g17 : ∀ j, sto (sto m1 17 (m1 0 31) x) 0 31 (m1 0 31 + 1) 17 j = if j = m1 0 31 then x else m1 17 j := fun j => by simp [sto]
  refine ⟨⟨by omega, by omega, fun k i hk hi => ?_, ?_, ?_, fun j z1 z2 => ?_, fun i j z1 z2 z3 => ?_⟩, by omega⟩
  · rw [← hf k i hk hi]
    simp only [sto]
    rw [if_neg (fun z => hi z.1 z.2), if_neg (fun z => hk z.1)]
  · rw [g31]; omega
  · rw [g31]; omega
  · rw [g31] at z2
    rw [g17]
    split
    · refine ⟨by omega, by omega, ?_⟩
      rw [← e7]
      exact h7
    · have := c2 j z1 (by omega)
      exact ⟨this.1, by omega, this.2.2⟩
  · rw [g31] at z3
    rw [g17, g17, if_neg (by omega)]
    split
    · have := c2 i z1 (by omega)
      omega
    · exact c3 i j z1 z2 (by omega)
set_option maxRecDepth 65536 in
set_option maxHeartbeats 16000000 in
theorem own_shr (a b : Int) : shl32 a b < 2147483648 := by
  unfold shl32
  have : ∀ x : Int32, x.toInt < 2147483648 := fun x => by
    have h := w32_rng x.toInt
    rw [← ofInt32_toInt, Int32.ofInt_toInt] at h
    exact h.2
  exact this _
set_option maxRecDepth 65536 in
set_option maxHeartbeats 16000000 in
theorem own_b78 (M : OMem) (p n : Int) (h20 : M 0 20 = 8) (hp : 0 ≤ p ∧ p < 8) (hn : 0 ≤ n ∧ n < 4) : Ok (f_evaluateNode_b78 p n M) (fun m' => own_Fr M m' ∧ (own_mk M (M 0 24) → own_mk M (m' 0 24))) := by
  unfold f_evaluateNode_b78 f_evaluateNode_b169
  refine Ok.bind (own_l85 M p n h20 hp) fun m1 h1 => ?_
  obtain ⟨hf, hC⟩ := h1
  have r1 : own_Fr M m1 ∧ (own_mk M (M 0 24) → own_mk M (m1 0 24)) := ⟨fun k i a b c d => hf k i a (fun z => by have := d z; omega), fun z => by rw [hf 0 24 (by first | decide | omega) (by first | decide | omega)]; exact z⟩
  refine Ok.ite (fun _ => Ok.ret r1) (fun _ => ?_)
  refine Ok.bind (P := fun m' => own_Fr M m' ∧ (own_mk M (M 0 24) → own_mk M (m' 0 24))) ?_ fun m2 h2 => Ok.ret h2
  have hb := own_shr 1 (m1 0 31)
  generalize shl32 1 (m1 0 31) = B at hb
  refine Ok.loop (fun s => 0 ≤ s.1 ∧ own_Fs m1 s.2 ∧ (own_mk M (M 0 24) → own_mk M (s.2 0 24))) (fun s => (B - s.1).toNat) ⟨by simp, fun _ _ _ _ => rfl, r1.2⟩ (by dsimp only; omega) ?_
  rintro ⟨x, m2⟩ ⟨a, b, c⟩
  dsimp only at a b c
  unfold f_evaluateNode_l187
  dsimp only
  have e7 : ∀ q, m2 7 q = m1 7 q := fun q => b 7 q (by first | decide | omega) (by first | decide | omega)
  have e7' : ∀ q, m1 7 q = M 7 q := fun q => hf 7 q (by first | decide | omega) (by first | decide | omega)
  refine Ok.ite (fun hx => ?_) (fun _ => Ok.ret ⟨fun k i z1 z2 z3 z4 => (b k i z3 (fun z => by have := z4 z; omega)).trans (r1.1 k i z1 z2 z3 z4), c⟩)
  refine Ok.bind (own_es m2 p n x hp hn (own_C_c hC (b 0 31 (by first | decide | omega) (by first | decide | omega)) (fun q => b 17 q (by first | decide | omega) (by first | decide | omega)) e7)) fun m3 h3 => Ok.ret ?_
  dsimp only
  rw [w32_id (by omega)]
  refine ⟨⟨by omega, fun k i z1 z2 => (h3.1 k i z1 z2).trans (b k i z1 z2), fun z => ?_⟩, by omega⟩
  have g := h3.2 (own_mk_c (c z) (fun q => (e7 q).trans (e7' q)))
  exact own_mk_c g (fun q => ((e7 q).trans (e7' q)).symm)
set_option maxRecDepth 65536 in
set_option maxHeartbeats 16000000 in
theorem own_en (m : OMem) (p n : Int) (h20 : m 0 20 = 8) (hp : 0 ≤ p ∧ p < 8) (hn : 0 ≤ n ∧ n < 4) : Ok (f_evaluateNode p n m) (fun m' => own_Fr m m' ∧ (own_mk m (m 0 24) → own_mk m (m' 0 24))) := by
  have ret : Ok (some m) (fun m' => own_Fr m m' ∧ (own_mk m (m 0 24) → own_mk m (m' 0 24))) := Ok.ret ⟨fun _ _ _ _ _ _ => rfl, fun z => z⟩
  have go : ∀ M, (∀ k i, (k = 0 → i < 27 ∨ 30 < i) → M k i = m k i) → Ok (f_evaluateNode_b78 p n M) (fun m' => own_Fr m m' ∧ (own_mk m (m 0 24) → own_mk m (m' 0 24))) := by
    intro M hM
    refine Ok.mono (own_b78 M p n ((hM 0 20 (by first | decide | omega)).trans h20) hp hn) fun m' h => ?_
    have e7 : ∀ q, M 7 q = m 7 q := fun q => hM 7 q (by first | decide | omega)
    refine ⟨fun k i a b c d => (h.1 k i a b c d).trans (hM k i (fun z => by have := d z; omega)), fun z => ?_⟩
    have g := h.2 (by rw [hM 0 24 (by first | decide | omega)]; exact own_mk_c z e7)
    exact own_mk_c g (fun q => (e7 q).symm)
  unfold f_evaluateNode f_evaluateNode_b18
  refine Ok.grd (by omega) (Ok.ite (fun _ => ret) (fun _ => Ok.bind (own_lm m p n hp (by omega)) fun r hr => Ok.ite (fun _ => ret) (fun _ => ?_)))
  refine Ok.bind (own_usT _ _ _) fun u0 _ => Ok.bind (own_usT _ _ _) fun u1 _ => Ok.bind (own_usT _ _ _) fun u2 _ => Ok.grd (by omega) (Ok.ite (fun _ => go _ ?_) (fun _ => Ok.grd (by omega) (Ok.bind (own_gn _ _ _) fun g _ => go _ ?_)))
  · intro k i hk
    simp only [sto]
    rw [if_neg (by omega), if_neg (by omega), if_neg (by omega), if_neg (by omega)]
  · intro k i hk
    simp only [sto]
    rw [if_neg (by omega), if_neg (by omega), if_neg (by omega), if_neg (by omega), if_neg (by omega)]
set_option maxRecDepth 65536 in
set_option maxHeartbeats 16000000 in
theorem own_cgb (m : OMem) : Ok (f_computeGroupBound m) (fun m' => ∀ k i, k ≠ 18 → m' k i = m k i) := by
  unfold f_computeGroupBound f_computeGroupBound_b71
  refine Ok.bind (P := fun m' => ∀ k i, k ≠ 18 → m' k i = m k i) ?_ fun m1 h1 => ?_
  · refine Ok.loop (fun s => 0 ≤ s.1 ∧ ∀ k i, k ≠ 18 → s.2 k i = m k i) (fun s => (16 - s.1).toNat) ⟨by simp, fun _ _ _ => rfl⟩ (by simp) ?_
    rintro ⟨x, m1⟩ ⟨a, b⟩
    dsimp only at a b
    unfold f_computeGroupBound_l2
    dsimp only
    refine Ok.ite (fun h => Ok.grd (by omega) (Ok.ret ?_)) (fun _ => Ok.ret b)
    dsimp only
    rw [w32_id (by omega)]
    exact ⟨⟨by omega, fun k i hk => by rw [sto_k _ _ _ _ hk]; exact b k i hk⟩, by omega⟩
  refine Ok.bind (P := fun m' => ∀ k i, k ≠ 18 → m' k i = m k i) ?_ fun m2 h2 => Ok.ret h2
  refine Ok.loop (fun s => 0 ≤ s.1 ∧ ∀ k i, k ≠ 18 → s.2 k i = m k i) (fun s => (16 - s.1).toNat) ⟨by simp, h1⟩ (by simp) ?_
  rintro ⟨x, m1⟩ ⟨a, b⟩
  dsimp only at a b
  have hb : ∀ a, 0 ≤ and32 a 15 ∧ and32 a 15 < 16 := fun a => by rw [and32_15]; omega
  unfold f_computeGroupBound_l23 f_computeGroupBound_b65
  dsimp only
  refine Ok.ite (fun h => Ok.ite (fun h' => Ok.grd (by omega) ?_) (fun _ => Ok.ret b)) (fun _ => Ok.ret b)
  rw [w32_id (z := x + 1) (by omega)]
  refine Ok.ite (fun _ => Ok.grd (by omega) (Ok.grd (hb _) (Ok.grd (hb _) (Ok.ret ?_)))) (fun _ => Ok.ret ?_)
  · dsimp only
    exact ⟨⟨by omega, fun k i hk => by rw [sto_k _ _ _ _ hk]; exact b k i hk⟩, by omega⟩
  · dsimp only
    exact ⟨⟨by omega, b⟩, by omega⟩
set_option maxRecDepth 65536 in
set_option maxHeartbeats 16000000 in
theorem own_fp (m : OMem) (p : Int) (h19 : m 0 19 = 4) (h20 : m 0 20 = 8) (hp : 0 ≤ p ∧ p < 8) : Ok (f_findPreemption p m) (fun r => own_Fr m r.2 ∧ own_mk m (r.2 0 24) ∧ (r.1 = 0 ∨ r.1 = 1)) := by
  unfold f_findPreemption f_findPreemption_b47
  refine Ok.bind (own_cgb _) fun m1 h1 => ?_
  have f1 : own_Fr m m1 := fun k i a b c d => (h1 k i b).trans (by
    simp only [sto]
    rw [if_neg (fun z => by have := d z.1; omega), if_neg (fun z => by have := d z.1; omega), if_neg (fun z => by have := d z.1; omega)])
  have k1 : own_mk m (m1 0 24) := by
    rw [h1 0 24 (by first | decide | omega)]
    simp [sto]
    exact ⟨0, rfl, by decide, fun q _ hq => by simp at hq⟩
  refine Ok.bind (P := fun m' => own_Fr m m' ∧ own_mk m (m' 0 24)) ?_ fun m2 h2 => Ok.ret ⟨h2.1, h2.2, by dsimp only; omega⟩
  refine Ok.loop (fun s => 0 ≤ s.1 ∧ own_Fr m s.2 ∧ own_mk m (s.2 0 24)) (fun s => (8 - s.1).toNat) ⟨by simp, f1, k1⟩ (by simp) ?_
  rintro ⟨x, m2⟩ ⟨a, b, c⟩
  dsimp only at a b c
  have e19 : m2 0 19 = 4 := (b 0 19 (by first | decide | omega) (by first | decide | omega) (by first | decide | omega) (by first | decide | omega)).trans h19
  have e20 : m2 0 20 = 8 := (b 0 20 (by first | decide | omega) (by first | decide | omega) (by first | decide | omega) (by first | decide | omega)).trans h20
  have e7 : ∀ q, m2 7 q = m 7 q := fun q => b 7 q (by first | decide | omega) (by first | decide | omega) (by first | decide | omega) (by first | decide | omega)
  unfold f_findPreemption_l21
  dsimp only
  rw [e19]
  refine Ok.ite (fun h => Ok.pos (by omega) (Ok.bind (own_en m2 p x e20 hp (by omega)) fun m3 h3 => Ok.ret ?_)) (fun _ => Ok.ret ⟨b, c⟩)
  dsimp only
  rw [w32_id (by omega)]
  refine ⟨⟨by omega, fun k i z1 z2 z3 z4 => (h3.1 k i z1 z2 z3 z4).trans (b k i z1 z2 z3 z4), ?_⟩, by omega⟩
  exact own_mk_c (h3.2 (own_mk_c c e7)) (fun q => (e7 q).symm)
/-! what holds between the calls -/
def own_I (m : OMem) (T : Int) : Prop := m 0 19 = 4 ∧ m 0 20 = 8 ∧ own_V m ∧ (∀ q, 0 ≤ q → q < 8 → m 7 q ≠ 0 → 1 ≤ m 9 q ∧ 1 ≤ m 10 q) ∧ (∀ n, m 2 n ≤ 1000 ∧ m 3 n ≤ 1000) ∧ 0 ≤ m 0 21 ∧ m 0 21 ≤ T ∧ (∀ q, 0 ≤ q → q < 8 → m 7 q = 1 → m 15 q < m 0 21) ∧ (∀ q r, 0 ≤ q → q < 8 → 0 ≤ r → r < 8 → m 7 q = 1 → m 7 r = 1 → m 15 q = m 15 r → q = r)
set_option maxRecDepth 65536 in
set_option maxHeartbeats 16000000 in
theorem own_I_T {m : OMem} {T T' : Int} (I : own_I m T) (h : T ≤ T') : own_I m T' := by
  obtain ⟨a, b, c, d, e, f, g, i, j⟩ := I
  exact ⟨a, b, c, d, e, f, by omega, i, j⟩
set_option maxRecDepth 65536 in
set_option maxHeartbeats 16000000 in
theorem own_I_c {m m' : OMem} {T : Int} (I : own_I m T) (h0 : ∀ i, i = 19 ∨ i = 20 ∨ i = 21 → m' 0 i = m 0 i) (hk : ∀ k i, k = 2 ∨ k = 3 ∨ k = 7 ∨ k = 9 ∨ k = 10 ∨ k = 15 → m' k i = m k i) : own_I m' T := by
  have e2 := fun i => hk 2 i (by first | decide | omega)
  have e3 := fun i => hk 3 i (by first | decide | omega)
  have e7 := fun i => hk 7 i (by first | decide | omega)
  have e9 := fun i => hk 9 i (by first | decide | omega)
  have e10 := fun i => hk 10 i (by first | decide | omega)
  have e15 := fun i => hk 15 i (by first | decide | omega)
  unfold own_I own_V
  simp only [h0 19 (by first | decide | omega), h0 20 (by first | decide | omega), h0 21 (by first | decide | omega), e2, e3, e7, e9, e10, e15]
  exact I
set_option maxRecDepth 65536 in
set_option maxHeartbeats 16000000 in
theorem own_I_fr {m m' : OMem} {T : Int} (I : own_I m T) (h : own_Fr m m') : own_I m' T :=
  own_I_c I (fun i hi => h 0 i (by first | decide | omega) (by first | decide | omega) (by first | decide | omega) (fun _ => by omega)) (fun k i hk => h k i (by omega) (by omega) (by omega) (fun z => by omega))
set_option maxRecDepth 65536 in
set_option maxHeartbeats 16000000 in
theorem own_I_rec {m : OMem} {T a b : Int} (I : own_I m T) : own_I (sto (sto m 0 22 a) 0 23 b) T :=
  own_I_c I (fun i hi => by simp only [sto]; rw [if_neg (by omega), if_neg (by omega)]) (fun k i hk => by simp only [sto]; rw [if_neg (by omega), if_neg (by omega)])
set_option maxRecDepth 65536 in
set_option maxHeartbeats 16000000 in
theorem own_I_bd {m : OMem} {T p b : Int} (I : own_I m T) (h9 : 1 ≤ m 9 p ∧ 1 ≤ m 10 p) : own_I (sto (sto m 7 p 2) 8 p b) T := by
  obtain ⟨i19, i20, iV, iP, iN, i0, iT, iS, iD⟩ := I
  have e7 : ∀ i, sto (sto m 7 p 2) 8 p b 7 i = if i = p then 2 else m 7 i := fun i => by simp [sto]
  have eo : ∀ k i, k ≠ 7 → k ≠ 8 → sto (sto m 7 p 2) 8 p b k i = m k i := fun k i h1 h2 => by simp [sto, h1, h2]
  have u7 : ∀ q, sto (sto m 7 p 2) 8 p b 7 q = 1 → q ≠ p ∧ m 7 q = 1 := fun q h => by
    rw [e7] at h
    split at h
    · omega
    · exact ⟨by assumption, h⟩
  refine ⟨?_, ?_, ⟨fun q => ?_, fun q => ?_⟩, fun q a c d => ?_, fun n => ?_, ?_, ?_, fun q a c d => ?_, fun q r a c d e f g h => ?_⟩
  · rw [eo _ _ (by first | decide | omega) (by first | decide | omega)]; exact i19
  · rw [eo _ _ (by first | decide | omega) (by first | decide | omega)]; exact i20
  · rw [eo _ _ (by first | decide | omega) (by first | decide | omega)]; exact iV.1 q
  · rw [eo _ _ (by first | decide | omega) (by first | decide | omega)]; exact iV.2 q
  · rw [eo _ _ (by first | decide | omega) (by first | decide | omega), eo _ _ (by first | decide | omega) (by first | decide | omega)]
    rw [e7] at d
    split at d
    · rename_i z; rw [z]; exact h9
    · exact iP q a c d
  · rw [eo _ _ (by first | decide | omega) (by first | decide | omega), eo _ _ (by first | decide | omega) (by first | decide | omega)]; exact iN n
  · rw [eo _ _ (by first | decide | omega) (by first | decide | omega)]; exact i0
  · rw [eo _ _ (by first | decide | omega) (by first | decide | omega)]; exact iT
  · rw [eo _ _ (by first | decide | omega) (by first | decide | omega), eo _ _ (by first | decide | omega) (by first | decide | omega)]
    exact iS q a c (u7 q d).2
  · rw [eo _ _ (by first | decide | omega) (by first | decide | omega), eo _ _ (by first | decide | omega) (by first | decide | omega)] at h
    exact iD q r a c d e (u7 q f).2 (u7 r g).2 h
def own_qm (m : OMem) (p : Int) : OMem := sto (sto (sto (sto m 15 p (m 0 21)) 0 21 (m 0 21 + 1)) 7 p 1) 8 p (-1)
set_option maxRecDepth 65536 in
set_option maxHeartbeats 16000000 in
theorem own_qm7 (m : OMem) (p i : Int) : own_qm m p 7 i = if i = p then 1 else m 7 i := by unfold own_qm; simp [sto]
set_option maxRecDepth 65536 in
set_option maxHeartbeats 16000000 in
theorem own_qm8 (m : OMem) (p i : Int) : own_qm m p 8 i = if i = p then -1 else m 8 i := by unfold own_qm; simp [sto]
set_option maxRecDepth 65536 in
set_option maxHeartbeats 16000000 in
theorem own_qm15 (m : OMem) (p i : Int) : own_qm m p 15 i = if i = p then m 0 21 else m 15 i := by unfold own_qm; simp [sto]
set_option maxRecDepth 65536 in
set_option maxHeartbeats 16000000 in
theorem own_qm21 (m : OMem) (p : Int) : own_qm m p 0 21 = m 0 21 + 1 := by unfold own_qm; simp [sto]
set_option maxRecDepth 65536 in
set_option maxHeartbeats 16000000 in
theorem own_qmo (m : OMem) (p : Int) (k : Nat) (i : Int) (h : k ≠ 7 ∧ k ≠ 8 ∧ k ≠ 15 ∧ (k = 0 → i ≠ 21)) : own_qm m p k i = m k i := by
  unfold own_qm
  simp only [sto]
  rw [if_neg (by omega), if_neg (by omega), if_neg (by omega), if_neg (by omega)]
set_option maxRecDepth 65536 in
set_option maxHeartbeats 16000000 in
theorem own_que (m : OMem) (p : Int) (hp : 0 ≤ p ∧ p < 8) (h : 0 ≤ m 0 21 ∧ m 0 21 ≤ 1000000) : f_queue p m = some (own_qm m p) := by
  unfold f_queue own_qm
  rw [if_pos (by omega), if_pos (by omega), if_pos (by omega), w32_id (by omega)]
set_option maxRecDepth 65536 in
set_option maxHeartbeats 16000000 in
theorem own_I_qm {m : OMem} {T p : Int} (I : own_I m T) (h9 : 1 ≤ m 9 p ∧ 1 ≤ m 10 p) : own_I (own_qm m p) (T + 1) := by
  obtain ⟨i19, i20, iV, iP, iN, i0, iT, iS, iD⟩ := I
  refine ⟨?_, ?_, ⟨fun q => ?_, fun q => ?_⟩, fun q a c d => ?_, fun n => ?_, ?_, ?_, fun q a c d => ?_, fun q r a c d e f g h => ?_⟩
  · rw [own_qmo _ _ _ _ (by first | decide | omega)]; exact i19
  · rw [own_qmo _ _ _ _ (by first | decide | omega)]; exact i20
  · rw [own_qmo _ _ _ _ (by first | decide | omega)]; exact iV.1 q
  · rw [own_qmo _ _ _ _ (by first | decide | omega)]; exact iV.2 q
  · rw [own_qmo _ _ _ _ (by first | decide | omega), own_qmo _ _ _ _ (by first | decide | omega)]
    rw [own_qm7] at d
    split at d
    · rename_i z; rw [z]; exact h9
    · exact iP q a c d
  · rw [own_qmo _ _ _ _ (by first | decide | omega), own_qmo _ _ _ _ (by first | decide | omega)]; exact iN n
  · rw [own_qm21]; omega
  · rw [own_qm21]; omega
  · rw [own_qm21, own_qm15]
    rw [own_qm7] at d
    split
    · omega
    · rename_i z
      rw [if_neg z] at d
      have := iS q a c d
      omega
  · rw [own_qm15, own_qm15] at h
    rw [own_qm7] at f g
    by_cases z1 : q = p
    · by_cases z2 : r = p
      · omega
      · rw [if_pos z1, if_neg z2] at h
        rw [if_neg z2] at g
        have := iS r d e g
        omega
    · by_cases z2 : r = p
      · rw [if_neg z1, if_pos z2] at h
        rw [if_neg z1] at f
        have := iS q a c f
        omega
      · rw [if_neg z1, if_neg z2] at h
        rw [if_neg z1] at f
        rw [if_neg z2] at g
        exact iD q r a c d e f g h
/- what an attempt leaves -/
set_option maxRecDepth 65536 in
set_option maxHeartbeats 16000000 in
theorem own_at (m : OMem) (T p R : Int) (I : own_I m T) (hT : T ≤ 100000) (hp : 0 ≤ p ∧ p < 8) (h7 : m 7 p = 1) (hR : f_bestFitNode p m = some R) : Ok (f_attempt p m) (fun r => own_I r.2 (T + 9) ∧ r.2 0 22 = r.1 ∧ (0 ≤ R → r.1 = 1 ∧ r.2 = sto (sto (sto (sto m 7 p 2) 8 p R) 0 22 1) 0 23 0) ∧ (R < 0 → (r.1 = 0 ∧ (∀ i, r.2 7 i = m 7 i) ∧ (∀ i, i ≠ p → r.2 8 i = m 8 i) ∧ (∀ i, r.2 9 i = m 9 i ∧ r.2 10 i = m 10 i ∧ r.2 1 i = m 1 i)) ∨ r.1 = 2)) := by
  have I' := I
  obtain ⟨i19, i20, iV, iP, iN, i0, iT, iS, iD⟩ := I'
  have hp9 := iP p hp.1 hp.2 (by omega)
  unfold f_attempt
  refine Ok.bindE hR ?_
  refine Ok.ite (fun hR0 => ?_) (fun hR0 => ?_)
  · refine Ok.bind (own_fp m p i19 i20 hp) fun r hr => ?_
    obtain ⟨r, m1⟩ := r
    obtain ⟨hF, hM, hr⟩ := hr
    dsimp only at hF hM hr ⊢
    have I1 := own_I_fr I hF
    have f7 : ∀ i, m1 7 i = m 7 i := fun i => hF 7 i (by first | decide | omega) (by first | decide | omega) (by first | decide | omega) (by first | decide | omega)
    have f8 : ∀ i, m1 8 i = m 8 i := fun i => hF 8 i (by first | decide | omega) (by first | decide | omega) (by first | decide | omega) (by first | decide | omega)
    have f9 : ∀ i, m1 9 i = m 9 i := fun i => hF 9 i (by first | decide | omega) (by first | decide | omega) (by first | decide | omega) (by first | decide | omega)
    have f10 : ∀ i, m1 10 i = m 10 i := fun i => hF 10 i (by first | decide | omega) (by first | decide | omega) (by first | decide | omega) (by first | decide | omega)
    have f1 : ∀ i, m1 1 i = m 1 i := fun i => hF 1 i (by first | decide | omega) (by first | decide | omega) (by first | decide | omega) (by first | decide | omega)
    have b21 : 0 ≤ m1 0 21 ∧ m1 0 21 ≤ T := ⟨I1.2.2.2.2.2.1, I1.2.2.2.2.2.2.1⟩
    refine Ok.ite (fun _ => ?_) (fun _ => ?_)
    · refine Ok.bindE (own_que m1 p hp (by omega)) ?_
      unfold f_record
      refine Ok.bind (P := fun z => z = sto (sto (own_qm m1 p) 0 22 0) 0 23 0) (Ok.ret rfl) fun z hz => Ok.ret ?_
      subst hz
      refine ⟨own_I_T (own_I_rec (own_I_qm I1 (by rw [f9, f10]; exact hp9))) (by omega), by simp [sto], fun z => by omega, fun _ => Or.inl ⟨rfl, fun i => ?_, fun i hi => ?_, fun i => ⟨?_, ?_, ?_⟩⟩⟩
      any_goals dsimp only
      · rw [sto_k _ _ _ _ (by first | decide | omega), sto_k _ _ _ _ (by first | decide | omega), own_qm7]
        split
        · rename_i z; rw [z]; exact h7.symm
        · exact f7 i
      · rw [sto_k _ _ _ _ (by first | decide | omega), sto_k _ _ _ _ (by first | decide | omega), own_qm8, if_neg hi]
        exact f8 i
      · rw [sto_k _ _ _ _ (by first | decide | omega), sto_k _ _ _ _ (by first | decide | omega), own_qmo _ _ _ _ (by first | decide | omega)]; exact f9 i
      · rw [sto_k _ _ _ _ (by first | decide | omega), sto_k _ _ _ _ (by first | decide | omega), own_qmo _ _ _ _ (by first | decide | omega)]; exact f10 i
      · rw [sto_k _ _ _ _ (by first | decide | omega), sto_k _ _ _ _ (by first | decide | omega), own_qmo _ _ _ _ (by first | decide | omega)]; exact f1 i
    · obtain ⟨X, hX, hX2, hX3⟩ := hM
      refine Ok.bind (P := fun m' => own_I m' (T + 8) ∧ (∀ i, m' 9 i = m 9 i ∧ m' 10 i = m 10 i)) ?_ fun m2 h2 => ?_
      · refine Ok.loop (fun s => 0 ≤ s.1 ∧ s.1 ≤ 8 ∧ own_I s.2 (T + s.1) ∧ (∀ i, s.2 9 i = m 9 i ∧ s.2 10 i = m 10 i) ∧ s.2 0 24 = (X : Int)) (fun s => (8 - s.1).toNat) ⟨by simp, by simp, own_I_T I1 (by simp), fun i => ⟨f9 i, f10 i⟩, hX⟩ (by simp) ?_
        rintro ⟨x, m2⟩ ⟨a, b, c, d, e⟩
        dsimp only at a b c d e
        have e20 : m2 0 20 = 8 := c.2.1
        have b21 : 0 ≤ m2 0 21 ∧ m2 0 21 ≤ T + x := ⟨c.2.2.2.2.2.1, c.2.2.2.2.2.2.1⟩
        unfold f_attempt_l34 f_attempt_b64
        dsimp only
        rw [e20, e]
        refine Ok.ite (fun hx => Ok.pos (by omega) ?_) (fun _ => Ok.ret ⟨own_I_T c (by omega), d⟩)
        rw [w32_id (z := x + 1) (by omega)]
        refine Ok.ite (fun _ => Ok.ret ?_) (fun hb => ?_)
        · dsimp only
          exact ⟨⟨by omega, by omega, own_I_T c (by omega), d, e⟩, by omega⟩
        · have h2 : m 7 x = 2 := by
            obtain ⟨k, rfl⟩ : ∃ k : Nat, x = (k : Int) := ⟨x.toNat, by omega⟩
            have hk : k < 8 := by omega
            have := own_bt ⟨X, hX2⟩ ⟨k, hk⟩
            dsimp only at this
            refine hX3 k hk ?_
            cases ht : X.testBit k with
            | true => rfl
            | false => exact absurd (this.mpr ht) hb
          have h9 := iP x a hx (by omega)
          refine Ok.bindE (own_que m2 x ⟨a, hx⟩ (by omega)) (Ok.ret ?_)
          dsimp only
          refine ⟨⟨by omega, by omega, own_I_T (own_I_qm c (by rw [(d x).1, (d x).2]; exact h9)) (by omega), fun i => ?_, ?_⟩, by omega⟩
          · rw [own_qmo _ _ _ _ (by first | decide | omega), own_qmo _ _ _ _ (by first | decide | omega)]; exact d i
          · rw [own_qmo _ _ _ _ (by first | decide | omega)]; exact e
      · unfold f_attempt_b70 f_bind f_record
        refine Ok.bind (P := fun z => z = sto (sto m2 7 p 2) 8 p (m2 0 25)) (Ok.grd (by omega) (Ok.grd (by omega) (Ok.ret rfl))) fun z hz => ?_
        subst hz
        refine Ok.bind (P := fun z => z = sto (sto (sto (sto m2 7 p 2) 8 p (m2 0 25)) 0 22 2) 0 23 (sto (sto m2 7 p 2) 8 p (m2 0 25) 0 24)) (Ok.ret rfl) fun z hz => Ok.ret ?_
        subst hz
        refine ⟨own_I_T (own_I_rec (own_I_bd h2.1 (by rw [(h2.2 p).1, (h2.2 p).2]; exact hp9))) (by omega), by simp [sto], fun z => by omega, fun _ => Or.inr rfl⟩
  · unfold f_bind f_record
    refine Ok.bind (P := fun z => z = sto (sto m 7 p 2) 8 p R) (Ok.grd (by omega) (Ok.grd (by omega) (Ok.ret rfl))) fun z hz => ?_
    subst hz
    refine Ok.bind (P := fun z => z = sto (sto (sto (sto m 7 p 2) 8 p R) 0 22 1) 0 23 0) (Ok.ret rfl) fun z hz => Ok.ret ?_
    subst hz
    exact ⟨own_I_T (own_I_rec (own_I_bd I hp9)) (by omega), by simp [sto], fun _ => ⟨rfl, rfl⟩, fun z => absurd z hR0⟩

set_option maxRecDepth 65536 in
set_option maxHeartbeats 16000000 in
theorem own_scr (m : OMem) (p n : Int) (h20 : m 0 20 = 8) (hp : 0 ≤ p ∧ p < 8) (h7 : m 7 p = 1) : f_score p n m = (f_fits p n m).bind fun b => if b = 0 then some (-1) else (f_scoreOf p n m).bind fun r => some r := by
  unfold f_score
  rw [own_vp1 m p h20 hp]
  simp only [Option.bind_some]
  rw [if_neg (show ¬ (1 : Int) = 0 by decide), if_pos (by omega), if_pos h7]
set_option maxRecDepth 65536 in
set_option maxHeartbeats 16000000 in
theorem own_scn (m : OMem) (p n : Int) (h20 : m 0 20 = 8) (h : ¬ (0 ≤ p ∧ p < 8 ∧ m 7 p = 1)) : f_score p n m = some (-1) := by
  unfold f_score f_score_b18
  by_cases hp : 0 ≤ p ∧ p < 8
  · rw [own_vp1 m p h20 hp]
    simp only [Option.bind_some]
    rw [if_neg (show ¬ (1 : Int) = 0 by decide), if_pos (by omega), if_neg (fun z => h ⟨hp.1, hp.2, z⟩)]
  · rw [own_vp0 m p h20 hp]
    rfl
set_option maxRecDepth 65536 in
set_option maxHeartbeats 16000000 in
theorem own_bf0 (sl : Int) (sc : Int → Int) (m : OMem) (T x2 x3 p x9 : Int) (I : own_I m T) (hp : 0 ≤ p ∧ p < 8) (h7 : m 7 p = 1) : ∀ (k : Nat) (s best bs : Int), 0 ≤ s → s ≤ 4 → (4 - s).toNat = k → ((best = -1 ∧ bs = -1) ∨ (0 ≤ best ∧ best < 4 ∧ 0 ≤ bs ∧ m 1 best ≠ 0)) → ∃ R, (R = -1 ∨ (0 ≤ R ∧ R < 4 ∧ m 1 R ≠ 0)) ∧ (∀ N, k < N → lp (f_bestFitNode_l7 m p) N (best, bs, s) = some R) ∧ (∀ N, k < N → lp (l_law_l262 sl sc m x2 x3 p x9) N (best, bs, s) = some R) := by
  obtain ⟨i19, i20, iV, iP, iN, i0, iT, iS, iD⟩ := I
  have hp9 := iP p hp.1 hp.2 (by omega)
  intro k
  induction k with
  | zero =>
    intro s best bs h1 h2 h3 h4
    refine ⟨best, by omega, fun N hN => ?_, fun N hN => ?_⟩
    · obtain ⟨N, rfl⟩ : ∃ N', N = N' + 1 := ⟨N - 1, by omega⟩
      refine lp_out ?_
      unfold f_bestFitNode_l7
      dsimp only
      rw [if_neg (by omega)]
    · obtain ⟨N, rfl⟩ : ∃ N', N = N' + 1 := ⟨N - 1, by omega⟩
      refine lp_out ?_
      unfold l_law_l262
      dsimp only
      rw [if_neg (by omega)]
  | succ k ih =>
    intro s best bs h1 h2 h3 h4
    have go : ∀ b' s', ((b' = -1 ∧ s' = -1) ∨ (0 ≤ b' ∧ b' < 4 ∧ 0 ≤ s' ∧ m 1 b' ≠ 0)) → f_bestFitNode_l7 m p (best, bs, s) = some (.inl (b', s', s + 1)) → l_law_l262 sl sc m x2 x3 p x9 (best, bs, s) = some (.inl (b', s', s + 1)) → ∃ R, (R = -1 ∨ (0 ≤ R ∧ R < 4 ∧ m 1 R ≠ 0)) ∧ (∀ N, k + 1 < N → lp (f_bestFitNode_l7 m p) N (best, bs, s) = some R) ∧ (∀ N, k + 1 < N → lp (l_law_l262 sl sc m x2 x3 p x9) N (best, bs, s) = some R) := by
      intro b' s' hb e1 e2
      obtain ⟨R, r1, r2, r3⟩ := ih (s + 1) b' s' (by omega) (by omega) (by omega) hb
      refine ⟨R, r1, fun N hN => ?_, fun N hN => ?_⟩
      · obtain ⟨N, rfl⟩ : ∃ N', N = N' + 1 := ⟨N - 1, by omega⟩
        rw [lp_more e1]
        exact r2 N (by omega)
      · obtain ⟨N, rfl⟩ : ∃ N', N = N' + 1 := ⟨N - 1, by omega⟩
        rw [lp_more e2]
        exact r3 N (by omega)
    have ew : w32 (s + 1) = s + 1 := w32_id (by omega)
    obtain ⟨b, eb, hb⟩ := own_fit m p s i19 i20 iV hp (by omega)
    rcases hb with rfl | ⟨rfl, hpre, c0, c1⟩
    · refine go best bs h4 ?_ ?_
      · unfold f_bestFitNode_l7 f_bestFitNode_b61
        dsimp only
        rw [if_pos (by omega), if_pos (by omega), eb, ew]
        rfl
      · unfold l_law_l262 l_law_b293
        dsimp only
        rw [if_pos (by omega), own_scr m p s i20 hp h7, eb, ew]
        simp only [Option.bind_some, if_true]
        rw [if_neg (by omega)]
    · obtain ⟨v, ev, hv⟩ := own_sco m p s i20 iV hp (by omega) hp9.1 hp9.2 (iN s).1 (iN s).2 c0 c1
      have e2 : l_law_l262 sl sc m x2 x3 p x9 (best, bs, s) = if bs < v then some (.inl (s, v, s + 1)) else some (.inl (best, bs, s + 1)) := by
        unfold l_law_l262 l_law_b293
        dsimp only
        rw [if_pos (by omega), own_scr m p s i20 hp h7, eb, ew]
        simp only [Option.bind_some]
        rw [if_neg (show ¬ (1 : Int) = 0 by decide), ev]
        rfl
      have e1 : f_bestFitNode_l7 m p (best, bs, s) = if best < 0 then some (.inl (s, v, s + 1)) else if bs < v then some (.inl (s, v, s + 1)) else some (.inl (best, bs, s + 1)) := by
        unfold f_bestFitNode_l7 f_bestFitNode_b61 f_bestFitNode_b55 f_bestFitNode_b61
        dsimp only
        rw [if_pos (by omega), if_pos (by omega), eb, ew]
        simp only [Option.bind_some]
        rw [if_neg (show ¬ (1 : Int) = 0 by decide), ev]
        rfl
      by_cases hlt : bs < v
      · rw [if_pos hlt] at e1 e2
        refine go s v (Or.inr ⟨h1, by omega, hv, hpre⟩) ?_ e2
        rw [e1]
        split <;> rfl
      · rw [if_neg hlt] at e1 e2
        rw [if_neg (by omega)] at e1
        exact go best bs h4 e1 e2
set_option maxRecDepth 65536 in
set_option maxHeartbeats 16000000 in
theorem own_bf (sl : Int) (sc : Int → Int) (m : OMem) (T x2 x3 p x9 : Int) (I : own_I m T) (hp : 0 ≤ p ∧ p < 8) (h7 : m 7 p = 1) : ∃ R, (R = -1 ∨ (0 ≤ R ∧ R < 4 ∧ m 1 R ≠ 0)) ∧ f_bestFitNode p m = some R ∧ lp (l_law_l262 sl sc m x2 x3 p x9) NN (-1, -1, 0) = some R := by
  have hNN : NN = 4611686018427387904 := rfl
  obtain ⟨R, a, b, c⟩ := own_bf0 sl sc m T x2 x3 p x9 I hp h7 4 0 (-1) (-1) (by omega) (by omega) (by first | decide | omega) (Or.inl ⟨rfl, rfl⟩)
  refine ⟨R, a, ?_, c NN (by rw [hNN]; omega)⟩
  unfold f_bestFitNode f_bestFitNode_b67
  rw [b NN (by rw [hNN]; omega)]
  rfl
set_option maxRecDepth 65536 in
set_option maxHeartbeats 16000000 in
theorem own_bn (sl : Int) (sc : Int → Int) (m : OMem) (x2 x3 p x9 : Int) (h20 : m 0 20 = 8) (h : ¬ (0 ≤ p ∧ p < 8 ∧ m 7 p = 1)) : Ok (lp (l_law_l262 sl sc m x2 x3 p x9) NN (-1, -1, 0)) (fun _ => True) := by
  refine Ok.loop (fun s => 0 ≤ s.2.2) (fun s => (4 - s.2.2).toNat) (by simp) (by simp) ?_
  rintro ⟨a, b, c⟩ hc
  dsimp only at hc
  unfold l_law_l262 l_law_b293
  dsimp only
  refine Ok.ite (fun _ => Ok.bindE (own_scn m p c h20 h) ?_) (fun _ => Ok.ret trivial)
  rw [w32_id (by omega)]
  exact Ok.ite (fun _ => Ok.ret (by dsimp only; omega)) (fun _ => Ok.ret (by dsimp only; omega))
/-! who is next -/
def own_be (m : OMem) (a b : Int) : Prop := m 11 b < m 11 a ∨ (m 11 a = m 11 b ∧ m 15 a < m 15 b)
def own_mx (m : OMem) (b : Int) : Prop := 0 ≤ b ∧ b < 8 ∧ m 7 b = 1 ∧ ∀ r, 0 ≤ r → r < 8 → m 7 r = 1 → ¬ own_be m r b
set_option maxRecDepth 65536 in
set_option maxHeartbeats 16000000 in
theorem own_rk (m : OMem) (q : Int) (h20 : m 0 20 = 8) : Ok (f_pendingRank q m) (fun r => r = 0 ↔ own_mx m q) := by
  unfold f_pendingRank f_pendingRank_b18 f_pendingRank_b105
  by_cases hq : 0 ≤ q ∧ q < 8
  · refine Ok.bindE (own_vp1 m q h20 hq) ?_
    refine Ok.neg (by first | decide | omega) (Ok.grd (by omega) (Ok.ite (fun h7 => ?_) (fun h7 => Ok.ret ⟨fun z => by omega, fun z => absurd z.2.2.1 h7⟩)))
    refine Ok.bind (P := fun r => r = 0 ↔ ∀ r, 0 ≤ r → r < 8 → m 7 r = 1 → ¬ own_be m r q) ?_ fun r hr => Ok.ret ⟨fun z => ⟨hq.1, hq.2, h7, hr.mp z⟩, fun z => hr.mpr z.2.2.2⟩
    refine Ok.loop (fun s => 0 ≤ s.2 ∧ s.2 ≤ 8 ∧ 0 ≤ s.1 ∧ s.1 ≤ s.2 ∧ (s.1 = 0 ↔ ∀ r, 0 ≤ r → r < s.2 → m 7 r = 1 → ¬ own_be m r q)) (fun s => (8 - s.2).toNat) ⟨by simp, by simp, by simp, by simp, ⟨fun _ r a b => by dsimp only at b; omega, fun _ => rfl⟩⟩ (by simp) ?_
    rintro ⟨x, y⟩ ⟨a, b, c, d, e⟩
    dsimp only at a b c d e
    unfold f_pendingRank_l24 f_pendingRank_b96 f_pendingRank_b99
    dsimp only
    rw [h20]
    refine Ok.ite (fun hy => Ok.pos (by omega) (Ok.grd (by omega) ?_)) (fun hy => Ok.ret ?_)
    · rw [w32_id (z := x + 1) (by omega), w32_id (z := y + 1) (by omega)]
      have up : m 7 y = 1 → own_be m y q → (0 ≤ y + 1 ∧ y + 1 ≤ 8 ∧ 0 ≤ x + 1 ∧ x + 1 ≤ y + 1 ∧ (x + 1 = 0 ↔ ∀ r, 0 ≤ r → r < y + 1 → m 7 r = 1 → ¬ own_be m r q)) ∧ (8 - (y + 1)).toNat < (8 - y).toNat := by
        intro p1 p2
        exact ⟨⟨by omega, by omega, by omega, by omega, ⟨fun z => by omega, fun z => absurd p2 (z y a (by omega) p1)⟩⟩, by omega⟩
      have no : (m 7 y = 1 → ¬ own_be m y q) → (0 ≤ y + 1 ∧ y + 1 ≤ 8 ∧ 0 ≤ x ∧ x ≤ y + 1 ∧ (x = 0 ↔ ∀ r, 0 ≤ r → r < y + 1 → m 7 r = 1 → ¬ own_be m r q)) ∧ (8 - (y + 1)).toNat < (8 - y).toNat := by
        intro p1
        refine ⟨⟨by omega, by omega, by omega, by omega, e.trans ⟨fun z r z1 z2 z3 => ?_, fun z r z1 z2 z3 => z r z1 (by omega) z3⟩⟩, by omega⟩
        by_cases hr : r = y
        · subst hr; exact p1 z3
        · exact z r z1 (by omega) z3
      refine Ok.ite (fun p7 => Ok.grd (by omega) (Ok.grd (by omega) (Ok.ite (fun p11 => Ok.ret (up p7 (Or.inl p11))) (fun p11 => Ok.grd (by omega) (Ok.grd (by omega) (Ok.ite (fun p12 => Ok.grd (by omega) (Ok.grd (by omega) (Ok.ite (fun p15 => Ok.ret (up p7 (Or.inr ⟨p12, p15⟩))) (fun p15 => Ok.ret (no (fun _ z => ?_)))))) (fun p12 => Ok.ret (no (fun _ z => ?_))))))))) (fun p7 => Ok.ret (no (fun z => absurd z p7)))
      · rcases z with z | z
        · exact p11 z
        · exact p15 z.2
      · rcases z with z | z
        · exact p11 z
        · exact p12 z.1
    · dsimp only
      exact e.trans ⟨fun z r z1 z2 z3 => z r z1 (by omega) z3, fun z r z1 z2 z3 => z r z1 (by omega) z3⟩
  · exact Ok.bindE (own_vp0 m q h20 hq) (Ok.pos rfl (Ok.ret ⟨fun z => by omega, fun z => absurd ⟨z.1, z.2.1⟩ hq⟩))
set_option maxRecDepth 65536 in
set_option maxHeartbeats 16000000 in
theorem own_sl4 (m : OMem) (h20 : m 0 20 = 8) : Ok (lp (f_scheduleNext_l4 m) NN (-1, 0)) (fun b => (b = -1 ∧ ∀ r, 0 ≤ r → r < 8 → m 7 r ≠ 1) ∨ own_mx m b) := by
  refine Ok.loop (fun s => 0 ≤ s.2 ∧ s.2 ≤ 8 ∧ ((s.1 = -1 ∧ ∀ r, 0 ≤ r → r < s.2 → m 7 r ≠ 1) ∨ (0 ≤ s.1 ∧ s.1 < s.2 ∧ m 7 s.1 = 1 ∧ ∀ r, 0 ≤ r → r < s.2 → m 7 r = 1 → ¬ own_be m r s.1))) (fun s => (8 - s.2).toNat) ⟨by simp, by simp, Or.inl ⟨rfl, fun r a b => by dsimp only at b; omega⟩⟩ (by simp) ?_
  rintro ⟨x, y⟩ ⟨a, b, c⟩
  dsimp only at a b c
  unfold f_scheduleNext_l4 f_scheduleNext_b80 f_scheduleNext_b82
  dsimp only
  rw [h20]
  refine Ok.ite (fun hy => Ok.pos (by omega) (Ok.grd (by omega) ?_)) (fun hy => Ok.ret ?_)
  · rw [w32_id (z := y + 1) (by omega)]
    have keep : (m 7 y = 1 → x ≠ -1 ∧ ¬ own_be m y x) → (0 ≤ y + 1 ∧ y + 1 ≤ 8 ∧ ((x = -1 ∧ ∀ r, 0 ≤ r → r < y + 1 → m 7 r ≠ 1) ∨ (0 ≤ x ∧ x < y + 1 ∧ m 7 x = 1 ∧ ∀ r, 0 ≤ r → r < y + 1 → m 7 r = 1 → ¬ own_be m r x))) ∧ (8 - (y + 1)).toNat < (8 - y).toNat := by
      intro p1
      refine ⟨⟨by omega, by omega, ?_⟩, by omega⟩
      rcases c with ⟨c1, c2⟩ | ⟨c1, c2, c3, c4⟩
      · refine Or.inl ⟨c1, fun r z1 z2 z3 => ?_⟩
        by_cases hr : r = y
        · subst hr; exact (p1 z3).1 c1
        · exact c2 r z1 (by omega) z3
      · refine Or.inr ⟨c1, by omega, c3, fun r z1 z2 z3 => ?_⟩
        by_cases hr : r = y
        · subst hr; exact (p1 z3).2
        · exact c4 r z1 (by omega) z3
    have take : m 7 y = 1 → (x < 0 ∨ own_be m y x) → (0 ≤ y + 1 ∧ y + 1 ≤ 8 ∧ ((y = -1 ∧ ∀ r, 0 ≤ r → r < y + 1 → m 7 r ≠ 1) ∨ (0 ≤ y ∧ y < y + 1 ∧ m 7 y = 1 ∧ ∀ r, 0 ≤ r → r < y + 1 → m 7 r = 1 → ¬ own_be m r y))) ∧ (8 - (y + 1)).toNat < (8 - y).toNat := by
      intro p7 p1
      refine ⟨⟨by omega, by omega, Or.inr ⟨a, by omega, p7, fun r z1 z2 z3 z4 => ?_⟩⟩, by omega⟩
      by_cases hr : r = y
      · subst hr
        unfold own_be at z4
        omega
      · rcases c with ⟨c1, c2⟩ | ⟨c1, c2, c3, c4⟩
        · exact c2 r z1 (by omega) z3
        · have n1 := c4 r z1 (by omega) z3
          unfold own_be at n1 z4 p1
          omega
    refine Ok.ite (fun p7 => Ok.ite (fun p0 => Ok.ret (take p7 (Or.inl p0))) (fun p0 => Ok.grd (by omega) (Ok.grd (by omega) (Ok.ite (fun p11 => Ok.ret (take p7 (Or.inr (Or.inl p11)))) (fun p11 => Ok.grd (by omega) (Ok.grd (by omega) (Ok.ite (fun p12 => Ok.grd (by omega) (Ok.grd (by omega) (Ok.ite (fun p15 => Ok.ret (take p7 (Or.inr (Or.inr ⟨p12, p15⟩)))) (fun p15 => Ok.ret (keep (fun _ => ⟨by omega, ?_⟩)))))) (fun p12 => Ok.ret (keep (fun _ => ⟨by omega, ?_⟩)))))))))) (fun p7 => Ok.ret (keep (fun z => absurd z p7)))
    · unfold own_be; omega
    · unfold own_be; omega
  · dsimp only
    rcases c with ⟨c1, c2⟩ | ⟨c1, c2, c3, c4⟩
    · exact Or.inl ⟨c1, fun r z1 z2 => c2 r z1 (by omega)⟩
    · exact Or.inr ⟨c1, by omega, c3, fun r z1 z2 z3 => c4 r z1 (by omega) z3⟩
set_option maxRecDepth 65536 in
set_option maxHeartbeats 16000000 in
theorem own_uniq {m : OMem} {T a b : Int} (I : own_I m T) (ha : own_mx m a) (hb : own_mx m b) : a = b := by
  obtain ⟨i19, i20, iV, iP, iN, i0, iT, iS, iD⟩ := I
  obtain ⟨a1, a2, a3, a4⟩ := ha
  obtain ⟨b1, b2, b3, b4⟩ := hb
  have n1 := a4 b b1 b2 b3
  have n2 := b4 a a1 a2 a3
  unfold own_be at n1 n2
  exact iD a b a1 a2 b1 b2 a3 b3 (by omega)
/- the pod that the law sees is the one that the project takes -/
set_option maxRecDepth 65536 in
set_option maxHeartbeats 16000000 in
theorem own_next (sl : Int) (sc : Int → Int) (m : OMem) (T x2 x3 : Int) (I : own_I m T) : ∃ p, ((p = -1 ∧ ∀ r, 0 ≤ r → r < 8 → m 7 r ≠ 1) ∨ own_mx m p) ∧ lp (f_scheduleNext_l4 m) NN (-1, 0) = some p ∧ lp (l_law_l210 sl sc m x2 x3) NN (-1, 0) = some p := by
  have h20 : m 0 20 = 8 := I.2.1
  obtain ⟨p, e, hp⟩ := own_sl4 m h20
  refine ⟨p, hp, e, ?_⟩
  have hpr : p = -1 ∨ (0 ≤ p ∧ p < 8) := by
    rcases hp with ⟨z, _⟩ | z
    · exact Or.inl z
    · exact Or.inr ⟨z.1, z.2.1⟩
  have : Ok (lp (l_law_l210 sl sc m x2 x3) NN (-1, 0)) (fun r => r = p) := by
    refine Ok.loop (fun s => 0 ≤ s.2 ∧ s.2 ≤ 8 ∧ (s.1 = if 0 ≤ p ∧ p < s.2 then p else -1)) (fun s => (8 - s.2).toNat) ⟨by simp, by simp, by dsimp only; rw [if_neg (by omega)]⟩ (by simp) ?_
    rintro ⟨x, y⟩ ⟨a, b, c⟩
    dsimp only at a b c
    unfold l_law_l210 l_law_b230
    dsimp only
    refine Ok.ite (fun hy => Ok.bind (own_rk m y h20) fun r hr => ?_) (fun hy => Ok.ret ?_)
    · rw [w32_id (z := y + 1) (by omega)]
      refine Ok.ite (fun h0 => Ok.ret ?_) (fun h0 => Ok.ret ?_)
      · have hm := hr.mp h0
        have : y = p := by
          rcases hp with ⟨z1, z2⟩ | z
          · exact absurd hm.2.2.1 (z2 y a hy)
          · exact own_uniq I hm z
        dsimp only
        rw [if_pos (by omega)]
        exact ⟨⟨by omega, by omega, this⟩, by omega⟩
      · have : y ≠ p := fun z => by
          rcases hp with ⟨z1, z2⟩ | z3
          · omega
          · exact h0 (hr.mpr (z ▸ z3))
        dsimp only
        refine ⟨⟨by omega, by omega, ?_⟩, by omega⟩
        rw [c]
        by_cases z : 0 ≤ p ∧ p < y
        · rw [if_pos z, if_pos (by omega)]
        · rw [if_neg z, if_neg (by omega)]
    · dsimp only
      rw [c]
      rcases hpr with z | z
      · rw [if_neg (by omega), z]
      · rw [if_pos (by omega)]
  obtain ⟨r, er, rfl⟩ := this
  exact er
/-! the picture of the nodes -/
set_option maxRecDepth 65536 in
set_option maxHeartbeats 16000000 in
theorem own_o64 (x : Int) : (Int64.ofInt x).toInt = w64 x := ofInt64_toInt x
set_option maxRecDepth 65536 in
set_option maxHeartbeats 16000000 in
theorem own_or64 (x f s : Nat) (hx : x < 2 ^ s) (hb : f * 2 ^ s + x < 2 ^ 63) : or64 (x : Int) ((f * 2 ^ s : Nat) : Int) = ((f * 2 ^ s + x : Nat) : Int) := by
  have e : Int64.ofInt (x : Int) ||| Int64.ofInt ((f * 2 ^ s : Nat) : Int) = Int64.ofInt ((f * 2 ^ s + x : Nat) : Int) := by
    apply Int64.toBitVec_inj.mp
    show BitVec.ofInt 64 (x : Int) ||| BitVec.ofInt 64 ((f * 2 ^ s : Nat) : Int) = BitVec.ofInt 64 ((f * 2 ^ s + x : Nat) : Int)
    rw [BitVec.ofInt_natCast, BitVec.ofInt_natCast, BitVec.ofInt_natCast, ← BitVec.ofNat_or, Nat.or_comm, Nat.mul_comm f, ← Nat.two_pow_add_eq_or_of_lt hx f]
  unfold or64
  rw [e, own_o64, w64_id]
  have : ((2 ^ 63 : Nat) : Int) = 9223372036854775808 := rfl
  omega
set_option maxRecDepth 65536 in
set_option maxHeartbeats 16000000 in
theorem own_or7 : ∀ c : Fin 128, ∀ k : Fin 16, or64 (c.val : Int) (shl64 (k.val : Int) 7) = ((c.val + 128 * k.val : Nat) : Int) := by decide +kernel
set_option maxRecDepth 65536 in
set_option maxHeartbeats 16000000 in
theorem own_shl0 (f : Int) (hf : 0 ≤ f ∧ f < 2048) : shl64 f 0 = f := by
  unfold shl64
  rw [Jvm.Kit.i64_shl (k := 0) _ _ (by first | decide | omega) (by rw [own_o64, w64_id (by omega)]; omega) (by rw [own_o64, w64_id (by omega)]; omega), own_o64, w64_id (by omega)]
  omega
set_option maxRecDepth 65536 in
set_option maxHeartbeats 16000000 in
theorem own_shl1 (f : Int) (hf : 0 ≤ f ∧ f < 2048) : shl64 f 11 = f * 2048 := by
  unfold shl64
  rw [Jvm.Kit.i64_shl (k := 11) _ _ (by first | decide | omega) (by rw [own_o64, w64_id (by omega)]; omega) (by rw [own_o64, w64_id (by omega)]; omega), own_o64, w64_id (by omega)]
  omega
set_option maxRecDepth 65536 in
set_option maxHeartbeats 16000000 in
theorem own_shl2 (f : Int) (hf : 0 ≤ f ∧ f < 2048) : shl64 f 22 = f * 4194304 := by
  unfold shl64
  rw [Jvm.Kit.i64_shl (k := 22) _ _ (by first | decide | omega) (by rw [own_o64, w64_id (by omega)]; omega) (by rw [own_o64, w64_id (by omega)]; omega), own_o64, w64_id (by omega)]
  omega
set_option maxRecDepth 65536 in
set_option maxHeartbeats 16000000 in
theorem own_shl3 (f : Int) (hf : 0 ≤ f ∧ f < 2048) : shl64 f 33 = f * 8589934592 := by
  unfold shl64
  rw [Jvm.Kit.i64_shl (k := 33) _ _ (by first | decide | omega) (by rw [own_o64, w64_id (by omega)]; omega) (by rw [own_o64, w64_id (by omega)]; omega), own_o64, w64_id (by omega)]
  omega
set_option maxRecDepth 65536 in
set_option maxHeartbeats 16000000 in
theorem own_orS (x f : Int) (s : Nat) (P : Int) (hP : P = ((2 ^ s : Nat) : Int)) (hx : 0 ≤ x ∧ x < P) (hf : 0 ≤ f ∧ f < 2048) (hb : 2048 * P ≤ 17592186044416) : or64 x (f * P) = x + f * P := by
  obtain ⟨X, rfl⟩ : ∃ X : Nat, x = (X : Int) := ⟨x.toNat, by omega⟩
  obtain ⟨Y, rfl⟩ : ∃ Y : Nat, f = (Y : Int) := ⟨f.toNat, by omega⟩
  subst hP
  have h1 : X < 2 ^ s := by omega
  have h2 : Y * 2 ^ s ≤ 2047 * 2 ^ s := Nat.mul_le_mul_right _ (by omega)
  have h3 : ((2 ^ 63 : Nat) : Int) = 9223372036854775808 := rfl
  have := own_or64 X Y s h1 (by omega)
  have e : ((Y : Int) * ((2 ^ s : Nat) : Int)) = ((Y * 2 ^ s : Nat) : Int) := by simp
  rw [e, this]
  omega
def own_F (m : OMem) (n : Int) : Int := own_nu m n 0 + 1 + 128 * (own_nu m n 2 + 1)
set_option maxRecDepth 65536 in
set_option maxHeartbeats 16000000 in
theorem own_sum2 (m : OMem) (n : Int) : ∀ k : Nat, 0 ≤ own_sum m n 2 k ∧ own_sum m n 2 k ≤ (k : Int)
  | 0 => by simp [own_sum]
  | k + 1 => by
    have ih := own_sum2 m n k
    unfold own_sum own_val
    split
    · rw [if_neg (by first | decide | omega), if_neg (by first | decide | omega)]
      omega
    · omega
set_option maxRecDepth 65536 in
set_option maxHeartbeats 16000000 in
theorem own_nu_r (m : OMem) (hV : own_V m) (n : Int) : -1 ≤ own_nu m n 0 ∧ own_nu m n 0 ≤ 120 ∧ -1 ≤ own_nu m n 2 ∧ own_nu m n 2 ≤ 8 := by
  have a : 0 ≤ own_U m n 0 ∧ own_U m n 0 ≤ 120 := own_sum_r m hV n 0 8
  have b : 0 ≤ own_U m n 2 ∧ own_U m n 2 ≤ 8 := own_sum2 m n 8
  unfold own_nu
  split
  · omega
  · refine ⟨by omega, by omega, by omega, by omega⟩
set_option maxRecDepth 65536 in
set_option maxHeartbeats 16000000 in
theorem own_F_r (m : OMem) (hV : own_V m) (n : Int) : 0 ≤ own_F m n ∧ own_F m n < 2048 := by
  have a := own_nu_r m hV n
  unfold own_F
  omega
set_option maxRecDepth 65536 in
set_option maxHeartbeats 16000000 in
theorem own_fe (m : OMem) (hV : own_V m) (n : Int) : or64 (w32 (own_nu m n 0 + 1)) (shl64 (w32 (own_nu m n 2 + 1)) 7) = own_F m n := by
  have a := own_nu_r m hV n
  rw [w32_id (z := own_nu m n 0 + 1) (by omega), w32_id (z := own_nu m n 2 + 1) (by omega)]
  unfold own_F
  obtain ⟨c, hc⟩ : ∃ c, own_nu m n 0 + 1 = c := ⟨_, rfl⟩
  obtain ⟨k, hk⟩ : ∃ k, own_nu m n 2 + 1 = k := ⟨_, rfl⟩
  rw [hc, hk]
  have := own_or7 ⟨c.toNat, by omega⟩ ⟨k.toNat, by omega⟩
  simp only [Int.toNat_of_nonneg (show 0 ≤ c by omega), Int.toNat_of_nonneg (show 0 ≤ k by omega)] at this
  rw [this]
  omega
def own_S (m : OMem) : Int := own_F m 0 + own_F m 1 * 2048 + own_F m 2 * 4194304 + own_F m 3 * 8589934592
set_option maxRecDepth 65536 in
set_option maxHeartbeats 16000000 in
theorem own_snap (sl : Int) (sc : Int → Int) (m : OMem) (h19 : m 0 19 = 4) (h20 : m 0 20 = 8) (hV : own_V m) : l_snap sl sc m = some (own_S m) := by
  have f0 := own_F_r m hV 0
  have f1 := own_F_r m hV 1
  have f2 := own_F_r m hV 2
  have f3 := own_F_r m hV 3
  have step : ∀ (x n : Int) (z : Int), 0 ≤ n → n < 4 → or64 x (shl64 (own_F m n) (w32 (11 * n))) = z → ∀ N, lp (l_snap_l4 sl sc m) (N + 1) (x, n) = lp (l_snap_l4 sl sc m) N (z, n + 1) := by
    intro x n z a b hz N
    refine lp_more ?_
    unfold l_snap_l4
    dsimp only
    rw [if_pos b, own_nus m n 0 h19 h20 hV ⟨a, b⟩ (by omega), own_nus m n 2 h19 h20 hV ⟨a, b⟩ (by omega)]
    simp only [Option.bind_some]
    rw [own_fe m hV, hz, w32_id (by omega)]
  have z0 : or64 0 (shl64 (own_F m 0) (w32 (11 * 0))) = own_F m 0 := by
    rw [show w32 (11 * 0) = 0 from by decide, own_shl0 _ f0]
    have := own_orS 0 (own_F m 0) 0 1 (by first | decide | omega) (by omega) f0 (by omega)
    rw [Int.mul_one] at this
    rw [this]
    omega
  have z1 : or64 (own_F m 0) (shl64 (own_F m 1) (w32 (11 * 1))) = own_F m 0 + own_F m 1 * 2048 := by
    rw [show w32 (11 * 1) = 11 from by decide, own_shl1 _ f1, own_orS _ _ 11 2048 (by first | decide | omega) (by omega) f1 (by omega)]
  have z2 : or64 (own_F m 0 + own_F m 1 * 2048) (shl64 (own_F m 2) (w32 (11 * 2))) = own_F m 0 + own_F m 1 * 2048 + own_F m 2 * 4194304 := by
    rw [show w32 (11 * 2) = 22 from by decide, own_shl2 _ f2, own_orS _ _ 22 4194304 (by first | decide | omega) (by omega) f2 (by omega)]
  have z3 : or64 (own_F m 0 + own_F m 1 * 2048 + own_F m 2 * 4194304) (shl64 (own_F m 3) (w32 (11 * 3))) = own_S m := by
    rw [show w32 (11 * 3) = 33 from by decide, own_shl3 _ f3, own_orS _ _ 33 8589934592 (by first | decide | omega) (by omega) f3 (by omega)]
    rfl
  unfold l_snap
  have e : lp (l_snap_l4 sl sc m) NN (0, 0) = some (own_S m) := by
    show lp (l_snap_l4 sl sc m) (4611686018427387903 + 1) (0, 0) = _
    rw [step 0 0 _ (by omega) (by omega) z0]
    show lp (l_snap_l4 sl sc m) (4611686018427387902 + 1) (_, 1) = _
    rw [step _ 1 _ (by omega) (by omega) z1]
    show lp (l_snap_l4 sl sc m) (4611686018427387901 + 1) (_, 2) = _
    rw [step _ 2 _ (by omega) (by omega) z2]
    show lp (l_snap_l4 sl sc m) (4611686018427387900 + 1) (_, 3) = _
    rw [step _ 3 _ (by omega) (by omega) z3]
    show lp (l_snap_l4 sl sc m) (4611686018427387899 + 1) (_, 4) = _
    refine lp_out ?_
    unfold l_snap_l4
    dsimp only
    rw [if_neg (by first | decide | omega)]
  rw [e]
  rfl
set_option maxRecDepth 65536 in
set_option maxHeartbeats 16000000 in
theorem own_m2047 (z : Int) : and64 z 2047 = z % 2048 ∨ ¬ (-9223372036854775808 ≤ z ∧ z < 9223372036854775808) := by
  by_cases h : -9223372036854775808 ≤ z ∧ z < 9223372036854775808
  · left
    unfold and64
    rw [Jvm.Kit.i64_mask _ _ (k := 11) (by first | decide | omega) (by first | decide | omega), own_o64, w64_id h]
    rfl
  · exact Or.inr h
set_option maxRecDepth 65536 in
set_option maxHeartbeats 16000000 in
theorem own_m127 (z : Int) (h : -9223372036854775808 ≤ z ∧ z < 9223372036854775808) : and64 z 127 = z % 128 := by
  unfold and64
  rw [Jvm.Kit.i64_mask _ _ (k := 7) (by first | decide | omega) (by first | decide | omega), own_o64, w64_id h]
  rfl
set_option maxRecDepth 65536 in
set_option maxHeartbeats 16000000 in
theorem own_sh7 (z : Int) (h : -9223372036854775808 ≤ z ∧ z < 9223372036854775808) : shr64 z 7 = z / 128 := by
  unfold shr64
  rw [Jvm.Kit.i64_shr (k := 7) _ _ (by first | decide | omega), own_o64, w64_id h]
  rfl
set_option maxRecDepth 65536 in
set_option maxHeartbeats 16000000 in
theorem own_get (m : OMem) (hV : own_V m) (n : Int) (hn : 0 ≤ n ∧ n < 4) : and64 (shr64 (own_S m) (w32 (11 * n))) 2047 = own_F m n := by
  have f0 := own_F_r m hV 0
  have f1 := own_F_r m hV 1
  have f2 := own_F_r m hV 2
  have f3 := own_F_r m hV 3
  have hS : own_S m = own_F m 0 + own_F m 1 * 2048 + own_F m 2 * 4194304 + own_F m 3 * 8589934592 := rfl
  have r : -9223372036854775808 ≤ own_S m ∧ own_S m < 9223372036854775808 := by omega
  rcases (by omega : n = 0 ∨ n = 1 ∨ n = 2 ∨ n = 3) with rfl | rfl | rfl | rfl
  · rw [show w32 (11 * 0) = 0 from by decide]
    have e : shr64 (own_S m) 0 = own_S m / 1 := by
      unfold shr64
      rw [Jvm.Kit.i64_shr (k := 0) _ _ (by first | decide | omega), own_o64, w64_id r]
      rfl
    rw [e]
    rcases own_m2047 (own_S m / 1) with h | h
    · rw [h]; omega
    · exact absurd (by omega) h
  · rw [show w32 (11 * 1) = 11 from by decide]
    have e : shr64 (own_S m) 11 = own_S m / 2048 := by
      unfold shr64
      rw [Jvm.Kit.i64_shr (k := 11) _ _ (by first | decide | omega), own_o64, w64_id r]
      rfl
    rw [e]
    rcases own_m2047 (own_S m / 2048) with h | h
    · rw [h]; omega
    · exact absurd (by omega) h
  · rw [show w32 (11 * 2) = 22 from by decide]
    have e : shr64 (own_S m) 22 = own_S m / 4194304 := by
      unfold shr64
      rw [Jvm.Kit.i64_shr (k := 22) _ _ (by first | decide | omega), own_o64, w64_id r]
      rfl
    rw [e]
    rcases own_m2047 (own_S m / 4194304) with h | h
    · rw [h]; omega
    · exact absurd (by omega) h
  · rw [show w32 (11 * 3) = 33 from by decide]
    have e : shr64 (own_S m) 33 = own_S m / 8589934592 := by
      unfold shr64
      rw [Jvm.Kit.i64_shr (k := 33) _ _ (by first | decide | omega), own_o64, w64_id r]
      rfl
    rw [e]
    rcases own_m2047 (own_S m / 8589934592) with h | h
    · rw [h]; omega
    · exact absurd (by omega) h
/-! the calls keep what holds -/
set_option maxRecDepth 65536 in
set_option maxHeartbeats 16000000 in
theorem own_add (m : OMem) (T a b c d : Int) (I : own_I m T) : Ok (f_addNode a b c d m) (fun r => own_I r.2 T) := by
  have b96 : ∀ x, x < 8 → a ≤ 1000 → b ≤ 1000 → Ok (f_addNode_b96 a b c d x m) (fun r => own_I r.2 T) := by
    intro x hx ha hb
    unfold f_addNode_b96
    refine Ok.ite (fun _ => Ok.ret I) (fun h => Ok.grd (by omega) (Ok.grd (by omega) (Ok.grd (by omega) (Ok.grd (by omega) (Ok.grd (by omega) (Ok.grd (by omega) (Ok.ret ?_)))))))
    obtain ⟨i19, i20, iV, iP, iN, i0, iT, iS, iD⟩ := I
    try dsimp only
    generalize hM : sto (sto (sto (sto (sto (sto m 1 x 1) 2 x a) 3 x b) 4 x c) 5 x (and32 d 255)) 6 x (and32 (shr32 d 8) 255) = M
    have eo : ∀ k i, k = 0 ∨ 7 ≤ k → M k i = m k i := fun k i hk => by
      subst hM
      simp only [sto]
      rw [if_neg (by omega), if_neg (by omega), if_neg (by omega), if_neg (by omega), if_neg (by omega), if_neg (by omega)]
    have e2 : ∀ i, M 2 i = if i = x then a else m 2 i := fun i => by subst hM; simp [sto]
    have e3 : ∀ i, M 3 i = if i = x then b else m 3 i := fun i => by subst hM; simp [sto]
    have o0 := fun i => eo 0 i (by first | decide | omega)
    have o7 := fun i => eo 7 i (by first | decide | omega)
    have o9 := fun i => eo 9 i (by first | decide | omega)
    have o10 := fun i => eo 10 i (by first | decide | omega)
    have o15 := fun i => eo 15 i (by first | decide | omega)
    unfold own_I own_V
    simp only [o0, o7, o9, o10, o15]
    refine ⟨i19, i20, iV, iP, fun n => ?_, i0, iT, iS, iD⟩
    have := iN n
    rw [e2, e3]
    constructor
    · split <;> omega
    · split <;> omega
  have hl : Ok (lp (f_addNode_l57 m a b c d (-1)) NN 0) (fun e => match e with | .inl z => 0 ≤ z ∧ z < 8 | .inr _ => True) := by
    refine Ok.loop (fun s => 0 ≤ s) (fun s => (8 - s).toNat) (by simp) (by simp) ?_
    intro x hx
    unfold f_addNode_l57
    try dsimp only
    refine Ok.ite (fun _ => Ok.ite (fun _ => Ok.grd (by omega) (Ok.ite (fun _ => Ok.ret ?_) (fun _ => Ok.ret ?_))) (fun _ => Ok.ret trivial)) (fun _ => Ok.ret trivial)
    · dsimp only; omega
    · dsimp only; rw [w32_id (by omega)]; omega
  unfold f_addNode f_addNode_b35 f_addNode_b49
  refine Ok.ite (fun _ => Ok.ret I) (fun _ => Ok.ite (fun _ => Ok.ret I) (fun _ => Ok.ite (fun _ => Ok.ret I) (fun _ => Ok.ite (fun _ => Ok.ret I) (fun _ => Ok.ite (fun _ => Ok.ret I) (fun _ => Ok.ite (fun _ => Ok.ret I) (fun _ => Ok.ite (fun _ => Ok.ret I) (fun _ => Ok.ite (fun _ => Ok.ret I) (fun _ => ?_))))))))
  refine Ok.bind hl fun e he => ?_
  cases e with
  | inl z => exact b96 z he.2 (by omega) (by omega)
  | inr z => exact b96 (-1) (by omega) (by omega) (by omega)
set_option maxRecDepth 65536 in
set_option maxHeartbeats 16000000 in
theorem own_rem (m : OMem) (T x : Int) (I : own_I m T) (hT : T ≤ 100000) : Ok (f_removeNode x m) (fun r => own_I r.2 (T + 8)) := by
  unfold f_removeNode
  by_cases h : 0 ≤ x ∧ x < 4 ∧ m 1 x ≠ 0
  · refine Ok.bindE (own_vn1 m x I.1 h) ?_
    refine Ok.neg (by first | decide | omega) (Ok.bind (P := fun r => own_I r.2 (T + 8)) ?_ fun r hr => ?_)
    · refine Ok.loop (fun s => 0 ≤ s.2.1 ∧ s.2.1 ≤ 8 ∧ own_I s.2.2 (T + s.2.1)) (fun s => (8 - s.2.1).toNat) ⟨by simp, by simp, own_I_T I (by simp)⟩ (by simp) ?_
      rintro ⟨y, z, m1⟩ ⟨a, b, c⟩
      dsimp only at a b c
      have e20 : m1 0 20 = 8 := c.2.1
      have b21 : 0 ≤ m1 0 21 ∧ m1 0 21 ≤ T + z := ⟨c.2.2.2.2.2.1, c.2.2.2.2.2.2.1⟩
      unfold f_removeNode_l14 f_removeNode_b56
      dsimp only
      rw [e20]
      refine Ok.ite (fun hz => Ok.pos (by omega) (Ok.grd (by omega) ?_)) (fun _ => Ok.ret (own_I_T c (by omega)))
      rw [w32_id (z := z + 1) (by omega)]
      have no : (0 ≤ z + 1 ∧ z + 1 ≤ 8 ∧ own_I m1 (T + (z + 1))) ∧ (8 - (z + 1)).toNat < (8 - z).toNat := ⟨⟨by omega, by omega, own_I_T c (by omega)⟩, by omega⟩
      refine Ok.ite (fun h7 => Ok.grd (by omega) (Ok.ite (fun _ => Ok.bindE (own_que m1 z ⟨a, hz⟩ (by omega)) (Ok.ret ?_)) (fun _ => Ok.ret no))) (fun _ => Ok.ret no)
      dsimp only
      exact ⟨⟨by omega, by omega, own_I_T (own_I_qm c (c.2.2.2.1 z a hz (by omega))) (by omega)⟩, by omega⟩
    · obtain ⟨y, m1⟩ := r
      dsimp only at hr ⊢
      unfold f_removeNode_b62
      refine Ok.grd (by omega) (Ok.ret ?_)
      show own_I (sto m1 1 x 0) (T + 8)
      exact own_I_c hr (fun i hi => sto_k _ _ _ _ (by first | decide | omega)) (fun k i hk => sto_k _ _ _ _ (fun z => by omega))
  · exact Ok.bindE (own_vn0 m x I.1 h) (Ok.pos rfl (Ok.ret (own_I_T I (by omega))))
set_option maxRecDepth 65536 in
set_option maxHeartbeats 16000000 in
theorem own_cre (m : OMem) (T a b c d : Int) (I : own_I m T) (hT : T ≤ 100000) (ha : a ≤ 15) (hb : b ≤ 15) : Ok (f_createPod a b c d m) (fun r => own_I r.2 (T + 1)) := by
  have b96 : ∀ x, x < 8 → (0 ≤ x → m 7 x = 0) → 1 ≤ a → 1 ≤ b → Ok (f_createPod_b96 a b c d x m) (fun r => own_I r.2 (T + 1)) := by
    intro x hx h7 ha1 hb1
    unfold f_createPod_b96
    refine Ok.ite (fun _ => Ok.ret (own_I_T I (by omega))) (fun h => Ok.grd (by omega) (Ok.grd (by omega) (Ok.grd (by omega) (Ok.grd (by omega) (Ok.grd (by omega) (Ok.grd (by omega) ?_))))))
    have h7 := h7 (by omega)
    generalize hM : sto (sto (sto (sto (sto (sto m 9 x a) 10 x b) 11 x c) 12 x (and32 d 255)) 13 x (and32 (shr32 d 8) 255)) 14 x (and32 (shr32 d 16) 15) = M
    have eo : ∀ k i, k ≤ 8 ∨ k = 15 → M k i = m k i := fun k i hk => by
      subst hM
      simp only [sto]
      rw [if_neg (by omega), if_neg (by omega), if_neg (by omega), if_neg (by omega), if_neg (by omega), if_neg (by omega)]
    have e9 : ∀ i, M 9 i = if i = x then a else m 9 i := fun i => by subst hM; simp [sto]
    have e10 : ∀ i, M 10 i = if i = x then b else m 10 i := fun i => by subst hM; simp [sto]
    have IM : own_I M T := by
      obtain ⟨i19, i20, iV, iP, iN, i0, iT, iS, iD⟩ := I
      have o0 := fun i => eo 0 i (by first | decide | omega)
      have o7 := fun i => eo 7 i (by first | decide | omega)
      have o2 := fun i => eo 2 i (by first | decide | omega)
      have o3 := fun i => eo 3 i (by first | decide | omega)
      have o15 := fun i => eo 15 i (by first | decide | omega)
      unfold own_I own_V
      simp only [o0, o7, o2, o3, o15, e9, e10]
      refine ⟨i19, i20, ⟨fun q => ?_, fun q => ?_⟩, fun q z1 z2 z3 => ?_, iN, i0, iT, iS, iD⟩
      · have := iV.1 q
        split <;> omega
      · have := iV.2 q
        split <;> omega
      · have : q ≠ x := fun z => z3 (by rw [z]; exact h7)
        rw [if_neg this, if_neg this]
        exact iP q z1 z2 z3
    have b21 : 0 ≤ M 0 21 ∧ M 0 21 ≤ T := ⟨IM.2.2.2.2.2.1, IM.2.2.2.2.2.2.1⟩
    refine Ok.bindE (own_que M x ⟨by omega, hx⟩ (by omega)) (Ok.ret ?_)
    exact own_I_qm IM (by rw [e9, e10, if_pos rfl, if_pos rfl]; exact ⟨ha1, hb1⟩)
  have e20 : m 0 20 = 8 := I.2.1
  have hl : Ok (lp (f_createPod_l57 m a b c d (-1)) NN 0) (fun e => match e with | .inl z => z < 8 ∧ m 7 z = 0 | .inr _ => True) := by
    refine Ok.loop (fun s => 0 ≤ s) (fun s => (8 - s).toNat) (by simp) (by simp) ?_
    intro x hx
    unfold f_createPod_l57
    try dsimp only
    rw [e20]
    refine Ok.ite (fun h8 => Ok.pos (by omega) (Ok.grd (by omega) (Ok.ite (fun h7 => Ok.ret ?_) (fun _ => Ok.ret ?_)))) (fun _ => Ok.ret trivial)
    · exact ⟨h8, h7⟩
    · dsimp only; rw [w32_id (by omega)]; omega
  unfold f_createPod f_createPod_b24 f_createPod_b49
  have R : Ok (some (-1, m)) (fun r : Int × OMem => own_I r.2 (T + 1)) := Ok.ret (own_I_T I (by omega))
  refine Ok.ite (fun _ => R) (fun _ => Ok.ite (fun _ => R) (fun _ => Ok.ite (fun _ => R) (fun _ => Ok.ite (fun _ => R) (fun _ => Ok.ite (fun _ => R) (fun _ => Ok.ite (fun _ => R) (fun _ => Ok.ite (fun _ => R) (fun _ => Ok.ite (fun _ => R) (fun _ => ?_))))))))
  refine Ok.bind hl fun e he => ?_
  cases e with
  | inl z => exact b96 z he.1 (fun _ => he.2) (by omega) (by omega)
  | inr z => exact b96 (-1) (by omega) (fun z => by omega) (by omega) (by omega)
set_option maxRecDepth 65536 in
set_option maxHeartbeats 16000000 in
theorem own_del (m : OMem) (T p : Int) (I : own_I m T) : Ok (f_deletePod p m) (fun r => own_I r.2 T) := by
  unfold f_deletePod f_deletePod_b17
  by_cases hp : 0 ≤ p ∧ p < 8
  · refine Ok.bindE (own_vp1 m p I.2.1 hp) ?_
    refine Ok.neg (by first | decide | omega) (Ok.grd (by omega) (Ok.ite (fun _ => Ok.ret I) (fun _ => Ok.grd (by omega) (Ok.grd (by omega) (Ok.ret ?_)))))
    obtain ⟨i19, i20, iV, iP, iN, i0, iT, iS, iD⟩ := I
    dsimp only
    have e7 : ∀ i, sto (sto m 7 p 0) 8 p (-1) 7 i = if i = p then 0 else m 7 i := fun i => by simp [sto]
    have eo : ∀ k i, k ≠ 7 → k ≠ 8 → sto (sto m 7 p 0) 8 p (-1) k i = m k i := fun k i h1 h2 => by simp [sto, h1, h2]
    have o0 := fun i => eo 0 i (by first | decide | omega) (by first | decide | omega)
    have o2 := fun i => eo 2 i (by first | decide | omega) (by first | decide | omega)
    have o3 := fun i => eo 3 i (by first | decide | omega) (by first | decide | omega)
    have o9 := fun i => eo 9 i (by first | decide | omega) (by first | decide | omega)
    have o10 := fun i => eo 10 i (by first | decide | omega) (by first | decide | omega)
    have o15 := fun i => eo 15 i (by first | decide | omega) (by first | decide | omega)
    have u7 : ∀ q z, z ≠ 0 → sto (sto m 7 p 0) 8 p (-1) 7 q = z → m 7 q = z := fun q z hz h => by
      rw [e7] at h
      split at h
      · omega
      · exact h
    unfold own_I own_V
    simp only [o0, o2, o3, o9, o10, o15]
    refine ⟨i19, i20, iV, fun q z1 z2 z3 => iP q z1 z2 (fun z => z3 ?_), iN, i0, iT, fun q z1 z2 z3 => iS q z1 z2 (u7 q 1 (by first | decide | omega) z3), fun q r z1 z2 z3 z4 z5 z6 => iD q r z1 z2 z3 z4 (u7 q 1 (by first | decide | omega) z5) (u7 r 1 (by first | decide | omega) z6)⟩
    rw [e7]
    split
    · rfl
    · exact z
  · exact Ok.bindE (own_vp0 m p I.2.1 hp) (Ok.pos rfl (Ok.ret I))
set_option maxRecDepth 65536 in
set_option maxHeartbeats 16000000 in
theorem own_bud (m : OMem) (T a b : Int) (I : own_I m T) : Ok (f_setBudget a b m) (fun r => own_I r.2 T) := by
  unfold f_setBudget f_setBudget_b21
  refine Ok.ite (fun _ => Ok.ret I) (fun _ => Ok.ite (fun _ => Ok.ret I) (fun _ => Ok.ite (fun _ => Ok.ret I) (fun _ => Ok.ite (fun _ => Ok.ret I) (fun _ => Ok.grd (by omega) (Ok.ret ?_)))))
  show own_I (sto m 16 a b) T
  exact own_I_c I (fun i hi => sto_k _ _ _ _ (by first | decide | omega)) (fun k i hk => sto_k _ _ _ _ (fun z => by omega))
abbrev own_E : Type := OMem ⊕ OMem ⊕ OMem ⊕ OMem ⊕ OMem ⊕ OMem ⊕ OMem ⊕ OMem ⊕ OMem
def own_W (sl x2 : Int) (e : (Int × OMem) ⊕ own_E) : Prop := match e with | .inl s => (0 ≤ s.1 ∧ s.1 ≤ sl ∧ own_I s.2 (9 * s.1)) ∧ (sl - s.1).toNat < (sl - x2).toNat | .inr e => ∃ M, e = .inr (.inr (.inr (.inr (.inr (.inr (.inr (.inr M)))))))
set_option maxRecDepth 65536 in
set_option maxHeartbeats 16000000 in
theorem own_b572 (sl : Int) (sc : Int → Int) (x2 : Int) (m : OMem) (hx : 0 ≤ x2 ∧ x2 + 4 < sl) (hl : sl ≤ 260) (I : own_I m (9 * x2 + 9)) : Ok (l_law_b572 sl sc x2 m) (own_W sl x2) := by
  unfold l_law_b572
  rw [w32_id (by omega)]
  refine Ok.ret ⟨⟨?_, ?_, own_I_T I ?_⟩, ?_⟩
  all_goals (dsimp only; omega)
set_option maxRecDepth 65536 in
set_option maxHeartbeats 16000000 in
theorem own_lcm (a : Int) : lcm a a = 0 := by
  unfold lcm
  rw [if_neg (Int.lt_irrefl a), if_pos rfl]
set_option maxRecDepth 65536 in
set_option maxHeartbeats 16000000 in
theorem own_ps (m : OMem) (p : Int) (h20 : m 0 20 = 8) : f_podState p m = some (if 0 ≤ p ∧ p < 8 then m 7 p else -1) := by
  unfold f_podState
  by_cases hp : 0 ≤ p ∧ p < 8
  · rw [own_vp1 m p h20 hp, if_pos hp]
    simp only [Option.bind_some]
    rw [if_neg (show ¬ (1 : Int) = 0 by decide), if_pos (by omega)]
  · rw [own_vp0 m p h20 hp, if_neg hp]
    rfl
set_option maxRecDepth 65536 in
set_option maxHeartbeats 16000000 in
theorem own_Fc {m m' : OMem} {n : Int} (h1 : m' 1 n = m 1 n) (h : ∀ q, 0 ≤ q → q < 8 → ((m' 7 q = 2 ∧ m' 8 q = n) ↔ (m 7 q = 2 ∧ m 8 q = n)) ∧ m' 9 q = m 9 q ∧ m' 10 q = m 10 q) : own_F m' n = own_F m n := by
  unfold own_F own_nu own_U
  rw [h1, own_sum_c h 8 (by omega), own_sum_c h 8 (by omega)]
set_option maxRecDepth 65536 in
set_option maxHeartbeats 16000000 in
theorem own_core (sl : Int) (sc : Int → Int) (m m' : OMem) (x2 p R r : Int) (hx : 0 ≤ x2 ∧ x2 + 4 < sl) (hl : sl ≤ 260) (I : own_I m (9 * x2)) (hp : 0 ≤ p ∧ p < 8) (h7 : m 7 p = 1) (hR : R = -1 ∨ (0 ≤ R ∧ R < 4 ∧ m 1 R ≠ 0)) (I' : own_I m' (9 * x2 + 9)) (hB : 0 ≤ R → r = 1 ∧ m' = sto (sto (sto (sto m 7 p 2) 8 p R) 0 22 1) 0 23 0) (hU : R < 0 → (r = 0 ∧ (∀ i, m' 7 i = m 7 i) ∧ (∀ i, i ≠ p → m' 8 i = m 8 i) ∧ (∀ i, m' 9 i = m 9 i ∧ m' 10 i = m 10 i ∧ m' 1 i = m 1 i)) ∨ r = 2) (x14 : Int) : Ok (l_law_b357 sl sc x2 p 1 R (own_S m) x14 r m') (own_W sl x2) := by
  have j19 : m' 0 19 = 4 := I'.1
  have j20 : m' 0 20 = 8 := I'.2.1
  have jV : own_V m' := I'.2.2.1
  have iV : own_V m := I.2.2.1
  have B := own_b572 sl sc x2 m' hx hl I'
  unfold l_law_b357 l_law_b381
  refine Ok.bindE (own_snap sl sc m' j19 j20 jV) ?_
  refine Ok.neg (by first | decide | omega) ?_
  by_cases hR0 : R < 0
  · have hU := hU hR0
    refine Ok.neg (by omega) (Ok.neg (by omega) (Ok.neg (by first | decide | omega) (Ok.pos hR0 (Ok.neg (by omega) ?_))))
    refine Ok.ite (fun h0 => ?_) (fun _ => B)
    obtain ⟨_, u7, u8, u9⟩ := hU.resolve_right (by omega)
    have eF : ∀ n, own_F m' n = own_F m n := fun n => own_Fc (u9 n).2.2 fun q _ _ => by
      refine ⟨?_, (u9 q).1, (u9 q).2.1⟩
      rw [u7]
      by_cases hq : q = p
      · subst hq
        exact ⟨fun z => by omega, fun z => by omega⟩
      · rw [u8 q hq]
    have eS : own_S m' = own_S m := by
      unfold own_S
      rw [eF, eF, eF, eF]
    rw [eS, own_lcm]
    refine Ok.pos rfl (Ok.bindE (own_ps m' p j20) ?_)
    rw [if_pos hp, u7, h7]
    exact Ok.pos rfl B
  · obtain ⟨rfl, hm⟩ := hB (by omega)
    have hR := hR.resolve_left (by omega)
    refine Ok.neg (by first | decide | omega) (Ok.neg (by first | decide | omega) (Ok.neg (by first | decide | omega) (Ok.neg hR0 (Ok.pos rfl ?_))))
    have e7 : ∀ i, m' 7 i = if i = p then 2 else m 7 i := fun i => by subst hm; simp [sto]
    have e8 : ∀ i, m' 8 i = if i = p then R else m 8 i := fun i => by subst hm; simp [sto]
    have e9 : ∀ i, m' 9 i = m 9 i := fun i => by subst hm; simp [sto]
    have e10 : ∀ i, m' 10 i = m 10 i := fun i => by subst hm; simp [sto]
    have e1 : ∀ i, m' 1 i = m 1 i := fun i => by subst hm; simp [sto]
    have pn : f_podNode p m' = some R := by
      unfold f_podNode
      rw [own_vp1 m' p j20 hp]
      simp only [Option.bind_some]
      rw [if_neg (show ¬ (1 : Int) = 0 by decide), if_pos (by omega), e7, if_pos rfl, if_pos rfl, if_pos (by omega), e8, if_pos rfl]
    refine Ok.bindE pn (Ok.pos rfl ?_)
    have hs : ∀ n r, own_sum m' n r 8 = own_sum m n r 8 + (if R = n then own_val m r p else 0) := by
      intro n r
      have a := own_sum_c (m := sto (sto m 7 p 2) 8 p R) (m' := m') (n := n) (r := r) (fun q _ _ => by subst hm; simp [sto]) 8 (by omega)
      have b := own_sum_b (m := m) (p := p) (b := R) (n := n) (r := r) hp (by omega) 8
      rw [a, b]
      by_cases z : R = n
      · rw [if_pos ⟨by omega, z⟩, if_pos z]
      · rw [if_neg (fun w => z w.2), if_neg z]
    have oF : ∀ n, n ≠ R → own_F m' n = own_F m n := by
      intro n hn
      unfold own_F own_nu own_U
      rw [e1, hs, hs, if_neg (show ¬ R = n from fun z => hn z.symm), if_neg (show ¬ R = n from fun z => hn z.symm), Int.add_zero, Int.add_zero]
    have rr := own_nu_r m' jV R
    have r0 := own_nu_r m iV R
    have n0 : own_nu m' R 0 = own_nu m R 0 + m 9 p := by
      unfold own_nu own_U
      rw [e1, if_neg hR.2.2, if_neg hR.2.2, hs, if_pos rfl]
      rfl
    have n2 : own_nu m' R 2 = own_nu m R 2 + 1 := by
      unfold own_nu own_U
      rw [e1, if_neg hR.2.2, if_neg hR.2.2, hs, if_pos rfl]
      rfl
    have p9 := (I.2.2.2.1 p hp.1 hp.2 (by omega)).1
    have q0 : 0 ≤ own_nu m R 0 := by
      have := own_sum_r m iV R 0 8
      unfold own_nu
      rw [if_neg hR.2.2]
      exact this.1
    have q2 : 0 ≤ own_nu m R 2 := by
      have := own_sum2 m R 8
      unfold own_nu
      rw [if_neg hR.2.2]
      exact this.1
    have F1 : own_F m R = own_nu m R 0 + 1 + 128 * (own_nu m R 2 + 1) := rfl
    have F2 : own_F m' R = own_nu m' R 0 + 1 + 128 * (own_nu m' R 2 + 1) := rfl
    have L : Ok (lp (l_law_l438 sl sc m' x2 R (own_S m) (own_S m')) NN 0) (fun e => e = .inr (.inr ())) := by
      refine Ok.loop (fun s => 0 ≤ s) (fun s => (4 - s).toNat) (by simp) (by simp) ?_
      intro x hx0
      unfold l_law_l438
      try dsimp only
      refine Ok.ite (fun h4 => ?_) (fun _ => Ok.ret rfl)
      rw [own_get m' jV x ⟨hx0, h4⟩, own_get m iV x ⟨hx0, h4⟩]
      unfold l_law_b489 l_law_b530
      rw [w32_id (z := x + 1) (by omega)]
      refine Ok.ite (fun hxR => ?_) (fun hxR => ?_)
      · subst hxR
        refine Ok.pos rfl ?_
        rw [own_sh7 _ (by omega), own_sh7 _ (by omega), own_m127 _ (by omega), own_m127 _ (by omega), w64_id (by omega)]
        have g1 : own_F m' x / 128 = own_F m x / 128 + 1 := by omega
        have g2 : own_F m x % 128 < own_F m' x % 128 := by omega
        rw [g1, own_lcm]
        refine Ok.pos rfl (Ok.pos ?_ (Ok.ret (by dsimp only; omega)))
        unfold lcm
        rw [if_pos g2]
        decide
      · rw [oF x hxR, own_lcm]
        exact Ok.pos rfl (Ok.neg hxR (Ok.ret (by dsimp only; omega)))
    refine Ok.bind L fun e he => ?_
    subst he
    exact B
set_option maxRecDepth 65536 in
set_option maxHeartbeats 16000000 in
theorem own_nop (sl : Int) (sc : Int → Int) (m : OMem) (x2 p R : Int) (hx : 0 ≤ x2 ∧ x2 + 4 < sl) (hl : sl ≤ 260) (I : own_I m (9 * x2)) : Ok (l_law_b357 sl sc x2 p 0 R (own_S m) (m 0 22) (-1) m) (own_W sl x2) := by
  unfold l_law_b357 l_law_b381
  refine Ok.bindE (own_snap sl sc m I.1 I.2.1 I.2.2.1) (Ok.pos rfl (Ok.pos rfl (Ok.pos rfl ?_)))
  rw [own_lcm]
  exact Ok.pos rfl (Ok.bindE (b := m 0 22) rfl (Ok.pos rfl (own_b572 sl sc x2 m hx hl (own_I_T I (by omega)))))
set_option maxRecDepth 65536 in
set_option maxHeartbeats 16000000 in
theorem own_b236 (sl : Int) (sc : Int → Int) (m : OMem) (x2 x3 p : Int) (hx : 0 ≤ x2 ∧ x2 + 4 < sl) (hl : sl ≤ 260) (I : own_I m (9 * x2)) (h : x3 = 5 ∨ (x3 ≠ 5 ∧ ((p = -1 ∧ ∀ r, 0 ≤ r → r < 8 → m 7 r ≠ 1) ∨ own_mx m p) ∧ lp (f_scheduleNext_l4 m) NN (-1, 0) = some p)) : Ok (l_law_b236 sl sc x2 x3 p m) (own_W sl x2) := by
  have i19 : m 0 19 = 4 := I.1
  have i20 : m 0 20 = 8 := I.2.1
  have iV : own_V m := I.2.2.1
  unfold l_law_b236
  refine Ok.bindE (own_ps m p i20) ?_
  by_cases hp : 0 ≤ p ∧ p < 8 ∧ m 7 p = 1
  · refine Ok.pos (by rw [if_pos ⟨hp.1, hp.2.1⟩]; exact hp.2.2) ?_
    obtain ⟨R, hR, e1, e2⟩ := own_bf sl sc m (9 * x2) x2 x3 p 1 I ⟨hp.1, hp.2.1⟩ hp.2.2
    unfold l_law_b251
    refine Ok.bindE e2 (Ok.bindE (own_snap sl sc m i19 i20 iV) (Ok.bindE (b := m 0 22) rfl ?_))
    have A := own_at m (9 * x2) p R I (by omega) ⟨hp.1, hp.2.1⟩ hp.2.2 e1
    refine Ok.ite (fun h5 => ?_) (fun h5 => ?_)
    · unfold f_schedule
      rw [own_vp1 m p i20 ⟨hp.1, hp.2.1⟩]
      refine Ok.bind (P := fun r => own_I r.2 (9 * x2 + 9) ∧ r.2 0 22 = r.1 ∧ (0 ≤ R → r.1 = 1 ∧ r.2 = sto (sto (sto (sto m 7 p 2) 8 p R) 0 22 1) 0 23 0) ∧ (R < 0 → (r.1 = 0 ∧ (∀ i, r.2 7 i = m 7 i) ∧ (∀ i, i ≠ p → r.2 8 i = m 8 i) ∧ (∀ i, r.2 9 i = m 9 i ∧ r.2 10 i = m 10 i ∧ r.2 1 i = m 1 i)) ∨ r.1 = 2)) ?_ fun r hr => ?_
      · simp only [Option.bind_some]
        refine Ok.neg (by first | decide | omega) (Ok.grd (by omega) (Ok.pos hp.2.2 (Ok.bind A fun r hr => Ok.ret hr)))
      · obtain ⟨r, m'⟩ := r
        obtain ⟨a1, a2, a3, a4⟩ := hr
        exact own_core sl sc m m' x2 p R r hx hl I ⟨hp.1, hp.2.1⟩ hp.2.2 hR a1 a3 a4 _
    · have e4 := (h.resolve_left h5).2.2
      unfold f_scheduleNext f_scheduleNext_b88
      rw [e4]
      refine Ok.bind (P := fun q => q.1 = p ∧ own_I q.2 (9 * x2 + 9) ∧ (0 ≤ R → q.2 0 22 = 1 ∧ q.2 = sto (sto (sto (sto m 7 p 2) 8 p R) 0 22 1) 0 23 0) ∧ (R < 0 → (q.2 0 22 = 0 ∧ (∀ i, q.2 7 i = m 7 i) ∧ (∀ i, i ≠ p → q.2 8 i = m 8 i) ∧ (∀ i, q.2 9 i = m 9 i ∧ q.2 10 i = m 10 i ∧ q.2 1 i = m 1 i)) ∨ q.2 0 22 = 2)) ?_ fun q hq => ?_
      · simp only [Option.bind_some]
        refine Ok.neg (by omega) (Ok.bind A fun r hr => Ok.ret ?_)
        obtain ⟨a1, a2, a3, a4⟩ := hr
        refine ⟨rfl, a1, ?_, ?_⟩
        · rw [a2]; exact a3
        · rw [a2]; exact a4
      · obtain ⟨q, m'⟩ := q
        obtain ⟨rfl, a1, a3, a4⟩ := hq
        dsimp only at a1 a3 a4 ⊢
        refine Ok.pos rfl (Ok.neg (by omega) (Ok.bindE (b := m' 0 22) rfl ?_))
        unfold l_law_b355
        exact own_core sl sc m m' x2 q R (m' 0 22) hx hl I ⟨hp.1, hp.2.1⟩ hp.2.2 hR a1 a3 a4 _
  · refine Ok.neg ?_ ?_
    · split
      · rename_i z; exact fun w => hp ⟨z.1, z.2, w⟩
      · decide
    unfold l_law_b251
    refine Ok.bind (own_bn sl sc m x2 x3 p 0 i20 hp) fun R _ => Ok.bindE (own_snap sl sc m i19 i20 iV) (Ok.bindE (b := m 0 22) rfl ?_)
    refine Ok.ite (fun h5 => ?_) (fun h5 => ?_)
    · have e : f_schedule p m = some (-1, m) := by
        unfold f_schedule f_schedule_b18
        by_cases z : 0 ≤ p ∧ p < 8
        · rw [own_vp1 m p i20 z]
          simp only [Option.bind_some]
          rw [if_neg (show ¬ (1 : Int) = 0 by decide), if_pos (by omega), if_neg (fun w => hp ⟨z.1, z.2, w⟩)]
        · rw [own_vp0 m p i20 z]
          rfl
      refine Ok.bindE e ?_
      exact own_nop sl sc m x2 p R hx hl I
    · obtain ⟨_, h3, e4⟩ := h.resolve_left h5
      have hp1 : p = -1 := by
        rcases h3 with z | z
        · exact z.1
        · exact absurd ⟨z.1, z.2.1, z.2.2.1⟩ hp
      subst hp1
      have e : f_scheduleNext m = some (-1, m) := by
        unfold f_scheduleNext f_scheduleNext_b88
        rw [e4]
        rfl
      refine Ok.bindE e ?_
      refine Ok.pos rfl (Ok.pos (by first | decide | omega) ?_)
      unfold l_law_b355
      exact own_nop sl sc m x2 (-1) R hx hl I
set_option maxRecDepth 65536 in
set_option maxHeartbeats 16000000 in
theorem law_true (sl : Int) (sc : Int → Int) (hl : 0 ≤ sl ∧ sl ≤ 260) (hr : ∀ i, -2147483648 ≤ sc i ∧ sc i < 2147483648) : ∃ W, l_law sl sc = some (1, W) := by
  refine Ok.law ?_
  unfold l_law
  have hi : Ok (f_init 4 8 z0) (fun m => own_I m 0) := by
    unfold f_init
    refine Ok.bindE (own_clamp _ _ _ _) (Ok.bindE (own_clamp _ _ _ _) (Ok.bind (own_fill _) fun m h => Ok.ret ?_))
    have c1 : own_cl 4 1 8 = 4 := by decide
    have c2 : own_cl 8 1 16 = 8 := by decide
    rw [c1, c2] at h
    generalize hM : sto (sto (sto m 0 21 0) 0 22 (-1)) 0 23 0 = M
    have k0 : ∀ i, M 0 i = if i = 19 then 4 else if i = 20 then 8 else if i = 22 then -1 else 0 := by
      intro i
      subst hM
      simp only [sto, h, z0_at]
      simp
      repeat' split
      all_goals omega
    have ko : ∀ k i, k ≠ 0 → k ≠ 7 → k ≠ 8 → M k i = 0 := by
      intro k i a b c
      subst hM
      simp [sto, h, z0_at, a, b, c]
    have k7 : ∀ i, M 7 i = 0 := by
      intro i
      subst hM
      simp [sto, h, z0_at]
    unfold own_I own_V
    simp only [ko 9 _ (by first | decide | omega) (by first | decide | omega) (by first | decide | omega), ko 10 _ (by first | decide | omega) (by first | decide | omega) (by first | decide | omega), ko 2 _ (by first | decide | omega) (by first | decide | omega) (by first | decide | omega), ko 3 _ (by first | decide | omega) (by first | decide | omega) (by first | decide | omega), k7, k0]
    refine ⟨by decide, by decide, ⟨fun _ => by omega, fun _ => by omega⟩, fun q _ _ z => absurd rfl z, fun _ => by omega, by decide, by decide, fun q _ _ z => by omega, fun q r _ _ _ _ z => by omega⟩
  refine Ok.bind hi fun m hm => ?_
  refine Ok.bind (P := fun q => ∃ M, q = .inr (.inr (.inr (.inr (.inr (.inr (.inr (.inr M)))))))) ?_ fun q hq => ?_
  · refine Ok.loop (fun s => 0 ≤ s.1 ∧ s.1 ≤ sl ∧ own_I s.2 (9 * s.1)) (fun s => (sl - s.1).toNat) ⟨by simp, hl.1, hm⟩ (by dsimp only; omega) ?_
    rintro ⟨x2, m0⟩ ⟨h1, h2, I⟩
    dsimp only at h1 h2 I
    have R : Ok (l_law_l13 sl sc (x2, m0)) (own_W sl x2) := by
      unfold l_law_l13
      dsimp only
      rw [w32_id (z := x2 + 1) (by omega), w32_id (z := x2 + 2) (by omega), w32_id (z := x2 + 3) (by omega), w32_id (z := x2 + 4) (by omega)]
      refine Ok.ite (fun hx => ?_) (fun hx => Ok.ret ⟨_, rfl⟩)
      refine Ok.grd (by omega) (Ok.grd (by omega) (Ok.grd (by omega) (Ok.grd (by omega) (Ok.grd (by omega) ?_))))
      have B := fun m T (J : own_I m T) (hT : T ≤ 9 * x2 + 9) => own_b572 sl sc x2 m ⟨h1, hx⟩ hl.2 (own_I_T J hT)
      have l15 : ∀ a, and32 a 15 ≤ 15 := fun a => by rw [and32_15]; omega
      refine Ok.ite (fun _ => Ok.bind (own_add m0 _ _ _ _ _ I) fun r J => B _ _ J (by omega)) (fun _ => ?_)
      refine Ok.ite (fun _ => Ok.bind (own_rem m0 _ _ I (by omega)) fun r J => B _ _ J (by omega)) (fun _ => ?_)
      refine Ok.ite (fun _ => Ok.bind (own_cre m0 _ _ _ _ _ I (by omega) (l15 _) (l15 _)) fun r J => B _ _ J (by omega)) (fun _ => ?_)
      refine Ok.ite (fun _ => Ok.bind (own_del m0 _ _ I) fun r J => B _ _ J (by omega)) (fun _ => ?_)
      refine Ok.ite (fun _ => Ok.bind (own_bud m0 _ _ _ I) fun r J => B _ _ J (by omega)) (fun _ => ?_)
      have q7 : 0 ≤ and32 (sc x2) 7 ∧ and32 (sc x2) 7 < 8 := by rw [and32_7]; omega
      refine Ok.ite (fun _ => own_b236 sl sc m0 x2 _ _ ⟨h1, hx⟩ hl.2 I (Or.inl (by omega))) (fun _ => ?_)
      obtain ⟨p, hp, e1, e2⟩ := own_next sl sc m0 (9 * x2) x2 (and32 (sc x2) 7) I
      refine Ok.bindE e2 ?_
      exact own_b236 sl sc m0 x2 _ p ⟨h1, hx⟩ hl.2 I (Or.inr ⟨by omega, hp, e1⟩)
    refine Ok.mono R fun e he => ?_
    cases e with
    | inl s => exact he
    | inr e => exact he
  · obtain ⟨M, rfl⟩ := hq
    dsimp only
    exact Ok.ret rfl

set_option maxRecDepth 65536 in
set_option maxHeartbeats 8000000 in
set_option maxHeartbeats 4000000 in
theorem comes_1 {Post : Tables → Env → Array Value → State → Outcome → State → Prop} (hpost : ∀ tb e args s v u, (limb_1_1.after args s (.returned v) u = true ∧ limb_1_2.after args s (.returned v) u = true ∧ True) → FrameEnd s (.returned v) u (Jvm.fieldLocs frame_1_writes args s ++ Jvm.arrayLocs frame_1_arrays args s ++ Jvm.staticLocs frame_1_statics s) 48 704 → Post tb e args s (.returned v) u) :
    ArmFor flags0 classFile x code maxLocals ret World_1 tables_1 room_1 Calls_1 rest_1 Pre_1 Post := by
  intro l hfl _ _ p e ha hc hk s m args below hf hA hF happ hP
  obtain ⟨hcalls, hrest, hpre⟩ := hP
  obtain ⟨-, -, -, hnamed, -, -, -, hat⟩ := (Spec.applies_iff hf).mp happ
  obtain ⟨hg, hn⟩ := and_e (Cond.before_iff.mp (show (Jvm.Cond.and given_1 narrow_1).before args s = true from hpre))
  have hw := fun d (hd : d ∈ tables_1) => atoms_spec (ws := Jvm.Cond.code x code maxLocals ret :: tables_1) hat d (List.mem_cons_of_mem _ hd)
  have hfit : Fit s := fun {y c} hc i hi => by
    obtain ⟨ha, rfl⟩ := Array.getElem?_eq_some_iff.mp hc
    have q := List.all_eq_true.mp ((Array.all_eq_true_iff_forall_mem.mp hF) _ (Array.getElem_mem ha)) i (List.mem_range.mpr hi)
    simpa [Array.getElem?_eq_getElem hi] using q
  obtain ⟨hcnt, g0⟩ := and_e hg
  obtain ⟨w0, rfl⟩ : ∃ w0 : Value, args = #[w0] := by
    have hs : args.size = 1 := by simpa [Cond.value, given_1] using hcnt
    obtain ⟨L⟩ := args
    match L, hs with
    | [w0], _ => exact ⟨w0, rfl⟩
  obtain ⟨hn1, hn2⟩ := and_e hn
  obtain ⟨a, ea⟩ := arr_v hn1
  obtain rfl : w0 = .ref a := Option.some.inj ea
  obtain ⟨cl, hAr⟩ := Arr.start ea hn1
  obtain ⟨hlen0, hlen⟩ := own_len hn2 ea hAr
  have hel : ∀ i : Nat, i < cl.slots.size → ∃ x : Int32, cl.slots[i]? = some (.int x) := fun i hi => own_elem hfit hAr hi hlen0
  obtain ⟨W, hlaw⟩ := law_true (cl.slots.size : Int) (own_sc cl) ⟨by omega, hlen⟩ (own_sc_rng cl)
  obtain ⟨N, hN⟩ := l_law_ok (cl.slots.size : Int) (own_sc cl) _ hlaw _ ⟨0, rfl⟩
  have hM := lawMet (sc := (true, (cl.slots.size : Int), own_sc cl)) (mo := 1) (as := [vr 0]) (vals := [.ref a]) (A := (fun _ => a)) (rm := room_1) (n0 := s.heap.size) (h := s.heap) (tabP hw) (tabL hw) (by decide) l (x := x) rfl (ps := [2]) (ml := 23) (fr := 6) (lc := 99) rfl hN (Nat.le_of_eq rfl) tables_1 (by decide) (by decide) (by decide) (by decide +kernel) (Nat.le_refl _) (fun _ => ⟨(Array.getElem?_eq_some_iff.mp hAr.1).1, cl, hAr, rfl, by show (cl.slots.size : Int) < 2147483648; omega, fun i hi => by obtain ⟨x, hx⟩ := hel i hi; exact ⟨x, hx, (own_sc_at hx).symm⟩⟩) ⟨⟨Nat.le_refl _, rfl⟩, trivial⟩
  obtain ⟨n, o, h1, h2, h3, L, rfl, N, hq⟩ := hM p e ha hc hk s m _ below hf ((Spec.applies_iff_loose hf).mp happ).1 ⟨rfl, State.Warmed39.refl s, rfl⟩ trivial
  exact ⟨n, _, h1, h2, h3, hpost _ _ _ _ _ _ ⟨Cond.after_iff.mpr rfl, Cond.after_iff.mpr (eq_i res_at (Term.int_eval (1)) rfl), trivial⟩ ⟨hq.1, hq.2.1, (hq.2.2.sift fun y hy => Or.inr (N y hy)).mono (by decide) (by decide)⟩⟩
theorem main_1_1 : Claimed_1_1 := comes_1 fun _ _ _ _ _ _ h hF => ⟨h.1, hF⟩
theorem main_1_2 : Claimed_1_2 := comes_1 fun _ _ _ _ _ _ h hF => ⟨h.2.1, hF⟩
end Jvm.Pilot.@@N@@
namespace Jvm.Pilot.@@N@@
open Jvm Jvm.ClassFile Sem Op Lib Jvm.Free Jvm.Stand Jvm.Pilot.@@N@@.Jvm.D
/-! MADE BY PROGRAM (witnessworld.py) out of the Statement's table words and the real class files: 11 classes; the members and pool entries that the words name. The judged class is class 1, her method 1. -/
namespace start1
open Jvm.ClassFile
def u (s : String) : CpInfo := .utf8 (stringToUtf16 s)
/-- a pool by its gaps: so many unusable entries, then the entry; so many at the end -/
def gap : Nat → List CpInfo → List CpInfo
  | 0, r => r
  | n + 1, r => .unusable :: gap n r
def poolList (es : List (Nat × CpInfo)) (last : Nat) : List CpInfo := es.foldr (fun e r => gap e.1 (e.2 :: r)) (gap last [])
def pool (es : List (Nat × CpInfo)) (last : Nat) : Array CpInfo := ⟨poolList es last⟩
def fileOf (pool : Array CpInfo) (this : Nat) (attrs : Array Attribute := #[]) (ms : Array MethodInfo := #[]) (fl : Nat := 33) (sup : Nat := 0) (ifs : Array Nat := #[]) (fds : Array FieldInfo := #[]) : ClassFile where
  minorVersion := 0
  majorVersion := 65
  constantPool := pool
  accessFlags := fl
  thisClass := this
  superClass := sup
  interfaces := ifs
  fields := fds
  methods := ms
  attributes := attrs
def plain (name : String) (sup : Option ClassId) : Class where
  name := name
  kind := .ordinary
  loader := none
  accessFlags := 33
  super := sup
  interfaces := #[]
  cf := none
  fields := #[]
  methods := #[]
  instanceTypes := #[]
  staticTypes := #[]
  resolved := #[]
  callSites := []
  init := .initialized
  statics := none
  mirror := none

def pool0 : Array CpInfo := pool [(5, u "<init>"), (0, u "()V"), (1, .class_ 10), (1, u "java/lang/Object")] 113

def k0c0 : Code := { maxStack := 0, maxLocals := 1, code := object_method_1_code, exceptionTable := #[], attributes := #[] }
def k0m0 : Method := { name := "<init>", desc := "()V", sig := { parameters := [], returnType := none }, accessFlags := 1, code := some k0c0 }
/-- java/lang/Object -/
def k0 : Class := { plain "java/lang/Object" none with
  accessFlags := 33
  interfaces := #[]
  cf := some (fileOf pool0 8 #[] #[{ accessFlags := 1, nameIndex := 5, descriptorIndex := 6, attributes := #[] }] 33 0 #[] #[])
  fields := #[]
  methods := #[k0m0]
  instanceTypes := #[]
  staticTypes := #[]
  resolved := Array.replicate 124 none
  statics := none }

def pool1 : Array CpInfo := pool [(2, .class_ 4), (1, u "java/lang/Object"), (0, u "<init>"), (0, u "()V"), (0, .class_ 8), (0, u "PodPlacer"), (0, .methodref 7 10), (0, .nameAndType 5 11), (0, u "(II)V"), (0, .methodref 7 13), (0, .nameAndType 14 15), (0, u "addNode"), (0, u "(IIII)I"), (0, .methodref 7 17), (0, .nameAndType 18 19), (0, u "removeNode"), (0, u "(I)I"), (0, .methodref 7 21), (0, .nameAndType 22 15), (0, u "createPod"), (0, .methodref 7 24), (0, .nameAndType 25 26), (0, u "deletePod"), (0, u "(I)Z"), (0, .methodref 7 28), (0, .nameAndType 29 30), (0, u "setBudget"), (0, u "(II)Z"), (0, .methodref 7 32), (0, .nameAndType 33 19), (0, u "pendingRank"), (0, .methodref 7 35), (0, .nameAndType 36 19), (0, u "podState"), (0, .methodref 7 38), (0, .nameAndType 39 40), (0, u "score"), (0, u "(II)I"), (0, .methodref 42 43), (0, .class_ 44), (0, .nameAndType 45 46), (0, u "PodPlacerL7"), (0, u "snap"), (0, u "(LPodPlacer;)J"), (0, .methodref 7 48), (0, .nameAndType 49 50), (0, u "lastOutcome"), (0, u "()I"), (0, .methodref 7 52), (0, .nameAndType 53 19), (0, u "schedule"), (0, .methodref 7 55), (0, .nameAndType 56 50), (0, u "scheduleNext"), (0, .methodref 7 58), (0, .nameAndType 59 19), (0, u "podNode"), (0, .long 2047), (1, .long 127), (1, .methodref 7 65), (0, .nameAndType 66 40), (0, u "nodeUsed"), (2, u "law"), (0, u "([I)Z")] 5

def k1m0 : Method := { name := "<init>", desc := "()V", sig := { parameters := [], returnType := none }, accessFlags := 1, code := none }
def k1c1 : Code := { maxStack := 7, maxLocals := 23, code := code, exceptionTable := #[], attributes := #[] }
def k1m1 : Method := { name := "law", desc := "([I)Z", sig := { parameters := [(.array .int)], returnType := some .boolean }, accessFlags := 9, code := some k1c1 }
def k1c2 : Code := { maxStack := 7, maxLocals := 8, code := method_3_code, exceptionTable := #[], attributes := #[] }
def k1m2 : Method := { name := "snap", desc := "(LPodPlacer;)J", sig := { parameters := [(.object "PodPlacer")], returnType := some .long }, accessFlags := 10, code := some k1c2 }
/-- PodPlacerL7 -/
def k1 : Class := { plain "PodPlacerL7" (some 0) with
  accessFlags := 33
  interfaces := #[]
  cf := some (fileOf pool1 42 #[] #[{ accessFlags := 1, nameIndex := 5, descriptorIndex := 6, attributes := #[] }, { accessFlags := 9, nameIndex := 69, descriptorIndex := 70, attributes := #[] }, { accessFlags := 10, nameIndex := 45, descriptorIndex := 46, attributes := #[] }] 33 2 #[] #[])
  fields := #[]
  methods := #[k1m0, k1m1, k1m2]
  instanceTypes := #[]
  staticTypes := #[]
  resolved := Array.replicate 76 none
  statics := none }

def pool2 : Array CpInfo := pool [(1, .methodref 2 3), (0, .class_ 4), (0, .nameAndType 5 6), (0, u "java/lang/Object"), (0, u "<init>"), (0, u "()V"), (0, .fieldref 8 9), (0, .class_ 10), (0, .nameAndType 11 12), (0, u "PodPlacer"), (0, u "nodePresent"), (0, u "[Z"), (0, .fieldref 8 14), (0, .nameAndType 15 16), (0, u "nodeCpu"), (0, u "[I"), (0, .fieldref 8 18), (0, .nameAndType 19 16), (0, u "nodeMem"), (0, .fieldref 8 21), (0, .nameAndType 22 16), (0, u "nodeCap"), (0, .fieldref 8 24), (0, .nameAndType 25 16), (0, u "nodeLabels"), (0, .fieldref 8 27), (0, .nameAndType 28 16), (0, u "nodeTaints"), (0, .fieldref 8 30), (0, .nameAndType 31 16), (0, u "pState"), (0, .fieldref 8 33), (0, .nameAndType 34 16), (0, u "pNode"), (0, .fieldref 8 36), (0, .nameAndType 37 16), (0, u "pCpu"), (0, .fieldref 8 39), (0, .nameAndType 40 16), (0, u "pMem"), (0, .fieldref 8 42), (0, .nameAndType 43 16), (0, u "pPrio"), (0, .fieldref 8 45), (0, .nameAndType 46 16), (0, u "pTol"), (0, .fieldref 8 48), (0, .nameAndType 49 16), (0, u "pSel"), (0, .fieldref 8 51), (0, .nameAndType 52 16), (0, u "pGroup"), (0, .fieldref 8 54), (0, .nameAndType 55 16), (0, u "pStamp"), (0, .fieldref 8 57), (0, .nameAndType 58 16), (0, u "budget"), (0, .fieldref 8 60), (0, .nameAndType 61 16), (0, u "candPods"), (0, .fieldref 8 63), (0, .nameAndType 64 16), (0, u "groupBound"), (0, .fieldref 8 66), (0, .nameAndType 67 16), (0, u "vicGroup"), (0, .methodref 8 69), (0, .nameAndType 70 71), (0, u "clamp"), (0, u "(III)I"), (0, .fieldref 8 73), (0, .nameAndType 74 75), (0, u "nodeLimit"), (0, u "I"), (0, .fieldref 8 77), (0, .nameAndType 78 75), (0, u "podLimit"), (0, .fieldref 8 80), (0, .nameAndType 81 75), (0, u "stampCounter"), (0, .fieldref 8 83), (0, .nameAndType 84 75), (0, u "lastOut"), (0, .fieldref 8 86), (0, .nameAndType 87 75), (0, u "lastVict"), (0, .integer 65535), (0, .methodref 8 90), (0, .nameAndType 91 92), (0, u "validNode"), (0, u "(I)Z"), (0, .methodref 8 94), (0, .nameAndType 95 96), (0, u "queue"), (0, u "(I)V"), (0, .integer 1048575), (0, .methodref 8 99), (0, .nameAndType 100 92), (0, u "validPod"), (0, .methodref 8 102), (0, .nameAndType 103 104), (0, u "attempt"), (0, u "(I)I"), (0, .methodref 8 106), (0, .nameAndType 107 108), (0, u "usedOf"), (0, u "(II)I"), (0, .methodref 8 110), (0, .nameAndType 111 112), (0, u "fits"), (0, u "(II)Z"), (0, .methodref 8 114), (0, .nameAndType 115 108), (0, u "scoreOf"), (0, .methodref 8 117), (0, .nameAndType 118 112), (0, u "labelsMatch"), (0, .methodref 8 120), (0, .nameAndType 121 108), (0, u "groupOnNode"), (0, .methodref 8 123), (0, .nameAndType 124 104), (0, u "bestFitNode"), (0, .methodref 8 126), (0, .nameAndType 127 128), (0, u "bind"), (0, u "(II)V"), (0, .methodref 8 130), (0, .nameAndType 131 128), (0, u "record"), (0, .methodref 8 133), (0, .nameAndType 134 92), (0, u "findPreemption"), (0, .fieldref 8 136), (0, .nameAndType 137 75), (0, u "bestMask"), (0, .fieldref 8 139), (0, .nameAndType 140 75), (0, u "bestNode"), (0, .fieldref 8 142), (0, .nameAndType 143 144), (0, u "bestFound"), (0, u "Z"), (0, .methodref 8 146), (0, .nameAndType 147 6), (0, u "computeGroupBound"), (0, .methodref 8 149), (0, .nameAndType 150 128), (0, u "evaluateNode"), (0, .fieldref 8 152), (0, .nameAndType 153 75), (0, u "baseC"), (0, .fieldref 8 155), (0, .nameAndType 156 75), (0, u "baseM"), (0, .fieldref 8 158), (0, .nameAndType 159 75), (0, u "baseK"), (0, .fieldref 8 161), (0, .nameAndType 162 75), (0, u "baseGroup"), (0, .fieldref 8 164), (0, .nameAndType 165 75), (0, u "candCount"), (0, .methodref 8 167), (0, .nameAndType 168 169), (0, u "evaluateSubset"), (0, u "(III)V"), (0, .methodref 8 171), (0, .nameAndType 172 173), (0, u "better"), (0, u "(IIIII)Z"), (0, .fieldref 8 175), (0, .nameAndType 176 75), (0, u "bestMax"), (0, .fieldref 8 178), (0, .nameAndType 179 75), (0, u "bestCnt"), (0, .fieldref 8 181), (0, .nameAndType 182 75), (0, u "bestSum"), (0, u "REFUSED"), (2, u "UNSCHEDULABLE"), (1, u "BOUND"), (1, u "PREEMPTED"), (1, u "STATE_FREE"), (0, u "STATE_PENDING"), (0, u "STATE_BOUND"), (0, u "RES_CPU"), (0, u "RES_MEM"), (0, u "RES_PODS"), (3, u "addNode"), (0, u "(IIII)I"), (0, u "removeNode"), (0, u "createPod"), (0, u "deletePod"), (0, u "setBudget"), (0, u "schedule"), (0, u "scheduleNext"), (0, u "()I"), (0, u "podState"), (0, u "podNode"), (0, u "pendingRank"), (0, u "nodeUsed"), (0, u "score"), (0, u "lastOutcome")] 3

def k2c0 : Code := { maxStack := 5, maxLocals := 4, code := prog_1_method_1_code, exceptionTable := #[], attributes := #[] }
def k2m0 : Method := { name := "<init>", desc := "(II)V", sig := { parameters := [.int, .int], returnType := none }, accessFlags := 1, code := some k2c0 }
def k2c1 : Code := { maxStack := 2, maxLocals := 4, code := prog_1_method_2_code, exceptionTable := #[], attributes := #[] }
def k2m1 : Method := { name := "clamp", desc := "(III)I", sig := { parameters := [.int, .int, .int], returnType := some .int }, accessFlags := 2, code := some k2c1 }
def k2c2 : Code := { maxStack := 4, maxLocals := 7, code := prog_1_method_3_code, exceptionTable := #[], attributes := #[] }
def k2m2 : Method := { name := "addNode", desc := "(IIII)I", sig := { parameters := [.int, .int, .int, .int], returnType := some .int }, accessFlags := 1, code := some k2c2 }
def k2c3 : Code := { maxStack := 3, maxLocals := 4, code := prog_1_method_4_code, exceptionTable := #[], attributes := #[] }
def k2m3 : Method := { name := "removeNode", desc := "(I)I", sig := { parameters := [.int], returnType := some .int }, accessFlags := 1, code := some k2c3 }
def k2c4 : Code := { maxStack := 4, maxLocals := 7, code := prog_1_method_5_code, exceptionTable := #[], attributes := #[] }
def k2m4 : Method := { name := "createPod", desc := "(IIII)I", sig := { parameters := [.int, .int, .int, .int], returnType := some .int }, accessFlags := 1, code := some k2c4 }
def k2c5 : Code := { maxStack := 3, maxLocals := 2, code := prog_1_method_6_code, exceptionTable := #[], attributes := #[] }
def k2m5 : Method := { name := "deletePod", desc := "(I)Z", sig := { parameters := [.int], returnType := some .boolean }, accessFlags := 1, code := some k2c5 }
def k2c6 : Code := { maxStack := 3, maxLocals := 3, code := prog_1_method_7_code, exceptionTable := #[], attributes := #[] }
def k2m6 : Method := { name := "setBudget", desc := "(II)Z", sig := { parameters := [.int, .int], returnType := some .boolean }, accessFlags := 1, code := some k2c6 }
def k2c7 : Code := { maxStack := 2, maxLocals := 2, code := prog_1_method_8_code, exceptionTable := #[], attributes := #[] }
def k2m7 : Method := { name := "schedule", desc := "(I)I", sig := { parameters := [.int], returnType := some .int }, accessFlags := 1, code := some k2c7 }
def k2c8 : Code := { maxStack := 3, maxLocals := 3, code := prog_1_method_9_code, exceptionTable := #[], attributes := #[] }
def k2m8 : Method := { name := "scheduleNext", desc := "()I", sig := { parameters := [], returnType := some .int }, accessFlags := 1, code := some k2c8 }
def k2c9 : Code := { maxStack := 2, maxLocals := 2, code := prog_1_method_10_code, exceptionTable := #[], attributes := #[] }
def k2m9 : Method := { name := "podState", desc := "(I)I", sig := { parameters := [.int], returnType := some .int }, accessFlags := 1, code := some k2c9 }
def k2c10 : Code := { maxStack := 2, maxLocals := 2, code := prog_1_method_11_code, exceptionTable := #[], attributes := #[] }
def k2m10 : Method := { name := "podNode", desc := "(I)I", sig := { parameters := [.int], returnType := some .int }, accessFlags := 1, code := some k2c10 }
def k2c11 : Code := { maxStack := 3, maxLocals := 4, code := prog_1_method_12_code, exceptionTable := #[], attributes := #[] }
def k2m11 : Method := { name := "pendingRank", desc := "(I)I", sig := { parameters := [.int], returnType := some .int }, accessFlags := 1, code := some k2c11 }
def k2c12 : Code := { maxStack := 3, maxLocals := 3, code := prog_1_method_13_code, exceptionTable := #[], attributes := #[] }
def k2m12 : Method := { name := "nodeUsed", desc := "(II)I", sig := { parameters := [.int, .int], returnType := some .int }, accessFlags := 1, code := some k2c12 }
def k2c13 : Code := { maxStack := 3, maxLocals := 3, code := prog_1_method_14_code, exceptionTable := #[], attributes := #[] }
def k2m13 : Method := { name := "score", desc := "(II)I", sig := { parameters := [.int, .int], returnType := some .int }, accessFlags := 1, code := some k2c13 }
def k2c14 : Code := { maxStack := 1, maxLocals := 1, code := prog_1_method_15_code, exceptionTable := #[], attributes := #[] }
def k2m14 : Method := { name := "lastOutcome", desc := "()I", sig := { parameters := [], returnType := some .int }, accessFlags := 1, code := some k2c14 }
def k2c15 : Code := { maxStack := 2, maxLocals := 2, code := prog_1_method_17_code, exceptionTable := #[], attributes := #[] }
def k2m15 : Method := { name := "validPod", desc := "(I)Z", sig := { parameters := [.int], returnType := some .boolean }, accessFlags := 2, code := some k2c15 }
def k2c16 : Code := { maxStack := 2, maxLocals := 2, code := prog_1_method_18_code, exceptionTable := #[], attributes := #[] }
def k2m16 : Method := { name := "validNode", desc := "(I)Z", sig := { parameters := [.int], returnType := some .boolean }, accessFlags := 2, code := some k2c16 }
def k2c17 : Code := { maxStack := 3, maxLocals := 2, code := prog_1_method_19_code, exceptionTable := #[], attributes := #[] }
def k2m17 : Method := { name := "queue", desc := "(I)V", sig := { parameters := [.int], returnType := none }, accessFlags := 2, code := some k2c17 }
def k2c18 : Code := { maxStack := 3, maxLocals := 3, code := prog_1_method_20_code, exceptionTable := #[], attributes := #[] }
def k2m18 : Method := { name := "bind", desc := "(II)V", sig := { parameters := [.int, .int], returnType := none }, accessFlags := 2, code := some k2c18 }
def k2c19 : Code := { maxStack := 2, maxLocals := 3, code := prog_1_method_21_code, exceptionTable := #[], attributes := #[] }
def k2m19 : Method := { name := "record", desc := "(II)V", sig := { parameters := [.int, .int], returnType := none }, accessFlags := 2, code := some k2c19 }
def k2c20 : Code := { maxStack := 3, maxLocals := 5, code := prog_1_method_22_code, exceptionTable := #[], attributes := #[] }
def k2m20 : Method := { name := "usedOf", desc := "(II)I", sig := { parameters := [.int, .int], returnType := some .int }, accessFlags := 2, code := some k2c20 }
def k2c21 : Code := { maxStack := 2, maxLocals := 5, code := prog_1_method_23_code, exceptionTable := #[], attributes := #[] }
def k2m21 : Method := { name := "groupOnNode", desc := "(II)I", sig := { parameters := [.int, .int], returnType := some .int }, accessFlags := 2, code := some k2c21 }
def k2c22 : Code := { maxStack := 3, maxLocals := 3, code := prog_1_method_24_code, exceptionTable := #[], attributes := #[] }
def k2m22 : Method := { name := "labelsMatch", desc := "(II)Z", sig := { parameters := [.int, .int], returnType := some .boolean }, accessFlags := 2, code := some k2c22 }
def k2c23 : Code := { maxStack := 4, maxLocals := 6, code := prog_1_method_25_code, exceptionTable := #[], attributes := #[] }
def k2m23 : Method := { name := "fits", desc := "(II)Z", sig := { parameters := [.int, .int], returnType := some .boolean }, accessFlags := 2, code := some k2c23 }
def k2c24 : Code := { maxStack := 3, maxLocals := 9, code := prog_1_method_26_code, exceptionTable := #[], attributes := #[] }
def k2m24 : Method := { name := "scoreOf", desc := "(II)I", sig := { parameters := [.int, .int], returnType := some .int }, accessFlags := 2, code := some k2c24 }
def k2c25 : Code := { maxStack := 3, maxLocals := 6, code := prog_1_method_27_code, exceptionTable := #[], attributes := #[] }
def k2m25 : Method := { name := "bestFitNode", desc := "(I)I", sig := { parameters := [.int], returnType := some .int }, accessFlags := 2, code := some k2c25 }
def k2c26 : Code := { maxStack := 3, maxLocals := 4, code := prog_1_method_28_code, exceptionTable := #[], attributes := #[] }
def k2m26 : Method := { name := "attempt", desc := "(I)I", sig := { parameters := [.int], returnType := some .int }, accessFlags := 2, code := some k2c26 }
def k2c27 : Code := { maxStack := 4, maxLocals := 2, code := prog_1_method_29_code, exceptionTable := #[], attributes := #[] }
def k2m27 : Method := { name := "computeGroupBound", desc := "()V", sig := { parameters := [], returnType := none }, accessFlags := 2, code := some k2c27 }
def k2c28 : Code := { maxStack := 3, maxLocals := 3, code := prog_1_method_30_code, exceptionTable := #[], attributes := #[] }
def k2m28 : Method := { name := "findPreemption", desc := "(I)Z", sig := { parameters := [.int], returnType := some .boolean }, accessFlags := 2, code := some k2c28 }
def k2c29 : Code := { maxStack := 5, maxLocals := 5, code := prog_1_method_31_code, exceptionTable := #[], attributes := #[] }
def k2m29 : Method := { name := "evaluateNode", desc := "(II)V", sig := { parameters := [.int, .int], returnType := none }, accessFlags := 2, code := some k2c29 }
def k2c30 : Code := { maxStack := 6, maxLocals := 12, code := prog_1_method_32_code, exceptionTable := #[], attributes := #[] }
def k2m30 : Method := { name := "evaluateSubset", desc := "(III)V", sig := { parameters := [.int, .int, .int], returnType := none }, accessFlags := 2, code := some k2c30 }
def k2c31 : Code := { maxStack := 2, maxLocals := 6, code := prog_1_method_33_code, exceptionTable := #[], attributes := #[] }
def k2m31 : Method := { name := "better", desc := "(IIIII)Z", sig := { parameters := [.int, .int, .int, .int, .int], returnType := some .boolean }, accessFlags := 2, code := some k2c31 }
/-- PodPlacer -/
def k2 : Class := { plain "PodPlacer" (some 0) with
  accessFlags := 49
  interfaces := #[]
  cf := some (fileOf pool2 8 #[] #[{ accessFlags := 1, nameIndex := 5, descriptorIndex := 128, attributes := #[] }, { accessFlags := 2, nameIndex := 70, descriptorIndex := 71, attributes := #[] }, { accessFlags := 1, nameIndex := 201, descriptorIndex := 202, attributes := #[] }, { accessFlags := 1, nameIndex := 203, descriptorIndex := 104, attributes := #[] }, { accessFlags := 1, nameIndex := 204, descriptorIndex := 202, attributes := #[] }, { accessFlags := 1, nameIndex := 205, descriptorIndex := 92, attributes := #[] }, { accessFlags := 1, nameIndex := 206, descriptorIndex := 112, attributes := #[] }, { accessFlags := 1, nameIndex := 207, descriptorIndex := 104, attributes := #[] }, { accessFlags := 1, nameIndex := 208, descriptorIndex := 209, attributes := #[] }, { accessFlags := 1, nameIndex := 210, descriptorIndex := 104, attributes := #[] }, { accessFlags := 1, nameIndex := 211, descriptorIndex := 104, attributes := #[] }, { accessFlags := 1, nameIndex := 212, descriptorIndex := 104, attributes := #[] }, { accessFlags := 1, nameIndex := 213, descriptorIndex := 108, attributes := #[] }, { accessFlags := 1, nameIndex := 214, descriptorIndex := 108, attributes := #[] }, { accessFlags := 1, nameIndex := 215, descriptorIndex := 209, attributes := #[] }, { accessFlags := 2, nameIndex := 100, descriptorIndex := 92, attributes := #[] }, { accessFlags := 2, nameIndex := 91, descriptorIndex := 92, attributes := #[] }, { accessFlags := 2, nameIndex := 95, descriptorIndex := 96, attributes := #[] }, { accessFlags := 2, nameIndex := 127, descriptorIndex := 128, attributes := #[] }, { accessFlags := 2, nameIndex := 131, descriptorIndex := 128, attributes := #[] }, { accessFlags := 2, nameIndex := 107, descriptorIndex := 108, attributes := #[] }, { accessFlags := 2, nameIndex := 121, descriptorIndex := 108, attributes := #[] }, { accessFlags := 2, nameIndex := 118, descriptorIndex := 112, attributes := #[] }, { accessFlags := 2, nameIndex := 111, descriptorIndex := 112, attributes := #[] }, { accessFlags := 2, nameIndex := 115, descriptorIndex := 108, attributes := #[] }, { accessFlags := 2, nameIndex := 124, descriptorIndex := 104, attributes := #[] }, { accessFlags := 2, nameIndex := 103, descriptorIndex := 104, attributes := #[] }, { accessFlags := 2, nameIndex := 147, descriptorIndex := 6, attributes := #[] }, { accessFlags := 2, nameIndex := 134, descriptorIndex := 92, attributes := #[] }, { accessFlags := 2, nameIndex := 150, descriptorIndex := 128, attributes := #[] }, { accessFlags := 2, nameIndex := 168, descriptorIndex := 169, attributes := #[] }, { accessFlags := 2, nameIndex := 172, descriptorIndex := 173, attributes := #[] }] 49 2 #[] #[{ accessFlags := 25, nameIndex := 183, descriptorIndex := 75, attributes := #[] }, { accessFlags := 25, nameIndex := 186, descriptorIndex := 75, attributes := #[] }, { accessFlags := 25, nameIndex := 188, descriptorIndex := 75, attributes := #[] }, { accessFlags := 25, nameIndex := 190, descriptorIndex := 75, attributes := #[] }, { accessFlags := 25, nameIndex := 192, descriptorIndex := 75, attributes := #[] }, { accessFlags := 25, nameIndex := 193, descriptorIndex := 75, attributes := #[] }, { accessFlags := 25, nameIndex := 194, descriptorIndex := 75, attributes := #[] }, { accessFlags := 25, nameIndex := 195, descriptorIndex := 75, attributes := #[] }, { accessFlags := 25, nameIndex := 196, descriptorIndex := 75, attributes := #[] }, { accessFlags := 25, nameIndex := 197, descriptorIndex := 75, attributes := #[] }, { accessFlags := 2, nameIndex := 74, descriptorIndex := 75, attributes := #[] }, { accessFlags := 2, nameIndex := 78, descriptorIndex := 75, attributes := #[] }, { accessFlags := 2, nameIndex := 11, descriptorIndex := 12, attributes := #[] }, { accessFlags := 2, nameIndex := 15, descriptorIndex := 16, attributes := #[] }, { accessFlags := 2, nameIndex := 19, descriptorIndex := 16, attributes := #[] }, { accessFlags := 2, nameIndex := 22, descriptorIndex := 16, attributes := #[] }, { accessFlags := 2, nameIndex := 25, descriptorIndex := 16, attributes := #[] }, { accessFlags := 2, nameIndex := 28, descriptorIndex := 16, attributes := #[] }, { accessFlags := 2, nameIndex := 31, descriptorIndex := 16, attributes := #[] }, { accessFlags := 2, nameIndex := 34, descriptorIndex := 16, attributes := #[] }, { accessFlags := 2, nameIndex := 37, descriptorIndex := 16, attributes := #[] }, { accessFlags := 2, nameIndex := 40, descriptorIndex := 16, attributes := #[] }, { accessFlags := 2, nameIndex := 43, descriptorIndex := 16, attributes := #[] }, { accessFlags := 2, nameIndex := 46, descriptorIndex := 16, attributes := #[] }, { accessFlags := 2, nameIndex := 49, descriptorIndex := 16, attributes := #[] }, { accessFlags := 2, nameIndex := 52, descriptorIndex := 16, attributes := #[] }, { accessFlags := 2, nameIndex := 55, descriptorIndex := 16, attributes := #[] }, { accessFlags := 2, nameIndex := 58, descriptorIndex := 16, attributes := #[] }, { accessFlags := 2, nameIndex := 81, descriptorIndex := 75, attributes := #[] }, { accessFlags := 2, nameIndex := 84, descriptorIndex := 75, attributes := #[] }, { accessFlags := 2, nameIndex := 87, descriptorIndex := 75, attributes := #[] }, { accessFlags := 2, nameIndex := 61, descriptorIndex := 16, attributes := #[] }, { accessFlags := 2, nameIndex := 165, descriptorIndex := 75, attributes := #[] }, { accessFlags := 2, nameIndex := 64, descriptorIndex := 16, attributes := #[] }, { accessFlags := 2, nameIndex := 67, descriptorIndex := 16, attributes := #[] }, { accessFlags := 2, nameIndex := 153, descriptorIndex := 75, attributes := #[] }, { accessFlags := 2, nameIndex := 156, descriptorIndex := 75, attributes := #[] }, { accessFlags := 2, nameIndex := 159, descriptorIndex := 75, attributes := #[] }, { accessFlags := 2, nameIndex := 162, descriptorIndex := 75, attributes := #[] }, { accessFlags := 2, nameIndex := 143, descriptorIndex := 144, attributes := #[] }, { accessFlags := 2, nameIndex := 176, descriptorIndex := 75, attributes := #[] }, { accessFlags := 2, nameIndex := 179, descriptorIndex := 75, attributes := #[] }, { accessFlags := 2, nameIndex := 182, descriptorIndex := 75, attributes := #[] }, { accessFlags := 2, nameIndex := 140, descriptorIndex := 75, attributes := #[] }, { accessFlags := 2, nameIndex := 137, descriptorIndex := 75, attributes := #[] }])
  fields := #[{ name := "REFUSED", type := .int, accessFlags := 25, slot := 0, constantValue := 0 }, { name := "UNSCHEDULABLE", type := .int, accessFlags := 25, slot := 1, constantValue := 0 }, { name := "BOUND", type := .int, accessFlags := 25, slot := 2, constantValue := 0 }, { name := "PREEMPTED", type := .int, accessFlags := 25, slot := 3, constantValue := 0 }, { name := "STATE_FREE", type := .int, accessFlags := 25, slot := 4, constantValue := 0 }, { name := "STATE_PENDING", type := .int, accessFlags := 25, slot := 5, constantValue := 0 }, { name := "STATE_BOUND", type := .int, accessFlags := 25, slot := 6, constantValue := 0 }, { name := "RES_CPU", type := .int, accessFlags := 25, slot := 7, constantValue := 0 }, { name := "RES_MEM", type := .int, accessFlags := 25, slot := 8, constantValue := 0 }, { name := "RES_PODS", type := .int, accessFlags := 25, slot := 9, constantValue := 0 }, { name := "nodeLimit", type := .int, accessFlags := 2, slot := 0, constantValue := 0 }, { name := "podLimit", type := .int, accessFlags := 2, slot := 1, constantValue := 0 }, { name := "nodePresent", type := (.array .boolean), accessFlags := 2, slot := 2, constantValue := 0 }, { name := "nodeCpu", type := (.array .int), accessFlags := 2, slot := 3, constantValue := 0 }, { name := "nodeMem", type := (.array .int), accessFlags := 2, slot := 4, constantValue := 0 }, { name := "nodeCap", type := (.array .int), accessFlags := 2, slot := 5, constantValue := 0 }, { name := "nodeLabels", type := (.array .int), accessFlags := 2, slot := 6, constantValue := 0 }, { name := "nodeTaints", type := (.array .int), accessFlags := 2, slot := 7, constantValue := 0 }, { name := "pState", type := (.array .int), accessFlags := 2, slot := 8, constantValue := 0 }, { name := "pNode", type := (.array .int), accessFlags := 2, slot := 9, constantValue := 0 }, { name := "pCpu", type := (.array .int), accessFlags := 2, slot := 10, constantValue := 0 }, { name := "pMem", type := (.array .int), accessFlags := 2, slot := 11, constantValue := 0 }, { name := "pPrio", type := (.array .int), accessFlags := 2, slot := 12, constantValue := 0 }, { name := "pTol", type := (.array .int), accessFlags := 2, slot := 13, constantValue := 0 }, { name := "pSel", type := (.array .int), accessFlags := 2, slot := 14, constantValue := 0 }, { name := "pGroup", type := (.array .int), accessFlags := 2, slot := 15, constantValue := 0 }, { name := "pStamp", type := (.array .int), accessFlags := 2, slot := 16, constantValue := 0 }, { name := "budget", type := (.array .int), accessFlags := 2, slot := 17, constantValue := 0 }, { name := "stampCounter", type := .int, accessFlags := 2, slot := 18, constantValue := 0 }, { name := "lastOut", type := .int, accessFlags := 2, slot := 19, constantValue := 0 }, { name := "lastVict", type := .int, accessFlags := 2, slot := 20, constantValue := 0 }, { name := "candPods", type := (.array .int), accessFlags := 2, slot := 21, constantValue := 0 }, { name := "candCount", type := .int, accessFlags := 2, slot := 22, constantValue := 0 }, { name := "groupBound", type := (.array .int), accessFlags := 2, slot := 23, constantValue := 0 }, { name := "vicGroup", type := (.array .int), accessFlags := 2, slot := 24, constantValue := 0 }, { name := "baseC", type := .int, accessFlags := 2, slot := 25, constantValue := 0 }, { name := "baseM", type := .int, accessFlags := 2, slot := 26, constantValue := 0 }, { name := "baseK", type := .int, accessFlags := 2, slot := 27, constantValue := 0 }, { name := "baseGroup", type := .int, accessFlags := 2, slot := 28, constantValue := 0 }, { name := "bestFound", type := .boolean, accessFlags := 2, slot := 29, constantValue := 0 }, { name := "bestMax", type := .int, accessFlags := 2, slot := 30, constantValue := 0 }, { name := "bestCnt", type := .int, accessFlags := 2, slot := 31, constantValue := 0 }, { name := "bestSum", type := .int, accessFlags := 2, slot := 32, constantValue := 0 }, { name := "bestNode", type := .int, accessFlags := 2, slot := 33, constantValue := 0 }, { name := "bestMask", type := .int, accessFlags := 2, slot := 34, constantValue := 0 }]
  methods := #[k2m0, k2m1, k2m2, k2m3, k2m4, k2m5, k2m6, k2m7, k2m8, k2m9, k2m10, k2m11, k2m12, k2m13, k2m14, k2m15, k2m16, k2m17, k2m18, k2m19, k2m20, k2m21, k2m22, k2m23, k2m24, k2m25, k2m26, k2m27, k2m28, k2m29, k2m30, k2m31]
  instanceTypes := #[.int, .int, (.array .boolean), (.array .int), (.array .int), (.array .int), (.array .int), (.array .int), (.array .int), (.array .int), (.array .int), (.array .int), (.array .int), (.array .int), (.array .int), (.array .int), (.array .int), (.array .int), .int, .int, .int, (.array .int), .int, (.array .int), (.array .int), .int, .int, .int, .int, .boolean, .int, .int, .int, .int, .int]
  staticTypes := #[.int, .int, .int, .int, .int, .int, .int, .int, .int, .int]
  resolved := Array.replicate 219 none
  statics := none }

def pool3 : Array CpInfo := pool [(1, u "java/lang/Cloneable"), (0, .class_ 1), (0, u "java/lang/Object"), (0, .class_ 3)] 3

/-- java/lang/Cloneable -/
def k3 : Class := { plain "java/lang/Cloneable" (some 0) with
  accessFlags := 1537
  interfaces := #[]
  cf := some (fileOf pool3 2 #[] #[] 1537 4 #[] #[])
  fields := #[]
  methods := #[]
  instanceTypes := #[]
  staticTypes := #[]
  resolved := Array.replicate 8 none
  statics := none }

def pool4 : Array CpInfo := pool [(1, u "java/io/Serializable"), (0, .class_ 1), (0, u "java/lang/Object"), (0, .class_ 3)] 3

/-- java/io/Serializable -/
def k4 : Class := { plain "java/io/Serializable" (some 0) with
  accessFlags := 1537
  interfaces := #[]
  cf := some (fileOf pool4 2 #[] #[] 1537 4 #[] #[])
  fields := #[]
  methods := #[]
  instanceTypes := #[]
  staticTypes := #[]
  resolved := Array.replicate 8 none
  statics := none }

/-- the primitive boolean -/
def k5 : Class := { plain "boolean" none with kind := .primitive 'Z', accessFlags := 0x411 }
/-- [Z -/
def k6 : Class := { plain "[Z" (some 0) with kind := .array 5 .boolean, interfaces := #[3, 4], accessFlags := 1041 }

/-- the primitive byte -/
def k7 : Class := { plain "byte" none with kind := .primitive 'B', accessFlags := 0x411 }
/-- [B -/
def k8 : Class := { plain "[B" (some 0) with kind := .array 7 .byte, interfaces := #[3, 4], accessFlags := 1041 }

/-- the primitive int -/
def k9 : Class := { plain "int" none with kind := .primitive 'I', accessFlags := 0x411 }
/-- [I -/
def k10 : Class := { plain "[I" (some 0) with kind := .array 9 .int, interfaces := #[3, 4], accessFlags := 1041 }

def heap : Heap := #[{ cls := 10, slots := #[.int 0, .int 3], vm := .none }]
def classes : Array Class := #[k0, k1, k2, k3, k4, k5, k6, k7, k8, k9, k10]
def interned : List (Array UInt16 × Addr) := []
def slotsUsed : Nat := 2
def theMethod : MethodId := ⟨1, 1⟩
def args0 : Array Value := #[.ref 0]
def aboutOver (below : List Frame) : State where
  vm := { classes := classes, interned := interned.toArray }
  heap := heap
  slotsUsed := slotsUsed
  threads := #[{ frames := .invoking theMethod args0 :: below }]
def below0 : List Frame := [.native { method := ⟨0, 0⟩, args := #[] }]
def about1 : State := aboutOver below0
def p0 : Program := .bare "" "" ""
def e0 : Env := launch0.env 0 0 0
theorem w_frames : about1.frames = Frame.invoking theMethod args0 :: below0 := rfl
set_option maxRecDepth 65536 in
theorem w_args : argsFit about1.vm theMethod args0 = true := by decide +kernel
set_option maxRecDepth 65536 in
theorem w_heap : heapFits about1 = true := by decide +kernel
set_option maxRecDepth 65536 in
theorem w_runnable : about1.curStatus? = some .runnable := by decide +kernel
set_option maxRecDepth 65536 in
theorem w_alone : about1.alone = true := by decide +kernel
set_option maxRecDepth 65536 in
theorem w_named : about1.methodNamed? x = some theMethod := by decide +kernel
set_option maxRecDepth 65536 in
theorem w_hears : about1.hears theMethod below0 = true := by decide +kernel
set_option maxRecDepth 65536 in
theorem w_ripe : about1.ripe theMethod args0 below0 = true := by decide +kernel
theorem w_running : about1.status = .running := rfl
set_option maxRecDepth 65536 in
theorem w_room : about1.hasRoom e0.platform room_1 = true :=
  launch0.hasRoom_least _ room_1 (by decide +kernel) (by decide +kernel) (by decide +kernel) (by decide +kernel) (by decide +kernel) (by decide +kernel)
theorem allAtoms_all (ts : List Jvm.Cond) (a : Array Jvm.Value) (st : Jvm.State) : (allAtoms ts).before a st = ts.all (fun c => c.before a st) := by
  induction ts with
  | nil => rfl
  | cons c t ih =>
    show (Jvm.Cond.and c (allAtoms t)).before a st = _
    rw [Jvm.Cond.before_and, ih, List.all_cons]
def words1 : List Jvm.Cond := Jvm.Cond.code x code maxLocals ret :: tables_1
/-- a 'code' word, met by the world's own term for the bytes: nothing is compared byte by byte -/
theorem code_word {y : MethodName} {bytes : ByteArray} {mx : Nat} {rt : Option FieldType} {a : Array Value} {s : State} {m : MethodId} {meth : Method} {c : Code} (h1 : s.methodNamed? y = some m) (h2 : s.vm.method? m = some meth) (h3 : meth.code = some c) (h4 : c.code = bytes)
    (h5 : (c.maxLocals == mx && c.exceptionTable.isEmpty && decide (c.maxStack ≤ mostOperands) && decide (meth.sig.returnType = rt) && !meth.locks && decide (parseMethodDescriptor y.desc = some meth.sig)) = true) : (Jvm.Cond.code y bytes mx rt).before a s = true := by
  simp only [Bool.and_eq_true, beq_iff_eq, Bool.not_eq_true', decide_eq_true_eq] at h5
  obtain ⟨⟨⟨⟨⟨g1, g2⟩, g3⟩, g4⟩, g5⟩, g6⟩ := h5
  simp [Cond.before, Cond.holds, Cond.value, h1, h2, h3, h4, g1, g2, g3, g4, g5, g6]
def isCode : Jvm.Cond → Bool
  | .code _ _ _ _ => true
  | _ => false
theorem all_split {L : List Jvm.Cond} {P : Jvm.Cond → Bool} (h1 : L.all (fun c => isCode c || P c) = true) (h2 : ∀ c ∈ L.filter isCode, P c = true) : L.all P = true := by
  refine List.all_eq_true.mpr fun c hc => ?_
  have h := List.all_eq_true.mp h1 c hc
  rcases Bool.eq_false_or_eq_true (isCode c) with hi | hi
  · exact h2 c (List.mem_filter.mpr ⟨hc, hi⟩)
  · simpa [hi] using h
set_option maxRecDepth 65536 in
theorem w_c0 : (Jvm.Cond.code x code maxLocals ret).before args0 about1 = true := code_word (m := ⟨1, 1⟩) (meth := k1m1) (c := k1c1) (by decide +kernel) rfl rfl rfl (by decide +kernel)
set_option maxRecDepth 65536 in
theorem w_c1 : (Jvm.Cond.code ({ cls := "PodPlacer", name := "<init>", desc := "(II)V" } : Jvm.MethodName) prog_1_method_1_code (4 : Nat) (Option.none : Option Jvm.ClassFile.FieldType)).before args0 about1 = true := code_word (m := ⟨2, 0⟩) (meth := k2m0) (c := k2c0) (by decide +kernel) rfl rfl rfl (by decide +kernel)
set_option maxRecDepth 65536 in
theorem w_c2 : (Jvm.Cond.code ({ cls := "java/lang/Object", name := "<init>", desc := "()V" } : Jvm.MethodName) object_method_1_code (1 : Nat) (Option.none : Option Jvm.ClassFile.FieldType)).before args0 about1 = true := code_word (m := ⟨0, 0⟩) (meth := k0m0) (c := k0c0) (by decide +kernel) rfl rfl rfl (by decide +kernel)
set_option maxRecDepth 65536 in
theorem w_c3 : (Jvm.Cond.code ({ cls := "PodPlacer", name := "clamp", desc := "(III)I" } : Jvm.MethodName) prog_1_method_2_code (4 : Nat) (Option.some Jvm.ClassFile.FieldType.int)).before args0 about1 = true := code_word (m := ⟨2, 1⟩) (meth := k2m1) (c := k2c1) (by decide +kernel) rfl rfl rfl (by decide +kernel)
set_option maxRecDepth 65536 in
theorem w_c4 : (Jvm.Cond.code ({ cls := "PodPlacer", name := "deletePod", desc := "(I)Z" } : Jvm.MethodName) prog_1_method_6_code (2 : Nat) (Option.some Jvm.ClassFile.FieldType.boolean)).before args0 about1 = true := code_word (m := ⟨2, 5⟩) (meth := k2m5) (c := k2c5) (by decide +kernel) rfl rfl rfl (by decide +kernel)
set_option maxRecDepth 65536 in
theorem w_c5 : (Jvm.Cond.code ({ cls := "PodPlacer", name := "validPod", desc := "(I)Z" } : Jvm.MethodName) prog_1_method_17_code (2 : Nat) (Option.some Jvm.ClassFile.FieldType.boolean)).before args0 about1 = true := code_word (m := ⟨2, 15⟩) (meth := k2m15) (c := k2c15) (by decide +kernel) rfl rfl rfl (by decide +kernel)
set_option maxRecDepth 65536 in
theorem w_c6 : (Jvm.Cond.code ({ cls := "PodPlacer", name := "addNode", desc := "(IIII)I" } : Jvm.MethodName) prog_1_method_3_code (7 : Nat) (Option.some Jvm.ClassFile.FieldType.int)).before args0 about1 = true := code_word (m := ⟨2, 2⟩) (meth := k2m2) (c := k2c2) (by decide +kernel) rfl rfl rfl (by decide +kernel)
set_option maxRecDepth 65536 in
theorem w_c7 : (Jvm.Cond.code ({ cls := "PodPlacer", name := "createPod", desc := "(IIII)I" } : Jvm.MethodName) prog_1_method_5_code (7 : Nat) (Option.some Jvm.ClassFile.FieldType.int)).before args0 about1 = true := code_word (m := ⟨2, 4⟩) (meth := k2m4) (c := k2c4) (by decide +kernel) rfl rfl rfl (by decide +kernel)
set_option maxRecDepth 65536 in
theorem w_c8 : (Jvm.Cond.code ({ cls := "PodPlacer", name := "queue", desc := "(I)V" } : Jvm.MethodName) prog_1_method_19_code (2 : Nat) (Option.none : Option Jvm.ClassFile.FieldType)).before args0 about1 = true := code_word (m := ⟨2, 17⟩) (meth := k2m17) (c := k2c17) (by decide +kernel) rfl rfl rfl (by decide +kernel)
set_option maxRecDepth 65536 in
theorem w_c9 : (Jvm.Cond.code ({ cls := "PodPlacer", name := "removeNode", desc := "(I)I" } : Jvm.MethodName) prog_1_method_4_code (4 : Nat) (Option.some Jvm.ClassFile.FieldType.int)).before args0 about1 = true := code_word (m := ⟨2, 3⟩) (meth := k2m3) (c := k2c3) (by decide +kernel) rfl rfl rfl (by decide +kernel)
set_option maxRecDepth 65536 in
theorem w_c10 : (Jvm.Cond.code ({ cls := "PodPlacer", name := "validNode", desc := "(I)Z" } : Jvm.MethodName) prog_1_method_18_code (2 : Nat) (Option.some Jvm.ClassFile.FieldType.boolean)).before args0 about1 = true := code_word (m := ⟨2, 16⟩) (meth := k2m16) (c := k2c16) (by decide +kernel) rfl rfl rfl (by decide +kernel)
set_option maxRecDepth 65536 in
theorem w_c11 : (Jvm.Cond.code ({ cls := "PodPlacer", name := "pendingRank", desc := "(I)I" } : Jvm.MethodName) prog_1_method_12_code (4 : Nat) (Option.some Jvm.ClassFile.FieldType.int)).before args0 about1 = true := code_word (m := ⟨2, 11⟩) (meth := k2m11) (c := k2c11) (by decide +kernel) rfl rfl rfl (by decide +kernel)
set_option maxRecDepth 65536 in
theorem w_c12 : (Jvm.Cond.code ({ cls := "PodPlacer", name := "podState", desc := "(I)I" } : Jvm.MethodName) prog_1_method_10_code (2 : Nat) (Option.some Jvm.ClassFile.FieldType.int)).before args0 about1 = true := code_word (m := ⟨2, 9⟩) (meth := k2m9) (c := k2c9) (by decide +kernel) rfl rfl rfl (by decide +kernel)
set_option maxRecDepth 65536 in
theorem w_c13 : (Jvm.Cond.code ({ cls := "PodPlacer", name := "score", desc := "(II)I" } : Jvm.MethodName) prog_1_method_14_code (3 : Nat) (Option.some Jvm.ClassFile.FieldType.int)).before args0 about1 = true := code_word (m := ⟨2, 13⟩) (meth := k2m13) (c := k2c13) (by decide +kernel) rfl rfl rfl (by decide +kernel)
set_option maxRecDepth 65536 in
theorem w_c14 : (Jvm.Cond.code ({ cls := "PodPlacer", name := "fits", desc := "(II)Z" } : Jvm.MethodName) prog_1_method_25_code (6 : Nat) (Option.some Jvm.ClassFile.FieldType.boolean)).before args0 about1 = true := code_word (m := ⟨2, 23⟩) (meth := k2m23) (c := k2c23) (by decide +kernel) rfl rfl rfl (by decide +kernel)
set_option maxRecDepth 65536 in
theorem w_c15 : (Jvm.Cond.code ({ cls := "PodPlacerL7", name := "snap", desc := "(LPodPlacer;)J" } : Jvm.MethodName) method_3_code (8 : Nat) (Option.some Jvm.ClassFile.FieldType.long)).before args0 about1 = true := code_word (m := ⟨1, 2⟩) (meth := k1m2) (c := k1c2) (by decide +kernel) rfl rfl rfl (by decide +kernel)
set_option maxRecDepth 65536 in
theorem w_c16 : (Jvm.Cond.code ({ cls := "PodPlacer", name := "nodeUsed", desc := "(II)I" } : Jvm.MethodName) prog_1_method_13_code (3 : Nat) (Option.some Jvm.ClassFile.FieldType.int)).before args0 about1 = true := code_word (m := ⟨2, 12⟩) (meth := k2m12) (c := k2c12) (by decide +kernel) rfl rfl rfl (by decide +kernel)
set_option maxRecDepth 65536 in
theorem w_c17 : (Jvm.Cond.code ({ cls := "PodPlacer", name := "lastOutcome", desc := "()I" } : Jvm.MethodName) prog_1_method_15_code (1 : Nat) (Option.some Jvm.ClassFile.FieldType.int)).before args0 about1 = true := code_word (m := ⟨2, 14⟩) (meth := k2m14) (c := k2c14) (by decide +kernel) rfl rfl rfl (by decide +kernel)
set_option maxRecDepth 65536 in
theorem w_c18 : (Jvm.Cond.code ({ cls := "PodPlacer", name := "scheduleNext", desc := "()I" } : Jvm.MethodName) prog_1_method_9_code (3 : Nat) (Option.some Jvm.ClassFile.FieldType.int)).before args0 about1 = true := code_word (m := ⟨2, 8⟩) (meth := k2m8) (c := k2c8) (by decide +kernel) rfl rfl rfl (by decide +kernel)
set_option maxRecDepth 65536 in
theorem w_c19 : (Jvm.Cond.code ({ cls := "PodPlacer", name := "attempt", desc := "(I)I" } : Jvm.MethodName) prog_1_method_28_code (4 : Nat) (Option.some Jvm.ClassFile.FieldType.int)).before args0 about1 = true := code_word (m := ⟨2, 26⟩) (meth := k2m26) (c := k2c26) (by decide +kernel) rfl rfl rfl (by decide +kernel)
set_option maxRecDepth 65536 in
theorem w_c20 : (Jvm.Cond.code ({ cls := "PodPlacer", name := "bestFitNode", desc := "(I)I" } : Jvm.MethodName) prog_1_method_27_code (6 : Nat) (Option.some Jvm.ClassFile.FieldType.int)).before args0 about1 = true := code_word (m := ⟨2, 25⟩) (meth := k2m25) (c := k2c25) (by decide +kernel) rfl rfl rfl (by decide +kernel)
set_option maxRecDepth 65536 in
theorem w_c21 : (Jvm.Cond.code ({ cls := "PodPlacer", name := "findPreemption", desc := "(I)Z" } : Jvm.MethodName) prog_1_method_30_code (3 : Nat) (Option.some Jvm.ClassFile.FieldType.boolean)).before args0 about1 = true := code_word (m := ⟨2, 28⟩) (meth := k2m28) (c := k2c28) (by decide +kernel) rfl rfl rfl (by decide +kernel)
set_option maxRecDepth 65536 in
theorem w_c22 : (Jvm.Cond.code ({ cls := "PodPlacer", name := "computeGroupBound", desc := "()V" } : Jvm.MethodName) prog_1_method_29_code (2 : Nat) (Option.none : Option Jvm.ClassFile.FieldType)).before args0 about1 = true := code_word (m := ⟨2, 27⟩) (meth := k2m27) (c := k2c27) (by decide +kernel) rfl rfl rfl (by decide +kernel)
set_option maxRecDepth 65536 in
theorem w_c23 : (Jvm.Cond.code ({ cls := "PodPlacer", name := "evaluateNode", desc := "(II)V" } : Jvm.MethodName) prog_1_method_31_code (5 : Nat) (Option.none : Option Jvm.ClassFile.FieldType)).before args0 about1 = true := code_word (m := ⟨2, 29⟩) (meth := k2m29) (c := k2c29) (by decide +kernel) rfl rfl rfl (by decide +kernel)
set_option maxRecDepth 65536 in
theorem w_c24 : (Jvm.Cond.code ({ cls := "PodPlacer", name := "record", desc := "(II)V" } : Jvm.MethodName) prog_1_method_21_code (3 : Nat) (Option.none : Option Jvm.ClassFile.FieldType)).before args0 about1 = true := code_word (m := ⟨2, 19⟩) (meth := k2m19) (c := k2c19) (by decide +kernel) rfl rfl rfl (by decide +kernel)
set_option maxRecDepth 65536 in
theorem w_c25 : (Jvm.Cond.code ({ cls := "PodPlacer", name := "labelsMatch", desc := "(II)Z" } : Jvm.MethodName) prog_1_method_24_code (3 : Nat) (Option.some Jvm.ClassFile.FieldType.boolean)).before args0 about1 = true := code_word (m := ⟨2, 22⟩) (meth := k2m22) (c := k2c22) (by decide +kernel) rfl rfl rfl (by decide +kernel)
set_option maxRecDepth 65536 in
theorem w_c26 : (Jvm.Cond.code ({ cls := "PodPlacer", name := "usedOf", desc := "(II)I" } : Jvm.MethodName) prog_1_method_22_code (5 : Nat) (Option.some Jvm.ClassFile.FieldType.int)).before args0 about1 = true := code_word (m := ⟨2, 20⟩) (meth := k2m20) (c := k2c20) (by decide +kernel) rfl rfl rfl (by decide +kernel)
set_option maxRecDepth 65536 in
theorem w_c27 : (Jvm.Cond.code ({ cls := "PodPlacer", name := "setBudget", desc := "(II)Z" } : Jvm.MethodName) prog_1_method_7_code (3 : Nat) (Option.some Jvm.ClassFile.FieldType.boolean)).before args0 about1 = true := code_word (m := ⟨2, 6⟩) (meth := k2m6) (c := k2c6) (by decide +kernel) rfl rfl rfl (by decide +kernel)
set_option maxRecDepth 65536 in
theorem w_c28 : (Jvm.Cond.code ({ cls := "PodPlacer", name := "schedule", desc := "(I)I" } : Jvm.MethodName) prog_1_method_8_code (2 : Nat) (Option.some Jvm.ClassFile.FieldType.int)).before args0 about1 = true := code_word (m := ⟨2, 7⟩) (meth := k2m7) (c := k2c7) (by decide +kernel) rfl rfl rfl (by decide +kernel)
set_option maxRecDepth 65536 in
theorem w_c29 : (Jvm.Cond.code ({ cls := "PodPlacer", name := "groupOnNode", desc := "(II)I" } : Jvm.MethodName) prog_1_method_23_code (5 : Nat) (Option.some Jvm.ClassFile.FieldType.int)).before args0 about1 = true := code_word (m := ⟨2, 21⟩) (meth := k2m21) (c := k2c21) (by decide +kernel) rfl rfl rfl (by decide +kernel)
set_option maxRecDepth 65536 in
theorem w_c30 : (Jvm.Cond.code ({ cls := "PodPlacer", name := "scoreOf", desc := "(II)I" } : Jvm.MethodName) prog_1_method_26_code (9 : Nat) (Option.some Jvm.ClassFile.FieldType.int)).before args0 about1 = true := code_word (m := ⟨2, 24⟩) (meth := k2m24) (c := k2c24) (by decide +kernel) rfl rfl rfl (by decide +kernel)
set_option maxRecDepth 65536 in
theorem w_c31 : (Jvm.Cond.code ({ cls := "PodPlacer", name := "bind", desc := "(II)V" } : Jvm.MethodName) prog_1_method_20_code (3 : Nat) (Option.none : Option Jvm.ClassFile.FieldType)).before args0 about1 = true := code_word (m := ⟨2, 18⟩) (meth := k2m18) (c := k2c18) (by decide +kernel) rfl rfl rfl (by decide +kernel)
set_option maxRecDepth 65536 in
theorem w_c32 : (Jvm.Cond.code ({ cls := "PodPlacer", name := "podNode", desc := "(I)I" } : Jvm.MethodName) prog_1_method_11_code (2 : Nat) (Option.some Jvm.ClassFile.FieldType.int)).before args0 about1 = true := code_word (m := ⟨2, 10⟩) (meth := k2m10) (c := k2c10) (by decide +kernel) rfl rfl rfl (by decide +kernel)
set_option maxRecDepth 65536 in
theorem w_c33 : (Jvm.Cond.code ({ cls := "PodPlacer", name := "evaluateSubset", desc := "(III)V" } : Jvm.MethodName) prog_1_method_32_code (12 : Nat) (Option.none : Option Jvm.ClassFile.FieldType)).before args0 about1 = true := code_word (m := ⟨2, 30⟩) (meth := k2m30) (c := k2c30) (by decide +kernel) rfl rfl rfl (by decide +kernel)
set_option maxRecDepth 65536 in
theorem w_c34 : (Jvm.Cond.code ({ cls := "PodPlacer", name := "better", desc := "(IIIII)Z" } : Jvm.MethodName) prog_1_method_33_code (6 : Nat) (Option.some Jvm.ClassFile.FieldType.boolean)).before args0 about1 = true := code_word (m := ⟨2, 31⟩) (meth := k2m31) (c := k2c31) (by decide +kernel) rfl rfl rfl (by decide +kernel)
def codes1 : List Jvm.Cond := [Jvm.Cond.code x code maxLocals ret, Jvm.Cond.code ({ cls := "PodPlacer", name := "<init>", desc := "(II)V" } : Jvm.MethodName) prog_1_method_1_code (4 : Nat) (Option.none : Option Jvm.ClassFile.FieldType), Jvm.Cond.code ({ cls := "java/lang/Object", name := "<init>", desc := "()V" } : Jvm.MethodName) object_method_1_code (1 : Nat) (Option.none : Option Jvm.ClassFile.FieldType), Jvm.Cond.code ({ cls := "PodPlacer", name := "clamp", desc := "(III)I" } : Jvm.MethodName) prog_1_method_2_code (4 : Nat) (Option.some Jvm.ClassFile.FieldType.int), Jvm.Cond.code ({ cls := "PodPlacer", name := "deletePod", desc := "(I)Z" } : Jvm.MethodName) prog_1_method_6_code (2 : Nat) (Option.some Jvm.ClassFile.FieldType.boolean), Jvm.Cond.code ({ cls := "PodPlacer", name := "validPod", desc := "(I)Z" } : Jvm.MethodName) prog_1_method_17_code (2 : Nat) (Option.some Jvm.ClassFile.FieldType.boolean), Jvm.Cond.code ({ cls := "PodPlacer", name := "addNode", desc := "(IIII)I" } : Jvm.MethodName) prog_1_method_3_code (7 : Nat) (Option.some Jvm.ClassFile.FieldType.int), Jvm.Cond.code ({ cls := "PodPlacer", name := "createPod", desc := "(IIII)I" } : Jvm.MethodName) prog_1_method_5_code (7 : Nat) (Option.some Jvm.ClassFile.FieldType.int), Jvm.Cond.code ({ cls := "PodPlacer", name := "queue", desc := "(I)V" } : Jvm.MethodName) prog_1_method_19_code (2 : Nat) (Option.none : Option Jvm.ClassFile.FieldType), Jvm.Cond.code ({ cls := "PodPlacer", name := "removeNode", desc := "(I)I" } : Jvm.MethodName) prog_1_method_4_code (4 : Nat) (Option.some Jvm.ClassFile.FieldType.int), Jvm.Cond.code ({ cls := "PodPlacer", name := "validNode", desc := "(I)Z" } : Jvm.MethodName) prog_1_method_18_code (2 : Nat) (Option.some Jvm.ClassFile.FieldType.boolean), Jvm.Cond.code ({ cls := "PodPlacer", name := "pendingRank", desc := "(I)I" } : Jvm.MethodName) prog_1_method_12_code (4 : Nat) (Option.some Jvm.ClassFile.FieldType.int), Jvm.Cond.code ({ cls := "PodPlacer", name := "podState", desc := "(I)I" } : Jvm.MethodName) prog_1_method_10_code (2 : Nat) (Option.some Jvm.ClassFile.FieldType.int), Jvm.Cond.code ({ cls := "PodPlacer", name := "score", desc := "(II)I" } : Jvm.MethodName) prog_1_method_14_code (3 : Nat) (Option.some Jvm.ClassFile.FieldType.int), Jvm.Cond.code ({ cls := "PodPlacer", name := "fits", desc := "(II)Z" } : Jvm.MethodName) prog_1_method_25_code (6 : Nat) (Option.some Jvm.ClassFile.FieldType.boolean), Jvm.Cond.code ({ cls := "PodPlacerL7", name := "snap", desc := "(LPodPlacer;)J" } : Jvm.MethodName) method_3_code (8 : Nat) (Option.some Jvm.ClassFile.FieldType.long), Jvm.Cond.code ({ cls := "PodPlacer", name := "nodeUsed", desc := "(II)I" } : Jvm.MethodName) prog_1_method_13_code (3 : Nat) (Option.some Jvm.ClassFile.FieldType.int), Jvm.Cond.code ({ cls := "PodPlacer", name := "lastOutcome", desc := "()I" } : Jvm.MethodName) prog_1_method_15_code (1 : Nat) (Option.some Jvm.ClassFile.FieldType.int), Jvm.Cond.code ({ cls := "PodPlacer", name := "scheduleNext", desc := "()I" } : Jvm.MethodName) prog_1_method_9_code (3 : Nat) (Option.some Jvm.ClassFile.FieldType.int), Jvm.Cond.code ({ cls := "PodPlacer", name := "attempt", desc := "(I)I" } : Jvm.MethodName) prog_1_method_28_code (4 : Nat) (Option.some Jvm.ClassFile.FieldType.int), Jvm.Cond.code ({ cls := "PodPlacer", name := "bestFitNode", desc := "(I)I" } : Jvm.MethodName) prog_1_method_27_code (6 : Nat) (Option.some Jvm.ClassFile.FieldType.int), Jvm.Cond.code ({ cls := "PodPlacer", name := "findPreemption", desc := "(I)Z" } : Jvm.MethodName) prog_1_method_30_code (3 : Nat) (Option.some Jvm.ClassFile.FieldType.boolean), Jvm.Cond.code ({ cls := "PodPlacer", name := "computeGroupBound", desc := "()V" } : Jvm.MethodName) prog_1_method_29_code (2 : Nat) (Option.none : Option Jvm.ClassFile.FieldType), Jvm.Cond.code ({ cls := "PodPlacer", name := "evaluateNode", desc := "(II)V" } : Jvm.MethodName) prog_1_method_31_code (5 : Nat) (Option.none : Option Jvm.ClassFile.FieldType), Jvm.Cond.code ({ cls := "PodPlacer", name := "record", desc := "(II)V" } : Jvm.MethodName) prog_1_method_21_code (3 : Nat) (Option.none : Option Jvm.ClassFile.FieldType), Jvm.Cond.code ({ cls := "PodPlacer", name := "labelsMatch", desc := "(II)Z" } : Jvm.MethodName) prog_1_method_24_code (3 : Nat) (Option.some Jvm.ClassFile.FieldType.boolean), Jvm.Cond.code ({ cls := "PodPlacer", name := "usedOf", desc := "(II)I" } : Jvm.MethodName) prog_1_method_22_code (5 : Nat) (Option.some Jvm.ClassFile.FieldType.int), Jvm.Cond.code ({ cls := "PodPlacer", name := "setBudget", desc := "(II)Z" } : Jvm.MethodName) prog_1_method_7_code (3 : Nat) (Option.some Jvm.ClassFile.FieldType.boolean), Jvm.Cond.code ({ cls := "PodPlacer", name := "schedule", desc := "(I)I" } : Jvm.MethodName) prog_1_method_8_code (2 : Nat) (Option.some Jvm.ClassFile.FieldType.int), Jvm.Cond.code ({ cls := "PodPlacer", name := "groupOnNode", desc := "(II)I" } : Jvm.MethodName) prog_1_method_23_code (5 : Nat) (Option.some Jvm.ClassFile.FieldType.int), Jvm.Cond.code ({ cls := "PodPlacer", name := "scoreOf", desc := "(II)I" } : Jvm.MethodName) prog_1_method_26_code (9 : Nat) (Option.some Jvm.ClassFile.FieldType.int), Jvm.Cond.code ({ cls := "PodPlacer", name := "bind", desc := "(II)V" } : Jvm.MethodName) prog_1_method_20_code (3 : Nat) (Option.none : Option Jvm.ClassFile.FieldType), Jvm.Cond.code ({ cls := "PodPlacer", name := "podNode", desc := "(I)I" } : Jvm.MethodName) prog_1_method_11_code (2 : Nat) (Option.some Jvm.ClassFile.FieldType.int), Jvm.Cond.code ({ cls := "PodPlacer", name := "evaluateSubset", desc := "(III)V" } : Jvm.MethodName) prog_1_method_32_code (12 : Nat) (Option.none : Option Jvm.ClassFile.FieldType), Jvm.Cond.code ({ cls := "PodPlacer", name := "better", desc := "(IIIII)Z" } : Jvm.MethodName) prog_1_method_33_code (6 : Nat) (Option.some Jvm.ClassFile.FieldType.boolean)]
set_option maxRecDepth 65536 in
theorem codes_eq : words1.filter isCode = codes1 := rfl
theorem w_codes : ∀ c ∈ words1.filter isCode, c.before args0 about1 = true := by
  rw [codes_eq]
  intro c hc
  simp only [codes1, List.mem_cons, List.not_mem_nil, or_false] at hc
  rcases hc with rfl | rfl | rfl | rfl | rfl | rfl | rfl | rfl | rfl | rfl | rfl | rfl | rfl | rfl | rfl | rfl | rfl | rfl | rfl | rfl | rfl | rfl | rfl | rfl | rfl | rfl | rfl | rfl | rfl | rfl | rfl | rfl | rfl | rfl | rfl
  · exact w_c0
  · exact w_c1
  · exact w_c2
  · exact w_c3
  · exact w_c4
  · exact w_c5
  · exact w_c6
  · exact w_c7
  · exact w_c8
  · exact w_c9
  · exact w_c10
  · exact w_c11
  · exact w_c12
  · exact w_c13
  · exact w_c14
  · exact w_c15
  · exact w_c16
  · exact w_c17
  · exact w_c18
  · exact w_c19
  · exact w_c20
  · exact w_c21
  · exact w_c22
  · exact w_c23
  · exact w_c24
  · exact w_c25
  · exact w_c26
  · exact w_c27
  · exact w_c28
  · exact w_c29
  · exact w_c30
  · exact w_c31
  · exact w_c32
  · exact w_c33
  · exact w_c34
set_option maxRecDepth 65536 in
theorem w_t1 : (words1.take 24).all (fun c => isCode c || c.before args0 about1) = true := by decide +kernel
set_option maxRecDepth 65536 in
theorem w_t2 : ((words1.drop 24).take 24).all (fun c => isCode c || c.before args0 about1) = true := by decide +kernel
set_option maxRecDepth 65536 in
theorem w_t3 : (((words1.drop 24).drop 24).take 24).all (fun c => isCode c || c.before args0 about1) = true := by decide +kernel
set_option maxRecDepth 65536 in
theorem w_t4 : ((((words1.drop 24).drop 24).drop 24).take 24).all (fun c => isCode c || c.before args0 about1) = true := by decide +kernel
set_option maxRecDepth 65536 in
theorem w_t5 : (((((words1.drop 24).drop 24).drop 24).drop 24).take 24).all (fun c => isCode c || c.before args0 about1) = true := by decide +kernel
set_option maxRecDepth 65536 in
theorem w_t6 : ((((((words1.drop 24).drop 24).drop 24).drop 24).drop 24).take 24).all (fun c => isCode c || c.before args0 about1) = true := by decide +kernel
set_option maxRecDepth 65536 in
theorem w_t7 : (((((((words1.drop 24).drop 24).drop 24).drop 24).drop 24).drop 24).take 24).all (fun c => isCode c || c.before args0 about1) = true := by decide +kernel
set_option maxRecDepth 65536 in
theorem w_t8 : ((((((((words1.drop 24).drop 24).drop 24).drop 24).drop 24).drop 24).drop 24).take 24).all (fun c => isCode c || c.before args0 about1) = true := by decide +kernel
set_option maxRecDepth 65536 in
theorem w_t9 : (((((((((words1.drop 24).drop 24).drop 24).drop 24).drop 24).drop 24).drop 24).drop 24).take 24).all (fun c => isCode c || c.before args0 about1) = true := by decide +kernel
set_option maxRecDepth 65536 in
theorem w_t10 : (((((((((words1.drop 24).drop 24).drop 24).drop 24).drop 24).drop 24).drop 24).drop 24).drop 24).all (fun c => isCode c || c.before args0 about1) = true := by decide +kernel
theorem w_tables : (allAtoms (Jvm.Cond.code x code maxLocals ret :: tables_1)).before args0 about1 = true := by
  rw [allAtoms_all]
  show words1.all (fun c => c.before args0 about1) = true
  refine all_split ?_ w_codes
  rw [← List.take_append_drop 24 words1, List.all_append, w_t1, ← List.take_append_drop 24 (words1.drop 24), List.all_append, w_t2, ← List.take_append_drop 24 ((words1.drop 24).drop 24), List.all_append, w_t3, ← List.take_append_drop 24 (((words1.drop 24).drop 24).drop 24), List.all_append, w_t4, ← List.take_append_drop 24 ((((words1.drop 24).drop 24).drop 24).drop 24), List.all_append, w_t5, ← List.take_append_drop 24 (((((words1.drop 24).drop 24).drop 24).drop 24).drop 24), List.all_append, w_t6, ← List.take_append_drop 24 ((((((words1.drop 24).drop 24).drop 24).drop 24).drop 24).drop 24), List.all_append, w_t7, ← List.take_append_drop 24 (((((((words1.drop 24).drop 24).drop 24).drop 24).drop 24).drop 24).drop 24), List.all_append, w_t8, ← List.take_append_drop 24 ((((((((words1.drop 24).drop 24).drop 24).drop 24).drop 24).drop 24).drop 24).drop 24), List.all_append, w_t9, w_t10]
  rfl
set_option maxRecDepth 65536 in
theorem w_rest : rest_1_c.before args0 about1 = true := by decide +kernel
set_option maxRecDepth 65536 in
theorem w_case : (Jvm.Cond.and given_1 narrow_1).before args0 about1 = true := by decide +kernel
theorem w_applies : (headSpec (Jvm.Cond.code x code maxLocals ret :: tables_1) room_1).applies x e0.platform about1 = true :=
  (Spec.applies_iff w_frames).mpr ⟨w_running, w_runnable, w_alone, w_named, w_hears, w_ripe, w_room, w_tables⟩
theorem atStart : AtStart classFile x code maxLocals ret World_1 tables_1 room_1 Calls_1 rest_1 Pre_1 launch0 p0 e0 about1 theMethod args0 below0 :=
  ⟨lists_1, trivial, launch0.admits_env _ _ _, launch0.least_env, fairChoices_fair.cas, fairChoices_fair.clock, w_frames, w_args, w_heap, w_applies, trivial, w_rest, w_case⟩
end start1
theorem witness_1 : WitnessClaimed_1 := ⟨start1.p0, start1.e0, start1.about1, start1.theMethod, start1.args0, start1.below0, start1.atStart⟩
end Jvm.Pilot.@@N@@
