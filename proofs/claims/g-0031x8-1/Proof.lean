import JvmDerived
import JvmDerived.Pilot.@@N@@Statement
import JvmDerived.Pilot.@@N@@Code
set_option linter.unusedVariables false
set_option linter.unusedSimpArgs false
set_option maxRecDepth 65536
set_option maxHeartbeats 16000000
@@BLOCK:NumsL.lean.txt@@
@@BLOCK:Masks.lean.txt@@
namespace Jvm.OwnMini
open Jvm Jvm.ClassFile Sem Op Lib Jvm.Free Jvm.Stand Jvm.LawKit Jvm.RoadKit
/-! A small machine over plain integers. A value: an int,a long or a reference (a cell's number). -/
abbrev OV:=Sum Int (Sum Int Nat)
abbrev vi (z:Int):OV:=.inl z
abbrev vl (z:Int):OV:=.inr (.inl z)
abbrev vr (k:Nat):OV:=.inr (.inr k)
/-- an object's memory: cell (0: its scalar fields; j: its j-th array),index -/
abbrev OMem:=Nat→Int→Int
abbrev OLs:=List (Option OV)
def w32 (z:Int):Int:=(z+2147483648) % 4294967296 - 2147483648
def w64 (z:Int):Int:=(z+9223372036854775808) % 18446744073709551616 - 9223372036854775808
def and32 (a b:Int):Int:=(Int32.ofInt a &&& Int32.ofInt b).toInt
def or32 (a b:Int):Int:=(Int32.ofInt a ||| Int32.ofInt b).toInt
def xor32 (a b:Int):Int:=(Int32.ofInt a ^^^ Int32.ofInt b).toInt
def shl32 (a b:Int):Int:=(Int32.ofInt a <<< (Int32.ofInt b &&& 31)).toInt
def shr32 (a b:Int):Int:=(Int32.ofInt a >>> (Int32.ofInt b &&& 31)).toInt
def ushr32 (a b:Int):Int:=(XT.ushr (Int32.ofInt a) (Int32.ofInt b)).toInt
def and64 (a b:Int):Int:=(Int64.ofInt a &&& Int64.ofInt b).toInt
def or64 (a b:Int):Int:=(Int64.ofInt a ||| Int64.ofInt b).toInt
def xor64 (a b:Int):Int:=(Int64.ofInt a ^^^ Int64.ofInt b).toInt
def shl64 (a b:Int):Int:=(Int64.ofInt a <<< ((Int32.ofInt b).toInt64 &&& 63)).toInt
def shr64 (a b:Int):Int:=(Int64.ofInt a >>> ((Int32.ofInt b).toInt64 &&& 63)).toInt
def ushr64 (a b:Int):Int:=(XT.ushrL (Int64.ofInt a) (Int32.ofInt b)).toInt
def div32 (a b:Int):Int:=w32 (Int.tdiv a b)
def rem32 (a b:Int):Int:=Int.tmod a b
def div64 (a b:Int):Int:=w64 (Int.tdiv a b)
def rem64 (a b:Int):Int:=Int.tmod a b
def b8 (a:Int):Int:=(a+128) % 256 - 128
def lcm (a b:Int):Int:=if b<a then 1 else if a=b then 0 else -1
def sto (m:OMem) (k:Nat) (i z:Int):OMem:=fun k' i'=>if k'=k∧i'=i then z else m k' i'
def lget:OLs→Nat→Option OV
  | [],_=>none
  | x :: _,0=>x
  | _ :: xs,n+1=>lget xs n
def lput:OLs→Nat→Option OV→OLs
  | [],_,_=>[]
  | _ :: xs,0,v=>v :: xs
  | x :: xs,n+1,v=>x :: lput xs n v
def killPrev (L:OLs):Nat→OLs
  | 0=>L
  | j+1=>match lget L j with
    | some (.inr (.inl _))=>lput L j none
    | _=>L
def lst1 (L:OLs) (k:Nat) (v:OV):OLs:=lput (killPrev L k) k (some v)
def lst2 (L:OLs) (k:Nat) (v:OV):OLs:=lput (lput (killPrev L k) k (some v)) (k+1) none
def mask:Option (List Bool)→OLs→OLs
  | some (true :: bs),x :: xs=>x :: mask (some bs) xs
  | some (false :: bs),_ :: xs=>none :: mask (some bs) xs
  | _,xs=>xs
section Pop
variable {β:Type}
def pi1 (S:List OV) (f:Int→List OV→Option β):Option β:=match S with | .inl a :: S'=>f a S' | _=>none
def pi2 (S:List OV) (f:Int→Int→List OV→Option β):Option β:=match S with | .inl b :: .inl a :: S'=>f a b S' | _=>none
def pl1 (S:List OV) (f:Int→List OV→Option β):Option β:=match S with | .inr (.inl a) :: S'=>f a S' | _=>none
def pl2 (S:List OV) (f:Int→Int→List OV→Option β):Option β:=match S with | .inr (.inl b) :: .inr (.inl a) :: S'=>f a b S' | _=>none
def pli (S:List OV) (f:Int→Int→List OV→Option β):Option β:=match S with | .inl b :: .inr (.inl a) :: S'=>f a b S' | _=>none
def pr1 (S:List OV) (f:Nat→List OV→Option β):Option β:=match S with | .inr (.inr a) :: S'=>f a S' | _=>none
def gi (L:OLs) (k:Nat) (f:Int→Option β):Option β:=match lget L k with | some (.inl a)=>f a | _=>none
def gl (L:OLs) (k:Nat) (f:Int→Option β):Option β:=match lget L k with | some (.inr (.inl a))=>f a | _=>none
def gr (L:OLs) (k:Nat) (f:Nat→Option β):Option β:=match lget L k with | some (.inr (.inr a))=>f a | _=>none
def inL (L:OLs) (k:Nat) (x:Option β):Option β:=if k<L.length then x else none
def br (c:ClassFile.Cond) (a b:Int) (x y:Option β):Option β:=match c with
  | .eq=>if a=b then x else y
  | .ne=>if a=b then y else x
  | .lt=>if a<b then x else y
  | .ge=>if a<b then y else x
  | .gt=>if b<a then x else y
  | .le=>if b<a then y else x
def tsw (a:Int):Int→List Int→(Int→Option β)→Option β→Option β
  | _,[],_,d=>d
  | lo,o :: os,f,d=>if a=lo then f o else tsw a (lo+1) os f d
end Pop
def tgt (pc:Nat) (o:Int):Nat:=((pc:Int)+o).toNat
def mcat:OV→Nat
  | .inr (.inl _)=>2
  | _=>1
/-- the steps that touch no heap -/
def pstep {β:Type} (cst:Nat→Option OV) (i:Instr) (pc len:Nat) (L:OLs) (S:List OV) (k:Nat→OLs→List OV→Option β):Option β :=
  match i with
  | .iconst z=>k (pc+len) L (vi z :: S)
  | .bipush z=>k (pc+len) L (vi z :: S)
  | .sipush z=>k (pc+len) L (vi z :: S)
  | .lconst z=>k (pc+len) L (vl (Int.ofNat z.val) :: S)
  | .ldc x=>match cst x with | some (.inl z)=>k (pc+len) L (vi z :: S) | _=>none
  | .ldc_w x=>match cst x with | some (.inl z)=>k (pc+len) L (vi z :: S) | _=>none
  | .ldc2_w x=>match cst x with | some (.inr (.inl z))=>k (pc+len) L (vl z :: S) | _=>none
  | .iload x=>gi L x fun z=>k (pc+len) L (vi z :: S)
  | .iload_n x=>gi L x.val fun z=>k (pc+len) L (vi z :: S)
  | .lload x=>gl L x fun z=>k (pc+len) L (vl z :: S)
  | .lload_n x=>gl L x.val fun z=>k (pc+len) L (vl z :: S)
  | .aload x=>gr L x fun z=>k (pc+len) L (vr z :: S)
  | .aload_n x=>gr L x.val fun z=>k (pc+len) L (vr z :: S)
  | .istore x=>pi1 S fun z S=>inL L x (k (pc+len) (lst1 L x (vi z)) S)
  | .istore_n x=>pi1 S fun z S=>inL L x.val (k (pc+len) (lst1 L x.val (vi z)) S)
  | .lstore x=>pl1 S fun z S=>inL L (x+1) (k (pc+len) (lst2 L x (vl z)) S)
  | .lstore_n x=>pl1 S fun z S=>inL L (x.val+1) (k (pc+len) (lst2 L x.val (vl z)) S)
  | .astore x=>pr1 S fun z S=>inL L x (k (pc+len) (lst1 L x (vr z)) S)
  | .astore_n x=>pr1 S fun z S=>inL L x.val (k (pc+len) (lst1 L x.val (vr z)) S)
  | .iinc x c=>gi L x fun z=>inL L x (k (pc+len) (lst1 L x (vi (w32 (z+c)))) S)
  | .iadd=>pi2 S fun a b S=>k (pc+len) L (vi (w32 (a+b)) :: S)
  | .isub=>pi2 S fun a b S=>k (pc+len) L (vi (w32 (a - b)) :: S)
  | .imul=>pi2 S fun a b S=>k (pc+len) L (vi (w32 (a*b)) :: S)
  | .idiv=>pi2 S fun a b S=>if b=0 then none else k (pc+len) L (vi (div32 a b) :: S)
  | .irem=>pi2 S fun a b S=>if b=0 then none else k (pc+len) L (vi (rem32 a b) :: S)
  | .ineg=>pi1 S fun a S=>k (pc+len) L (vi (w32 (-a)) :: S)
  | .iand=>pi2 S fun a b S=>k (pc+len) L (vi (and32 a b) :: S)
  | .ior=>pi2 S fun a b S=>k (pc+len) L (vi (or32 a b) :: S)
  | .ixor=>pi2 S fun a b S=>k (pc+len) L (vi (xor32 a b) :: S)
  | .ishl=>pi2 S fun a b S=>k (pc+len) L (vi (shl32 a b) :: S)
  | .ishr=>pi2 S fun a b S=>k (pc+len) L (vi (shr32 a b) :: S)
  | .iushr=>pi2 S fun a b S=>k (pc+len) L (vi (ushr32 a b) :: S)
  | .ladd=>pl2 S fun a b S=>k (pc+len) L (vl (w64 (a+b)) :: S)
  | .lsub=>pl2 S fun a b S=>k (pc+len) L (vl (w64 (a - b)) :: S)
  | .lmul=>pl2 S fun a b S=>k (pc+len) L (vl (w64 (a*b)) :: S)
  | .ldiv=>pl2 S fun a b S=>if b=0 then none else k (pc+len) L (vl (div64 a b) :: S)
  | .lrem=>pl2 S fun a b S=>if b=0 then none else k (pc+len) L (vl (rem64 a b) :: S)
  | .lneg=>pl1 S fun a S=>k (pc+len) L (vl (w64 (-a)) :: S)
  | .land=>pl2 S fun a b S=>k (pc+len) L (vl (and64 a b) :: S)
  | .lor=>pl2 S fun a b S=>k (pc+len) L (vl (or64 a b) :: S)
  | .lxor=>pl2 S fun a b S=>k (pc+len) L (vl (xor64 a b) :: S)
  | .lshl=>pli S fun a b S=>k (pc+len) L (vl (shl64 a b) :: S)
  | .lshr=>pli S fun a b S=>k (pc+len) L (vl (shr64 a b) :: S)
  | .lushr=>pli S fun a b S=>k (pc+len) L (vl (ushr64 a b) :: S)
  | .lcmp=>pl2 S fun a b S=>k (pc+len) L (vi (lcm a b) :: S)
  | .i2l=>pi1 S fun a S=>k (pc+len) L (vl a :: S)
  | .l2i=>pl1 S fun a S=>k (pc+len) L (vi (w32 a) :: S)
  | .i2b=>pi1 S fun a S=>k (pc+len) L (vi (b8 a) :: S)
  | .goto o=>k (tgt pc o) L S
  | .if_icmp c o=>pi2 S fun a b S=>br c a b (k (tgt pc o) L S) (k (pc+len) L S)
  | .ifCond c o=>pi1 S fun a S=>br c a 0 (k (tgt pc o) L S) (k (pc+len) L S)
  | .tableswitch d lo _ os=>pi1 S fun a S=>tsw a lo os.toList (fun o=>k (tgt pc o) L S) (k (tgt pc d) L S)
  | .dup=>match S with
    | .inr (.inl _) :: _=>none
    | v :: S'=>k (pc+len) L (v :: v :: S')
    | _=>none
  | .dup2=>match S with
    | .inr (.inl z) :: S'=>k (pc+len) L (vl z :: vl z :: S')
    | _ :: .inr (.inl _) :: _=>none
    | u :: v :: S'=>k (pc+len) L (u :: v :: u :: v :: S')
    | _=>none
  | .pop=>match S with
    | .inr (.inl _) :: _=>none
    | _ :: S'=>k (pc+len) L S'
    | _=>none
  | _=>none
def ilen:Instr→Nat
  | .bipush _ | .iload _ | .lload _ | .aload _ | .istore _ | .lstore _ | .astore _ | .ldc _ | .newarray _=>2
  | .sipush _ | .iinc _ _ | .goto _ | .if_icmp _ _ | .ifCond _ _ | .ldc_w _ | .ldc2_w _ | .getfield _ | .putfield _ | .invokevirtual _ | .invokespecial _ | .invokestatic _ | .new _=>3
  | _=>1
/-- what of an instruction's figures the laws ask -/
def chk (pc:Nat) (i:Instr) (len:Nat):Bool :=
  match i with
  | .iconst z=>len == 1 && decide (-32768≤z) && decide (z≤32767)
  | .bipush z=>len == 2 && decide (-128≤z) && decide (z≤127)
  | .sipush z=>len == 3 && decide (-32768≤z) && decide (z≤32767)
  | .iinc _ z=>len == 3 && decide (-32768≤z) && decide (z≤32767)
  | .goto o=>len == 3 && decide (0≤(pc:Int)+o)
  | .if_icmp _ o=>len == 3 && decide (0≤(pc:Int)+o)
  | .ifCond _ o=>len == 3 && decide (0≤(pc:Int)+o)
  | .tableswitch d lo hi os=>decide (0≤(pc:Int)+d) && os.toList.all (fun o=>decide (0≤(pc:Int)+o)) && decide (hi=lo+os.toList.length - 1) && decide (-2147483648≤lo) && decide (hi≤2147483647)
  | i=>len == ilen i
end Jvm.OwnMini
namespace Jvm.OwnMini
open Jvm Jvm.ClassFile Sem Op Lib Jvm.Free Jvm.Stand Jvm.LawKit Jvm.RoadKit
/-! The project's own methods: one object,its scalar fields (cell 0) and its arrays (cells 1,2,..). t: how far its maker has come (2 j: the first j arrays are made and laid). -/
abbrev CodeT:=Nat→Nat→Option (Instr×Nat)
/-- by the pool's index: the field's number,its kind (0: array,1 int,2 boolean,3 byte,4 long),its cell,is it final -/
abbrev FldT:=Nat→Option (Int×Nat×Nat×Bool)
/-- by the cell: kind,length -/
abbrev LayT:=Nat→Option (Nat×Int)
/-- by the method: its parameters from the last to the first (is it a long),locals,kind of the result (0 none,1 int,2 boolean,4 long),frames and words that it asks -/
abbrev InfT:=Nat→Option (List Bool×Nat×Nat×Nat×Nat)
abbrev LivT:=Nat→Nat→Option (List Bool)
abbrev PT:=CodeT×FldT×LayT×(Nat→Option OV)×(Nat→Option Nat)×InfT×(Nat→Bool)×LivT
abbrev pcode (P:PT):CodeT:=P.1
abbrev pfld (P:PT):FldT:=P.2.1
abbrev play (P:PT):LayT:=P.2.2.1
abbrev pcst (P:PT):Nat→Option OV:=P.2.2.2.1
abbrev pmth (P:PT):Nat→Option Nat:=P.2.2.2.2.1
abbrev pinf (P:PT):InfT:=P.2.2.2.2.2.1
abbrev pobi (P:PT):Nat→Bool:=P.2.2.2.2.2.2.1
abbrev pliv (P:PT):LivT:=P.2.2.2.2.2.2.2
abbrev RT:=Option (Option OV×Nat×OMem)
def akind:ArrayType→Nat
  | .int=>1
  | .boolean=>2
  | .byte=>3
  | .long=>4
  | _=>0
def popA:List Bool→List OV→List OV→Option (List OV×List OV)
  | [],S,acc=>some (acc,S)
  | false :: ts,.inl z :: S,acc=>popA ts S (vi z :: acc)
  | true :: ts,.inr (.inl z) :: S,acc=>popA ts S (vl z :: acc)
  | _,_,_=>none
def laid:List OV→OLs
  | []=>[]
  | .inr (.inl z) :: as=>some (vl z) :: none :: laid as
  | .inl z :: as=>some (vi z) :: laid as
  | .inr (.inr z) :: as=>some (vr z) :: laid as
def initL (as:List OV) (n:Nat):OLs:=laid as ++ List.replicate (n - (laid as).length) none
def cats:List OV→Nat
  | []=>0
  | v :: S=>mcat v+cats S
def pushR:Option OV→List OV→List OV
  | none,S=>S
  | some v,S=>v :: S
def ald (P:PT) (kd:Nat→Bool) (S:List OV) (t:Nat) (f:Nat→Int→List OV→RT):RT :=
  match S with
  | .inl i :: .inr (.inr j) :: S' =>
    match play P j with
    | some (k,n)=>cond (kd k && Nat.ble j (t / 2)) (if 0≤i∧i<n then f j i S' else none) none
    | none=>none
  | _=>none
def asi (P:PT) (kd:Nat→Bool) (S:List OV) (t:Nat) (f:Nat→Nat→Int→Int→List OV→RT):RT :=
  match S with
  | .inl z :: .inl i :: .inr (.inr j) :: S' =>
    match play P j with
    | some (k,n)=>cond (kd k && Nat.ble j (t / 2)) (if 0≤i∧i<n then f k j i z S' else none) none
    | none=>none
  | _=>none
def asl (P:PT) (kd:Nat→Bool) (S:List OV) (t:Nat) (f:Nat→Int→Int→List OV→RT):RT :=
  match S with
  | .inr (.inl z) :: .inl i :: .inr (.inr j) :: S' =>
    match play P j with
    | some (k,n)=>cond (kd k && Nat.ble j (t / 2)) (if 0≤i∧i<n then f j i z S' else none) none
    | none=>none
  | _=>none
/-- the instructions that touch the object,call or return -/
def isSpec:Instr→Bool
  | .getfield _ | .putfield _ | .iaload | .baload | .laload | .iastore | .bastore | .lastore | .arraylength | .newarray _ | .invokespecial _ | .invokevirtual _ | .ireturn | .lreturn | .return_=>true
  | _=>false
def stepS (P:PT) (k:Nat→Nat→OLs→List OV→Nat→OMem→RT) (q pc:Nat) (L:OLs) (S:List OV) (t:Nat) (m:OMem) (i:Instr) (len:Nat):RT :=
  match i with
  | .getfield x =>
    match S with
    | .inr (.inr 0) :: S' =>
      match pfld P x with
      | some (_,0,j,_)=>cond (Nat.ble j (t / 2)) (k q (pc+len) L (vr j :: S') t m) none
      | some (f,1,_,_)=>k q (pc+len) L (vi (m 0 f) :: S') t m
      | some (f,2,_,_)=>k q (pc+len) L (vi (m 0 f) :: S') t m
      | some (f,4,_,_)=>k q (pc+len) L (vl (m 0 f) :: S') t m
      | _=>none
    | _=>none
  | .putfield x =>
    match pfld P x with
    | some (_,0,j,fin) =>
      match S with
      | .inr (.inr j') :: .inr (.inr 0) :: S'=>cond (Nat.beq j' j && Nat.beq (t+1) (2*j) && Nat.beq q 0) (k q (pc+len) L S' (t+1) m) none
      | _=>none
    | some (f,1,_,fin) =>
      match S with
      | .inl z :: .inr (.inr 0) :: S'=>cond (!fin || Nat.beq q 0) (k q (pc+len) L S' t (sto m 0 f z)) none
      | _=>none
    | some (f,2,_,fin) =>
      match S with
      | .inl z :: .inr (.inr 0) :: S'=>cond (!fin || Nat.beq q 0) (k q (pc+len) L S' t (sto m 0 f (z % 2))) none
      | _=>none
    | some (f,4,_,fin) =>
      match S with
      | .inr (.inl z) :: .inr (.inr 0) :: S'=>cond (!fin || Nat.beq q 0) (k q (pc+len) L S' t (sto m 0 f z)) none
      | _=>none
    | _=>none
  | .iaload=>ald P (fun kd=>Nat.beq kd 1) S t fun j i S'=>k q (pc+len) L (vi (m j i) :: S') t m
  | .baload=>ald P (fun kd=>Nat.beq kd 2 || Nat.beq kd 3) S t fun j i S'=>k q (pc+len) L (vi (m j i) :: S') t m
  | .laload=>ald P (fun kd=>Nat.beq kd 4) S t fun j i S'=>k q (pc+len) L (vl (m j i) :: S') t m
  | .iastore=>asi P (fun kd=>Nat.beq kd 1) S t fun _ j i z S'=>k q (pc+len) L S' t (sto m j i z)
  | .bastore=>asi P (fun kd=>Nat.beq kd 2 || Nat.beq kd 3) S t fun kd j i z S'=>k q (pc+len) L S' t (sto m j i (cond (Nat.beq kd 2) (z % 2) (b8 z)))
  | .lastore=>asl P (fun kd=>Nat.beq kd 4) S t fun j i z S'=>k q (pc+len) L S' t (sto m j i z)
  | .arraylength =>
    match S with
    | .inr (.inr j) :: S' =>
      match play P j with
      | some (_,n)=>cond (Nat.ble j (t / 2)) (k q (pc+len) L (vi n :: S') t m) none
      | none=>none
    | _=>none
  | .newarray a =>
    match S with
    | .inl z :: S' =>
      match play P (t / 2+1) with
      | some (kd,n)=>cond (Nat.beq (t % 2) 0 && Nat.beq kd (akind a) && Nat.beq q 0) (if z=n then k q (pc+len) L (vr (t / 2+1) :: S') (t+1) m else none) none
      | none=>none
    | _=>none
  | .invokespecial x =>
    match S with
    | .inr (.inr 0) :: S' =>
      match pinf P q with
      | some (_,_,_,fr,lc)=>cond (pobi P x && Nat.ble 1 fr && Nat.ble (cats S'+12) lc) (k q (pc+len) L S' t m) none
      | none=>none
    | _=>none
  | .invokevirtual x =>
    match pmth P x with
    | some q' =>
      match pinf P q',pinf P q with
      | some (ps,ml,_,fr',lc'),some (_,_,_,fr,lc) =>
        match popA ps S [] with
        | some (as,.inr (.inr 0) :: S') =>
          cond (Nat.ble (fr'+1) fr && Nat.ble (cats S'+(ml+11)+lc') lc && !(Nat.beq q' 0) && Nat.ble (initL (vr 0 :: as) ml).length ml)
            ((k q' 0 (initL (vr 0 :: as) ml) [] t m).bind fun y=>k q (pc+len) L (pushR y.1 S') y.2.1 y.2.2) none
        | _=>none
      | _,_=>none
    | none=>none
  | .ireturn =>
    match S with
    | .inl z :: _ =>
      match pinf P q with
      | some (_,_,1,_)=>some (some (vi z),t,m)
      | some (_,_,2,_)=>some (some (vi (z % 2)),t,m)
      | _=>none
    | _=>none
  | .lreturn =>
    match S with
    | .inr (.inl z) :: _ =>
      match pinf P q with
      | some (_,_,4,_)=>some (some (vl z),t,m)
      | _=>none
    | _=>none
  | .return_ =>
    match S with
    | [] =>
      match pinf P q with
      | some (_,_,0,_)=>some (none,t,m)
      | _=>none
    | _=>none
  | _=>none
def stepI (P:PT) (k:Nat→Nat→OLs→List OV→Nat→OMem→RT) (q pc:Nat) (L:OLs) (S:List OV) (t:Nat) (m:OMem) (i:Instr) (len:Nat):RT :=
  cond (isSpec i) (stepS P k q pc L S t m i len) (pstep (pcst P) i pc len L S fun pc' L' S'=>k q pc' L' S' t m)
def stepP (P:PT) (k:Nat→Nat→OLs→List OV→Nat→OMem→RT) (q pc:Nat) (L:OLs) (S:List OV) (t:Nat) (m:OMem):RT :=
  match pcode P q pc with
  | some (i,len)=>stepI P k q pc (mask (pliv P q pc) L) S t m i len
  | none=>none
def runP (P:PT):Nat→Nat→Nat→OLs→List OV→Nat→OMem→RT
  | 0=>fun _ _ _ _ _ _=>none
  | n+1=>stepP P (runP P n)
end Jvm.OwnMini
namespace Jvm.OwnMini
/-- a local variable,written short -/
abbrev qi (z:Int):Option OV:=some (vi z)
abbrev qj (z:Int):Option OV:=some (vl z)
abbrev qr (k:Nat):Option OV:=some (vr k)
abbrev qn:Option OV:=none
end Jvm.OwnMini
namespace Jvm.OwnMini
open Jvm Jvm.ClassFile Sem Op Lib Jvm.Free Jvm.Stand Jvm.LawKit Jvm.RoadKit
/-! How the small machine's values stand for the JVM's. -/
def VR (A:Nat→Addr) (b:Nat):OV→Value→Prop
  | .inl z,v=>∃ x:Int32,v=.int x∧x.toInt=z
  | .inr (.inl z),v=>∃ x:Int64,v=.long x∧x.toInt=z
  | .inr (.inr k),v=>k≤b∧v=.ref (A k)
def SR (A:Nat→Addr) (b:Nat):List OV→List Value→Prop
  | [],[]=>True
  | v :: S,x :: X=>VR A b v x∧SR A b S X
  | _,_=>False
/-- the local variables are well laid: behind a long (or double) its second half,and nowhere else -/
def WF (l:Array Slot):Prop:=(∀ k,l[k]?=some .second→∃ j v,k=j+1∧l[j]?=some (.val v)∧v.category=2)∧(∀ k v,l[k]?=some (.val v)→v.category=2→l[k+1]?=some .second)
def LR (A:Nat→Addr) (b:Nat) (L:OLs) (Ls:Array Slot):Prop:=L.length=Ls.size∧(∀ k v,lget L k=some v→∃ x,Ls[k]?=some (.val x)∧VR A b v x)∧WF Ls
section Rel
variable {A A':Nat→Addr} {b b':Nat}
theorem VR.mono {v:OV} {x:Value} (h:VR A b v x) (hA:∀ j,j≤b→A' j=A j) (hb:b≤b'):VR A' b' v x:=by
  rcases v with z | z | k
  · exact h
  · exact h
  · obtain ⟨h1,h2⟩:=h
    exact ⟨Nat.le_trans h1 hb,by rw [h2,hA k h1]⟩
theorem SR.mono (hA:∀ j,j≤b→A' j=A j) (hb:b≤b'):∀ {S:List OV} {X:List Value},SR A b S X→SR A' b' S X
  | [],[],_=>trivial
  | _ :: _,_ :: _,⟨h1,h2⟩=>⟨h1.mono hA hb,SR.mono hA hb h2⟩
theorem LR.mono {L:OLs} {Ls:Array Slot} (h:LR A b L Ls) (hA:∀ j,j≤b→A' j=A j) (hb:b≤b'):LR A' b' L Ls :=
  ⟨h.1,fun k v hk=>by obtain ⟨x,h1,h2⟩:=h.2.1 k v hk; exact ⟨x,h1,h2.mono hA hb⟩,h.2.2⟩
theorem VR.cat {v:OV} {x:Value} (h:VR A b v x) (hv:mcat v=1):x.category=1:=by
  rcases v with z | z | k
  · obtain ⟨y,rfl,-⟩:=h; rfl
  · cases hv
  · obtain ⟨-,rfl⟩:=h; rfl
theorem VR.cats {v:OV} {x:Value} (h:VR A b v x):x.category=mcat v:=by
  rcases v with z | z | k
  · obtain ⟨y,rfl,-⟩:=h; rfl
  · obtain ⟨y,rfl,-⟩:=h; rfl
  · obtain ⟨-,rfl⟩:=h; rfl
theorem SR.catsum:∀ {S:List OV} {X:List Value},SR A b S X→(X.map fun v=>v.category).sum=cats S
  | [],[],_=>rfl
  | v :: S,x :: X,⟨h1,h2⟩=>by
    show ((x.category :: X.map fun v=>v.category)).sum=mcat v+cats S
    rw [List.sum_cons,h1.cats,SR.catsum h2]
theorem SR.i1 {z:Int} {S:List OV} {X:List Value} (h:SR A b (.inl z :: S) X):∃ y X',X=.int y :: X'∧y.toInt=z∧SR A b S X':=by
  cases X with
  | nil=>exact h.elim
  | cons x X'=>obtain ⟨⟨y,rfl,e⟩,h2⟩:=h; exact ⟨y,X',rfl,e,h2⟩
theorem SR.l1 {z:Int} {S:List OV} {X:List Value} (h:SR A b (.inr (.inl z) :: S) X):∃ y X',X=.long y :: X'∧y.toInt=z∧SR A b S X':=by
  cases X with
  | nil=>exact h.elim
  | cons x X'=>obtain ⟨⟨y,rfl,e⟩,h2⟩:=h; exact ⟨y,X',rfl,e,h2⟩
theorem SR.r1 {k:Nat} {S:List OV} {X:List Value} (h:SR A b (.inr (.inr k) :: S) X):k≤b∧∃ X',X=.ref (A k) :: X'∧SR A b S X':=by
  cases X with
  | nil=>exact h.elim
  | cons x X'=>obtain ⟨⟨hb,rfl⟩,h2⟩:=h; exact ⟨hb,X',rfl,h2⟩
theorem SR.i2 {z w:Int} {S:List OV} {X:List Value} (h:SR A b (.inl w :: .inl z :: S) X):∃ y x X',X=.int y :: .int x :: X'∧y.toInt=w∧x.toInt=z∧SR A b S X':=by
  obtain ⟨y,X',rfl,e,h⟩:=SR.i1 h
  obtain ⟨x,X',rfl,e',h⟩:=SR.i1 h
  exact ⟨y,x,X',rfl,e,e',h⟩
theorem SR.l2 {z w:Int} {S:List OV} {X:List Value} (h:SR A b (.inr (.inl w) :: .inr (.inl z) :: S) X):∃ y x X',X=.long y :: .long x :: X'∧y.toInt=w∧x.toInt=z∧SR A b S X':=by
  obtain ⟨y,X',rfl,e,h⟩:=SR.l1 h
  obtain ⟨x,X',rfl,e',h⟩:=SR.l1 h
  exact ⟨y,x,X',rfl,e,e',h⟩
theorem SR.li {z w:Int} {S:List OV} {X:List Value} (h:SR A b (.inl w :: .inr (.inl z) :: S) X):∃ y x X',X=.int y :: .long x :: X'∧y.toInt=w∧x.toInt=z∧SR A b S X':=by
  obtain ⟨y,X',rfl,e,h⟩:=SR.i1 h
  obtain ⟨x,X',rfl,e',h⟩:=SR.l1 h
  exact ⟨y,x,X',rfl,e,e',h⟩
theorem SR.ci {z:Int} {y:Int32} {S:List OV} {X:List Value} (hy:y.toInt=z) (h:SR A b S X):SR A b (vi z :: S) (.int y :: X):=⟨⟨y,rfl,hy⟩,h⟩
theorem SR.cj {z:Int} {y:Int64} {S:List OV} {X:List Value} (hy:y.toInt=z) (h:SR A b S X):SR A b (vl z :: S) (.long y :: X):=⟨⟨y,rfl,hy⟩,h⟩
theorem SR.cr {k:Nat} {S:List OV} {X:List Value} (hb:k≤b) (h:SR A b S X):SR A b (vr k :: S) (.ref (A k) :: X):=⟨⟨hb,rfl⟩,h⟩
theorem SR.cv {v:OV} {x:Value} {S:List OV} {X:List Value} (h1:VR A b v x) (h:SR A b S X):SR A b (v :: S) (x :: X):=⟨h1,h⟩
end Rel
section Pops
variable {β:Type} {S:List OV} {L:OLs} {b:β}
theorem pi1_some {f:Int→List OV→Option β} (h:pi1 S f=some b):∃ a S',S=.inl a :: S'∧f a S'=some b:=by
  match S,h with
  | .inl a :: S',h=>exact ⟨a,S',rfl,h⟩
theorem pl1_some {f:Int→List OV→Option β} (h:pl1 S f=some b):∃ a S',S=.inr (.inl a) :: S'∧f a S'=some b:=by
  match S,h with
  | .inr (.inl a) :: S',h=>exact ⟨a,S',rfl,h⟩
theorem pr1_some {f:Nat→List OV→Option β} (h:pr1 S f=some b):∃ a S',S=.inr (.inr a) :: S'∧f a S'=some b:=by
  match S,h with
  | .inr (.inr a) :: S',h=>exact ⟨a,S',rfl,h⟩
theorem pi2_some {f:Int→Int→List OV→Option β} (h:pi2 S f=some b):∃ x y S',S=.inl y :: .inl x :: S'∧f x y S'=some b:=by
  match S,h with
  | .inl y :: .inl x :: S',h=>exact ⟨x,y,S',rfl,h⟩
theorem pl2_some {f:Int→Int→List OV→Option β} (h:pl2 S f=some b):∃ x y S',S=.inr (.inl y) :: .inr (.inl x) :: S'∧f x y S'=some b:=by
  match S,h with
  | .inr (.inl y) :: .inr (.inl x) :: S',h=>exact ⟨x,y,S',rfl,h⟩
theorem pli_some {f:Int→Int→List OV→Option β} (h:pli S f=some b):∃ x y S',S=.inl y :: .inr (.inl x) :: S'∧f x y S'=some b:=by
  match S,h with
  | .inl y :: .inr (.inl x) :: S',h=>exact ⟨x,y,S',rfl,h⟩
theorem gi_some {k:Nat} {f:Int→Option β} (h:gi L k f=some b):∃ z,lget L k=some (.inl z)∧f z=some b:=by
  unfold gi at h
  split at h
  · exact ⟨_,by assumption,h⟩
  · cases h
theorem gl_some {k:Nat} {f:Int→Option β} (h:gl L k f=some b):∃ z,lget L k=some (.inr (.inl z))∧f z=some b:=by
  unfold gl at h
  split at h
  · exact ⟨_,by assumption,h⟩
  · cases h
theorem gr_some {k:Nat} {f:Nat→Option β} (h:gr L k f=some b):∃ z,lget L k=some (.inr (.inr z))∧f z=some b:=by
  unfold gr at h
  split at h
  · exact ⟨_,by assumption,h⟩
  · cases h
theorem inL_some {k:Nat} {x:Option β} (h:inL L k x=some b):k<L.length∧x=some b:=by
  unfold inL at h
  split at h
  · exact ⟨by assumption,h⟩
  · cases h
def brP (c:ClassFile.Cond) (x y:Int):Prop:=match c with
  | .eq=>x=y
  | .ne=>¬ x=y
  | .lt=>x<y
  | .ge=>¬ x<y
  | .gt=>y<x
  | .le=>¬ y<x
theorem br_some {c:ClassFile.Cond} {x y:Int} {u v:Option β} (h:br c x y u v=some b):(brP c x y∧u=some b)∨(¬ brP c x y∧v=some b):=by
  cases c <;> simp only [br] at h <;> split at h <;> rename_i q <;> simp only [brP] <;> first | exact Or.inl ⟨q,h⟩ | exact Or.inr ⟨q,h⟩ | exact Or.inr ⟨fun r=>r q,h⟩
theorem icmp_holds {c:ClassFile.Cond} {x y:Int32} (h:brP c x.toInt y.toInt):if_icmp.holds c x y=true:=by
  cases c <;> simp only [brP] at h
  · exact (teq (Int32.toInt_inj.mp h)).1
  · exact (feq (fun q=>h (by rw [q]))).2
  · exact (tlt (Int32.lt_iff_toInt_lt.mpr h)).1
  · exact (flt (fun q=>h (Int32.lt_iff_toInt_lt.mp q))).2.1
  · exact (tlt (Int32.lt_iff_toInt_lt.mpr h)).2.2.1
  · exact (flt (fun q=>h (Int32.lt_iff_toInt_lt.mp q))).2.2.2
theorem icmp_fails {c:ClassFile.Cond} {x y:Int32} (h:¬ brP c x.toInt y.toInt):if_icmp.holds c x y=false:=by
  cases c <;> simp only [brP] at h
  · exact (feq (fun q=>h (by rw [q]))).1
  · exact (teq (Int32.toInt_inj.mp (Classical.not_not.mp h))).2
  · exact (flt (fun q=>h (Int32.lt_iff_toInt_lt.mp q))).1
  · exact (tlt (Int32.lt_iff_toInt_lt.mpr (Classical.not_not.mp h))).2.1
  · exact (flt (fun q=>h (Int32.lt_iff_toInt_lt.mp q))).2.2.1
  · exact (tlt (Int32.lt_iff_toInt_lt.mpr (Classical.not_not.mp h))).2.2.2
theorem tsw_some (a:Int):∀ (lo:Int) (os:List Int) {f:Int→Option β} {d:Option β},tsw a lo os f d=some b→(∃ o n,a=lo+(n:Nat)∧os[n]?=some o∧f o=some b)∨((a<lo∨lo+os.length - 1<a)∧d=some b)
  | lo,[],f,d,h=>by
    refine Or.inr ⟨?_,h⟩
    simp only [List.length_nil]; omega
  | lo,o :: os,f,d,h=>by
    unfold tsw at h
    split at h
    · rename_i q
      exact Or.inl ⟨o,0,by simpa using q,rfl,h⟩
    · rename_i q
      rcases tsw_some a (lo+1) os h with ⟨o',n,h1,h2,h3⟩ | ⟨h1,h2⟩
      · exact Or.inl ⟨o',n+1,by rw [h1]; simp only [Int.natCast_add]; omega,by simpa using h2,h3⟩
      · refine Or.inr ⟨?_,h2⟩
        simp only [List.length_cons]; omega
theorem dup_some {cst:Nat→Option OV} {pc len:Nat} {k:Nat→OLs→List OV→Option β} (h:pstep cst .dup pc len L S k=some b):∃ v S',S=v :: S'∧mcat v=1∧k (pc+len) L (v :: v :: S')=some b:=by
  match S,h with
  | .inl z :: S',h=>exact ⟨_,S',rfl,rfl,h⟩
  | .inr (.inr z) :: S',h=>exact ⟨_,S',rfl,rfl,h⟩
theorem pop_some {cst:Nat→Option OV} {pc len:Nat} {k:Nat→OLs→List OV→Option β} (h:pstep cst .pop pc len L S k=some b):∃ v S',S=v :: S'∧mcat v=1∧k (pc+len) L S'=some b:=by
  match S,h with
  | .inl z :: S',h=>exact ⟨_,S',rfl,rfl,h⟩
  | .inr (.inr z) :: S',h=>exact ⟨_,S',rfl,rfl,h⟩
theorem dup2_some {cst:Nat→Option OV} {pc len:Nat} {k:Nat→OLs→List OV→Option β} (h:pstep cst .dup2 pc len L S k=some b):(∃ z S',S=.inr (.inl z) :: S'∧k (pc+len) L (vl z :: vl z :: S')=some b)∨∃ u v S',S=u :: v :: S'∧mcat u=1∧mcat v=1∧k (pc+len) L (u :: v :: u :: v :: S')=some b:=by
  match S,h with
  | .inr (.inl z) :: S',h=>exact Or.inl ⟨z,S',rfl,h⟩
  | .inl y :: .inl z :: S',h=>exact Or.inr ⟨_,_,S',rfl,rfl,rfl,h⟩
  | .inl y :: .inr (.inr z) :: S',h=>exact Or.inr ⟨_,_,S',rfl,rfl,rfl,h⟩
  | .inr (.inr y) :: .inl z :: S',h=>exact Or.inr ⟨_,_,S',rfl,rfl,rfl,h⟩
  | .inr (.inr y) :: .inr (.inr z) :: S',h=>exact Or.inr ⟨_,_,S',rfl,rfl,rfl,h⟩
end Pops
/-! numbers -/
theorem w32_eq (z:Int):w32 z=z.bmod (2 ^ 32):=by
  unfold w32
  rw [Int.bmod_def]
  split <;> omega
theorem w64_eq (z:Int):w64 z=z.bmod (2 ^ 64):=by
  unfold w64
  rw [Int.bmod_def]
  split <;> omega
theorem b8_eq (x:Int32):(x.toInt8.toInt32).toInt=b8 x.toInt:=by
  obtain ⟨h1,h2,h3⟩:=c_i2b x
  unfold b8
  omega
theorem cmpL_toInt (x y:Int64):(XT.cmpL x y).toInt=lcm x.toInt y.toInt:=by
  unfold XT.cmpL lcm
  by_cases h:y<x
  · rw [if_pos h,if_pos (Int64.lt_iff_toInt_lt.mp h)]; rfl
  · rw [if_neg h,if_neg (fun q=>h (Int64.lt_iff_toInt_lt.mpr q))]
    by_cases h2:x=y
    · rw [if_pos h2,if_pos (by rw [h2])]; rfl
    · rw [if_neg h2,if_neg (fun q=>h2 (Int64.toInt_inj.mp q))]; rfl
theorem and1_eq (x:Int32):(x &&& 1).toInt=x.toInt % 2:=c_mask x 1 1 (by decide) (by decide)
/-! the local variables -/
theorem lget_lput:∀ (L:OLs) (k j:Nat) (v:Option OV),lget (lput L k v) j=if j=k∧k<L.length then v else lget L j
  | [],k,j,v=>by simp [lput,lget]
  | x :: xs,0,0,v=>by simp [lput,lget]
  | x :: xs,0,j+1,v=>by simp [lput,lget]
  | x :: xs,k+1,0,v=>by simp [lput,lget]
  | x :: xs,k+1,j+1,v=>by
    have:=lget_lput xs k j v
    simp only [lput,lget,this,List.length_cons]
    by_cases h:j=k∧k<xs.length
    · rw [if_pos h,if_pos (by omega)]
    · rw [if_neg h,if_neg (by omega)]
theorem length_lput:∀ (L:OLs) (k:Nat) (v:Option OV),(lput L k v).length=L.length
  | [],_,_=>rfl
  | _ :: _,0,_=>rfl
  | x :: xs,k+1,v=>by simp [lput,length_lput xs k v]
theorem length_killPrev (L:OLs) (k:Nat):(killPrev L k).length=L.length:=by
  cases k with
  | zero=>rfl
  | succ j =>
    simp only [killPrev]
    split
    · exact length_lput _ _ _
    · rfl
theorem lget_killPrev {L:OLs} {k j:Nat} {v:OV} (h:lget (killPrev L k) j=some v):lget L j=some v∧(j+1=k→mcat v=1):=by
  cases k with
  | zero=>exact ⟨h,fun q=>by omega⟩
  | succ i =>
    simp only [killPrev] at h
    split at h
    · rename_i z hz
      rw [lget_lput] at h
      split at h
      · cases h
      · rename_i hn
        refine ⟨h,fun q=>?_⟩
        have e:j=i:=by omega
        subst e
        rw [hz] at h
        by_cases hl:j<L.length
        · exact absurd ⟨rfl,hl⟩ hn
        · exfalso
          have:lget L j=none:=by
            clear h hz hn
            induction L generalizing j with
            | nil=>rfl
            | cons x xs ih =>
              cases j with
              | zero=>simp at hl
              | succ j=>exact ih (by omega) (by simpa using hl)
          rw [this] at hz; cases hz
    · rename_i hn
      refine ⟨h,fun q=>?_⟩
      have e:j=i:=by omega
      subst e
      rcases v with z | z | z
      · rfl
      · exact absurd h (hn z)
      · rfl
theorem lget_mask:∀ (bs:Option (List Bool)) (L:OLs) (k:Nat) {v:OV},lget (mask bs L) k=some v→lget L k=some v
  | none,L,k,v,h=>by simpa [mask] using h
  | some [],L,k,v,h=>by simpa [mask] using h
  | some (true :: bs),[],k,v,h=>by simpa [mask] using h
  | some (false :: bs),[],k,v,h=>by simpa [mask] using h
  | some (true :: bs),x :: xs,0,v,h=>h
  | some (true :: bs),x :: xs,k+1,v,h=>lget_mask (some bs) xs k h
  | some (false :: bs),x :: xs,0,v,h=>by cases h
  | some (false :: bs),x :: xs,k+1,v,h=>lget_mask (some bs) xs k h
theorem length_mask:∀ (bs:Option (List Bool)) (L:OLs),(mask bs L).length=L.length
  | none,L=>by simp [mask]
  | some [],L=>by simp [mask]
  | some (true :: bs),[]=>by simp [mask]
  | some (false :: bs),[]=>by simp [mask]
  | some (true :: bs),x :: xs=>by simp [mask,length_mask (some bs) xs]
  | some (false :: bs),x :: xs=>by simp [mask,length_mask (some bs) xs]
theorem LR.mask {A:Nat→Addr} {b:Nat} {L:OLs} {Ls:Array Slot} (h:LR A b L Ls) (bs:Option (List Bool)):LR A b (mask bs L) Ls :=
  ⟨by rw [length_mask]; exact h.1,fun k v hk=>h.2.1 k v (lget_mask bs L k hk),h.2.2⟩
/-- what a store of one word makes of the slots,slot by slot -/
theorem store1_at {l:Array Slot} (hw:WF l) {k:Nat} (hk:k<l.size) {x:Value} (hc:x.category=1) :
    ∃ l',storeLocals l k x=some l'∧l'.size=l.size∧l'[k]?=some (.val x) ∧
      (∀ j,j≠k→l'[j]?=l[j]?∨(l'[j]?=some .unset∧((j+1=k∧l[k]?=some .second)∨(j=k+1∧l[j]?=some .second∧∃ v,l[k]?=some (.val v)∧v.category=2)))) ∧
      (l[k]?=some .second→∀ j,j+1=k→l'[j]?=some .unset)∧(∀ v,l[k]?=some (.val v)→v.category=2→l'[k+1]?=some .unset):=by
  have hx:l[k]?=some l[k]:=Array.getElem?_eq_getElem hk
  have hc2:¬ x.category=2:=by omega
  cases ho:l[k] with
  | unset =>
    rw [ho] at hx
    refine ⟨l.setIfInBounds k (.val x),by simp [storeLocals,storeSelf,setAt,ho,hk,hc2],by simp,by simp [hk],fun j hj=>Or.inl (Array.getElem?_setIfInBounds_ne (Ne.symm hj)),(fun q=>by rw [hx] at q; cases q),(fun v q=>by rw [hx] at q; cases q)⟩
  | second =>
    rw [ho] at hx
    obtain ⟨j,v,rfl,hj,-⟩:=hw.1 k hx
    have hj':j<l.size:=by omega
    refine ⟨(l.setIfInBounds j .unset).setIfInBounds (j+1) (.val x),by simp [storeLocals,storeSelf,setAt,ho,hk,hj',hc2],by simp,by simp [hk],fun i hi=>?_,fun _ i hi=>?_,(fun v q=>by rw [hx] at q; cases q)⟩
    · rw [Array.getElem?_setIfInBounds_ne (Ne.symm hi)]
      by_cases e:i=j
      · subst e
        exact Or.inr ⟨by simp [hj'],Or.inl ⟨rfl,hx⟩⟩
      · exact Or.inl (Array.getElem?_setIfInBounds_ne (Ne.symm e))
    · have e:i=j:=by omega
      subst e
      rw [Array.getElem?_setIfInBounds_ne (by omega)]
      simp [hj']
  | val old =>
    rw [ho] at hx
    by_cases h2:old.category=2
    · have hs:=hw.2 k old hx h2
      have hk1:k+1<l.size:=(Array.getElem?_eq_some_iff.mp hs).1
      refine ⟨(l.setIfInBounds (k+1) .unset).setIfInBounds k (.val x),by simp [storeLocals,storeSelf,setAt,ho,hk,hk1,hc2,h2],by simp,by simp [hk],fun i hi=>?_,(fun q=>by rw [hx] at q; cases q),fun v _ _=>?_⟩
      · rw [Array.getElem?_setIfInBounds_ne (Ne.symm hi)]
        by_cases e:i=k+1
        · subst e
          exact Or.inr ⟨by simp [hk1],Or.inr ⟨rfl,hs,old,hx,h2⟩⟩
        · exact Or.inl (Array.getElem?_setIfInBounds_ne (Ne.symm e))
      · rw [Array.getElem?_setIfInBounds_ne (by omega)]
        simp [hk1]
    · refine ⟨l.setIfInBounds k (.val x),by simp [storeLocals,storeSelf,setAt,ho,hk,hc2,h2],by simp,by simp [hk],fun j hj=>Or.inl (Array.getElem?_setIfInBounds_ne (Ne.symm hj)),(fun q=>by rw [hx] at q; cases q),(fun v q qq=>by rw [hx] at q; cases q; exact absurd qq h2)⟩
theorem LR.st1 {A:Nat→Addr} {b:Nat} {L:OLs} {Ls:Array Slot} (h:LR A b L Ls) {k:Nat} (hk:k<L.length) {v:OV} {x:Value} (hv:VR A b v x) (hc:x.category=1) :
    ∃ Ls',storeLocals Ls k x=some Ls'∧LR A b (lst1 L k v) Ls'∧Ls'.size=Ls.size:=by
  obtain ⟨l',h1,h2,h3,h4,h5,h6⟩:=store1_at h.2.2 (by rw [← h.1]; exact hk) hc
  refine ⟨l',h1,⟨?_,?_,?_,?_⟩,h2⟩
  · rw [lst1,length_lput,length_killPrev,h.1,h2]
  · intro j w hj
    rw [lst1,lget_lput,length_killPrev] at hj
    by_cases e:j=k∧k<L.length
    · rw [if_pos e] at hj
      cases hj
      obtain ⟨rfl,-⟩:=e
      exact ⟨x,h3,hv⟩
    · rw [if_neg e] at hj
      have hne:j≠k:=fun q=>e ⟨q,hk⟩
      obtain ⟨g1,g2⟩:=lget_killPrev hj
      obtain ⟨y,g3,g4⟩:=h.2.1 j w g1
      rcases h4 j hne with q | ⟨-,q | q⟩
      · exact ⟨y,q.trans g3,g4⟩
      · exfalso
        obtain ⟨i,u,q1,q2,q3⟩:=h.2.2.1 k q.2
        have:i=j:=by omega
        subst this
        cases g3.symm.trans q2
        rw [g4.cat (g2 q.1)] at q3; cases q3
      · exfalso
        cases g3.symm.trans q.2.1
  · intro j hj
    by_cases e:j=k
    · subst e; rw [h3] at hj; cases hj
    · have hj0:Ls[j]?=some .second:=by
        rcases h4 j e with q | ⟨q,-⟩
        · exact q ▸ hj
        · rw [q] at hj; cases hj
      obtain ⟨i,u,rfl,q2,q3⟩:=h.2.2.1 j hj0
      refine ⟨i,u,rfl,?_,q3⟩
      have hi:i≠k:=fun q=>by
        subst q
        rw [h6 u q2 q3] at hj; cases hj
      rcases h4 i hi with q | ⟨-,q | q⟩
      · rw [q]; exact q2
      · exact absurd q.1 e
      · rw [q2] at q; cases q.2.1
  · intro j u hj hu
    by_cases e:j=k
    · subst e; rw [h3] at hj; cases hj; omega
    · have hj0:Ls[j]?=some (.val u):=by
        rcases h4 j e with q | ⟨q,-⟩
        · exact q ▸ hj
        · rw [q] at hj; cases hj
      have q2:=h.2.2.2 j u hj0 hu
      have hi:j+1≠k:=fun q=>by
        subst q
        rw [h5 q2 j rfl] at hj; cases hj
      rcases h4 (j+1) hi with q | ⟨-,q | q⟩
      · rw [q]; exact q2
      · exfalso
        obtain ⟨i,w,r1,r2,r3⟩:=h.2.2.1 k q.2
        have:i=j+1:=by omega
        subst this
        rw [q2] at r2; cases r2
      · exact absurd (by omega:j=k) e
/-- what a store of two words makes of the slots -/
theorem store2_at {l:Array Slot} (hw:WF l) {k:Nat} (hk:k+1<l.size) {x:Value} (hc:x.category=2) :
    ∃ l',storeLocals l k x=some l'∧l'.size=l.size∧l'[k]?=some (.val x)∧l'[k+1]?=some .second ∧
      (∀ j,j≠k→j≠k+1→l'[j]?=l[j]?∨(l'[j]?=some .unset∧((j+1=k∧l[k]?=some .second)∨(j=k+2∧l[j]?=some .second∧∃ v,l[k+1]?=some (.val v)∧v.category=2)))) ∧
      (l[k]?=some .second→∀ j,j+1=k→l'[j]?=some .unset)∧(∀ v,l[k+1]?=some (.val v)→v.category=2→l'[k+2]?=some .unset):=by
  have hk0:k<l.size:=by omega
  have hx:l[k]?=some l[k]:=Array.getElem?_eq_getElem hk0
  have hy:l[k+1]?=some l[k+1]:=Array.getElem?_eq_getElem hk
  have key:∀ l1:Array Slot,l1.size=l.size→∀ s1,l1[k+1]?=some s1→(∀ v,s1=.val v→v.category=2→k+2<l.size)→∃ l',storeSelf l1 k x=some l'∧l'.size=l.size∧l'[k]?=some (.val x)∧l'[k+1]?=some .second∧(∀ j,j≠k→j≠k+1→l'[j]?=l1[j]?∨(j=k+2∧l'[j]?=some .unset∧∃ v,s1=.val v∧v.category=2))∧(∀ v,s1=.val v→v.category=2→l'[k+2]?=some .unset):=by
    intro l1 hs1 s1 hl1 h2
    have a1:k<l1.size:=by omega
    have a2:k+1<l1.size:=by omega
    have hg:(l1.setIfInBounds k (.val x))[k+1]?=some s1:=by rw [Array.getElem?_setIfInBounds_ne (by omega)]; exact hl1
    have plain:(∀ v,s1=.val v→v.category≠2)→storeSelf l1 k x=some ((l1.setIfInBounds k (.val x)).setIfInBounds (k+1) .second):=by
      intro q
      simp only [storeSelf,setAt,a1,if_true,Option.bind_eq_bind,Option.bind_some,hc]
      rw [hg]
      cases s1 with
      | unset=>simp [a2]
      | second=>simp [a2]
      | val v=>simp [a2,q v rfl]
    have done:(∀ v,s1=.val v→v.category≠2)→∃ l',storeSelf l1 k x=some l'∧l'.size=l.size∧l'[k]?=some (.val x)∧l'[k+1]?=some .second∧(∀ j,j≠k→j≠k+1→l'[j]?=l1[j]?∨(j=k+2∧l'[j]?=some .unset∧∃ v,s1=.val v∧v.category=2))∧(∀ v,s1=.val v→v.category=2→l'[k+2]?=some .unset):=by
      intro q
      refine ⟨_,plain q,by simp [hs1],?_,by simp [a2],fun j h1 h2=>Or.inl ?_,fun v e1 e2=>absurd e2 (q v e1)⟩
      · rw [Array.getElem?_setIfInBounds_ne (by omega)]; simp [a1]
      · rw [Array.getElem?_setIfInBounds_ne (Ne.symm h2),Array.getElem?_setIfInBounds_ne (Ne.symm h1)]
    cases s1 with
    | unset=>exact done (fun v q=>by cases q)
    | second=>exact done (fun v q=>by cases q)
    | val v =>
      by_cases hv:v.category=2
      · have a3:k+2<l1.size:=by rw [hs1]; exact h2 v rfl hv
        refine ⟨((l1.setIfInBounds k (.val x)).setIfInBounds (k+2) .unset).setIfInBounds (k+1) .second,?_,by simp [hs1],?_,by simp [a2],fun j q1 q2=>?_,fun _ _ _=>?_⟩
        · simp only [storeSelf,setAt,a1,if_true,Option.bind_eq_bind,Option.bind_some,hc]
          rw [hg]
          simp [hv,a2,a3]
        · rw [Array.getElem?_setIfInBounds_ne (by omega),Array.getElem?_setIfInBounds_ne (by omega)]; simp [a1]
        · rw [Array.getElem?_setIfInBounds_ne (Ne.symm q2)]
          by_cases e:j=k+2
          · subst e
            exact Or.inr ⟨rfl,by simp [a3],v,rfl,hv⟩
          · rw [Array.getElem?_setIfInBounds_ne (Ne.symm e),Array.getElem?_setIfInBounds_ne (Ne.symm q1)]
            exact Or.inl rfl
        · rw [Array.getElem?_setIfInBounds_ne (by omega)]; simp [a3]
      · exact done (fun v' q=>by cases q; exact hv)
  have room2:∀ v,l[k+1]?=some (.val v)→v.category=2→k+2<l.size:=fun v q1 q2=>(Array.getElem?_eq_some_iff.mp (hw.2 (k+1) v q1 q2)).1
  cases ho:l[k] with
  | unset =>
    rw [ho] at hx
    obtain ⟨l',g1,g2,g3,g4,g5,g6⟩:=key l rfl _ hy (fun v q1 q2=>room2 v (by rw [hy,q1]) q2)
    refine ⟨l',by simp [storeLocals,ho,hk0,g1],g2,g3,g4,fun j q1 q2=>?_,(fun q=>by rw [hx] at q; cases q),fun v q1 q2=>g6 v (by rw [hy] at q1; exact Option.some.inj q1) q2⟩
    rcases g5 j q1 q2 with q | ⟨rfl,q,v,r1,r2⟩
    · exact Or.inl q
    · exact Or.inr ⟨q,Or.inr ⟨rfl,hw.2 (k+1) v (by rw [hy,r1]) r2,v,by rw [hy,r1],r2⟩⟩
  | second =>
    rw [ho] at hx
    obtain ⟨i,u,rfl,hi,-⟩:=hw.1 k hx
    have hi':i<l.size:=by omega
    obtain ⟨l',g1,g2,g3,g4,g5,g6⟩:=key (l.setIfInBounds i .unset) (by simp) _ (by rw [Array.getElem?_setIfInBounds_ne (by omega)]; exact hy) (fun v q1 q2=>room2 v (by rw [hy,q1]) q2)
    refine ⟨l',by simp [storeLocals,setAt,ho,hk0,hi',g1],g2,g3,g4,fun j q1 q2=>?_,fun _ j hj=>?_,fun v q1 q2=>g6 v (by rw [hy] at q1; exact Option.some.inj q1) q2⟩
    · rcases g5 j q1 q2 with q | ⟨rfl,q,v,r1,r2⟩
      · by_cases e:j=i
        · subst e
          exact Or.inr ⟨by rw [q]; simp [hi'],Or.inl ⟨rfl,hx⟩⟩
        · exact Or.inl (by rw [q,Array.getElem?_setIfInBounds_ne (Ne.symm e)])
      · exact Or.inr ⟨q,Or.inr ⟨rfl,hw.2 (i+1+1) v (by rw [hy,r1]) r2,v,by rw [hy,r1],r2⟩⟩
    · have e:j=i:=by omega
      subst e
      rcases g5 j (by omega) (by omega) with q | ⟨q,-⟩
      · rw [q]; simp [hi']
      · omega
  | val old =>
    rw [ho] at hx
    by_cases h2:old.category=2
    · have hs:=hw.2 k old hx h2
      have hy2:l[k+1]=.second:=by rw [hy] at hs; exact Option.some.inj hs
      obtain ⟨l',g1,g2,g3,g4,g5,g6⟩:=key (l.setIfInBounds (k+1) .unset) (by simp) .unset (by simp [hk]) (fun v q1=>by cases q1)
      refine ⟨l',by simp [storeLocals,setAt,ho,hk0,hk,h2,g1],g2,g3,g4,fun j q1 q2=>?_,(fun q=>by rw [hx] at q; cases q),fun v q1 q2=>by rw [hs] at q1; cases q1⟩
      rcases g5 j q1 q2 with q | ⟨_,_,v,r1,_⟩
      · exact Or.inl (by rw [q,Array.getElem?_setIfInBounds_ne (Ne.symm q2)])
      · cases r1
    · obtain ⟨l',g1,g2,g3,g4,g5,g6⟩:=key l rfl _ hy (fun v q1 q2=>room2 v (by rw [hy,q1]) q2)
      refine ⟨l',by simp [storeLocals,ho,hk0,h2,g1],g2,g3,g4,fun j q1 q2=>?_,(fun q=>by rw [hx] at q; cases q),fun v q1 q2=>g6 v (by rw [hy] at q1; exact Option.some.inj q1) q2⟩
      rcases g5 j q1 q2 with q | ⟨rfl,q,v,r1,r2⟩
      · exact Or.inl q
      · exact Or.inr ⟨q,Or.inr ⟨rfl,hw.2 (k+1) v (by rw [hy,r1]) r2,v,by rw [hy,r1],r2⟩⟩
theorem LR.st2 {A:Nat→Addr} {b:Nat} {L:OLs} {Ls:Array Slot} (h:LR A b L Ls) {k:Nat} (hk:k+1<L.length) {v:OV} {x:Value} (hv:VR A b v x) (hc:x.category=2) :
    ∃ Ls',storeLocals Ls k x=some Ls'∧LR A b (lst2 L k v) Ls'∧Ls'.size=Ls.size:=by
  obtain ⟨l',h1,h2,h3,h3',h4,h5,h6⟩:=store2_at h.2.2 (by rw [← h.1]; exact hk) hc
  refine ⟨l',h1,⟨?_,?_,?_,?_⟩,h2⟩
  · rw [lst2,length_lput,length_lput,length_killPrev,h.1,h2]
  · intro j w hj
    rw [lst2,lget_lput,length_lput,length_killPrev,lget_lput,length_killPrev] at hj
    by_cases e1:j=k+1∧k+1<L.length
    · rw [if_pos e1] at hj; cases hj
    rw [if_neg e1] at hj
    have hne1:j≠k+1:=fun q=>e1 ⟨q,hk⟩
    by_cases e:j=k∧k<L.length
    · rw [if_pos e] at hj
      cases hj
      obtain ⟨rfl,-⟩:=e
      exact ⟨x,h3,hv⟩
    · rw [if_neg e] at hj
      have hne:j≠k:=fun q=>e ⟨q,by omega⟩
      obtain ⟨g1,g2⟩:=lget_killPrev hj
      obtain ⟨y,g3,g4⟩:=h.2.1 j w g1
      rcases h4 j hne hne1 with q | ⟨-,q | q⟩
      · exact ⟨y,q.trans g3,g4⟩
      · exfalso
        obtain ⟨i,u,q1,q2,q3⟩:=h.2.2.1 k q.2
        have:i=j:=by omega
        subst this
        cases g3.symm.trans q2
        rw [g4.cat (g2 q.1)] at q3; cases q3
      · exfalso
        cases g3.symm.trans q.2.1
  · intro j hj
    by_cases e:j=k
    · subst e; rw [h3] at hj; cases hj
    by_cases e':j=k+1
    · exact ⟨k,x,e',h3,hc⟩
    · have hj0:Ls[j]?=some .second:=by
        rcases h4 j e e' with q | ⟨q,-⟩
        · exact q ▸ hj
        · rw [q] at hj; cases hj
      obtain ⟨i,u,rfl,q2,q3⟩:=h.2.2.1 j hj0
      refine ⟨i,u,rfl,?_,q3⟩
      have hi:i≠k:=fun q=>e' (by omega)
      have hi':i≠k+1:=fun q=>by
        subst q
        rw [h6 u q2 q3] at hj; cases hj
      rcases h4 i hi hi' with q | ⟨-,q | q⟩
      · rw [q]; exact q2
      · exact absurd q.1 e
      · rw [q2] at q; cases q.2.1
  · intro j u hj hu
    by_cases e:j=k
    · subst e; exact h3'
    by_cases e':j=k+1
    · subst e'; rw [h3'] at hj; cases hj
    · have hj0:Ls[j]?=some (.val u):=by
        rcases h4 j e e' with q | ⟨q,-⟩
        · exact q ▸ hj
        · rw [q] at hj; cases hj
      have q2:=h.2.2.2 j u hj0 hu
      have hi:j+1≠k:=fun q=>by
        subst q
        rw [h5 q2 j rfl] at hj; cases hj
      rcases h4 (j+1) hi (by omega) with q | ⟨-,q | q⟩
      · rw [q]; exact q2
      · exfalso
        obtain ⟨i,w,r1,r2,r3⟩:=h.2.2.1 k q.2
        have:i=j+1:=by omega
        subst this
        rw [q2] at r2; cases r2
      · exact absurd (by omega:j=k+1) e'
end Jvm.OwnMini
namespace Jvm.OwnMini
open Jvm Jvm.ClassFile Sem Op Lib Jvm.Free Jvm.Stand Jvm.LawKit Jvm.RoadKit
theorem pstep_sound {p:Program} {l:Launch} {e:Env} {R:Room} {s:State} {m:MethodId} {args:Array Value} {below:List Frame} {meth:Method} {c:Code} {T:State} {locs:List Loc} {cells slots:Nat}
    (X:Stand p l e R s m args below meth c T locs cells slots) (hx:p.tables.exec=Jvm.exec) {own:String} (hown:s.vm.findClass own=some m.cls) {cst:Nat→Option OV}
    (hcst:(∀ x z,cst x=some (.inl z)→∃ v:Int32,(Jvm.Cond.constant own x v).before args s=true∧v.toInt=z)∧(∀ x z,cst x=some (.inr (.inl z))→∃ v:Int64,(Jvm.Cond.constantLong own x v).before args s=true∧v.toInt=z))
    {A:Nat→Addr} {b:Nat} {L:OLs} {Ls:Array Slot} {S:List OV} {St:List Value} (hL:LR A b L Ls) (hS:SR A b S St) {i:Instr} {pc len:Nat} (hd:decode c.code pc=.ok (i,len)) (hchk:chk pc i len=true)
    {β:Type} {k:Nat→OLs→List OV→Option β} {r:β} (h:pstep cst i pc len L S k=some r) :
    ∃ pc' L' S' Ls' St',k pc' L' S'=some r∧LR A b L' Ls'∧SR A b S' St'∧Ls'.size=Ls.size∧∀ target,Steps p.tables e below (T.setTop (mkF m pc' Ls' St')) target→Steps p.tables e below (T.setTop (mkF m pc Ls St)) target:=by
  cases i
  case iconst z =>
    have hc:(len=1∧-32768≤z)∧z≤32767:=by simpa [chk] using hchk
    obtain ⟨⟨rfl,h1⟩,h2⟩:=hc
    exact ⟨_,_,_,_,_,h,hL,SR.ci (Int32.toInt_ofInt_of_le (by omega) (by omega)) hS,rfl,fun target hr=>XS.iconst X.here hx rfl hd hr⟩
  case bipush z =>
    have hc:(len=2∧-128≤z)∧z≤127:=by simpa [chk] using hchk
    obtain ⟨⟨rfl,h1⟩,h2⟩:=hc
    exact ⟨_,_,_,_,_,h,hL,SR.ci (by rw [Int8.toInt_toInt32,Int8.toInt_ofInt_of_le (by omega) (by omega)]) hS,rfl,fun target hr=>XS.bipush X.here hx rfl hd hr⟩
  case sipush z =>
    have hc:(len=3∧-32768≤z)∧z≤32767:=by simpa [chk] using hchk
    obtain ⟨⟨rfl,h1⟩,h2⟩:=hc
    exact ⟨_,_,_,_,_,h,hL,SR.ci (by rw [Int16.toInt_toInt32,Int16.toInt_ofInt_of_le (by omega) (by omega)]) hS,rfl,fun target hr=>XS.sipush X.here hx rfl hd hr⟩
  case lconst z =>
    obtain rfl:len=1:=by simpa [chk,ilen] using hchk
    refine ⟨_,_,_,_,_,h,hL,SR.cj (y:=Int64.ofNat z.val) ?_ hS,rfl,fun target hr=>XT.lconst X.here hx rfl hd hr⟩
    match z with
    | ⟨0,_⟩=>rfl
    | ⟨1,_⟩=>rfl
  case ldc x =>
    obtain rfl:len=2:=by simpa [chk,ilen] using hchk
    simp only [pstep] at h
    cases hq:cst x with
    | none=>simp [hq] at h
    | some v =>
      cases v with
      | inr v=>simp [hq] at h
      | inl z =>
        simp only [hq] at h
        obtain ⟨cv,hcv,rfl⟩:=hcst.1 x z hq
        exact ⟨_,_,_,_,_,h,hL,SR.ci rfl hS,rfl,fun target hr=>X.ldcI hx hown hcv rfl hd hr⟩
  case ldc_w x =>
    obtain rfl:len=3:=by simpa [chk,ilen] using hchk
    simp only [pstep] at h
    cases hq:cst x with
    | none=>simp [hq] at h
    | some v =>
      cases v with
      | inr v=>simp [hq] at h
      | inl z =>
        simp only [hq] at h
        obtain ⟨cv,hcv,rfl⟩:=hcst.1 x z hq
        exact ⟨_,_,_,_,_,h,hL,SR.ci rfl hS,rfl,fun target hr=>X.ldcWI hx hown hcv rfl hd hr⟩
  case ldc2_w x =>
    obtain rfl:len=3:=by simpa [chk,ilen] using hchk
    simp only [pstep] at h
    cases hq:cst x with
    | none=>simp [hq] at h
    | some v =>
      cases v with
      | inl z=>simp [hq] at h
      | inr v =>
        cases v with
        | inr z=>simp [hq] at h
        | inl z =>
          simp only [hq] at h
          obtain ⟨cv,hcv,rfl⟩:=hcst.2 x z hq
          exact ⟨_,_,_,_,_,h,hL,SR.cj rfl hS,rfl,fun target hr=>X.ldc2J hx hown hcv rfl hd hr⟩
  case iload x =>
    obtain rfl:len=2:=by simpa [chk,ilen] using hchk
    obtain ⟨z,hg,h⟩:=gi_some h
    obtain ⟨w,hw,hv⟩:=hL.2.1 _ _ hg
    obtain ⟨y,rfl,rfl⟩:=hv
    exact ⟨_,_,_,_,_,h,hL,SR.ci rfl hS,rfl,fun target hr=>XS.iload X.here hx rfl hd hw hr⟩
  case iload_n x =>
    obtain rfl:len=1:=by simpa [chk,ilen] using hchk
    obtain ⟨z,hg,h⟩:=gi_some h
    obtain ⟨w,hw,hv⟩:=hL.2.1 _ _ hg
    obtain ⟨y,rfl,rfl⟩:=hv
    exact ⟨_,_,_,_,_,h,hL,SR.ci rfl hS,rfl,fun target hr=>XS.iloadN X.here hx rfl hd hw hr⟩
  case lload x =>
    obtain rfl:len=2:=by simpa [chk,ilen] using hchk
    obtain ⟨z,hg,h⟩:=gl_some h
    obtain ⟨w,hw,hv⟩:=hL.2.1 _ _ hg
    obtain ⟨y,rfl,rfl⟩:=hv
    exact ⟨_,_,_,_,_,h,hL,SR.cj rfl hS,rfl,fun target hr=>XT.lload X.here hx rfl hd hw hr⟩
  case lload_n x =>
    obtain rfl:len=1:=by simpa [chk,ilen] using hchk
    obtain ⟨z,hg,h⟩:=gl_some h
    obtain ⟨w,hw,hv⟩:=hL.2.1 _ _ hg
    obtain ⟨y,rfl,rfl⟩:=hv
    exact ⟨_,_,_,_,_,h,hL,SR.cj rfl hS,rfl,fun target hr=>XT.lloadN X.here hx rfl hd hw hr⟩
  case aload x =>
    obtain rfl:len=2:=by simpa [chk,ilen] using hchk
    obtain ⟨z,hg,h⟩:=gr_some h
    obtain ⟨w,hw,hv⟩:=hL.2.1 _ _ hg
    obtain ⟨hb,rfl⟩:=hv
    exact ⟨_,_,_,_,_,h,hL,SR.cr hb hS,rfl,fun target hr=>XS.aload X.here hx rfl hd hw rfl hr⟩
  case aload_n x =>
    obtain rfl:len=1:=by simpa [chk,ilen] using hchk
    obtain ⟨z,hg,h⟩:=gr_some h
    obtain ⟨w,hw,hv⟩:=hL.2.1 _ _ hg
    obtain ⟨hb,rfl⟩:=hv
    exact ⟨_,_,_,_,_,h,hL,SR.cr hb hS,rfl,fun target hr=>XS.aloadN X.here hx rfl hd hw rfl hr⟩
  case istore x =>
    obtain rfl:len=2:=by simpa [chk,ilen] using hchk
    obtain ⟨z,S',rfl,h⟩:=pi1_some h
    obtain ⟨hk,h⟩:=inL_some h
    obtain ⟨y,St',rfl,hy,hS'⟩:=SR.i1 hS
    obtain ⟨Ls',hst,hL',hsz⟩:=hL.st1 hk (v:=vi z) (x:=.int y) ⟨y,rfl,hy⟩ rfl
    exact ⟨_,_,_,_,_,h,hL',hS',hsz,fun target hr=>XS.istore X.here hx rfl hd rfl hst hr⟩
  case istore_n x =>
    obtain rfl:len=1:=by simpa [chk,ilen] using hchk
    obtain ⟨z,S',rfl,h⟩:=pi1_some h
    obtain ⟨hk,h⟩:=inL_some h
    obtain ⟨y,St',rfl,hy,hS'⟩:=SR.i1 hS
    obtain ⟨Ls',hst,hL',hsz⟩:=hL.st1 hk (v:=vi z) (x:=.int y) ⟨y,rfl,hy⟩ rfl
    exact ⟨_,_,_,_,_,h,hL',hS',hsz,fun target hr=>XS.istoreN X.here hx rfl hd rfl hst hr⟩
  case lstore x =>
    obtain rfl:len=2:=by simpa [chk,ilen] using hchk
    obtain ⟨z,S',rfl,h⟩:=pl1_some h
    obtain ⟨hk,h⟩:=inL_some h
    obtain ⟨y,St',rfl,hy,hS'⟩:=SR.l1 hS
    obtain ⟨Ls',hst,hL',hsz⟩:=hL.st2 hk (v:=vl z) (x:=.long y) ⟨y,rfl,hy⟩ rfl
    exact ⟨_,_,_,_,_,h,hL',hS',hsz,fun target hr=>XT.lstore X.here hx rfl hd rfl hst hr⟩
  case lstore_n x =>
    obtain rfl:len=1:=by simpa [chk,ilen] using hchk
    obtain ⟨z,S',rfl,h⟩:=pl1_some h
    obtain ⟨hk,h⟩:=inL_some h
    obtain ⟨y,St',rfl,hy,hS'⟩:=SR.l1 hS
    obtain ⟨Ls',hst,hL',hsz⟩:=hL.st2 hk (v:=vl z) (x:=.long y) ⟨y,rfl,hy⟩ rfl
    exact ⟨_,_,_,_,_,h,hL',hS',hsz,fun target hr=>XT.lstoreN X.here hx rfl hd rfl hst hr⟩
  case astore x =>
    obtain rfl:len=2:=by simpa [chk,ilen] using hchk
    obtain ⟨z,S',rfl,h⟩:=pr1_some h
    obtain ⟨hk,h⟩:=inL_some h
    obtain ⟨hb,St',rfl,hS'⟩:=SR.r1 hS
    obtain ⟨Ls',hst,hL',hsz⟩:=hL.st1 hk (v:=vr z) (x:=.ref (A z)) ⟨hb,rfl⟩ rfl
    exact ⟨_,_,_,_,_,h,hL',hS',hsz,fun target hr=>XS.astore X.here hx rfl hd rfl rfl hst hr⟩
  case astore_n x =>
    obtain rfl:len=1:=by simpa [chk,ilen] using hchk
    obtain ⟨z,S',rfl,h⟩:=pr1_some h
    obtain ⟨hk,h⟩:=inL_some h
    obtain ⟨hb,St',rfl,hS'⟩:=SR.r1 hS
    obtain ⟨Ls',hst,hL',hsz⟩:=hL.st1 hk (v:=vr z) (x:=.ref (A z)) ⟨hb,rfl⟩ rfl
    exact ⟨_,_,_,_,_,h,hL',hS',hsz,fun target hr=>XS.astoreN X.here hx rfl hd rfl rfl hst hr⟩
  case iinc x z =>
    have hc:(len=3∧-32768≤z)∧z≤32767:=by simpa [chk] using hchk
    obtain ⟨⟨rfl,h1⟩,h2⟩:=hc
    obtain ⟨a,hg,h⟩:=gi_some h
    obtain ⟨hk,h⟩:=inL_some h
    obtain ⟨w,hw,y,rfl,rfl⟩:=hL.2.1 _ _ hg
    obtain ⟨Ls',hst,hL',hsz⟩:=hL.st1 hk (v:=vi (w32 (y.toInt+z))) (x:=.int (y+Int32.ofInt z)) ⟨_,rfl,by rw [Int32.toInt_add,Int32.toInt_ofInt_of_le (by omega) (by omega),w32_eq]⟩ rfl
    exact ⟨_,_,_,_,_,h,hL',hS,hsz,fun target hr=>XS.iinc X.here hx rfl hd hw hst hr⟩
  case iadd =>
    obtain rfl:len=1:=by simpa [chk,ilen] using hchk
    obtain ⟨a,b',S',rfl,h⟩:=pi2_some h
    obtain ⟨y,x,St',rfl,rfl,rfl,hS'⟩:=SR.i2 hS
    exact ⟨_,_,_,_,_,h,hL,SR.ci (by rw [Int32.toInt_add,w32_eq]) hS',rfl,fun target hr=>XS.iadd X.here hx rfl hd rfl hr⟩
  case isub =>
    obtain rfl:len=1:=by simpa [chk,ilen] using hchk
    obtain ⟨a,b',S',rfl,h⟩:=pi2_some h
    obtain ⟨y,x,St',rfl,rfl,rfl,hS'⟩:=SR.i2 hS
    exact ⟨_,_,_,_,_,h,hL,SR.ci (by rw [Int32.toInt_sub,w32_eq]) hS',rfl,fun target hr=>XS.isub X.here hx rfl hd rfl hr⟩
  case imul =>
    obtain rfl:len=1:=by simpa [chk,ilen] using hchk
    obtain ⟨a,b',S',rfl,h⟩:=pi2_some h
    obtain ⟨y,x,St',rfl,rfl,rfl,hS'⟩:=SR.i2 hS
    exact ⟨_,_,_,_,_,h,hL,SR.ci (by rw [Int32.toInt_mul,w32_eq]) hS',rfl,fun target hr=>XS.imul X.here hx rfl hd rfl hr⟩
  case idiv =>
    obtain rfl:len=1:=by simpa [chk,ilen] using hchk
    obtain ⟨a,b',S',rfl,h⟩:=pi2_some h
    obtain ⟨y,x,St',rfl,rfl,rfl,hS'⟩:=SR.i2 hS
    simp only [pstep,pi2] at h
    by_cases hz:y.toInt=0
    · simp [hz] at h
    rw [if_neg hz] at h
    have hy:y≠0:=fun q=>hz (by rw [q]; rfl)
    exact ⟨_,_,_,_,_,h,hL,SR.ci (by rw [Int32.toInt_div,div32,w32_eq]) hS',rfl,fun target hr=>XS.idiv X.here hx rfl hd rfl hy hr⟩
  case irem =>
    obtain rfl:len=1:=by simpa [chk,ilen] using hchk
    obtain ⟨a,b',S',rfl,h⟩:=pi2_some h
    obtain ⟨y,x,St',rfl,rfl,rfl,hS'⟩:=SR.i2 hS
    simp only [pstep,pi2] at h
    by_cases hz:y.toInt=0
    · simp [hz] at h
    rw [if_neg hz] at h
    have hy:y≠0:=fun q=>hz (by rw [q]; rfl)
    exact ⟨_,_,_,_,_,h,hL,SR.ci (by rw [Int32.toInt_mod,rem32]) hS',rfl,fun target hr=>iremM X hx rfl hd rfl hy hr⟩
  case iand =>
    obtain rfl:len=1:=by simpa [chk,ilen] using hchk
    obtain ⟨a,b',S',rfl,h⟩:=pi2_some h
    obtain ⟨y,x,St',rfl,rfl,rfl,hS'⟩:=SR.i2 hS
    exact ⟨_,_,_,_,_,h,hL,SR.ci (by simp only [and32,Int32.ofInt_toInt]) hS',rfl,fun target hr=>XS.iand X.here hx rfl hd rfl hr⟩
  case ior =>
    obtain rfl:len=1:=by simpa [chk,ilen] using hchk
    obtain ⟨a,b',S',rfl,h⟩:=pi2_some h
    obtain ⟨y,x,St',rfl,rfl,rfl,hS'⟩:=SR.i2 hS
    exact ⟨_,_,_,_,_,h,hL,SR.ci (by simp only [or32,Int32.ofInt_toInt]) hS',rfl,fun target hr=>XT.ior X.here hx rfl hd rfl hr⟩
  case ixor =>
    obtain rfl:len=1:=by simpa [chk,ilen] using hchk
    obtain ⟨a,b',S',rfl,h⟩:=pi2_some h
    obtain ⟨y,x,St',rfl,rfl,rfl,hS'⟩:=SR.i2 hS
    exact ⟨_,_,_,_,_,h,hL,SR.ci (by simp only [xor32,Int32.ofInt_toInt]) hS',rfl,fun target hr=>XT.ixor X.here hx rfl hd rfl hr⟩
  case ishl =>
    obtain rfl:len=1:=by simpa [chk,ilen] using hchk
    obtain ⟨a,b',S',rfl,h⟩:=pi2_some h
    obtain ⟨y,x,St',rfl,rfl,rfl,hS'⟩:=SR.i2 hS
    exact ⟨_,_,_,_,_,h,hL,SR.ci (by simp only [shl32,Int32.ofInt_toInt]) hS',rfl,fun target hr=>XT.ishl X.here hx rfl hd rfl hr⟩
  case ishr =>
    obtain rfl:len=1:=by simpa [chk,ilen] using hchk
    obtain ⟨a,b',S',rfl,h⟩:=pi2_some h
    obtain ⟨y,x,St',rfl,rfl,rfl,hS'⟩:=SR.i2 hS
    exact ⟨_,_,_,_,_,h,hL,SR.ci (by simp only [shr32,Int32.ofInt_toInt]) hS',rfl,fun target hr=>XT.ishr X.here hx rfl hd rfl hr⟩
  case iushr =>
    obtain rfl:len=1:=by simpa [chk,ilen] using hchk
    obtain ⟨a,b',S',rfl,h⟩:=pi2_some h
    obtain ⟨y,x,St',rfl,rfl,rfl,hS'⟩:=SR.i2 hS
    exact ⟨_,_,_,_,_,h,hL,SR.ci (by simp only [ushr32,Int32.ofInt_toInt]) hS',rfl,fun target hr=>XT.iushr X.here hx rfl hd rfl hr⟩
  case ladd =>
    obtain rfl:len=1:=by simpa [chk,ilen] using hchk
    obtain ⟨a,b',S',rfl,h⟩:=pl2_some h
    obtain ⟨y,x,St',rfl,rfl,rfl,hS'⟩:=SR.l2 hS
    exact ⟨_,_,_,_,_,h,hL,SR.cj (by rw [Int64.toInt_add,w64_eq]) hS',rfl,fun target hr=>XT.ladd X.here hx rfl hd rfl hr⟩
  case lsub =>
    obtain rfl:len=1:=by simpa [chk,ilen] using hchk
    obtain ⟨a,b',S',rfl,h⟩:=pl2_some h
    obtain ⟨y,x,St',rfl,rfl,rfl,hS'⟩:=SR.l2 hS
    exact ⟨_,_,_,_,_,h,hL,SR.cj (by rw [Int64.toInt_sub,w64_eq]) hS',rfl,fun target hr=>XT.lsub X.here hx rfl hd rfl hr⟩
  case lmul =>
    obtain rfl:len=1:=by simpa [chk,ilen] using hchk
    obtain ⟨a,b',S',rfl,h⟩:=pl2_some h
    obtain ⟨y,x,St',rfl,rfl,rfl,hS'⟩:=SR.l2 hS
    exact ⟨_,_,_,_,_,h,hL,SR.cj (by rw [Int64.toInt_mul,w64_eq]) hS',rfl,fun target hr=>XT.lmul X.here hx rfl hd rfl hr⟩
  case ldiv =>
    obtain rfl:len=1:=by simpa [chk,ilen] using hchk
    obtain ⟨a,b',S',rfl,h⟩:=pl2_some h
    obtain ⟨y,x,St',rfl,rfl,rfl,hS'⟩:=SR.l2 hS
    simp only [pstep,pl2] at h
    by_cases hz:y.toInt=0
    · simp [hz] at h
    rw [if_neg hz] at h
    have hy:y≠0:=fun q=>hz (by rw [q]; rfl)
    exact ⟨_,_,_,_,_,h,hL,SR.cj (by rw [Int64.toInt_div,div64,w64_eq]) hS',rfl,fun target hr=>XT.ldiv X.here hx rfl hd rfl hy hr⟩
  case lrem =>
    obtain rfl:len=1:=by simpa [chk,ilen] using hchk
    obtain ⟨a,b',S',rfl,h⟩:=pl2_some h
    obtain ⟨y,x,St',rfl,rfl,rfl,hS'⟩:=SR.l2 hS
    simp only [pstep,pl2] at h
    by_cases hz:y.toInt=0
    · simp [hz] at h
    rw [if_neg hz] at h
    have hy:y≠0:=fun q=>hz (by rw [q]; rfl)
    exact ⟨_,_,_,_,_,h,hL,SR.cj (by rw [lrem_mod,Int64.toInt_mod,rem64]) hS',rfl,fun target hr=>XT.lrem X.here hx rfl hd rfl hy hr⟩
  case land =>
    obtain rfl:len=1:=by simpa [chk,ilen] using hchk
    obtain ⟨a,b',S',rfl,h⟩:=pl2_some h
    obtain ⟨y,x,St',rfl,rfl,rfl,hS'⟩:=SR.l2 hS
    exact ⟨_,_,_,_,_,h,hL,SR.cj (by simp only [and64,Int64.ofInt_toInt]) hS',rfl,fun target hr=>XT.land X.here hx rfl hd rfl hr⟩
  case lor =>
    obtain rfl:len=1:=by simpa [chk,ilen] using hchk
    obtain ⟨a,b',S',rfl,h⟩:=pl2_some h
    obtain ⟨y,x,St',rfl,rfl,rfl,hS'⟩:=SR.l2 hS
    exact ⟨_,_,_,_,_,h,hL,SR.cj (by simp only [or64,Int64.ofInt_toInt]) hS',rfl,fun target hr=>XT.lor X.here hx rfl hd rfl hr⟩
  case lxor =>
    obtain rfl:len=1:=by simpa [chk,ilen] using hchk
    obtain ⟨a,b',S',rfl,h⟩:=pl2_some h
    obtain ⟨y,x,St',rfl,rfl,rfl,hS'⟩:=SR.l2 hS
    exact ⟨_,_,_,_,_,h,hL,SR.cj (by simp only [xor64,Int64.ofInt_toInt]) hS',rfl,fun target hr=>XT.lxor X.here hx rfl hd rfl hr⟩
  case lshl =>
    obtain rfl:len=1:=by simpa [chk,ilen] using hchk
    obtain ⟨a,b',S',rfl,h⟩:=pli_some h
    obtain ⟨y,x,St',rfl,rfl,rfl,hS'⟩:=SR.li hS
    exact ⟨_,_,_,_,_,h,hL,SR.cj (by simp only [shl64,Int64.ofInt_toInt,Int32.ofInt_toInt]) hS',rfl,fun target hr=>XT.lshl X.here hx rfl hd rfl hr⟩
  case lshr =>
    obtain rfl:len=1:=by simpa [chk,ilen] using hchk
    obtain ⟨a,b',S',rfl,h⟩:=pli_some h
    obtain ⟨y,x,St',rfl,rfl,rfl,hS'⟩:=SR.li hS
    exact ⟨_,_,_,_,_,h,hL,SR.cj (by simp only [shr64,Int64.ofInt_toInt,Int32.ofInt_toInt]) hS',rfl,fun target hr=>XT.lshr X.here hx rfl hd rfl hr⟩
  case lushr =>
    obtain rfl:len=1:=by simpa [chk,ilen] using hchk
    obtain ⟨a,b',S',rfl,h⟩:=pli_some h
    obtain ⟨y,x,St',rfl,rfl,rfl,hS'⟩:=SR.li hS
    exact ⟨_,_,_,_,_,h,hL,SR.cj (by simp only [ushr64,Int64.ofInt_toInt,Int32.ofInt_toInt]) hS',rfl,fun target hr=>XT.lushr X.here hx rfl hd rfl hr⟩
  case lcmp =>
    obtain rfl:len=1:=by simpa [chk,ilen] using hchk
    obtain ⟨a,b',S',rfl,h⟩:=pl2_some h
    obtain ⟨y,x,St',rfl,rfl,rfl,hS'⟩:=SR.l2 hS
    exact ⟨_,_,_,_,_,h,hL,SR.ci (cmpL_toInt _ _) hS',rfl,fun target hr=>XT.lcmp X.here hx rfl hd rfl hr⟩
  case ineg =>
    obtain rfl:len=1:=by simpa [chk,ilen] using hchk
    obtain ⟨a,S',rfl,h⟩:=pi1_some h
    obtain ⟨y,St',rfl,rfl,hS'⟩:=SR.i1 hS
    exact ⟨_,_,_,_,_,h,hL,SR.ci (by rw [Int32.toInt_neg,w32_eq]) hS',rfl,fun target hr=>XS.ineg X.here hx rfl hd rfl hr⟩
  case lneg =>
    obtain rfl:len=1:=by simpa [chk,ilen] using hchk
    obtain ⟨a,S',rfl,h⟩:=pl1_some h
    obtain ⟨y,St',rfl,rfl,hS'⟩:=SR.l1 hS
    exact ⟨_,_,_,_,_,h,hL,SR.cj (by rw [Int64.toInt_neg,w64_eq]) hS',rfl,fun target hr=>XT.lneg X.here hx rfl hd rfl hr⟩
  case i2l =>
    obtain rfl:len=1:=by simpa [chk,ilen] using hchk
    obtain ⟨a,S',rfl,h⟩:=pi1_some h
    obtain ⟨y,St',rfl,rfl,hS'⟩:=SR.i1 hS
    exact ⟨_,_,_,_,_,h,hL,SR.cj (Int32.toInt_toInt64 _) hS',rfl,fun target hr=>XT.i2l X.here hx rfl hd rfl hr⟩
  case l2i =>
    obtain rfl:len=1:=by simpa [chk,ilen] using hchk
    obtain ⟨a,S',rfl,h⟩:=pl1_some h
    obtain ⟨y,St',rfl,rfl,hS'⟩:=SR.l1 hS
    exact ⟨_,_,_,_,_,h,hL,SR.ci (by rw [Int64.toInt_toInt32,w32_eq]) hS',rfl,fun target hr=>XT.l2i X.here hx rfl hd rfl hr⟩
  case i2b =>
    obtain rfl:len=1:=by simpa [chk,ilen] using hchk
    obtain ⟨a,S',rfl,h⟩:=pi1_some h
    obtain ⟨y,St',rfl,rfl,hS'⟩:=SR.i1 hS
    exact ⟨_,_,_,_,_,h,hL,SR.ci (b8_eq _) hS',rfl,fun target hr=>XT.i2b X.here hx rfl hd rfl hr⟩
  case goto o =>
    have hc:len=3∧0≤(pc:Int)+o:=by simpa [chk] using hchk
    obtain ⟨rfl,h1⟩:=hc
    exact ⟨_,_,_,_,_,h,hL,hS,rfl,fun target hr=>XS.goto X.here hx rfl rfl hd h1 rfl hr⟩
  case if_icmp c o =>
    have hc:len=3∧0≤(pc:Int)+o:=by simpa [chk] using hchk
    obtain ⟨rfl,h1⟩:=hc
    obtain ⟨a,b',S',rfl,h⟩:=pi2_some h
    obtain ⟨y,x,St',rfl,rfl,rfl,hS'⟩:=SR.i2 hS
    rcases br_some h with ⟨hq,h⟩ | ⟨hq,h⟩
    · exact ⟨_,_,_,_,_,h,hL,hS',rfl,fun target hr=>XS.icmpYes X.here hx rfl rfl hd rfl (icmp_holds hq) h1 rfl hr⟩
    · exact ⟨_,_,_,_,_,h,hL,hS',rfl,fun target hr=>XS.icmpNo X.here hx rfl hd rfl (icmp_fails hq) hr⟩
  case ifCond c o =>
    have hc:len=3∧0≤(pc:Int)+o:=by simpa [chk] using hchk
    obtain ⟨rfl,h1⟩:=hc
    obtain ⟨a,S',rfl,h⟩:=pi1_some h
    obtain ⟨x,St',rfl,rfl,hS'⟩:=SR.i1 hS
    rcases br_some h with ⟨hq,h⟩ | ⟨hq,h⟩
    · exact ⟨_,_,_,_,_,h,hL,hS',rfl,fun target hr=>XS.ifYes X.here hx rfl rfl hd rfl (by rw [if0]; exact icmp_holds (y:=0) hq) h1 rfl hr⟩
    · exact ⟨_,_,_,_,_,h,hL,hS',rfl,fun target hr=>XS.ifNo X.here hx rfl hd rfl (by rw [if0]; exact icmp_fails (y:=0) hq) hr⟩
  case tableswitch d lo hi os =>
    have hc:(((0≤(pc:Int)+d∧∀ o∈os.toList,0≤(pc:Int)+o)∧hi=lo+os.toList.length - 1)∧-2147483648≤lo)∧hi≤2147483647:=by simpa only [chk,Bool.and_eq_true,decide_eq_true_eq,List.all_eq_true] using hchk
    obtain ⟨⟨⟨⟨h1,h2⟩,h3⟩,h4⟩,h5⟩:=hc
    obtain ⟨a,S',rfl,h⟩:=pi1_some h
    obtain ⟨x,St',rfl,rfl,hS'⟩:=SR.i1 hS
    rcases tsw_some _ _ _ h with ⟨o,n,hn,ho,h⟩ | ⟨hout,h⟩
    · refine ⟨_,_,_,_,_,h,hL,hS',rfl,fun target hr=>XS.tswIn X.here hx rfl rfl hd rfl (o:=o) ?_ ?_ (h2 o (List.mem_of_getElem? ho)) rfl hr⟩
      · have:=(List.getElem?_eq_some_iff.mp ho).1
        omega
      · have e:(x.toInt - lo).toNat=n:=by omega
        rw [e,← Array.getElem?_toList]; exact ho
    · refine ⟨_,_,_,_,_,h,hL,hS',rfl,fun target hr=>XS.tswOut X.here hx rfl rfl hd rfl ?_ h1 rfl hr⟩
      omega
  case dup =>
    obtain rfl:len=1:=by simpa [chk,ilen] using hchk
    obtain ⟨v,S',rfl,hv,h⟩:=dup_some h
    cases St with
    | nil=>exact hS.elim
    | cons x St' =>
      obtain ⟨h1,h2⟩:=hS
      exact ⟨_,_,_,_,_,h,hL,SR.cv h1 (SR.cv h1 h2),rfl,fun target hr=>XS.dup X.here hx rfl hd rfl (h1.cat hv) hr⟩
  case pop =>
    obtain rfl:len=1:=by simpa [chk,ilen] using hchk
    obtain ⟨v,S',rfl,hv,h⟩:=pop_some h
    cases St with
    | nil=>exact hS.elim
    | cons x St' =>
      obtain ⟨h1,h2⟩:=hS
      exact ⟨_,_,_,_,_,h,hL,h2,rfl,fun target hr=>XT.pop X.here hx rfl hd rfl (h1.cat hv) hr⟩
  case dup2 =>
    obtain rfl:len=1:=by simpa [chk,ilen] using hchk
    rcases dup2_some h with ⟨z,S',rfl,h⟩ | ⟨u,v,S',rfl,hu,hv,h⟩
    · obtain ⟨y,St',rfl,hy,hS'⟩:=SR.l1 hS
      exact ⟨_,_,_,_,_,h,hL,SR.cj hy (SR.cj hy hS'),rfl,fun target hr=>XT.dup2L X.here hx rfl hd rfl hr⟩
    · match St,hS with
      | x :: y :: St',⟨h1,h2,h3⟩=>exact ⟨_,_,_,_,_,h,hL,SR.cv h1 (SR.cv h2 (SR.cv h1 (SR.cv h2 h3))),rfl,fun target hr=>XT.dup2 X.here hx rfl hd rfl (h1.cat hu) (h2.cat hv) hr⟩
  all_goals cases h
end Jvm.OwnMini
namespace Jvm.OwnMini
open Jvm Jvm.ClassFile Sem Op Lib Jvm.Free Jvm.Stand Jvm.LawKit Jvm.RoadKit
/-! How an object of the small machine lies in the JVM's heap. -/
def rty:Nat→Option FieldType
  | 1=>some .int
  | 2=>some .boolean
  | 4=>some .long
  | _=>none
def kty:Nat→FieldType
  | 2=>.boolean
  | 3=>.byte
  | 4=>.long
  | _=>.int
def EV (kd:Nat) (v:Value) (z:Int):Prop:=(kd=4∧∃ x:Int64,v=.long x∧x.toInt=z)∨(kd≠4∧∃ x:Int32,v=.int x∧x.toInt=z)
def AOK (Z:State) (h:Heap) (a:Addr) (kd:Nat) (n:Int) (f:Int→Int):Prop:=∃ c:Cell,Arr Z h a c (kty kd)∧(c.slots.size:Int)=n∧∀ i:Nat,i<c.slots.size→∃ v,c.slots[i]?=some v∧EV kd v (f i)
abbrev FK:=Int→Option (Nat×Nat×Bool)
abbrev FN:=Int→String×String
def RepO (P:PT) (C:String) (fnm:FN) (fkd:FK) (Z:State) (h:Heap) (A:Nat→Addr) (n0 t:Nat) (m:OMem):Prop :=
  Exa Z h (A 0) C∧n0≤A 0 ∧
  (∀ f kd j fin,fkd f=some (kd,j,fin)→∃ v,Fld Z h (A 0) C (fnm f).1 (fnm f).2 v∧(kd=0→j≤t / 2→v=.ref (A j))∧(kd≠0→EV kd v (m 0 f))) ∧
  (∀ j,1≤j→j≤(t+1) / 2→n0≤A j∧∃ kd n,play P j=some (kd,n)∧AOK Z h (A j) kd n (m j)) ∧
  (∀ j j',j≤(t+1) / 2→j'≤(t+1) / 2→A j=A j'→j=j') ∧
  (∀ j,(t+1) / 2<j→∀ i,m j i=0)
def psum (P:PT):Nat→Nat
  | 0=>0
  | j+1=>psum P j+(match play P (j+1) with | some (_,n)=>n.toNat | none=>0)
def fty (P:PT) (kd j:Nat):FieldType:=match kd with
  | 0=>.array (match play P j with | some (k,_)=>kty k | none=>.int)
  | k=>kty k
def TabP (P:PT) (C:String) (fnm:FN) (fkd:FK) (nm:Nat→MethodName) (bys:Nat→ByteArray) (nA nf:Nat) (a0:Array Value) (Z:State):Prop :=
  (∀ q pc i len,pcode P q pc=some (i,len)→decode (bys q) pc=.ok (i,len)∧chk pc i len=true) ∧
  (∀ x f kd j fin,pfld P x=some (f,kd,j,fin)→(Jvm.Cond.fieldLink C x C (fnm f).1 (fnm f).2).before a0 Z=true∧fkd f=some (kd,j,fin)) ∧
  (∀ f kd j fin,fkd f=some (kd,j,fin)→((fin=false∧(Jvm.Cond.lays C C (fnm f).1 (fnm f).2).before a0 Z=true)∨(fin=true∧(Jvm.Cond.laysFinal C C (fnm f).1 (fnm f).2).before a0 Z=true))∧parseFieldDescriptor (fnm f).2=some (fty P kd j)∧(kd=0→1≤j)∧kd≤4) ∧
  (∀ f f' x x',fkd f=some x→fkd f'=some x'→f≠f'→(fnm f).1≠(fnm f').1) ∧
  (∀ f f' j fin fin',fkd f=some (0,j,fin)→fkd f'=some (0,j,fin')→f=f') ∧
  (∀ j kd n,play P j=some (kd,n)→1≤j∧j≤nA∧0≤n∧n≤60000000∧(kd=1∨kd=2∨kd=3∨kd=4)∧(Jvm.Cond.arrayClass (kty kd)).before a0 Z=true) ∧
  ((∀ x z,pcst P x=some (.inl z)→∃ v:Int32,(Jvm.Cond.constant C x v).before a0 Z=true∧v.toInt=z)∧(∀ x z,pcst P x=some (.inr (.inl z))→∃ v:Int64,(Jvm.Cond.constantLong C x v).before a0 Z=true∧v.toInt=z)) ∧
  (∀ x q,pmth P x=some q→(Jvm.Cond.methodLink C x (nm q)).before a0 Z=true) ∧
  (∀ q ps ml rk fr lc,pinf P q=some (ps,ml,rk,fr,lc)→(nm q).cls=C∧(Jvm.Cond.instanceMethod (nm q)).before a0 Z=true∧(Jvm.Cond.code (nm q) (bys q) ml (rty rk)).before a0 Z=true ∧
    (q≠0→(Jvm.Cond.privateMethod (nm q)).before a0 Z=true∨((Jvm.Cond.declares (nm q)).before a0 Z=true∧(Jvm.Cond.selects C (nm q) (nm q)).before a0 Z=true))∧∃ params,parseMethodDescriptor (nm q).desc=some ⟨params,rty rk⟩∧params.length=ps.length) ∧
  (∀ x,pobi P x=true→(Jvm.Cond.methodLink C x Lib.objectInit).before a0 Z=true) ∧
  ((Jvm.Cond.instanceMethod Lib.objectInit).before a0 Z=true∧(Jvm.Cond.code Lib.objectInit ⟨#[0xb1]⟩ 1 none).before a0 Z=true) ∧
  (Jvm.Cond.instantiable C nf).before a0 Z=true∧(Jvm.Cond.initialized C).before a0 Z=true∧plainName C=true∧(C≠"java/lang/invoke/MethodHandle"∧C≠"java/lang/invoke/VarHandle")∧(nm 0).name = "<init>" ∧
  (∀ ps ml rk fr lc,pinf P 0=some (ps,ml,rk,fr,lc)→rk=0)
section Rep
variable {P:PT} {C:String} {fnm:FN} {fkd:FK} {nm:Nat→MethodName} {bys:Nat→ByteArray} {nA nf:Nat} {a0:Array Value} {Z:State} {h h':Heap} {A:Nat→Addr} {n0 t:Nat} {m:OMem}
theorem TabP.laid (HT:TabP P C fnm fkd nm bys nA nf a0 Z) {f:Int} {kd j:Nat} {fin:Bool} (hf:fkd f=some (kd,j,fin)):Laid Z a0 C C (fnm f).1 (fnm f).2:=by
  obtain ⟨-,-,h3,-⟩:=HT
  rcases (h3 f kd j fin hf).1 with q | q
  · exact Or.inl q.2
  · exact Or.inr q.2
theorem TabP.slot (HT:TabP P C fnm fkd nm bys nA nf a0 Z) {f f':Int} {x x':Nat×Nat×Bool} (hf:fkd f=some x) (hf':fkd f'=some x') (hne:f≠f'):RoadKit.slotOf Z C (fnm f).1 (fnm f).2≠RoadKit.slotOf Z C (fnm f').1 (fnm f').2:=by
  obtain ⟨kd,j,fin⟩:=x
  obtain ⟨kd',j',fin'⟩:=x'
  have L1:=HT.laid hf
  have L2:=HT.laid hf'
  obtain ⟨-,-,h3,h4,-⟩:=HT
  exact slot_ne L1 L2 (h4 f f' _ _ hf hf' hne) (h3 f _ _ _ hf).2.1 (h3 f' _ _ _ hf').2.1
theorem RepO.ext (hR:RepO P C fnm fkd Z h A n0 t m) (E:Ext h h'):RepO P C fnm fkd Z h' A n0 t m:=by
  obtain ⟨r1,r2,r3,r4,r5,r6⟩:=hR
  refine ⟨r1.ext E,r2,fun f kd j fin hf=>?_,fun j h1 h2=>?_,r5,r6⟩
  · obtain ⟨v,q1,q2⟩:=r3 f kd j fin hf
    exact ⟨v,q1.ext E,q2⟩
  · obtain ⟨g1,kd,n,g2,c,g3,g4⟩:=r4 j h1 h2
    exact ⟨g1,kd,n,g2,c,g3.ext E,g4⟩
/-- the heap may change where the object isn't -/
theorem RepO.keep (hR:RepO P C fnm fkd Z h A n0 t m) (hk:∀ a c,h[a]?=some c→(∃ j,j≤(t+1) / 2∧a=A j)→h'[a]?=some c):RepO P C fnm fkd Z h' A n0 t m:=by
  obtain ⟨r1,r2,r3,r4,r5,r6⟩:=hR
  refine ⟨?_,r2,fun f kd j fin hf=>?_,fun j h1 h2=>?_,r5,r6⟩
  · obtain ⟨cell,k,q,r⟩:=r1
    exact ⟨cell,k,hk _ _ q ⟨0,by omega,rfl⟩,r⟩
  · obtain ⟨v,⟨cell,cf,k,i,ff,q,r⟩,q2⟩:=r3 f kd j fin hf
    exact ⟨v,⟨cell,cf,k,i,ff,hk _ _ q ⟨0,by omega,rfl⟩,r⟩,q2⟩
  · obtain ⟨g1,kd,n,g2,c,g3,g4⟩:=r4 j h1 h2
    exact ⟨g1,kd,n,g2,c,⟨hk _ _ g3.1 ⟨j,h2,rfl⟩,g3.2⟩,g4⟩
theorem sto_ne {k k':Nat} {i z:Int} (hk:k'≠k):sto m k i z k'=m k':=by
  funext i'
  unfold sto
  rw [if_neg (fun q=>hk q.1)]
theorem RepO.wrF (HT:TabP P C fnm fkd nm bys nA nf a0 Z) (hR:RepO P C fnm fkd Z h A n0 t m) {f:Int} {kd j:Nat} {fin:Bool} (hf:fkd f=some (kd,j,fin)) (hkd:kd≠0) {v:Value} {z:Int} (hv:EV kd v z)
    (W:Wr h h' (A 0) (RoadKit.slotOf Z C (fnm f).1 (fnm f).2) v):RepO P C fnm fkd Z h' A n0 t (sto m 0 f z):=by
  obtain ⟨r1,r2,r3,r4,r5,r6⟩:=hR
  refine ⟨r1.wr W,r2,fun f' kd' j' fin' hf'=>?_,fun j' h1 h2=>?_,r5,fun j' hj' i=>?_⟩
  · obtain ⟨v',q1,q2,q3⟩:=r3 f' kd' j' fin' hf'
    by_cases e:f'=f
    · subst e
      cases hf.symm.trans hf'
      exact ⟨v,q1.same W,fun q=>absurd q hkd,fun _=>by simpa [sto] using hv⟩
    · refine ⟨v',q1.other W (Or.inr (HT.slot hf' hf e)),q2,fun q=>?_⟩
      have:sto m 0 f z 0 f'=m 0 f':=by unfold sto; rw [if_neg (fun q=>e q.2)]
      rw [this]; exact q3 q
  · obtain ⟨g1,kd',n,g2,c,g3,g4⟩:=r4 j' h1 h2
    rw [sto_ne (by omega)]
    exact ⟨g1,kd',n,g2,c,g3.other W (fun q=>by have:=r5 j' 0 h2 (by omega) q; omega),g4⟩
  · rw [sto_ne (by omega)]; exact r6 j' hj' i
theorem RepO.wrP (HT:TabP P C fnm fkd nm bys nA nf a0 Z) (hR:RepO P C fnm fkd Z h A n0 t m) {f:Int} {j:Nat} {fin:Bool} (hf:fkd f=some (0,j,fin)) (ht:t+1=2*j)
    (W:Wr h h' (A 0) (RoadKit.slotOf Z C (fnm f).1 (fnm f).2) (.ref (A j))):RepO P C fnm fkd Z h' A n0 (t+1) m:=by
  obtain ⟨r1,r2,r3,r4,r5,r6⟩:=hR
  have e1:(t+1+1) / 2=(t+1) / 2:=by omega
  refine ⟨r1.wr W,r2,fun f' kd' j' fin' hf'=>?_,fun j' h1 h2=>?_,by rw [e1]; exact r5,by rw [e1]; exact r6⟩
  · obtain ⟨v',q1,q2,q3⟩:=r3 f' kd' j' fin' hf'
    by_cases e:f'=f
    · subst e
      cases hf.symm.trans hf'
      exact ⟨_,q1.same W,fun _ _=>rfl,fun q=>absurd rfl q⟩
    · refine ⟨v',q1.other W (Or.inr (HT.slot hf' hf e)),fun q1 q2'=>q2 q1 ?_,q3⟩
      have hne:j'≠j:=fun q=>by
        subst q1 q
        obtain ⟨-,-,-,-,h5,-⟩:=HT
        exact e (h5 f' f j' fin' fin hf' hf)
      omega
  · rw [e1] at h2
    obtain ⟨g1,kd',n,g2,c,g3,g4⟩:=r4 j' h1 h2
    exact ⟨g1,kd',n,g2,c,g3.other W (fun q=>by have:=r5 j' 0 h2 (by omega) q; omega),g4⟩
theorem RepO.wrA (hR:RepO P C fnm fkd Z h A n0 t m) {j:Nat} (h1:1≤j) (h2:j≤(t+1) / 2) {i:Nat} {v:Value} {z:Int} {kd:Nat} {n:Int} (hl:play P j=some (kd,n)) (hv:EV kd v z)
    (W:Wr h h' (A j) i v):RepO P C fnm fkd Z h' A n0 t (sto m j i z):=by
  obtain ⟨r1,r2,r3,r4,r5,r6⟩:=hR
  refine ⟨r1.wr W,r2,fun f' kd' j' fin' hf'=>?_,fun j' g1 g2=>?_,r5,fun j' hj' i'=>?_⟩
  · obtain ⟨v',q1,q2,q3⟩:=r3 f' kd' j' fin' hf'
    refine ⟨v',q1.other W (Or.inl fun q=>by have:=r5 0 j (by omega) h2 q; omega),q2,fun q=>?_⟩
    rw [sto_ne (by omega)]; exact q3 q
  · obtain ⟨k1,kd',n',k2,c,k3,k4,k5⟩:=r4 j' g1 g2
    by_cases e:j'=j
    · subst e
      cases hl.symm.trans k2
      refine ⟨k1,kd,n,hl,c.setSlot i v,k3.same W,by rw [sz_set]; exact k4,fun i' hi'=>?_⟩
      rw [sz_set] at hi'
      by_cases ei:i'=i
      · subst ei
        exact ⟨v,by simp [Cell.setSlot,hi'],by simpa [sto] using hv⟩
      · obtain ⟨w,w1,w2⟩:=k5 i' hi'
        refine ⟨w,?_,?_⟩
        · show (c.slots.setIfInBounds i v)[i']?=_
          rw [Array.getElem?_setIfInBounds_ne (fun q=>ei q.symm)]; exact w1
        · have:sto m j' i z j' i'=m j' i':=by unfold sto; rw [if_neg (fun q=>ei (by have:=q.2; omega))]
          rw [this]; exact w2
    · rw [sto_ne e]
      exact ⟨k1,kd',n',k2,c,k3.other W (fun q=>e (r5 j' j g2 h2 q)),k4,k5⟩
  · rw [sto_ne (by omega)]; exact r6 j' hj' i'
theorem RepO.lt (hR:RepO P C fnm fkd Z h A n0 t m) {j:Nat} (hj:j≤(t+1) / 2):A j<h.size:=by
  obtain ⟨r1,r2,r3,r4,r5,r6⟩:=hR
  by_cases e:j=0
  · subst e; exact r1.lt
  · obtain ⟨k1,kd',n',k2,c,k3,-⟩:=r4 j (by omega) hj
    exact k3.lt
def updA (A:Nat→Addr) (j:Nat) (a:Addr):Nat→Addr:=fun i=>if i=j then a else A i
theorem updA_ne {j i:Nat} {a:Addr} (h:i≠j):updA A j a i=A i:=by unfold updA; rw [if_neg h]
theorem updA_eq {j:Nat} {a:Addr}:updA A j a j=a:=by unfold updA; rw [if_pos rfl]
theorem RepO.new (hR:RepO P C fnm fkd Z h A n0 t m) (ht:t % 2=0) (hn:n0≤h.size) {kd:Nat} {n:Int} (hl:play P (t / 2+1)=some (kd,n)) (hkd:kd=1∨kd=2∨kd=3∨kd=4) (E:Ext h h') {x:Int32} (hx:x.toInt=n) (hx0:0≤n) {cA:ClassId}
    (hA:Arr Z h' h.size (newA cA (kty kd) x) (kty kd)):RepO P C fnm fkd Z h' (updA A (t / 2+1) h.size) n0 (t+1) m:=by
  have hlt:=fun j (hj:j≤(t+1) / 2)=>hR.lt hj
  obtain ⟨r1,r2,r3,r4,r5,r6⟩:=hR
  have e0:updA A (t / 2+1) h.size 0=A 0:=updA_ne (by omega)
  refine ⟨by rw [e0]; exact r1.ext E,by rw [e0]; exact r2,fun f kd j fin hf=>?_,fun j h1 h2=>?_,fun j j' h1 h2 hq=>?_,fun j hj=>r6 j (by omega)⟩
  · rw [e0]
    obtain ⟨v,q1,q2,q3⟩:=r3 f kd j fin hf
    refine ⟨v,q1.ext E,fun q4 q5=>?_,q3⟩
    rw [q2 q4 (by omega),updA_ne (by omega)]
  · by_cases e:j=t / 2+1
    · subst e
      rw [updA_eq]
      have sz:(newA cA (kty kd) x).slots.size=x.toNatClampNeg:=sz_new cA (kty kd) x
      have hc:(x.toNatClampNeg:Int)=n:=by simp only [Int32.toNatClampNeg]; omega
      refine ⟨hn,kd,n,hl,_,hA,by rw [sz]; exact hc,fun i hi=>⟨defaultValue (kty kd),?_,?_⟩⟩
      · rw [sz] at hi
        show (Array.replicate x.toNatClampNeg (defaultValue (kty kd)))[i]?=_
        simp [hi]
      · rw [r6 (t / 2+1) (by omega)]
        rcases hkd with rfl | rfl | rfl | rfl
        · exact Or.inr ⟨by decide,0,rfl,rfl⟩
        · exact Or.inr ⟨by decide,0,rfl,rfl⟩
        · exact Or.inr ⟨by decide,0,rfl,rfl⟩
        · exact Or.inl ⟨rfl,0,rfl,rfl⟩
    · rw [updA_ne e]
      obtain ⟨g1,kd,n,g2,c,g3,g4⟩:=r4 j h1 (by omega)
      exact ⟨g1,kd,n,g2,c,g3.ext E,g4⟩
  · by_cases e:j=t / 2+1
    · by_cases e':j'=t / 2+1
      · omega
      · subst e
        rw [updA_eq,updA_ne e'] at hq
        exact (Nat.ne_of_gt (hlt j' (by omega)) hq).elim
    · by_cases e':j'=t / 2+1
      · subst e'
        rw [updA_eq,updA_ne e] at hq
        exact (Nat.ne_of_lt (hlt j (by omega)) hq).elim
      · rw [updA_ne e,updA_ne e'] at hq
        exact r5 j j' (by omega) (by omega) hq
/-- nothing but the object's own cells has changed -/
def Sam (h h':Heap) (A:Nat→Addr) (b:Nat):Prop:=h.size≤h'.size∧∀ (a:Addr) (c:Cell),h[a]?=some c→(∀ j,j≤b→a≠A j)→h'[a]?=some c
theorem Sam.refl (h:Heap) (A:Nat→Addr) (b:Nat):Sam h h A b:=⟨Nat.le_refl _,fun _ _ q _=>q⟩
theorem Sam.ext (E:Ext h h') (b:Nat):Sam h h' A b:=⟨E.1,fun a c q _=>E.2 a c q⟩
theorem Sam.wr {j i b:Nat} {v:Value} (W:Wr h h' (A j) i v) (hj:j≤b):Sam h h' A b:=by
  refine ⟨by rw [W.size]; exact Nat.le_refl _,fun a c q hq=>?_⟩
  obtain ⟨cell,-,-,-,rfl⟩:=W
  rw [Array.getElem?_setIfInBounds_ne (fun e=>hq j hj e.symm)]; exact q
theorem Sam.trans {h1:Heap} {A1:Nat→Addr} {b b1:Nat} (S1:Sam h h1 A b) (S2:Sam h1 h' A1 b1) (hA:∀ j,j≤b→A1 j=A j) (hn:∀ j,b<j→j≤b1→h.size≤A1 j):Sam h h' A b:=by
  refine ⟨Nat.le_trans S1.1 S2.1,fun a c q hq=>S2.2 a c (S1.2 a c q hq) fun j hj e=>?_⟩
  by_cases hb:j≤b
  · exact hq j hb (by rw [e,hA j hb])
  · have h1:=(Array.getElem?_eq_some_iff.mp q).1
    exact Nat.not_lt.mpr (hn j (by omega) hj) (e ▸ h1)
end Rep
/-! entering a method -/
theorem lget_append_none:∀ (L:OLs) (n k:Nat) {v:OV},lget (L ++ List.replicate n none) k=some v→lget L k=some v
  | [],n,k,v,h=>by
    exfalso
    simp only [List.nil_append] at h
    induction n generalizing k with
    | zero=>simp [lget] at h
    | succ n ih =>
      cases k with
      | zero=>simp [List.replicate_succ,lget] at h
      | succ k=>exact ih k (by simpa [List.replicate_succ,lget] using h)
  | x :: xs,n,0,v,h=>h
  | x :: xs,n,k+1,v,h=>lget_append_none xs n k h
theorem laid_rel {A:Nat→Addr} {b:Nat}:∀ {as:List OV} {vs:List Value},SR A b as vs→(laid as).length=(Jvm.Sym.laidSlots vs).length∧(∀ k v,lget (laid as) k=some v→∃ x,(Jvm.Sym.laidSlots vs)[k]?=some (.val x)∧VR A b v x) ∧
    (∀ k,(Jvm.Sym.laidSlots vs)[k]?=some .second→∃ j v,k=j+1∧(Jvm.Sym.laidSlots vs)[j]?=some (.val v)∧v.category=2)∧(∀ k v,(Jvm.Sym.laidSlots vs)[k]?=some (.val v)→v.category=2→(Jvm.Sym.laidSlots vs)[k+1]?=some .second)
  | [],[],_=>⟨rfl,fun k v h=>by simp [laid,lget] at h,fun k h=>by simp [Jvm.Sym.laidSlots] at h,fun k v h=>by simp [Jvm.Sym.laidSlots] at h⟩
  | a :: as,x :: xs,⟨h1,h2⟩=>by
    obtain ⟨g1,g2,g3,g4⟩:=laid_rel h2
    by_cases hc:mcat a=2
    · have hx:x.category=2:=by rw [h1.cats]; exact hc
      have e1:Jvm.Sym.laidSlots (x :: xs)=.val x :: .second :: Jvm.Sym.laidSlots xs:=by simp [Jvm.Sym.laidSlots,hx]
      have e2:laid (a :: as)=some a :: none :: laid as:=by
        rcases a with z | z | z
        · cases hc
        · rfl
        · cases hc
      rw [e1,e2]
      refine ⟨by simp [g1],fun k v hk=>?_,fun k hk=>?_,fun k v hk hv=>?_⟩
      · match k,hk with
        | 0,hk=>cases hk; exact ⟨x,rfl,h1⟩
        | 1,hk=>cases hk
        | k+2,hk=>exact g2 k v hk
      · match k,hk with
        | 0,hk=>cases hk
        | 1,hk=>exact ⟨0,x,rfl,rfl,hx⟩
        | k+2,hk =>
          obtain ⟨j,v,rfl,q1,q2⟩:=g3 k hk
          exact ⟨j+2,v,rfl,q1,q2⟩
      · match k,hk with
        | 0,hk=>rfl
        | 1,hk=>cases hk
        | k+2,hk=>exact g4 k v hk hv
    · have hx:¬ x.category=2:=by rw [h1.cats]; exact hc
      have e1:Jvm.Sym.laidSlots (x :: xs)=.val x :: Jvm.Sym.laidSlots xs:=by simp [Jvm.Sym.laidSlots,hx]
      have e2:laid (a :: as)=some a :: laid as:=by
        rcases a with z | z | z
        · rfl
        · exact absurd rfl hc
        · rfl
      rw [e1,e2]
      refine ⟨by simp [g1],fun k v hk=>?_,fun k hk=>?_,fun k v hk hv=>?_⟩
      · match k,hk with
        | 0,hk=>cases hk; exact ⟨x,rfl,h1⟩
        | k+1,hk=>exact g2 k v hk
      · match k,hk with
        | 0,hk=>cases hk
        | k+1,hk =>
          obtain ⟨j,v,rfl,q1,q2⟩:=g3 k hk
          exact ⟨j+1,v,rfl,q1,q2⟩
      · match k,hk with
        | 0,hk=>cases hk; exact absurd hv hx
        | k+1,hk=>exact g4 k v hk hv
theorem entry_rel {A:Nat→Addr} {b n:Nat} {as:List OV} {vs:List Value} (h:SR A b as vs):LR A b (initL as n) (argsToLocals vs.toArray n):=by
  obtain ⟨g1,g2,g3,g4⟩:=laid_rel h
  have e:(argsToLocals vs.toArray n).toList=Jvm.Sym.laidSlots vs ++ List.replicate (n - (Jvm.Sym.laidSlots vs).length) Slot.unset:=Jvm.Sym.argsToLocals_toList _ _
  have ge:∀ k,(argsToLocals vs.toArray n)[k]?=(Jvm.Sym.laidSlots vs ++ List.replicate (n - (Jvm.Sym.laidSlots vs).length) Slot.unset)[k]?:=fun k=>by rw [← e,Array.getElem?_toList]
  have up:∀ k s,(Jvm.Sym.laidSlots vs)[k]?=some s→(argsToLocals vs.toArray n)[k]?=some s:=fun k s q=>by
    rw [ge,List.getElem?_append_left (List.getElem?_eq_some_iff.mp q).1]; exact q
  have down:∀ k s,(argsToLocals vs.toArray n)[k]?=some s→s≠Slot.unset→(Jvm.Sym.laidSlots vs)[k]?=some s:=fun k s q hs=>by
    rw [ge,List.getElem?_append] at q
    split at q
    · exact q
    · rw [List.getElem?_replicate] at q
      split at q
      · exact absurd (Option.some.inj q).symm hs
      · cases q
  refine ⟨?_,fun k v hk=>?_,fun k hk=>?_,fun k v hk hv=>?_⟩
  · rw [← Array.length_toList,e]
    simp [initL,g1]
  · obtain ⟨x,q1,q2⟩:=g2 k v (lget_append_none _ _ _ hk)
    exact ⟨x,up _ _ q1,q2⟩
  · obtain ⟨j,v,q1,q2,q3⟩:=g3 k (down k _ hk (by intro q; cases q))
    exact ⟨j,v,q1,up _ _ q2,q3⟩
  · exact up _ _ (g4 k v (down k _ hk (by intro q; cases q)) hv)
theorem popA_rel {A:Nat→Addr} {b:Nat}:∀ {ts:List Bool} {S:List OV} {acc as:List OV} {S':List OV} {St:List Value},popA ts S acc=some (as,S')→SR A b S St →
    ∃ B St',(∀ A' b' X,SR A' b' acc X→SR A' b' as (B ++ X))∧SR A b S' St'∧St=B.reverse ++ St'∧B.length=ts.length
  | [],S,acc,as,S',St,h,hS=>by
    cases h
    exact ⟨[],St,fun _ _ _ hX=>hX,hS,rfl,rfl⟩
  | false :: ts,.inl z :: S,acc,as,S',St,h,hS=>by
    obtain ⟨y,St1,rfl,hy,hS1⟩:=SR.i1 hS
    obtain ⟨B,St',q1,q2,q3,q4⟩:=popA_rel (ts:=ts) h hS1
    exact ⟨B ++ [.int y],St',fun A' b' X hX=>by simpa using q1 A' b' (.int y :: X) ⟨⟨y,rfl,hy⟩,hX⟩,q2,by simp [q3],by simp [q4]⟩
  | true :: ts,.inr (.inl z) :: S,acc,as,S',St,h,hS=>by
    obtain ⟨y,St1,rfl,hy,hS1⟩:=SR.l1 hS
    obtain ⟨B,St',q1,q2,q3,q4⟩:=popA_rel (ts:=ts) h hS1
    exact ⟨B ++ [.long y],St',fun A' b' X hX=>by simpa using q1 A' b' (.long y :: X) ⟨⟨y,rfl,hy⟩,hX⟩,q2,by simp [q3],by simp [q4]⟩
end Jvm.OwnMini
namespace Jvm.OwnMini
open Jvm Jvm.ClassFile Sem Op Lib Jvm.Free Jvm.Stand Jvm.LawKit Jvm.RoadKit
theorem retI' {p:Program} {l:Launch} {e:Env} {R:Room} {s:State} {m:MethodId} {args:Array Value} {below:List Frame} {meth:Method} {c:Code} {T:State} {locs:List Loc} {cells slots:Nat} (X:Stand p l e R s m args below meth c T locs cells slots) (hx:p.tables.exec=Jvm.exec) {pc:Nat} {Ls:Array Slot} {z:Int32} {rest:List Value} (hret:meth.sig.returnType=some .int) (hd:decode c.code pc=.ok (.ireturn,1)) {fs:List Frame}
    (hl:∀ (f:JFrame) (acts:List Action),f.method=m→f.locked=none→f.entered=[]→(doReturn e (T.setTop f) acts (some (.int z))).1=T.setFrames fs):Steps p.tables e below (T.setTop (mkF m pc Ls (.int z :: rest))) (T.setFrames fs) :=
  retOut X hx hret rfl (Or.inl ⟨rfl,Or.inl rfl,z,rfl⟩) hd hl
def RVl:Option OV→Option Value→Prop
  | none,v=>v=none
  | some (.inl z),v=>∃ x:Int32,v=some (.int x)∧x.toInt=z
  | some (.inr (.inl z)),v=>∃ x:Int64,v=some (.long x)∧x.toInt=z
  | some (.inr (.inr _)),_=>False
theorem RVl.push {A:Nat→Addr} {b:Nat} {r:Option OV} {v:Option Value} (h:RVl r v) {S:List OV} {St:List Value} (hS:SR A b S St):SR A b (pushR r S) (v.toList ++ St):=by
  rcases r with _ | z | z | z
  · cases h; exact hS
  · obtain ⟨x,rfl,e⟩:=h; exact ⟨⟨x,rfl,e⟩,hS⟩
  · obtain ⟨x,rfl,e⟩:=h; exact ⟨⟨x,rfl,e⟩,hS⟩
  · exact h.elim
/-- from where the walk stands it comes to its end -/
def EndP (P:PT) (C:String) (fnm:FN) (fkd:FK) (Z:State) (nA:Nat) (p:Program) (l:Launch) (e:Env) (R:Room) (s:State) (mi:MethodId) (args:Array Value) (below:List Frame) (meth:Method) (c:Code) (n0 q:Nat)
    (T:State) (A:Nat→Addr) (t:Nat) (locs:List Loc) (cells slots:Nat) (f0:JFrame) (r:Option OV) (t':Nat) (m':OMem):Prop :=
  ∃ (v:Option Value) (T':State) (A':Nat→Addr) (lw:List Loc) (cells' slots':Nat),
    Stand p l e R s mi args below meth c T' (locs ++ lw) cells' slots'∧RepO P C fnm fkd Z T'.heap A' n0 t' m' ∧
    (∀ j,j≤(t+1) / 2→A' j=A j)∧t≤t'∧(∀ j,(t+1) / 2<j→j≤(t'+1) / 2→T.heap.size≤A' j)∧Fr n0 lw ∧
    cells'+(nA - (t'+1) / 2)≤cells+(nA - (t+1) / 2)∧slots'+(psum P nA - psum P ((t'+1) / 2))≤slots+(psum P nA - psum P ((t+1) / 2)) ∧
    (q≠0→t'=t∧cells'=cells∧slots'=slots)∧Sam T.heap T'.heap A ((t+1) / 2)∧RVl r v∧(meth.sig.returnType=none→v=none) ∧
    ∀ fs,(∀ (f:JFrame) (acts:List Action),f.method=mi→f.locked=none→f.entered=[]→(doReturn e (T'.setTop f) acts v).1=T'.setFrames fs)→Steps p.tables e below (T.setTop f0) (T'.setFrames fs)
section Sound
variable {P:PT} {C:String} {fnm:FN} {fkd:FK} {nm:Nat→MethodName} {bys:Nat→ByteArray} {nA nf:Nat} {a0:Array Value} {Z:State}
variable {p:Program} {l:Launch} {e:Env} {R:Room} {s:State} {mi:MethodId} {args:Array Value} {below:List Frame} {meth:Method} {c:Code} {n0 q:Nat}
theorem EndP.trans {T T1:State} {A A1:Nat→Addr} {t t1:Nat} {locs l1:List Loc} {cells slots cells1 slots1:Nat} {f0 f1:JFrame} {r:Option OV} {t':Nat} {m':OMem}
    (E:EndP P C fnm fkd Z nA p l e R s mi args below meth c n0 q T1 A1 t1 (locs ++ l1) cells1 slots1 f1 r t' m') (hA:∀ j,j≤(t+1) / 2→A1 j=A j) (ht:t≤t1) (hn:∀ j,(t+1) / 2<j→j≤(t1+1) / 2→T.heap.size≤A1 j) (hF:Fr n0 l1)
    (hc:cells1+(nA - (t1+1) / 2)≤cells+(nA - (t+1) / 2)) (hs:slots1+(psum P nA - psum P ((t1+1) / 2))≤slots+(psum P nA - psum P ((t+1) / 2))) (hq:q≠0→t1=t∧cells1=cells∧slots1=slots) (hS:Sam T.heap T1.heap A ((t+1) / 2))
    (st:∀ target,Steps p.tables e below (T1.setTop f1) target→Steps p.tables e below (T.setTop f0) target):EndP P C fnm fkd Z nA p l e R s mi args below meth c n0 q T A t locs cells slots f0 r t' m':=by
  obtain ⟨v,T',A',lw,cells',slots',h1,h2,h3,h4,h5,h6,h7,h8,h9,h10,h11,h12,h13⟩:=E
  refine ⟨v,T',A',l1 ++ lw,cells',slots',by rw [← List.append_assoc]; exact h1,h2,fun j hj=>(h3 j (by omega)).trans (hA j hj),by omega,fun j g1 g2=>?_,hF.app h6,by omega,by omega,fun hq'=>?_,hS.trans h10 hA hn,h11,h12,fun fs hfs=>st _ (h13 fs hfs)⟩
  · by_cases hj:j≤(t1+1) / 2
    · rw [h3 j hj]; exact hn j g1 hj
    · exact Nat.le_trans hS.1 (h5 j (by omega) g2)
  · obtain ⟨a1,a2,a3⟩:=hq hq'
    obtain ⟨b1,b2,b3⟩:=h9 hq'
    exact ⟨b1.trans a1,b2.trans a2,b3.trans a3⟩
/-- a step that leaves the heap as it is -/
theorem EndP.still {T T1:State} {A:Nat→Addr} {t:Nat} {locs:List Loc} {cells slots:Nat} {f0 f1:JFrame} {r:Option OV} {t':Nat} {m':OMem}
    (E:EndP P C fnm fkd Z nA p l e R s mi args below meth c n0 q T1 A t locs cells slots f1 r t' m') (hh:T1.heap=T.heap) (st:∀ target,Steps p.tables e below (T1.setTop f1) target→Steps p.tables e below (T.setTop f0) target) :
    EndP P C fnm fkd Z nA p l e R s mi args below meth c n0 q T A t locs cells slots f0 r t' m' :=
  EndP.trans (l1:=[]) (by rw [List.append_nil]; exact E) (fun _ _=>rfl) (Nat.le_refl _) (fun j h1 h2=>by omega) (Fr.nil _) (Nat.le_refl _) (Nat.le_refl _) (fun _=>⟨rfl,rfl,rfl⟩) (by rw [hh]; exact Sam.refl _ _ _) st
def SoundAt (P:PT) (C:String) (fnm:FN) (fkd:FK) (bys:Nat→ByteArray) (nA:Nat) (Z:State) (l:Launch) (n:Nat):Prop :=
  ∀ q pc L S t m r t' m',runP P n q pc L S t m=some (r,t',m')→∀ ps ml rk fr lc,pinf P q=some (ps,ml,rk,fr,lc) →
  ∀ (p:Program) (e:Env) (R:Room) (s:State) (mi:MethodId) (args:Array Value) (below:List Frame) (meth:Method) (c:Code) (T:State) (locs:List Loc) (cells slots:Nat) (A:Nat→Addr) (Ls:Array Slot) (St:List Value) (n0:Nat),
    Stand p l e R s mi args below meth c T locs cells slots→p.tables.exec=Jvm.exec→Z.Warmed39 s.vm→s.vm.findClass C=some mi.cls→c.code=bys q→c.maxLocals=ml→meth.sig.returnType=rty rk→(q=0→meth.name = "<init>") →
    RepO P C fnm fkd Z T.heap A n0 t m→LR A ((t+1) / 2) L Ls→SR A ((t+1) / 2) S St→Ls.size=ml→n0≤T.heap.size→fr≤R.frames→lc≤R.locals→cells≤R.cells→slots≤R.slots →
    (q=0→cells+(nA - (t+1) / 2)≤R.cells∧slots+(psum P nA - psum P ((t+1) / 2))≤R.slots) →
    EndP P C fnm fkd Z nA p l e R s mi args below meth c n0 q T A t locs cells slots (mkF mi pc Ls St) r t' m'
/-- what a method of the object leaves -/
def QP (P:PT) (C:String) (fnm:FN) (fkd:FK) (Z:State) (n0 q t:Nat) (A:Nat→Addr) (h:Heap) (r:Option OV) (t':Nat) (m':OMem) (v:Option Value) (h':Heap) (L:List Loc):Prop :=
  ∃ A',RepO P C fnm fkd Z h' A' n0 t' m'∧(∀ j,j≤(t+1) / 2→A' j=A j)∧t≤t'∧(∀ j,(t+1) / 2<j→j≤(t'+1) / 2→h.size≤A' j)∧Fr n0 L∧Sam h h' A ((t+1) / 2)∧RVl r v∧(q≠0→t'=t)
theorem metP (HT:TabP P C fnm fkd nm bys nA nf a0 Z) {n:Nat} (hS:SoundAt P C fnm fkd bys nA Z l n) {ps:List Bool} {ml rk fr lc:Nat} (hq:pinf P q=some (ps,ml,rk,fr,lc)) {as:List OV} {t:Nat} {m:OMem} {r:Option OV} {t':Nat} {m':OMem}
    (hrun:runP P n q 0 (initL as ml) [] t m=some (r,t',m')) (hsz:(initL as ml).length≤ml) {A:Nat→Addr} {h:Heap} (hn0:n0≤h.size) (hR:RepO P C fnm fkd Z h A n0 t m) {vals:List Value} (hv:SR A ((t+1) / 2) as vals) {cl sl:Nat}
    (hcl:q=0→nA - (t+1) / 2≤cl∧psum P nA - psum P ((t+1) / 2)≤sl) :
    MetFree l (nm q) (head1 [Jvm.Cond.code (nm q) (bys q) ml (rty rk)] ({ frames:=fr,cells:=cl,slots:=sl,locals:=lc }:Room)) (fun a U=>a=vals.toArray∧Z.Warmed39 U.vm∧U.heap=h) (fun _ _ _ _ _=>True)
      (fun _ U o U'=>∃ v L,o=.returned v∧QP P C fnm fkd Z n0 q t A h r t' m' v U'.heap L∧FrameEnd U o U' L cl sl):=by
  have HT':=HT
  obtain ⟨-,-,-,-,-,-,-,-,hinf,-,-,-,-,hpn,-,hin,-⟩:=HT'
  obtain ⟨hcls,-⟩:=hinf q ps ml rk fr lc hq
  refine MetFree.of_bodySF (plainFor_of_name (by rw [hcls]; exact hpn)) hisR ?_
  intro p e s m' args below meth c s₁ Bd hml0 hP hK
  obtain ⟨rfl,hZ,hh⟩:=hP
  have X0:=Stand.of_body Bd
  have e0:s₁.heap=h:=by rw [← hh,Bd.state]; rfl
  have hown:s.vm.findClass C=some m'.cls:=by rw [← hcls]; exact findClass_of_methodNamed Bd.named
  have hnm:=(name_of_methodNamed Bd.named Bd.method).1
  have hL:=entry_rel (n:=ml) hv
  have hz:(argsToLocals vals.toArray ml).size=ml:=by
    rw [← hL.1]
    refine Nat.le_antisymm hsz ?_
    simp only [initL,List.length_append,List.length_replicate]; omega
  obtain ⟨v,T',A',lw,cells',slots',h1,h2,h3,h4,h5,h6,h7,h8,h9,h10,h11,h12,h13⟩:=hS q 0 _ [] t m r t' _ hrun ps ml rk fr lc hq p e _ s m' _ below meth c s₁ [] 0 0 A (argsToLocals vals.toArray ml) [] n0 X0 Bd.exec hZ hown Bd.bytes hml0 Bd.returns (fun q0=>by subst q0; exact hnm.trans hin)
    (by rw [e0]; exact hR) hL trivial hz (by rw [e0]; exact hn0) (Nat.le_refl _) (Nat.le_refl _) (Nat.zero_le _) (Nat.zero_le _) (fun q0=>by have:=hcl q0; exact ⟨by show 0+_≤cl; omega,by show 0+_≤sl; omega⟩)
  rw [e0] at h5 h10
  obtain ⟨fs,hr,hrun',hended,hW,hsame⟩:=h1.leave (v:=v) h12
  refine ⟨_,_,h13 fs hr,hrun',hended,v,_,rfl,⟨A',h2,h3,h4,h5,h6,h10,h11,fun q0=>(h9 q0).1⟩,⟨_,rfl⟩,hW,hsame.mono ?_ ?_⟩
  · by_cases q0:q=0
    · have:=(hcl q0).1; omega
    · have:=(h9 q0).2.1; omega
  · by_cases q0:q=0
    · have:=(hcl q0).2; omega
    · have:=(h9 q0).2.2; omega
end Sound
end Jvm.OwnMini
namespace Jvm.OwnMini
open Jvm Jvm.ClassFile Sem Op Lib Jvm.Free Jvm.Stand Jvm.LawKit Jvm.RoadKit
section Inv
variable {P:PT} {k:Nat→Nat→OLs→List OV→Nat→OMem→RT} {q pc len t:Nat} {L:OLs} {S:List OV} {m:OMem} {r:Option OV×Nat×OMem}
theorem getfield_some {x:Nat} (h:stepS P k q pc L S t m (.getfield x) len=some r):∃ S',S=.inr (.inr 0) :: S' ∧
    ((∃ f j fin,pfld P x=some (f,0,j,fin)∧j≤t / 2∧k q (pc+len) L (vr j :: S') t m=some r)∨(∃ f kd j fin,pfld P x=some (f,kd,j,fin)∧(kd=1∨kd=2)∧k q (pc+len) L (vi (m 0 f) :: S') t m=some r)∨(∃ f j fin,pfld P x=some (f,4,j,fin)∧k q (pc+len) L (vl (m 0 f) :: S') t m=some r)):=by
  simp only [stepS] at h
  split at h
  · refine ⟨_,rfl,?_⟩
    split at h
    · rename_i f j fin hf
      cases hb:Nat.ble j (t / 2) with
      | false=>rw [hb] at h; cases h
      | true=>rw [hb] at h; exact Or.inl ⟨f,j,fin,hf,Nat.le_of_ble_eq_true hb,h⟩
    · rename_i f j fin hf; exact Or.inr (Or.inl ⟨f,1,j,fin,hf,Or.inl rfl,h⟩)
    · rename_i f j fin hf; exact Or.inr (Or.inl ⟨f,2,j,fin,hf,Or.inr rfl,h⟩)
    · rename_i f j fin hf; exact Or.inr (Or.inr ⟨f,j,fin,hf,h⟩)
    · cases h
  · cases h
theorem cond_some {α:Type} {b:Bool} {x:Option α} {a:α} (h:cond b x none=some a):b=true∧x=some a:=by
  cases b
  · cases h
  · exact ⟨rfl,h⟩
theorem putfield_some {x:Nat} (h:stepS P k q pc L S t m (.putfield x) len=some r) :
    (∃ f j fin S',pfld P x=some (f,0,j,fin)∧S=.inr (.inr j) :: .inr (.inr 0) :: S'∧t+1=2*j∧q=0∧k q (pc+len) L S' (t+1) m=some r) ∨
    (∃ f kd j fin z S',pfld P x=some (f,kd,j,fin)∧(kd=1∨kd=2)∧S=.inl z :: .inr (.inr 0) :: S'∧(fin=false∨q=0)∧k q (pc+len) L S' t (sto m 0 f (if kd=2 then z % 2 else z))=some r) ∨
    (∃ f j fin z S',pfld P x=some (f,4,j,fin)∧S=.inr (.inl z) :: .inr (.inr 0) :: S'∧(fin=false∨q=0)∧k q (pc+len) L S' t (sto m 0 f z)=some r):=by
  have fq:∀ {fin:Bool},(!fin || Nat.beq q 0)=true→fin=false∨q=0:=fun {fin} hh=>by
    cases fin
    · exact Or.inl rfl
    · exact Or.inr (Nat.eq_of_beq_eq_true (by simpa using hh))
  simp only [stepS] at h
  split at h
  · rename_i f j fin hf
    split at h
    · rename_i j' S'
      obtain ⟨hb,hh⟩:=cond_some h
      simp only [Bool.and_eq_true] at hb
      obtain ⟨⟨h1,h2⟩,h3⟩:=hb
      cases Nat.eq_of_beq_eq_true h1
      exact Or.inl ⟨f,_,fin,S',hf,rfl,Nat.eq_of_beq_eq_true h2,Nat.eq_of_beq_eq_true h3,hh⟩
    · cases h
  · rename_i f j fin hf
    split at h
    · obtain ⟨hb,h⟩:=cond_some h
      exact Or.inr (Or.inl ⟨f,1,j,fin,_,_,hf,Or.inl rfl,rfl,fq hb,h⟩)
    · cases h
  · rename_i f j fin hf
    split at h
    · obtain ⟨hb,h⟩:=cond_some h
      exact Or.inr (Or.inl ⟨f,2,j,fin,_,_,hf,Or.inr rfl,rfl,fq hb,h⟩)
    · cases h
  · rename_i f j fin hf
    split at h
    · obtain ⟨hb,h⟩:=cond_some h
      exact Or.inr (Or.inr ⟨f,j,fin,_,_,hf,rfl,fq hb,h⟩)
    · cases h
  · cases h
theorem ald_some {kd:Nat→Bool} {f:Nat→Int→List OV→RT} (h:ald P kd S t f=some r):∃ i j S' k n,S=.inl i :: .inr (.inr j) :: S'∧play P j=some (k,n)∧kd k=true∧j≤t / 2∧0≤i∧i<n∧f j i S'=some r:=by
  simp only [ald] at h
  split at h
  · split at h
    · rename_i hl
      obtain ⟨hb,h⟩:=cond_some h
      simp only [Bool.and_eq_true] at hb
      split at h
      · rename_i hc
        exact ⟨_,_,_,_,_,rfl,hl,hb.1,Nat.le_of_ble_eq_true hb.2,hc.1,hc.2,h⟩
      · cases h
    · cases h
  · cases h
theorem asi_some {kd:Nat→Bool} {f:Nat→Nat→Int→Int→List OV→RT} (h:asi P kd S t f=some r):∃ z i j S' k n,S=.inl z :: .inl i :: .inr (.inr j) :: S'∧play P j=some (k,n)∧kd k=true∧j≤t / 2∧0≤i∧i<n∧f k j i z S'=some r:=by
  simp only [asi] at h
  split at h
  · split at h
    · rename_i hl
      obtain ⟨hb,h⟩:=cond_some h
      simp only [Bool.and_eq_true] at hb
      split at h
      · rename_i hc
        exact ⟨_,_,_,_,_,_,rfl,hl,hb.1,Nat.le_of_ble_eq_true hb.2,hc.1,hc.2,h⟩
      · cases h
    · cases h
  · cases h
theorem asl_some {kd:Nat→Bool} {f:Nat→Int→Int→List OV→RT} (h:asl P kd S t f=some r):∃ z i j S' k n,S=.inr (.inl z) :: .inl i :: .inr (.inr j) :: S'∧play P j=some (k,n)∧kd k=true∧j≤t / 2∧0≤i∧i<n∧f j i z S'=some r:=by
  simp only [asl] at h
  split at h
  · split at h
    · rename_i hl
      obtain ⟨hb,h⟩:=cond_some h
      simp only [Bool.and_eq_true] at hb
      split at h
      · rename_i hc
        exact ⟨_,_,_,_,_,_,rfl,hl,hb.1,Nat.le_of_ble_eq_true hb.2,hc.1,hc.2,h⟩
      · cases h
    · cases h
  · cases h
theorem arraylength_some (h:stepS P k q pc L S t m .arraylength len=some r):∃ j S' kd n,S=.inr (.inr j) :: S'∧play P j=some (kd,n)∧j≤t / 2∧k q (pc+len) L (vi n :: S') t m=some r:=by
  simp only [stepS] at h
  split at h
  · split at h
    · rename_i hl
      obtain ⟨hb,h⟩:=cond_some h
      exact ⟨_,_,_,_,rfl,hl,Nat.le_of_ble_eq_true hb,h⟩
    · cases h
  · cases h
theorem newarray_some {a:ArrayType} (h:stepS P k q pc L S t m (.newarray a) len=some r):∃ S' kd n,S=.inl n :: S'∧play P (t / 2+1)=some (kd,n)∧t % 2=0∧kd=akind a∧q=0∧k q (pc+len) L (vr (t / 2+1) :: S') (t+1) m=some r:=by
  simp only [stepS] at h
  split at h
  · split at h
    · rename_i hl
      obtain ⟨hb,hh⟩:=cond_some h
      simp only [Bool.and_eq_true] at hb
      obtain ⟨⟨h1,h2⟩,h3⟩:=hb
      split at hh
      · rename_i hz
        subst hz
        exact ⟨_,_,_,rfl,hl,Nat.eq_of_beq_eq_true h1,Nat.eq_of_beq_eq_true h2,Nat.eq_of_beq_eq_true h3,hh⟩
      · cases hh
    · cases h
  · cases h
theorem invokespecial_some {x:Nat} (h:stepS P k q pc L S t m (.invokespecial x) len=some r):∃ S' ps ml rk fr lc,S=.inr (.inr 0) :: S'∧pinf P q=some (ps,ml,rk,fr,lc)∧pobi P x=true∧1≤fr∧cats S'+12≤lc∧k q (pc+len) L S' t m=some r:=by
  simp only [stepS] at h
  split at h
  · split at h
    · rename_i hl
      obtain ⟨hb,h⟩:=cond_some h
      simp only [Bool.and_eq_true] at hb
      obtain ⟨⟨h1,h2⟩,h3⟩:=hb
      exact ⟨_,_,_,_,_,_,rfl,hl,h1,Nat.le_of_ble_eq_true h2,Nat.le_of_ble_eq_true h3,h⟩
    · cases h
  · cases h
theorem invokevirtual_some {x:Nat} (h:stepS P k q pc L S t m (.invokevirtual x) len=some r):∃ q' ps ml rk fr' lc' ps0 ml0 rk0 fr lc as S' y,pmth P x=some q'∧pinf P q'=some (ps,ml,rk,fr',lc')∧pinf P q=some (ps0,ml0,rk0,fr,lc)∧popA ps S []=some (as,.inr (.inr 0) :: S') ∧
    fr'+1≤fr∧cats S'+(ml+11)+lc'≤lc∧q'≠0∧(initL (vr 0 :: as) ml).length≤ml∧k q' 0 (initL (vr 0 :: as) ml) [] t m=some y∧k q (pc+len) L (pushR y.1 S') y.2.1 y.2.2=some r:=by
  simp only [stepS] at h
  split at h
  · rename_i q' hq'
    split at h
    · rename_i ps ml rk fr' lc' ps0 ml0 rk0 fr lc h1 h2
      split at h
      · rename_i as S' hp
        obtain ⟨hb,h⟩:=cond_some h
        simp only [Bool.and_eq_true] at hb
        obtain ⟨⟨⟨g1,g2⟩,g3⟩,g4⟩:=hb
        obtain ⟨y,h3,h4⟩:=Option.bind_eq_some_iff.mp h
        exact ⟨q',ps,ml,rk,fr',lc',ps0,ml0,rk0,fr,lc,as,S',y,hq',h1,h2,hp,Nat.le_of_ble_eq_true g1,Nat.le_of_ble_eq_true g2,fun e=>by subst e; simp at g3,Nat.le_of_ble_eq_true g4,h3,h4⟩
      · cases h
    · cases h
  · cases h
theorem ireturn_some (h:stepS P k q pc L S t m .ireturn len=some r):∃ z S' ps ml rk fr lc,S=.inl z :: S'∧pinf P q=some (ps,ml,rk,fr,lc)∧((rk=1∧r=(some (vi z),t,m))∨(rk=2∧r=(some (vi (z % 2)),t,m))):=by
  simp only [stepS] at h
  split at h
  · split at h
    · rename_i hl; cases h; exact ⟨_,_,_,_,_,_,_,rfl,hl,Or.inl ⟨rfl,rfl⟩⟩
    · rename_i hl; cases h; exact ⟨_,_,_,_,_,_,_,rfl,hl,Or.inr ⟨rfl,rfl⟩⟩
    · cases h
  · cases h
theorem lreturn_some (h:stepS P k q pc L S t m .lreturn len=some r):∃ z S' ps ml fr lc,S=.inr (.inl z) :: S'∧pinf P q=some (ps,ml,4,fr,lc)∧r=(some (vl z),t,m):=by
  simp only [stepS] at h
  split at h
  · split at h
    · rename_i hl; cases h; exact ⟨_,_,_,_,_,_,rfl,hl,rfl⟩
    · cases h
  · cases h
theorem return_some (h:stepS P k q pc L S t m .return_ len=some r):∃ ps ml fr lc,S=[]∧pinf P q=some (ps,ml,0,fr,lc)∧r=(none,t,m):=by
  simp only [stepS] at h
  split at h
  · split at h
    · rename_i hl; cases h; exact ⟨_,_,_,_,rfl,hl,rfl⟩
    · cases h
  · cases h
end Inv
end Jvm.OwnMini
namespace Jvm.OwnMini
open Jvm Jvm.ClassFile Sem Op Lib Jvm.Free Jvm.Stand Jvm.LawKit Jvm.RoadKit
theorem kty_akind:∀ {a:ArrayType} {kd:Nat},kd=akind a→(kd=1∨kd=2∨kd=3∨kd=4)→newarray.typeOf a=kty kd:=by
  intro a kd h hk
  cases a <;> simp only [akind] at h <;> subst h <;> first | rfl | (rcases hk with q | q | q | q <;> cases q)
theorem idx32 {j:Int32} {n:Nat} (h0:0≤j.toInt) (h1:j.toInt<n):¬ (j<0∨n≤j.toNatClampNeg):=by
  simp only [Int32.lt_iff_toInt_lt,Int32.toNatClampNeg,Int32.reduceToInt]; omega
theorem clamp32 {j:Int32} (h0:0≤j.toInt):(j.toNatClampNeg:Int)=j.toInt:=by
  simp only [Int32.toNatClampNeg]; omega
theorem EV.int {kd:Nat} {v:Value} {z:Int} (h:EV kd v z) (hk:kd≠4):∃ x:Int32,v=.int x∧x.toInt=z:=by
  rcases h with ⟨q,-⟩ | ⟨-,q⟩
  · exact absurd q hk
  · exact q
theorem EV.long {kd:Nat} {v:Value} {z:Int} (h:EV kd v z) (hk:kd=4):∃ x:Int64,v=.long x∧x.toInt=z:=by
  rcases h with ⟨-,q⟩ | ⟨q,-⟩
  · exact q
  · exact absurd hk q
theorem psum_mono (P:PT) {a b:Nat} (h:a≤b):psum P a≤psum P b:=by
  induction h with
  | refl=>exact Nat.le_refl _
  | step _ ih=>exact Nat.le_trans ih (Nat.le_add_right _ _)
theorem soundP {P:PT} {C:String} {fnm:FN} {fkd:FK} {nm:Nat→MethodName} {bys:Nat→ByteArray} {nA nf:Nat} {a0:Array Value} {Z:State} (HT:TabP P C fnm fkd nm bys nA nf a0 Z) (l:Launch):∀ n,SoundAt P C fnm fkd bys nA Z l n
  | 0=>fun q pc L S t m r t' m' h=>by cases h
  | n+1=>by
    intro q pc L0 S t m r t' m' h ps ml rk fr lc hq p e R s mi args below meth c T locs cells slots A Ls St n0 X hx hZ hown hby hml hret hini hR hL0 hSt hsz hn0 hfr hlc hce hsl hroom
    have IH:=soundP HT l n
    have HT':=HT
    obtain ⟨tcode,tfld,tfkd,-,-,tlay,tcst,tmth,tinf,tobi,⟨tob1,tob2⟩,tins,tini,tpn,thn,tnm,tall⟩:=HT'
    replace h:stepP P (runP P n) q pc L0 S t m=some (r,t',m'):=h
    unfold stepP at h
    cases hcd:pcode P q pc with
    | none=>rw [hcd] at h; cases h
    | some il =>
      obtain ⟨i,len⟩:=il
      rw [hcd] at h
      replace h:stepI P (runP P n) q pc (mask (pliv P q pc) L0) S t m i len=some (r,t',m'):=h
      have hL:=hL0.mask (pliv P q pc)
      generalize mask (pliv P q pc) L0=L at h hL
      obtain ⟨hdec,hchk⟩:=tcode q pc i len hcd
      have hd:decode c.code pc=.ok (i,len):=by rw [hby]; exact hdec
      have hcst:(∀ x z,pcst P x=some (.inl z)→∃ v:Int32,(Jvm.Cond.constant C x v).before args s=true∧v.toInt=z)∧(∀ x z,pcst P x=some (.inr (.inl z))→∃ v:Int64,(Jvm.Cond.constantLong C x v).before args s=true∧v.toInt=z) :=
        ⟨fun x z hz=>by obtain ⟨v,h1,h2⟩:=tcst.1 x z hz; exact ⟨v,mv hZ h1,h2⟩,fun x z hz=>by obtain ⟨v,h1,h2⟩:=tcst.2 x z hz; exact ⟨v,mv hZ h1,h2⟩⟩
      -- going on from the same heap
      have go:∀ {T1:State} {pc':Nat} {L':OLs} {S':List OV} {Ls':Array Slot} {St':List Value},Stand p l e R s mi args below meth c T1 locs cells slots→T1.heap=T.heap→runP P n q pc' L' S' t m=some (r,t',m')→LR A ((t+1) / 2) L' Ls'→SR A ((t+1) / 2) S' St'→Ls'.size=ml →
          (∀ target,Steps p.tables e below (T1.setTop (mkF mi pc' Ls' St')) target→Steps p.tables e below (T.setTop (mkF mi pc Ls St)) target) →
          EndP P C fnm fkd Z nA p l e R s mi args below meth c n0 q T A t locs cells slots (mkF mi pc Ls St) r t' m':=fun X1 hh hrun hL1 hS1 hz1 st =>
        (IH q _ _ _ t m r t' m' hrun ps ml rk fr lc hq p e R s mi args below meth c _ locs cells slots A _ _ n0 X1 hx hZ hown hby hml hret hini (by rw [hh]; exact hR) hL1 hS1 hz1 (by rw [hh]; exact hn0) hfr hlc hce hsl hroom).still hh st
      -- going on from a heap in which the object's own cells were written
      have gw:∀ {T1:State} {t1:Nat} {m1:OMem} {pc':Nat} {S':List OV} {St':List Value} {j sl:Nat} {v:Value},Stand p l e R s mi args below meth c T1 (locs ++ [⟨A j,sl⟩]) cells slots→j≤(t+1) / 2→Wr T.heap T1.heap (A j) sl v→RepO P C fnm fkd Z T1.heap A n0 t1 m1→t≤t1→(t1+1) / 2=(t+1) / 2→(q≠0→t1=t) →
          runP P n q pc' L S' t1 m1=some (r,t',m')→SR A ((t+1) / 2) S' St' →
          (∀ target,Steps p.tables e below (T1.setTop (mkF mi pc' Ls St')) target→Steps p.tables e below (T.setTop (mkF mi pc Ls St)) target) →
          EndP P C fnm fkd Z nA p l e R s mi args below meth c n0 q T A t locs cells slots (mkF mi pc Ls St) r t' m':=fun {T1 t1 m1 pc' S' St' j sl v} X1 hj W hR1 ht1 et hqt hrun hS1 st=>by
        refine EndP.trans (l1:=[⟨A j,sl⟩]) (IH q _ _ _ t1 m1 r t' m' hrun ps ml rk fr lc hq p e R s mi args below meth c T1 _ cells slots A Ls St' n0 X1 hx hZ hown hby hml hret hini hR1 (by rw [et]; exact hL) (by rw [et]; exact hS1) hsz (by rw [W.size]; exact hn0) hfr hlc hce hsl (fun q0=>by rw [et]; exact hroom q0)) (fun _ _=>rfl) ht1 (fun j h1 h2=>by omega) ?_ (by omega) (by rw [et]; exact Nat.le_refl _) (fun q0=>⟨hqt q0,rfl,rfl⟩) (Sam.wr W hj) st
        intro y hy
        cases List.mem_singleton.mp hy
        by_cases e0:j=0
        · subst e0; exact hR.2.1
        · exact (hR.2.2.2.1 j (by omega) hj).1
      cases hsp:isSpec i with
      | false =>
        simp only [stepI,hsp,cond_false] at h
        obtain ⟨pc',L',S',Ls',St',h1,h2,h3,h4,h5⟩:=pstep_sound (cst:=pcst P) (k:=fun pc' L' S'=>runP P n q pc' L' S' t m) X hx hown hcst hL hSt hd hchk h
        exact go X rfl h1 h2 h3 (h4.trans hsz) h5
      | true =>
      simp only [stepI,hsp,cond_true] at h
      clear hcd
      cases i
      case getfield x =>
        obtain rfl:len=3:=by simpa [chk,ilen] using hchk
        obtain ⟨S',rfl,hgf⟩:=getfield_some h
        clear h
        obtain ⟨hb0,St',rfl,hS'⟩:=SR.r1 hSt
        rcases hgf with ⟨f,j,fin,hf,hj,h⟩ | ⟨f,kd,j,fin,hf,hkd,h⟩ | ⟨f,j,fin,hf,h⟩
        · obtain ⟨w,hk⟩:=tfld x _ _ _ _ hf
          obtain ⟨v,F,hv1,-⟩:=hR.2.2.1 f _ _ _ hk
          obtain ⟨T1,X1,e1,st⟩:=getF X hx hZ hown (host:="") (Or.inl w) Via.refl rfl F (g:=mkF mi pc Ls (.ref (A 0) :: St')) rfl rfl hd
          obtain rfl:=hv1 rfl hj
          exact go X1 e1 h hL (SR.cr (by omega) hS') hsz st
        · obtain ⟨w,hk⟩:=tfld x _ _ _ _ hf
          obtain ⟨v,F,-,hv⟩:=hR.2.2.1 f _ _ _ hk
          obtain ⟨T1,X1,e1,st⟩:=getF X hx hZ hown (host:="") (Or.inl w) Via.refl rfl F (g:=mkF mi pc Ls (.ref (A 0) :: St')) rfl rfl hd
          obtain ⟨y,rfl,hy⟩:=(hv (by omega)).int (by omega)
          exact go X1 e1 h hL (SR.ci hy hS') hsz st
        · obtain ⟨w,hk⟩:=tfld x _ _ _ _ hf
          obtain ⟨v,F,-,hv⟩:=hR.2.2.1 f _ _ _ hk
          obtain ⟨T1,X1,e1,st⟩:=getF X hx hZ hown (host:="") (Or.inl w) Via.refl rfl F (g:=mkF mi pc Ls (.ref (A 0) :: St')) rfl rfl hd
          obtain ⟨y,rfl,hy⟩:=(hv (by omega)).long rfl
          exact go X1 e1 h hL (SR.cj hy hS') hsz st
      case putfield x =>
        obtain rfl:len=3:=by simpa [chk,ilen] using hchk
        have lays:∀ {f:Int} {kd j:Nat} {fin:Bool},fkd f=some (kd,j,fin)→(fin=false∨q=0)→(Jvm.Cond.lays C C (fnm f).1 (fnm f).2).before a0 Z=true∨((Jvm.Cond.laysFinal C C (fnm f).1 (fnm f).2).before a0 Z=true∧C=C∧meth.name = "<init>"):=fun hk hfq=>by
          rcases (tfkd _ _ _ _ hk).1 with ⟨-,q1⟩ | ⟨q0,q1⟩
          · exact Or.inl q1
          · rcases hfq with hfq | hfq
            · rw [hfq] at q0; cases q0
            · exact Or.inr ⟨q1,rfl,hini hfq⟩
        rcases putfield_some h with ⟨f,j,fin,S',hf,rfl,ht,hq0,h⟩ | ⟨f,kd,j,fin,z,S',hf,hkd,rfl,hfq,h⟩ | ⟨f,j,fin,z,S',hf,rfl,hfq,h⟩
        · obtain ⟨w,hk⟩:=tfld x _ _ _ _ hf
          obtain ⟨hbj,St1,rfl,hS1⟩:=SR.r1 hSt
          obtain ⟨hb0,St',rfl,hS'⟩:=SR.r1 hS1
          obtain ⟨v,F,-⟩:=hR.2.2.1 f _ _ _ hk
          obtain ⟨T1,h1,X1,e1,W,st⟩:=putFN X hx hZ hown w Via.refl rfl F hR.1 (lays hk (Or.inr hq0)) tins (tfkd _ _ _ _ hk).2.1 (v:=.ref (A j)) (v':=.ref (A j)) rfl rfl (g:=mkF mi pc Ls (.ref (A j) :: .ref (A 0) :: St')) rfl rfl hd
          subst e1
          exact gw X1 (by omega) W (hR.wrP HT hk ht W) (by omega) (by omega) (fun q0=>absurd hq0 q0) h hS' st
        · obtain ⟨w,hk⟩:=tfld x _ _ _ _ hf
          obtain ⟨y,St1,rfl,hy,hS1⟩:=SR.i1 hSt
          obtain ⟨hb0,St',rfl,hS'⟩:=SR.r1 hS1
          obtain ⟨v,F,-⟩:=hR.2.2.1 f _ _ _ hk
          rcases hkd with rfl | rfl
          · obtain ⟨T1,h1,X1,e1,W,st⟩:=putFN X hx hZ hown w Via.refl rfl F hR.1 (lays hk hfq) tins (tfkd _ _ _ _ hk).2.1 (v:=.int y) (v':=.int y) rfl rfl (g:=mkF mi pc Ls (.int y :: .ref (A 0) :: St')) rfl rfl hd
            subst e1
            exact gw X1 (by omega) W (hR.wrF HT hk (by omega) (Or.inr ⟨by omega,y,rfl,hy⟩) W) (Nat.le_refl _) rfl (fun _=>rfl) h hS' st
          · obtain ⟨T1,h1,X1,e1,W,st⟩:=putFN X hx hZ hown w Via.refl rfl F hR.1 (lays hk hfq) tins (tfkd _ _ _ _ hk).2.1 (v:=.int y) (v':=.int (y &&& 1)) rfl (fits_nar_bool y) (g:=mkF mi pc Ls (.int y :: .ref (A 0) :: St')) rfl rfl hd
            subst e1
            exact gw X1 (by omega) W (hR.wrF HT hk (by omega) (Or.inr ⟨by omega,y &&& 1,rfl,by rw [and1_eq,hy]; rfl⟩) W) (Nat.le_refl _) rfl (fun _=>rfl) h hS' st
        · obtain ⟨w,hk⟩:=tfld x _ _ _ _ hf
          obtain ⟨y,St1,rfl,hy,hS1⟩:=SR.l1 hSt
          obtain ⟨hb0,St',rfl,hS'⟩:=SR.r1 hS1
          obtain ⟨v,F,-⟩:=hR.2.2.1 f _ _ _ hk
          obtain ⟨T1,h1,X1,e1,W,st⟩:=putFN X hx hZ hown w Via.refl rfl F hR.1 (lays hk hfq) tins (tfkd _ _ _ _ hk).2.1 (v:=.long y) (v':=.long y) rfl rfl (g:=mkF mi pc Ls (.long y :: .ref (A 0) :: St')) rfl rfl hd
          subst e1
          exact gw X1 (by omega) W (hR.wrF HT hk (by omega) (Or.inl ⟨rfl,y,rfl,hy⟩) W) (Nat.le_refl _) rfl (fun _=>rfl) h hS' st
      case iaload =>
        obtain rfl:len=1:=by simpa [chk,ilen] using hchk
        obtain ⟨i,j,S',kd,nn,rfl,hl,hkd,hj,hi0,hi1,h⟩:=ald_some h
        cases Nat.eq_of_beq_eq_true hkd
        obtain ⟨y,St1,rfl,rfl,hS1⟩:=SR.i1 hSt
        obtain ⟨hbj,St',rfl,hS'⟩:=SR.r1 hS1
        obtain ⟨-,kd',n',hl',cl,hA,hsz',hel⟩:=hR.2.2.2.1 j (tlay j _ _ hl).1 (by omega)
        cases hl.symm.trans hl'
        obtain ⟨v,hv,hev⟩:=hel y.toNatClampNeg (by have:=clamp32 hi0; omega)
        obtain ⟨w,rfl,hw⟩:=hev.int (by omega)
        rw [clamp32 hi0] at hw
        exact go X rfl h hL (SR.ci hw hS') hsz (fun target hr=>X.iaload hx hA.1 (State.isArrayOf_alike hZ.alike hA.2.1) hA.2.2 (idx32 hi0 (by omega)) hv (g:=mkF mi pc Ls (.int y :: .ref (A j) :: St')) rfl rfl hd target hr)
      case laload =>
        obtain rfl:len=1:=by simpa [chk,ilen] using hchk
        obtain ⟨i,j,S',kd,nn,rfl,hl,hkd,hj,hi0,hi1,h⟩:=ald_some h
        cases Nat.eq_of_beq_eq_true hkd
        obtain ⟨y,St1,rfl,rfl,hS1⟩:=SR.i1 hSt
        obtain ⟨hbj,St',rfl,hS'⟩:=SR.r1 hS1
        obtain ⟨-,kd',n',hl',cl,hA,hsz',hel⟩:=hR.2.2.2.1 j (tlay j _ _ hl).1 (by omega)
        cases hl.symm.trans hl'
        obtain ⟨v,hv,hev⟩:=hel y.toNatClampNeg (by have:=clamp32 hi0; omega)
        obtain ⟨w,rfl,hw⟩:=hev.long rfl
        rw [clamp32 hi0] at hw
        exact go X rfl h hL (SR.cj hw hS') hsz (fun target hr=>X.laload hx hA.1 (State.isArrayOf_alike hZ.alike hA.2.1) hA.2.2 (idx32 hi0 (by omega)) hv (g:=mkF mi pc Ls (.int y :: .ref (A j) :: St')) rfl rfl hd target hr)
      case baload =>
        obtain rfl:len=1:=by simpa [chk,ilen] using hchk
        obtain ⟨i,j,S',kd,nn,rfl,hl,hkd,hj,hi0,hi1,h⟩:=ald_some h
        obtain ⟨y,St1,rfl,rfl,hS1⟩:=SR.i1 hSt
        obtain ⟨hbj,St',rfl,hS'⟩:=SR.r1 hS1
        obtain ⟨-,kd',n',hl',cl,hA,hsz',hel⟩:=hR.2.2.2.1 j (tlay j _ _ hl).1 (by omega)
        cases hl.symm.trans hl'
        have hkd:kd=2∨kd=3:=by
          rw [Bool.or_eq_true] at hkd
          exact hkd.imp Nat.eq_of_beq_eq_true Nat.eq_of_beq_eq_true
        obtain ⟨v,hv,hev⟩:=hel y.toNatClampNeg (by have:=clamp32 hi0; omega)
        obtain ⟨w,rfl,hw⟩:=hev.int (by omega)
        rw [clamp32 hi0] at hw
        rcases hkd with rfl | rfl
        · exact go X rfl h hL (SR.ci hw hS') hsz (fun target hr=>X.baloadBooleans hx hA.1 (State.isArrayOf_alike hZ.alike hA.2.1) hA.2.2 (idx32 hi0 (by omega)) hv (g:=mkF mi pc Ls (.int y :: .ref (A j) :: St')) rfl rfl hd target hr)
        · exact go X rfl h hL (SR.ci hw hS') hsz (fun target hr=>X.baloadBytes hx hA.1 (State.isArrayOf_alike hZ.alike hA.2.1) hA.2.2 (idx32 hi0 (by omega)) hv (g:=mkF mi pc Ls (.int y :: .ref (A j) :: St')) rfl rfl hd target hr)
      case iastore =>
        obtain rfl:len=1:=by simpa [chk,ilen] using hchk
        obtain ⟨z,i,j,S',kd,nn,rfl,hl,hkd,hj,hi0,hi1,h⟩:=asi_some h
        cases Nat.eq_of_beq_eq_true hkd
        obtain ⟨zz,y,St1,rfl,hzz,rfl,hS1⟩:=SR.i2 hSt
        obtain ⟨hbj,St',rfl,hS'⟩:=SR.r1 hS1
        have h1j:=(tlay j _ _ hl).1
        obtain ⟨-,kd',n',hl',cl,hA,hsz',hel⟩:=hR.2.2.2.1 j h1j (by omega)
        cases hl.symm.trans hl'
        obtain ⟨T1,h1,X1,e1,W,st⟩:=stI X hx hZ rfl hA (idx32 hi0 (by omega)) (x:=zz) (g:=mkF mi pc Ls (.int zz :: .int y :: .ref (A j) :: St')) rfl rfl hd
        subst e1
        have hR1:=hR.wrA h1j (by omega) hl (Or.inr ⟨by omega,zz,rfl,hzz⟩) W
        rw [clamp32 hi0] at hR1
        exact gw X1 (by omega) W hR1 (Nat.le_refl _) rfl (fun _=>rfl) h hS' st
      case lastore =>
        obtain rfl:len=1:=by simpa [chk,ilen] using hchk
        obtain ⟨z,i,j,S',kd,nn,rfl,hl,hkd,hj,hi0,hi1,h⟩:=asl_some h
        cases Nat.eq_of_beq_eq_true hkd
        obtain ⟨zz,St0,rfl,hzz,hS0⟩:=SR.l1 hSt
        obtain ⟨y,St1,rfl,rfl,hS1⟩:=SR.i1 hS0
        obtain ⟨hbj,St',rfl,hS'⟩:=SR.r1 hS1
        have h1j:=(tlay j _ _ hl).1
        obtain ⟨-,kd',n',hl',cl,hA,hsz',hel⟩:=hR.2.2.2.1 j h1j (by omega)
        cases hl.symm.trans hl'
        obtain ⟨T1,h1,X1,e1,W,st⟩:=stJ X hx hZ rfl hA (idx32 hi0 (by omega)) (x:=zz) (g:=mkF mi pc Ls (.long zz :: .int y :: .ref (A j) :: St')) rfl rfl hd
        subst e1
        have hR1:=hR.wrA h1j (by omega) hl (Or.inl ⟨rfl,zz,rfl,hzz⟩) W
        rw [clamp32 hi0] at hR1
        exact gw X1 (by omega) W hR1 (Nat.le_refl _) rfl (fun _=>rfl) h hS' st
      case bastore =>
        obtain rfl:len=1:=by simpa [chk,ilen] using hchk
        obtain ⟨z,i,j,S',kd,nn,rfl,hl,hkd,hj,hi0,hi1,h⟩:=asi_some h
        obtain ⟨zz,y,St1,rfl,hzz,rfl,hS1⟩:=SR.i2 hSt
        obtain ⟨hbj,St',rfl,hS'⟩:=SR.r1 hS1
        have h1j:=(tlay j _ _ hl).1
        obtain ⟨-,kd',n',hl',cl,hA,hsz',hel⟩:=hR.2.2.2.1 j h1j (by omega)
        cases hl.symm.trans hl'
        have hkd:kd=2∨kd=3:=by
          rw [Bool.or_eq_true] at hkd
          exact hkd.imp Nat.eq_of_beq_eq_true Nat.eq_of_beq_eq_true
        rcases hkd with rfl | rfl
        · obtain ⟨T1,h1,X1,e1,W,st⟩:=stZ X hx hZ rfl hA (idx32 hi0 (by omega)) (x:=zz) (g:=mkF mi pc Ls (.int zz :: .int y :: .ref (A j) :: St')) rfl rfl hd
          subst e1
          have hR1:=hR.wrA (z:=z % 2) h1j (by omega) hl (Or.inr ⟨by omega,zz &&& 1,rfl,by rw [and1_eq,hzz]⟩) W
          rw [clamp32 hi0] at hR1
          exact gw X1 (by omega) W hR1 (Nat.le_refl _) rfl (fun _=>rfl) h hS' st
        · obtain ⟨T1,h1,X1,e1,W,st⟩:=stB X hx hZ rfl hA (idx32 hi0 (by omega)) (x:=zz) (g:=mkF mi pc Ls (.int zz :: .int y :: .ref (A j) :: St')) rfl rfl hd
          subst e1
          have hR1:=hR.wrA (z:=b8 z) h1j (by omega) hl (Or.inr ⟨by omega,zz.toInt8.toInt32,rfl,by rw [b8_eq,hzz]⟩) W
          rw [clamp32 hi0] at hR1
          exact gw X1 (by omega) W hR1 (Nat.le_refl _) rfl (fun _=>rfl) h hS' st
      case arraylength =>
        obtain rfl:len=1:=by simpa [chk,ilen] using hchk
        obtain ⟨j,S',kd,nn,rfl,hl,hj,h⟩:=arraylength_some h
        obtain ⟨hbj,St',rfl,hS'⟩:=SR.r1 hSt
        obtain ⟨t1,t2,t3,t4,-⟩:=tlay j _ _ hl
        obtain ⟨-,kd',n',hl',cl,hA,hsz',hel⟩:=hR.2.2.2.1 j t1 (by omega)
        cases hl.symm.trans hl'
        exact go X rfl h hL (SR.ci (by rw [len_toInt (by omega)]; exact hsz') hS') hsz (fun target hr=>X.arraylength hx hA.1 (State.isArrayOf_alike hZ.alike hA.2.1) (g:=mkF mi pc Ls (.ref (A j) :: St')) rfl rfl hd target hr)
      case newarray a =>
        obtain rfl:len=2:=by simpa [chk,ilen] using hchk
        obtain ⟨S',kd,nn,rfl,hl,ht,hka,hq0,h⟩:=newarray_some h
        obtain ⟨y,St',rfl,hy,hS'⟩:=SR.i1 hSt
        obtain ⟨t1,t2,t3,t4,t5,t6⟩:=tlay _ _ _ hl
        obtain ⟨r1,r2⟩:=hroom hq0
        have hty:=kty_akind hka t5
        have e1:(t+1) / 2=t / 2:=by omega
        rw [e1] at r1 r2
        have e2:(t+1+1) / 2=t / 2+1:=by omega
        have hcl:(y.toNatClampNeg:Int)=nn:=by rw [clamp32 (by omega)]; exact hy
        have es:psum P (t / 2+1)=psum P (t / 2)+nn.toNat:=by simp only [psum,hl]
        have em:=psum_mono P t2
        obtain ⟨T1,h1,cA,X1,eh,E,hA,st⟩:=newP X hx hZ (aty:=a) (by rw [hty]; exact t6) rfl (g:=mkF mi pc Ls (.int y :: St')) rfl hd rfl (by rw [Int32.lt_iff_toInt_lt]; simp only [Int32.reduceToInt]; omega) (cap:=y.toNatClampNeg) (Nat.le_refl _) (by omega) (by omega) (by omega)
        subst eh
        rw [hty] at hA
        have hR1:=hR.new ht hn0 hl t5 E hy t3 hA
        have hAg:∀ j,j≤(t+1) / 2→updA A (t / 2+1) T.heap.size j=A j:=fun j hj=>updA_ne (by omega)
        refine EndP.trans (l1:=[]) (IH q _ _ _ (t+1) m r t' m' h ps ml rk fr lc hq p e R s mi args below meth c T1 _ (cells+1) (slots+y.toNatClampNeg) (updA A (t / 2+1) T.heap.size) Ls (.ref T.heap.size :: St') n0 (by rw [List.append_nil]; exact X1) hx hZ hown hby hml hret hini hR1 (hL.mono hAg (by omega)) ⟨⟨by omega,by rw [updA_eq]⟩,hS'.mono hAg (by omega)⟩ hsz (Nat.le_trans hn0 E.1) hfr hlc (by omega) (by omega) (fun _=>⟨by rw [e2]; omega,by rw [e2,es]; omega⟩)) hAg (by omega) (fun j h1 h2=>?_) (Fr.nil _) (by omega) (by rw [e2,es,e1]; omega) (fun q0=>absurd hq0 q0) (Sam.ext E _) st
        have:j=t / 2+1:=by omega
        subst this
        rw [updA_eq]; exact Nat.le_refl _
      case invokespecial x =>
        obtain rfl:len=3:=by simpa [chk,ilen] using hchk
        obtain ⟨S',ps',ml',rk',fr',lc',rfl,hq',hob,h1,h2,h⟩:=invokespecial_some h
        cases hq.symm.trans hq'
        obtain ⟨hb0,St',rfl,hS'⟩:=SR.r1 hSt
        obtain ⟨T1,X1,e1,st⟩:=initO X hx hZ hown (tobi x hob) tob1 tob2 rfl (g:=mkF mi pc Ls (.ref (A 0) :: St')) rfl (by rw [hml]; exact hsz) rfl hd (by omega) (W:=cats S') (by show 2*0+_≤_; rw [hS'.catsum]; omega) (by omega)
        exact go X1 e1 h hL hS' hsz st
      case invokevirtual x =>
        obtain rfl:len=3:=by simpa [chk,ilen] using hchk
        obtain ⟨q',ps',ml',rk',fr',lc',ps0,ml0,rk0,fr0,lc0,as,S',y,hm',hi',hq0,hpop,hf1,hl1,hq'0,hlen,hcall,hcont⟩:=invokevirtual_some h
        clear h
        cases hq.symm.trans hq0
        obtain ⟨y1,t1,m1⟩:=y
        obtain ⟨B,St1,hB,hS1,rfl,hBl⟩:=popA_rel hpop hSt
        obtain ⟨hb0,St',rfl,hS'⟩:=SR.r1 hS1
        have hargs:SR A ((t+1) / 2) (vr 0 :: as) (.ref (A 0) :: B):=⟨⟨by omega,rfl⟩,by simpa using hB A ((t+1) / 2) [] trivial⟩
        obtain ⟨icls,iinst,icode,ipv,params,ipd,ipl⟩:=tinf q' _ _ _ _ _ hi'
        have hM:=metP (l:=l) (cl:=0) (sl:=0) HT IH hi' hcall hlen hn0 hR hargs (fun q0=>absurd q0 hq'0)
        have hBk:=backOf (R:=R) (p:=p) (e:=e) (below:=below) (s:=s) (args:=args) (len:=3) (W:=cats S') (rm:={ frames:=fr',cells:=0,slots:=0,locals:=lc' }) (Q:=QP P C fnm fkd Z n0 q' t A T.heap y1 t1 m1) hM hZ icode (by rw [icls]; exact tini) (by show fr'+1≤R.frames; omega) (by show cats S'+(ml'+11)+lc'≤R.locals; omega)
        have hyn:(nm q').cls≠"java/lang/invoke/MethodHandle"∧(nm q').cls≠"java/lang/invoke/VarHandle":=by rw [icls]; exact thn
        have fin:∀ {T1:State} {L1:List Loc} {v:Option Value},Stand p l e R s mi args below meth c T1 (locs ++ L1) cells slots→QP P C fnm fkd Z n0 q' t A T.heap y1 t1 m1 v T1.heap L1 →
            (∀ target,Steps p.tables e below (T1.setTop (mkF mi (pc+3) Ls (v.toList ++ St'))) target→Steps p.tables e below (T.setTop (mkF mi pc Ls (B.reverse ++ .ref (A 0) :: St'))) target) →
            EndP P C fnm fkd Z nA p l e R s mi args below meth c n0 q T A t locs cells slots (mkF mi pc Ls (B.reverse ++ .ref (A 0) :: St')) r t' m':=fun {T1 L1 v} X1 hQ st=>by
          obtain ⟨A',g1,g2,g3,g4,g5,g6,g7,g8⟩:=hQ
          obtain rfl:=g8 hq'0
          exact EndP.trans (IH q _ _ _ t1 m1 r t' m' hcont ps ml rk fr lc hq p e R s mi args below meth c T1 _ cells slots A' Ls _ n0 X1 hx hZ hown hby hml hret hini g1 (hL.mono g2 (Nat.le_refl _)) (g7.push (hS'.mono g2 (Nat.le_refl _))) hsz (Nat.le_trans hn0 g6.1) hfr hlc hce hsl hroom) g2 (Nat.le_refl _) g4 g5 (Nat.le_refl _) (Nat.le_refl _) (fun _=>⟨rfl,rfl,rfl⟩) g6 st
        obtain ⟨cB,kB,i1,i2,i3⟩:=isOf hZ rfl hR.1
        have hlenA:∀ sig,parseMethodDescriptor (nm q').desc=some sig→B.length=sig.parameters.length:=lenOf ipd (by rw [hBl,ipl])
        rcases ipv hq'0 with hpv | ⟨hdc,hsel⟩
        · obtain ⟨cc,hcc,hcv⟩:=hR.1.cell
          have hPr:s.PrivateAt (nm q'):=Jvm.Cond.privateMethod_at (mvP (args:=args) hZ hpv)
          obtain ⟨c2,k2,j1,j2,j3,j4,-⟩:=Jvm.Cond.instantiable_spec (mv (args:=args) hZ tins)
          have hsel:(Jvm.Cond.selects (nm q').cls (nm q') (nm q')).before args s=true:=Jvm.Stand.selects_self_of_private (by rw [icls]; exact j1) j2 (by simp only [Bool.or_eq_false_iff] at j4; exact j4.1) hPr (mv hZ iinst) hyn
          obtain ⟨v,vm1,⟨T1,L1,k1,n1⟩,-,X1,⟨Lc,hQ,l1,c1,s1⟩,st⟩:=X.privateBack hx hown (mv hZ (tmth x _ hm')) (mv hZ iinst) hsel hPr (mv hZ icode) hyn hBk (g:=mkF mi pc Ls (B.reverse ++ .ref (A 0) :: St')) rfl (by rw [hml]; exact hsz) (Steps.refl _) (a:=A 0) hcc hcv (argsL:=B) (rest:=St') hlenA rfl (by show 2*0+_≤_; rw [hS'.catsum]; omega) hd (fun _ _=>⟨rfl,rfl,hce,hsl⟩)
          dsimp only [Pt.U,Pt.locs,Pt.cells,Pt.slots] at X1 l1 c1 s1 st hQ
          subst l1 c1 s1
          exact fin X1 hQ (fun target hr=>st.trans hr)
        · obtain ⟨v,vm1,⟨T1,L1,k1,n1⟩,-,X1,⟨Lc,hQ,l1,c1,s1⟩,st⟩:=X.virtualBack hx (C:=C) (y:=nm q') (z:=nm q') hown (mv hZ (tmth x _ hm')) (mv hZ hdc) (notFace_of_selects (args:=args) (mv hZ hsel)) (mv hZ hsel) (mv hZ iinst) hyn hBk i1 i3 (g:=mkF mi pc Ls (B.reverse ++ .ref (A 0) :: St')) rfl (by rw [hml]; exact hsz) (Steps.refl _) (argsL:=B) (rest:=St') hlenA rfl (by show 2*0+_≤_; rw [hS'.catsum]; omega) hd (fun _ _=>⟨rfl,rfl,hce,hsl⟩)
          dsimp only [Pt.U,Pt.locs,Pt.cells,Pt.slots] at X1 l1 c1 s1 st hQ
          subst l1 c1 s1
          exact fin X1 hQ (fun target hr=>st.trans hr)
      case ireturn =>
        obtain rfl:len=1:=by simpa [chk,ilen] using hchk
        obtain ⟨z,S',ps',ml',rk',fr',lc',rfl,hq',hcase⟩:=ireturn_some h
        cases hq.symm.trans hq'
        obtain ⟨y,St',rfl,hy,hS'⟩:=SR.i1 hSt
        rcases hcase with ⟨rfl,hr⟩ | ⟨rfl,hr⟩
        · cases hr
          exact ⟨some (.int y),T,A,[],cells,slots,by rw [List.append_nil]; exact X,hR,fun _ _=>rfl,Nat.le_refl _,fun j h1 h2=>by omega,Fr.nil _,Nat.le_refl _,Nat.le_refl _,fun _=>⟨rfl,rfl,rfl⟩,Sam.refl _ _ _,⟨y,rfl,hy⟩,(fun q=>by rw [hret] at q; cases q),fun fs hfs=>retI' X hx hret hd hfs⟩
        · cases hr
          exact ⟨some (.int (y &&& 1)),T,A,[],cells,slots,by rw [List.append_nil]; exact X,hR,fun _ _=>rfl,Nat.le_refl _,fun j h1 h2=>by omega,Fr.nil _,Nat.le_refl _,Nat.le_refl _,fun _=>⟨rfl,rfl,rfl⟩,Sam.refl _ _ _,⟨_,rfl,by rw [and1_eq,hy]⟩,(fun q=>by rw [hret] at q; cases q),fun fs hfs=>retN X hx (t:=.boolean) hret (by simp) hd hfs⟩
      case lreturn =>
        obtain rfl:len=1:=by simpa [chk,ilen] using hchk
        obtain ⟨z,S',ps',ml',fr',lc',rfl,hq',hr⟩:=lreturn_some h
        cases hq.symm.trans hq'
        cases hr
        obtain ⟨y,St',rfl,hy,hS'⟩:=SR.l1 hSt
        exact ⟨some (.long y),T,A,[],cells,slots,by rw [List.append_nil]; exact X,hR,fun _ _=>rfl,Nat.le_refl _,fun j h1 h2=>by omega,Fr.nil _,Nat.le_refl _,Nat.le_refl _,fun _=>⟨rfl,rfl,rfl⟩,Sam.refl _ _ _,⟨y,rfl,hy⟩,(fun q=>by rw [hret] at q; cases q),fun fs hfs=>retOut X hx hret rfl (Or.inr (Or.inl ⟨rfl,rfl,y,rfl⟩)) hd hfs⟩
      case return_ =>
        obtain rfl:len=1:=by simpa [chk,ilen] using hchk
        obtain ⟨ps',ml',fr',lc',rfl,hq',hr⟩:=return_some h
        cases hq.symm.trans hq'
        cases hr
        cases St with
        | cons _ _=>exact hSt.elim
        | nil=>exact ⟨none,T,A,[],cells,slots,by rw [List.append_nil]; exact X,hR,fun _ _=>rfl,Nat.le_refl _,fun j h1 h2=>by omega,Fr.nil _,Nat.le_refl _,Nat.le_refl _,fun _=>⟨rfl,rfl,rfl⟩,Sam.refl _ _ _,rfl,fun _=>rfl,fun fs hfs=>X.returnOut hx hret hd hfs⟩
      all_goals cases hsp
end Jvm.OwnMini
namespace Jvm.OwnMini
open Jvm Jvm.ClassFile Sem Op Lib Jvm.Free Jvm.Stand Jvm.LawKit Jvm.RoadKit
/-! The law's own methods: the objects that it has made (reference k+1: the k-th),the script (reference 0). -/
abbrev OWd:=List (Nat×OMem)
abbrev RTL:=Option (Option OV×OWd)
/-- code; constants; by the pool's index: the project's method,is it the maker,the law's own static method,is it the project's class; by the law's method: parameters from the last (0 int,1 long,2 reference),locals,kind of the result,frames,words; live variables -/
abbrev LT:=CodeT×(Nat→Option OV)×(Nat→Option Nat)×(Nat→Bool)×(Nat→Option Nat)×(Nat→Bool)×(Nat→Option (List Nat×Nat×Nat×Nat×Nat))×LivT
abbrev lcode (Q:LT):CodeT:=Q.1
abbrev lcst (Q:LT):Nat→Option OV:=Q.2.1
abbrev lvm (Q:LT):Nat→Option Nat:=Q.2.2.1
abbrev lmk (Q:LT):Nat→Bool:=Q.2.2.2.1
abbrev lsm (Q:LT):Nat→Option Nat:=Q.2.2.2.2.1
abbrev lcl (Q:LT):Nat→Bool:=Q.2.2.2.2.2.1
abbrev linf (Q:LT):Nat→Option (List Nat×Nat×Nat×Nat×Nat):=Q.2.2.2.2.2.2.1
abbrev lliv (Q:LT):LivT:=Q.2.2.2.2.2.2.2
/-- the script: is there one,its length,its cells -/
abbrev ScT:=Bool×Int×(Int→Int)
def wget:OWd→Nat→Option (Nat×OMem)
  | [],_=>none
  | o :: _,0=>some o
  | _ :: W,n+1=>wget W n
def wput:OWd→Nat→Nat×OMem→OWd
  | [],_,_=>[]
  | _ :: W,0,x=>x :: W
  | o :: W,n+1,x=>o :: wput W n x
def z0:OMem:=fun _ _=>0
def popB:List Nat→List OV→List OV→Option (List OV×List OV)
  | [],S,acc=>some (acc,S)
  | 0 :: ts,.inl z :: S,acc=>popB ts S (vi z :: acc)
  | 1 :: ts,.inr (.inl z) :: S,acc=>popB ts S (vl z :: acc)
  | 2 :: ts,.inr (.inr z) :: S,acc=>popB ts S (vr z :: acc)
  | _,_,_=>none
def isSpecL:Instr→Bool
  | .new _ | .arraylength | .iaload | .invokespecial _ | .invokevirtual _ | .invokestatic _ | .ireturn | .lreturn | .return_=>true
  | _=>false
def stepLS (P:PT) (Q:LT) (T mo:Nat) (sc:ScT) (kP:Nat→Nat→OLs→List OV→Nat→OMem→RT) (k:Nat→Nat→OLs→List OV→OWd→RTL) (q pc:Nat) (L:OLs) (S:List OV) (W:OWd) (i:Instr) (len:Nat):RTL :=
  match i with
  | .new x=>cond (lcl Q x && Nat.beq q 0 && Nat.blt W.length mo) (k q (pc+len) L (vr (W.length+1) :: S) (W ++ [(0,z0)])) none
  | .arraylength =>
    match S with
    | .inr (.inr 0) :: S'=>cond sc.1 (k q (pc+len) L (vi sc.2.1 :: S') W) none
    | _=>none
  | .iaload =>
    match S with
    | .inl i :: .inr (.inr 0) :: S'=>cond sc.1 (if 0≤i∧i<sc.2.1 then k q (pc+len) L (vi (sc.2.2 i) :: S') W else none) none
    | _=>none
  | .invokespecial x =>
    match pinf P 0,linf Q q with
    | some (ps,ml,_,fr',lc'),some (_,_,_,fr,lc) =>
      match popA ps S [] with
      | some (as,.inr (.inr (o+1)) :: S') =>
        match wget W o with
        | some (0,m) =>
          cond (lmk Q x && Nat.beq q 0 && Nat.ble (fr'+1) fr && Nat.ble (cats S'+(ml+11)+lc') lc && Nat.ble (initL (vr 0 :: as) ml).length ml)
            ((kP 0 0 (initL (vr 0 :: as) ml) [] 0 m).bind fun y=>cond (Nat.beq y.2.1 T) (k q (pc+len) L (pushR y.1 S') (wput W o y.2)) none) none
        | _=>none
      | _=>none
    | _,_=>none
  | .invokevirtual x =>
    match lvm Q x with
    | some q' =>
      match pinf P q',linf Q q with
      | some (ps,ml,_,fr',lc'),some (_,_,_,fr,lc) =>
        match popA ps S [] with
        | some (as,.inr (.inr (o+1)) :: S') =>
          match wget W o with
          | some (t,m) =>
            cond (Nat.ble (fr'+1) fr && Nat.ble (cats S'+(ml+11)+lc') lc && !(Nat.beq q' 0) && Nat.ble (initL (vr 0 :: as) ml).length ml)
              ((kP q' 0 (initL (vr 0 :: as) ml) [] t m).bind fun y=>k q (pc+len) L (pushR y.1 S') (wput W o y.2)) none
          | none=>none
        | _=>none
      | _,_=>none
    | none=>none
  | .invokestatic x =>
    match lsm Q x with
    | some q' =>
      match linf Q q',linf Q q with
      | some (ps,ml,_,fr',lc'),some (_,_,_,fr,lc) =>
        match popB ps S [] with
        | some (as,S') =>
          cond (Nat.ble (fr'+1) fr && Nat.ble (cats S'+(ml+11)+lc') lc && !(Nat.beq q' 0) && Nat.ble (initL as ml).length ml)
            ((k q' 0 (initL as ml) [] W).bind fun y=>k q (pc+len) L (pushR y.1 S') y.2) none
        | none=>none
      | _,_=>none
    | none=>none
  | .ireturn =>
    match S with
    | .inl z :: _ =>
      match linf Q q with
      | some (_,_,1,_)=>some (some (vi z),W)
      | some (_,_,2,_)=>some (some (vi (z % 2)),W)
      | _=>none
    | _=>none
  | .lreturn =>
    match S with
    | .inr (.inl z) :: _ =>
      match linf Q q with
      | some (_,_,4,_)=>some (some (vl z),W)
      | _=>none
    | _=>none
  | .return_ =>
    match S with
    | [] =>
      match linf Q q with
      | some (_,_,0,_)=>some (none,W)
      | _=>none
    | _=>none
  | _=>none
def stepLI (P:PT) (Q:LT) (T mo:Nat) (sc:ScT) (kP:Nat→Nat→OLs→List OV→Nat→OMem→RT) (k:Nat→Nat→OLs→List OV→OWd→RTL) (q pc:Nat) (L:OLs) (S:List OV) (W:OWd) (i:Instr) (len:Nat):RTL :=
  cond (isSpecL i) (stepLS P Q T mo sc kP k q pc L S W i len) (pstep (lcst Q) i pc len L S fun pc' L' S'=>k q pc' L' S' W)
def stepL (P:PT) (Q:LT) (T mo:Nat) (sc:ScT) (kP:Nat→Nat→OLs→List OV→Nat→OMem→RT) (k:Nat→Nat→OLs→List OV→OWd→RTL) (q pc:Nat) (L:OLs) (S:List OV) (W:OWd):RTL :=
  match lcode Q q pc with
  | some (i,len)=>stepLI P Q T mo sc kP k q pc (mask (lliv Q q pc) L) S W i len
  | none=>none
def runL (P:PT) (Q:LT) (T mo:Nat) (sc:ScT):Nat→Nat→Nat→OLs→List OV→OWd→RTL
  | 0=>fun _ _ _ _ _=>none
  | n+1=>stepL P Q T mo sc (runP P n) (runL P Q T mo sc n)
end Jvm.OwnMini
namespace Jvm.OwnMini
open Jvm Jvm.ClassFile Sem Op Lib Jvm.Free Jvm.Stand Jvm.LawKit Jvm.RoadKit
/-! The law's objects and script in the JVM's heap. -/
def ScR (Z:State) (h:Heap) (n0:Nat) (a:Addr) (sc:ScT):Prop:=sc.1=true→a<n0∧∃ c:Cell,Arr Z h a c .int∧(c.slots.size:Int)=sc.2.1∧sc.2.1<2147483648∧∀ i:Nat,i<c.slots.size→∃ x:Int32,c.slots[i]?=some (.int x)∧x.toInt=sc.2.2 i
def RepW (P:PT) (C:String) (fnm:FN) (fkd:FK) (Z:State) (sc:ScT) (h:Heap) (A:Nat→Addr) (AO:Nat→Nat→Addr) (n0:Nat) (W:OWd):Prop :=
  (∀ k t m,wget W k=some (t,m)→RepO P C fnm fkd Z h (AO k) n0 t m∧AO k 0=A (k+1)) ∧
  (∀ k k' t m t' m' j j',wget W k=some (t,m)→wget W k'=some (t',m')→k≠k'→j≤(t+1) / 2→j'≤(t'+1) / 2→AO k j≠AO k' j')∧ScR Z h n0 (A 0) sc
def cW (a b:Nat):OWd→Nat
  | []=>0
  | (0,_) :: W=>a+cW a b W
  | (_+1,_) :: W=>(a+b)+cW a b W
def ts (W:OWd):List Nat:=W.map fun o=>o.1
theorem cW_ts {a b:Nat}:∀ {W W':OWd},ts W=ts W'→cW a b W=cW a b W'
  | [],[],_=>rfl
  | [],_ :: _,h=>by simp [ts] at h
  | _ :: _,[],h=>by simp [ts] at h
  | (t,m) :: W,(t',m') :: W',h=>by
    simp only [ts,List.map_cons,List.cons.injEq] at h
    obtain ⟨rfl,h⟩:=h
    have:=cW_ts (a:=a) (b:=b) (W:=W) (W':=W') h
    cases t <;> simp only [cW,this]
theorem ts_len {W W':OWd} (h:ts W=ts W'):W.length=W'.length:=by
  have:=congrArg List.length h
  simpa [ts] using this
theorem cW_le (a b:Nat):∀ W:OWd,cW a b W≤W.length*(a+b)
  | []=>by simp [cW]
  | (0,_) :: W=>by
    have:=cW_le a b W
    simp only [cW,List.length_cons,Nat.add_mul]; omega
  | (_+1,_) :: W=>by
    have:=cW_le a b W
    simp only [cW,List.length_cons,Nat.add_mul]; omega
theorem cW_append (a b:Nat) (m:OMem):∀ W:OWd,cW a b (W ++ [(0,m)])=cW a b W+a
  | []=>by simp [cW]
  | (0,_) :: W=>by simp only [List.cons_append,cW,cW_append a b m W]; omega
  | (_+1,_) :: W=>by simp only [List.cons_append,cW,cW_append a b m W]; omega
theorem wget_lt:∀ {W:OWd} {k:Nat} {o:Nat×OMem},wget W k=some o→k<W.length
  | [],_,_,h=>by cases h
  | _ :: _,0,_,_=>by simp
  | _ :: W,k+1,_,h=>by
    have:=wget_lt (W:=W) (k:=k) h
    simp only [List.length_cons]; omega
theorem wput_len:∀ (W:OWd) (k:Nat) (x:Nat×OMem),(wput W k x).length=W.length
  | [],_,_=>rfl
  | _ :: _,0,_=>rfl
  | _ :: W,k+1,x=>by simp [wput,wput_len W k x]
theorem wget_wput:∀ {W:OWd} {k j:Nat} {x:Nat×OMem},k<W.length→wget (wput W k x) j=if j=k then some x else wget W j
  | [],k,j,x,h=>by simp at h
  | o :: W,0,0,x,h=>by simp [wput,wget]
  | o :: W,0,j+1,x,h=>by simp [wput,wget]
  | o :: W,k+1,0,x,h=>by simp [wput,wget]
  | o :: W,k+1,j+1,x,h=>by
    have:=wget_wput (W:=W) (k:=k) (j:=j) (x:=x) (by simpa using h)
    simp only [wput,wget,this,Nat.add_right_cancel_iff]
theorem ts_wput:∀ {W:OWd} {k t:Nat} {m m':OMem},wget W k=some (t,m)→ts (wput W k (t,m'))=ts W
  | [],_,_,_,_,h=>by cases h
  | (t,m) :: W,0,_,_,_,h=>by cases h; rfl
  | o :: W,k+1,t,m,m',h=>by
    have:=ts_wput (W:=W) (k:=k) (t:=t) (m:=m) (m':=m') h
    simp only [ts,wput,List.map_cons,List.cons.injEq,true_and]
    exact this
theorem cW_made {a b:Nat}:∀ {W:OWd} {k t:Nat} {m m':OMem},wget W k=some (0,m)→cW a b (wput W k (t+1,m'))=cW a b W+b
  | [],_,_,_,_,h=>by cases h
  | (t0,m) :: W,0,_,_,_,h=>by cases h; simp only [wput,cW]; omega
  | (0,m0) :: W,k+1,t,m,m',h=>by
    have:=cW_made (a:=a) (b:=b) (W:=W) (k:=k) (t:=t) (m:=m) (m':=m') h
    simp only [wput,cW,this]; omega
  | (_+1,m0) :: W,k+1,t,m,m',h=>by
    have:=cW_made (a:=a) (b:=b) (W:=W) (k:=k) (t:=t) (m:=m) (m':=m') h
    simp only [wput,cW,this]; omega
theorem cW_raw {a b:Nat}:∀ {W:OWd} {k:Nat} {m:OMem},wget W k=some (0,m)→cW a b W+b≤W.length*(a+b)
  | [],_,_,h=>by cases h
  | (t0,m) :: W,0,_,h=>by
    cases h
    have:=cW_le a b W
    simp only [cW,List.length_cons,Nat.add_mul]; omega
  | (0,m0) :: W,k+1,m,h=>by
    have:=cW_raw (a:=a) (b:=b) (W:=W) (k:=k) (m:=m) h
    simp only [cW,List.length_cons,Nat.add_mul] at *; omega
  | (_+1,m0) :: W,k+1,m,h=>by
    have:=cW_raw (a:=a) (b:=b) (W:=W) (k:=k) (m:=m) h
    simp only [cW,List.length_cons,Nat.add_mul] at *; omega
theorem wget_append:∀ {W:OWd} {k:Nat} {x o:Nat×OMem},wget (W ++ [x]) k=some o→(wget W k=some o∧k<W.length)∨(k=W.length∧o=x)
  | [],0,x,o,h=>by cases h; exact Or.inr ⟨rfl,rfl⟩
  | [],k+1,x,o,h=>by cases h
  | w :: W,0,x,o,h=>Or.inl ⟨h,by simp⟩
  | w :: W,k+1,x,o,h=>by
    rcases wget_append (W:=W) (k:=k) h with ⟨h1,h2⟩ | ⟨h1,h2⟩
    · exact Or.inl ⟨h1,by simpa using h2⟩
    · exact Or.inr ⟨by simpa using h1,h2⟩
section W
variable {P:PT} {C:String} {fnm:FN} {fkd:FK} {Z:State} {sc:ScT} {h h':Heap} {A:Nat→Addr} {AO:Nat→Nat→Addr} {n0:Nat} {W:OWd}
theorem RepW.same (hR:RepW P C fnm fkd Z sc h A AO n0 W) (e:h'=h):RepW P C fnm fkd Z sc h' A AO n0 W:=by rw [e]; exact hR
/-- an object's method has run -/
theorem RepW.ran (hR:RepW P C fnm fkd Z sc h A AO n0 W) {o t t':Nat} {m m':OMem} (ho:wget W o=some (t,m)) {A':Nat→Addr} (hR':RepO P C fnm fkd Z h' A' n0 t' m') (hA:∀ j,j≤(t+1) / 2→A' j=AO o j) (hn:∀ j,(t+1) / 2<j→j≤(t'+1) / 2→h.size≤A' j)
    (hS:Sam h h' (AO o) ((t+1) / 2)):RepW P C fnm fkd Z sc h' A (fun k=>if k=o then A' else AO k) n0 (wput W o (t',m')):=by
  have hlt:=wget_lt ho
  obtain ⟨r1,r2,r3⟩:=hR
  have other:∀ {k tk mk},wget W k=some (tk,mk)→k≠o→∀ j j',j≤(tk+1) / 2→j'≤(t'+1) / 2→AO k j≠A' j':=fun {k tk mk} hk hne j j' hj hj'=>by
    by_cases hb:j'≤(t+1) / 2
    · rw [hA j' hb]; exact r2 k o _ _ _ _ j j' hk ho hne hj hb
    · have h1:=hn j' (by omega) hj'
      have h2:=(r1 k _ _ hk).1.lt hj
      exact Nat.ne_of_lt (Nat.lt_of_lt_of_le h2 h1)
  refine ⟨fun k tk mk hk=>?_,fun k k' tk mk tk' mk' j j' hk hk' hne hj hj'=>?_,fun hs=>?_⟩
  · rw [wget_wput hlt] at hk
    by_cases e:k=o
    · subst e
      rw [if_pos rfl] at hk
      cases hk
      simp only [if_true]
      exact ⟨hR',by rw [hA 0 (by omega)]; exact (r1 _ _ _ ho).2⟩
    · rw [if_neg e] at hk
      simp only [if_neg e]
      obtain ⟨q1,q2⟩:=r1 k _ _ hk
      refine ⟨q1.keep fun a c hc ⟨j,hj,ea⟩=>hS.2 a c hc fun j' hj'=>?_,q2⟩
      rw [ea]
      exact r2 k o _ _ _ _ j j' hk ho e hj hj'
  · rw [wget_wput hlt] at hk hk'
    by_cases e:k=o
    · by_cases e':k'=o
      · exact absurd (e.trans e'.symm) hne
      · subst e
        rw [if_pos rfl] at hk
        cases hk
        rw [if_neg e'] at hk'
        simp only [if_true,if_neg e']
        exact Ne.symm (other hk' e' j' j hj' hj)
    · rw [if_neg e] at hk
      by_cases e':k'=o
      · subst e'
        rw [if_pos rfl] at hk'
        cases hk'
        simp only [if_true,if_neg e]
        exact other hk e j j' hj hj'
      · rw [if_neg e'] at hk'
        simp only [if_neg e,if_neg e']
        exact r2 k k' _ _ _ _ j j' hk hk' hne hj hj'
  · obtain ⟨g1,c,g2,g3⟩:=r3 hs
    refine ⟨g1,c,⟨hS.2 _ _ g2.1 fun j hj ea=>?_,g2.2⟩,g3⟩
    have:n0≤AO o j:=by
      by_cases e0:j=0
      · subst e0; exact (r1 _ _ _ ho).1.2.1
      · exact ((r1 _ _ _ ho).1.2.2.2.1 j (by omega) hj).1
    exact absurd (ea ▸ g1) (Nat.not_lt.mpr this)
theorem RepW.lt (hR:RepW P C fnm fkd Z sc h A AO n0 W) {k:Nat} (hk:1≤k) (hk':k≤W.length):∃ t m,wget W (k - 1)=some (t,m):=by
  clear hR
  induction W generalizing k with
  | nil=>simp at hk'; omega
  | cons o W ih =>
    obtain ⟨t,m⟩:=o
    by_cases e:k=1
    · subst e; exact ⟨t,m,rfl⟩
    · obtain ⟨t',m',q⟩:=ih (k:=k - 1) (by omega) (by simp at hk'; omega)
      refine ⟨t',m',?_⟩
      have:k - 1=(k - 1 - 1)+1:=by omega
      rw [this]; exact q
/-- an object has been made -/
theorem RepW.made {nm:Nat→MethodName} {bys:Nat→ByteArray} {nA nf:Nat} {a0:Array Value} (HT:TabP P C fnm fkd nm bys nA nf a0 Z) (hR:RepW P C fnm fkd Z sc h A AO n0 W) (hn0:n0≤h.size) (E:Ext h h') (X:Exa Z h' h.size C)
    (D:∀ {O nm d:String} {ty:FieldType},Laid Z a0 C O nm d→parseFieldDescriptor d=some ty→Fld Z h' h.size O nm d (defaultValue ty)) :
    RepW P C fnm fkd Z sc h' (updA A (W.length+1) h.size) (fun k=>if k=W.length then (fun _=>h.size) else AO k) n0 (W ++ [(0,z0)]):=by
  have old:∀ {k t m},wget W k=some (t,m)→∀ j,j≤(t+1) / 2→AO k j<h.size:=fun {k t m} hk j hj=>(hR.1 k _ _ hk).1.lt hj
  obtain ⟨r1,r2,r3⟩:=hR
  have HT':=HT
  obtain ⟨-,-,tfkd,-⟩:=HT'
  refine ⟨fun k t m hk=>?_,fun k k' t m t' m' j j' hk hk' hne hj hj'=>?_,fun hs=>?_⟩
  · rcases wget_append hk with ⟨h1,h2⟩ | ⟨h1,h2⟩
    · have e:k≠W.length:=by omega
      simp only [if_neg e]
      rw [updA_ne (by omega)]
      exact ⟨(r1 k _ _ h1).1.ext E,(r1 k _ _ h1).2⟩
    · subst h1
      cases h2
      simp only [if_true]
      refine ⟨⟨X,hn0,fun f kd j fin hf=>?_,fun j h1 h2=>by omega,fun j j' h1 h2 _=>by omega,fun j _ i=>rfl⟩,by rw [updA_eq]⟩
      obtain ⟨t1,t2,t3,t4⟩:=tfkd f _ _ _ hf
      have F:=D (HT.laid hf) t2
      refine ⟨_,F,fun e1 e2=>?_,fun e1=>?_⟩
      · have:=t3 e1; omega
      · have:kd=1∨kd=2∨kd=3∨kd=4:=by omega
        rcases this with rfl | rfl | rfl | rfl
        · exact Or.inr ⟨by decide,0,rfl,rfl⟩
        · exact Or.inr ⟨by decide,0,rfl,rfl⟩
        · exact Or.inr ⟨by decide,0,rfl,rfl⟩
        · exact Or.inl ⟨rfl,0,rfl,rfl⟩
  · rcases wget_append hk with ⟨h1,h2⟩ | ⟨h1,h2⟩
    · rcases wget_append hk' with ⟨h3,h4⟩ | ⟨h3,h4⟩
      · have e:k≠W.length:=by omega
        have e':k'≠W.length:=by omega
        simp only [if_neg e,if_neg e']
        exact r2 k k' _ _ _ _ j j' h1 h3 hne hj hj'
      · have e:k≠W.length:=by omega
        subst h3
        simp only [if_neg e,if_true]
        exact Nat.ne_of_lt (old h1 j hj)
    · rcases wget_append hk' with ⟨h3,h4⟩ | ⟨h3,h4⟩
      · have e':k'≠W.length:=by omega
        subst h1
        simp only [if_neg e',if_true]
        exact Nat.ne_of_gt (old h3 j' hj')
      · omega
  · rw [updA_ne (by omega)]
    obtain ⟨g1,c,g2,g3⟩:=r3 hs
    exact ⟨g1,c,g2.ext E,g3⟩
end W
theorem popB_rel {A:Nat→Addr} {b:Nat}:∀ {ks:List Nat} {S:List OV} {acc as:List OV} {S':List OV} {St:List Value} {X:List Value},popB ks S acc=some (as,S')→SR A b S St→SR A b acc X →
    ∃ B St',SR A b as (B ++ X)∧SR A b S' St'∧St=B.reverse ++ St'∧B.length=ks.length
  | [],S,acc,as,S',St,X,h,hS,hX=>by
    cases h
    exact ⟨[],St,hX,hS,rfl,rfl⟩
  | 0 :: ts,.inl z :: S,acc,as,S',St,X,h,hS,hX=>by
    obtain ⟨y,St1,rfl,hy,hS1⟩:=SR.i1 hS
    obtain ⟨B,St',q1,q2,q3,q4⟩:=popB_rel (ks:=ts) (X:=.int y :: X) h hS1 ⟨⟨y,rfl,hy⟩,hX⟩
    exact ⟨B ++ [.int y],St',by simpa using q1,q2,by simp [q3],by simp [q4]⟩
  | 1 :: ts,.inr (.inl z) :: S,acc,as,S',St,X,h,hS,hX=>by
    obtain ⟨y,St1,rfl,hy,hS1⟩:=SR.l1 hS
    obtain ⟨B,St',q1,q2,q3,q4⟩:=popB_rel (ks:=ts) (X:=.long y :: X) h hS1 ⟨⟨y,rfl,hy⟩,hX⟩
    exact ⟨B ++ [.long y],St',by simpa using q1,q2,by simp [q3],by simp [q4]⟩
  | 2 :: ts,.inr (.inr z) :: S,acc,as,S',St,X,h,hS,hX=>by
    obtain ⟨hb,St1,rfl,hS1⟩:=SR.r1 hS
    obtain ⟨B,St',q1,q2,q3,q4⟩:=popB_rel (ks:=ts) (X:=.ref (A z) :: X) h hS1 ⟨⟨hb,rfl⟩,hX⟩
    exact ⟨B ++ [.ref (A z)],St',by simpa using q1,q2,by simp [q3],by simp [q4]⟩
def TabL (P:PT) (Q:LT) (C own:String) (nm lnm:Nat→MethodName) (lbys:Nat→ByteArray) (a0:Array Value) (Z:State):Prop :=
  (∀ q pc i len,lcode Q q pc=some (i,len)→decode (lbys q) pc=.ok (i,len)∧chk pc i len=true) ∧
  ((∀ x z,lcst Q x=some (.inl z)→∃ v:Int32,(Jvm.Cond.constant own x v).before a0 Z=true∧v.toInt=z)∧(∀ x z,lcst Q x=some (.inr (.inl z))→∃ v:Int64,(Jvm.Cond.constantLong own x v).before a0 Z=true∧v.toInt=z)) ∧
  (∀ x q,lvm Q x=some q→(Jvm.Cond.methodLink own x (nm q)).before a0 Z=true∧(Jvm.Cond.declares (nm q)).before a0 Z=true∧(Jvm.Cond.selects C (nm q) (nm q)).before a0 Z=true) ∧
  (∀ x,lmk Q x=true→(Jvm.Cond.methodLink own x (nm 0)).before a0 Z=true) ∧
  (∀ x q,lsm Q x=some q→(Jvm.Cond.methodLink own x (lnm q)).before a0 Z=true) ∧
  (∀ x,lcl Q x=true→(Jvm.Cond.classLink own x C).before a0 Z=true) ∧
  (∀ q ps ml rk fr lc,linf Q q=some (ps,ml,rk,fr,lc)→q≠0→(lnm q).cls=own∧(Jvm.Cond.static (lnm q)).before a0 Z=true∧(Jvm.Cond.initialized own).before a0 Z=true∧(Jvm.Cond.code (lnm q) (lbys q) ml (rty rk)).before a0 Z=true∧∃ params,parseMethodDescriptor (lnm q).desc=some ⟨params,rty rk⟩∧params.length=ps.length) ∧
  plainName own=true∧(own≠"java/lang/invoke/MethodHandle"∧own≠"java/lang/invoke/VarHandle")
end Jvm.OwnMini
namespace Jvm.OwnMini
open Jvm Jvm.ClassFile Sem Op Lib Jvm.Free Jvm.Stand Jvm.LawKit Jvm.RoadKit
section InvL
variable {P:PT} {Q:LT} {TT mo:Nat} {sc:ScT} {kP:Nat→Nat→OLs→List OV→Nat→OMem→RT} {k:Nat→Nat→OLs→List OV→OWd→RTL} {q pc len:Nat} {L:OLs} {S:List OV} {W:OWd} {r:Option OV×OWd}
theorem new_someL {x:Nat} (h:stepLS P Q TT mo sc kP k q pc L S W (.new x) len=some r):lcl Q x=true∧q=0∧W.length<mo∧k q (pc+len) L (vr (W.length+1) :: S) (W ++ [(0,z0)])=some r:=by
  simp only [stepLS] at h
  obtain ⟨hb,h⟩:=cond_some h
  simp only [Bool.and_eq_true] at hb
  exact ⟨hb.1.1,Nat.eq_of_beq_eq_true hb.1.2,by simpa [Nat.blt_eq] using hb.2,h⟩
theorem length_someL (h:stepLS P Q TT mo sc kP k q pc L S W .arraylength len=some r):∃ S',S=.inr (.inr 0) :: S'∧sc.1=true∧k q (pc+len) L (vi sc.2.1 :: S') W=some r:=by
  simp only [stepLS] at h
  split at h
  · obtain ⟨hb,h⟩:=cond_some h
    exact ⟨_,rfl,hb,h⟩
  · cases h
theorem iaload_someL (h:stepLS P Q TT mo sc kP k q pc L S W .iaload len=some r):∃ i S',S=.inl i :: .inr (.inr 0) :: S'∧sc.1=true∧0≤i∧i<sc.2.1∧k q (pc+len) L (vi (sc.2.2 i) :: S') W=some r:=by
  simp only [stepLS] at h
  split at h
  · obtain ⟨hb,h⟩:=cond_some h
    split at h
    · rename_i hc
      exact ⟨_,_,rfl,hb,hc.1,hc.2,h⟩
    · cases h
  · cases h
theorem special_someL {x:Nat} (h:stepLS P Q TT mo sc kP k q pc L S W (.invokespecial x) len=some r):∃ ps ml rk fr' lc' ps0 ml0 rk0 fr lc as o S' m y,pinf P 0=some (ps,ml,rk,fr',lc')∧linf Q q=some (ps0,ml0,rk0,fr,lc)∧popA ps S []=some (as,.inr (.inr (o+1)) :: S')∧wget W o=some (0,m) ∧
    lmk Q x=true∧q=0∧fr'+1≤fr∧cats S'+(ml+11)+lc'≤lc∧(initL (vr 0 :: as) ml).length≤ml∧kP 0 0 (initL (vr 0 :: as) ml) [] 0 m=some y∧y.2.1=TT∧k q (pc+len) L (pushR y.1 S') (wput W o y.2)=some r:=by
  simp only [stepLS] at h
  split at h
  · rename_i ps ml rk fr' lc' ps0 ml0 rk0 fr lc h1 h2
    split at h
    · rename_i as o S' hp
      split at h
      · rename_i m hw
        obtain ⟨hb,h⟩:=cond_some h
        simp only [Bool.and_eq_true] at hb
        obtain ⟨⟨⟨⟨g1,g2⟩,g3⟩,g4⟩,g5⟩:=hb
        obtain ⟨y,h3,h4⟩:=Option.bind_eq_some_iff.mp h
        obtain ⟨hb',h4⟩:=cond_some h4
        exact ⟨ps,ml,rk,fr',lc',ps0,ml0,rk0,fr,lc,as,o,S',m,y,h1,h2,hp,hw,g1,Nat.eq_of_beq_eq_true g2,Nat.le_of_ble_eq_true g3,Nat.le_of_ble_eq_true g4,Nat.le_of_ble_eq_true g5,h3,Nat.eq_of_beq_eq_true hb',h4⟩
      · cases h
    · cases h
  · cases h
theorem virtual_someL {x:Nat} (h:stepLS P Q TT mo sc kP k q pc L S W (.invokevirtual x) len=some r):∃ q' ps ml rk fr' lc' ps0 ml0 rk0 fr lc as o S' t m y,lvm Q x=some q'∧pinf P q'=some (ps,ml,rk,fr',lc')∧linf Q q=some (ps0,ml0,rk0,fr,lc)∧popA ps S []=some (as,.inr (.inr (o+1)) :: S')∧wget W o=some (t,m) ∧
    fr'+1≤fr∧cats S'+(ml+11)+lc'≤lc∧q'≠0∧(initL (vr 0 :: as) ml).length≤ml∧kP q' 0 (initL (vr 0 :: as) ml) [] t m=some y∧k q (pc+len) L (pushR y.1 S') (wput W o y.2)=some r:=by
  simp only [stepLS] at h
  split at h
  · rename_i q' hq'
    split at h
    · rename_i ps ml rk fr' lc' ps0 ml0 rk0 fr lc h1 h2
      split at h
      · rename_i as o S' hp
        split at h
        · rename_i t m hw
          obtain ⟨hb,h⟩:=cond_some h
          simp only [Bool.and_eq_true] at hb
          obtain ⟨⟨⟨g1,g2⟩,g3⟩,g4⟩:=hb
          obtain ⟨y,h3,h4⟩:=Option.bind_eq_some_iff.mp h
          exact ⟨q',ps,ml,rk,fr',lc',ps0,ml0,rk0,fr,lc,as,o,S',t,m,y,hq',h1,h2,hp,hw,Nat.le_of_ble_eq_true g1,Nat.le_of_ble_eq_true g2,(fun e=>by subst e; simp at g3),Nat.le_of_ble_eq_true g4,h3,h4⟩
        · cases h
      · cases h
    · cases h
  · cases h
theorem static_someL {x:Nat} (h:stepLS P Q TT mo sc kP k q pc L S W (.invokestatic x) len=some r):∃ q' ps ml rk fr' lc' ps0 ml0 rk0 fr lc as S' y,lsm Q x=some q'∧linf Q q'=some (ps,ml,rk,fr',lc')∧linf Q q=some (ps0,ml0,rk0,fr,lc)∧popB ps S []=some (as,S') ∧
    fr'+1≤fr∧cats S'+(ml+11)+lc'≤lc∧q'≠0∧(initL as ml).length≤ml∧k q' 0 (initL as ml) [] W=some y∧k q (pc+len) L (pushR y.1 S') y.2=some r:=by
  simp only [stepLS] at h
  split at h
  · rename_i q' hq'
    split at h
    · rename_i ps ml rk fr' lc' ps0 ml0 rk0 fr lc h1 h2
      split at h
      · rename_i as S' hp
        obtain ⟨hb,h⟩:=cond_some h
        simp only [Bool.and_eq_true] at hb
        obtain ⟨⟨⟨g1,g2⟩,g3⟩,g4⟩:=hb
        obtain ⟨y,h3,h4⟩:=Option.bind_eq_some_iff.mp h
        exact ⟨q',ps,ml,rk,fr',lc',ps0,ml0,rk0,fr,lc,as,S',y,hq',h1,h2,hp,Nat.le_of_ble_eq_true g1,Nat.le_of_ble_eq_true g2,(fun e=>by subst e; simp at g3),Nat.le_of_ble_eq_true g4,h3,h4⟩
      · cases h
    · cases h
  · cases h
theorem ireturn_someL (h:stepLS P Q TT mo sc kP k q pc L S W .ireturn len=some r):∃ z S' ps ml rk fr lc,S=.inl z :: S'∧linf Q q=some (ps,ml,rk,fr,lc)∧((rk=1∧r=(some (vi z),W))∨(rk=2∧r=(some (vi (z % 2)),W))):=by
  simp only [stepLS] at h
  split at h
  · split at h
    · rename_i hl; cases h; exact ⟨_,_,_,_,_,_,_,rfl,hl,Or.inl ⟨rfl,rfl⟩⟩
    · rename_i hl; cases h; exact ⟨_,_,_,_,_,_,_,rfl,hl,Or.inr ⟨rfl,rfl⟩⟩
    · cases h
  · cases h
theorem lreturn_someL (h:stepLS P Q TT mo sc kP k q pc L S W .lreturn len=some r):∃ z S' ps ml fr lc,S=.inr (.inl z) :: S'∧linf Q q=some (ps,ml,4,fr,lc)∧r=(some (vl z),W):=by
  simp only [stepLS] at h
  split at h
  · split at h
    · rename_i hl; cases h; exact ⟨_,_,_,_,_,_,rfl,hl,rfl⟩
    · cases h
  · cases h
theorem return_someL (h:stepLS P Q TT mo sc kP k q pc L S W .return_ len=some r):∃ ps ml fr lc,S=[]∧linf Q q=some (ps,ml,0,fr,lc)∧r=(none,W):=by
  simp only [stepLS] at h
  split at h
  · split at h
    · rename_i hl; cases h; exact ⟨_,_,_,_,rfl,hl,rfl⟩
    · cases h
  · cases h
end InvL
def EndL (P:PT) (C:String) (fnm:FN) (fkd:FK) (Z:State) (sc:ScT) (nA nf mo:Nat) (p:Program) (l:Launch) (e:Env) (R:Room) (s:State) (mi:MethodId) (args:Array Value) (below:List Frame) (meth:Method) (c:Code) (n0 q:Nat)
    (T:State) (A:Nat→Addr) (W:OWd) (locs:List Loc) (cells slots:Nat) (f0:JFrame) (r:Option OV) (W':OWd):Prop :=
  ∃ (v:Option Value) (T':State) (A':Nat→Addr) (AO':Nat→Nat→Addr) (lw:List Loc) (cells' slots':Nat),
    Stand p l e R s mi args below meth c T' (locs ++ lw) cells' slots'∧RepW P C fnm fkd Z sc T'.heap A' AO' n0 W'∧(∀ k,k≤W.length→A' k=A k)∧W.length≤W'.length∧T.heap.size≤T'.heap.size∧Fr n0 lw ∧
    (q=0→cells'≤cW 1 nA W'∧slots'≤cW nf (psum P nA) W'∧W'.length≤mo)∧(q≠0→OwnMini.ts W'=OwnMini.ts W∧cells'=cells∧slots'=slots)∧RVl r v∧(meth.sig.returnType=none→v=none) ∧
    ∀ fs,(∀ (f:JFrame) (acts:List Action),f.method=mi→f.locked=none→f.entered=[]→(doReturn e (T'.setTop f) acts v).1=T'.setFrames fs)→Steps p.tables e below (T.setTop f0) (T'.setFrames fs)
section SoundL
variable {P:PT} {Q:LT} {C own:String} {fnm:FN} {fkd:FK} {nm lnm:Nat→MethodName} {bys lbys:Nat→ByteArray} {nA nf mo:Nat} {a0:Array Value} {Z:State} {sc:ScT}
variable {p:Program} {l:Launch} {e:Env} {R:Room} {s:State} {mi:MethodId} {args:Array Value} {below:List Frame} {meth:Method} {c:Code} {n0 q:Nat}
theorem EndL.trans {T T1:State} {A A1:Nat→Addr} {W W1:OWd} {locs l1:List Loc} {cells slots cells1 slots1:Nat} {f0 f1:JFrame} {r:Option OV} {W':OWd}
    (E:EndL P C fnm fkd Z sc nA nf mo p l e R s mi args below meth c n0 q T1 A1 W1 (locs ++ l1) cells1 slots1 f1 r W') (hA:∀ k,k≤W.length→A1 k=A k) (hW:W.length≤W1.length) (hh:T.heap.size≤T1.heap.size) (hF:Fr n0 l1) (hq:q≠0→OwnMini.ts W1=OwnMini.ts W∧cells1=cells∧slots1=slots)
    (st:∀ target,Steps p.tables e below (T1.setTop f1) target→Steps p.tables e below (T.setTop f0) target):EndL P C fnm fkd Z sc nA nf mo p l e R s mi args below meth c n0 q T A W locs cells slots f0 r W':=by
  obtain ⟨v,T',A',AO',lw,cells',slots',h1,h2,h3,h4,h5,h6,h7,h8,h9,h10,h11⟩:=E
  refine ⟨v,T',A',AO',l1 ++ lw,cells',slots',by rw [← List.append_assoc]; exact h1,h2,fun k hk=>(h3 k (by omega)).trans (hA k hk),by omega,by omega,hF.app h6,h7,fun hq'=>?_,h9,h10,fun fs hfs=>st _ (h11 fs hfs)⟩
  obtain ⟨a1,a2,a3⟩:=hq hq'
  obtain ⟨b1,b2,b3⟩:=h8 hq'
  exact ⟨b1.trans a1,b2.trans a2,b3.trans a3⟩
def SoundAtL (P:PT) (Q:LT) (C own:String) (fnm:FN) (fkd:FK) (lbys:Nat→ByteArray) (nA nf mo:Nat) (Z:State) (sc:ScT) (l:Launch) (n:Nat):Prop :=
  ∀ q pc L S W r W',runL P Q (2*nA) mo sc n q pc L S W=some (r,W')→∀ ps ml rk fr lc,linf Q q=some (ps,ml,rk,fr,lc) →
  ∀ (p:Program) (e:Env) (R:Room) (s:State) (mi:MethodId) (args:Array Value) (below:List Frame) (meth:Method) (c:Code) (T:State) (locs:List Loc) (cells slots:Nat) (A:Nat→Addr) (AO:Nat→Nat→Addr) (Ls:Array Slot) (St:List Value) (n0:Nat),
    Stand p l e R s mi args below meth c T locs cells slots→p.tables.exec=Jvm.exec→Z.Warmed39 s.vm→s.vm.findClass own=some mi.cls→c.code=lbys q→c.maxLocals=ml→meth.sig.returnType=rty rk →
    RepW P C fnm fkd Z sc T.heap A AO n0 W→LR A W.length L Ls→SR A W.length S St→Ls.size=ml→n0≤T.heap.size→fr≤R.frames→lc≤R.locals→cells≤R.cells→slots≤R.slots→W.length≤mo →
    (q=0→cells≤cW 1 nA W∧slots≤cW nf (psum P nA) W∧mo*(1+nA)≤R.cells∧mo*(nf+psum P nA)≤R.slots) →
    EndL P C fnm fkd Z sc nA nf mo p l e R s mi args below meth c n0 q T A W locs cells slots (mkF mi pc Ls St) r W'
def QL (P:PT) (C:String) (fnm:FN) (fkd:FK) (Z:State) (sc:ScT) (n0:Nat) (W:OWd) (A:Nat→Addr) (h:Heap) (r:Option OV) (W':OWd) (v:Option Value) (h':Heap) (L:List Loc):Prop :=
  ∃ A' AO',RepW P C fnm fkd Z sc h' A' AO' n0 W'∧(∀ k,k≤W.length→A' k=A k)∧h.size≤h'.size∧Fr n0 L∧OwnMini.ts W'=OwnMini.ts W∧RVl r v
theorem metL (HL:TabL P Q C own nm lnm lbys a0 Z) {n:Nat} (hS:SoundAtL P Q C own fnm fkd lbys nA nf mo Z sc l n) {ps:List Nat} {ml rk fr lc:Nat} (hq:linf Q q=some (ps,ml,rk,fr,lc)) (hq0:q≠0) {as:List OV} {W:OWd} {r:Option OV} {W':OWd}
    (hrun:runL P Q (2*nA) mo sc n q 0 (initL as ml) [] W=some (r,W')) (hsz:(initL as ml).length≤ml) {A:Nat→Addr} {AO:Nat→Nat→Addr} {h:Heap} (hn0:n0≤h.size) (hR:RepW P C fnm fkd Z sc h A AO n0 W) (hmo:W.length≤mo) {vals:List Value} (hv:SR A W.length as vals) :
    MetFree l (lnm q) (head1 [Jvm.Cond.code (lnm q) (lbys q) ml (rty rk)] ({ frames:=fr,cells:=0,slots:=0,locals:=lc }:Room)) (fun a U=>a=vals.toArray∧Z.Warmed39 U.vm∧U.heap=h) (fun _ _ _ _ _=>True)
      (fun _ U o U'=>∃ v L,o=.returned v∧QL P C fnm fkd Z sc n0 W A h r W' v U'.heap L∧FrameEnd U o U' L 0 0):=by
  have HL':=HL
  obtain ⟨-,-,-,-,-,-,hinf,hpn,-⟩:=HL'
  obtain ⟨hcls,-⟩:=hinf q ps ml rk fr lc hq hq0
  refine MetFree.of_bodySF (plainFor_of_name (by rw [hcls]; exact hpn)) hisR ?_
  intro p e s m' args below meth c s₁ Bd hml0 hP hK
  obtain ⟨rfl,hZ,hh⟩:=hP
  have X0:=Stand.of_body Bd
  have e0:s₁.heap=h:=by rw [← hh,Bd.state]; rfl
  have hown:s.vm.findClass own=some m'.cls:=by rw [← hcls]; exact findClass_of_methodNamed Bd.named
  have hL:=entry_rel (n:=ml) hv
  have hz:(argsToLocals vals.toArray ml).size=ml:=by
    rw [← hL.1]
    refine Nat.le_antisymm hsz ?_
    simp only [initL,List.length_append,List.length_replicate]; omega
  obtain ⟨v,T',A',AO',lw,cells',slots',h1,h2,h3,h4,h5,h6,h7,h8,h9,h10,h11⟩:=hS q 0 _ [] W r W' hrun ps ml rk fr lc hq p e _ s m' _ below meth c s₁ [] 0 0 A AO (argsToLocals vals.toArray ml) [] n0 X0 Bd.exec hZ hown Bd.bytes hml0 Bd.returns
    (by rw [e0]; exact hR) hL trivial hz (by rw [e0]; exact hn0) (Nat.le_refl _) (Nat.le_refl _) (Nat.zero_le _) (Nat.zero_le _) hmo (fun q0=>absurd q0 hq0)
  rw [e0] at h5
  obtain ⟨b1,b2,b3⟩:=h8 hq0
  obtain ⟨fs,hr,hrun',hended,hW,hsame⟩:=h1.leave (v:=v) h10
  exact ⟨_,_,h11 fs hr,hrun',hended,v,_,rfl,⟨A',AO',h2,h3,h5,h6,b1,h9⟩,⟨_,rfl⟩,hW,hsame.mono (by omega) (by omega)⟩
end SoundL
theorem soundL {P:PT} {Q:LT} {C own:String} {fnm:FN} {fkd:FK} {nm lnm:Nat→MethodName} {bys lbys:Nat→ByteArray} {nA nf mo:Nat} {a0:Array Value} {Z:State} {sc:ScT} (HT:TabP P C fnm fkd nm bys nA nf a0 Z) (HL:TabL P Q C own nm lnm lbys a0 Z) (hA1:1≤nA) (l:Launch):∀ n,SoundAtL P Q C own fnm fkd lbys nA nf mo Z sc l n
  | 0=>fun q pc L S W r W' h=>by cases h
  | n+1=>by
    intro q pc L0 S W r W' h ps ml rk fr lc hq p e R s mi args below meth c T locs cells slots A AO Ls St n0 X hx hZ hown hby hml hret hR hL0 hSt hsz hn0 hfr hlc hce hsl hmo hroom
    have IH:=soundL (mo:=mo) (sc:=sc) HT HL hA1 l n
    have IP:=soundP HT l n
    have HT':=HT
    obtain ⟨-,-,-,-,-,-,-,-,tinf,-,-,tins,tini,-,thn,tnm,trk⟩:=HT'
    have HL':=HL
    obtain ⟨lcod,lcs,lv,lm,ls,lc',lin,lpn,lhn⟩:=HL'
    replace h:stepL P Q (2*nA) mo sc (runP P n) (runL P Q (2*nA) mo sc n) q pc L0 S W=some (r,W'):=h
    unfold stepL at h
    cases hcd:lcode Q q pc with
    | none=>rw [hcd] at h; cases h
    | some il =>
      obtain ⟨i,len⟩:=il
      rw [hcd] at h
      replace h:stepLI P Q (2*nA) mo sc (runP P n) (runL P Q (2*nA) mo sc n) q pc (mask (lliv Q q pc) L0) S W i len=some (r,W'):=h
      have hL:=hL0.mask (lliv Q q pc)
      generalize mask (lliv Q q pc) L0=L at h hL
      obtain ⟨hdec,hchk⟩:=lcod q pc i len hcd
      have hd:decode c.code pc=.ok (i,len):=by rw [hby]; exact hdec
      have hcst:(∀ x z,lcst Q x=some (.inl z)→∃ v:Int32,(Jvm.Cond.constant own x v).before args s=true∧v.toInt=z)∧(∀ x z,lcst Q x=some (.inr (.inl z))→∃ v:Int64,(Jvm.Cond.constantLong own x v).before args s=true∧v.toInt=z) :=
        ⟨fun x z hz=>by obtain ⟨v,h1,h2⟩:=lcs.1 x z hz; exact ⟨v,mv hZ h1,h2⟩,fun x z hz=>by obtain ⟨v,h1,h2⟩:=lcs.2 x z hz; exact ⟨v,mv hZ h1,h2⟩⟩
      have go:∀ {pc':Nat} {L':OLs} {S':List OV} {Ls':Array Slot} {St':List Value},runL P Q (2*nA) mo sc n q pc' L' S' W=some (r,W')→LR A W.length L' Ls'→SR A W.length S' St'→Ls'.size=ml →
          (∀ target,Steps p.tables e below (T.setTop (mkF mi pc' Ls' St')) target→Steps p.tables e below (T.setTop (mkF mi pc Ls St)) target) →
          EndL P C fnm fkd Z sc nA nf mo p l e R s mi args below meth c n0 q T A W locs cells slots (mkF mi pc Ls St) r W':=fun hrun hL1 hS1 hz1 st =>
        EndL.trans (l1:=[]) (IH q _ _ _ W r W' hrun ps ml rk fr lc hq p e R s mi args below meth c T _ cells slots A AO _ _ n0 (by rw [List.append_nil]; exact X) hx hZ hown hby hml hret hR hL1 hS1 hz1 hn0 hfr hlc hce hsl hmo hroom) (fun _ _=>rfl) (Nat.le_refl _) (Nat.le_refl _) (Fr.nil _) (fun _=>⟨rfl,rfl,rfl⟩) st
      -- going on behind an object's method
      have gv:∀ {T1:State} {L1:List Loc} {v:Option Value} {y1:Option OV} {o t t1:Nat} {m m1:OMem} {S':List OV} {St':List Value} {cells1 slots1:Nat},wget W o=some (t,m)→Stand p l e R s mi args below meth c T1 (locs ++ L1) cells1 slots1 →
          (∃ A',RepO P C fnm fkd Z T1.heap A' n0 t1 m1∧(∀ j,j≤(t+1) / 2→A' j=AO o j)∧t≤t1∧(∀ j,(t+1) / 2<j→j≤(t1+1) / 2→T.heap.size≤A' j)∧Fr n0 L1∧Sam T.heap T1.heap (AO o) ((t+1) / 2)∧RVl y1 v)→SR A W.length S' St'→runL P Q (2*nA) mo sc n q (pc+3) L (pushR y1 S') (wput W o (t1,m1))=some (r,W') →
          cells1≤R.cells→slots1≤R.slots→(q=0→cells1≤cW 1 nA (wput W o (t1,m1))∧slots1≤cW nf (psum P nA) (wput W o (t1,m1)))→(q≠0→t1=t∧cells1=cells∧slots1=slots) →
          (∀ target,Steps p.tables e below (T1.setTop (mkF mi (pc+3) Ls (v.toList ++ St'))) target→Steps p.tables e below (T.setTop (mkF mi pc Ls St)) target) →
          EndL P C fnm fkd Z sc nA nf mo p l e R s mi args below meth c n0 q T A W locs cells slots (mkF mi pc Ls St) r W':=fun {T1 L1 v y1 o t t1 m m1 S' St' cells1 slots1} ho X1 hQ hS1 hrun hc1 hs1 h0 h1 st=>by
        obtain ⟨A',g1,g2,g3,g4,g5,g6,g7⟩:=hQ
        have hR1:=hR.ran ho g1 g2 g4 g6
        have hlen:=wput_len W o (t1,m1)
        refine EndL.trans (l1:=L1) (IH q _ _ _ _ r W' hrun ps ml rk fr lc hq p e R s mi args below meth c T1 _ cells1 slots1 A _ Ls _ n0 X1 hx hZ hown hby hml hret hR1 (by rw [hlen]; exact hL) (by rw [hlen]; exact g7.push hS1) hsz (Nat.le_trans hn0 g6.1) hfr hlc hc1 hs1 (by rw [hlen]; exact hmo) (fun q0=>⟨(h0 q0).1,(h0 q0).2,(hroom q0).2.2.1,(hroom q0).2.2.2⟩)) (fun _ _=>rfl) (by rw [hlen]; exact Nat.le_refl _) g6.1 g5 (fun q0=>?_) st
        obtain ⟨e1,e2,e3⟩:=h1 q0
        subst e1
        exact ⟨ts_wput ho,e2,e3⟩
      cases hsp:isSpecL i with
      | false =>
        simp only [stepLI,hsp,cond_false] at h
        obtain ⟨pc',L',S',Ls',St',h1,h2,h3,h4,h5⟩:=pstep_sound (cst:=lcst Q) (k:=fun pc' L' S'=>runL P Q (2*nA) mo sc n q pc' L' S' W) X hx hown hcst hL hSt hd hchk h
        exact go h1 h2 h3 (h4.trans hsz) h5
      | true =>
      simp only [stepLI,hsp,cond_true] at h
      clear hcd
      cases i
      case new x =>
        obtain rfl:len=3:=by simpa [chk,ilen] using hchk
        obtain ⟨hcl,hq0,hlt,h⟩:=new_someL h
        obtain ⟨b1,b2,b3,b4⟩:=hroom hq0
        have d1:=cW_le 1 nA W
        have d2:=cW_le nf (psum P nA) W
        have d3:(W.length+1)*(1+nA)≤mo*(1+nA):=Nat.mul_le_mul_right _ hlt
        have d4:(W.length+1)*(nf+psum P nA)≤mo*(nf+psum P nA):=Nat.mul_le_mul_right _ hlt
        rw [Nat.add_mul] at d3 d4
        obtain ⟨T1,h1,X1,e1,E,Ex,D,-,st⟩:=newO X hx hZ hown (lc' x hcl) tins tini rfl (g:=mkF mi pc Ls St) rfl hd (by omega) (by omega)
        subst e1
        have hR1:=hR.made HT hn0 E Ex D
        have hAg:∀ k,k≤W.length→updA A (W.length+1) T.heap.size k=A k:=fun k hk=>updA_ne (by omega)
        have hln:(W ++ [((0:Nat),z0)]).length=W.length+1:=by simp
        refine EndL.trans (l1:=[]) (IH q _ _ _ _ r W' h ps ml rk fr lc hq p e R s mi args below meth c T1 _ (cells+1) (slots+nf) _ _ Ls (.ref T.heap.size :: St) n0 (by rw [List.append_nil]; exact X1) hx hZ hown hby hml hret hR1 (by rw [hln]; exact hL.mono hAg (by omega)) (by rw [hln]; exact ⟨⟨Nat.le_refl _,by rw [updA_eq]⟩,hSt.mono hAg (by omega)⟩) hsz (Nat.le_trans hn0 E.1) hfr hlc (by omega) (by omega) (by rw [hln]; omega) (fun _=>⟨by rw [cW_append]; omega,by rw [cW_append]; omega,b3,b4⟩)) hAg (by rw [hln]; omega) E.1 (Fr.nil _) (fun q0=>absurd hq0 q0) st
      case arraylength =>
        obtain rfl:len=1:=by simpa [chk,ilen] using hchk
        obtain ⟨S',rfl,hs,h⟩:=length_someL h
        obtain ⟨hb0,St',rfl,hS'⟩:=SR.r1 hSt
        obtain ⟨g1,cl,g2,g3,g4,g5⟩:=hR.2.2 hs
        exact go h hL (SR.ci (by rw [len_toInt (by omega)]; exact g3) hS') hsz (fun target hr=>X.arraylength hx g2.1 (State.isArrayOf_alike hZ.alike g2.2.1) (g:=mkF mi pc Ls (.ref (A 0) :: St')) rfl rfl hd target hr)
      case iaload =>
        obtain rfl:len=1:=by simpa [chk,ilen] using hchk
        obtain ⟨i,S',rfl,hs,hi0,hi1,h⟩:=iaload_someL h
        obtain ⟨y,St1,rfl,rfl,hS1⟩:=SR.i1 hSt
        obtain ⟨hb0,St',rfl,hS'⟩:=SR.r1 hS1
        obtain ⟨g1,cl,g2,g3,g4,g5⟩:=hR.2.2 hs
        obtain ⟨w,hv,hw⟩:=g5 y.toNatClampNeg (by have:=clamp32 hi0; omega)
        rw [clamp32 hi0] at hw
        exact go h hL (SR.ci hw hS') hsz (fun target hr=>X.iaload hx g2.1 (State.isArrayOf_alike hZ.alike g2.2.1) g2.2.2 (idx32 hi0 (by omega)) hv (g:=mkF mi pc Ls (.int y :: .ref (A 0) :: St')) rfl rfl hd target hr)
      case invokespecial x =>
        obtain rfl:len=3:=by simpa [chk,ilen] using hchk
        obtain ⟨ps',ml',rk',fr',lc'',ps0,ml0,rk0,fr0,lc0,as,o,S',m,y,hi',hq1,hpop,ho,hmk,hq0,hf1,hl1,hlen,hcall,hyT,hcont⟩:=special_someL h
        clear h
        cases hq.symm.trans hq1
        obtain ⟨y1,t1,m1⟩:=y
        have hyT:t1=2*nA:=hyT
        obtain ⟨B,St1,hB,hS1,rfl,hBl⟩:=popA_rel hpop hSt
        obtain ⟨hb0,St',rfl,hS'⟩:=SR.r1 hS1
        obtain ⟨hRo,hA0⟩:=hR.1 o _ _ ho
        obtain ⟨b1,b2,b3,b4⟩:=hroom hq0
        have d1:=cW_raw (a:=1) (b:=nA) ho
        have d2:=cW_raw (a:=nf) (b:=psum P nA) ho
        have d3:W.length*(1+nA)≤mo*(1+nA):=Nat.mul_le_mul_right _ hmo
        have d4:W.length*(nf+psum P nA)≤mo*(nf+psum P nA):=Nat.mul_le_mul_right _ hmo
        have hargs:SR (AO o) ((0+1) / 2) (vr 0 :: as) (.ref (A (o+1)) :: B):=⟨⟨by omega,by rw [hA0]⟩,by simpa using hB (AO o) ((0+1) / 2) [] trivial⟩
        obtain ⟨icls,iinst,icode,-,params,ipd,ipl⟩:=tinf 0 _ _ _ _ _ hi'
        have hM:=metP (l:=l) (cl:=nA) (sl:=psum P nA) HT IP hi' hcall hlen hn0 hRo hargs (fun _=>⟨by omega,by omega⟩)
        have hBk:=backOf (R:=R) (p:=p) (e:=e) (below:=below) (s:=s) (args:=args) (len:=3) (W:=cats S') (rm:={ frames:=fr',cells:=nA,slots:=psum P nA,locals:=lc'' }) (Q:=QP P C fnm fkd Z n0 0 0 (AO o) T.heap y1 t1 m1) hM hZ icode (by rw [icls]; exact tini) (by show fr'+1≤R.frames; omega) (by show cats S'+(ml'+11)+lc''≤R.locals; omega)
        have hyn:(nm 0).cls≠"java/lang/invoke/MethodHandle"∧(nm 0).cls≠"java/lang/invoke/VarHandle":=by rw [icls]; exact thn
        have hlenA:∀ sig,parseMethodDescriptor (nm 0).desc=some sig→B.length=sig.parameters.length:=lenOf ipd (by rw [hBl,ipl])
        have hrk:rty rk'=none:=by rw [trk _ _ _ _ _ hi']; rfl
        rw [hrk] at icode
        obtain ⟨v,vm1,⟨T1,L1,k1,n1⟩,-,X1,⟨Lc,hQ,l1,c1,s1⟩,st⟩:=X.specialBack hx tnm hown (mv hZ (lm x hmk)) (mv hZ iinst) (mv hZ icode) hyn hBk (g:=mkF mi pc Ls (B.reverse ++ .ref (A (o+1)) :: St')) rfl (by rw [hml]; exact hsz) (Steps.refl _) (a:=A (o+1)) (argsL:=B) (rest:=St') hlenA rfl (by show 2*0+_≤_; rw [hS'.catsum]; omega) hd (fun _ _=>⟨rfl,rfl,by show cells+nA≤_; omega,by show slots+psum P nA≤_; omega⟩)
        dsimp only [Pt.U,Pt.locs,Pt.cells,Pt.slots] at X1 l1 c1 s1 st hQ
        subst l1 c1 s1
        obtain ⟨A',g1,g2,g3,g4,g5,g6,g7,g8⟩:=hQ
        subst hyT
        have e2:2*nA=(2*nA - 1)+1:=by omega
        have w1:cW 1 nA (wput W o (2*nA,m1))=cW 1 nA W+nA:=by rw [e2]; exact cW_made ho
        have w2:cW nf (psum P nA) (wput W o (2*nA,m1))=cW nf (psum P nA) W+psum P nA:=by rw [e2]; exact cW_made ho
        exact gv ho X1 ⟨A',g1,g2,g3,g4,g5,g6,g7⟩ hS' hcont (by omega) (by omega) (fun _=>⟨by omega,by omega⟩) (fun q0=>absurd hq0 q0) (fun target hr=>st.trans hr)
      case invokevirtual x =>
        obtain rfl:len=3:=by simpa [chk,ilen] using hchk
        obtain ⟨q',ps',ml',rk',fr',lc'',ps0,ml0,rk0,fr0,lc0,as,o,S',t,m,y,hx',hi',hq1,hpop,ho,hf1,hl1,hq'0,hlen,hcall,hcont⟩:=virtual_someL h
        clear h
        cases hq.symm.trans hq1
        obtain ⟨y1,t1,m1⟩:=y
        obtain ⟨B,St1,hB,hS1,rfl,hBl⟩:=popA_rel hpop hSt
        obtain ⟨hb0,St',rfl,hS'⟩:=SR.r1 hS1
        obtain ⟨hRo,hA0⟩:=hR.1 o _ _ ho
        have hargs:SR (AO o) ((t+1) / 2) (vr 0 :: as) (.ref (A (o+1)) :: B):=⟨⟨by omega,by rw [hA0]⟩,by simpa using hB (AO o) ((t+1) / 2) [] trivial⟩
        obtain ⟨icls,iinst,icode,-,params,ipd,ipl⟩:=tinf q' _ _ _ _ _ hi'
        obtain ⟨vl1,vl2,vl3⟩:=lv x _ hx'
        have hM:=metP (l:=l) (cl:=0) (sl:=0) HT IP hi' hcall hlen hn0 hRo hargs (fun q0=>absurd q0 hq'0)
        have hBk:=backOf (R:=R) (p:=p) (e:=e) (below:=below) (s:=s) (args:=args) (len:=3) (W:=cats S') (rm:={ frames:=fr',cells:=0,slots:=0,locals:=lc'' }) (Q:=QP P C fnm fkd Z n0 q' t (AO o) T.heap y1 t1 m1) hM hZ icode (by rw [icls]; exact tini) (by show fr'+1≤R.frames; omega) (by show cats S'+(ml'+11)+lc''≤R.locals; omega)
        have hyn:(nm q').cls≠"java/lang/invoke/MethodHandle"∧(nm q').cls≠"java/lang/invoke/VarHandle":=by rw [icls]; exact thn
        have hlenA:∀ sig,parseMethodDescriptor (nm q').desc=some sig→B.length=sig.parameters.length:=lenOf ipd (by rw [hBl,ipl])
        obtain ⟨cB,kB,i1,i2,i3⟩:=isOf (T:=T) hZ rfl hRo.1
        rw [hA0] at i3
        obtain ⟨v,vm1,⟨T1,L1,k1,n1⟩,-,X1,⟨Lc,hQ,l1,c1,s1⟩,st⟩:=X.virtualBack hx (C:=C) (y:=nm q') (z:=nm q') hown (mv hZ vl1) (mv hZ vl2) (notFace_of_selects (args:=args) (mv hZ vl3)) (mv hZ vl3) (mv hZ iinst) hyn hBk i1 i3 (g:=mkF mi pc Ls (B.reverse ++ .ref (A (o+1)) :: St')) rfl (by rw [hml]; exact hsz) (Steps.refl _) (argsL:=B) (rest:=St') hlenA rfl (by show 2*0+_≤_; rw [hS'.catsum]; omega) hd (fun _ _=>⟨rfl,rfl,hce,hsl⟩)
        dsimp only [Pt.U,Pt.locs,Pt.cells,Pt.slots] at X1 l1 c1 s1 st hQ
        subst l1 c1 s1
        obtain ⟨A',g1,g2,g3,g4,g5,g6,g7,g8⟩:=hQ
        obtain rfl:=g8 hq'0
        have w1:=cW_ts (a:=1) (b:=nA) (ts_wput (m':=m1) ho)
        have w2:=cW_ts (a:=nf) (b:=psum P nA) (ts_wput (m':=m1) ho)
        exact gv ho X1 ⟨A',g1,g2,g3,g4,g5,g6,g7⟩ hS' hcont hce hsl (fun q0=>⟨by rw [w1]; exact (hroom q0).1,by rw [w2]; exact (hroom q0).2.1⟩) (fun _=>⟨rfl,rfl,rfl⟩) (fun target hr=>st.trans hr)
      case invokestatic x =>
        obtain rfl:len=3:=by simpa [chk,ilen] using hchk
        obtain ⟨q',ps',ml',rk',fr',lc'',ps0,ml0,rk0,fr0,lc0,as,S',y,hx',hi',hq1,hpop,hf1,hl1,hq'0,hlen,hcall,hcont⟩:=static_someL h
        clear h
        cases hq.symm.trans hq1
        obtain ⟨y1,W1⟩:=y
        obtain ⟨B,St',hB,hS',rfl,hBl⟩:=popB_rel (X:=[]) hpop hSt trivial
        rw [List.append_nil] at hB
        obtain ⟨icls,istat,iini,icode,params,ipd,ipl⟩:=lin q' _ _ _ _ _ hi' hq'0
        have hM:=metL (l:=l) HL IH hi' hq'0 hcall hlen hn0 hR hmo hB
        have hBk:=backOf (R:=R) (p:=p) (e:=e) (below:=below) (s:=s) (args:=args) (len:=3) (W:=cats S') (rm:={ frames:=fr',cells:=0,slots:=0,locals:=lc'' }) (Q:=QL P C fnm fkd Z sc n0 W A T.heap y1 W1) hM hZ icode (by rw [icls]; exact iini) (by show fr'+1≤R.frames; omega) (by show cats S'+(ml'+11)+lc''≤R.locals; omega)
        have hyn:(lnm q').cls≠"java/lang/invoke/MethodHandle"∧(lnm q').cls≠"java/lang/invoke/VarHandle":=by rw [icls]; exact lhn
        have hlenA:∀ sig,parseMethodDescriptor (lnm q').desc=some sig→B.length=sig.parameters.length:=lenOf ipd (by rw [hBl,ipl])
        obtain ⟨v,vm1,⟨T1,L1,k1,n1⟩,-,X1,⟨Lc,hQ,l1,c1,s1⟩,st⟩:=Jvm.LawKit.callS X hx hown (mv hZ (ls x _ hx')) (mv hZ istat) (mv hZ (by rw [icls]; exact iini)) (mv hZ icode) hyn hBk (g:=mkF mi pc Ls (B.reverse ++ St')) rfl (by rw [hml]; exact hsz) (argsL:=B) (rest:=St') hlenA rfl (by show 2*0+_≤_; rw [hS'.catsum]; omega) hd (fun _ _=>⟨rfl,rfl,hce,hsl⟩)
        dsimp only [Pt.U,Pt.locs,Pt.cells,Pt.slots] at X1 l1 c1 s1 st hQ
        subst l1 c1 s1
        obtain ⟨A',AO',g1,g2,g3,g4,g5,g6⟩:=hQ
        have w1:=cW_ts (a:=1) (b:=nA) g5
        have w2:=cW_ts (a:=nf) (b:=psum P nA) g5
        have wl:=ts_len g5
        exact EndL.trans (l1:=Lc) (IH q _ _ _ W1 r W' hcont ps ml rk fr lc hq p e R s mi args below meth c T1 _ _ _ A' AO' Ls _ n0 X1 hx hZ hown hby hml hret g1 (by rw [wl]; exact hL.mono g2 (Nat.le_refl _)) (by rw [wl]; exact g6.push (hS'.mono g2 (Nat.le_refl _))) hsz (Nat.le_trans hn0 g3) hfr hlc hce hsl (by rw [wl]; exact hmo) (fun q0=>⟨by rw [w1]; exact (hroom q0).1,by rw [w2]; exact (hroom q0).2.1,(hroom q0).2.2.1,(hroom q0).2.2.2⟩)) g2 (by rw [wl]; exact Nat.le_refl _) g3 g4 (fun _=>⟨g5,rfl,rfl⟩) st
      case ireturn =>
        obtain rfl:len=1:=by simpa [chk,ilen] using hchk
        obtain ⟨z,S',ps',ml',rk',fr',lc'',rfl,hq',hcase⟩:=ireturn_someL h
        cases hq.symm.trans hq'
        obtain ⟨y,St',rfl,hy,hS'⟩:=SR.i1 hSt
        rcases hcase with ⟨rfl,hr⟩ | ⟨rfl,hr⟩
        · cases hr
          exact ⟨some (.int y),T,A,AO,[],cells,slots,by rw [List.append_nil]; exact X,hR,fun _ _=>rfl,Nat.le_refl _,Nat.le_refl _,Fr.nil _,fun q0=>⟨(hroom q0).1,(hroom q0).2.1,hmo⟩,fun _=>⟨rfl,rfl,rfl⟩,⟨y,rfl,hy⟩,(fun q=>by rw [hret] at q; cases q),fun fs hfs=>retI' X hx hret hd hfs⟩
        · cases hr
          exact ⟨some (.int (y &&& 1)),T,A,AO,[],cells,slots,by rw [List.append_nil]; exact X,hR,fun _ _=>rfl,Nat.le_refl _,Nat.le_refl _,Fr.nil _,fun q0=>⟨(hroom q0).1,(hroom q0).2.1,hmo⟩,fun _=>⟨rfl,rfl,rfl⟩,⟨_,rfl,by rw [and1_eq,hy]⟩,(fun q=>by rw [hret] at q; cases q),fun fs hfs=>retN X hx (t:=.boolean) hret (by simp) hd hfs⟩
      case lreturn =>
        obtain rfl:len=1:=by simpa [chk,ilen] using hchk
        obtain ⟨z,S',ps',ml',fr',lc'',rfl,hq',hr⟩:=lreturn_someL h
        cases hq.symm.trans hq'
        cases hr
        obtain ⟨y,St',rfl,hy,hS'⟩:=SR.l1 hSt
        exact ⟨some (.long y),T,A,AO,[],cells,slots,by rw [List.append_nil]; exact X,hR,fun _ _=>rfl,Nat.le_refl _,Nat.le_refl _,Fr.nil _,fun q0=>⟨(hroom q0).1,(hroom q0).2.1,hmo⟩,fun _=>⟨rfl,rfl,rfl⟩,⟨y,rfl,hy⟩,(fun q=>by rw [hret] at q; cases q),fun fs hfs=>retOut X hx hret rfl (Or.inr (Or.inl ⟨rfl,rfl,y,rfl⟩)) hd hfs⟩
      case return_ =>
        obtain rfl:len=1:=by simpa [chk,ilen] using hchk
        obtain ⟨ps',ml',fr',lc'',rfl,hq',hr⟩:=return_someL h
        cases hq.symm.trans hq'
        cases hr
        cases St with
        | cons _ _=>exact hSt.elim
        | nil=>exact ⟨none,T,A,AO,[],cells,slots,by rw [List.append_nil]; exact X,hR,fun _ _=>rfl,Nat.le_refl _,Nat.le_refl _,Fr.nil _,fun q0=>⟨(hroom q0).1,(hroom q0).2.1,hmo⟩,fun _=>⟨rfl,rfl,rfl⟩,rfl,fun _=>rfl,fun fs hfs=>X.returnOut hx hret hd hfs⟩
      all_goals cases hsp
end Jvm.OwnMini
namespace Jvm.OwnMini
/-! A plain function's outcome,followed by what the machine does from there,is what the machine does. -/
def Sim {α ρ:Type} (o:Option α) (K:α→Nat→Option ρ) (F:Nat→Option ρ):Prop:=∀ a,o=some a→∀ r,(∃ n,K a n=some r)→∃ n,F n=some r
def Mono {ρ:Type} (F:Nat→Option ρ):Prop:=∀ n r,F n=some r→F (n+1)=some r
theorem Mono.le {ρ:Type} {F:Nat→Option ρ} (h:Mono F) {n k:Nat} (hk:n≤k) {r:ρ} (hn:F n=some r):F k=some r:=by
  induction hk with
  | refl=>exact hn
  | step _ ih=>exact h _ _ ih
section
variable {α β ρ ρ1 σ ε:Type} {K:α→Nat→Option ρ} {F:Nat→Option ρ}
theorem Sim.pur (a:α) (K:α→Nat→Option ρ):Sim (some a) K (K a):=fun b h r hr=>by cases h; exact hr
theorem Sim.non:Sim none K F:=fun b h=>by cases h
theorem Sim.shift (k:Nat) {o:Option α} {G:Nat→Option ρ} (h:∀ n,F (n+k)=G n) (s:Sim o K G):Sim o K F:=fun a ha r hr=>by
  obtain ⟨n,hn⟩:=s a ha r hr
  exact ⟨n+k,(h n).trans hn⟩
theorem Sim.ite {c:Prop} [Decidable c] {x y:Option α} {F G:Nat→Option ρ} (h1:c→Sim x K F) (h2:¬ c→Sim y K G):Sim (if c then x else y) K (fun n=>if c then F n else G n):=by
  by_cases h:c
  · simp only [if_pos h]; exact h1 h
  · simp only [if_neg h]; exact h2 h
theorem Sim.grd {c:Prop} [Decidable c] {x:Option α} {F:Nat→Option ρ} (h1:c→Sim x K F):Sim (if c then x else none) K (fun n=>if c then F n else none):=Sim.ite h1 (fun _=>Sim.non)
theorem Sim.dv {c:Prop} [Decidable c] {x:Option α} {F:Nat→Option ρ} (h1:¬ c→Sim x K F):Sim (if c then none else x) K (fun n=>if c then none else F n):=Sim.ite (fun _=>Sim.non) h1
theorem Sim.bind {f:Option β} {g:β→Option α} {K1:β→Nat→Option ρ} (h1:Sim f K1 F) (h2:∀ b,Sim (g b) K (K1 b)):Sim (f.bind g) K F:=fun a ha r hr=>by
  cases f with
  | none=>cases ha
  | some b=>exact h1 b rfl r (h2 b a ha r hr)
theorem Sim.jmp {o:Option α} {G:Nat→Option ρ} (s:Sim o K G) (h0:G 0=none) (h:∀ n,F (n+1)=G (n+1)):Sim o K F:=fun a ha r hr=>by
  obtain ⟨n,hn⟩:=s a ha r hr
  cases n with
  | zero=>rw [h0] at hn; cases hn
  | succ n=>exact ⟨n+1,(h n).trans hn⟩
theorem Sim.leaf {a:α} (h0:K a 0=none) (h:∀ n,F (n+1)=K a (n+1)):Sim (some a) K F:=Sim.jmp (Sim.pur a K) h0 h
theorem Sim.call {f:Option β} {g:β→Option α} {K1:β→Nat→Option ρ1} {F1:Nat→Option ρ1} {F2:ρ1→Nat→Option ρ} {v:β→ρ1} (h1:Sim f K1 F1) (hK:∀ b n,K1 b n=some (v b)) (m1:Mono F1) (m2:∀ y,Mono (F2 y)) (h2:∀ b,Sim (g b) K (F2 (v b))) :
    Sim (f.bind g) K (fun n=>(F1 n).bind fun y=>F2 y n):=fun a ha r hr=>by
  cases f with
  | none=>cases ha
  | some b =>
    obtain ⟨n1,hn1⟩:=h1 b rfl (v b) ⟨0,hK b 0⟩
    obtain ⟨n2,hn2⟩:=h2 b a ha r hr
    refine ⟨max n1 n2,?_⟩
    show (F1 (max n1 n2)).bind _=_
    rw [m1.le (Nat.le_max_left _ _) hn1]
    exact (m2 _).le (Nat.le_max_right _ _) hn2
/-- a loop: its body says: once more,or out -/
def lp (body:σ→Option (σ⊕ε)):Nat→σ→Option ε
  | 0,_=>none
  | n+1,s=>match body s with
    | none=>none
    | some (.inl s')=>lp body n s'
    | some (.inr e)=>some e
theorem Sim.lp {body:σ→Option (σ⊕ε)} {H:σ→Nat→Option ρ} {X:ε→Nat→Option ρ} (hb:∀ s,Sim (body s) (Sum.elim H X) (H s)):∀ N s,Sim (OwnMini.lp body N s) X (H s)
  | 0,s=>Sim.non
  | N+1,s=>fun a ha r hr=>by
    unfold OwnMini.lp at ha
    cases hbs:body s with
    | none=>rw [hbs] at ha; cases ha
    | some x =>
      rw [hbs] at ha
      cases x with
      | inl s'=>exact hb s _ hbs r (Sim.lp hb N s' a ha r hr)
      | inr e=>cases ha; exact hb s _ hbs r hr
end
/-- more turns than any loop here makes -/
def NN:Nat:=4611686018427387904
end Jvm.OwnMini
namespace Jvm.OwnMini
open Jvm Jvm.ClassFile Sem Op Lib Jvm.Free Jvm.Stand Jvm.LawKit Jvm.RoadKit
/-! More fuel never changes an answer. -/
theorem br_mono {β:Type} {c:ClassFile.Cond} {a b:Int} {x y x' y':Option β} {r:β} (h1:x=some r→x'=some r) (h2:y=some r→y'=some r) (h:br c a b x y=some r):br c a b x' y'=some r:=by
  cases c <;> simp only [br] at h ⊢ <;> split at h <;> rename_i q <;> first | (rw [if_pos q]; first | exact h1 h | exact h2 h) | (rw [if_neg q]; first | exact h1 h | exact h2 h)
theorem tsw_mono {β:Type} (a:Int):∀ (lo:Int) (os:List Int) {f f':Int→Option β} {d d':Option β} {r:β},(∀ o,f o=some r→f' o=some r)→(d=some r→d'=some r)→tsw a lo os f d=some r→tsw a lo os f' d'=some r
  | lo,[],f,f',d,d',r,h1,h2,h=>h2 h
  | lo,o :: os,f,f',d,d',r,h1,h2,h=>by
    unfold tsw at h ⊢
    split at h
    · rename_i q; rw [if_pos q]; exact h1 o h
    · rename_i q; rw [if_neg q]; exact tsw_mono a _ os h1 h2 h
theorem pstep_mono {β:Type} {cst:Nat→Option OV} {i:Instr} {pc len:Nat} {L:OLs} {S:List OV} {k k':Nat→OLs→List OV→Option β} (hk:∀ a b c r,k a b c=some r→k' a b c=some r) {r:β} (h:pstep cst i pc len L S k=some r):pstep cst i pc len L S k'=some r:=by
  cases i
  case iconst z =>
    exact hk _ _ _ _ h
  case bipush z =>
    exact hk _ _ _ _ h
  case sipush z =>
    exact hk _ _ _ _ h
  case lconst z =>
    exact hk _ _ _ _ h
  case ldc x =>
    simp only [pstep] at h ⊢
    cases hq:cst x with
    | none=>rw [hq] at h; cases h
    | some v =>
      rw [hq] at h
      rcases v with z | z | z
      · exact hk _ _ _ _ h
      · cases h
      · cases h
  case ldc_w x =>
    simp only [pstep] at h ⊢
    cases hq:cst x with
    | none=>rw [hq] at h; cases h
    | some v =>
      rw [hq] at h
      rcases v with z | z | z
      · exact hk _ _ _ _ h
      · cases h
      · cases h
  case ldc2_w x =>
    simp only [pstep] at h ⊢
    cases hq:cst x with
    | none=>rw [hq] at h; cases h
    | some v =>
      rw [hq] at h
      rcases v with z | z | z
      · cases h
      · exact hk _ _ _ _ h
      · cases h
  case iload x =>
    obtain ⟨z,hg,h⟩:=gi_some h
    simp only [pstep,gi,hg]
    exact hk _ _ _ _ h
  case iload_n x =>
    obtain ⟨z,hg,h⟩:=gi_some h
    simp only [pstep,gi,hg]
    exact hk _ _ _ _ h
  case lload x =>
    obtain ⟨z,hg,h⟩:=gl_some h
    simp only [pstep,gl,hg]
    exact hk _ _ _ _ h
  case lload_n x =>
    obtain ⟨z,hg,h⟩:=gl_some h
    simp only [pstep,gl,hg]
    exact hk _ _ _ _ h
  case aload x =>
    obtain ⟨z,hg,h⟩:=gr_some h
    simp only [pstep,gr,hg]
    exact hk _ _ _ _ h
  case aload_n x =>
    obtain ⟨z,hg,h⟩:=gr_some h
    simp only [pstep,gr,hg]
    exact hk _ _ _ _ h
  case istore x =>
    obtain ⟨z,S',rfl,h⟩:=pi1_some h
    obtain ⟨h0,h⟩:=inL_some h
    simp only [pstep,pi1,inL,if_pos h0]
    exact hk _ _ _ _ h
  case istore_n x =>
    obtain ⟨z,S',rfl,h⟩:=pi1_some h
    obtain ⟨h0,h⟩:=inL_some h
    simp only [pstep,pi1,inL,if_pos h0]
    exact hk _ _ _ _ h
  case lstore x =>
    obtain ⟨z,S',rfl,h⟩:=pl1_some h
    obtain ⟨h0,h⟩:=inL_some h
    simp only [pstep,pl1,inL,if_pos h0]
    exact hk _ _ _ _ h
  case lstore_n x =>
    obtain ⟨z,S',rfl,h⟩:=pl1_some h
    obtain ⟨h0,h⟩:=inL_some h
    simp only [pstep,pl1,inL,if_pos h0]
    exact hk _ _ _ _ h
  case astore x =>
    obtain ⟨z,S',rfl,h⟩:=pr1_some h
    obtain ⟨h0,h⟩:=inL_some h
    simp only [pstep,pr1,inL,if_pos h0]
    exact hk _ _ _ _ h
  case astore_n x =>
    obtain ⟨z,S',rfl,h⟩:=pr1_some h
    obtain ⟨h0,h⟩:=inL_some h
    simp only [pstep,pr1,inL,if_pos h0]
    exact hk _ _ _ _ h
  case iinc x z =>
    obtain ⟨a,hg,h⟩:=gi_some h
    obtain ⟨h0,h⟩:=inL_some h
    simp only [pstep,gi,hg,inL,if_pos h0]
    exact hk _ _ _ _ h
  case iadd =>
    obtain ⟨a,b',S',rfl,h⟩:=pi2_some h
    exact hk _ _ _ _ h
  case isub =>
    obtain ⟨a,b',S',rfl,h⟩:=pi2_some h
    exact hk _ _ _ _ h
  case imul =>
    obtain ⟨a,b',S',rfl,h⟩:=pi2_some h
    exact hk _ _ _ _ h
  case iand =>
    obtain ⟨a,b',S',rfl,h⟩:=pi2_some h
    exact hk _ _ _ _ h
  case ior =>
    obtain ⟨a,b',S',rfl,h⟩:=pi2_some h
    exact hk _ _ _ _ h
  case ixor =>
    obtain ⟨a,b',S',rfl,h⟩:=pi2_some h
    exact hk _ _ _ _ h
  case ishl =>
    obtain ⟨a,b',S',rfl,h⟩:=pi2_some h
    exact hk _ _ _ _ h
  case ishr =>
    obtain ⟨a,b',S',rfl,h⟩:=pi2_some h
    exact hk _ _ _ _ h
  case iushr =>
    obtain ⟨a,b',S',rfl,h⟩:=pi2_some h
    exact hk _ _ _ _ h
  case ladd =>
    obtain ⟨a,b',S',rfl,h⟩:=pl2_some h
    exact hk _ _ _ _ h
  case lsub =>
    obtain ⟨a,b',S',rfl,h⟩:=pl2_some h
    exact hk _ _ _ _ h
  case lmul =>
    obtain ⟨a,b',S',rfl,h⟩:=pl2_some h
    exact hk _ _ _ _ h
  case land =>
    obtain ⟨a,b',S',rfl,h⟩:=pl2_some h
    exact hk _ _ _ _ h
  case lor =>
    obtain ⟨a,b',S',rfl,h⟩:=pl2_some h
    exact hk _ _ _ _ h
  case lxor =>
    obtain ⟨a,b',S',rfl,h⟩:=pl2_some h
    exact hk _ _ _ _ h
  case lcmp =>
    obtain ⟨a,b',S',rfl,h⟩:=pl2_some h
    exact hk _ _ _ _ h
  case lshl =>
    obtain ⟨a,b',S',rfl,h⟩:=pli_some h
    exact hk _ _ _ _ h
  case lshr =>
    obtain ⟨a,b',S',rfl,h⟩:=pli_some h
    exact hk _ _ _ _ h
  case lushr =>
    obtain ⟨a,b',S',rfl,h⟩:=pli_some h
    exact hk _ _ _ _ h
  case idiv =>
    obtain ⟨a,b',S',rfl,h⟩:=pi2_some h
    simp only [pstep,pi2] at h ⊢
    by_cases hz:b'=0
    · rw [if_pos hz] at h; cases h
    · rw [if_neg hz] at h ⊢; exact hk _ _ _ _ h
  case irem =>
    obtain ⟨a,b',S',rfl,h⟩:=pi2_some h
    simp only [pstep,pi2] at h ⊢
    by_cases hz:b'=0
    · rw [if_pos hz] at h; cases h
    · rw [if_neg hz] at h ⊢; exact hk _ _ _ _ h
  case ldiv =>
    obtain ⟨a,b',S',rfl,h⟩:=pl2_some h
    simp only [pstep,pl2] at h ⊢
    by_cases hz:b'=0
    · rw [if_pos hz] at h; cases h
    · rw [if_neg hz] at h ⊢; exact hk _ _ _ _ h
  case lrem =>
    obtain ⟨a,b',S',rfl,h⟩:=pl2_some h
    simp only [pstep,pl2] at h ⊢
    by_cases hz:b'=0
    · rw [if_pos hz] at h; cases h
    · rw [if_neg hz] at h ⊢; exact hk _ _ _ _ h
  case ineg =>
    obtain ⟨a,S',rfl,h⟩:=pi1_some h
    exact hk _ _ _ _ h
  case i2l =>
    obtain ⟨a,S',rfl,h⟩:=pi1_some h
    exact hk _ _ _ _ h
  case i2b =>
    obtain ⟨a,S',rfl,h⟩:=pi1_some h
    exact hk _ _ _ _ h
  case lneg =>
    obtain ⟨a,S',rfl,h⟩:=pl1_some h
    exact hk _ _ _ _ h
  case l2i =>
    obtain ⟨a,S',rfl,h⟩:=pl1_some h
    exact hk _ _ _ _ h
  case goto o =>
    exact hk _ _ _ _ h
  case if_icmp c o =>
    obtain ⟨a,b',S',rfl,h⟩:=pi2_some h
    exact br_mono (hk _ _ _ _) (hk _ _ _ _) h
  case ifCond c o =>
    obtain ⟨a,S',rfl,h⟩:=pi1_some h
    exact br_mono (hk _ _ _ _) (hk _ _ _ _) h
  case tableswitch d lo hi os =>
    obtain ⟨a,S',rfl,h⟩:=pi1_some h
    exact tsw_mono _ _ _ (fun o=>hk _ _ _ _) (hk _ _ _ _) h
  case dup =>
    obtain ⟨v,S',rfl,hv,h⟩:=dup_some h
    rcases v with z | z | z
    · exact hk _ _ _ _ h
    · cases hv
    · exact hk _ _ _ _ h
  case pop =>
    obtain ⟨v,S',rfl,hv,h⟩:=pop_some h
    rcases v with z | z | z
    · exact hk _ _ _ _ h
    · cases hv
    · exact hk _ _ _ _ h
  case dup2 =>
    rcases dup2_some h with ⟨z,S',rfl,h⟩ | ⟨u,v,S',rfl,hu,hv,h⟩
    · exact hk _ _ _ _ h
    · rcases u with z | z | z
      · rcases v with y | y | y
        · exact hk _ _ _ _ h
        · cases hv
        · exact hk _ _ _ _ h
      · cases hu
      · rcases v with y | y | y
        · exact hk _ _ _ _ h
        · cases hv
        · exact hk _ _ _ _ h
  all_goals cases h
theorem cond_mono {α:Type} {b:Bool} {x x':Option α} {r:α} (h1:x=some r→x'=some r) (h:cond b x none=some r):cond b x' none=some r:=by
  cases b
  · cases h
  · exact h1 h
theorem ite_mono {α:Type} {c:Prop} [Decidable c] {x x':Option α} {r:α} (h1:x=some r→x'=some r) (h:(if c then x else none)=some r):(if c then x' else none)=some r:=by
  by_cases q:c
  · rw [if_pos q] at h ⊢; exact h1 h
  · rw [if_neg q] at h; cases h
theorem bind_mono {α β:Type} {x x':Option α} {f f':α→Option β} {r:β} (h1:∀ a,x=some a→x'=some a) (h2:∀ a,f a=some r→f' a=some r) (h:x.bind f=some r):x'.bind f'=some r:=by
  obtain ⟨a,q1,q2⟩:=Option.bind_eq_some_iff.mp h
  rw [h1 a q1]; exact h2 a q2
theorem ald_mono {P:PT} {kd:Nat→Bool} {S:List OV} {t:Nat} {f f':Nat→Int→List OV→RT} {r:Option OV×Nat×OMem} (hf:∀ a b c,f a b c=some r→f' a b c=some r) (h:ald P kd S t f=some r):ald P kd S t f'=some r:=by
  unfold ald at h ⊢
  split at h
  · split at h
    · rename_i hl
      try simp only [hl]
      exact cond_mono (ite_mono (hf _ _ _)) h
    · cases h
  · cases h
theorem asi_mono {P:PT} {kd:Nat→Bool} {S:List OV} {t:Nat} {f f':Nat→Nat→Int→Int→List OV→RT} {r:Option OV×Nat×OMem} (hf:∀ a b c d e,f a b c d e=some r→f' a b c d e=some r) (h:asi P kd S t f=some r):asi P kd S t f'=some r:=by
  unfold asi at h ⊢
  split at h
  · split at h
    · rename_i hl
      try simp only [hl]
      exact cond_mono (ite_mono (hf _ _ _ _ _)) h
    · cases h
  · cases h
theorem asl_mono {P:PT} {kd:Nat→Bool} {S:List OV} {t:Nat} {f f':Nat→Int→Int→List OV→RT} {r:Option OV×Nat×OMem} (hf:∀ a b c d,f a b c d=some r→f' a b c d=some r) (h:asl P kd S t f=some r):asl P kd S t f'=some r:=by
  unfold asl at h ⊢
  split at h
  · split at h
    · rename_i hl
      try simp only [hl]
      exact cond_mono (ite_mono (hf _ _ _ _)) h
    · cases h
  · cases h
theorem stepI_mono {P:PT} {k k':Nat→Nat→OLs→List OV→Nat→OMem→RT} (hk:∀ a b c d e f r,k a b c d e f=some r→k' a b c d e f=some r) {q pc len t:Nat} {L:OLs} {S:List OV} {m:OMem} {i:Instr} {r:Option OV×Nat×OMem} (h:stepI P k q pc L S t m i len=some r):stepI P k' q pc L S t m i len=some r:=by
  cases hsp:isSpec i with
  | false =>
    simp only [stepI,hsp,cond_false] at h ⊢
    exact pstep_mono (fun _ _ _ _=>hk _ _ _ _ _ _ _) h
  | true =>
  simp only [stepI,hsp,cond_true] at h ⊢
  cases i
  case getfield x =>
    simp only [stepS] at h ⊢
    split at h
    · split at h
      · rename_i hf; (try simp only [hf]); exact cond_mono (hk _ _ _ _ _ _ _) h
      · rename_i hf; (try simp only [hf]); exact hk _ _ _ _ _ _ _ h
      · rename_i hf; (try simp only [hf]); exact hk _ _ _ _ _ _ _ h
      · rename_i hf; (try simp only [hf]); exact hk _ _ _ _ _ _ _ h
      · cases h
    · cases h
  case putfield x =>
    simp only [stepS] at h ⊢
    split at h
    · rename_i hf
      split at h
      · (try simp only [hf]); exact cond_mono (hk _ _ _ _ _ _ _) h
      · cases h
    · rename_i hf
      split at h
      · (try simp only [hf]); exact cond_mono (hk _ _ _ _ _ _ _) h
      · cases h
    · rename_i hf
      split at h
      · (try simp only [hf]); exact cond_mono (hk _ _ _ _ _ _ _) h
      · cases h
    · rename_i hf
      split at h
      · (try simp only [hf]); exact cond_mono (hk _ _ _ _ _ _ _) h
      · cases h
    · cases h
  case iaload=>exact ald_mono (fun _ _ _=>hk _ _ _ _ _ _ _) h
  case baload=>exact ald_mono (fun _ _ _=>hk _ _ _ _ _ _ _) h
  case laload=>exact ald_mono (fun _ _ _=>hk _ _ _ _ _ _ _) h
  case iastore=>exact asi_mono (fun _ _ _ _ _=>hk _ _ _ _ _ _ _) h
  case bastore=>exact asi_mono (fun _ _ _ _ _=>hk _ _ _ _ _ _ _) h
  case lastore=>exact asl_mono (fun _ _ _ _=>hk _ _ _ _ _ _ _) h
  case arraylength =>
    simp only [stepS] at h ⊢
    split at h
    · split at h
      · rename_i hf; (try simp only [hf]); exact cond_mono (hk _ _ _ _ _ _ _) h
      · cases h
    · cases h
  case newarray a =>
    simp only [stepS] at h ⊢
    split at h
    · split at h
      · rename_i hf; (try simp only [hf]); exact cond_mono (ite_mono (hk _ _ _ _ _ _ _)) h
      · cases h
    · cases h
  case invokespecial x =>
    simp only [stepS] at h ⊢
    split at h
    · split at h
      · rename_i hf; (try simp only [hf]); exact cond_mono (hk _ _ _ _ _ _ _) h
      · cases h
    · cases h
  case invokevirtual x =>
    simp only [stepS] at h ⊢
    split at h
    · rename_i h0
      split at h
      · rename_i h1 h2
        split at h
        · rename_i h3
          try simp only [h0,h1,h2,h3]
          exact cond_mono (bind_mono (fun _=>hk _ _ _ _ _ _ _) (fun _=>hk _ _ _ _ _ _ _)) h
        · cases h
      · cases h
    · cases h
  case ireturn=>exact h
  case lreturn=>exact h
  case return_=>exact h
  all_goals cases hsp
theorem runP_mono {P:PT} (q pc:Nat) (L:OLs) (S:List OV) (t:Nat) (m:OMem):Mono (fun n=>runP P n q pc L S t m):=by
  intro n
  show ∀ r,runP P n q pc L S t m=some r→runP P (n+1) q pc L S t m=some r
  induction n generalizing q pc L S t m with
  | zero=>intro r h; cases h
  | succ n ih =>
    intro r h
    have h:stepP P (runP P n) q pc L S t m=some r:=h
    show stepP P (runP P (n+1)) q pc L S t m=some r
    unfold stepP at h ⊢
    split at h
    · rename_i hc
      try simp only [hc]
      exact stepI_mono (fun a b c d e f=>ih a b c d e f) h
    · cases h
theorem stepLI_mono {P:PT} {Q:LT} {T mo:Nat} {sc:ScT} {kP kP':Nat→Nat→OLs→List OV→Nat→OMem→RT} {k k':Nat→Nat→OLs→List OV→OWd→RTL} (hp:∀ a b c d e f r,kP a b c d e f=some r→kP' a b c d e f=some r) (hk:∀ a b c d e r,k a b c d e=some r→k' a b c d e=some r) {q pc len:Nat} {L:OLs} {S:List OV} {W:OWd} {i:Instr} {r:Option OV×OWd}
    (h:stepLI P Q T mo sc kP k q pc L S W i len=some r):stepLI P Q T mo sc kP' k' q pc L S W i len=some r:=by
  cases hsp:isSpecL i with
  | false =>
    simp only [stepLI,hsp,cond_false] at h ⊢
    exact pstep_mono (fun _ _ _ _=>hk _ _ _ _ _ _) h
  | true =>
  simp only [stepLI,hsp,cond_true] at h ⊢
  cases i
  case new x=>exact cond_mono (hk _ _ _ _ _ _) h
  case arraylength =>
    simp only [stepLS] at h ⊢
    split at h
    · exact cond_mono (hk _ _ _ _ _ _) h
    · cases h
  case iaload =>
    simp only [stepLS] at h ⊢
    split at h
    · exact cond_mono (ite_mono (hk _ _ _ _ _ _)) h
    · cases h
  case invokespecial x =>
    simp only [stepLS] at h ⊢
    split at h
    · rename_i h1 h2
      split at h
      · rename_i h3
        split at h
        · rename_i h4
          try simp only [h1,h2,h3,h4]
          exact cond_mono (bind_mono (fun _=>hp _ _ _ _ _ _ _) (fun _=>cond_mono (hk _ _ _ _ _ _))) h
        · cases h
      · cases h
    · cases h
  case invokevirtual x =>
    simp only [stepLS] at h ⊢
    split at h
    · rename_i h0
      split at h
      · rename_i h1 h2
        split at h
        · rename_i h3
          split at h
          · rename_i h4
            try simp only [h0,h1,h2,h3,h4]
            exact cond_mono (bind_mono (fun _=>hp _ _ _ _ _ _ _) (fun _=>hk _ _ _ _ _ _)) h
          · cases h
        · cases h
      · cases h
    · cases h
  case invokestatic x =>
    simp only [stepLS] at h ⊢
    split at h
    · rename_i h0
      split at h
      · rename_i h1 h2
        split at h
        · rename_i h3
          try simp only [h0,h1,h2,h3]
          exact cond_mono (bind_mono (fun _=>hk _ _ _ _ _ _) (fun _=>hk _ _ _ _ _ _)) h
        · cases h
      · cases h
    · cases h
  case ireturn=>exact h
  case lreturn=>exact h
  case return_=>exact h
  all_goals cases hsp
theorem runL_mono {P:PT} {Q:LT} {T mo:Nat} {sc:ScT} (q pc:Nat) (L:OLs) (S:List OV) (W:OWd):Mono (fun n=>runL P Q T mo sc n q pc L S W):=by
  intro n
  show ∀ r,runL P Q T mo sc n q pc L S W=some r→runL P Q T mo sc (n+1) q pc L S W=some r
  induction n generalizing q pc L S W with
  | zero=>intro r h; cases h
  | succ n ih =>
    intro r h
    have h:stepL P Q T mo sc (runP P n) (runL P Q T mo sc n) q pc L S W=some r:=h
    show stepL P Q T mo sc (runP P (n+1)) (runL P Q T mo sc (n+1)) q pc L S W=some r
    unfold stepL at h ⊢
    split at h
    · rename_i hc
      try simp only [hc]
      exact stepLI_mono (fun a b c d e f=>runP_mono a b c d e f n) (fun a b c d e=>ih a b c d e) h
    · cases h
theorem cond_Mono {α:Type} {b:Bool} {F:Nat→Option α} (h:Mono F):Mono (fun n=>cond b (F n) none):=fun n r hn=>by
  cases b
  · cases hn
  · exact h n r hn
end Jvm.OwnMini
namespace Jvm.OwnMini
open Jvm Jvm.ClassFile Sem Op Lib Jvm.Free Jvm.Stand Jvm.LawKit Jvm.RoadKit
/-! Statements on all entries of a table,from its finite list. -/
def AllL {α:Type} (Q:Nat→α→Prop):List (Nat×α)→Prop
  | []=>True
  | x :: L=>Q x.1 x.2∧AllL Q L
def AllN (Q:Nat→Prop):Nat→Prop
  | 0=>True
  | n+1=>AllN Q n∧Q n
theorem allN {Q:Nat→Prop}:∀ {N:Nat},AllN Q N→∀ q,q<N→Q q
  | 0,_,q,h=>by omega
  | N+1,⟨h1,h2⟩,q,h=>by
    by_cases e:q=N
    · subst e; exact h2
    · exact allN h1 q (by omega)
theorem cond_ge {α:Type} {N x:Nat} {y:Option α} (h:N≤x):cond (Nat.blt x N) y none=none:=by
  have:Nat.blt x N=false:=by
    cases hb:Nat.blt x N with
    | false=>rfl
    | true=>exact absurd (Nat.le_of_ble_eq_true hb) (by omega)
  rw [this]; rfl
theorem allL_mem {α:Type} {Q:Nat→α→Prop}:∀ {L:List (Nat×α)},AllL Q L→∀ x e,(x,e)∈L→Q x e
  | [],_,x,e,h=>by cases h
  | y :: L,⟨h1,h2⟩,x,e,h=>by
    cases h with
    | head=>exact h1
    | tail _ h=>exact allL_mem h2 x e h
theorem tab_all {α:Type} [DecidableEq α] {f:Nat→Option α} (N:Nat) (L:List (Nat×α)) (hN:∀ x,N≤x→f x=none) (h:((List.range N).all fun x=>match f x with | none=>true | some e=>L.any fun y=>decide (y=(x,e)))=true) {Q:Nat→α→Prop} (hQ:AllL Q L):∀ x e,f x=some e→Q x e:=by
  intro x e hx
  by_cases hlt:x<N
  · have h1:=List.all_eq_true.mp h x (List.mem_range.mpr hlt)
    rw [hx] at h1
    obtain ⟨y,hy,h2⟩:=List.any_eq_true.mp h1
    have h3:=of_decide_eq_true h2
    subst h3
    exact allL_mem hQ x e hy
  · rw [hN x (by omega)] at hx; cases hx
theorem code_all {f:Nat→Option (Instr×Nat)} {bytes:ByteArray} (N:Nat) (hN:∀ x,N≤x→f x=none) (h:((List.range N).all fun pc=>match f pc with | none=>true | some (i,len)=>decide (decode bytes pc=.ok (i,len)) && chk pc i len)=true):∀ pc i len,f pc=some (i,len)→decode bytes pc=.ok (i,len)∧chk pc i len=true:=by
  intro pc i len hx
  by_cases hlt:pc<N
  · have h1:=List.all_eq_true.mp h pc (List.mem_range.mpr hlt)
    rw [hx] at h1
    simp only [Bool.and_eq_true,decide_eq_true_eq] at h1
    exact h1
  · rw [hN pc (by omega)] at hx; cases hx
/-- the fields by their numbers -/
def fkdOf (f:Nat→Option (Nat×Nat×Bool)):FK:=fun z=>match z with
  | .ofNat n=>f n
  | .negSucc _=>none
def fnmOf (f:Nat→String×String):FN:=fun z=>f z.toNat
theorem names_all {f:Nat→Option (Nat×Nat×Bool)} {g:Nat→String×String} (N:Nat) (hN:∀ x,N≤x→f x=none) (h:((List.range N).all fun n=>(List.range N).all fun n'=>Nat.beq n n' || (match f n,f n' with | some _,some _=>decide ((g n).1≠(g n').1) | _,_=>true))=true) :
    ∀ z z' x x',fkdOf f z=some x→fkdOf f z'=some x'→z≠z'→(fnmOf g z).1≠(fnmOf g z').1:=by
  intro z z' x x' h1 h2 hne
  match z,z',h1,h2 with
  | .ofNat n,.ofNat n',h1,h2 =>
    have h1:f n=some x:=h1
    have h2:f n'=some x':=h2
    have l1:n<N:=Nat.lt_of_not_le fun q=>by rw [hN n q] at h1; cases h1
    have l2:n'<N:=Nat.lt_of_not_le fun q=>by rw [hN n' q] at h2; cases h2
    have q:=List.all_eq_true.mp (List.all_eq_true.mp h n (List.mem_range.mpr l1)) n' (List.mem_range.mpr l2)
    rw [h1,h2] at q
    simp only [Bool.or_eq_true,decide_eq_true_eq] at q
    rcases q with q | q
    · exact absurd (congrArg Int.ofNat (Nat.eq_of_beq_eq_true q)) hne
    · exact q
theorem ptrs_all {f:Nat→Option (Nat×Nat×Bool)} (N:Nat) (hN:∀ x,N≤x→f x=none) (h:((List.range N).all fun n=>(List.range N).all fun n'=>Nat.beq n n' || (match f n,f n' with | some (0,j,_),some (0,j',_)=>decide (j≠j') | _,_=>true))=true) :
    ∀ z z' j b b',fkdOf f z=some (0,j,b)→fkdOf f z'=some (0,j,b')→z=z':=by
  intro z z' j b b' h1 h2
  match z,z',h1,h2 with
  | .ofNat n,.ofNat n',h1,h2 =>
    have h1:f n=some (0,j,b):=h1
    have h2:f n'=some (0,j,b'):=h2
    have l1:n<N:=Nat.lt_of_not_le fun q=>by rw [hN n q] at h1; cases h1
    have l2:n'<N:=Nat.lt_of_not_le fun q=>by rw [hN n' q] at h2; cases h2
    have q:=List.all_eq_true.mp (List.all_eq_true.mp h n (List.mem_range.mpr l1)) n' (List.mem_range.mpr l2)
    rw [h1,h2] at q
    simp only [Bool.or_eq_true,decide_eq_true_eq] at q
    rcases q with q | q
    · rw [Nat.eq_of_beq_eq_true q]
    · exact absurd rfl q
theorem fkd_all {f:Nat→Option (Nat×Nat×Bool)} {Q:Int→Nat→Nat→Bool→Prop} (h:∀ n e,f n=some e→Q (Int.ofNat n) e.1 e.2.1 e.2.2):∀ z kd j b,fkdOf f z=some (kd,j,b)→Q z kd j b:=by
  intro z kd j b hz
  match z,hz with
  | .ofNat n,hz=>exact h n _ hz
/-- the law,from the case's start -/
theorem lawMet {P:PT} {Q:LT} {C own:String} {fnm:FN} {fkd:FK} {nm lnm:Nat→MethodName} {bys lbys:Nat→ByteArray} {nA nf mo:Nat} {a0:Array Value} {Z:State} {sc:ScT} (HT:TabP P C fnm fkd nm bys nA nf a0 Z) (HL:TabL P Q C own nm lnm lbys a0 Z) (hA1:1≤nA) (l:Launch)
    {x:MethodName} (hxc:x.cls=own) {ps:List Nat} {ml fr lc:Nat} (hq:linf Q 0=some (ps,ml,2,fr,lc)) {n:Nat} {as:List OV} {W':OWd} (hrun:runL P Q (2*nA) mo sc n 0 0 (initL as ml) [] []=some (some (vi 1),W')) (hsz:(initL as ml).length≤ml)
    (ws:List Jvm.Cond) {rm:Room} (hfr:fr≤rm.frames) (hlc:lc≤rm.locals) (hce:mo*(1+nA)≤rm.cells) (hsl:mo*(nf+psum P nA)≤rm.slots) {h:Heap} {n0:Nat} (hn0:n0≤h.size) {A:Nat→Addr} (hs:ScR Z h n0 (A 0) sc) {vals:List Value} (hv:SR A 0 as vals) :
    MetFree l x (head1 (Jvm.Cond.code x (lbys 0) ml (some .boolean) :: ws) rm) (fun a U=>a=vals.toArray∧Z.Warmed39 U.vm∧U.heap=h) (fun _ _ _ _ _=>True) (fun _ U o U'=>∃ L,o=.returned (some (.int 1))∧Fr n0 L∧FrameEnd U o U' L rm.cells rm.slots):=by
  have HL':=HL
  obtain ⟨-,-,-,-,-,-,-,hpn,-⟩:=HL'
  refine MetFree.of_bodySF (plainFor_of_name (by rw [hxc]; exact hpn)) hisR ?_
  intro p e s m' args below meth c s₁ Bd hml0 hP hK
  obtain ⟨rfl,hZ,hh⟩:=hP
  have X0:=Stand.of_body Bd
  have e0:s₁.heap=h:=by rw [← hh,Bd.state]; rfl
  have hown:s.vm.findClass own=some m'.cls:=by rw [← hxc]; exact findClass_of_methodNamed Bd.named
  have hL:=entry_rel (n:=ml) hv
  have hz:(argsToLocals vals.toArray ml).size=ml:=by
    rw [← hL.1]
    refine Nat.le_antisymm hsz ?_
    simp only [initL,List.length_append,List.length_replicate]; omega
  have hRW:RepW P C fnm fkd Z sc s₁.heap A (fun _ _=>0) n0 []:=by
    rw [e0]
    exact ⟨fun k t m q=>(by cases q),fun k k' t m t' m2 j j' q=>(by cases q),hs⟩
  obtain ⟨v,T',A',AO',lw,cells',slots',h1,h2,h3,h4,h5,h6,h7,h8,h9,h10,h11⟩:=soundL HT HL hA1 l n 0 0 _ [] [] _ W' hrun ps ml 2 fr lc hq p e _ s m' _ below meth c s₁ [] 0 0 A (fun _ _=>0) (argsToLocals vals.toArray ml) [] n0 X0 Bd.exec hZ hown Bd.bytes hml0 Bd.returns
    hRW hL trivial hz (by rw [e0]; exact hn0) hfr hlc (Nat.zero_le _) (Nat.zero_le _) (Nat.zero_le _) (fun _=>⟨Nat.zero_le _,Nat.zero_le _,hce,hsl⟩)
  obtain ⟨b1,b2,b3⟩:=h7 rfl
  obtain ⟨y,rfl,hy⟩:=h9
  obtain rfl:y=1:=Int32.toInt_inj.mp hy
  obtain ⟨fs,hr,hrun',hended,hW,hsame⟩:=h1.leave (v:=some (.int 1)) h10
  have d1:=cW_le 1 nA W'
  have d2:=cW_le nf (psum P nA) W'
  have d3:W'.length*(1+nA)≤mo*(1+nA):=Nat.mul_le_mul_right _ b3
  have d4:W'.length*(nf+psum P nA)≤mo*(nf+psum P nA):=Nat.mul_le_mul_right _ b3
  exact ⟨_,_,h11 fs hr,hrun',hended,lw,rfl,h6,⟨_,rfl⟩,hW,hsame.mono (by omega) (by omega)⟩
end Jvm.OwnMini
namespace Jvm.OwnMini
/-! Reasoning on the plain functions. -/
def Ok {α:Type} (o:Option α) (Q:α→Prop):Prop:=∃ a,o=some a∧Q a
section
variable {α β σ ε:Type} {Q:α→Prop}
theorem Ok.ret {a:α} (h:Q a):Ok (some a) Q:=⟨a,rfl,h⟩
theorem Ok.mono {o:Option α} {P:α→Prop} (h:Ok o P) (h2:∀ a,P a→Q a):Ok o Q:=by
  obtain ⟨a,e,q⟩:=h; exact ⟨a,e,h2 a q⟩
theorem Ok.bind {f:Option β} {g:β→Option α} {P:β→Prop} (h:Ok f P) (h2:∀ b,P b→Ok (g b) Q):Ok (f.bind g) Q:=by
  obtain ⟨a,e,q⟩:=h
  obtain ⟨c,e2,q2⟩:=h2 a q
  exact ⟨c,by rw [e]; exact e2,q2⟩
theorem Ok.bindE {f:Option β} {g:β→Option α} {b:β} (h:f=some b) (h2:Ok (g b) Q):Ok (f.bind g) Q:=by
  rw [h]; exact h2
theorem Ok.ite {c:Prop} [Decidable c] {x y:Option α} (h1:c→Ok x Q) (h2:¬ c→Ok y Q):Ok (if c then x else y) Q:=by
  by_cases h:c
  · rw [if_pos h]; exact h1 h
  · rw [if_neg h]; exact h2 h
theorem Ok.pos {c:Prop} [Decidable c] {x y:Option α} (h:c) (h1:Ok x Q):Ok (if c then x else y) Q:=by rw [if_pos h]; exact h1
theorem Ok.neg {c:Prop} [Decidable c] {x y:Option α} (h:¬ c) (h1:Ok y Q):Ok (if c then x else y) Q:=by rw [if_neg h]; exact h1
theorem Ok.lp {body:σ→Option (σ⊕ε)} {I:σ→Prop} {μ:σ→Nat} {Qx:ε→Prop} (h:∀ s,I s→Ok (body s) (fun x=>match x with | .inl s'=>I s'∧μ s'<μ s | .inr e=>Qx e)):∀ (n:Nat) (s:σ),I s→μ s<n→Ok (OwnMini.lp body n s) Qx
  | 0,s,_,hn=>by omega
  | n+1,s,hI,hn=>by
    obtain ⟨x,e,q⟩:=h s hI
    unfold OwnMini.lp
    rw [e]
    cases x with
    | inl s'=>exact Ok.lp h n s' q.1 (by have:=q.2; omega)
    | inr e'=>exact ⟨e',rfl,q⟩
/-- one turn by hand -/
theorem lp_more {body:σ→Option (σ⊕ε)} {n:Nat} {s s':σ} (h:body s=some (.inl s')):lp body (n+1) s=lp body n s':=by
  show (match body s with | none=>none | some (.inl s')=>lp body n s' | some (.inr e)=>some e)=_
  rw [h]
theorem lp_out {body:σ→Option (σ⊕ε)} {n:Nat} {s:σ} {e:ε} (h:body s=some (.inr e)):lp body (n+1) s=some e:=by
  show (match body s with | none=>none | some (.inl s')=>lp body n s' | some (.inr e)=>some e)=_
  rw [h]
end
theorem NN_eq:NN=4611686018427387904:=rfl
theorem w32_id {z:Int} (h:-2147483648≤z∧z<2147483648):w32 z=z:=by unfold w32; omega
theorem w64_id {z:Int} (h:-9223372036854775808≤z∧z<9223372036854775808):w64 z=z:=by unfold w64; omega
theorem sto_at (m:OMem) (k:Nat) (i z:Int):sto m k i z k i=z:=by simp [sto]
theorem sto_k (m:OMem) {k k':Nat} (i z i':Int) (h:k'≠k):sto m k i z k' i'=m k' i':=by simp [sto,h]
theorem sto_i (m:OMem) (k k':Nat) {i i':Int} (z:Int) (h:i'≠i):sto m k i z k' i'=m k' i':=by simp [sto,h]
end Jvm.OwnMini
namespace Jvm.OwnMini
section
variable {α β σ ε:Type} {Q:α→Prop}
theorem Ok.bind' {f:Option β} {g:β→Option α} (h:Ok f (fun b=>Ok (g b) Q)):Ok (f.bind g) Q:=Ok.bind h (fun _ h=>h)
theorem Ok.grd {c:Prop} [Decidable c] {x:Option α} (h:c) (h1:Ok x Q):Ok (if c then x else none) Q:=Ok.pos h h1
theorem Ok.lp1 {body:σ→Option (σ⊕α)} {n:Nat} {s:σ} (h:Ok (body s) (fun x=>match x with | .inl s'=>Ok (OwnMini.lp body n s') Q | .inr e=>Q e)):Ok (OwnMini.lp body (n+1) s) Q:=by
  obtain ⟨x,e,q⟩:=h
  unfold OwnMini.lp
  rw [e]
  cases x with
  | inl s'=>exact q
  | inr e'=>exact ⟨e',rfl,q⟩
theorem Ok.lpNN {body:σ→Option (σ⊕α)} {s:σ} (h:Ok (body s) (fun x=>match x with | .inl s'=>Ok (OwnMini.lp body 4611686018427387903 s') Q | .inr e=>Q e)):Ok (OwnMini.lp body NN s) Q:=Ok.lp1 (n:=4611686018427387903) h
theorem Ok.loop {body:σ→Option (σ⊕α)} {s:σ} (I:σ→Prop) (μ:σ→Nat) (hI:I s) (hμ:μ s<4611686018427387904) (h:∀ s,I s→Ok (body s) (fun x=>match x with | .inl s'=>I s'∧μ s'<μ s | .inr e=>Q e)):Ok (OwnMini.lp body NN s) Q :=
  Ok.lp (Qx:=Q) (fun s hs=>by obtain ⟨x,e,q⟩:=h s hs; exact ⟨x,e,by cases x <;> exact q⟩) NN s hI hμ
end
theorem Ok.law {o:Option (Int×OWd)} (h:Ok o (fun r=>r.1=1)):∃ W,o=some (1,W):=by
  obtain ⟨⟨a,W⟩,e,q⟩:=h
  cases q
  exact ⟨W,e⟩
theorem w32_rng (z:Int):-2147483648≤w32 z∧w32 z<2147483648:=by unfold w32; omega
theorem w32_al (a b:Int):w32 (w32 a+b)=w32 (a+b):=by unfold w32; omega
theorem w32_ar (a b:Int):w32 (a+w32 b)=w32 (a+b):=by unfold w32; omega
theorem w32_sl (a b:Int):w32 (w32 a - b)=w32 (a - b):=by unfold w32; omega
theorem w32_sr (a b:Int):w32 (a - w32 b)=w32 (a - b):=by unfold w32; omega
theorem w32_m4 (a:Int):w32 (w32 a*4)=w32 (a*4):=by unfold w32; omega
theorem w32_m6 (a:Int):w32 (w32 a*6)=w32 (a*6):=by unfold w32; omega
theorem w32_m10 (a:Int):w32 (w32 a*10)=w32 (a*10):=by unfold w32; omega
theorem w32_m16 (a:Int):w32 (w32 a*16)=w32 (a*16):=by unfold w32; omega
theorem w32_m24 (a:Int):w32 (w32 a*24)=w32 (a*24):=by unfold w32; omega
theorem z0_at (k:Nat) (i:Int):z0 k i=0:=rfl
end Jvm.OwnMini
namespace Jvm.OwnMini
open Jvm.Kit
/-! Masks and shifts in plain integers. -/
theorem ofInt32_toInt (z:Int):(Int32.ofInt z).toInt=w32 z:=by
  rw [Int32.toInt_ofInt]; unfold w32; simp only [Int.bmod,Int32.size]; split <;> omega
theorem ofInt64_toInt (z:Int):(Int64.ofInt z).toInt=w64 z:=by
  rw [Int64.toInt_ofInt]; unfold w64; simp only [Int.bmod,Int64.size]; split <;> omega
theorem and32_1 (z:Int):and32 z 1=z % 2:=by
  unfold and32; rw [i32_mask _ _ (k:=1) (by decide) (by decide),ofInt32_toInt]; unfold w32; omega
theorem and32_3 (z:Int):and32 z 3=z % 4:=by
  unfold and32; rw [i32_mask _ _ (k:=2) (by decide) (by decide),ofInt32_toInt]; unfold w32; omega
theorem and32_7 (z:Int):and32 z 7=z % 8:=by
  unfold and32; rw [i32_mask _ _ (k:=3) (by decide) (by decide),ofInt32_toInt]; unfold w32; omega
theorem and32_15 (z:Int):and32 z 15=z % 16:=by
  unfold and32; rw [i32_mask _ _ (k:=4) (by decide) (by decide),ofInt32_toInt]; unfold w32; omega
theorem and32_31 (z:Int):and32 z 31=z % 32:=by
  unfold and32; rw [i32_mask _ _ (k:=5) (by decide) (by decide),ofInt32_toInt]; unfold w32; omega
theorem and32_63 (z:Int):and32 z 63=z % 64:=by
  unfold and32; rw [i32_mask _ _ (k:=6) (by decide) (by decide),ofInt32_toInt]; unfold w32; omega
theorem and32_127 (z:Int):and32 z 127=z % 128:=by
  unfold and32; rw [i32_mask _ _ (k:=7) (by decide) (by decide),ofInt32_toInt]; unfold w32; omega
theorem and32_255 (z:Int):and32 z 255=z % 256:=by
  unfold and32; rw [i32_mask _ _ (k:=8) (by decide) (by decide),ofInt32_toInt]; unfold w32; omega
theorem and32_511 (z:Int):and32 z 511=z % 512:=by
  unfold and32; rw [i32_mask _ _ (k:=9) (by decide) (by decide),ofInt32_toInt]; unfold w32; omega
theorem and32_1023 (z:Int):and32 z 1023=z % 1024:=by
  unfold and32; rw [i32_mask _ _ (k:=10) (by decide) (by decide),ofInt32_toInt]; unfold w32; omega
theorem and32_max (z:Int):and32 z 2147483647=z % 2147483648:=by
  unfold and32; rw [i32_mask _ _ (k:=31) (by decide) (by decide),ofInt32_toInt]; unfold w32; omega
theorem div32_nn {a b:Int} (ha:0≤a) (ha2:a<2147483648) (hb:0<b):div32 a b=a / b:=by
  unfold div32
  rw [Int.tdiv_eq_ediv_of_nonneg ha]
  have h1:0≤a / b:=Int.ediv_nonneg ha (by omega)
  have h2:a / b≤a:=Int.ediv_le_self b ha
  exact w32_id (by omega)
theorem rem32_nn {a b:Int} (ha:0≤a):rem32 a b=a % b:=by
  unfold rem32
  exact Int.tmod_eq_emod_of_nonneg ha
end Jvm.OwnMini
namespace Jvm.OwnMini
open Jvm.Kit
theorem shl1_dec:∀ k:Fin 31,(shl32 1 (k.val:Int))=((2 ^ k.val:Nat):Int):=by decide +kernel
theorem shl1_eq (k:Int) (h:0≤k∧k≤30):shl32 1 k=((2 ^ k.toNat:Nat):Int):=by
  have:=shl1_dec ⟨k.toNat,by omega⟩
  simp only [Int.toNat_of_nonneg h.1] at this
  exact this
theorem shl1_rng (k:Int) (h:0≤k∧k≤10):1≤shl32 1 k∧shl32 1 k≤1024:=by
  have:∀ j:Fin 11,1≤shl32 1 (j.val:Int)∧shl32 1 (j.val:Int)≤1024:=by decide +kernel
  have:=this ⟨k.toNat,by omega⟩
  simp only [Int.toNat_of_nonneg h.1] at this
  exact this
theorem and32_nn {a:Int} (b:Int) (h:0≤a) (h2:a<2147483648):0≤and32 a b∧and32 a b≤a:=by
  have ha:(Int32.ofInt a).toInt=a:=by rw [ofInt32_toInt,w32_id (by omega)]
  have h0:0≤Int32.ofInt a:=by rw [Int32.le_iff_toInt_le,ha]; exact h
  have g:=i32_and_bounds (Int32.ofInt b) h0
  rw [Int32.le_iff_toInt_le,Int32.le_iff_toInt_le,ha,Int32.and_comm] at g
  exact g
end Jvm.OwnMini
namespace Jvm.OwnMini
theorem and32_0 (b:Int):and32 0 b=0:=by unfold and32; simp
theorem or32_shl (a b:Int):or32 0 (shl32 a b)=shl32 a b:=by unfold or32 shl32; rw [Int32.ofInt_toInt]; simp
theorem and32_not (b:Int):and32 b (xor32 b (-1))=0:=by
  unfold and32 xor32
  rw [Int32.ofInt_toInt]
  have:Int32.ofInt b &&& (Int32.ofInt b ^^^ Int32.ofInt (-1))=0:=by
    rw [← Int32.toBitVec_inj]
    simp only [Int32.toBitVec_and,Int32.toBitVec_xor]
    rw [show (Int32.ofInt (-1)).toBitVec=BitVec.allOnes 32 from by decide,show (0:Int32).toBitVec=0#32 from by decide]
    rw [BitVec.xor_allOnes,BitVec.and_not_self]; rfl
  rw [this]; rfl
end Jvm.OwnMini
namespace Jvm.OwnMini
open Jvm Jvm.ClassFile Sem Op Lib Jvm.Free Jvm.Stand Jvm.LawKit Jvm.RoadKit
/-! The script: its length and its numbers. -/
theorem own_len {Z:State} {args:Array Value} {t:Term} {n:Int32} {a:Addr} {cl:Cell} {ty:FieldType} (h:(Jvm.Cond.le (.length t) (.int n)).value args Z none Z []=some true) (ea:t.eval args Z none [] Z=some (.ref a)) (A:Arr Z Z.heap a cl ty):cl.slots.size<2 ^ 31∧(cl.slots.size:Int)≤n.toInt:=by
  obtain ⟨x,y,e1,-,-,-⟩:=cmp_v (Or.inr (Or.inr h))
  obtain ⟨b,c,f1,f2,f3,rfl⟩:=Jvm.Lib.length_spec e1
  cases ea.symm.trans f1
  cases f2.symm.trans (Arr.fin (Vm.Alike.refl _) A)
  have g:=gotT (Jvm.Cond.le_ints e1 rfl) h
  rw [Int32.le_iff_toInt_le,len_toInt f3] at g
  exact ⟨f3,g⟩
def own_sc (c:Cell) (i:Int):Int:=match c.slots[i.toNat]? with | some (.int x)=>x.toInt | _=>0
theorem own_sc_rng (c:Cell) (i:Int):-2147483648≤own_sc c i∧own_sc c i<2147483648:=by
  unfold own_sc
  split
  · rename_i x _
    have h1:=x.le_toInt
    have h2:=x.toInt_lt
    omega
  · omega
theorem own_sc_at {c:Cell} {i:Nat} {x:Int32} (h:c.slots[i]?=some (.int x)):own_sc c (i:Int)=x.toInt:=by
  unfold own_sc
  rw [Int.toNat_natCast,h]
theorem own_elem {Z:State} {a:Addr} {cl:Cell} (hf:Fit Z) (A:Arr Z Z.heap a cl .int) {i:Nat} (hi:i<cl.slots.size) (q:cl.slots.size<2 ^ 31):∃ x:Int32,cl.slots[i]?=some (.int x):=by
  have e1:(i.toInt32).toInt=i:=len_toInt (by omega)
  have e2:(i.toInt32).toNatClampNeg=i:=by simp only [Int32.toNatClampNeg,e1]; rfl
  have hj:¬ (i.toInt32<0∨cl.slots.size≤(i.toInt32).toNatClampNeg):=by
    rw [e2]
    rintro (h | h)
    · rw [Int32.lt_iff_toInt_lt,e1] at h
      have:(0:Int32).toInt=0:=rfl
      omega
    · omega
  obtain ⟨v,h1,h2⟩:=elem_fit hf A hj
  obtain ⟨x,rfl⟩:=fit_I h2 (by simp)
  rw [e2] at h1
  exact ⟨x,h1⟩
end Jvm.OwnMini
namespace Jvm.Pilot.@@N@@
open Jvm Jvm.ClassFile Sem Op Lib Jvm.Free Jvm.Stand Jvm.LawKit Jvm.RoadKit Bundle Jvm.Pilot.@@N@@.Jvm.D Jvm.OwnMini
abbrev cb (x k:Nat) (a b:Option (Instr×Nat)):Option (Instr×Nat):=cond (Nat.blt x k) a b
abbrev ce (x k:Nat) (i:Instr) (l:Nat):Option (Instr×Nat):=cond (Nat.beq x k) (some (i,l)) none
def cd_0:Nat→Option (Instr×Nat):=fun pc=>cond (Nat.blt pc 262) (cb pc 135 (cb pc 62 (cb pc 28 (cb pc 14 (cb pc 6 (cb pc 4 (cb pc 1 (ce pc 0 (.aload_n 0) 1) (ce pc 1 (.invokespecial 1) 3)) (cb pc 5 (ce pc 4 (.aload_n 0) 1) (ce pc 5 (.iconst 0) 1))) (cb pc 10 (cb pc 9 (ce pc 6 (.putfield 7) 3) (ce pc 9 (.aload_n 0) 1)) (cb pc 11 (ce pc 10 (.iconst 1) 1) (ce pc 11 (.putfield 13) 3)))) (cb pc 20 (cb pc 16 (cb pc 15 (ce pc 14 (.aload_n 0) 1) (ce pc 15 (.iconst 2) 1)) (cb pc 19 (ce pc 16 (.putfield 16) 3) (ce pc 19 (.aload_n 0) 1))) (cb pc 24 (cb pc 22 (ce pc 20 (.bipush 9) 2) (ce pc 22 (.newarray .int) 2)) (cb pc 27 (ce pc 24 (.putfield 19) 3) (ce pc 27 (.aload_n 0) 1))))) (cb pc 44 (cb pc 36 (cb pc 32 (cb pc 30 (ce pc 28 (.bipush 10) 2) (ce pc 30 (.newarray .int) 2)) (cb pc 35 (ce pc 32 (.putfield 23) 3) (ce pc 35 (.aload_n 0) 1))) (cb pc 40 (cb pc 38 (ce pc 36 (.bipush 10) 2) (ce pc 38 (.newarray .int) 2)) (cb pc 43 (ce pc 40 (.putfield 26) 3) (ce pc 43 (.aload_n 0) 1)))) (cb pc 52 (cb pc 48 (cb pc 46 (ce pc 44 (.bipush 10) 2) (ce pc 46 (.newarray .int) 2)) (cb pc 51 (ce pc 48 (.putfield 29) 3) (ce pc 51 (.aload_n 0) 1))) (cb pc 56 (cb pc 54 (ce pc 52 (.bipush 12) 2) (ce pc 54 (.newarray .int) 2)) (cb pc 59 (ce pc 56 (.putfield 32) 3) (cb pc 60 (ce pc 59 (.aload_n 0) 1) (ce pc 60 (.bipush 10) 2))))))) (cb pc 100 (cb pc 80 (cb pc 71 (cb pc 67 (cb pc 64 (ce pc 62 (.newarray .int) 2) (ce pc 64 (.putfield 35) 3)) (cb pc 68 (ce pc 67 (.aload_n 0) 1) (ce pc 68 (.sipush 1024) 3))) (cb pc 76 (cb pc 73 (ce pc 71 (.newarray .int) 2) (ce pc 73 (.putfield 38) 3)) (cb pc 77 (ce pc 76 (.aload_n 0) 1) (ce pc 77 (.sipush 1024) 3)))) (cb pc 89 (cb pc 85 (cb pc 82 (ce pc 80 (.newarray .int) 2) (ce pc 82 (.putfield 41) 3)) (cb pc 86 (ce pc 85 (.aload_n 0) 1) (ce pc 86 (.sipush 1024) 3))) (cb pc 94 (cb pc 91 (ce pc 89 (.newarray .int) 2) (ce pc 91 (.putfield 44) 3)) (cb pc 95 (ce pc 94 (.aload_n 0) 1) (cb pc 98 (ce pc 95 (.sipush 1024) 3) (ce pc 98 (.newarray .boolean) 2)))))) (cb pc 116 (cb pc 108 (cb pc 104 (cb pc 103 (ce pc 100 (.putfield 47) 3) (ce pc 103 (.aload_n 0) 1)) (cb pc 106 (ce pc 104 (.bipush 9) 2) (ce pc 106 (.newarray .int) 2))) (cb pc 112 (cb pc 111 (ce pc 108 (.putfield 51) 3) (ce pc 111 (.aload_n 0) 1)) (cb pc 114 (ce pc 112 (.bipush 9) 2) (ce pc 114 (.newarray .int) 2)))) (cb pc 124 (cb pc 120 (cb pc 119 (ce pc 116 (.putfield 54) 3) (ce pc 119 (.aload_n 0) 1)) (cb pc 122 (ce pc 120 (.bipush 90) 2) (ce pc 122 (.newarray .int) 2))) (cb pc 128 (cb pc 127 (ce pc 124 (.putfield 57) 3) (ce pc 127 (.aload_n 0) 1)) (cb pc 130 (ce pc 128 (.bipush 90) 2) (cb pc 132 (ce pc 130 (.newarray .int) 2) (ce pc 132 (.putfield 60) 3)))))))) (cb pc 203 (cb pc 171 (cb pc 152 (cb pc 143 (cb pc 138 (cb pc 136 (ce pc 135 (.aload_n 0) 1) (ce pc 136 (.bipush 90) 2)) (cb pc 140 (ce pc 138 (.newarray .int) 2) (ce pc 140 (.putfield 63) 3))) (cb pc 147 (cb pc 144 (ce pc 143 (.aload_n 0) 1) (ce pc 144 (.sipush 9216) 3)) (cb pc 149 (ce pc 147 (.newarray .boolean) 2) (ce pc 149 (.putfield 66) 3)))) (cb pc 161 (cb pc 156 (cb pc 153 (ce pc 152 (.aload_n 0) 1) (ce pc 153 (.sipush 9216) 3)) (cb pc 158 (ce pc 156 (.newarray .int) 2) (ce pc 158 (.putfield 69) 3))) (cb pc 165 (cb pc 162 (ce pc 161 (.aload_n 0) 1) (ce pc 162 (.sipush 9216) 3)) (cb pc 167 (ce pc 165 (.newarray .int) 2) (cb pc 170 (ce pc 167 (.putfield 72) 3) (ce pc 170 (.aload_n 0) 1)))))) (cb pc 187 (cb pc 179 (cb pc 175 (cb pc 173 (ce pc 171 (.bipush 10) 2) (ce pc 173 (.newarray .int) 2)) (cb pc 178 (ce pc 175 (.putfield 75) 3) (ce pc 178 (.aload_n 0) 1))) (cb pc 183 (cb pc 181 (ce pc 179 (.bipush 10) 2) (ce pc 181 (.newarray .int) 2)) (cb pc 186 (ce pc 183 (.putfield 78) 3) (ce pc 186 (.aload_n 0) 1)))) (cb pc 195 (cb pc 191 (cb pc 189 (ce pc 187 (.bipush 10) 2) (ce pc 189 (.newarray .int) 2)) (cb pc 194 (ce pc 191 (.putfield 81) 3) (ce pc 194 (.aload_n 0) 1))) (cb pc 197 (cb pc 196 (ce pc 195 (.aload_n 0) 1) (ce pc 196 (.iload_n 1) 1)) (cb pc 198 (ce pc 197 (.iconst 1) 1) (cb pc 200 (ce pc 198 (.bipush 10) 2) (ce pc 200 (.invokevirtual 84) 3))))))) (cb pc 232 (cb pc 218 (cb pc 209 (cb pc 207 (cb pc 206 (ce pc 203 (.putfield 88) 3) (ce pc 206 (.aload_n 0) 1)) (cb pc 208 (ce pc 207 (.aload_n 0) 1) (ce pc 208 (.iload_n 2) 1))) (cb pc 212 (cb pc 210 (ce pc 209 (.iconst 1) 1) (ce pc 210 (.bipush 10) 2)) (cb pc 215 (ce pc 212 (.invokevirtual 84) 3) (ce pc 215 (.putfield 91) 3)))) (cb pc 222 (cb pc 220 (cb pc 219 (ce pc 218 (.aload_n 0) 1) (ce pc 219 (.aload_n 0) 1)) (cb pc 221 (ce pc 220 (.iload_n 3) 1) (ce pc 221 (.iconst 1) 1))) (cb pc 227 (cb pc 224 (ce pc 222 (.bipush 8) 2) (ce pc 224 (.invokevirtual 84) 3)) (cb pc 230 (ce pc 227 (.putfield 94) 3) (cb pc 231 (ce pc 230 (.aload_n 0) 1) (ce pc 231 (.iconst 0) 1)))))) (cb pc 246 (cb pc 240 (cb pc 236 (cb pc 235 (ce pc 232 (.putfield 97) 3) (ce pc 235 (.aload_n 0) 1)) (cb pc 237 (ce pc 236 (.iconst 0) 1) (ce pc 237 (.putfield 100) 3))) (cb pc 242 (cb pc 241 (ce pc 240 (.aload_n 0) 1) (ce pc 241 (.iconst 0) 1)) (cb pc 245 (ce pc 242 (.putfield 103) 3) (ce pc 245 (.aload_n 0) 1)))) (cb pc 253 (cb pc 251 (cb pc 248 (ce pc 246 (.bipush (-2)) 2) (ce pc 248 (.putfield 106) 3)) (cb pc 252 (ce pc 251 (.aload_n 0) 1) (ce pc 252 (.iconst 0) 1))) (cb pc 257 (cb pc 256 (ce pc 253 (.putfield 109) 3) (ce pc 256 (.aload_n 0) 1)) (cb pc 258 (ce pc 257 (.iconst 0) 1) (cb pc 261 (ce pc 258 (.putfield 112) 3) (ce pc 261 .return_ 1))))))))) none
def cd_1:Nat→Option (Instr×Nat):=fun pc=>cond (Nat.blt pc 16) (cb pc 8 (cb pc 5 (cb pc 1 (ce pc 0 (.iload_n 1) 1) (cb pc 2 (ce pc 1 (.iload_n 2) 1) (ce pc 2 (.if_icmp .ge 5) 3))) (cb pc 6 (ce pc 5 (.iload_n 2) 1) (cb pc 7 (ce pc 6 .ireturn 1) (ce pc 7 (.iload_n 1) 1)))) (cb pc 13 (cb pc 9 (ce pc 8 (.iload_n 3) 1) (cb pc 12 (ce pc 9 (.if_icmp .le 5) 3) (ce pc 12 (.iload_n 3) 1))) (cb pc 14 (ce pc 13 .ireturn 1) (cb pc 15 (ce pc 14 (.iload_n 1) 1) (ce pc 15 .ireturn 1))))) none
def cd_2:Nat→Option (Instr×Nat):=fun pc=>cond (Nat.blt pc 64) (cb pc 29 (cb pc 13 (cb pc 4 (cb pc 2 (cb pc 1 (ce pc 0 (.aload_n 0) 1) (ce pc 1 (.iload_n 1) 1)) (cb pc 3 (ce pc 2 (.iconst 0) 1) (ce pc 3 (.aload_n 0) 1))) (cb pc 10 (cb pc 7 (ce pc 4 (.getfield 94) 3) (ce pc 7 (.invokevirtual 84) 3)) (cb pc 11 (ce pc 10 (.istore_n 2) 1) (cb pc 12 (ce pc 11 (.aload_n 0) 1) (ce pc 12 (.iload_n 2) 1))))) (cb pc 20 (cb pc 17 (cb pc 16 (ce pc 13 (.invokevirtual 139) 3) (ce pc 16 (.iconst 0) 1)) (cb pc 18 (ce pc 17 (.istore_n 3) 1) (cb pc 19 (ce pc 18 (.iload_n 3) 1) (ce pc 19 (.iload_n 2) 1)))) (cb pc 24 (cb pc 23 (ce pc 20 (.if_icmp .gt 33) 3) (ce pc 23 (.aload_n 0) 1)) (cb pc 25 (ce pc 24 (.iload_n 3) 1) (cb pc 26 (ce pc 25 (.aload_n 0) 1) (ce pc 26 (.getfield 100) 3)))))) (cb pc 46 (cb pc 37 (cb pc 35 (cb pc 32 (ce pc 29 (.invokevirtual 143) 3) (ce pc 32 (.ifCond .eq 15) 3)) (cb pc 36 (ce pc 35 (.aload_n 0) 1) (ce pc 36 (.iload_n 3) 1))) (cb pc 41 (cb pc 40 (ce pc 37 (.invokevirtual 146) 3) (ce pc 40 (.aload_n 0) 1)) (cb pc 42 (ce pc 41 (.iload_n 3) 1) (cb pc 45 (ce pc 42 (.putfield 106) 3) (ce pc 45 (.iload_n 3) 1))))) (cb pc 57 (cb pc 50 (cb pc 47 (ce pc 46 .ireturn 1) (ce pc 47 (.iinc 3 1) 3)) (cb pc 53 (ce pc 50 (.goto (-32)) 3) (cb pc 54 (ce pc 53 (.aload_n 0) 1) (ce pc 54 (.invokevirtual 149) 3)))) (cb pc 59 (cb pc 58 (ce pc 57 (.aload_n 0) 1) (ce pc 58 (.iconst (-1)) 1)) (cb pc 62 (ce pc 59 (.putfield 106) 3) (cb pc 63 (ce pc 62 (.iconst (-1)) 1) (ce pc 63 .ireturn 1))))))) none
def cd_3:Nat→Option (Instr×Nat):=fun pc=>cond (Nat.blt pc 28) (cb pc 14 (cb pc 8 (cb pc 4 (cb pc 1 (ce pc 0 (.aload_n 0) 1) (ce pc 1 (.invokevirtual 162) 3)) (cb pc 5 (ce pc 4 (.aload_n 0) 1) (ce pc 5 (.invokevirtual 165) 3))) (cb pc 10 (cb pc 9 (ce pc 8 (.aload_n 0) 1) (ce pc 9 (.iload_n 1) 1)) (cb pc 13 (ce pc 10 (.invokevirtual 168) 3) (ce pc 13 (.aload_n 0) 1)))) (cb pc 22 (cb pc 18 (cb pc 15 (ce pc 14 (.iload_n 1) 1) (ce pc 15 (.invokevirtual 171) 3)) (cb pc 19 (ce pc 18 (.aload_n 0) 1) (ce pc 19 (.invokevirtual 174) 3))) (cb pc 24 (cb pc 23 (ce pc 22 (.aload_n 0) 1) (ce pc 23 (.iconst 0) 1)) (cb pc 27 (ce pc 24 (.putfield 109) 3) (ce pc 27 .return_ 1))))) none
def cd_4:Nat→Option (Instr×Nat):=fun pc=>cond (Nat.blt pc 49) (cb pc 23 (cb pc 12 (cb pc 3 (cb pc 1 (ce pc 0 (.iconst 0) 1) (cb pc 2 (ce pc 1 (.istore_n 1) 1) (ce pc 2 (.iload_n 1) 1))) (cb pc 8 (cb pc 5 (ce pc 3 (.bipush 10) 2) (ce pc 5 (.if_icmp .ge 16) 3)) (cb pc 9 (ce pc 8 (.aload_n 0) 1) (ce pc 9 (.getfield 35) 3)))) (cb pc 15 (cb pc 13 (ce pc 12 (.iload_n 1) 1) (cb pc 14 (ce pc 13 (.iconst 0) 1) (ce pc 14 .iastore 1))) (cb pc 21 (cb pc 18 (ce pc 15 (.iinc 1 1) 3) (ce pc 18 (.goto (-16)) 3)) (cb pc 22 (ce pc 21 (.iconst 0) 1) (ce pc 22 (.istore_n 1) 1))))) (cb pc 36 (cb pc 28 (cb pc 24 (ce pc 23 (.iload_n 1) 1) (cb pc 25 (ce pc 24 (.aload_n 0) 1) (ce pc 25 (.getfield 91) 3))) (cb pc 32 (cb pc 31 (ce pc 28 (.if_icmp .ge 20) 3) (ce pc 31 (.aload_n 0) 1)) (cb pc 35 (ce pc 32 (.getfield 35) 3) (ce pc 35 (.iload_n 1) 1)))) (cb pc 41 (cb pc 37 (ce pc 36 (.aload_n 0) 1) (cb pc 38 (ce pc 37 (.iload_n 1) 1) (ce pc 38 (.invokevirtual 177) 3))) (cb pc 45 (cb pc 42 (ce pc 41 .iastore 1) (ce pc 42 (.iinc 1 1) 3)) (cb pc 48 (ce pc 45 (.goto (-22)) 3) (ce pc 48 .return_ 1)))))) none
def cd_5:Nat→Option (Instr×Nat):=fun pc=>cond (Nat.blt pc 40) (cb pc 19 (cb pc 6 (cb pc 3 (cb pc 1 (ce pc 0 (.iconst 0) 1) (cb pc 2 (ce pc 1 (.istore_n 2) 1) (ce pc 2 (.iconst 0) 1))) (cb pc 4 (ce pc 3 (.istore_n 3) 1) (cb pc 5 (ce pc 4 (.iload_n 3) 1) (ce pc 5 (.aload_n 0) 1)))) (cb pc 13 (cb pc 9 (ce pc 6 (.getfield 91) 3) (cb pc 12 (ce pc 9 (.if_icmp .ge 29) 3) (ce pc 12 (.iload_n 3) 1))) (cb pc 17 (cb pc 14 (ce pc 13 (.iload_n 1) 1) (ce pc 14 (.if_icmp .eq 18) 3)) (cb pc 18 (ce pc 17 (.aload_n 0) 1) (ce pc 18 (.iload_n 1) 1))))) (cb pc 29 (cb pc 26 (cb pc 20 (ce pc 19 (.iload_n 3) 1) (cb pc 23 (ce pc 20 (.invokevirtual 132) 3) (ce pc 23 (.ifCond .eq 9) 3))) (cb pc 27 (ce pc 26 (.iload_n 2) 1) (cb pc 28 (ce pc 27 (.iconst 1) 1) (ce pc 28 (.iload_n 3) 1)))) (cb pc 32 (cb pc 30 (ce pc 29 .ishl 1) (cb pc 31 (ce pc 30 .ior 1) (ce pc 31 (.istore_n 2) 1))) (cb pc 38 (cb pc 35 (ce pc 32 (.iinc 3 1) 3) (ce pc 35 (.goto (-31)) 3)) (cb pc 39 (ce pc 38 (.iload_n 2) 1) (ce pc 39 .ireturn 1)))))) none
def cd_6:Nat→Option (Instr×Nat):=fun pc=>cond (Nat.blt pc 54) (cb pc 26 (cb pc 13 (cb pc 6 (cb pc 4 (cb pc 1 (ce pc 0 (.aload_n 0) 1) (ce pc 1 (.getfield 29) 3)) (cb pc 5 (ce pc 4 (.iload_n 1) 1) (ce pc 5 .iaload 1))) (cb pc 10 (cb pc 7 (ce pc 6 (.aload_n 0) 1) (ce pc 7 (.getfield 23) 3)) (cb pc 11 (ce pc 10 (.iload_n 2) 1) (cb pc 12 (ce pc 11 .iaload 1) (ce pc 12 (.aload_n 0) 1))))) (cb pc 19 (cb pc 17 (cb pc 16 (ce pc 13 (.getfield 26) 3) (ce pc 16 (.iload_n 2) 1)) (cb pc 18 (ce pc 17 .iaload 1) (ce pc 18 .ior 1))) (cb pc 23 (cb pc 20 (ce pc 19 .iand 1) (ce pc 20 (.ifCond .eq 5) 3)) (cb pc 24 (ce pc 23 (.iconst 1) 1) (cb pc 25 (ce pc 24 .ireturn 1) (ce pc 25 (.aload_n 0) 1)))))) (cb pc 41 (cb pc 32 (cb pc 30 (cb pc 29 (ce pc 26 (.getfield 29) 3) (ce pc 29 (.iload_n 2) 1)) (cb pc 31 (ce pc 30 .iaload 1) (ce pc 31 (.aload_n 0) 1))) (cb pc 36 (cb pc 35 (ce pc 32 (.getfield 23) 3) (ce pc 35 (.iload_n 1) 1)) (cb pc 37 (ce pc 36 .iaload 1) (cb pc 38 (ce pc 37 (.aload_n 0) 1) (ce pc 38 (.getfield 26) 3))))) (cb pc 45 (cb pc 43 (cb pc 42 (ce pc 41 (.iload_n 1) 1) (ce pc 42 .iaload 1)) (cb pc 44 (ce pc 43 .ior 1) (ce pc 44 .iand 1))) (cb pc 49 (cb pc 48 (ce pc 45 (.ifCond .eq 7) 3) (ce pc 48 (.iconst 1) 1)) (cb pc 52 (ce pc 49 (.goto 4) 3) (cb pc 53 (ce pc 52 (.iconst 0) 1) (ce pc 53 .ireturn 1))))))) none
def cd_7:Nat→Option (Instr×Nat):=fun pc=>cond (Nat.blt pc 155) (cb pc 72 (cb pc 35 (cb pc 18 (cb pc 8 (cb pc 5 (cb pc 1 (ce pc 0 (.aload_n 0) 1) (cb pc 4 (ce pc 1 (.getfield 38) 3) (ce pc 4 (.iconst 0) 1))) (cb pc 6 (ce pc 5 (.iconst 0) 1) (cb pc 7 (ce pc 6 .iastore 1) (ce pc 7 (.aload_n 0) 1)))) (cb pc 13 (cb pc 11 (ce pc 8 (.getfield 41) 3) (cb pc 12 (ce pc 11 (.iconst 0) 1) (ce pc 12 (.iconst 0) 1))) (cb pc 14 (ce pc 13 .iastore 1) (cb pc 15 (ce pc 14 (.aload_n 0) 1) (ce pc 15 (.getfield 44) 3))))) (cb pc 26 (cb pc 21 (cb pc 19 (ce pc 18 (.iconst 0) 1) (cb pc 20 (ce pc 19 (.iconst 0) 1) (ce pc 20 .iastore 1))) (cb pc 22 (ce pc 21 (.aload_n 0) 1) (cb pc 25 (ce pc 22 (.getfield 47) 3) (ce pc 25 (.iconst 0) 1)))) (cb pc 29 (cb pc 27 (ce pc 26 (.iconst 1) 1) (cb pc 28 (ce pc 27 .bastore 1) (ce pc 28 (.iconst 1) 1))) (cb pc 33 (cb pc 30 (ce pc 29 (.aload_n 0) 1) (ce pc 30 (.getfield 91) 3)) (cb pc 34 (ce pc 33 .ishl 1) (ce pc 34 (.istore_n 1) 1)))))) (cb pc 51 (cb pc 43 (cb pc 38 (cb pc 36 (ce pc 35 (.iconst 1) 1) (cb pc 37 (ce pc 36 (.istore_n 2) 1) (ce pc 37 (.iload_n 2) 1))) (cb pc 39 (ce pc 38 (.iload_n 1) 1) (cb pc 42 (ce pc 39 (.if_icmp .ge 115) 3) (ce pc 42 (.aload_n 0) 1)))) (cb pc 48 (cb pc 44 (ce pc 43 (.iload_n 2) 1) (cb pc 47 (ce pc 44 (.invokevirtual 180) 3) (ce pc 47 (.istore_n 3) 1))) (cb pc 49 (ce pc 48 (.iload_n 2) 1) (cb pc 50 (ce pc 49 (.iload_n 2) 1) (ce pc 50 (.iconst 1) 1))))) (cb pc 60 (cb pc 55 (cb pc 52 (ce pc 51 .isub 1) (cb pc 53 (ce pc 52 .iand 1) (ce pc 53 (.istore 4) 2))) (cb pc 56 (ce pc 55 (.aload_n 0) 1) (cb pc 59 (ce pc 56 (.getfield 38) 3) (ce pc 59 (.iload_n 2) 1)))) (cb pc 66 (cb pc 61 (ce pc 60 (.aload_n 0) 1) (cb pc 64 (ce pc 61 (.getfield 38) 3) (ce pc 64 (.iload 4) 2))) (cb pc 68 (cb pc 67 (ce pc 66 .iaload 1) (ce pc 67 (.aload_n 0) 1)) (cb pc 71 (ce pc 68 (.getfield 23) 3) (ce pc 71 (.iload_n 3) 1))))))) (cb pc 111 (cb pc 91 (cb pc 80 (cb pc 75 (cb pc 73 (ce pc 72 .iaload 1) (cb pc 74 (ce pc 73 .ior 1) (ce pc 74 .iastore 1))) (cb pc 76 (ce pc 75 (.aload_n 0) 1) (cb pc 79 (ce pc 76 (.getfield 41) 3) (ce pc 79 (.iload_n 2) 1)))) (cb pc 86 (cb pc 81 (ce pc 80 (.aload_n 0) 1) (cb pc 84 (ce pc 81 (.getfield 41) 3) (ce pc 84 (.iload 4) 2))) (cb pc 87 (ce pc 86 .iaload 1) (cb pc 88 (ce pc 87 (.aload_n 0) 1) (ce pc 88 (.getfield 26) 3))))) (cb pc 99 (cb pc 94 (cb pc 92 (ce pc 91 (.iload_n 3) 1) (cb pc 93 (ce pc 92 .iaload 1) (ce pc 93 .ior 1))) (cb pc 95 (ce pc 94 .iastore 1) (cb pc 96 (ce pc 95 (.aload_n 0) 1) (ce pc 96 (.getfield 44) 3)))) (cb pc 104 (cb pc 100 (ce pc 99 (.iload_n 2) 1) (cb pc 101 (ce pc 100 (.aload_n 0) 1) (ce pc 101 (.getfield 44) 3))) (cb pc 107 (cb pc 106 (ce pc 104 (.iload 4) 2) (ce pc 106 .iaload 1)) (cb pc 108 (ce pc 107 (.aload_n 0) 1) (ce pc 108 (.getfield 29) 3)))))) (cb pc 131 (cb pc 119 (cb pc 114 (cb pc 112 (ce pc 111 (.iload_n 3) 1) (cb pc 113 (ce pc 112 .iaload 1) (ce pc 113 .ior 1))) (cb pc 115 (ce pc 114 .iastore 1) (cb pc 116 (ce pc 115 (.aload_n 0) 1) (ce pc 116 (.getfield 47) 3)))) (cb pc 124 (cb pc 120 (ce pc 119 (.iload_n 2) 1) (cb pc 121 (ce pc 120 (.aload_n 0) 1) (ce pc 121 (.getfield 47) 3))) (cb pc 127 (cb pc 126 (ce pc 124 (.iload 4) 2) (ce pc 126 .baload 1)) (cb pc 130 (ce pc 127 (.ifCond .eq 19) 3) (ce pc 130 (.aload_n 0) 1))))) (cb pc 142 (cb pc 136 (cb pc 134 (ce pc 131 (.getfield 35) 3) (cb pc 135 (ce pc 134 (.iload_n 3) 1) (ce pc 135 .iaload 1))) (cb pc 138 (ce pc 136 (.iload 4) 2) (cb pc 139 (ce pc 138 .iand 1) (ce pc 139 (.ifCond .ne 7) 3)))) (cb pc 147 (cb pc 143 (ce pc 142 (.iconst 1) 1) (cb pc 146 (ce pc 143 (.goto 4) 3) (ce pc 146 (.iconst 0) 1))) (cb pc 151 (cb pc 148 (ce pc 147 .bastore 1) (ce pc 148 (.iinc 2 1) 3)) (cb pc 154 (ce pc 151 (.goto (-114)) 3) (ce pc 154 .return_ 1)))))))) none
def cd_8:Nat→Option (Instr×Nat):=fun pc=>cond (Nat.blt pc 26) (cb pc 11 (cb pc 5 (cb pc 2 (cb pc 1 (ce pc 0 (.iconst 0) 1) (ce pc 1 (.istore_n 2) 1)) (cb pc 3 (ce pc 2 (.iload_n 2) 1) (ce pc 3 (.bipush 10) 2))) (cb pc 9 (cb pc 8 (ce pc 5 (.if_icmp .ge 19) 3) (ce pc 8 (.iload_n 1) 1)) (cb pc 10 (ce pc 9 (.iconst 1) 1) (ce pc 10 (.iload_n 2) 1)))) (cb pc 17 (cb pc 13 (cb pc 12 (ce pc 11 .ishl 1) (ce pc 12 .iand 1)) (cb pc 16 (ce pc 13 (.ifCond .eq 5) 3) (ce pc 16 (.iload_n 2) 1))) (cb pc 21 (cb pc 18 (ce pc 17 .ireturn 1) (ce pc 18 (.iinc 2 1) 3)) (cb pc 24 (ce pc 21 (.goto (-19)) 3) (cb pc 25 (ce pc 24 (.iconst 0) 1) (ce pc 25 .ireturn 1)))))) none
def cd_9:Nat→Option (Instr×Nat):=fun pc=>cond (Nat.blt pc 91) (cb pc 43 (cb pc 22 (cb pc 9 (cb pc 3 (cb pc 1 (ce pc 0 (.aload_n 0) 1) (cb pc 2 (ce pc 1 (.aload_n 0) 1) (ce pc 2 (.iload_n 1) 1))) (cb pc 4 (ce pc 3 (.iconst 0) 1) (cb pc 6 (ce pc 4 (.bipush 8) 2) (ce pc 6 (.invokevirtual 84) 3)))) (cb pc 16 (cb pc 12 (ce pc 9 (.putfield 112) 3) (cb pc 13 (ce pc 12 (.aload_n 0) 1) (ce pc 13 (.getfield 51) 3))) (cb pc 18 (cb pc 17 (ce pc 16 (.iconst 0) 1) (ce pc 17 (.aload_n 0) 1)) (cb pc 21 (ce pc 18 (.getfield 97) 3) (ce pc 21 .iastore 1))))) (cb pc 31 (cb pc 27 (cb pc 23 (ce pc 22 (.aload_n 0) 1) (cb pc 26 (ce pc 23 (.getfield 54) 3) (ce pc 26 (.iconst 0) 1))) (cb pc 29 (cb pc 28 (ce pc 27 (.iconst 0) 1) (ce pc 28 .iastore 1)) (cb pc 30 (ce pc 29 (.iconst 0) 1) (ce pc 30 (.istore_n 2) 1)))) (cb pc 37 (cb pc 32 (ce pc 31 (.iload_n 2) 1) (cb pc 34 (ce pc 32 (.bipush 10) 2) (ce pc 34 (.if_icmp .ge 30) 3))) (cb pc 41 (cb pc 38 (ce pc 37 (.aload_n 0) 1) (ce pc 38 (.getfield 57) 3)) (cb pc 42 (ce pc 41 (.iload_n 2) 1) (ce pc 42 (.iconst 0) 1)))))) (cb pc 65 (cb pc 52 (cb pc 48 (cb pc 44 (ce pc 43 .iastore 1) (cb pc 45 (ce pc 44 (.aload_n 0) 1) (ce pc 45 (.getfield 60) 3))) (cb pc 50 (cb pc 49 (ce pc 48 (.iload_n 2) 1) (ce pc 49 (.iconst 0) 1)) (cb pc 51 (ce pc 50 .iastore 1) (ce pc 51 (.aload_n 0) 1)))) (cb pc 57 (cb pc 55 (ce pc 52 (.getfield 63) 3) (cb pc 56 (ce pc 55 (.iload_n 2) 1) (ce pc 56 (.iconst 0) 1))) (cb pc 61 (cb pc 58 (ce pc 57 .iastore 1) (ce pc 58 (.iinc 2 1) 3)) (cb pc 64 (ce pc 61 (.goto (-30)) 3) (ce pc 64 (.iconst 1) 1))))) (cb pc 76 (cb pc 68 (cb pc 66 (ce pc 65 (.istore_n 2) 1) (cb pc 67 (ce pc 66 (.iload_n 2) 1) (ce pc 67 (.aload_n 0) 1))) (cb pc 74 (cb pc 71 (ce pc 68 (.getfield 112) 3) (ce pc 71 (.if_icmp .gt 19) 3)) (cb pc 75 (ce pc 74 (.aload_n 0) 1) (ce pc 75 (.iload_n 2) 1)))) (cb pc 81 (cb pc 79 (ce pc 76 (.invokevirtual 183) 3) (cb pc 80 (ce pc 79 (.aload_n 0) 1) (ce pc 80 (.iload_n 2) 1))) (cb pc 87 (cb pc 84 (ce pc 81 (.invokevirtual 186) 3) (ce pc 84 (.iinc 2 1) 3)) (cb pc 90 (ce pc 87 (.goto (-21)) 3) (ce pc 90 .return_ 1))))))) none
def cd_10:Nat→Option (Instr×Nat):=fun pc=>cond (Nat.blt pc 62) (cb pc 26 (cb pc 10 (cb pc 6 (cb pc 2 (cb pc 1 (ce pc 0 (.iconst 1) 1) (ce pc 1 (.aload_n 0) 1)) (cb pc 5 (ce pc 2 (.getfield 91) 3) (ce pc 5 .ishl 1))) (cb pc 8 (cb pc 7 (ce pc 6 (.istore_n 2) 1) (ce pc 7 (.iconst 1) 1)) (cb pc 9 (ce pc 8 (.istore_n 3) 1) (ce pc 9 (.iload_n 3) 1)))) (cb pc 17 (cb pc 14 (cb pc 11 (ce pc 10 (.iload_n 1) 1) (ce pc 11 (.if_icmp .gt 50) 3)) (cb pc 15 (ce pc 14 (.iload_n 3) 1) (ce pc 15 (.bipush 8) 2))) (cb pc 21 (cb pc 20 (ce pc 17 (.if_icmp .gt 44) 3) (ce pc 20 (.iconst 0) 1)) (cb pc 23 (ce pc 21 (.istore 4) 2) (cb pc 25 (ce pc 23 (.iload 4) 2) (ce pc 25 (.iload_n 2) 1)))))) (cb pc 42 (cb pc 34 (cb pc 30 (cb pc 29 (ce pc 26 (.if_icmp .ge 29) 3) (ce pc 29 (.aload_n 0) 1)) (cb pc 33 (ce pc 30 (.getfield 66) 3) (ce pc 33 (.iload_n 3) 1))) (cb pc 38 (cb pc 37 (ce pc 34 (.sipush 1024) 3) (ce pc 37 .imul 1)) (cb pc 40 (ce pc 38 (.iload 4) 2) (cb pc 41 (ce pc 40 .iadd 1) (ce pc 41 (.aload_n 0) 1))))) (cb pc 49 (cb pc 45 (cb pc 43 (ce pc 42 (.iload_n 3) 1) (ce pc 43 (.iload 4) 2)) (cb pc 48 (ce pc 45 (.invokevirtual 218) 3) (ce pc 48 .bastore 1))) (cb pc 55 (cb pc 52 (ce pc 49 (.iinc 4 1) 3) (ce pc 52 (.goto (-29)) 3)) (cb pc 58 (ce pc 55 (.iinc 3 1) 3) (cb pc 61 (ce pc 58 (.goto (-49)) 3) (ce pc 61 .return_ 1))))))) none
def cd_11:Nat→Option (Instr×Nat):=fun pc=>cond (Nat.blt pc 30) (cb pc 15 (cb pc 6 (cb pc 2 (cb pc 1 (ce pc 0 (.iconst 0) 1) (ce pc 1 (.istore_n 1) 1)) (cb pc 3 (ce pc 2 (.iload_n 1) 1) (ce pc 3 (.sipush 9216) 3))) (cb pc 10 (cb pc 9 (ce pc 6 (.if_icmp .ge 23) 3) (ce pc 9 (.aload_n 0) 1)) (cb pc 13 (ce pc 10 (.getfield 69) 3) (cb pc 14 (ce pc 13 (.iload_n 1) 1) (ce pc 14 (.iconst 0) 1))))) (cb pc 21 (cb pc 17 (cb pc 16 (ce pc 15 .iastore 1) (ce pc 16 (.aload_n 0) 1)) (cb pc 20 (ce pc 17 (.getfield 72) 3) (ce pc 20 (.iload_n 1) 1))) (cb pc 23 (cb pc 22 (ce pc 21 (.iconst 0) 1) (ce pc 22 .iastore 1)) (cb pc 26 (ce pc 23 (.iinc 1 1) 3) (cb pc 29 (ce pc 26 (.goto (-24)) 3) (ce pc 29 .return_ 1)))))) none
def cd_12:Nat→Option (Instr×Nat):=fun pc=>cond (Nat.blt pc 97) (cb pc 43 (cb pc 22 (cb pc 11 (cb pc 3 (cb pc 1 (ce pc 0 (.aload_n 0) 1) (cb pc 2 (ce pc 1 (.iload_n 1) 1) (ce pc 2 (.iload_n 2) 1))) (cb pc 7 (cb pc 6 (ce pc 3 (.invokevirtual 227) 3) (ce pc 6 (.istore_n 3) 1)) (cb pc 8 (ce pc 7 (.iload_n 3) 1) (ce pc 8 (.ifCond .eq 14) 3)))) (cb pc 16 (cb pc 12 (ce pc 11 (.iload_n 3) 1) (cb pc 13 (ce pc 12 (.iconst 1) 1) (ce pc 13 (.if_icmp .ne 7) 3))) (cb pc 20 (cb pc 17 (ce pc 16 (.iconst 1) 1) (ce pc 17 (.goto 4) 3)) (cb pc 21 (ce pc 20 (.iconst 0) 1) (ce pc 21 .ireturn 1))))) (cb pc 33 (cb pc 27 (cb pc 23 (ce pc 22 (.aload_n 0) 1) (cb pc 24 (ce pc 23 (.iconst 0) 1) (ce pc 24 (.putfield 109) 3))) (cb pc 29 (cb pc 28 (ce pc 27 (.aload_n 0) 1) (ce pc 28 (.iload_n 1) 1)) (cb pc 30 (ce pc 29 (.iload_n 2) 1) (ce pc 30 (.invokevirtual 230) 3)))) (cb pc 36 (cb pc 34 (ce pc 33 .pop 1) (cb pc 35 (ce pc 34 (.iconst 1) 1) (ce pc 35 (.aload_n 0) 1))) (cb pc 40 (cb pc 39 (ce pc 36 (.getfield 91) 3) (ce pc 39 .ishl 1)) (cb pc 42 (ce pc 40 (.istore 4) 2) (ce pc 42 (.iconst 0) 1)))))) (cb pc 73 (cb pc 59 (cb pc 49 (cb pc 45 (ce pc 43 (.istore 5) 2) (cb pc 47 (ce pc 45 (.iload 5) 2) (ce pc 47 (.ldc 233) 2))) (cb pc 53 (cb pc 52 (ce pc 49 (.if_icmp .ge 22) 3) (ce pc 52 (.aload_n 0) 1)) (cb pc 56 (ce pc 53 (.getfield 109) 3) (ce pc 56 (.ifCond .le 15) 3)))) (cb pc 65 (cb pc 60 (ce pc 59 (.aload_n 0) 1) (cb pc 62 (ce pc 60 (.iload 4) 2) (ce pc 62 (.invokevirtual 234) 3))) (cb pc 71 (cb pc 68 (ce pc 65 (.iinc 5 1) 3) (ce pc 68 (.goto (-23)) 3)) (cb pc 72 (ce pc 71 (.aload_n 0) 1) (ce pc 72 (.iconst 0) 1))))) (cb pc 86 (cb pc 80 (cb pc 76 (ce pc 73 (.putfield 109) 3) (cb pc 77 (ce pc 76 (.aload_n 0) 1) (ce pc 77 (.getfield 69) 3))) (cb pc 82 (cb pc 81 (ce pc 80 (.aload_n 0) 1) (ce pc 81 (.iload_n 1) 1)) (cb pc 83 (ce pc 82 (.iload_n 2) 1) (ce pc 83 (.invokevirtual 221) 3)))) (cb pc 91 (cb pc 87 (ce pc 86 .iaload 1) (cb pc 88 (ce pc 87 (.iconst 1) 1) (ce pc 88 (.if_icmp .ne 7) 3))) (cb pc 95 (cb pc 92 (ce pc 91 (.iconst 1) 1) (ce pc 92 (.goto 4) 3)) (cb pc 96 (ce pc 95 (.iconst 0) 1) (ce pc 96 .ireturn 1))))))) none
def cd_13:Nat→Option (Instr×Nat):=fun pc=>cond (Nat.blt pc 75) (cb pc 37 (cb pc 17 (cb pc 7 (cb pc 2 (cb pc 1 (ce pc 0 (.aload_n 0) 1) (ce pc 1 (.iload_n 1) 1)) (cb pc 3 (ce pc 2 (.iload_n 2) 1) (cb pc 6 (ce pc 3 (.invokevirtual 221) 3) (ce pc 6 (.istore_n 3) 1)))) (cb pc 12 (cb pc 8 (ce pc 7 (.aload_n 0) 1) (cb pc 11 (ce pc 8 (.getfield 69) 3) (ce pc 11 (.iload_n 3) 1))) (cb pc 13 (ce pc 12 .iaload 1) (cb pc 16 (ce pc 13 (.ifCond .eq 10) 3) (ce pc 16 (.aload_n 0) 1))))) (cb pc 27 (cb pc 22 (cb pc 20 (ce pc 17 (.getfield 69) 3) (cb pc 21 (ce pc 20 (.iload_n 3) 1) (ce pc 21 .iaload 1))) (cb pc 23 (ce pc 22 .ireturn 1) (cb pc 24 (ce pc 23 (.iload_n 1) 1) (ce pc 24 (.ifCond .gt 28) 3)))) (cb pc 32 (cb pc 28 (ce pc 27 (.aload_n 0) 1) (cb pc 31 (ce pc 28 (.getfield 69) 3) (ce pc 31 (.iload_n 3) 1))) (cb pc 33 (ce pc 32 (.iload_n 2) 1) (cb pc 34 (ce pc 33 (.aload_n 0) 1) (ce pc 34 (.getfield 97) 3)))))) (cb pc 55 (cb pc 47 (cb pc 40 (cb pc 38 (ce pc 37 (.iconst (-1)) 1) (cb pc 39 (ce pc 38 .ixor 1) (ce pc 39 .iand 1))) (cb pc 43 (ce pc 40 (.ifCond .ne 7) 3) (cb pc 44 (ce pc 43 (.iconst 1) 1) (ce pc 44 (.goto 4) 3)))) (cb pc 52 (cb pc 48 (ce pc 47 (.iconst 2) 1) (cb pc 49 (ce pc 48 .iastore 1) (ce pc 49 (.goto 19) 3))) (cb pc 53 (ce pc 52 (.aload_n 0) 1) (cb pc 54 (ce pc 53 (.iload_n 1) 1) (ce pc 54 (.iload_n 2) 1))))) (cb pc 67 (cb pc 62 (cb pc 58 (ce pc 55 (.invokevirtual 224) 3) (cb pc 61 (ce pc 58 (.ifCond .ne 10) 3) (ce pc 61 (.aload_n 0) 1))) (cb pc 65 (ce pc 62 (.getfield 69) 3) (cb pc 66 (ce pc 65 (.iload_n 3) 1) (ce pc 66 (.iconst 2) 1)))) (cb pc 72 (cb pc 68 (ce pc 67 .iastore 1) (cb pc 69 (ce pc 68 (.aload_n 0) 1) (ce pc 69 (.getfield 69) 3))) (cb pc 73 (ce pc 72 (.iload_n 3) 1) (cb pc 74 (ce pc 73 .iaload 1) (ce pc 74 .ireturn 1))))))) none
def cd_14:Nat→Option (Instr×Nat):=fun pc=>cond (Nat.blt pc 21) (cb pc 10 (cb pc 3 (cb pc 1 (ce pc 0 (.aload_n 0) 1) (cb pc 2 (ce pc 1 (.iload_n 1) 1) (ce pc 2 (.iconst 0) 1))) (cb pc 8 (cb pc 5 (ce pc 3 (.bipush 8) 2) (ce pc 5 (.invokevirtual 84) 3)) (cb pc 9 (ce pc 8 (.istore_n 3) 1) (ce pc 9 (.iload_n 3) 1)))) (cb pc 15 (cb pc 13 (ce pc 10 (.sipush 1024) 3) (cb pc 14 (ce pc 13 .imul 1) (ce pc 14 (.iload_n 2) 1))) (cb pc 19 (cb pc 18 (ce pc 15 (.sipush 1023) 3) (ce pc 18 .iand 1)) (cb pc 20 (ce pc 19 .iadd 1) (ce pc 20 .ireturn 1))))) none
def cd_15:Nat→Option (Instr×Nat):=fun pc=>cond (Nat.blt pc 59) (cb pc 28 (cb pc 12 (cb pc 8 (cb pc 4 (cb pc 1 (ce pc 0 (.aload_n 0) 1) (ce pc 1 (.invokevirtual 149) 3)) (cb pc 5 (ce pc 4 (.aload_n 0) 1) (ce pc 5 (.getfield 100) 3))) (cb pc 10 (cb pc 9 (ce pc 8 (.istore_n 2) 1) (ce pc 9 (.aload_n 0) 1)) (cb pc 11 (ce pc 10 (.iload_n 1) 1) (ce pc 11 (.iconst 0) 1)))) (cb pc 19 (cb pc 17 (cb pc 14 (ce pc 12 (.bipush 8) 2) (ce pc 14 (.invokevirtual 84) 3)) (cb pc 18 (ce pc 17 (.istore_n 3) 1) (ce pc 18 (.iload_n 3) 1))) (cb pc 23 (cb pc 20 (ce pc 19 (.iconst 1) 1) (ce pc 20 (.if_icmp .lt 38) 3)) (cb pc 24 (ce pc 23 (.aload_n 0) 1) (cb pc 27 (ce pc 24 (.getfield 72) 3) (ce pc 27 (.aload_n 0) 1)))))) (cb pc 43 (cb pc 34 (cb pc 30 (cb pc 29 (ce pc 28 (.iload_n 3) 1) (ce pc 29 (.iload_n 2) 1)) (cb pc 33 (ce pc 30 (.invokevirtual 221) 3) (ce pc 33 .iaload 1))) (cb pc 37 (cb pc 36 (ce pc 34 (.istore 4) 2) (ce pc 36 (.aload_n 0) 1)) (cb pc 40 (ce pc 37 (.getfield 19) 3) (cb pc 41 (ce pc 40 (.iload_n 3) 1) (ce pc 41 (.iload 4) 2))))) (cb pc 48 (cb pc 45 (cb pc 44 (ce pc 43 .iastore 1) (ce pc 44 (.aload_n 0) 1)) (cb pc 46 (ce pc 45 (.iload_n 2) 1) (ce pc 46 (.iload 4) 2))) (cb pc 52 (cb pc 51 (ce pc 48 (.invokevirtual 244) 3) (ce pc 51 (.istore_n 2) 1)) (cb pc 55 (ce pc 52 (.iinc 3 (-1)) 3) (cb pc 58 (ce pc 55 (.goto (-37)) 3) (ce pc 58 .return_ 1))))))) none
def cd_16:Nat→Option (Instr×Nat):=fun pc=>cond (Nat.blt pc 22) (cb pc 9 (cb pc 3 (cb pc 1 (ce pc 0 (.iconst 0) 1) (cb pc 2 (ce pc 1 (.istore_n 1) 1) (ce pc 2 (.iload_n 1) 1))) (cb pc 5 (ce pc 3 (.bipush 9) 2) (cb pc 8 (ce pc 5 (.if_icmp .ge 16) 3) (ce pc 8 (.aload_n 0) 1)))) (cb pc 14 (cb pc 12 (ce pc 9 (.getfield 19) 3) (cb pc 13 (ce pc 12 (.iload_n 1) 1) (ce pc 13 (.iconst 0) 1))) (cb pc 18 (cb pc 15 (ce pc 14 .iastore 1) (ce pc 15 (.iinc 1 1) 3)) (cb pc 21 (ce pc 18 (.goto (-16)) 3) (ce pc 21 .return_ 1))))) none
def cd_17:Nat→Option (Instr×Nat):=fun pc=>cond (Nat.blt pc 31) (cb pc 15 (cb pc 8 (cb pc 4 (cb pc 1 (ce pc 0 (.aload_n 0) 1) (ce pc 1 (.getfield 106) 3)) (cb pc 7 (ce pc 4 (.ifCond .ge 5) 3) (ce pc 7 (.iconst (-1)) 1))) (cb pc 10 (cb pc 9 (ce pc 8 .ireturn 1) (ce pc 9 (.iload_n 1) 1)) (cb pc 11 (ce pc 10 (.iconst 1) 1) (cb pc 14 (ce pc 11 (.if_icmp .lt 11) 3) (ce pc 14 (.iload_n 1) 1))))) (cb pc 24 (cb pc 19 (cb pc 16 (ce pc 15 (.aload_n 0) 1) (ce pc 16 (.getfield 106) 3)) (cb pc 22 (ce pc 19 (.if_icmp .le 5) 3) (cb pc 23 (ce pc 22 (.iconst (-1)) 1) (ce pc 23 .ireturn 1)))) (cb pc 28 (cb pc 25 (ce pc 24 (.aload_n 0) 1) (ce pc 25 (.getfield 19) 3)) (cb pc 29 (ce pc 28 (.iload_n 1) 1) (cb pc 30 (ce pc 29 .iaload 1) (ce pc 30 .ireturn 1)))))) none
def cd_18:Nat→Option (Instr×Nat):=fun pc=>cond (Nat.blt pc 50) (cb pc 28 (cb pc 12 (cb pc 8 (cb pc 2 (cb pc 1 (ce pc 0 (.aload_n 0) 1) (ce pc 1 (.iload_n 1) 1)) (cb pc 5 (ce pc 2 (.invokevirtual 115) 3) (ce pc 5 (.ifCond .ne 5) 3))) (cb pc 10 (cb pc 9 (ce pc 8 (.iconst (-1)) 1) (ce pc 9 .ireturn 1)) (cb pc 11 (ce pc 10 (.aload_n 0) 1) (ce pc 11 (.iload_n 2) 1)))) (cb pc 20 (cb pc 18 (cb pc 15 (ce pc 12 (.invokevirtual 119) 3) (ce pc 15 (.ifCond .ne 5) 3)) (cb pc 19 (ce pc 18 (.iconst (-1)) 1) (ce pc 19 .ireturn 1))) (cb pc 24 (cb pc 21 (ce pc 20 (.iload_n 2) 1) (ce pc 21 (.ifCond .ne 10) 3)) (cb pc 25 (ce pc 24 (.aload_n 0) 1) (ce pc 25 (.getfield 23) 3))))) (cb pc 40 (cb pc 32 (cb pc 30 (cb pc 29 (ce pc 28 (.iload_n 1) 1) (ce pc 29 .iaload 1)) (cb pc 31 (ce pc 30 .ireturn 1) (ce pc 31 (.iload_n 2) 1))) (cb pc 36 (cb pc 33 (ce pc 32 (.iconst 1) 1) (ce pc 33 (.if_icmp .ne 10) 3)) (cb pc 37 (ce pc 36 (.aload_n 0) 1) (ce pc 37 (.getfield 26) 3)))) (cb pc 44 (cb pc 42 (cb pc 41 (ce pc 40 (.iload_n 1) 1) (ce pc 41 .iaload 1)) (cb pc 43 (ce pc 42 .ireturn 1) (ce pc 43 (.aload_n 0) 1))) (cb pc 48 (cb pc 47 (ce pc 44 (.getfield 29) 3) (ce pc 47 (.iload_n 1) 1)) (cb pc 49 (ce pc 48 .iaload 1) (ce pc 49 .ireturn 1)))))) none
def cd_19:Nat→Option (Instr×Nat):=fun pc=>cond (Nat.blt pc 18) (cb pc 9 (cb pc 4 (cb pc 1 (ce pc 0 (.iload_n 1) 1) (ce pc 1 (.ifCond .lt 15) 3)) (cb pc 5 (ce pc 4 (.iload_n 1) 1) (cb pc 6 (ce pc 5 (.aload_n 0) 1) (ce pc 6 (.getfield 91) 3)))) (cb pc 13 (cb pc 12 (ce pc 9 (.if_icmp .ge 7) 3) (ce pc 12 (.iconst 1) 1)) (cb pc 16 (ce pc 13 (.goto 4) 3) (cb pc 17 (ce pc 16 (.iconst 0) 1) (ce pc 17 .ireturn 1))))) none
def cd_20:Nat→Option (Instr×Nat):=fun pc=>cond (Nat.blt pc 20) (cb pc 10 (cb pc 5 (cb pc 1 (ce pc 0 (.iload_n 1) 1) (cb pc 4 (ce pc 1 (.ifCond .eq 13) 3) (ce pc 4 (.iload_n 1) 1))) (cb pc 6 (ce pc 5 (.iconst 1) 1) (cb pc 9 (ce pc 6 (.if_icmp .eq 8) 3) (ce pc 9 (.iload_n 1) 1)))) (cb pc 15 (cb pc 11 (ce pc 10 (.iconst 2) 1) (cb pc 14 (ce pc 11 (.if_icmp .ne 7) 3) (ce pc 14 (.iconst 1) 1))) (cb pc 18 (ce pc 15 (.goto 4) 3) (cb pc 19 (ce pc 18 (.iconst 0) 1) (ce pc 19 .ireturn 1))))) none
def cd_21:Nat→Option (Instr×Nat):=fun pc=>cond (Nat.blt pc 31) (cb pc 15 (cb pc 8 (cb pc 4 (cb pc 1 (ce pc 0 (.iload_n 1) 1) (ce pc 1 (.ifCond .ne 8) 3)) (cb pc 5 (ce pc 4 (.aload_n 0) 1) (ce pc 5 (.getfield 97) 3))) (cb pc 10 (cb pc 9 (ce pc 8 .ireturn 1) (ce pc 9 (.iload_n 1) 1)) (cb pc 11 (ce pc 10 (.iconst 1) 1) (cb pc 14 (ce pc 11 (.if_icmp .ne 8) 3) (ce pc 14 (.aload_n 0) 1))))) (cb pc 24 (cb pc 19 (cb pc 18 (ce pc 15 (.getfield 100) 3) (ce pc 18 .ireturn 1)) (cb pc 20 (ce pc 19 (.iload_n 1) 1) (cb pc 21 (ce pc 20 (.iconst 2) 1) (ce pc 21 (.if_icmp .ne 8) 3)))) (cb pc 28 (cb pc 25 (ce pc 24 (.aload_n 0) 1) (ce pc 25 (.getfield 103) 3)) (cb pc 29 (ce pc 28 .ireturn 1) (cb pc 30 (ce pc 29 (.iconst (-1)) 1) (ce pc 30 .ireturn 1)))))) none
def cd_22:Nat→Option (Instr×Nat):=fun pc=>cond (Nat.blt pc 5) (cb pc 1 (ce pc 0 (.aload_n 0) 1) (cb pc 4 (ce pc 1 (.getfield 106) 3) (ce pc 4 .ireturn 1))) none
def cd_23:Nat→Option (Instr×Nat):=fun pc=>cond (Nat.blt pc 32) (cb pc 16 (cb pc 9 (cb pc 2 (cb pc 1 (ce pc 0 (.aload_n 0) 1) (ce pc 1 (.iload_n 1) 1)) (cb pc 5 (ce pc 2 (.invokevirtual 122) 3) (cb pc 8 (ce pc 5 (.ifCond .ne 5) 3) (ce pc 8 (.iconst 0) 1)))) (cb pc 11 (cb pc 10 (ce pc 9 .ireturn 1) (ce pc 10 (.aload_n 0) 1)) (cb pc 12 (ce pc 11 (.aload_n 0) 1) (cb pc 13 (ce pc 12 (.aload_n 0) 1) (ce pc 13 (.getfield 97) 3))))) (cb pc 23 (cb pc 18 (cb pc 17 (ce pc 16 (.iconst 1) 1) (ce pc 17 (.iload_n 1) 1)) (cb pc 19 (ce pc 18 .ishl 1) (cb pc 20 (ce pc 19 (.iload_n 2) 1) (ce pc 20 (.invokevirtual 125) 3)))) (cb pc 27 (cb pc 26 (ce pc 23 (.putfield 97) 3) (ce pc 26 (.aload_n 0) 1)) (cb pc 30 (ce pc 27 (.invokevirtual 129) 3) (cb pc 31 (ce pc 30 (.iconst 1) 1) (ce pc 31 .ireturn 1)))))) none
def cd_24:Nat→Option (Instr×Nat):=fun pc=>cond (Nat.blt pc 18) (cb pc 9 (cb pc 4 (cb pc 1 (ce pc 0 (.iload_n 1) 1) (ce pc 1 (.ifCond .lt 15) 3)) (cb pc 5 (ce pc 4 (.iload_n 1) 1) (cb pc 6 (ce pc 5 (.aload_n 0) 1) (ce pc 6 (.getfield 88) 3)))) (cb pc 13 (cb pc 12 (ce pc 9 (.if_icmp .ge 7) 3) (ce pc 12 (.iconst 1) 1)) (cb pc 16 (ce pc 13 (.goto 4) 3) (cb pc 17 (ce pc 16 (.iconst 0) 1) (ce pc 17 .ireturn 1))))) none
def cd_25:Nat→Option (Instr×Nat):=fun pc=>cond (Nat.blt pc 14) (cb pc 8 (cb pc 5 (cb pc 1 (ce pc 0 (.iload_n 3) 1) (cb pc 4 (ce pc 1 (.ifCond .eq 7) 3) (ce pc 4 (.iload_n 1) 1))) (cb pc 6 (ce pc 5 (.iload_n 2) 1) (cb pc 7 (ce pc 6 .ior 1) (ce pc 7 .ireturn 1)))) (cb pc 11 (cb pc 9 (ce pc 8 (.iload_n 1) 1) (cb pc 10 (ce pc 9 (.iload_n 2) 1) (ce pc 10 (.iconst (-1)) 1))) (cb pc 12 (ce pc 11 .ixor 1) (cb pc 13 (ce pc 12 .iand 1) (ce pc 13 .ireturn 1))))) none
def cd_26:Nat→Option (Instr×Nat):=fun pc=>cond (Nat.blt pc 11) (cb pc 6 (cb pc 1 (ce pc 0 (.aload_n 0) 1) (cb pc 3 (ce pc 1 (.bipush (-2)) 2) (ce pc 3 (.putfield 106) 3))) (cb pc 7 (ce pc 6 (.aload_n 0) 1) (cb pc 10 (ce pc 7 (.invokevirtual 149) 3) (ce pc 10 .return_ 1)))) none
def cd_27:Nat→Option (Instr×Nat):=fun pc=>cond (Nat.blt pc 105) (cb pc 50 (cb pc 24 (cb pc 12 (cb pc 4 (cb pc 2 (cb pc 1 (ce pc 0 (.iconst 0) 1) (ce pc 1 (.istore_n 2) 1)) (cb pc 3 (ce pc 2 (.iconst 0) 1) (ce pc 3 (.istore_n 3) 1))) (cb pc 6 (cb pc 5 (ce pc 4 (.iload_n 3) 1) (ce pc 5 (.aload_n 0) 1)) (cb pc 9 (ce pc 6 (.getfield 91) 3) (ce pc 9 (.if_icmp .ge 26) 3)))) (cb pc 16 (cb pc 14 (cb pc 13 (ce pc 12 (.aload_n 0) 1) (ce pc 13 (.iload_n 1) 1)) (cb pc 15 (ce pc 14 (.iconst 1) 1) (ce pc 15 .isub 1))) (cb pc 20 (cb pc 17 (ce pc 16 (.iload_n 3) 1) (ce pc 17 (.invokevirtual 189) 3)) (cb pc 23 (ce pc 20 (.ifCond .eq 9) 3) (ce pc 23 (.iload_n 2) 1))))) (cb pc 36 (cb pc 28 (cb pc 26 (cb pc 25 (ce pc 24 (.iconst 1) 1) (ce pc 25 (.iload_n 3) 1)) (cb pc 27 (ce pc 26 .ishl 1) (ce pc 27 .ior 1))) (cb pc 32 (cb pc 29 (ce pc 28 (.istore_n 2) 1) (ce pc 29 (.iinc 3 1) 3)) (cb pc 35 (ce pc 32 (.goto (-28)) 3) (ce pc 35 (.aload_n 0) 1)))) (cb pc 42 (cb pc 40 (cb pc 39 (ce pc 36 (.getfield 54) 3) (ce pc 39 (.iload_n 1) 1)) (cb pc 41 (ce pc 40 (.iload_n 2) 1) (ce pc 41 .iastore 1))) (cb pc 44 (cb pc 43 (ce pc 42 (.iconst 0) 1) (ce pc 43 (.istore_n 3) 1)) (cb pc 45 (ce pc 44 (.iload_n 3) 1) (cb pc 47 (ce pc 45 (.bipush 10) 2) (ce pc 47 (.if_icmp .ge 26) 3))))))) (cb pc 76 (cb pc 61 (cb pc 57 (cb pc 54 (cb pc 51 (ce pc 50 (.aload_n 0) 1) (ce pc 51 (.getfield 60) 3)) (cb pc 55 (ce pc 54 (.iload_n 1) 1) (ce pc 55 (.bipush 10) 2))) (cb pc 59 (cb pc 58 (ce pc 57 .imul 1) (ce pc 58 (.iload_n 3) 1)) (cb pc 60 (ce pc 59 .iadd 1) (ce pc 60 (.aload_n 0) 1)))) (cb pc 67 (cb pc 63 (cb pc 62 (ce pc 61 (.iload_n 1) 1) (ce pc 62 (.iload_n 3) 1)) (cb pc 66 (ce pc 63 (.invokevirtual 192) 3) (ce pc 66 .iastore 1))) (cb pc 73 (cb pc 70 (ce pc 67 (.iinc 3 1) 3) (ce pc 70 (.goto (-26)) 3)) (cb pc 74 (ce pc 73 (.iconst 0) 1) (cb pc 75 (ce pc 74 (.istore_n 3) 1) (ce pc 75 (.iload_n 3) 1)))))) (cb pc 90 (cb pc 85 (cb pc 81 (cb pc 78 (ce pc 76 (.bipush 10) 2) (ce pc 78 (.if_icmp .ge 26) 3)) (cb pc 82 (ce pc 81 (.aload_n 0) 1) (ce pc 82 (.getfield 63) 3))) (cb pc 88 (cb pc 86 (ce pc 85 (.iload_n 1) 1) (ce pc 86 (.bipush 10) 2)) (cb pc 89 (ce pc 88 .imul 1) (ce pc 89 (.iload_n 3) 1)))) (cb pc 94 (cb pc 92 (cb pc 91 (ce pc 90 .iadd 1) (ce pc 91 (.aload_n 0) 1)) (cb pc 93 (ce pc 92 (.iload_n 1) 1) (ce pc 93 (.iload_n 3) 1))) (cb pc 98 (cb pc 97 (ce pc 94 (.invokevirtual 196) 3) (ce pc 97 .iastore 1)) (cb pc 101 (ce pc 98 (.iinc 3 1) 3) (cb pc 104 (ce pc 101 (.goto (-26)) 3) (ce pc 104 .return_ 1)))))))) none
def cd_28:Nat→Option (Instr×Nat):=fun pc=>cond (Nat.blt pc 40) (cb pc 19 (cb pc 10 (cb pc 5 (cb pc 1 (ce pc 0 (.aload_n 0) 1) (cb pc 4 (ce pc 1 (.getfield 23) 3) (ce pc 4 (.iload_n 2) 1))) (cb pc 6 (ce pc 5 .iaload 1) (cb pc 7 (ce pc 6 (.aload_n 0) 1) (ce pc 7 (.getfield 51) 3)))) (cb pc 13 (cb pc 11 (ce pc 10 (.iload_n 1) 1) (cb pc 12 (ce pc 11 .iaload 1) (ce pc 12 (.iconst (-1)) 1))) (cb pc 15 (cb pc 14 (ce pc 13 .ixor 1) (ce pc 14 .iand 1)) (cb pc 18 (ce pc 15 (.ifCond .eq 5) 3) (ce pc 18 (.iconst 0) 1))))) (cb pc 27 (cb pc 22 (cb pc 20 (ce pc 19 .ireturn 1) (cb pc 21 (ce pc 20 (.aload_n 0) 1) (ce pc 21 (.iload_n 1) 1))) (cb pc 23 (ce pc 22 (.aload_n 0) 1) (cb pc 26 (ce pc 23 (.getfield 23) 3) (ce pc 26 (.iload_n 2) 1)))) (cb pc 34 (cb pc 28 (ce pc 27 .iaload 1) (cb pc 31 (ce pc 28 (.invokevirtual 199) 3) (ce pc 31 (.ifCond .ne 7) 3))) (cb pc 38 (cb pc 35 (ce pc 34 (.iconst 1) 1) (ce pc 35 (.goto 4) 3)) (cb pc 39 (ce pc 38 (.iconst 0) 1) (ce pc 39 .ireturn 1)))))) none
def cd_29:Nat→Option (Instr×Nat):=fun pc=>cond (Nat.blt pc 8) (cb pc 3 (cb pc 1 (ce pc 0 (.aload_n 0) 1) (cb pc 2 (ce pc 1 (.iload_n 1) 1) (ce pc 2 (.iload_n 2) 1))) (cb pc 4 (ce pc 3 (.iload_n 2) 1) (cb pc 7 (ce pc 4 (.invokevirtual 205) 3) (ce pc 7 .ireturn 1)))) none
def cd_30:Nat→Option (Instr×Nat):=fun pc=>cond (Nat.blt pc 61) (cb pc 31 (cb pc 13 (cb pc 7 (cb pc 4 (cb pc 1 (ce pc 0 (.iload_n 1) 1) (ce pc 1 (.ifCond .lt 9) 3)) (cb pc 5 (ce pc 4 (.iload_n 1) 1) (ce pc 5 (.bipush 8) 2))) (cb pc 11 (cb pc 10 (ce pc 7 (.if_icmp .le 5) 3) (ce pc 10 (.iconst 0) 1)) (cb pc 12 (ce pc 11 .ireturn 1) (ce pc 12 (.iconst 0) 1)))) (cb pc 21 (cb pc 17 (cb pc 15 (ce pc 13 (.istore 4) 2) (ce pc 15 (.iload 4) 2)) (cb pc 18 (ce pc 17 (.aload_n 0) 1) (ce pc 18 (.getfield 88) 3))) (cb pc 25 (cb pc 24 (ce pc 21 (.if_icmp .ge 38) 3) (ce pc 24 (.aload_n 0) 1)) (cb pc 26 (ce pc 25 (.iload_n 2) 1) (cb pc 28 (ce pc 26 (.iload 4) 2) (ce pc 28 (.invokevirtual 202) 3)))))) (cb pc 46 (cb pc 39 (cb pc 35 (cb pc 34 (ce pc 31 (.ifCond .eq 22) 3) (ce pc 34 (.aload_n 0) 1)) (cb pc 38 (ce pc 35 (.getfield 57) 3) (ce pc 38 (.iload_n 1) 1))) (cb pc 42 (cb pc 41 (ce pc 39 (.bipush 10) 2) (ce pc 41 .imul 1)) (cb pc 44 (ce pc 42 (.iload 4) 2) (cb pc 45 (ce pc 44 .iadd 1) (ce pc 45 .iaload 1))))) (cb pc 52 (cb pc 48 (cb pc 47 (ce pc 46 (.iload_n 3) 1) (ce pc 47 .iand 1)) (cb pc 51 (ce pc 48 (.ifCond .eq 5) 3) (ce pc 51 (.iconst 1) 1))) (cb pc 56 (cb pc 53 (ce pc 52 .ireturn 1) (ce pc 53 (.iinc 4 1) 3)) (cb pc 59 (ce pc 56 (.goto (-41)) 3) (cb pc 60 (ce pc 59 (.iconst 0) 1) (ce pc 60 .ireturn 1))))))) none
def cd_31:Nat→Option (Instr×Nat):=fun pc=>cond (Nat.blt pc 26) (cb pc 13 (cb pc 7 (cb pc 4 (cb pc 1 (ce pc 0 (.iload_n 2) 1) (ce pc 1 (.ifCond .lt 9) 3)) (cb pc 5 (ce pc 4 (.iload_n 2) 1) (ce pc 5 (.bipush 30) 2))) (cb pc 11 (cb pc 10 (ce pc 7 (.if_icmp .le 5) 3) (ce pc 10 (.iconst 0) 1)) (cb pc 12 (ce pc 11 .ireturn 1) (ce pc 12 (.iload_n 1) 1)))) (cb pc 17 (cb pc 15 (cb pc 14 (ce pc 13 (.iconst 1) 1) (ce pc 14 (.iload_n 2) 1)) (cb pc 16 (ce pc 15 .ishl 1) (ce pc 16 .iand 1))) (cb pc 21 (cb pc 20 (ce pc 17 (.ifCond .eq 7) 3) (ce pc 20 (.iconst 1) 1)) (cb pc 24 (ce pc 21 (.goto 4) 3) (cb pc 25 (ce pc 24 (.iconst 0) 1) (ce pc 25 .ireturn 1)))))) none
def cd_32:Nat→Option (Instr×Nat):=fun pc=>cond (Nat.blt pc 115) (cb pc 59 (cb pc 26 (cb pc 14 (cb pc 8 (cb pc 2 (cb pc 1 (ce pc 0 (.iload_n 2) 1) (ce pc 1 (.aload_n 0) 1)) (cb pc 5 (ce pc 2 (.getfield 91) 3) (ce pc 5 (.if_icmp .ge 17) 3))) (cb pc 10 (cb pc 9 (ce pc 8 (.aload_n 0) 1) (ce pc 9 (.aload_n 0) 1)) (cb pc 13 (ce pc 10 (.getfield 54) 3) (ce pc 13 (.iload_n 1) 1)))) (cb pc 22 (cb pc 16 (cb pc 15 (ce pc 14 .iaload 1) (ce pc 15 (.iload_n 2) 1)) (cb pc 19 (ce pc 16 (.invokevirtual 202) 3) (ce pc 19 (.ifCond .ne 5) 3))) (cb pc 24 (cb pc 23 (ce pc 22 (.iconst 0) 1) (ce pc 23 .ireturn 1)) (cb pc 25 (ce pc 24 (.iconst 0) 1) (ce pc 25 (.istore_n 3) 1))))) (cb pc 41 (cb pc 32 (cb pc 29 (cb pc 27 (ce pc 26 (.iconst 0) 1) (ce pc 27 (.istore 4) 2)) (cb pc 31 (ce pc 29 (.iload 4) 2) (ce pc 31 (.aload_n 0) 1))) (cb pc 38 (cb pc 35 (ce pc 32 (.getfield 91) 3) (ce pc 35 (.if_icmp .ge 78) 3)) (cb pc 40 (ce pc 38 (.iload 4) 2) (ce pc 40 (.iload_n 2) 1)))) (cb pc 49 (cb pc 45 (cb pc 44 (ce pc 41 (.if_icmp .eq 66) 3) (ce pc 44 (.aload_n 0) 1)) (cb pc 46 (ce pc 45 (.aload_n 0) 1) (ce pc 46 (.getfield 54) 3))) (cb pc 51 (cb pc 50 (ce pc 49 (.iload_n 1) 1) (ce pc 50 .iaload 1)) (cb pc 53 (ce pc 51 (.iload 4) 2) (cb pc 56 (ce pc 53 (.invokevirtual 202) 3) (ce pc 56 (.ifCond .ne 6) 3))))))) (cb pc 86 (cb pc 74 (cb pc 67 (cb pc 63 (cb pc 62 (ce pc 59 (.goto 48) 3) (ce pc 62 (.aload_n 0) 1)) (cb pc 64 (ce pc 63 (.aload_n 0) 1) (ce pc 64 (.getfield 35) 3))) (cb pc 69 (cb pc 68 (ce pc 67 (.iload_n 2) 1) (ce pc 68 .iaload 1)) (cb pc 71 (ce pc 69 (.iload 4) 2) (ce pc 71 (.invokevirtual 202) 3)))) (cb pc 80 (cb pc 78 (cb pc 77 (ce pc 74 (.ifCond .ne 26) 3) (ce pc 77 (.aload_n 0) 1)) (cb pc 79 (ce pc 78 (.iload_n 1) 1) (ce pc 79 (.iconst 1) 1))) (cb pc 82 (cb pc 81 (ce pc 80 .isub 1) (ce pc 81 (.aload_n 0) 1)) (cb pc 85 (ce pc 82 (.getfield 23) 3) (ce pc 85 (.iload_n 2) 1))))) (cb pc 101 (cb pc 93 (cb pc 88 (cb pc 87 (ce pc 86 .iaload 1) (ce pc 87 (.aload_n 0) 1)) (cb pc 91 (ce pc 88 (.getfield 23) 3) (ce pc 91 (.iload 4) 2))) (cb pc 97 (cb pc 94 (ce pc 93 .iaload 1) (ce pc 94 (.invokevirtual 205) 3)) (cb pc 100 (ce pc 97 (.ifCond .eq 10) 3) (ce pc 100 (.iload_n 3) 1)))) (cb pc 106 (cb pc 104 (cb pc 102 (ce pc 101 (.iconst 1) 1) (ce pc 102 (.iload 4) 2)) (cb pc 105 (ce pc 104 .ishl 1) (ce pc 105 .ior 1))) (cb pc 110 (cb pc 107 (ce pc 106 (.istore_n 3) 1) (ce pc 107 (.iinc 4 1) 3)) (cb pc 113 (ce pc 110 (.goto (-81)) 3) (cb pc 114 (ce pc 113 (.iload_n 3) 1) (ce pc 114 .ireturn 1)))))))) none
def cd_33:Nat→Option (Instr×Nat):=fun pc=>cond (Nat.blt pc 118) (cb pc 52 (cb pc 27 (cb pc 14 (cb pc 8 (cb pc 2 (cb pc 1 (ce pc 0 (.iload_n 2) 1) (ce pc 1 (.aload_n 0) 1)) (cb pc 5 (ce pc 2 (.getfield 88) 3) (ce pc 5 (.if_icmp .ge 19) 3))) (cb pc 10 (cb pc 9 (ce pc 8 (.aload_n 0) 1) (ce pc 9 (.aload_n 0) 1)) (cb pc 13 (ce pc 10 (.getfield 51) 3) (ce pc 13 (.iload_n 1) 1)))) (cb pc 18 (cb pc 16 (cb pc 15 (ce pc 14 (.iconst 1) 1) (ce pc 15 .isub 1)) (cb pc 17 (ce pc 16 .iaload 1) (ce pc 17 (.iload_n 2) 1))) (cb pc 24 (cb pc 21 (ce pc 18 (.invokevirtual 202) 3) (ce pc 21 (.ifCond .ne 5) 3)) (cb pc 25 (ce pc 24 (.iconst 0) 1) (cb pc 26 (ce pc 25 .ireturn 1) (ce pc 26 (.aload_n 0) 1)))))) (cb pc 38 (cb pc 33 (cb pc 31 (cb pc 30 (ce pc 27 (.getfield 57) 3) (ce pc 30 (.iload_n 1) 1)) (cb pc 32 (ce pc 31 (.iconst 1) 1) (ce pc 32 .isub 1))) (cb pc 36 (cb pc 35 (ce pc 33 (.bipush 10) 2) (ce pc 35 .imul 1)) (cb pc 37 (ce pc 36 (.iload_n 2) 1) (ce pc 37 .iadd 1)))) (cb pc 43 (cb pc 40 (cb pc 39 (ce pc 38 .iaload 1) (ce pc 39 (.istore_n 3) 1)) (cb pc 41 (ce pc 40 (.iconst 0) 1) (ce pc 41 (.istore 4) 2))) (cb pc 46 (cb pc 44 (ce pc 43 (.iconst 0) 1) (ce pc 44 (.istore 5) 2)) (cb pc 48 (ce pc 46 (.iload 5) 2) (cb pc 49 (ce pc 48 (.aload_n 0) 1) (ce pc 49 (.getfield 91) 3))))))) (cb pc 85 (cb pc 67 (cb pc 60 (cb pc 56 (cb pc 55 (ce pc 52 (.if_icmp .ge 63) 3) (ce pc 55 (.aload_n 0) 1)) (cb pc 57 (ce pc 56 (.aload_n 0) 1) (ce pc 57 (.getfield 54) 3))) (cb pc 62 (cb pc 61 (ce pc 60 (.iload_n 1) 1) (ce pc 61 .iaload 1)) (cb pc 64 (ce pc 62 (.iload 5) 2) (ce pc 64 (.invokevirtual 202) 3)))) (cb pc 75 (cb pc 73 (cb pc 70 (ce pc 67 (.ifCond .ne 6) 3) (ce pc 70 (.goto 39) 3)) (cb pc 74 (ce pc 73 (.aload_n 0) 1) (ce pc 74 (.aload_n 0) 1))) (cb pc 80 (cb pc 78 (ce pc 75 (.getfield 29) 3) (ce pc 78 (.iload 5) 2)) (cb pc 81 (ce pc 80 .iaload 1) (cb pc 82 (ce pc 81 (.iload_n 2) 1) (ce pc 82 (.invokevirtual 202) 3)))))) (cb pc 102 (cb pc 93 (cb pc 89 (cb pc 88 (ce pc 85 (.ifCond .ne 15) 3) (ce pc 88 (.iload_n 3) 1)) (cb pc 90 (ce pc 89 (.aload_n 0) 1) (ce pc 90 (.getfield 23) 3))) (cb pc 96 (cb pc 95 (ce pc 93 (.iload 5) 2) (ce pc 95 .iaload 1)) (cb pc 97 (ce pc 96 .iand 1) (cb pc 100 (ce pc 97 (.ifCond .eq 12) 3) (ce pc 100 (.iload 4) 2))))) (cb pc 107 (cb pc 105 (cb pc 103 (ce pc 102 (.iconst 1) 1) (ce pc 103 (.iload 5) 2)) (cb pc 106 (ce pc 105 .ishl 1) (ce pc 106 .ior 1))) (cb pc 112 (cb pc 109 (ce pc 107 (.istore 4) 2) (ce pc 109 (.iinc 5 1) 3)) (cb pc 115 (ce pc 112 (.goto (-66)) 3) (cb pc 117 (ce pc 115 (.iload 4) 2) (ce pc 117 .ireturn 1)))))))) none
def cd_34:Nat→Option (Instr×Nat):=fun pc=>cond (Nat.blt pc 87) (cb pc 41 (cb pc 19 (cb pc 8 (cb pc 5 (cb pc 1 (ce pc 0 (.aload_n 0) 1) (cb pc 4 (ce pc 1 (.getfield 51) 3) (ce pc 4 (.iload_n 1) 1))) (cb pc 6 (ce pc 5 (.iconst 1) 1) (cb pc 7 (ce pc 6 .isub 1) (ce pc 7 .iaload 1)))) (cb pc 11 (cb pc 9 (ce pc 8 (.istore_n 2) 1) (cb pc 10 (ce pc 9 (.iconst 0) 1) (ce pc 10 (.istore_n 3) 1))) (cb pc 13 (cb pc 12 (ce pc 11 (.iload_n 3) 1) (ce pc 12 (.aload_n 0) 1)) (cb pc 16 (ce pc 13 (.getfield 91) 3) (ce pc 16 (.if_icmp .ge 32) 3))))) (cb pc 30 (cb pc 24 (cb pc 20 (ce pc 19 (.aload_n 0) 1) (cb pc 21 (ce pc 20 (.aload_n 0) 1) (ce pc 21 (.getfield 54) 3))) (cb pc 26 (cb pc 25 (ce pc 24 (.iload_n 1) 1) (ce pc 25 .iaload 1)) (cb pc 27 (ce pc 26 (.iload_n 3) 1) (ce pc 27 (.invokevirtual 202) 3)))) (cb pc 35 (cb pc 33 (ce pc 30 (.ifCond .eq 12) 3) (cb pc 34 (ce pc 33 (.iload_n 2) 1) (ce pc 34 (.aload_n 0) 1))) (cb pc 39 (cb pc 38 (ce pc 35 (.getfield 26) 3) (ce pc 38 (.iload_n 3) 1)) (cb pc 40 (ce pc 39 .iaload 1) (ce pc 40 .ior 1)))))) (cb pc 64 (cb pc 54 (cb pc 48 (cb pc 42 (ce pc 41 (.istore_n 2) 1) (cb pc 45 (ce pc 42 (.iinc 3 1) 3) (ce pc 45 (.goto (-34)) 3))) (cb pc 52 (cb pc 49 (ce pc 48 (.aload_n 0) 1) (ce pc 49 (.getfield 51) 3)) (cb pc 53 (ce pc 52 (.iload_n 1) 1) (ce pc 53 (.iload_n 2) 1)))) (cb pc 57 (cb pc 55 (ce pc 54 .iastore 1) (cb pc 56 (ce pc 55 (.iconst 0) 1) (ce pc 56 (.istore_n 3) 1))) (cb pc 60 (cb pc 58 (ce pc 57 (.iload_n 3) 1) (ce pc 58 (.bipush 10) 2)) (cb pc 63 (ce pc 60 (.if_icmp .ge 26) 3) (ce pc 63 (.aload_n 0) 1))))) (cb pc 74 (cb pc 70 (cb pc 67 (ce pc 64 (.getfield 57) 3) (cb pc 68 (ce pc 67 (.iload_n 1) 1) (ce pc 68 (.bipush 10) 2))) (cb pc 72 (cb pc 71 (ce pc 70 .imul 1) (ce pc 71 (.iload_n 3) 1)) (cb pc 73 (ce pc 72 .iadd 1) (ce pc 73 (.aload_n 0) 1)))) (cb pc 79 (cb pc 75 (ce pc 74 (.iload_n 1) 1) (cb pc 76 (ce pc 75 (.iload_n 3) 1) (ce pc 76 (.invokevirtual 209) 3))) (cb pc 83 (cb pc 80 (ce pc 79 .iastore 1) (ce pc 80 (.iinc 3 1) 3)) (cb pc 86 (ce pc 83 (.goto (-26)) 3) (ce pc 86 .return_ 1))))))) none
def cd_35:Nat→Option (Instr×Nat):=fun pc=>cond (Nat.blt pc 85) (cb pc 41 (cb pc 22 (cb pc 10 (cb pc 5 (cb pc 1 (ce pc 0 (.iload_n 2) 1) (cb pc 2 (ce pc 1 (.aload_n 0) 1) (ce pc 2 (.getfield 88) 3))) (cb pc 8 (ce pc 5 (.if_icmp .ge 17) 3) (cb pc 9 (ce pc 8 (.aload_n 0) 1) (ce pc 9 (.aload_n 0) 1)))) (cb pc 15 (cb pc 13 (ce pc 10 (.getfield 51) 3) (cb pc 14 (ce pc 13 (.iload_n 1) 1) (ce pc 14 .iaload 1))) (cb pc 16 (ce pc 15 (.iload_n 2) 1) (cb pc 19 (ce pc 16 (.invokevirtual 202) 3) (ce pc 19 (.ifCond .ne 5) 3))))) (cb pc 29 (cb pc 25 (cb pc 23 (ce pc 22 (.iconst 0) 1) (cb pc 24 (ce pc 23 .ireturn 1) (ce pc 24 (.iconst 0) 1))) (cb pc 26 (ce pc 25 (.istore_n 3) 1) (cb pc 27 (ce pc 26 (.iconst 0) 1) (ce pc 27 (.istore 4) 2)))) (cb pc 35 (cb pc 31 (ce pc 29 (.iload 4) 2) (cb pc 32 (ce pc 31 (.aload_n 0) 1) (ce pc 32 (.getfield 88) 3))) (cb pc 38 (ce pc 35 (.if_icmp .ge 48) 3) (cb pc 40 (ce pc 38 (.iload 4) 2) (ce pc 40 (.iload_n 2) 1)))))) (cb pc 62 (cb pc 51 (cb pc 46 (cb pc 44 (ce pc 41 (.if_icmp .eq 36) 3) (cb pc 45 (ce pc 44 (.aload_n 0) 1) (ce pc 45 (.aload_n 0) 1))) (cb pc 49 (ce pc 46 (.getfield 51) 3) (cb pc 50 (ce pc 49 (.iload_n 1) 1) (ce pc 50 .iaload 1)))) (cb pc 59 (cb pc 53 (ce pc 51 (.iload 4) 2) (cb pc 56 (ce pc 53 (.invokevirtual 202) 3) (ce pc 56 (.ifCond .eq 21) 3))) (cb pc 60 (ce pc 59 (.aload_n 0) 1) (cb pc 61 (ce pc 60 (.iload_n 1) 1) (ce pc 61 (.iload_n 2) 1))))) (cb pc 74 (cb pc 70 (cb pc 64 (ce pc 62 (.iload 4) 2) (cb pc 67 (ce pc 64 (.invokevirtual 212) 3) (ce pc 67 (.ifCond .eq 10) 3))) (cb pc 71 (ce pc 70 (.iload_n 3) 1) (cb pc 72 (ce pc 71 (.iconst 1) 1) (ce pc 72 (.iload 4) 2)))) (cb pc 77 (cb pc 75 (ce pc 74 .ishl 1) (cb pc 76 (ce pc 75 .ior 1) (ce pc 76 (.istore_n 3) 1))) (cb pc 83 (cb pc 80 (ce pc 77 (.iinc 4 1) 3) (ce pc 80 (.goto (-51)) 3)) (cb pc 84 (ce pc 83 (.iload_n 3) 1) (ce pc 84 .ireturn 1))))))) none
def cd_36:Nat→Option (Instr×Nat):=fun pc=>cond (Nat.blt pc 184) (cb pc 94 (cb pc 41 (cb pc 22 (cb pc 10 (cb pc 3 (cb pc 1 (ce pc 0 (.aload_n 0) 1) (cb pc 2 (ce pc 1 (.iload_n 1) 1) (ce pc 2 (.iload_n 2) 1))) (cb pc 8 (cb pc 6 (ce pc 3 (.invokevirtual 215) 3) (ce pc 6 (.istore 4) 2)) (cb pc 9 (ce pc 8 (.aload_n 0) 1) (ce pc 9 (.iload_n 1) 1)))) (cb pc 16 (cb pc 11 (ce pc 10 (.iload_n 3) 1) (cb pc 14 (ce pc 11 (.invokevirtual 215) 3) (ce pc 14 (.istore 5) 2))) (cb pc 18 (cb pc 17 (ce pc 16 (.aload_n 0) 1) (ce pc 17 (.aload_n 0) 1)) (cb pc 21 (ce pc 18 (.getfield 51) 3) (ce pc 21 (.iload_n 1) 1))))) (cb pc 32 (cb pc 25 (cb pc 23 (ce pc 22 (.iconst 1) 1) (cb pc 24 (ce pc 23 .isub 1) (ce pc 24 .iaload 1))) (cb pc 29 (cb pc 26 (ce pc 25 (.iload_n 2) 1) (ce pc 26 (.invokevirtual 202) 3)) (cb pc 31 (ce pc 29 (.istore 6) 2) (ce pc 31 (.aload_n 0) 1)))) (cb pc 37 (cb pc 33 (ce pc 32 (.aload_n 0) 1) (cb pc 36 (ce pc 33 (.getfield 51) 3) (ce pc 36 (.iload_n 1) 1))) (cb pc 39 (cb pc 38 (ce pc 37 (.iconst 1) 1) (ce pc 38 .isub 1)) (cb pc 40 (ce pc 39 .iaload 1) (ce pc 40 (.iload_n 3) 1)))))) (cb pc 71 (cb pc 55 (cb pc 47 (cb pc 44 (ce pc 41 (.invokevirtual 202) 3) (cb pc 46 (ce pc 44 (.istore 7) 2) (ce pc 46 (.iconst 0) 1))) (cb pc 51 (cb pc 49 (ce pc 47 (.istore 8) 2) (ce pc 49 (.iload 8) 2)) (cb pc 52 (ce pc 51 (.aload_n 0) 1) (ce pc 52 (.getfield 91) 3)))) (cb pc 61 (cb pc 58 (ce pc 55 (.if_icmp .ge 42) 3) (cb pc 59 (ce pc 58 (.aload_n 0) 1) (ce pc 59 (.iload 4) 2))) (cb pc 66 (cb pc 63 (ce pc 61 (.iload 8) 2) (ce pc 63 (.invokevirtual 202) 3)) (cb pc 69 (ce pc 66 (.ifCond .eq 25) 3) (ce pc 69 (.iload 5) 2))))) (cb pc 82 (cb pc 76 (cb pc 72 (ce pc 71 (.aload_n 0) 1) (cb pc 75 (ce pc 72 (.getfield 60) 3) (ce pc 75 (.iload_n 1) 1))) (cb pc 79 (cb pc 78 (ce pc 76 (.bipush 10) 2) (ce pc 78 .imul 1)) (cb pc 81 (ce pc 79 (.iload 8) 2) (ce pc 81 .iadd 1)))) (cb pc 86 (cb pc 84 (cb pc 83 (ce pc 82 .iaload 1) (ce pc 83 (.iconst (-1)) 1)) (cb pc 85 (ce pc 84 .ixor 1) (ce pc 85 .iand 1))) (cb pc 90 (cb pc 89 (ce pc 86 (.ifCond .eq 5) 3) (ce pc 89 (.iconst 0) 1)) (cb pc 91 (ce pc 90 .ireturn 1) (ce pc 91 (.iinc 8 1) 3))))))) (cb pc 140 (cb pc 117 (cb pc 109 (cb pc 102 (cb pc 97 (ce pc 94 (.goto (-45)) 3) (cb pc 99 (ce pc 97 (.iload 6) 2) (ce pc 99 (.ifCond .eq 24) 3))) (cb pc 105 (cb pc 104 (ce pc 102 (.iload 5) 2) (ce pc 104 (.aload_n 0) 1)) (cb pc 108 (ce pc 105 (.getfield 63) 3) (ce pc 108 (.iload_n 1) 1)))) (cb pc 113 (cb pc 111 (ce pc 109 (.bipush 10) 2) (cb pc 112 (ce pc 111 .imul 1) (ce pc 112 (.iload_n 2) 1))) (cb pc 115 (cb pc 114 (ce pc 113 .iadd 1) (ce pc 114 .iaload 1)) (cb pc 116 (ce pc 115 (.iconst (-1)) 1) (ce pc 116 .ixor 1))))) (cb pc 130 (cb pc 122 (cb pc 118 (ce pc 117 .iand 1) (cb pc 121 (ce pc 118 (.ifCond .eq 5) 3) (ce pc 121 (.iconst 0) 1))) (cb pc 125 (cb pc 123 (ce pc 122 .ireturn 1) (ce pc 123 (.iload 7) 2)) (cb pc 128 (ce pc 125 (.ifCond .eq 24) 3) (ce pc 128 (.iload 4) 2)))) (cb pc 135 (cb pc 131 (ce pc 130 (.aload_n 0) 1) (cb pc 134 (ce pc 131 (.getfield 63) 3) (ce pc 134 (.iload_n 1) 1))) (cb pc 138 (cb pc 137 (ce pc 135 (.bipush 10) 2) (ce pc 137 .imul 1)) (cb pc 139 (ce pc 138 (.iload_n 3) 1) (ce pc 139 .iadd 1)))))) (cb pc 164 (cb pc 149 (cb pc 143 (cb pc 141 (ce pc 140 .iaload 1) (cb pc 142 (ce pc 141 (.iconst (-1)) 1) (ce pc 142 .ixor 1))) (cb pc 147 (cb pc 144 (ce pc 143 .iand 1) (ce pc 144 (.ifCond .eq 5) 3)) (cb pc 148 (ce pc 147 (.iconst 0) 1) (ce pc 148 .ireturn 1)))) (cb pc 156 (cb pc 151 (ce pc 149 (.iload 6) 2) (cb pc 154 (ce pc 151 (.ifCond .eq 31) 3) (ce pc 154 (.iload 7) 2))) (cb pc 160 (cb pc 159 (ce pc 156 (.ifCond .eq 26) 3) (ce pc 159 (.aload_n 0) 1)) (cb pc 161 (ce pc 160 (.aload_n 0) 1) (ce pc 161 (.getfield 57) 3))))) (cb pc 172 (cb pc 167 (cb pc 165 (ce pc 164 (.iload_n 1) 1) (cb pc 166 (ce pc 165 (.iconst 1) 1) (ce pc 166 .isub 1))) (cb pc 170 (cb pc 169 (ce pc 167 (.bipush 10) 2) (ce pc 169 .imul 1)) (cb pc 171 (ce pc 170 (.iload_n 2) 1) (ce pc 171 .iadd 1)))) (cb pc 180 (cb pc 174 (cb pc 173 (ce pc 172 .iaload 1) (ce pc 173 (.iload_n 3) 1)) (cb pc 177 (ce pc 174 (.invokevirtual 202) 3) (ce pc 177 (.ifCond .ne 5) 3))) (cb pc 182 (cb pc 181 (ce pc 180 (.iconst 0) 1) (ce pc 181 .ireturn 1)) (cb pc 183 (ce pc 182 (.iconst 1) 1) (ce pc 183 .ireturn 1)))))))) none
def cd_37:Nat→Option (Instr×Nat):=fun pc=>cond (Nat.blt pc 59) (cb pc 30 (cb pc 14 (cb pc 5 (cb pc 2 (cb pc 1 (ce pc 0 (.iconst 0) 1) (ce pc 1 (.istore_n 3) 1)) (cb pc 3 (ce pc 2 (.iconst 0) 1) (ce pc 3 (.istore 4) 2))) (cb pc 8 (cb pc 7 (ce pc 5 (.iload 4) 2) (ce pc 7 (.aload_n 0) 1)) (cb pc 11 (ce pc 8 (.getfield 91) 3) (ce pc 11 (.if_icmp .ge 46) 3)))) (cb pc 20 (cb pc 16 (cb pc 15 (ce pc 14 (.aload_n 0) 1) (ce pc 15 (.aload_n 0) 1)) (cb pc 19 (ce pc 16 (.getfield 54) 3) (ce pc 19 (.iload_n 1) 1))) (cb pc 23 (cb pc 21 (ce pc 20 .iaload 1) (ce pc 21 (.iload 4) 2)) (cb pc 26 (ce pc 23 (.invokevirtual 202) 3) (cb pc 29 (ce pc 26 (.ifCond .eq 25) 3) (ce pc 29 (.aload_n 0) 1)))))) (cb pc 45 (cb pc 37 (cb pc 34 (cb pc 31 (ce pc 30 (.aload_n 0) 1) (ce pc 31 (.getfield 26) 3)) (cb pc 36 (ce pc 34 (.iload 4) 2) (ce pc 36 .iaload 1))) (cb pc 41 (cb pc 38 (ce pc 37 (.iload_n 2) 1) (ce pc 38 (.invokevirtual 202) 3)) (cb pc 44 (ce pc 41 (.ifCond .eq 10) 3) (ce pc 44 (.iload_n 3) 1)))) (cb pc 50 (cb pc 48 (cb pc 46 (ce pc 45 (.iconst 1) 1) (ce pc 46 (.iload 4) 2)) (cb pc 49 (ce pc 48 .ishl 1) (ce pc 49 .ior 1))) (cb pc 54 (cb pc 51 (ce pc 50 (.istore_n 3) 1) (ce pc 51 (.iinc 4 1) 3)) (cb pc 57 (ce pc 54 (.goto (-49)) 3) (cb pc 58 (ce pc 57 (.iload_n 3) 1) (ce pc 58 .ireturn 1))))))) none
def cd_38:Nat→Option (Instr×Nat):=fun pc=>cond (Nat.blt pc 71) (cb pc 33 (cb pc 17 (cb pc 9 (cb pc 4 (cb pc 1 (ce pc 0 (.aload_n 0) 1) (ce pc 1 (.getfield 47) 3)) (cb pc 5 (ce pc 4 (.iload_n 2) 1) (cb pc 6 (ce pc 5 .baload 1) (ce pc 6 (.ifCond .ne 5) 3)))) (cb pc 12 (cb pc 10 (ce pc 9 (.iconst 0) 1) (cb pc 11 (ce pc 10 .ireturn 1) (ce pc 11 (.iload_n 2) 1))) (cb pc 13 (ce pc 12 (.aload_n 0) 1) (cb pc 16 (ce pc 13 (.getfield 54) 3) (ce pc 16 (.iload_n 1) 1))))) (cb pc 25 (cb pc 20 (cb pc 18 (ce pc 17 .iaload 1) (cb pc 19 (ce pc 18 (.iconst (-1)) 1) (ce pc 19 .ixor 1))) (cb pc 21 (ce pc 20 .iand 1) (cb pc 24 (ce pc 21 (.ifCond .eq 5) 3) (ce pc 24 (.iconst 0) 1)))) (cb pc 28 (cb pc 26 (ce pc 25 .ireturn 1) (cb pc 27 (ce pc 26 (.iconst 0) 1) (ce pc 27 (.istore_n 3) 1))) (cb pc 29 (ce pc 28 (.iload_n 3) 1) (cb pc 30 (ce pc 29 (.aload_n 0) 1) (ce pc 30 (.getfield 91) 3)))))) (cb pc 53 (cb pc 42 (cb pc 37 (cb pc 36 (ce pc 33 (.if_icmp .ge 36) 3) (ce pc 36 (.aload_n 0) 1)) (cb pc 38 (ce pc 37 (.iload_n 2) 1) (cb pc 39 (ce pc 38 (.iload_n 3) 1) (ce pc 39 (.invokevirtual 202) 3)))) (cb pc 49 (cb pc 45 (ce pc 42 (.ifCond .eq 21) 3) (cb pc 46 (ce pc 45 (.aload_n 0) 1) (ce pc 46 (.getfield 60) 3))) (cb pc 50 (ce pc 49 (.iload_n 1) 1) (cb pc 52 (ce pc 50 (.bipush 10) 2) (ce pc 52 .imul 1))))) (cb pc 61 (cb pc 56 (cb pc 54 (ce pc 53 (.iload_n 3) 1) (cb pc 55 (ce pc 54 .iadd 1) (ce pc 55 .iaload 1))) (cb pc 57 (ce pc 56 (.iload_n 2) 1) (cb pc 58 (ce pc 57 .iand 1) (ce pc 58 (.ifCond .eq 5) 3)))) (cb pc 66 (cb pc 62 (ce pc 61 (.iconst 0) 1) (cb pc 63 (ce pc 62 .ireturn 1) (ce pc 63 (.iinc 3 1) 3))) (cb pc 69 (ce pc 66 (.goto (-38)) 3) (cb pc 70 (ce pc 69 (.iconst 1) 1) (ce pc 70 .ireturn 1))))))) none
def cd_39:Nat→Option (Instr×Nat):=fun pc=>cond (Nat.blt pc 116) (cb pc 55 (cb pc 29 (cb pc 12 (cb pc 8 (cb pc 2 (cb pc 1 (ce pc 0 (.aload_n 0) 1) (ce pc 1 (.iload_n 1) 1)) (cb pc 5 (ce pc 2 (.invokevirtual 115) 3) (ce pc 5 (.ifCond .ne 5) 3))) (cb pc 10 (cb pc 9 (ce pc 8 (.iconst 0) 1) (ce pc 9 .ireturn 1)) (cb pc 11 (ce pc 10 (.aload_n 0) 1) (ce pc 11 (.iload_n 2) 1)))) (cb pc 20 (cb pc 18 (cb pc 15 (ce pc 12 (.invokevirtual 119) 3) (ce pc 15 (.ifCond .ne 5) 3)) (cb pc 19 (ce pc 18 (.iconst 0) 1) (ce pc 19 .ireturn 1))) (cb pc 22 (cb pc 21 (ce pc 20 (.aload_n 0) 1) (ce pc 21 (.iload_n 3) 1)) (cb pc 25 (ce pc 22 (.invokevirtual 122) 3) (cb pc 28 (ce pc 25 (.ifCond .ne 5) 3) (ce pc 28 (.iconst 0) 1)))))) (cb pc 40 (cb pc 33 (cb pc 31 (cb pc 30 (ce pc 29 .ireturn 1) (ce pc 30 (.iconst 1) 1)) (cb pc 32 (ce pc 31 (.iload_n 3) 1) (ce pc 32 .ishl 1))) (cb pc 36 (cb pc 35 (ce pc 33 (.istore 5) 2) (ce pc 35 (.iload_n 2) 1)) (cb pc 39 (ce pc 36 (.ifCond .ne 26) 3) (ce pc 39 (.aload_n 0) 1)))) (cb pc 46 (cb pc 44 (cb pc 43 (ce pc 40 (.getfield 23) 3) (ce pc 43 (.iload_n 1) 1)) (cb pc 45 (ce pc 44 (.aload_n 0) 1) (ce pc 45 (.aload_n 0) 1))) (cb pc 50 (cb pc 49 (ce pc 46 (.getfield 23) 3) (ce pc 49 (.iload_n 1) 1)) (cb pc 51 (ce pc 50 .iaload 1) (cb pc 53 (ce pc 51 (.iload 5) 2) (ce pc 53 (.iload 4) 2))))))) (cb pc 86 (cb pc 71 (cb pc 63 (cb pc 59 (cb pc 58 (ce pc 55 (.invokevirtual 125) 3) (ce pc 58 .iastore 1)) (cb pc 62 (ce pc 59 (.goto 51) 3) (ce pc 62 (.iload_n 2) 1))) (cb pc 67 (cb pc 64 (ce pc 63 (.iconst 1) 1) (ce pc 64 (.if_icmp .ne 26) 3)) (cb pc 68 (ce pc 67 (.aload_n 0) 1) (ce pc 68 (.getfield 26) 3)))) (cb pc 77 (cb pc 73 (cb pc 72 (ce pc 71 (.iload_n 1) 1) (ce pc 72 (.aload_n 0) 1)) (cb pc 74 (ce pc 73 (.aload_n 0) 1) (ce pc 74 (.getfield 26) 3))) (cb pc 79 (cb pc 78 (ce pc 77 (.iload_n 1) 1) (ce pc 78 .iaload 1)) (cb pc 81 (ce pc 79 (.iload 5) 2) (cb pc 83 (ce pc 81 (.iload 4) 2) (ce pc 83 (.invokevirtual 125) 3)))))) (cb pc 101 (cb pc 94 (cb pc 90 (cb pc 87 (ce pc 86 .iastore 1) (ce pc 87 (.goto 23) 3)) (cb pc 91 (ce pc 90 (.aload_n 0) 1) (ce pc 91 (.getfield 29) 3))) (cb pc 96 (cb pc 95 (ce pc 94 (.iload_n 1) 1) (ce pc 95 (.aload_n 0) 1)) (cb pc 97 (ce pc 96 (.aload_n 0) 1) (cb pc 100 (ce pc 97 (.getfield 29) 3) (ce pc 100 (.iload_n 1) 1))))) (cb pc 109 (cb pc 104 (cb pc 102 (ce pc 101 .iaload 1) (ce pc 102 (.iload 5) 2)) (cb pc 106 (ce pc 104 (.iload 4) 2) (ce pc 106 (.invokevirtual 125) 3))) (cb pc 111 (cb pc 110 (ce pc 109 .iastore 1) (ce pc 110 (.aload_n 0) 1)) (cb pc 114 (ce pc 111 (.invokevirtual 129) 3) (cb pc 115 (ce pc 114 (.iconst 1) 1) (ce pc 115 .ireturn 1)))))))) none
def cd_40:Nat→Option (Instr×Nat):=fun pc=>cond (Nat.blt pc 32) (cb pc 16 (cb pc 9 (cb pc 2 (cb pc 1 (ce pc 0 (.aload_n 0) 1) (ce pc 1 (.iload_n 1) 1)) (cb pc 5 (ce pc 2 (.invokevirtual 122) 3) (cb pc 8 (ce pc 5 (.ifCond .ne 5) 3) (ce pc 8 (.iconst 0) 1)))) (cb pc 11 (cb pc 10 (ce pc 9 .ireturn 1) (ce pc 10 (.aload_n 0) 1)) (cb pc 12 (ce pc 11 (.aload_n 0) 1) (cb pc 13 (ce pc 12 (.aload_n 0) 1) (ce pc 13 (.getfield 100) 3))))) (cb pc 23 (cb pc 18 (cb pc 17 (ce pc 16 (.iconst 1) 1) (ce pc 17 (.iload_n 1) 1)) (cb pc 19 (ce pc 18 .ishl 1) (cb pc 20 (ce pc 19 (.iload_n 2) 1) (ce pc 20 (.invokevirtual 125) 3)))) (cb pc 27 (cb pc 26 (ce pc 23 (.putfield 100) 3) (ce pc 26 (.aload_n 0) 1)) (cb pc 30 (ce pc 27 (.invokevirtual 129) 3) (cb pc 31 (ce pc 30 (.iconst 1) 1) (ce pc 31 .ireturn 1)))))) none
def cd_41:Nat→Option (Instr×Nat):=fun pc=>cond (Nat.blt pc 40) (cb pc 19 (cb pc 10 (cb pc 5 (cb pc 1 (ce pc 0 (.iload_n 1) 1) (cb pc 2 (ce pc 1 (.aload_n 0) 1) (ce pc 2 (.getfield 112) 3))) (cb pc 8 (ce pc 5 (.if_icmp .le 5) 3) (cb pc 9 (ce pc 8 (.iconst 0) 1) (ce pc 9 .ireturn 1)))) (cb pc 15 (cb pc 11 (ce pc 10 (.iload_n 2) 1) (cb pc 12 (ce pc 11 (.aload_n 0) 1) (ce pc 12 (.getfield 51) 3))) (cb pc 17 (cb pc 16 (ce pc 15 (.iload_n 1) 1) (ce pc 16 .iaload 1)) (cb pc 18 (ce pc 17 (.iconst (-1)) 1) (ce pc 18 .ixor 1))))) (cb pc 27 (cb pc 24 (cb pc 20 (ce pc 19 .iand 1) (cb pc 23 (ce pc 20 (.ifCond .eq 5) 3) (ce pc 23 (.iconst 0) 1))) (cb pc 25 (ce pc 24 .ireturn 1) (cb pc 26 (ce pc 25 (.aload_n 0) 1) (ce pc 26 (.iload_n 1) 1)))) (cb pc 34 (cb pc 28 (ce pc 27 (.iload_n 2) 1) (cb pc 31 (ce pc 28 (.invokevirtual 199) 3) (ce pc 31 (.ifCond .ne 7) 3))) (cb pc 38 (cb pc 35 (ce pc 34 (.iconst 1) 1) (ce pc 35 (.goto 4) 3)) (cb pc 39 (ce pc 38 (.iconst 0) 1) (ce pc 39 .ireturn 1)))))) none
def cd_42:Nat→Option (Instr×Nat):=fun pc=>cond (Nat.blt pc 56) (cb pc 28 (cb pc 12 (cb pc 8 (cb pc 4 (cb pc 1 (ce pc 0 (.aload_n 0) 1) (ce pc 1 (.getfield 106) 3)) (cb pc 7 (ce pc 4 (.ifCond .ge 5) 3) (ce pc 7 (.iconst (-1)) 1))) (cb pc 10 (cb pc 9 (ce pc 8 .ireturn 1) (ce pc 9 (.aload_n 0) 1)) (cb pc 11 (ce pc 10 (.iload_n 1) 1) (ce pc 11 (.iconst 0) 1)))) (cb pc 20 (cb pc 16 (cb pc 13 (ce pc 12 (.aload_n 0) 1) (ce pc 13 (.getfield 106) 3)) (cb pc 19 (ce pc 16 (.invokevirtual 84) 3) (ce pc 19 (.istore_n 2) 1))) (cb pc 22 (cb pc 21 (ce pc 20 (.aload_n 0) 1) (ce pc 21 (.aload_n 0) 1)) (cb pc 25 (ce pc 22 (.getfield 97) 3) (ce pc 25 (.putfield 103) 3))))) (cb pc 40 (cb pc 33 (cb pc 30 (cb pc 29 (ce pc 28 (.iconst 0) 1) (ce pc 29 (.istore_n 3) 1)) (cb pc 31 (ce pc 30 (.iconst 1) 1) (ce pc 31 (.istore 4) 2))) (cb pc 36 (cb pc 35 (ce pc 33 (.iload 4) 2) (ce pc 35 (.iload_n 2) 1)) (cb pc 39 (ce pc 36 (.if_icmp .gt 18) 3) (ce pc 39 (.iload_n 3) 1)))) (cb pc 47 (cb pc 43 (cb pc 41 (ce pc 40 (.aload_n 0) 1) (ce pc 41 (.iload 4) 2)) (cb pc 46 (ce pc 43 (.invokevirtual 152) 3) (ce pc 46 .iadd 1))) (cb pc 51 (cb pc 48 (ce pc 47 (.istore_n 3) 1) (ce pc 48 (.iinc 4 1) 3)) (cb pc 54 (ce pc 51 (.goto (-18)) 3) (cb pc 55 (ce pc 54 (.iload_n 3) 1) (ce pc 55 .ireturn 1))))))) none
def cd_43:Nat→Option (Instr×Nat):=fun pc=>cond (Nat.blt pc 54) (cb pc 28 (cb pc 15 (cb pc 8 (cb pc 2 (cb pc 1 (ce pc 0 (.aload_n 0) 1) (ce pc 1 (.iload_n 1) 1)) (cb pc 5 (ce pc 2 (.invokevirtual 115) 3) (ce pc 5 (.ifCond .ne 5) 3))) (cb pc 10 (cb pc 9 (ce pc 8 (.iconst 0) 1) (ce pc 9 .ireturn 1)) (cb pc 11 (ce pc 10 (.aload_n 0) 1) (cb pc 14 (ce pc 11 (.getfield 23) 3) (ce pc 14 (.iload_n 1) 1))))) (cb pc 21 (cb pc 17 (cb pc 16 (ce pc 15 .iaload 1) (ce pc 16 (.aload_n 0) 1)) (cb pc 20 (ce pc 17 (.getfield 103) 3) (ce pc 20 (.iconst (-1)) 1))) (cb pc 23 (cb pc 22 (ce pc 21 .ixor 1) (ce pc 22 .iand 1)) (cb pc 26 (ce pc 23 (.ifCond .eq 5) 3) (cb pc 27 (ce pc 26 (.iconst 0) 1) (ce pc 27 .ireturn 1)))))) (cb pc 41 (cb pc 34 (cb pc 30 (cb pc 29 (ce pc 28 (.aload_n 0) 1) (ce pc 29 (.aload_n 0) 1)) (cb pc 33 (ce pc 30 (.getfield 103) 3) (ce pc 33 (.aload_n 0) 1))) (cb pc 38 (cb pc 37 (ce pc 34 (.getfield 29) 3) (ce pc 37 (.iload_n 1) 1)) (cb pc 39 (ce pc 38 .iaload 1) (cb pc 40 (ce pc 39 (.iconst (-1)) 1) (ce pc 40 .ixor 1))))) (cb pc 47 (cb pc 43 (cb pc 42 (ce pc 41 .iand 1) (ce pc 42 (.aload_n 0) 1)) (cb pc 46 (ce pc 43 (.getfield 26) 3) (ce pc 46 (.iload_n 1) 1))) (cb pc 49 (cb pc 48 (ce pc 47 .iaload 1) (ce pc 48 .ior 1)) (cb pc 52 (ce pc 49 (.putfield 103) 3) (cb pc 53 (ce pc 52 (.iconst 1) 1) (ce pc 53 .ireturn 1))))))) none
def cd_44:Nat→Option (Instr×Nat):=fun pc=>cond (Nat.blt pc 9) (cb pc 2 (cb pc 1 (ce pc 0 (.aload_n 0) 1) (ce pc 1 (.aload_n 0) 1)) (cb pc 5 (ce pc 2 (.getfield 97) 3) (cb pc 8 (ce pc 5 (.putfield 103) 3) (ce pc 8 .return_ 1)))) none
def cd_45:Nat→Option (Instr×Nat):=fun pc=>cond (Nat.blt pc 60) (cb pc 32 (cb pc 17 (cb pc 8 (cb pc 4 (cb pc 1 (ce pc 0 (.aload_n 0) 1) (ce pc 1 (.getfield 109) 3)) (cb pc 7 (ce pc 4 (.ifCond .lt 12) 3) (ce pc 7 (.aload_n 0) 1))) (cb pc 13 (cb pc 11 (ce pc 8 (.getfield 109) 3) (ce pc 11 (.bipush 10) 2)) (cb pc 16 (ce pc 13 (.if_icmp .lt 5) 3) (ce pc 16 (.iconst 0) 1)))) (cb pc 23 (cb pc 19 (cb pc 18 (ce pc 17 .ireturn 1) (ce pc 18 (.aload_n 0) 1)) (cb pc 22 (ce pc 19 (.getfield 75) 3) (ce pc 22 (.aload_n 0) 1))) (cb pc 27 (cb pc 26 (ce pc 23 (.getfield 109) 3) (ce pc 26 (.iload_n 1) 1)) (cb pc 28 (ce pc 27 .iastore 1) (cb pc 29 (ce pc 28 (.aload_n 0) 1) (ce pc 29 (.getfield 78) 3)))))) (cb pc 47 (cb pc 38 (cb pc 36 (cb pc 33 (ce pc 32 (.aload_n 0) 1) (ce pc 33 (.getfield 109) 3)) (cb pc 37 (ce pc 36 (.iload_n 2) 1) (ce pc 37 .iastore 1))) (cb pc 42 (cb pc 39 (ce pc 38 (.aload_n 0) 1) (ce pc 39 (.getfield 81) 3)) (cb pc 43 (ce pc 42 (.aload_n 0) 1) (cb pc 46 (ce pc 43 (.getfield 109) 3) (ce pc 46 (.iconst 0) 1))))) (cb pc 53 (cb pc 49 (cb pc 48 (ce pc 47 .iastore 1) (ce pc 48 (.aload_n 0) 1)) (cb pc 50 (ce pc 49 .dup 1) (ce pc 50 (.getfield 109) 3))) (cb pc 55 (cb pc 54 (ce pc 53 (.iconst 1) 1) (ce pc 54 .iadd 1)) (cb pc 58 (ce pc 55 (.putfield 109) 3) (cb pc 59 (ce pc 58 (.iconst 1) 1) (ce pc 59 .ireturn 1))))))) none
def cd_46:Nat→Option (Instr×Nat):=fun pc=>cond (Nat.blt pc 187) (cb pc 97 (cb pc 44 (cb pc 23 (cb pc 11 (cb pc 5 (cb pc 1 (ce pc 0 (.aload_n 0) 1) (cb pc 4 (ce pc 1 (.getfield 109) 3) (ce pc 4 (.iconst 1) 1))) (cb pc 7 (cb pc 6 (ce pc 5 .isub 1) (ce pc 6 (.istore_n 2) 1)) (cb pc 8 (ce pc 7 (.iload_n 2) 1) (ce pc 8 (.ifCond .lt 9) 3)))) (cb pc 17 (cb pc 12 (ce pc 11 (.iload_n 2) 1) (cb pc 14 (ce pc 12 (.bipush 10) 2) (ce pc 14 (.if_icmp .lt 9) 3))) (cb pc 19 (cb pc 18 (ce pc 17 (.aload_n 0) 1) (ce pc 18 (.iconst 0) 1)) (cb pc 22 (ce pc 19 (.putfield 109) 3) (ce pc 22 .return_ 1))))) (cb pc 34 (cb pc 28 (cb pc 24 (ce pc 23 (.aload_n 0) 1) (cb pc 27 (ce pc 24 (.getfield 75) 3) (ce pc 27 (.iload_n 2) 1))) (cb pc 30 (cb pc 29 (ce pc 28 .iaload 1) (ce pc 29 (.istore_n 3) 1)) (cb pc 31 (ce pc 30 (.aload_n 0) 1) (ce pc 31 (.getfield 78) 3)))) (cb pc 38 (cb pc 35 (ce pc 34 (.iload_n 2) 1) (cb pc 36 (ce pc 35 .iaload 1) (ce pc 36 (.istore 4) 2))) (cb pc 42 (cb pc 39 (ce pc 38 (.aload_n 0) 1) (ce pc 39 (.getfield 81) 3)) (cb pc 43 (ce pc 42 (.iload_n 2) 1) (ce pc 43 .iaload 1)))))) (cb pc 67 (cb pc 56 (cb pc 49 (cb pc 46 (ce pc 44 (.istore 5) 2) (cb pc 48 (ce pc 46 (.iload 5) 2) (ce pc 48 (.iload_n 1) 1))) (cb pc 53 (cb pc 52 (ce pc 49 (.if_icmp .lt 18) 3) (ce pc 52 (.aload_n 0) 1)) (cb pc 54 (ce pc 53 (.iload_n 3) 1) (ce pc 54 (.iload 4) 2)))) (cb pc 61 (cb pc 57 (ce pc 56 (.iconst 2) 1) (cb pc 58 (ce pc 57 (.iconst 0) 1) (ce pc 58 (.invokevirtual 237) 3))) (cb pc 63 (cb pc 62 (ce pc 61 (.aload_n 0) 1) (ce pc 62 (.iload_n 2) 1)) (cb pc 66 (ce pc 63 (.putfield 109) 3) (ce pc 66 .return_ 1))))) (cb pc 79 (cb pc 72 (cb pc 68 (ce pc 67 (.aload_n 0) 1) (cb pc 71 (ce pc 68 (.getfield 66) 3) (ce pc 71 (.aload_n 0) 1))) (cb pc 75 (cb pc 73 (ce pc 72 (.iload_n 3) 1) (ce pc 73 (.iload 5) 2)) (cb pc 78 (ce pc 75 (.invokevirtual 221) 3) (ce pc 78 .baload 1)))) (cb pc 87 (cb pc 83 (cb pc 82 (ce pc 79 (.ifCond .eq 14) 3) (ce pc 82 (.aload_n 0) 1)) (cb pc 85 (ce pc 83 (.iload 4) 2) (ce pc 85 (.iload 5) 2))) (cb pc 93 (cb pc 90 (ce pc 87 (.invokevirtual 241) 3) (ce pc 90 (.ifCond .ne 14) 3)) (cb pc 94 (ce pc 93 (.aload_n 0) 1) (ce pc 94 (.getfield 81) 3))))))) (cb pc 142 (cb pc 117 (cb pc 105 (cb pc 101 (cb pc 98 (ce pc 97 (.iload_n 2) 1) (cb pc 100 (ce pc 98 (.iload 5) 2) (ce pc 100 (.iconst 1) 1))) (cb pc 103 (cb pc 102 (ce pc 101 .iadd 1) (ce pc 102 .iastore 1)) (cb pc 104 (ce pc 103 .return_ 1) (ce pc 104 (.aload_n 0) 1)))) (cb pc 112 (cb pc 107 (ce pc 105 (.iload 4) 2) (cb pc 109 (ce pc 107 (.iload 5) 2) (ce pc 109 (.invokevirtual 244) 3))) (cb pc 115 (cb pc 114 (ce pc 112 (.istore 6) 2) (ce pc 114 (.aload_n 0) 1)) (cb pc 116 (ce pc 115 (.iload_n 3) 1) (ce pc 116 (.iconst 1) 1))))) (cb pc 131 (cb pc 123 (cb pc 118 (ce pc 117 .isub 1) (cb pc 120 (ce pc 118 (.iload 6) 2) (ce pc 120 (.invokevirtual 227) 3))) (cb pc 127 (cb pc 125 (ce pc 123 (.istore 7) 2) (ce pc 125 (.iload 7) 2)) (cb pc 128 (ce pc 127 (.iconst 1) 1) (ce pc 128 (.if_icmp .ne 19) 3)))) (cb pc 135 (cb pc 132 (ce pc 131 (.aload_n 0) 1) (cb pc 133 (ce pc 132 (.iload_n 3) 1) (ce pc 133 (.iload 4) 2))) (cb pc 138 (cb pc 136 (ce pc 135 (.iconst 1) 1) (ce pc 136 (.iload 5) 2)) (cb pc 141 (ce pc 138 (.invokevirtual 237) 3) (ce pc 141 (.aload_n 0) 1)))))) (cb pc 164 (cb pc 154 (cb pc 147 (cb pc 143 (ce pc 142 (.iload_n 2) 1) (cb pc 146 (ce pc 143 (.putfield 109) 3) (ce pc 146 .return_ 1))) (cb pc 150 (cb pc 149 (ce pc 147 (.iload 7) 2) (ce pc 149 (.iconst 2) 1)) (cb pc 153 (ce pc 150 (.if_icmp .ne 14) 3) (ce pc 153 (.aload_n 0) 1)))) (cb pc 160 (cb pc 157 (ce pc 154 (.getfield 81) 3) (cb pc 158 (ce pc 157 (.iload_n 2) 1) (ce pc 158 (.iload 5) 2))) (cb pc 162 (cb pc 161 (ce pc 160 (.iconst 1) 1) (ce pc 161 .iadd 1)) (cb pc 163 (ce pc 162 .iastore 1) (ce pc 163 .return_ 1))))) (cb pc 176 (cb pc 167 (cb pc 165 (ce pc 164 (.aload_n 0) 1) (cb pc 166 (ce pc 165 (.iload_n 3) 1) (ce pc 166 (.iconst 1) 1))) (cb pc 170 (cb pc 168 (ce pc 167 .isub 1) (ce pc 168 (.iload 6) 2)) (cb pc 173 (ce pc 170 (.invokevirtual 230) 3) (ce pc 173 (.ifCond .ne 13) 3)))) (cb pc 183 (cb pc 180 (cb pc 177 (ce pc 176 (.aload_n 0) 1) (ce pc 177 (.getfield 81) 3)) (cb pc 181 (ce pc 180 (.iload_n 2) 1) (ce pc 181 (.iload 5) 2))) (cb pc 185 (cb pc 184 (ce pc 183 (.iconst 1) 1) (ce pc 184 .iadd 1)) (cb pc 186 (ce pc 185 .iastore 1) (ce pc 186 .return_ 1)))))))) none
def cd_47:Nat→Option (Instr×Nat):=fun pc=>cond (Nat.blt pc 26) (cb pc 11 (cb pc 6 (cb pc 2 (cb pc 1 (ce pc 0 (.iload_n 1) 1) (ce pc 1 (.aload_n 0) 1)) (cb pc 5 (ce pc 2 (.getfield 41) 3) (ce pc 5 (.iload_n 2) 1))) (cb pc 8 (cb pc 7 (ce pc 6 .iaload 1) (ce pc 7 (.iconst (-1)) 1)) (cb pc 9 (ce pc 8 .ixor 1) (cb pc 10 (ce pc 9 .iand 1) (ce pc 10 (.aload_n 0) 1))))) (cb pc 17 (cb pc 15 (cb pc 14 (ce pc 11 (.getfield 44) 3) (ce pc 14 (.iload_n 2) 1)) (cb pc 16 (ce pc 15 .iaload 1) (ce pc 16 .iand 1))) (cb pc 21 (cb pc 20 (ce pc 17 (.ifCond .ne 7) 3) (ce pc 20 (.iconst 1) 1)) (cb pc 24 (ce pc 21 (.goto 4) 3) (cb pc 25 (ce pc 24 (.iconst 0) 1) (ce pc 25 .ireturn 1)))))) none
def cd_48:Nat→Option (Instr×Nat):=fun pc=>cond (Nat.blt pc 18) (cb pc 11 (cb pc 5 (cb pc 1 (ce pc 0 (.aload_n 0) 1) (cb pc 4 (ce pc 1 (.getfield 38) 3) (ce pc 4 (.iload_n 2) 1))) (cb pc 7 (cb pc 6 (ce pc 5 .iaload 1) (ce pc 6 (.iload_n 1) 1)) (cb pc 8 (ce pc 7 (.aload_n 0) 1) (ce pc 8 (.getfield 41) 3)))) (cb pc 14 (cb pc 12 (ce pc 11 (.iload_n 2) 1) (cb pc 13 (ce pc 12 .iaload 1) (ce pc 13 (.iconst (-1)) 1))) (cb pc 16 (cb pc 15 (ce pc 14 .ixor 1) (ce pc 15 .iand 1)) (cb pc 17 (ce pc 16 .ior 1) (ce pc 17 .ireturn 1))))) none
def cd_49:Nat→Option (Instr×Nat):=fun pc=>cond (Nat.blt pc 26) (cb pc 14 (cb pc 6 (cb pc 2 (cb pc 1 (ce pc 0 (.aload_n 0) 1) (ce pc 1 (.iload_n 1) 1)) (cb pc 3 (ce pc 2 (.iload_n 2) 1) (ce pc 3 (.invokevirtual 221) 3))) (cb pc 9 (cb pc 8 (ce pc 6 (.istore 5) 2) (ce pc 8 (.aload_n 0) 1)) (cb pc 12 (ce pc 9 (.getfield 69) 3) (ce pc 12 (.iload 5) 2)))) (cb pc 20 (cb pc 16 (cb pc 15 (ce pc 14 (.iload_n 3) 1) (ce pc 15 .iastore 1)) (cb pc 17 (ce pc 16 (.aload_n 0) 1) (ce pc 17 (.getfield 72) 3))) (cb pc 24 (cb pc 22 (ce pc 20 (.iload 5) 2) (ce pc 22 (.iload 4) 2)) (cb pc 25 (ce pc 24 .iastore 1) (ce pc 25 .return_ 1))))) none
def cd_50:Nat→Option (Instr×Nat):=fun pc=>cond (Nat.blt pc 63) (cb pc 27 (cb pc 14 (cb pc 6 (cb pc 2 (cb pc 1 (ce pc 0 (.iload_n 1) 1) (ce pc 1 (.iconst 1) 1)) (cb pc 5 (ce pc 2 (.if_icmp .lt 9) 3) (ce pc 5 (.iload_n 1) 1))) (cb pc 11 (cb pc 8 (ce pc 6 (.bipush 8) 2) (ce pc 8 (.if_icmp .le 5) 3)) (cb pc 12 (ce pc 11 (.iconst 0) 1) (cb pc 13 (ce pc 12 .ireturn 1) (ce pc 13 (.aload_n 0) 1))))) (cb pc 20 (cb pc 18 (cb pc 17 (ce pc 14 (.getfield 19) 3) (ce pc 17 (.iload_n 1) 1)) (cb pc 19 (ce pc 18 .iaload 1) (ce pc 19 (.istore_n 2) 1))) (cb pc 22 (cb pc 21 (ce pc 20 (.iconst 0) 1) (ce pc 21 (.istore_n 3) 1)) (cb pc 23 (ce pc 22 (.iconst 0) 1) (cb pc 25 (ce pc 23 (.istore 4) 2) (ce pc 25 (.iload 4) 2)))))) (cb pc 43 (cb pc 35 (cb pc 31 (cb pc 28 (ce pc 27 (.aload_n 0) 1) (ce pc 28 (.getfield 91) 3)) (cb pc 34 (ce pc 31 (.if_icmp .ge 30) 3) (ce pc 34 (.iload_n 2) 1))) (cb pc 38 (cb pc 36 (ce pc 35 (.iconst 1) 1) (ce pc 36 (.iload 4) 2)) (cb pc 39 (ce pc 38 .ishl 1) (cb pc 40 (ce pc 39 .iand 1) (ce pc 40 (.ifCond .eq 15) 3))))) (cb pc 52 (cb pc 46 (cb pc 44 (ce pc 43 (.aload_n 0) 1) (ce pc 44 (.iload 4) 2)) (cb pc 49 (ce pc 46 (.invokevirtual 156) 3) (ce pc 49 (.ifCond .eq 6) 3))) (cb pc 58 (cb pc 55 (ce pc 52 (.iinc 3 1) 3) (ce pc 55 (.iinc 4 1) 3)) (cb pc 61 (ce pc 58 (.goto (-33)) 3) (cb pc 62 (ce pc 61 (.iload_n 3) 1) (ce pc 62 .ireturn 1))))))) none
def PPcode:CodeT:=fun q pc=>cond (Nat.blt q 51) (cond (Nat.blt q 25) (cond (Nat.blt q 12) (cond (Nat.blt q 6) (cond (Nat.blt q 3) (cond (Nat.blt q 1) (cond (Nat.beq q 0) (cd_0 pc) none) (cond (Nat.blt q 2) (cond (Nat.beq q 1) (cd_1 pc) none) (cond (Nat.beq q 2) (cd_2 pc) none))) (cond (Nat.blt q 4) (cond (Nat.beq q 3) (cd_3 pc) none) (cond (Nat.blt q 5) (cond (Nat.beq q 4) (cd_4 pc) none) (cond (Nat.beq q 5) (cd_5 pc) none)))) (cond (Nat.blt q 9) (cond (Nat.blt q 7) (cond (Nat.beq q 6) (cd_6 pc) none) (cond (Nat.blt q 8) (cond (Nat.beq q 7) (cd_7 pc) none) (cond (Nat.beq q 8) (cd_8 pc) none))) (cond (Nat.blt q 10) (cond (Nat.beq q 9) (cd_9 pc) none) (cond (Nat.blt q 11) (cond (Nat.beq q 10) (cd_10 pc) none) (cond (Nat.beq q 11) (cd_11 pc) none))))) (cond (Nat.blt q 18) (cond (Nat.blt q 15) (cond (Nat.blt q 13) (cond (Nat.beq q 12) (cd_12 pc) none) (cond (Nat.blt q 14) (cond (Nat.beq q 13) (cd_13 pc) none) (cond (Nat.beq q 14) (cd_14 pc) none))) (cond (Nat.blt q 16) (cond (Nat.beq q 15) (cd_15 pc) none) (cond (Nat.blt q 17) (cond (Nat.beq q 16) (cd_16 pc) none) (cond (Nat.beq q 17) (cd_17 pc) none)))) (cond (Nat.blt q 21) (cond (Nat.blt q 19) (cond (Nat.beq q 18) (cd_18 pc) none) (cond (Nat.blt q 20) (cond (Nat.beq q 19) (cd_19 pc) none) (cond (Nat.beq q 20) (cd_20 pc) none))) (cond (Nat.blt q 23) (cond (Nat.blt q 22) (cond (Nat.beq q 21) (cd_21 pc) none) (cond (Nat.beq q 22) (cd_22 pc) none)) (cond (Nat.blt q 24) (cond (Nat.beq q 23) (cd_23 pc) none) (cond (Nat.beq q 24) (cd_24 pc) none)))))) (cond (Nat.blt q 38) (cond (Nat.blt q 31) (cond (Nat.blt q 28) (cond (Nat.blt q 26) (cond (Nat.beq q 25) (cd_25 pc) none) (cond (Nat.blt q 27) (cond (Nat.beq q 26) (cd_26 pc) none) (cond (Nat.beq q 27) (cd_27 pc) none))) (cond (Nat.blt q 29) (cond (Nat.beq q 28) (cd_28 pc) none) (cond (Nat.blt q 30) (cond (Nat.beq q 29) (cd_29 pc) none) (cond (Nat.beq q 30) (cd_30 pc) none)))) (cond (Nat.blt q 34) (cond (Nat.blt q 32) (cond (Nat.beq q 31) (cd_31 pc) none) (cond (Nat.blt q 33) (cond (Nat.beq q 32) (cd_32 pc) none) (cond (Nat.beq q 33) (cd_33 pc) none))) (cond (Nat.blt q 36) (cond (Nat.blt q 35) (cond (Nat.beq q 34) (cd_34 pc) none) (cond (Nat.beq q 35) (cd_35 pc) none)) (cond (Nat.blt q 37) (cond (Nat.beq q 36) (cd_36 pc) none) (cond (Nat.beq q 37) (cd_37 pc) none))))) (cond (Nat.blt q 44) (cond (Nat.blt q 41) (cond (Nat.blt q 39) (cond (Nat.beq q 38) (cd_38 pc) none) (cond (Nat.blt q 40) (cond (Nat.beq q 39) (cd_39 pc) none) (cond (Nat.beq q 40) (cd_40 pc) none))) (cond (Nat.blt q 42) (cond (Nat.beq q 41) (cd_41 pc) none) (cond (Nat.blt q 43) (cond (Nat.beq q 42) (cd_42 pc) none) (cond (Nat.beq q 43) (cd_43 pc) none)))) (cond (Nat.blt q 47) (cond (Nat.blt q 45) (cond (Nat.beq q 44) (cd_44 pc) none) (cond (Nat.blt q 46) (cond (Nat.beq q 45) (cd_45 pc) none) (cond (Nat.beq q 46) (cd_46 pc) none))) (cond (Nat.blt q 49) (cond (Nat.blt q 48) (cond (Nat.beq q 47) (cd_47 pc) none) (cond (Nat.beq q 48) (cd_48 pc) none)) (cond (Nat.blt q 50) (cond (Nat.beq q 49) (cd_49 pc) none) (cond (Nat.beq q 50) (cd_50 pc) none))))))) none
def PPfld:FldT:=fun x=>cond (Nat.blt x 113) (cond (Nat.blt x 60) (cond (Nat.blt x 35) (cond (Nat.blt x 23) (cond (Nat.blt x 16) (cond (Nat.blt x 13) (cond (Nat.beq x 7) (some (0,1,0,true)) none) (cond (Nat.beq x 13) (some (1,1,0,true)) none)) (cond (Nat.blt x 19) (cond (Nat.beq x 16) (some (2,1,0,true)) none) (cond (Nat.beq x 19) (some (3,0,1,false)) none))) (cond (Nat.blt x 29) (cond (Nat.blt x 26) (cond (Nat.beq x 23) (some (4,0,2,false)) none) (cond (Nat.beq x 26) (some (5,0,3,false)) none)) (cond (Nat.blt x 32) (cond (Nat.beq x 29) (some (6,0,4,false)) none) (cond (Nat.beq x 32) (some (7,0,5,false)) none)))) (cond (Nat.blt x 47) (cond (Nat.blt x 41) (cond (Nat.blt x 38) (cond (Nat.beq x 35) (some (8,0,6,false)) none) (cond (Nat.beq x 38) (some (9,0,7,false)) none)) (cond (Nat.blt x 44) (cond (Nat.beq x 41) (some (10,0,8,false)) none) (cond (Nat.beq x 44) (some (11,0,9,false)) none))) (cond (Nat.blt x 54) (cond (Nat.blt x 51) (cond (Nat.beq x 47) (some (12,0,10,false)) none) (cond (Nat.beq x 51) (some (13,0,11,false)) none)) (cond (Nat.blt x 57) (cond (Nat.beq x 54) (some (14,0,12,false)) none) (cond (Nat.beq x 57) (some (15,0,13,false)) none))))) (cond (Nat.blt x 88) (cond (Nat.blt x 72) (cond (Nat.blt x 66) (cond (Nat.blt x 63) (cond (Nat.beq x 60) (some (16,0,14,false)) none) (cond (Nat.beq x 63) (some (17,0,15,false)) none)) (cond (Nat.blt x 69) (cond (Nat.beq x 66) (some (18,0,16,false)) none) (cond (Nat.beq x 69) (some (19,0,17,false)) none))) (cond (Nat.blt x 78) (cond (Nat.blt x 75) (cond (Nat.beq x 72) (some (20,0,18,false)) none) (cond (Nat.beq x 75) (some (21,0,19,false)) none)) (cond (Nat.blt x 81) (cond (Nat.beq x 78) (some (22,0,20,false)) none) (cond (Nat.beq x 81) (some (23,0,21,false)) none)))) (cond (Nat.blt x 100) (cond (Nat.blt x 94) (cond (Nat.blt x 91) (cond (Nat.beq x 88) (some (24,1,0,false)) none) (cond (Nat.beq x 91) (some (25,1,0,false)) none)) (cond (Nat.blt x 97) (cond (Nat.beq x 94) (some (26,1,0,false)) none) (cond (Nat.beq x 97) (some (27,1,0,false)) none))) (cond (Nat.blt x 106) (cond (Nat.blt x 103) (cond (Nat.beq x 100) (some (28,1,0,false)) none) (cond (Nat.beq x 103) (some (29,1,0,false)) none)) (cond (Nat.blt x 109) (cond (Nat.beq x 106) (some (30,1,0,false)) none) (cond (Nat.blt x 112) (cond (Nat.beq x 109) (some (31,1,0,false)) none) (cond (Nat.beq x 112) (some (32,1,0,false)) none))))))) none
def PPlay:LayT:=fun j=>cond (Nat.blt j 22) (cond (Nat.blt j 11) (cond (Nat.blt j 6) (cond (Nat.blt j 3) (cond (Nat.blt j 2) (cond (Nat.beq j 1) (some (1,9)) none) (cond (Nat.beq j 2) (some (1,10)) none)) (cond (Nat.blt j 4) (cond (Nat.beq j 3) (some (1,10)) none) (cond (Nat.blt j 5) (cond (Nat.beq j 4) (some (1,10)) none) (cond (Nat.beq j 5) (some (1,12)) none)))) (cond (Nat.blt j 8) (cond (Nat.blt j 7) (cond (Nat.beq j 6) (some (1,10)) none) (cond (Nat.beq j 7) (some (1,1024)) none)) (cond (Nat.blt j 9) (cond (Nat.beq j 8) (some (1,1024)) none) (cond (Nat.blt j 10) (cond (Nat.beq j 9) (some (1,1024)) none) (cond (Nat.beq j 10) (some (2,1024)) none))))) (cond (Nat.blt j 16) (cond (Nat.blt j 13) (cond (Nat.blt j 12) (cond (Nat.beq j 11) (some (1,9)) none) (cond (Nat.beq j 12) (some (1,9)) none)) (cond (Nat.blt j 14) (cond (Nat.beq j 13) (some (1,90)) none) (cond (Nat.blt j 15) (cond (Nat.beq j 14) (some (1,90)) none) (cond (Nat.beq j 15) (some (1,90)) none)))) (cond (Nat.blt j 19) (cond (Nat.blt j 17) (cond (Nat.beq j 16) (some (2,9216)) none) (cond (Nat.blt j 18) (cond (Nat.beq j 17) (some (1,9216)) none) (cond (Nat.beq j 18) (some (1,9216)) none))) (cond (Nat.blt j 20) (cond (Nat.beq j 19) (some (1,10)) none) (cond (Nat.blt j 21) (cond (Nat.beq j 20) (some (1,10)) none) (cond (Nat.beq j 21) (some (1,10)) none)))))) none
def PPcst:Nat→Option OV:=fun x=>cond (Nat.blt x 234) (cond (Nat.beq x 233) (some (vi 40000000)) none) none
def PPmth:Nat→Option Nat:=fun x=>cond (Nat.blt x 245) (cond (Nat.blt x 183) (cond (Nat.blt x 149) (cond (Nat.blt x 129) (cond (Nat.blt x 119) (cond (Nat.blt x 115) (cond (Nat.beq x 84) (some 1) none) (cond (Nat.beq x 115) (some 19) none)) (cond (Nat.blt x 122) (cond (Nat.beq x 119) (some 20) none) (cond (Nat.blt x 125) (cond (Nat.beq x 122) (some 24) none) (cond (Nat.beq x 125) (some 25) none)))) (cond (Nat.blt x 139) (cond (Nat.blt x 132) (cond (Nat.beq x 129) (some 26) none) (cond (Nat.beq x 132) (some 6) none)) (cond (Nat.blt x 143) (cond (Nat.beq x 139) (some 3) none) (cond (Nat.blt x 146) (cond (Nat.beq x 143) (some 12) none) (cond (Nat.beq x 146) (some 15) none))))) (cond (Nat.blt x 168) (cond (Nat.blt x 156) (cond (Nat.blt x 152) (cond (Nat.beq x 149) (some 16) none) (cond (Nat.beq x 152) (some 50) none)) (cond (Nat.blt x 162) (cond (Nat.beq x 156) (some 43) none) (cond (Nat.blt x 165) (cond (Nat.beq x 162) (some 4) none) (cond (Nat.beq x 165) (some 7) none)))) (cond (Nat.blt x 174) (cond (Nat.blt x 171) (cond (Nat.beq x 168) (some 9) none) (cond (Nat.beq x 171) (some 10) none)) (cond (Nat.blt x 177) (cond (Nat.beq x 174) (some 11) none) (cond (Nat.blt x 180) (cond (Nat.beq x 177) (some 5) none) (cond (Nat.beq x 180) (some 8) none)))))) (cond (Nat.blt x 215) (cond (Nat.blt x 199) (cond (Nat.blt x 189) (cond (Nat.blt x 186) (cond (Nat.beq x 183) (some 27) none) (cond (Nat.beq x 186) (some 34) none)) (cond (Nat.blt x 192) (cond (Nat.beq x 189) (some 28) none) (cond (Nat.blt x 196) (cond (Nat.beq x 192) (some 32) none) (cond (Nat.beq x 196) (some 33) none)))) (cond (Nat.blt x 205) (cond (Nat.blt x 202) (cond (Nat.beq x 199) (some 29) none) (cond (Nat.beq x 202) (some 31) none)) (cond (Nat.blt x 209) (cond (Nat.beq x 205) (some 30) none) (cond (Nat.blt x 212) (cond (Nat.beq x 209) (some 35) none) (cond (Nat.beq x 212) (some 36) none))))) (cond (Nat.blt x 230) (cond (Nat.blt x 221) (cond (Nat.blt x 218) (cond (Nat.beq x 215) (some 37) none) (cond (Nat.beq x 218) (some 38) none)) (cond (Nat.blt x 224) (cond (Nat.beq x 221) (some 14) none) (cond (Nat.blt x 227) (cond (Nat.beq x 224) (some 41) none) (cond (Nat.beq x 227) (some 13) none)))) (cond (Nat.blt x 237) (cond (Nat.blt x 234) (cond (Nat.beq x 230) (some 45) none) (cond (Nat.beq x 234) (some 46) none)) (cond (Nat.blt x 241) (cond (Nat.beq x 237) (some 49) none) (cond (Nat.blt x 244) (cond (Nat.beq x 241) (some 47) none) (cond (Nat.beq x 244) (some 48) none))))))) none
def PPinf:InfT:=fun q=>cond (Nat.blt q 51) (cond (Nat.blt q 25) (cond (Nat.blt q 12) (cond (Nat.blt q 6) (cond (Nat.blt q 3) (cond (Nat.blt q 1) (cond (Nat.beq q 0) (some ([false,false,false],4,0,1,16)) none) (cond (Nat.blt q 2) (cond (Nat.beq q 1) (some ([false,false,false],4,1,0,0)) none) (cond (Nat.beq q 2) (some ([false],4,1,7,110)) none))) (cond (Nat.blt q 4) (cond (Nat.beq q 3) (some ([false],2,0,6,97)) none) (cond (Nat.blt q 5) (cond (Nat.beq q 4) (some ([],2,0,2,31)) none) (cond (Nat.beq q 5) (some ([false],4,1,1,14)) none)))) (cond (Nat.blt q 9) (cond (Nat.blt q 7) (cond (Nat.beq q 6) (some ([false,false],3,2,0,0)) none) (cond (Nat.blt q 8) (cond (Nat.beq q 7) (some ([],5,0,1,14)) none) (cond (Nat.beq q 8) (some ([false],3,1,0,0)) none))) (cond (Nat.blt q 10) (cond (Nat.beq q 9) (some ([false],3,0,5,83)) none) (cond (Nat.blt q 11) (cond (Nat.beq q 10) (some ([false],5,0,2,31)) none) (cond (Nat.beq q 11) (some ([],2,0,0,0)) none))))) (cond (Nat.blt q 18) (cond (Nat.blt q 15) (cond (Nat.blt q 13) (cond (Nat.beq q 12) (some ([false,false],6,2,6,92)) none) (cond (Nat.blt q 14) (cond (Nat.beq q 13) (some ([false,false],4,1,4,58)) none) (cond (Nat.beq q 14) (some ([false,false],4,1,1,15)) none))) (cond (Nat.blt q 16) (cond (Nat.beq q 15) (some ([false],5,0,2,31)) none) (cond (Nat.blt q 17) (cond (Nat.beq q 16) (some ([],2,0,0,0)) none) (cond (Nat.beq q 17) (some ([false],2,1,0,0)) none)))) (cond (Nat.blt q 21) (cond (Nat.blt q 19) (cond (Nat.beq q 18) (some ([false,false],3,1,1,13)) none) (cond (Nat.blt q 20) (cond (Nat.beq q 19) (some ([false],2,2,0,0)) none) (cond (Nat.beq q 20) (some ([false],2,2,0,0)) none))) (cond (Nat.blt q 23) (cond (Nat.blt q 22) (cond (Nat.beq q 21) (some ([false],2,1,0,0)) none) (cond (Nat.beq q 22) (some ([],1,1,0,0)) none)) (cond (Nat.blt q 24) (cond (Nat.beq q 23) (some ([false,false],3,2,2,25)) none) (cond (Nat.beq q 24) (some ([false],2,2,0,0)) none)))))) (cond (Nat.blt q 38) (cond (Nat.blt q 31) (cond (Nat.blt q 28) (cond (Nat.blt q 26) (cond (Nat.beq q 25) (some ([false,false,false],4,1,0,0)) none) (cond (Nat.blt q 27) (cond (Nat.beq q 26) (some ([],1,0,1,13)) none) (cond (Nat.beq q 27) (some ([false],4,0,4,58)) none))) (cond (Nat.blt q 29) (cond (Nat.beq q 28) (some ([false,false],3,2,3,44)) none) (cond (Nat.blt q 30) (cond (Nat.beq q 29) (some ([false,false],3,2,2,30)) none) (cond (Nat.beq q 30) (some ([false,false,false],5,2,1,14)) none)))) (cond (Nat.blt q 34) (cond (Nat.blt q 32) (cond (Nat.beq q 31) (some ([false,false],3,2,0,0)) none) (cond (Nat.blt q 33) (cond (Nat.beq q 32) (some ([false,false],5,1,2,30)) none) (cond (Nat.beq q 33) (some ([false,false],6,1,1,14)) none))) (cond (Nat.blt q 36) (cond (Nat.blt q 35) (cond (Nat.beq q 34) (some ([false],4,0,4,68)) none) (cond (Nat.beq q 35) (some ([false,false],5,1,3,50)) none)) (cond (Nat.blt q 37) (cond (Nat.beq q 36) (some ([false,false,false],9,2,2,30)) none) (cond (Nat.beq q 37) (some ([false,false],5,1,1,14)) none))))) (cond (Nat.blt q 44) (cond (Nat.blt q 41) (cond (Nat.blt q 39) (cond (Nat.beq q 38) (some ([false,false],4,2,1,14)) none) (cond (Nat.blt q 40) (cond (Nat.beq q 39) (some ([false,false,false,false],6,2,2,25)) none) (cond (Nat.beq q 40) (some ([false,false],3,2,2,25)) none))) (cond (Nat.blt q 42) (cond (Nat.beq q 41) (some ([false,false],3,2,3,44)) none) (cond (Nat.blt q 43) (cond (Nat.beq q 42) (some ([false],5,1,3,43)) none) (cond (Nat.beq q 43) (some ([false],2,2,1,13)) none)))) (cond (Nat.blt q 47) (cond (Nat.blt q 45) (cond (Nat.beq q 44) (some ([],1,0,0,0)) none) (cond (Nat.blt q 46) (cond (Nat.beq q 45) (some ([false,false],3,2,0,0)) none) (cond (Nat.beq q 46) (some ([false],8,0,5,73)) none))) (cond (Nat.blt q 49) (cond (Nat.blt q 48) (cond (Nat.beq q 47) (some ([false,false],3,2,0,0)) none) (cond (Nat.beq q 48) (some ([false,false],3,1,0,0)) none)) (cond (Nat.blt q 50) (cond (Nat.beq q 49) (some ([false,false,false,false],6,0,2,30)) none) (cond (Nat.beq q 50) (some ([false],5,1,2,26)) none))))))) none
def PPobi:Nat→Bool:=fun x=>Nat.beq x 1
abbrev yb (x k:Nat) (a b:Option (List Bool)):Option (List Bool):=cond (Nat.blt x k) a b
abbrev ye (x k:Nat) (l:List Bool):Option (List Bool):=cond (Nat.beq x k) (some l) none
abbrev oT:Bool:=true
abbrev oF:Bool:=false
def PPliv:LivT:=fun q pc=>yb q 25 (yb q 12 (yb q 6 (yb q 3 (yb q 1 (cond (Nat.beq q 0) (ye pc 0 [oT,oT,oT,oT]) none) (yb q 2 (cond (Nat.beq q 1) (yb pc 7 (yb pc 5 (ye pc 0 [oF,oT,oT,oT]) (ye pc 5 [oF,oF,oT,oF])) (yb pc 12 (ye pc 7 [oF,oT,oF,oT]) (yb pc 14 (ye pc 12 [oF,oF,oF,oT]) (ye pc 14 [oF,oT,oF,oF])))) none) (cond (Nat.beq q 2) (yb pc 35 (yb pc 18 (ye pc 0 [oT,oT,oF,oF]) (yb pc 23 (ye pc 18 [oT,oF,oT,oT]) (ye pc 23 [oT,oF,oT,oT]))) (yb pc 47 (ye pc 35 [oT,oF,oF,oT]) (yb pc 53 (ye pc 47 [oT,oF,oT,oT]) (ye pc 53 [oT,oF,oF,oF])))) none))) (yb q 4 (cond (Nat.beq q 3) (ye pc 0 [oT,oT]) none) (yb q 5 (cond (Nat.beq q 4) (yb pc 21 (yb pc 2 (ye pc 0 [oT,oF]) (yb pc 8 (ye pc 2 [oT,oT]) (ye pc 8 [oT,oT]))) (yb pc 31 (yb pc 23 (ye pc 21 [oT,oF]) (ye pc 23 [oT,oT])) (yb pc 48 (ye pc 31 [oT,oT]) (ye pc 48 [oF,oF])))) none) (cond (Nat.beq q 5) (yb pc 17 (yb pc 4 (ye pc 0 [oT,oT,oF,oF]) (yb pc 12 (ye pc 4 [oT,oT,oT,oT]) (ye pc 12 [oT,oT,oT,oT]))) (yb pc 32 (yb pc 26 (ye pc 17 [oT,oT,oT,oT]) (ye pc 26 [oT,oT,oT,oT])) (yb pc 38 (ye pc 32 [oT,oT,oT,oT]) (ye pc 38 [oF,oF,oT,oF])))) none)))) (yb q 9 (yb q 7 (cond (Nat.beq q 6) (yb pc 48 (yb pc 23 (ye pc 0 [oT,oT,oT]) (yb pc 25 (ye pc 23 [oF,oF,oF]) (ye pc 25 [oT,oT,oT]))) (yb pc 52 (ye pc 48 [oF,oF,oF]) (yb pc 53 (ye pc 52 [oF,oF,oF]) (ye pc 53 [oF,oF,oF])))) none) (yb q 8 (cond (Nat.beq q 7) (yb pc 142 (yb pc 42 (yb pc 37 (ye pc 0 [oT,oF,oF,oF,oF]) (ye pc 37 [oT,oT,oT,oF,oF])) (yb pc 130 (ye pc 42 [oT,oT,oT,oF,oF]) (ye pc 130 [oT,oT,oT,oT,oT]))) (yb pc 147 (yb pc 146 (ye pc 142 [oT,oT,oT,oF,oF]) (ye pc 146 [oT,oT,oT,oF,oF])) (yb pc 154 (ye pc 147 [oT,oT,oT,oF,oF]) (ye pc 154 [oF,oF,oF,oF,oF])))) none) (cond (Nat.beq q 8) (yb pc 16 (yb pc 2 (ye pc 0 [oF,oT,oF]) (yb pc 8 (ye pc 2 [oF,oT,oT]) (ye pc 8 [oF,oT,oT]))) (yb pc 18 (ye pc 16 [oF,oF,oT]) (yb pc 24 (ye pc 18 [oF,oT,oT]) (ye pc 24 [oF,oF,oF])))) none))) (yb q 10 (cond (Nat.beq q 9) (yb pc 64 (yb pc 31 (ye pc 0 [oT,oT,oF]) (yb pc 37 (ye pc 31 [oT,oF,oT]) (ye pc 37 [oT,oF,oT]))) (yb pc 74 (yb pc 66 (ye pc 64 [oT,oF,oF]) (ye pc 66 [oT,oF,oT])) (yb pc 90 (ye pc 74 [oT,oF,oT]) (ye pc 90 [oF,oF,oF])))) none) (yb q 11 (cond (Nat.beq q 10) (yb pc 23 (yb pc 14 (yb pc 9 (ye pc 0 [oT,oT,oF,oF,oF]) (ye pc 9 [oT,oT,oT,oT,oF])) (yb pc 20 (ye pc 14 [oT,oT,oT,oT,oF]) (ye pc 20 [oT,oT,oT,oT,oF]))) (yb pc 55 (yb pc 29 (ye pc 23 [oT,oT,oT,oT,oT]) (ye pc 29 [oT,oT,oT,oT,oT])) (yb pc 61 (ye pc 55 [oT,oT,oT,oT,oF]) (ye pc 61 [oF,oF,oF,oF,oF])))) none) (cond (Nat.beq q 11) (yb pc 9 (yb pc 2 (ye pc 0 [oT,oF]) (ye pc 2 [oT,oT])) (yb pc 29 (ye pc 9 [oT,oT]) (ye pc 29 [oF,oF]))) none))))) (yb q 18 (yb q 15 (yb q 13 (cond (Nat.beq q 12) (yb pc 45 (yb pc 20 (yb pc 11 (ye pc 0 [oT,oT,oT,oF,oF,oF]) (yb pc 16 (ye pc 11 [oF,oF,oF,oT,oF,oF]) (ye pc 16 [oF,oF,oF,oF,oF,oF]))) (yb pc 21 (ye pc 20 [oF,oF,oF,oF,oF,oF]) (yb pc 22 (ye pc 21 [oF,oF,oF,oF,oF,oF]) (ye pc 22 [oT,oT,oT,oF,oF,oF])))) (yb pc 71 (yb pc 52 (ye pc 45 [oT,oT,oT,oF,oT,oT]) (yb pc 59 (ye pc 52 [oT,oT,oT,oF,oT,oT]) (ye pc 59 [oT,oT,oT,oF,oT,oT]))) (yb pc 95 (yb pc 91 (ye pc 71 [oT,oT,oT,oF,oF,oF]) (ye pc 91 [oF,oF,oF,oF,oF,oF])) (yb pc 96 (ye pc 95 [oF,oF,oF,oF,oF,oF]) (ye pc 96 [oF,oF,oF,oF,oF,oF]))))) none) (yb q 14 (cond (Nat.beq q 13) (yb pc 47 (yb pc 23 (yb pc 16 (ye pc 0 [oT,oT,oT,oF]) (ye pc 16 [oT,oF,oF,oT])) (yb pc 27 (ye pc 23 [oT,oT,oT,oT]) (yb pc 43 (ye pc 27 [oT,oF,oT,oT]) (ye pc 43 [oT,oF,oF,oT])))) (yb pc 52 (yb pc 48 (ye pc 47 [oT,oF,oF,oT]) (ye pc 48 [oT,oF,oF,oT])) (yb pc 61 (ye pc 52 [oT,oT,oT,oT]) (yb pc 68 (ye pc 61 [oT,oF,oF,oT]) (ye pc 68 [oT,oF,oF,oT]))))) none) (cond (Nat.beq q 14) (ye pc 0 [oT,oT,oT,oF]) none))) (yb q 16 (cond (Nat.beq q 15) (yb pc 23 (yb pc 18 (ye pc 0 [oT,oT,oF,oF,oF]) (ye pc 18 [oT,oF,oT,oT,oF])) (yb pc 58 (ye pc 23 [oT,oF,oT,oT,oF]) (ye pc 58 [oF,oF,oF,oF,oF]))) none) (yb q 17 (cond (Nat.beq q 16) (yb pc 8 (yb pc 2 (ye pc 0 [oT,oF]) (ye pc 2 [oT,oT])) (yb pc 21 (ye pc 8 [oT,oT]) (ye pc 21 [oF,oF]))) none) (cond (Nat.beq q 17) (yb pc 14 (yb pc 7 (ye pc 0 [oT,oT]) (yb pc 9 (ye pc 7 [oF,oF]) (ye pc 9 [oT,oT]))) (yb pc 22 (ye pc 14 [oT,oT]) (yb pc 24 (ye pc 22 [oF,oF]) (ye pc 24 [oT,oT])))) none)))) (yb q 21 (yb q 19 (cond (Nat.beq q 18) (yb pc 20 (yb pc 10 (yb pc 8 (ye pc 0 [oT,oT,oT]) (ye pc 8 [oF,oF,oF])) (yb pc 18 (ye pc 10 [oT,oT,oT]) (ye pc 18 [oF,oF,oF]))) (yb pc 31 (yb pc 24 (ye pc 20 [oT,oT,oT]) (ye pc 24 [oT,oT,oF])) (yb pc 36 (ye pc 31 [oT,oT,oT]) (yb pc 43 (ye pc 36 [oT,oT,oF]) (ye pc 43 [oT,oT,oF]))))) none) (yb q 20 (cond (Nat.beq q 19) (yb pc 12 (yb pc 4 (ye pc 0 [oT,oT]) (ye pc 4 [oT,oT])) (yb pc 16 (ye pc 12 [oF,oF]) (yb pc 17 (ye pc 16 [oF,oF]) (ye pc 17 [oF,oF])))) none) (cond (Nat.beq q 20) (yb pc 14 (yb pc 4 (ye pc 0 [oF,oT]) (yb pc 9 (ye pc 4 [oF,oT]) (ye pc 9 [oF,oT]))) (yb pc 18 (ye pc 14 [oF,oF]) (yb pc 19 (ye pc 18 [oF,oF]) (ye pc 19 [oF,oF])))) none))) (yb q 23 (yb q 22 (cond (Nat.beq q 21) (yb pc 14 (yb pc 4 (ye pc 0 [oT,oT]) (yb pc 9 (ye pc 4 [oT,oF]) (ye pc 9 [oT,oT]))) (yb pc 24 (yb pc 19 (ye pc 14 [oT,oF]) (ye pc 19 [oT,oT])) (yb pc 29 (ye pc 24 [oT,oF]) (ye pc 29 [oF,oF])))) none) (cond (Nat.beq q 22) (ye pc 0 [oT]) none)) (yb q 24 (cond (Nat.beq q 23) (yb pc 8 (ye pc 0 [oT,oT,oT]) (yb pc 10 (ye pc 8 [oF,oF,oF]) (ye pc 10 [oT,oT,oT]))) none) (cond (Nat.beq q 24) (yb pc 12 (yb pc 4 (ye pc 0 [oT,oT]) (ye pc 4 [oT,oT])) (yb pc 16 (ye pc 12 [oF,oF]) (yb pc 17 (ye pc 16 [oF,oF]) (ye pc 17 [oF,oF])))) none)))))) (yb q 38 (yb q 31 (yb q 28 (yb q 26 (cond (Nat.beq q 25) (yb pc 4 (ye pc 0 [oF,oT,oT,oT]) (yb pc 8 (ye pc 4 [oF,oT,oT,oF]) (ye pc 8 [oF,oT,oT,oF]))) none) (yb q 27 (cond (Nat.beq q 26) (ye pc 0 [oT]) none) (cond (Nat.beq q 27) (yb pc 44 (yb pc 23 (yb pc 4 (ye pc 0 [oT,oT,oF,oF]) (yb pc 12 (ye pc 4 [oT,oT,oT,oT]) (ye pc 12 [oT,oT,oT,oT]))) (yb pc 29 (ye pc 23 [oT,oT,oT,oT]) (yb pc 35 (ye pc 29 [oT,oT,oT,oT]) (ye pc 35 [oT,oT,oT,oF])))) (yb pc 75 (yb pc 50 (ye pc 44 [oT,oT,oF,oT]) (yb pc 73 (ye pc 50 [oT,oT,oF,oT]) (ye pc 73 [oT,oT,oF,oF]))) (yb pc 81 (ye pc 75 [oT,oT,oF,oT]) (yb pc 104 (ye pc 81 [oT,oT,oF,oT]) (ye pc 104 [oF,oF,oF,oF]))))) none))) (yb q 29 (cond (Nat.beq q 28) (yb pc 34 (yb pc 18 (ye pc 0 [oT,oT,oT]) (yb pc 20 (ye pc 18 [oF,oF,oF]) (ye pc 20 [oT,oT,oT]))) (yb pc 38 (ye pc 34 [oF,oF,oF]) (yb pc 39 (ye pc 38 [oF,oF,oF]) (ye pc 39 [oF,oF,oF])))) none) (yb q 30 (cond (Nat.beq q 29) (ye pc 0 [oT,oT,oT]) none) (cond (Nat.beq q 30) (yb pc 24 (yb pc 10 (yb pc 4 (ye pc 0 [oT,oT,oT,oT,oF]) (ye pc 4 [oT,oT,oT,oT,oF])) (yb pc 12 (ye pc 10 [oF,oF,oF,oF,oF]) (yb pc 15 (ye pc 12 [oT,oT,oT,oT,oF]) (ye pc 15 [oT,oT,oT,oT,oT])))) (yb pc 51 (yb pc 34 (ye pc 24 [oT,oT,oT,oT,oT]) (ye pc 34 [oT,oT,oT,oT,oT])) (yb pc 53 (ye pc 51 [oF,oF,oF,oF,oF]) (yb pc 59 (ye pc 53 [oT,oT,oT,oT,oT]) (ye pc 59 [oF,oF,oF,oF,oF]))))) none)))) (yb q 34 (yb q 32 (cond (Nat.beq q 31) (yb pc 12 (yb pc 4 (ye pc 0 [oF,oT,oT]) (yb pc 10 (ye pc 4 [oF,oT,oT]) (ye pc 10 [oF,oF,oF]))) (yb pc 24 (yb pc 20 (ye pc 12 [oF,oT,oT]) (ye pc 20 [oF,oF,oF])) (yb pc 25 (ye pc 24 [oF,oF,oF]) (ye pc 25 [oF,oF,oF])))) none) (yb q 33 (cond (Nat.beq q 32) (yb pc 44 (yb pc 24 (yb pc 8 (ye pc 0 [oT,oT,oT,oF,oF]) (yb pc 22 (ye pc 8 [oT,oT,oT,oF,oF]) (ye pc 22 [oF,oF,oF,oF,oF]))) (yb pc 29 (ye pc 24 [oT,oT,oT,oF,oF]) (yb pc 38 (ye pc 29 [oT,oT,oT,oT,oT]) (ye pc 38 [oT,oT,oT,oT,oT])))) (yb pc 77 (yb pc 59 (ye pc 44 [oT,oT,oT,oT,oT]) (yb pc 62 (ye pc 59 [oT,oT,oT,oT,oT]) (ye pc 62 [oT,oT,oT,oT,oT]))) (yb pc 107 (yb pc 100 (ye pc 77 [oT,oT,oT,oT,oT]) (ye pc 100 [oT,oT,oT,oT,oT])) (yb pc 113 (ye pc 107 [oT,oT,oT,oT,oT]) (ye pc 113 [oF,oF,oF,oT,oF]))))) none) (cond (Nat.beq q 33) (yb pc 70 (yb pc 26 (yb pc 8 (ye pc 0 [oT,oT,oT,oF,oF,oF]) (yb pc 24 (ye pc 8 [oT,oT,oT,oF,oF,oF]) (ye pc 24 [oF,oF,oF,oF,oF,oF]))) (yb pc 46 (ye pc 26 [oT,oT,oT,oF,oF,oF]) (yb pc 55 (ye pc 46 [oT,oT,oT,oT,oT,oT]) (ye pc 55 [oT,oT,oT,oT,oT,oT])))) (yb pc 100 (yb pc 73 (ye pc 70 [oT,oT,oT,oT,oT,oT]) (yb pc 88 (ye pc 73 [oT,oT,oT,oT,oT,oT]) (ye pc 88 [oT,oT,oT,oT,oT,oT]))) (yb pc 109 (ye pc 100 [oT,oT,oT,oT,oT,oT]) (yb pc 115 (ye pc 109 [oT,oT,oT,oT,oT,oT]) (ye pc 115 [oF,oF,oF,oF,oT,oF]))))) none))) (yb q 36 (yb q 35 (cond (Nat.beq q 34) (yb pc 42 (yb pc 19 (yb pc 11 (ye pc 0 [oT,oT,oF,oF]) (ye pc 11 [oT,oT,oT,oT])) (yb pc 33 (ye pc 19 [oT,oT,oT,oT]) (ye pc 33 [oT,oT,oT,oT]))) (yb pc 57 (yb pc 48 (ye pc 42 [oT,oT,oT,oT]) (ye pc 48 [oT,oT,oT,oF])) (yb pc 63 (ye pc 57 [oT,oT,oF,oT]) (yb pc 86 (ye pc 63 [oT,oT,oF,oT]) (ye pc 86 [oF,oF,oF,oF]))))) none) (cond (Nat.beq q 35) (yb pc 38 (yb pc 22 (yb pc 8 (ye pc 0 [oT,oT,oT,oF,oF]) (ye pc 8 [oT,oT,oT,oF,oF])) (yb pc 24 (ye pc 22 [oF,oF,oF,oF,oF]) (yb pc 29 (ye pc 24 [oT,oT,oT,oF,oF]) (ye pc 29 [oT,oT,oT,oT,oT])))) (yb pc 70 (yb pc 44 (ye pc 38 [oT,oT,oT,oT,oT]) (yb pc 59 (ye pc 44 [oT,oT,oT,oT,oT]) (ye pc 59 [oT,oT,oT,oT,oT]))) (yb pc 77 (ye pc 70 [oT,oT,oT,oT,oT]) (yb pc 83 (ye pc 77 [oT,oT,oT,oT,oT]) (ye pc 83 [oF,oF,oF,oT,oF]))))) none)) (yb q 37 (cond (Nat.beq q 36) (yb pc 121 (yb pc 89 (yb pc 58 (yb pc 49 (ye pc 0 [oT,oT,oT,oT,oF,oF,oF,oF,oF]) (ye pc 49 [oT,oT,oT,oT,oT,oT,oT,oT,oT])) (yb pc 69 (ye pc 58 [oT,oT,oT,oT,oT,oT,oT,oT,oT]) (ye pc 69 [oT,oT,oT,oT,oT,oT,oT,oT,oT]))) (yb pc 97 (yb pc 91 (ye pc 89 [oF,oF,oF,oF,oF,oF,oF,oF,oF]) (ye pc 91 [oT,oT,oT,oT,oT,oT,oT,oT,oT])) (yb pc 102 (ye pc 97 [oT,oT,oT,oT,oT,oT,oT,oT,oF]) (ye pc 102 [oT,oT,oT,oT,oT,oT,oT,oT,oF])))) (yb pc 149 (yb pc 128 (yb pc 123 (ye pc 121 [oF,oF,oF,oF,oF,oF,oF,oF,oF]) (ye pc 123 [oT,oT,oT,oT,oT,oF,oT,oT,oF])) (yb pc 147 (ye pc 128 [oT,oT,oT,oT,oT,oF,oT,oT,oF]) (ye pc 147 [oF,oF,oF,oF,oF,oF,oF,oF,oF]))) (yb pc 159 (yb pc 154 (ye pc 149 [oT,oT,oT,oT,oF,oF,oT,oT,oF]) (ye pc 154 [oT,oT,oT,oT,oF,oF,oF,oT,oF])) (yb pc 180 (ye pc 159 [oT,oT,oT,oT,oF,oF,oF,oF,oF]) (yb pc 182 (ye pc 180 [oF,oF,oF,oF,oF,oF,oF,oF,oF]) (ye pc 182 [oF,oF,oF,oF,oF,oF,oF,oF,oF])))))) none) (cond (Nat.beq q 37) (yb pc 29 (yb pc 5 (ye pc 0 [oT,oT,oT,oF,oF]) (yb pc 14 (ye pc 5 [oT,oT,oT,oT,oT]) (ye pc 14 [oT,oT,oT,oT,oT]))) (yb pc 51 (yb pc 44 (ye pc 29 [oT,oT,oT,oT,oT]) (ye pc 44 [oT,oT,oT,oT,oT])) (yb pc 57 (ye pc 51 [oT,oT,oT,oT,oT]) (ye pc 57 [oF,oF,oF,oT,oF])))) none))))) (yb q 44 (yb q 41 (yb q 39 (cond (Nat.beq q 38) (yb pc 28 (yb pc 11 (yb pc 9 (ye pc 0 [oT,oT,oT,oF]) (ye pc 9 [oF,oF,oF,oF])) (yb pc 24 (ye pc 11 [oT,oT,oT,oF]) (yb pc 26 (ye pc 24 [oF,oF,oF,oF]) (ye pc 26 [oT,oT,oT,oF])))) (yb pc 61 (yb pc 36 (ye pc 28 [oT,oT,oT,oT]) (yb pc 45 (ye pc 36 [oT,oT,oT,oT]) (ye pc 45 [oT,oT,oT,oT]))) (yb pc 63 (ye pc 61 [oF,oF,oF,oF]) (yb pc 69 (ye pc 63 [oT,oT,oT,oT]) (ye pc 69 [oF,oF,oF,oF]))))) none) (yb q 40 (cond (Nat.beq q 39) (yb pc 30 (yb pc 18 (yb pc 8 (ye pc 0 [oT,oT,oT,oT,oT,oF]) (yb pc 10 (ye pc 8 [oF,oF,oF,oF,oF,oF]) (ye pc 10 [oT,oT,oT,oT,oT,oF]))) (yb pc 20 (ye pc 18 [oF,oF,oF,oF,oF,oF]) (yb pc 28 (ye pc 20 [oT,oT,oT,oT,oT,oF]) (ye pc 28 [oF,oF,oF,oF,oF,oF])))) (yb pc 67 (yb pc 39 (ye pc 30 [oT,oT,oT,oT,oT,oF]) (yb pc 62 (ye pc 39 [oT,oT,oF,oF,oT,oT]) (ye pc 62 [oT,oT,oT,oF,oT,oT]))) (yb pc 90 (ye pc 67 [oT,oT,oF,oF,oT,oT]) (yb pc 110 (ye pc 90 [oT,oT,oF,oF,oT,oT]) (ye pc 110 [oT,oF,oF,oF,oF,oF]))))) none) (cond (Nat.beq q 40) (yb pc 8 (ye pc 0 [oT,oT,oT]) (yb pc 10 (ye pc 8 [oF,oF,oF]) (ye pc 10 [oT,oT,oT]))) none))) (yb q 42 (cond (Nat.beq q 41) (yb pc 25 (yb pc 10 (yb pc 8 (ye pc 0 [oT,oT,oT]) (ye pc 8 [oF,oF,oF])) (yb pc 23 (ye pc 10 [oT,oT,oT]) (ye pc 23 [oF,oF,oF]))) (yb pc 38 (yb pc 34 (ye pc 25 [oT,oT,oT]) (ye pc 34 [oF,oF,oF])) (yb pc 39 (ye pc 38 [oF,oF,oF]) (ye pc 39 [oF,oF,oF])))) none) (yb q 43 (cond (Nat.beq q 42) (yb pc 33 (yb pc 7 (ye pc 0 [oT,oT,oF,oF,oF]) (yb pc 9 (ye pc 7 [oF,oF,oF,oF,oF]) (ye pc 9 [oT,oT,oF,oF,oF]))) (yb pc 39 (ye pc 33 [oT,oF,oT,oT,oT]) (yb pc 54 (ye pc 39 [oT,oF,oT,oT,oT]) (ye pc 54 [oF,oF,oF,oT,oF])))) none) (cond (Nat.beq q 43) (yb pc 10 (yb pc 8 (ye pc 0 [oT,oT]) (ye pc 8 [oF,oF])) (yb pc 26 (ye pc 10 [oT,oT]) (yb pc 28 (ye pc 26 [oF,oF]) (ye pc 28 [oT,oT])))) none)))) (yb q 47 (yb q 45 (cond (Nat.beq q 44) (ye pc 0 [oT]) none) (yb q 46 (cond (Nat.beq q 45) (yb pc 16 (yb pc 7 (ye pc 0 [oT,oT,oT]) (ye pc 7 [oT,oT,oT])) (yb pc 18 (ye pc 16 [oF,oF,oF]) (ye pc 18 [oT,oT,oT]))) none) (cond (Nat.beq q 46) (yb pc 93 (yb pc 23 (yb pc 11 (ye pc 0 [oT,oT,oF,oF,oF,oF,oF,oF]) (yb pc 17 (ye pc 11 [oT,oT,oT,oF,oF,oF,oF,oF]) (ye pc 17 [oT,oF,oF,oF,oF,oF,oF,oF]))) (yb pc 67 (yb pc 52 (ye pc 23 [oT,oT,oT,oF,oF,oF,oF,oF]) (ye pc 52 [oT,oF,oT,oT,oT,oF,oF,oF])) (yb pc 82 (ye pc 67 [oT,oF,oT,oT,oT,oT,oF,oF]) (ye pc 82 [oT,oF,oT,oT,oT,oT,oF,oF])))) (yb pc 153 (yb pc 131 (yb pc 104 (ye pc 93 [oT,oF,oT,oF,oF,oT,oF,oF]) (ye pc 104 [oT,oF,oT,oT,oT,oT,oF,oF])) (yb pc 147 (ye pc 131 [oT,oF,oT,oT,oT,oT,oF,oF]) (ye pc 147 [oT,oF,oT,oT,oF,oT,oT,oT]))) (yb pc 176 (yb pc 164 (ye pc 153 [oT,oF,oT,oF,oF,oT,oF,oF]) (ye pc 164 [oT,oF,oT,oT,oF,oT,oT,oF])) (yb pc 186 (ye pc 176 [oT,oF,oT,oF,oF,oT,oF,oF]) (ye pc 186 [oF,oF,oF,oF,oF,oF,oF,oF]))))) none))) (yb q 49 (yb q 48 (cond (Nat.beq q 47) (yb pc 24 (yb pc 20 (ye pc 0 [oT,oT,oT]) (ye pc 20 [oF,oF,oF])) (yb pc 25 (ye pc 24 [oF,oF,oF]) (ye pc 25 [oF,oF,oF]))) none) (cond (Nat.beq q 48) (ye pc 0 [oT,oT,oT]) none)) (yb q 50 (cond (Nat.beq q 49) (ye pc 0 [oT,oT,oT,oT,oT,oF]) none) (cond (Nat.beq q 50) (yb pc 34 (yb pc 11 (yb pc 5 (ye pc 0 [oT,oT,oF,oF,oF]) (ye pc 5 [oT,oT,oF,oF,oF])) (yb pc 13 (ye pc 11 [oF,oF,oF,oF,oF]) (yb pc 25 (ye pc 13 [oT,oT,oF,oF,oF]) (ye pc 25 [oT,oF,oT,oT,oT])))) (yb pc 52 (yb pc 43 (ye pc 34 [oT,oF,oT,oT,oT]) (ye pc 43 [oT,oF,oT,oT,oT])) (yb pc 55 (ye pc 52 [oT,oF,oT,oT,oT]) (yb pc 61 (ye pc 55 [oT,oF,oT,oT,oT]) (ye pc 61 [oF,oF,oF,oT,oF]))))) none))))))
def PP:PT:=(PPcode,PPfld,PPlay,PPcst,PPmth,PPinf,PPobi,PPliv)
abbrev R:=runP PP
abbrev Rr (n q pc:Nat) (L:OLs) (S:List OV) (y:Option OV×Nat×OMem):RT:=runP PP n q pc L (pushR y.1 S) y.2.1 y.2.2
def f_clamp (x1 x2 x3:Int) (m:OMem):Option (Int):=if x1<x2 then (some x2) else (if x3<x1 then (some x3) else (some x1))
theorem f_clamp_ok (t:Nat) (x1 x2 x3:Int) (m:OMem):Sim (f_clamp x1 x2 x3 m) (fun r _=>some (some (vi r),t,m)) (fun n=>R n 1 0 [qr 0,qi x1,qi x2,qi x3] [] t m) :=
  Sim.shift 3 (G:=fun n=>if x1<x2 then R n 1 5 [qn,qi x1,qi x2,qi x3] [] t m else R n 1 7 [qn,qi x1,qi x2,qi x3] [] t m) (fun _=>rfl) (Sim.ite (fun _=>Sim.shift 2 (G:=(fun _=>some (some (vi x2),t,m))) (fun _=>rfl) (Sim.pur _ _)) (fun _=>Sim.shift 3 (G:=fun n=>if x3<x1 then R n 1 12 [qn,qi x1,qn,qi x3] [] t m else R n 1 14 [qn,qi x1,qn,qi x3] [] t m) (fun _=>rfl) (Sim.ite (fun _=>Sim.shift 2 (G:=(fun _=>some (some (vi x3),t,m))) (fun _=>rfl) (Sim.pur _ _)) (fun _=>Sim.shift 2 (G:=(fun _=>some (some (vi x1),t,m))) (fun _=>rfl) (Sim.pur _ _)))))
def f_init (x1 x2 x3:Int) (m:OMem):Option (OMem):=(f_clamp x1 1 10 (sto (sto (sto m 0 0 0) 0 1 1) 0 2 2)).bind fun r_1=>((f_clamp x2 1 10 (sto (sto (sto (sto m 0 0 0) 0 1 1) 0 2 2) 0 24 r_1)).bind fun r_2=>((f_clamp x3 1 8 (sto (sto (sto (sto (sto m 0 0 0) 0 1 1) 0 2 2) 0 24 r_1) 0 25 r_2)).bind fun r_3=>(some (sto (sto (sto (sto (sto (sto (sto (sto (sto (sto (sto (sto m 0 0 0) 0 1 1) 0 2 2) 0 24 r_1) 0 25 r_2) 0 26 r_3) 0 27 0) 0 28 0) 0 29 0) 0 30 (-2)) 0 31 0) 0 32 0))))
theorem f_init_ok (x1 x2 x3:Int) (m:OMem):Sim (f_init x1 x2 x3 m) (fun w0 _=>some (none,42,w0)) (fun n=>R n 0 0 [qr 0,qi x1,qi x2,qi x3] [] 0 m) :=
  Sim.shift 12 (G:=fun n=>R n 0 20 [qr 0,qi x1,qi x2,qi x3] [vr 0] 0 (sto (sto (sto m 0 0 0) 0 1 1) 0 2 2)) (fun _=>rfl) (Sim.shift 12 (G:=fun n=>R n 0 44 [qr 0,qi x1,qi x2,qi x3] [vr 0] 6 (sto (sto (sto m 0 0 0) 0 1 1) 0 2 2)) (fun _=>rfl) (Sim.shift 12 (G:=fun n=>R n 0 68 [qr 0,qi x1,qi x2,qi x3] [vr 0] 12 (sto (sto (sto m 0 0 0) 0 1 1) 0 2 2)) (fun _=>rfl) (Sim.shift 12 (G:=fun n=>R n 0 95 [qr 0,qi x1,qi x2,qi x3] [vr 0] 18 (sto (sto (sto m 0 0 0) 0 1 1) 0 2 2)) (fun _=>rfl) (Sim.shift 12 (G:=fun n=>R n 0 120 [qr 0,qi x1,qi x2,qi x3] [vr 0] 24 (sto (sto (sto m 0 0 0) 0 1 1) 0 2 2)) (fun _=>rfl) (Sim.shift 12 (G:=fun n=>R n 0 144 [qr 0,qi x1,qi x2,qi x3] [vr 0] 30 (sto (sto (sto m 0 0 0) 0 1 1) 0 2 2)) (fun _=>rfl) (Sim.shift 12 (G:=fun n=>R n 0 171 [qr 0,qi x1,qi x2,qi x3] [vr 0] 36 (sto (sto (sto m 0 0 0) 0 1 1) 0 2 2)) (fun _=>rfl) (Sim.shift 12 (G:=fun n=>R n 0 195 [qr 0,qi x1,qi x2,qi x3] [vr 0] 42 (sto (sto (sto m 0 0 0) 0 1 1) 0 2 2)) (fun _=>rfl) (Sim.shift 5 (G:=fun n=>(R n 1 0 [qr 0,qi x1,qi 1,qi 10] [] 42 (sto (sto (sto m 0 0 0) 0 1 1) 0 2 2)).bind fun y=>Rr n 0 203 [qr 0,qi x1,qi x2,qi x3] [vr 0] y) (fun _=>rfl) (Sim.call (f_clamp_ok 42 x1 1 10 (sto (sto (sto m 0 0 0) 0 1 1) 0 2 2)) (fun _ _=>rfl) (runP_mono _ _ _ _ _ _) (fun _=>runP_mono _ _ _ _ _ _) (fun r_1=>Sim.shift 0 (G:=fun n=>R n 0 203 [qr 0,qi x1,qi x2,qi x3] [vi r_1,vr 0] 42 (sto (sto (sto m 0 0 0) 0 1 1) 0 2 2)) (fun _=>rfl) (Sim.shift 7 (G:=fun n=>(R n 1 0 [qr 0,qi x2,qi 1,qi 10] [] 42 (sto (sto (sto (sto m 0 0 0) 0 1 1) 0 2 2) 0 24 r_1)).bind fun y=>Rr n 0 215 [qr 0,qi x1,qi x2,qi x3] [vr 0] y) (fun _=>rfl) (Sim.call (f_clamp_ok 42 x2 1 10 (sto (sto (sto (sto m 0 0 0) 0 1 1) 0 2 2) 0 24 r_1)) (fun _ _=>rfl) (runP_mono _ _ _ _ _ _) (fun _=>runP_mono _ _ _ _ _ _) (fun r_2=>Sim.shift 0 (G:=fun n=>R n 0 215 [qr 0,qi x1,qi x2,qi x3] [vi r_2,vr 0] 42 (sto (sto (sto (sto m 0 0 0) 0 1 1) 0 2 2) 0 24 r_1)) (fun _=>rfl) (Sim.shift 7 (G:=fun n=>(R n 1 0 [qr 0,qi x3,qi 1,qi 8] [] 42 (sto (sto (sto (sto (sto m 0 0 0) 0 1 1) 0 2 2) 0 24 r_1) 0 25 r_2)).bind fun y=>Rr n 0 227 [qr 0,qi x1,qi x2,qi x3] [vr 0] y) (fun _=>rfl) (Sim.call (f_clamp_ok 42 x3 1 8 (sto (sto (sto (sto (sto m 0 0 0) 0 1 1) 0 2 2) 0 24 r_1) 0 25 r_2)) (fun _ _=>rfl) (runP_mono _ _ _ _ _ _) (fun _=>runP_mono _ _ _ _ _ _) (fun r_3=>Sim.shift 0 (G:=fun n=>R n 0 227 [qr 0,qi x1,qi x2,qi x3] [vi r_3,vr 0] 42 (sto (sto (sto (sto (sto m 0 0 0) 0 1 1) 0 2 2) 0 24 r_1) 0 25 r_2)) (fun _=>rfl) (Sim.shift 12 (G:=fun n=>R n 0 248 [qr 0,qi x1,qi x2,qi x3] [vi (-2),vr 0] 42 (sto (sto (sto (sto (sto (sto (sto (sto (sto m 0 0 0) 0 1 1) 0 2 2) 0 24 r_1) 0 25 r_2) 0 26 r_3) 0 27 0) 0 28 0) 0 29 0)) (fun _=>rfl) (Sim.shift 8 (G:=(fun _=>some (none,42,sto (sto (sto (sto (sto (sto (sto (sto (sto (sto (sto (sto m 0 0 0) 0 1 1) 0 2 2) 0 24 r_1) 0 25 r_2) 0 26 r_3) 0 27 0) 0 28 0) 0 29 0) 0 30 (-2)) 0 31 0) 0 32 0))) (fun _=>rfl) (Sim.pur _ _)))))))))))))))))))
def f_rawInterfere_b53 (s0:Int) (m:OMem):Option (Int):=some (s0 % 2)
theorem f_rawInterfere_b53_ok (s0:Int) (m:OMem):Sim (f_rawInterfere_b53 s0 m) (fun r _=>some (some (vi r),42,m)) (fun n=>R n 6 53 [qn,qn,qn] [vi s0] 42 m) :=
  Sim.shift 1 (G:=(fun _=>some (some (vi (s0 % 2)),42,m))) (fun _=>rfl) (Sim.pur _ _)
def f_rawInterfere (x1 x2:Int) (m:OMem):Option (Int):=if 0≤x1∧x1<10 then (if 0≤x2∧x2<10 then (if 0≤x2∧x2<10 then (if and32 (m 4 x1) (or32 (m 2 x2) (m 3 x2))=0 then (if 0≤x2∧x2<10 then (if 0≤x1∧x1<10 then (if 0≤x1∧x1<10 then (if and32 (m 4 x2) (or32 (m 2 x1) (m 3 x1))=0 then (f_rawInterfere_b53 0 m) else (f_rawInterfere_b53 1 m)) else none) else none) else none) else (some 1)) else none) else none) else none
theorem f_rawInterfere_ok (x1 x2:Int) (m:OMem):Sim (f_rawInterfere x1 x2 m) (fun r _=>some (some (vi r),42,m)) (fun n=>R n 6 0 [qr 0,qi x1,qi x2] [] 42 m) :=
  Sim.shift 4 (G:=fun n=>if 0≤x1∧x1<10 then R n 6 6 [qr 0,qi x1,qi x2] [vi (m 4 x1)] 42 m else none) (fun _=>rfl) (Sim.grd fun _=>Sim.shift 4 (G:=fun n=>if 0≤x2∧x2<10 then R n 6 12 [qr 0,qi x1,qi x2] [vi (m 2 x2),vi (m 4 x1)] 42 m else none) (fun _=>rfl) (Sim.grd fun _=>Sim.shift 4 (G:=fun n=>if 0≤x2∧x2<10 then R n 6 18 [qr 0,qi x1,qi x2] [vi (m 3 x2),vi (m 2 x2),vi (m 4 x1)] 42 m else none) (fun _=>rfl) (Sim.grd fun _=>Sim.shift 1 (G:=fun n=>R n 6 19 [qr 0,qi x1,qi x2] [vi (or32 (m 2 x2) (m 3 x2)),vi (m 4 x1)] 42 m) (fun _=>rfl) (Sim.shift 2 (G:=fun n=>if and32 (m 4 x1) (or32 (m 2 x2) (m 3 x2))=0 then R n 6 25 [qr 0,qi x1,qi x2] [] 42 m else R n 6 23 [qr 0,qi x1,qi x2] [] 42 m) (fun _=>rfl) (Sim.ite (fun _=>Sim.shift 4 (G:=fun n=>if 0≤x2∧x2<10 then R n 6 31 [qr 0,qi x1,qi x2] [vi (m 4 x2)] 42 m else none) (fun _=>rfl) (Sim.grd fun _=>Sim.shift 4 (G:=fun n=>if 0≤x1∧x1<10 then R n 6 37 [qr 0,qi x1,qi x2] [vi (m 2 x1),vi (m 4 x2)] 42 m else none) (fun _=>rfl) (Sim.grd fun _=>Sim.shift 4 (G:=fun n=>if 0≤x1∧x1<10 then R n 6 43 [qr 0,qi x1,qi x2] [vi (m 3 x1),vi (m 2 x1),vi (m 4 x2)] 42 m else none) (fun _=>rfl) (Sim.grd fun _=>Sim.shift 1 (G:=fun n=>R n 6 44 [qr 0,qi x1,qi x2] [vi (or32 (m 2 x1) (m 3 x1)),vi (m 4 x2)] 42 m) (fun _=>rfl) (Sim.shift 2 (G:=fun n=>if and32 (m 4 x2) (or32 (m 2 x1) (m 3 x1))=0 then R n 6 52 [qr 0,qi x1,qi x2] [] 42 m else R n 6 48 [qr 0,qi x1,qi x2] [] 42 m) (fun _=>rfl) (Sim.ite (fun _=>Sim.shift 1 (G:=fun n=>R n 6 53 [qn,qn,qn] [vi 0] 42 m) (fun _=>rfl) (f_rawInterfere_b53_ok 0 m)) (fun _=>Sim.shift 2 (G:=fun n=>R n 6 53 [qn,qn,qn] [vi 1] 42 m) (fun _=>rfl) (f_rawInterfere_b53_ok 1 m)))))))) (fun _=>Sim.shift 2 (G:=(fun _=>some (some (vi 1),42,m))) (fun _=>rfl) (Sim.pur _ _)))))))
def f_conflictRow_l4_H (m:OMem) (x1:Int):Int×Int→Nat→RT:=fun (x2,x3) n=>R n 5 4 [qr 0,qi x1,qi x2,qi x3] [] 42 m
def f_conflictRow_l4_X (m:OMem) (x1:Int):(Int)→Nat→RT:=fun e n=>match e with | y2=>R n 5 38 [qn,qn,qi y2,qn] [] 42 m
def f_conflictRow_b32 (x1 x2 x3:Int) (m:OMem):Option ((Int×Int)⊕((Int))):=some (.inl (x2,w32 (x3+1)))
theorem f_conflictRow_b32_ok (x1 x2 x3:Int) (m:OMem):Sim (f_conflictRow_b32 x1 x2 x3 m) (Sum.elim (f_conflictRow_l4_H m x1 ) (f_conflictRow_l4_X m x1 )) (fun n=>R n 5 32 [qr 0,qi x1,qi x2,qi x3] [] 42 m) :=
  Sim.shift 2 (G:=fun n=>R n 5 4 [qr 0,qi x1,qi x2,qi (w32 (x3+1))] [] 42 m) (fun _=>rfl) (Sim.pur _ _)
def f_conflictRow_l4 (m:OMem) (x1:Int):Int×Int→Option ((Int×Int)⊕((Int))):=fun (x2,x3)=>if x3<m 0 25 then (if x3=x1 then (f_conflictRow_b32 x1 x2 x3 m) else ((f_rawInterfere x1 x3 m).bind fun r_6=>(if r_6=0 then (f_conflictRow_b32 x1 x2 x3 m) else (f_conflictRow_b32 x1 (or32 x2 (shl32 1 x3)) x3 m)))) else (some (.inr x2))
theorem f_conflictRow_l4_ok (m:OMem) (x1:Int) (x2 x3:Int):Sim (f_conflictRow_l4 m x1 (x2,x3)) (Sum.elim (f_conflictRow_l4_H m x1 ) (f_conflictRow_l4_X m x1 )) (f_conflictRow_l4_H m x1 (x2,x3)) :=
  Sim.shift 4 (G:=fun n=>if x3<m 0 25 then R n 5 12 [qr 0,qi x1,qi x2,qi x3] [] 42 m else R n 5 38 [qr 0,qi x1,qi x2,qi x3] [] 42 m) (fun _=>rfl) (Sim.ite (fun _=>Sim.shift 3 (G:=fun n=>if x3=x1 then R n 5 32 [qr 0,qi x1,qi x2,qi x3] [] 42 m else R n 5 17 [qr 0,qi x1,qi x2,qi x3] [] 42 m) (fun _=>rfl) (Sim.ite (fun _=>f_conflictRow_b32_ok x1 x2 x3 m) (fun _=>Sim.shift 4 (G:=fun n=>(R n 6 0 [qr 0,qi x1,qi x3] [] 42 m).bind fun y=>Rr n 5 23 [qr 0,qi x1,qi x2,qi x3] [] y) (fun _=>rfl) (Sim.call (f_rawInterfere_ok x1 x3 m) (fun _ _=>rfl) (runP_mono _ _ _ _ _ _) (fun _=>runP_mono _ _ _ _ _ _) (fun r_6=>Sim.shift 0 (G:=fun n=>R n 5 23 [qr 0,qi x1,qi x2,qi x3] [vi r_6] 42 m) (fun _=>rfl) (Sim.shift 1 (G:=fun n=>if r_6=0 then R n 5 32 [qr 0,qi x1,qi x2,qi x3] [] 42 m else R n 5 26 [qr 0,qi x1,qi x2,qi x3] [] 42 m) (fun _=>rfl) (Sim.ite (fun _=>f_conflictRow_b32_ok x1 x2 x3 m) (fun _=>Sim.shift 4 (G:=fun n=>R n 5 30 [qr 0,qi x1,qi x2,qi x3] [vi (shl32 1 x3),vi x2] 42 m) (fun _=>rfl) (Sim.shift 2 (G:=fun n=>R n 5 32 [qr 0,qi x1,qi (or32 x2 (shl32 1 x3)),qi x3] [] 42 m) (fun _=>rfl) (f_conflictRow_b32_ok x1 (or32 x2 (shl32 1 x3)) x3 m)))))))))) (fun _=>Sim.leaf rfl (fun _=>rfl)))
def f_conflictRow (x1:Int) (m:OMem):Option (Int):=(lp (f_conflictRow_l4 m x1) NN (0,0)).bind fun x2_7=>(some x2_7)
theorem f_conflictRow_ok (x1:Int) (m:OMem):Sim (f_conflictRow x1 m) (fun r _=>some (some (vi r),42,m)) (fun n=>R n 5 0 [qr 0,qi x1,qn,qn] [] 42 m) :=
  Sim.shift 4 (G:=fun n=>R n 5 4 [qr 0,qi x1,qi 0,qi 0] [] 42 m) (fun _=>rfl) (Sim.bind (Sim.lp (σ:=Int×Int) (fun ⟨x2L,x3L⟩=>f_conflictRow_l4_ok m x1 x2L x3L) NN (0,0)) (fun x2_7=>Sim.shift 2 (G:=(fun _=>some (some (vi x2_7),42,m))) (fun _=>rfl) (Sim.pur _ _)))
def f_buildConflicts_l2_H:Int×OMem→Nat→RT:=fun (x1,m) n=>R n 4 2 [qr 0,qi x1] [] 42 m
def f_buildConflicts_l2_X:(OMem)→Nat→RT:=fun e n=>match e with | w=>R n 4 21 [qr 0,qn] [] 42 w
def f_buildConflicts_l2:Int×OMem→Option ((Int×OMem)⊕((OMem))):=fun (x1,m)=>if x1<10 then (if 0≤x1∧x1<10 then (some (.inl (w32 (x1+1),sto m 6 x1 0))) else none) else (some (.inr m))
theorem f_buildConflicts_l2_ok (x1:Int) (m:OMem):Sim (f_buildConflicts_l2 (x1,m)) (Sum.elim (f_buildConflicts_l2_H ) (f_buildConflicts_l2_X )) (f_buildConflicts_l2_H (x1,m)) :=
  Sim.shift 3 (G:=fun n=>if x1<10 then R n 4 8 [qr 0,qi x1] [] 42 m else R n 4 21 [qr 0,qi x1] [] 42 m) (fun _=>rfl) (Sim.ite (fun _=>Sim.shift 5 (G:=fun n=>if 0≤x1∧x1<10 then R n 4 15 [qr 0,qi x1] [] 42 (sto m 6 x1 0) else none) (fun _=>rfl) (Sim.grd fun _=>Sim.shift 2 (G:=fun n=>R n 4 2 [qr 0,qi (w32 (x1+1))] [] 42 (sto m 6 x1 0)) (fun _=>rfl) (Sim.pur _ _))) (fun _=>Sim.leaf rfl (fun _=>rfl)))
def f_buildConflicts_l23_H:Int×OMem→Nat→RT:=fun (x1,m) n=>R n 4 23 [qr 0,qi x1] [] 42 m
def f_buildConflicts_l23_X:(OMem)→Nat→RT:=fun e n=>match e with | w=>R n 4 48 [qn,qn] [] 42 w
def f_buildConflicts_l23:Int×OMem→Option ((Int×OMem)⊕((OMem))):=fun (x1,m)=>if x1<m 0 25 then ((f_conflictRow x1 m).bind fun r_8=>(if 0≤x1∧x1<10 then (some (.inl (w32 (x1+1),sto m 6 x1 r_8))) else none)) else (some (.inr m))
theorem f_buildConflicts_l23_ok (x1:Int) (m:OMem):Sim (f_buildConflicts_l23 (x1,m)) (Sum.elim (f_buildConflicts_l23_H ) (f_buildConflicts_l23_X )) (f_buildConflicts_l23_H (x1,m)) :=
  Sim.shift 4 (G:=fun n=>if x1<m 0 25 then R n 4 31 [qr 0,qi x1] [] 42 m else R n 4 48 [qr 0,qi x1] [] 42 m) (fun _=>rfl) (Sim.ite (fun _=>Sim.shift 6 (G:=fun n=>(R n 5 0 [qr 0,qi x1,qn,qn] [] 42 m).bind fun y=>Rr n 4 41 [qr 0,qi x1] [vi x1,vr 6] y) (fun _=>rfl) (Sim.call (f_conflictRow_ok x1 m) (fun _ _=>rfl) (runP_mono _ _ _ _ _ _) (fun _=>runP_mono _ _ _ _ _ _) (fun r_8=>Sim.shift 0 (G:=fun n=>R n 4 41 [qr 0,qi x1] [vi r_8,vi x1,vr 6] 42 m) (fun _=>rfl) (Sim.shift 1 (G:=fun n=>if 0≤x1∧x1<10 then R n 4 42 [qr 0,qi x1] [] 42 (sto m 6 x1 r_8) else none) (fun _=>rfl) (Sim.grd fun _=>Sim.shift 2 (G:=fun n=>R n 4 23 [qr 0,qi (w32 (x1+1))] [] 42 (sto m 6 x1 r_8)) (fun _=>rfl) (Sim.pur _ _)))))) (fun _=>Sim.leaf rfl (fun _=>rfl)))
def f_buildConflicts (m:OMem):Option (OMem):=(lp (f_buildConflicts_l2 ) NN (0,m)).bind fun m_5=>((lp (f_buildConflicts_l23 ) NN (0,m_5)).bind fun m_9=>(some m_9))
theorem f_buildConflicts_ok (m:OMem):Sim (f_buildConflicts m) (fun w0 _=>some (none,42,w0)) (fun n=>R n 4 0 [qr 0,qn] [] 42 m) :=
  Sim.shift 2 (G:=fun n=>R n 4 2 [qr 0,qi 0] [] 42 m) (fun _=>rfl) (Sim.bind (Sim.lp (σ:=Int×OMem) (fun ⟨x1L,mL⟩=>f_buildConflicts_l2_ok x1L mL) NN (0,m)) (fun m_5=>Sim.shift 2 (G:=fun n=>R n 4 23 [qr 0,qi 0] [] 42 m_5) (fun _=>rfl) (Sim.bind (Sim.lp (σ:=Int×OMem) (fun ⟨x1L,mL⟩=>f_buildConflicts_l23_ok x1L mL) NN (0,m_5)) (fun m_9=>Sim.shift 1 (G:=(fun _=>some (none,42,m_9))) (fun _=>rfl) (Sim.pur _ _)))))
def f_lowestBit_l2_H (t:Nat) (m:OMem) (x1:Int):Int→Nat→RT:=fun x2 n=>R n 8 2 [qn,qi x1,qi x2] [] t m
def f_lowestBit_l2_X (t:Nat) (m:OMem) (x1:Int):(Int)⊕(Unit)→Nat→RT:=fun e n=>match e with | (.inl y2)=>R n 8 16 [qn,qn,qi y2] [] t m | (.inr _)=>R n 8 24 [qn,qn,qn] [] t m
def f_lowestBit_l2 (m:OMem) (x1:Int):Int→Option ((Int)⊕((Int)⊕(Unit))):=fun x2=>if x2<10 then (if and32 x1 (shl32 1 x2)=0 then (some (.inl (w32 (x2+1)))) else (some (.inr (.inl x2)))) else (some (.inr (.inr ())))
theorem f_lowestBit_l2_ok (t:Nat) (m:OMem) (x1:Int) (x2:Int):Sim (f_lowestBit_l2 m x1 x2) (Sum.elim (f_lowestBit_l2_H t m x1 ) (f_lowestBit_l2_X t m x1 )) (f_lowestBit_l2_H t m x1 x2) :=
  Sim.shift 3 (G:=fun n=>if x2<10 then R n 8 8 [qn,qi x1,qi x2] [] t m else R n 8 24 [qn,qi x1,qi x2] [] t m) (fun _=>rfl) (Sim.ite (fun _=>Sim.shift 4 (G:=fun n=>R n 8 12 [qn,qi x1,qi x2] [vi (shl32 1 x2),vi x1] t m) (fun _=>rfl) (Sim.shift 2 (G:=fun n=>if and32 x1 (shl32 1 x2)=0 then R n 8 18 [qn,qi x1,qi x2] [] t m else R n 8 16 [qn,qi x1,qi x2] [] t m) (fun _=>rfl) (Sim.ite (fun _=>Sim.shift 2 (G:=fun n=>R n 8 2 [qn,qi x1,qi (w32 (x2+1))] [] t m) (fun _=>rfl) (Sim.pur _ _)) (fun _=>Sim.leaf rfl (fun _=>rfl))))) (fun _=>Sim.leaf rfl (fun _=>rfl)))
def f_lowestBit (x1:Int) (m:OMem):Option (Int):=(lp (f_lowestBit_l2 m x1) NN 0).bind fun e=>match e with | (.inl x2_11)=>(some x2_11) | (.inr _)=>(some 0)
theorem f_lowestBit_ok (t:Nat) (x1:Int) (m:OMem):Sim (f_lowestBit x1 m) (fun r _=>some (some (vi r),t,m)) (fun n=>R n 8 0 [qr 0,qi x1,qn] [] t m) :=
  Sim.shift 2 (G:=fun n=>R n 8 2 [qn,qi x1,qi 0] [] t m) (fun _=>rfl) (Sim.bind (Sim.lp (σ:=Int) (fun x2L=>f_lowestBit_l2_ok t m x1 x2L) NN 0) (fun e=>match e with | (.inl x2_11)=>Sim.shift 2 (G:=(fun _=>some (some (vi x2_11),t,m))) (fun _=>rfl) (Sim.pur _ _) | (.inr _)=>Sim.shift 2 (G:=(fun _=>some (some (vi 0),t,m))) (fun _=>rfl) (Sim.pur _ _)))
def f_buildUnions_l37_H (x1:Int):Int×OMem→Nat→RT:=fun (x2,m) n=>R n 7 37 [qr 0,qi x1,qi x2,qn,qn] [] 42 m
def f_buildUnions_l37_X (x1:Int):(OMem)→Nat→RT:=fun e n=>match e with | w=>R n 7 154 [qn,qn,qn,qn,qn] [] 42 w
def f_buildUnions_b147 (x1 x2 s1 s2:Int) (m:OMem):Option ((Int×OMem)⊕((OMem))):=if 0≤s1∧s1<1024 then (some (.inl (w32 (x2+1),sto m 10 s1 (s2 % 2)))) else none
theorem f_buildUnions_b147_ok (x1 x2 s1 s2:Int) (m:OMem):Sim (f_buildUnions_b147 x1 x2 s1 s2 m) (Sum.elim (f_buildUnions_l37_H x1 ) (f_buildUnions_l37_X x1 )) (fun n=>R n 7 147 [qr 0,qi x1,qi x2,qn,qn] [vi s2,vi s1,vr 10] 42 m) :=
  Sim.shift 1 (G:=fun n=>if 0≤s1∧s1<1024 then R n 7 148 [qr 0,qi x1,qi x2,qn,qn] [] 42 (sto m 10 s1 (s2 % 2)) else none) (fun _=>rfl) (Sim.grd fun _=>Sim.shift 2 (G:=fun n=>R n 7 37 [qr 0,qi x1,qi (w32 (x2+1)),qn,qn] [] 42 (sto m 10 s1 (s2 % 2))) (fun _=>rfl) (Sim.pur _ _))
def f_buildUnions_b146 (x1 x2 s1:Int) (m:OMem):Option ((Int×OMem)⊕((OMem))):=f_buildUnions_b147 x1 x2 s1 0 m
theorem f_buildUnions_b146_ok (x1 x2 s1:Int) (m:OMem):Sim (f_buildUnions_b146 x1 x2 s1 m) (Sum.elim (f_buildUnions_l37_H x1 ) (f_buildUnions_l37_X x1 )) (fun n=>R n 7 146 [qr 0,qi x1,qi x2,qn,qn] [vi s1,vr 10] 42 m) :=
  Sim.shift 1 (G:=fun n=>R n 7 147 [qr 0,qi x1,qi x2,qn,qn] [vi 0,vi s1,vr 10] 42 m) (fun _=>rfl) (f_buildUnions_b147_ok x1 x2 s1 0 m)
def f_buildUnions_l37 (x1:Int):Int×OMem→Option ((Int×OMem)⊕((OMem))):=fun (x2,m)=>if x2<x1 then ((f_lowestBit x2 m).bind fun r_12=>(if 0≤and32 x2 (w32 (x2 - 1))∧and32 x2 (w32 (x2 - 1))<1024 then (if 0≤r_12∧r_12<10 then (if 0≤x2∧x2<1024 then (if 0≤and32 x2 (w32 (x2 - 1))∧and32 x2 (w32 (x2 - 1))<1024 then (if 0≤r_12∧r_12<10 then (if 0≤x2∧x2<1024 then (if 0≤and32 x2 (w32 (x2 - 1))∧and32 x2 (w32 (x2 - 1))<1024 then (if 0≤r_12∧r_12<10 then (if 0≤x2∧x2<1024 then (if 0≤and32 x2 (w32 (x2 - 1))∧and32 x2 (w32 (x2 - 1))<1024 then (if m 10 (and32 x2 (w32 (x2 - 1)))=0 then (f_buildUnions_b146 x1 x2 x2 (sto (sto (sto m 7 x2 (or32 (m 7 (and32 x2 (w32 (x2 - 1)))) (m 2 r_12))) 8 x2 (or32 (m 8 (and32 x2 (w32 (x2 - 1)))) (m 3 r_12))) 9 x2 (or32 (m 9 (and32 x2 (w32 (x2 - 1)))) (m 4 r_12)))) else (if 0≤r_12∧r_12<10 then (if and32 (m 6 r_12) (and32 x2 (w32 (x2 - 1)))=0 then (f_buildUnions_b147 x1 x2 x2 1 (sto (sto (sto m 7 x2 (or32 (m 7 (and32 x2 (w32 (x2 - 1)))) (m 2 r_12))) 8 x2 (or32 (m 8 (and32 x2 (w32 (x2 - 1)))) (m 3 r_12))) 9 x2 (or32 (m 9 (and32 x2 (w32 (x2 - 1)))) (m 4 r_12)))) else (f_buildUnions_b146 x1 x2 x2 (sto (sto (sto m 7 x2 (or32 (m 7 (and32 x2 (w32 (x2 - 1)))) (m 2 r_12))) 8 x2 (or32 (m 8 (and32 x2 (w32 (x2 - 1)))) (m 3 r_12))) 9 x2 (or32 (m 9 (and32 x2 (w32 (x2 - 1)))) (m 4 r_12))))) else none)) else none) else none) else none) else none) else none) else none) else none) else none) else none) else none)) else (some (.inr m))
theorem f_buildUnions_l37_ok (x1:Int) (x2:Int) (m:OMem):Sim (f_buildUnions_l37 x1 (x2,m)) (Sum.elim (f_buildUnions_l37_H x1 ) (f_buildUnions_l37_X x1 )) (f_buildUnions_l37_H x1 (x2,m)) :=
  Sim.shift 3 (G:=fun n=>if x2<x1 then R n 7 42 [qr 0,qi x1,qi x2,qn,qn] [] 42 m else R n 7 154 [qr 0,qi x1,qi x2,qn,qn] [] 42 m) (fun _=>rfl) (Sim.ite (fun _=>Sim.shift 3 (G:=fun n=>(R n 8 0 [qr 0,qi x2,qn] [] 42 m).bind fun y=>Rr n 7 47 [qr 0,qi x1,qi x2,qn,qn] [] y) (fun _=>rfl) (Sim.call (f_lowestBit_ok 42 x2 m) (fun _ _=>rfl) (runP_mono _ _ _ _ _ _) (fun _=>runP_mono _ _ _ _ _ _) (fun r_12=>Sim.shift 0 (G:=fun n=>R n 7 47 [qr 0,qi x1,qi x2,qn,qn] [vi r_12] 42 m) (fun _=>rfl) (Sim.shift 5 (G:=fun n=>R n 7 52 [qr 0,qi x1,qi x2,qi r_12,qn] [vi (w32 (x2 - 1)),vi x2] 42 m) (fun _=>rfl) (Sim.shift 2 (G:=fun n=>R n 7 55 [qr 0,qi x1,qi x2,qi r_12,qi (and32 x2 (w32 (x2 - 1)))] [] 42 m) (fun _=>rfl) (Sim.shift 7 (G:=fun n=>if 0≤and32 x2 (w32 (x2 - 1))∧and32 x2 (w32 (x2 - 1))<1024 then R n 7 67 [qr 0,qi x1,qi x2,qi r_12,qi (and32 x2 (w32 (x2 - 1)))] [vi (m 7 (and32 x2 (w32 (x2 - 1)))),vi x2,vr 7] 42 m else none) (fun _=>rfl) (Sim.grd fun _=>Sim.shift 4 (G:=fun n=>if 0≤r_12∧r_12<10 then R n 7 73 [qr 0,qi x1,qi x2,qi r_12,qi (and32 x2 (w32 (x2 - 1)))] [vi (m 2 r_12),vi (m 7 (and32 x2 (w32 (x2 - 1)))),vi x2,vr 7] 42 m else none) (fun _=>rfl) (Sim.grd fun _=>Sim.shift 2 (G:=fun n=>if 0≤x2∧x2<1024 then R n 7 75 [qr 0,qi x1,qi x2,qi r_12,qi (and32 x2 (w32 (x2 - 1)))] [] 42 (sto m 7 x2 (or32 (m 7 (and32 x2 (w32 (x2 - 1)))) (m 2 r_12))) else none) (fun _=>rfl) (Sim.grd fun _=>Sim.shift 7 (G:=fun n=>if 0≤and32 x2 (w32 (x2 - 1))∧and32 x2 (w32 (x2 - 1))<1024 then R n 7 87 [qr 0,qi x1,qi x2,qi r_12,qi (and32 x2 (w32 (x2 - 1)))] [vi (m 8 (and32 x2 (w32 (x2 - 1)))),vi x2,vr 8] 42 (sto m 7 x2 (or32 (m 7 (and32 x2 (w32 (x2 - 1)))) (m 2 r_12))) else none) (fun _=>rfl) (Sim.grd fun _=>Sim.shift 4 (G:=fun n=>if 0≤r_12∧r_12<10 then R n 7 93 [qr 0,qi x1,qi x2,qi r_12,qi (and32 x2 (w32 (x2 - 1)))] [vi (m 3 r_12),vi (m 8 (and32 x2 (w32 (x2 - 1)))),vi x2,vr 8] 42 (sto m 7 x2 (or32 (m 7 (and32 x2 (w32 (x2 - 1)))) (m 2 r_12))) else none) (fun _=>rfl) (Sim.grd fun _=>Sim.shift 2 (G:=fun n=>if 0≤x2∧x2<1024 then R n 7 95 [qr 0,qi x1,qi x2,qi r_12,qi (and32 x2 (w32 (x2 - 1)))] [] 42 (sto (sto m 7 x2 (or32 (m 7 (and32 x2 (w32 (x2 - 1)))) (m 2 r_12))) 8 x2 (or32 (m 8 (and32 x2 (w32 (x2 - 1)))) (m 3 r_12))) else none) (fun _=>rfl) (Sim.grd fun _=>Sim.shift 7 (G:=fun n=>if 0≤and32 x2 (w32 (x2 - 1))∧and32 x2 (w32 (x2 - 1))<1024 then R n 7 107 [qr 0,qi x1,qi x2,qi r_12,qi (and32 x2 (w32 (x2 - 1)))] [vi (m 9 (and32 x2 (w32 (x2 - 1)))),vi x2,vr 9] 42 (sto (sto m 7 x2 (or32 (m 7 (and32 x2 (w32 (x2 - 1)))) (m 2 r_12))) 8 x2 (or32 (m 8 (and32 x2 (w32 (x2 - 1)))) (m 3 r_12))) else none) (fun _=>rfl) (Sim.grd fun _=>Sim.shift 4 (G:=fun n=>if 0≤r_12∧r_12<10 then R n 7 113 [qr 0,qi x1,qi x2,qi r_12,qi (and32 x2 (w32 (x2 - 1)))] [vi (m 4 r_12),vi (m 9 (and32 x2 (w32 (x2 - 1)))),vi x2,vr 9] 42 (sto (sto m 7 x2 (or32 (m 7 (and32 x2 (w32 (x2 - 1)))) (m 2 r_12))) 8 x2 (or32 (m 8 (and32 x2 (w32 (x2 - 1)))) (m 3 r_12))) else none) (fun _=>rfl) (Sim.grd fun _=>Sim.shift 2 (G:=fun n=>if 0≤x2∧x2<1024 then R n 7 115 [qr 0,qi x1,qi x2,qi r_12,qi (and32 x2 (w32 (x2 - 1)))] [] 42 (sto (sto (sto m 7 x2 (or32 (m 7 (and32 x2 (w32 (x2 - 1)))) (m 2 r_12))) 8 x2 (or32 (m 8 (and32 x2 (w32 (x2 - 1)))) (m 3 r_12))) 9 x2 (or32 (m 9 (and32 x2 (w32 (x2 - 1)))) (m 4 r_12))) else none) (fun _=>rfl) (Sim.grd fun _=>Sim.shift 7 (G:=fun n=>if 0≤and32 x2 (w32 (x2 - 1))∧and32 x2 (w32 (x2 - 1))<1024 then R n 7 127 [qr 0,qi x1,qi x2,qi r_12,qi (and32 x2 (w32 (x2 - 1)))] [vi (m 10 (and32 x2 (w32 (x2 - 1)))),vi x2,vr 10] 42 (sto (sto (sto m 7 x2 (or32 (m 7 (and32 x2 (w32 (x2 - 1)))) (m 2 r_12))) 8 x2 (or32 (m 8 (and32 x2 (w32 (x2 - 1)))) (m 3 r_12))) 9 x2 (or32 (m 9 (and32 x2 (w32 (x2 - 1)))) (m 4 r_12))) else none) (fun _=>rfl) (Sim.grd fun _=>Sim.shift 1 (G:=fun n=>if m 10 (and32 x2 (w32 (x2 - 1)))=0 then R n 7 146 [qr 0,qi x1,qi x2,qi r_12,qi (and32 x2 (w32 (x2 - 1)))] [vi x2,vr 10] 42 (sto (sto (sto m 7 x2 (or32 (m 7 (and32 x2 (w32 (x2 - 1)))) (m 2 r_12))) 8 x2 (or32 (m 8 (and32 x2 (w32 (x2 - 1)))) (m 3 r_12))) 9 x2 (or32 (m 9 (and32 x2 (w32 (x2 - 1)))) (m 4 r_12))) else R n 7 130 [qr 0,qi x1,qi x2,qi r_12,qi (and32 x2 (w32 (x2 - 1)))] [vi x2,vr 10] 42 (sto (sto (sto m 7 x2 (or32 (m 7 (and32 x2 (w32 (x2 - 1)))) (m 2 r_12))) 8 x2 (or32 (m 8 (and32 x2 (w32 (x2 - 1)))) (m 3 r_12))) 9 x2 (or32 (m 9 (and32 x2 (w32 (x2 - 1)))) (m 4 r_12)))) (fun _=>rfl) (Sim.ite (fun _=>Sim.jmp (f_buildUnions_b146_ok x1 x2 x2 (sto (sto (sto m 7 x2 (or32 (m 7 (and32 x2 (w32 (x2 - 1)))) (m 2 r_12))) 8 x2 (or32 (m 8 (and32 x2 (w32 (x2 - 1)))) (m 3 r_12))) 9 x2 (or32 (m 9 (and32 x2 (w32 (x2 - 1)))) (m 4 r_12)))) rfl (fun _=>rfl)) (fun _=>Sim.shift 4 (G:=fun n=>if 0≤r_12∧r_12<10 then R n 7 136 [qr 0,qi x1,qi x2,qi r_12,qi (and32 x2 (w32 (x2 - 1)))] [vi (m 6 r_12),vi x2,vr 10] 42 (sto (sto (sto m 7 x2 (or32 (m 7 (and32 x2 (w32 (x2 - 1)))) (m 2 r_12))) 8 x2 (or32 (m 8 (and32 x2 (w32 (x2 - 1)))) (m 3 r_12))) 9 x2 (or32 (m 9 (and32 x2 (w32 (x2 - 1)))) (m 4 r_12))) else none) (fun _=>rfl) (Sim.grd fun _=>Sim.shift 3 (G:=fun n=>if and32 (m 6 r_12) (and32 x2 (w32 (x2 - 1)))=0 then R n 7 142 [qr 0,qi x1,qi x2,qi r_12,qi (and32 x2 (w32 (x2 - 1)))] [vi x2,vr 10] 42 (sto (sto (sto m 7 x2 (or32 (m 7 (and32 x2 (w32 (x2 - 1)))) (m 2 r_12))) 8 x2 (or32 (m 8 (and32 x2 (w32 (x2 - 1)))) (m 3 r_12))) 9 x2 (or32 (m 9 (and32 x2 (w32 (x2 - 1)))) (m 4 r_12))) else R n 7 146 [qr 0,qi x1,qi x2,qi r_12,qi (and32 x2 (w32 (x2 - 1)))] [vi x2,vr 10] 42 (sto (sto (sto m 7 x2 (or32 (m 7 (and32 x2 (w32 (x2 - 1)))) (m 2 r_12))) 8 x2 (or32 (m 8 (and32 x2 (w32 (x2 - 1)))) (m 3 r_12))) 9 x2 (or32 (m 9 (and32 x2 (w32 (x2 - 1)))) (m 4 r_12)))) (fun _=>rfl) (Sim.ite (fun _=>Sim.shift 2 (G:=fun n=>R n 7 147 [qr 0,qi x1,qi x2,qn,qn] [vi 1,vi x2,vr 10] 42 (sto (sto (sto m 7 x2 (or32 (m 7 (and32 x2 (w32 (x2 - 1)))) (m 2 r_12))) 8 x2 (or32 (m 8 (and32 x2 (w32 (x2 - 1)))) (m 3 r_12))) 9 x2 (or32 (m 9 (and32 x2 (w32 (x2 - 1)))) (m 4 r_12)))) (fun _=>rfl) (f_buildUnions_b147_ok x1 x2 x2 1 (sto (sto (sto m 7 x2 (or32 (m 7 (and32 x2 (w32 (x2 - 1)))) (m 2 r_12))) 8 x2 (or32 (m 8 (and32 x2 (w32 (x2 - 1)))) (m 3 r_12))) 9 x2 (or32 (m 9 (and32 x2 (w32 (x2 - 1)))) (m 4 r_12))))) (fun _=>Sim.jmp (f_buildUnions_b146_ok x1 x2 x2 (sto (sto (sto m 7 x2 (or32 (m 7 (and32 x2 (w32 (x2 - 1)))) (m 2 r_12))) 8 x2 (or32 (m 8 (and32 x2 (w32 (x2 - 1)))) (m 3 r_12))) 9 x2 (or32 (m 9 (and32 x2 (w32 (x2 - 1)))) (m 4 r_12)))) rfl (fun _=>rfl)))))))))))))))))))))) (fun _=>Sim.leaf rfl (fun _=>rfl)))
def f_buildUnions (m:OMem):Option (OMem):=(lp (f_buildUnions_l37 (shl32 1 (m 0 25))) NN (1,sto (sto (sto (sto m 7 0 0) 8 0 0) 9 0 0) 10 0 1)).bind fun m_13=>(some m_13)
theorem f_buildUnions_ok (m:OMem):Sim (f_buildUnions m) (fun w0 _=>some (none,42,w0)) (fun n=>R n 7 0 [qr 0,qn,qn,qn,qn] [] 42 m) :=
  Sim.shift 12 (G:=fun n=>R n 7 18 [qr 0,qn,qn,qn,qn] [vr 9] 42 (sto (sto m 7 0 0) 8 0 0)) (fun _=>rfl) (Sim.shift 12 (G:=fun n=>R n 7 34 [qr 0,qn,qn,qn,qn] [vi (shl32 1 (m 0 25))] 42 (sto (sto (sto (sto m 7 0 0) 8 0 0) 9 0 0) 10 0 1)) (fun _=>rfl) (Sim.shift 3 (G:=fun n=>R n 7 37 [qr 0,qi (shl32 1 (m 0 25)),qi 1,qn,qn] [] 42 (sto (sto (sto (sto m 7 0 0) 8 0 0) 9 0 0) 10 0 1)) (fun _=>rfl) (Sim.bind (Sim.lp (σ:=Int×OMem) (fun ⟨x2L,mL⟩=>f_buildUnions_l37_ok (shl32 1 (m 0 25)) x2L mL) NN (1,sto (sto (sto (sto m 7 0 0) 8 0 0) 9 0 0) 10 0 1)) (fun m_13=>Sim.shift 1 (G:=(fun _=>some (none,42,m_13))) (fun _=>rfl) (Sim.pur _ _)))))
def f_hasBit_b10 (m:OMem):Option (Int):=some 0
theorem f_hasBit_b10_ok (t:Nat) (m:OMem):Sim (f_hasBit_b10 m) (fun r _=>some (some (vi r),t,m)) (fun n=>R n 31 10 [qn,qn,qn] [] t m) :=
  Sim.shift 2 (G:=(fun _=>some (some (vi 0),t,m))) (fun _=>rfl) (Sim.pur _ _)
def f_hasBit_b25 (s0:Int) (m:OMem):Option (Int):=some (s0 % 2)
theorem f_hasBit_b25_ok (t:Nat) (s0:Int) (m:OMem):Sim (f_hasBit_b25 s0 m) (fun r _=>some (some (vi r),t,m)) (fun n=>R n 31 25 [qn,qn,qn] [vi s0] t m) :=
  Sim.shift 1 (G:=(fun _=>some (some (vi (s0 % 2)),t,m))) (fun _=>rfl) (Sim.pur _ _)
def f_hasBit (x1 x2:Int) (m:OMem):Option (Int):=if x2<0 then (f_hasBit_b10 m) else (if 30<x2 then (f_hasBit_b10 m) else (if and32 x1 (shl32 1 x2)=0 then (f_hasBit_b25 0 m) else (f_hasBit_b25 1 m)))
theorem f_hasBit_ok (t:Nat) (x1 x2:Int) (m:OMem):Sim (f_hasBit x1 x2 m) (fun r _=>some (some (vi r),t,m)) (fun n=>R n 31 0 [qr 0,qi x1,qi x2] [] t m) :=
  Sim.shift 2 (G:=fun n=>if x2<0 then R n 31 10 [qn,qi x1,qi x2] [] t m else R n 31 4 [qn,qi x1,qi x2] [] t m) (fun _=>rfl) (Sim.ite (fun _=>Sim.jmp (f_hasBit_b10_ok t m) rfl (fun _=>rfl)) (fun _=>Sim.shift 3 (G:=fun n=>if 30<x2 then R n 31 10 [qn,qi x1,qi x2] [] t m else R n 31 12 [qn,qi x1,qi x2] [] t m) (fun _=>rfl) (Sim.ite (fun _=>Sim.jmp (f_hasBit_b10_ok t m) rfl (fun _=>rfl)) (fun _=>Sim.shift 4 (G:=fun n=>R n 31 16 [qn,qi x1,qi x2] [vi (shl32 1 x2),vi x1] t m) (fun _=>rfl) (Sim.shift 2 (G:=fun n=>if and32 x1 (shl32 1 x2)=0 then R n 31 24 [qn,qi x1,qi x2] [] t m else R n 31 20 [qn,qi x1,qi x2] [] t m) (fun _=>rfl) (Sim.ite (fun _=>Sim.shift 1 (G:=fun n=>R n 31 25 [qn,qn,qn] [vi 0] t m) (fun _=>rfl) (f_hasBit_b25_ok t 0 m)) (fun _=>Sim.shift 2 (G:=fun n=>R n 31 25 [qn,qn,qn] [vi 1] t m) (fun _=>rfl) (f_hasBit_b25_ok t 1 m))))))))
def f_meetsMutex_b10 (m:OMem):Option (Int):=some 0
theorem f_meetsMutex_b10_ok (m:OMem):Sim (f_meetsMutex_b10 m) (fun r _=>some (some (vi r),42,m)) (fun n=>R n 30 10 [qn,qn,qn,qn,qn] [] 42 m) :=
  Sim.shift 2 (G:=(fun _=>some (some (vi 0),42,m))) (fun _=>rfl) (Sim.pur _ _)
def f_meetsMutex_l15_H (m:OMem) (x1 x2 x3:Int):Int→Nat→RT:=fun x4 n=>R n 30 15 [qr 0,qi x1,qi x2,qi x3,qi x4] [] 42 m
def f_meetsMutex_l15_X (m:OMem) (x1 x2 x3:Int):(Unit)⊕(Unit)→Nat→RT:=fun e n=>match e with | (.inl _)=>R n 30 51 [qn,qn,qn,qn,qn] [] 42 m | (.inr _)=>R n 30 59 [qn,qn,qn,qn,qn] [] 42 m
def f_meetsMutex_b53 (x1 x2 x3 x4:Int) (m:OMem):Option ((Int)⊕((Unit)⊕(Unit))):=some (.inl (w32 (x4+1)))
theorem f_meetsMutex_b53_ok (x1 x2 x3 x4:Int) (m:OMem):Sim (f_meetsMutex_b53 x1 x2 x3 x4 m) (Sum.elim (f_meetsMutex_l15_H m x1 x2 x3 ) (f_meetsMutex_l15_X m x1 x2 x3 )) (fun n=>R n 30 53 [qr 0,qi x1,qi x2,qi x3,qi x4] [] 42 m) :=
  Sim.shift 2 (G:=fun n=>R n 30 15 [qr 0,qi x1,qi x2,qi x3,qi (w32 (x4+1))] [] 42 m) (fun _=>rfl) (Sim.pur _ _)
def f_meetsMutex_l15 (m:OMem) (x1 x2 x3:Int):Int→Option ((Int)⊕((Unit)⊕(Unit))):=fun x4=>if x4<m 0 24 then ((f_hasBit x2 x4 m).bind fun r_17=>(if r_17=0 then (f_meetsMutex_b53 x1 x2 x3 x4 m) else (if 0≤w32 ((w32 (x1*10))+x4)∧w32 ((w32 (x1*10))+x4)<90 then (if and32 (m 13 (w32 ((w32 (x1*10))+x4))) x3=0 then (f_meetsMutex_b53 x1 x2 x3 x4 m) else (some (.inr (.inl ())))) else none))) else (some (.inr (.inr ())))
theorem f_meetsMutex_l15_ok (m:OMem) (x1 x2 x3:Int) (x4:Int):Sim (f_meetsMutex_l15 m x1 x2 x3 x4) (Sum.elim (f_meetsMutex_l15_H m x1 x2 x3 ) (f_meetsMutex_l15_X m x1 x2 x3 )) (f_meetsMutex_l15_H m x1 x2 x3 x4) :=
  Sim.shift 4 (G:=fun n=>if x4<m 0 24 then R n 30 24 [qr 0,qi x1,qi x2,qi x3,qi x4] [] 42 m else R n 30 59 [qr 0,qi x1,qi x2,qi x3,qi x4] [] 42 m) (fun _=>rfl) (Sim.ite (fun _=>Sim.shift 4 (G:=fun n=>(R n 31 0 [qr 0,qi x2,qi x4] [] 42 m).bind fun y=>Rr n 30 31 [qr 0,qi x1,qi x2,qi x3,qi x4] [] y) (fun _=>rfl) (Sim.call (f_hasBit_ok 42 x2 x4 m) (fun _ _=>rfl) (runP_mono _ _ _ _ _ _) (fun _=>runP_mono _ _ _ _ _ _) (fun r_17=>Sim.shift 0 (G:=fun n=>R n 30 31 [qr 0,qi x1,qi x2,qi x3,qi x4] [vi r_17] 42 m) (fun _=>rfl) (Sim.shift 1 (G:=fun n=>if r_17=0 then R n 30 53 [qr 0,qi x1,qi x2,qi x3,qi x4] [] 42 m else R n 30 34 [qr 0,qi x1,qi x2,qi x3,qi x4] [] 42 m) (fun _=>rfl) (Sim.ite (fun _=>f_meetsMutex_b53_ok x1 x2 x3 x4 m) (fun _=>Sim.shift 7 (G:=fun n=>R n 30 45 [qr 0,qi x1,qi x2,qi x3,qi x4] [vi (w32 ((w32 (x1*10))+x4)),vr 13] 42 m) (fun _=>rfl) (Sim.shift 1 (G:=fun n=>if 0≤w32 ((w32 (x1*10))+x4)∧w32 ((w32 (x1*10))+x4)<90 then R n 30 46 [qr 0,qi x1,qi x2,qi x3,qi x4] [vi (m 13 (w32 ((w32 (x1*10))+x4)))] 42 m else none) (fun _=>rfl) (Sim.grd fun _=>Sim.shift 3 (G:=fun n=>if and32 (m 13 (w32 ((w32 (x1*10))+x4))) x3=0 then R n 30 53 [qr 0,qi x1,qi x2,qi x3,qi x4] [] 42 m else R n 30 51 [qr 0,qi x1,qi x2,qi x3,qi x4] [] 42 m) (fun _=>rfl) (Sim.ite (fun _=>f_meetsMutex_b53_ok x1 x2 x3 x4 m) (fun _=>Sim.leaf rfl (fun _=>rfl))))))))))) (fun _=>Sim.leaf rfl (fun _=>rfl)))
def f_meetsMutex (x1 x2 x3:Int) (m:OMem):Option (Int):=if x1<0 then (f_meetsMutex_b10 m) else (if 8<x1 then (f_meetsMutex_b10 m) else ((lp (f_meetsMutex_l15 m x1 x2 x3) NN 0).bind fun e=>match e with | (.inl _)=>(some 1) | (.inr _)=>(some 0)))
theorem f_meetsMutex_ok (x1 x2 x3:Int) (m:OMem):Sim (f_meetsMutex x1 x2 x3 m) (fun r _=>some (some (vi r),42,m)) (fun n=>R n 30 0 [qr 0,qi x1,qi x2,qi x3,qn] [] 42 m) :=
  Sim.shift 2 (G:=fun n=>if x1<0 then R n 30 10 [qr 0,qi x1,qi x2,qi x3,qn] [] 42 m else R n 30 4 [qr 0,qi x1,qi x2,qi x3,qn] [] 42 m) (fun _=>rfl) (Sim.ite (fun _=>Sim.jmp (f_meetsMutex_b10_ok m) rfl (fun _=>rfl)) (fun _=>Sim.shift 3 (G:=fun n=>if 8<x1 then R n 30 10 [qr 0,qi x1,qi x2,qi x3,qn] [] 42 m else R n 30 12 [qr 0,qi x1,qi x2,qi x3,qn] [] 42 m) (fun _=>rfl) (Sim.ite (fun _=>Sim.jmp (f_meetsMutex_b10_ok m) rfl (fun _=>rfl)) (fun _=>Sim.shift 2 (G:=fun n=>R n 30 15 [qr 0,qi x1,qi x2,qi x3,qi 0] [] 42 m) (fun _=>rfl) (Sim.bind (Sim.lp (σ:=Int) (fun x4L=>f_meetsMutex_l15_ok m x1 x2 x3 x4L) NN 0) (fun e=>match e with | (.inl _)=>Sim.shift 2 (G:=(fun _=>some (some (vi 1),42,m))) (fun _=>rfl) (Sim.pur _ _) | (.inr _)=>Sim.shift 2 (G:=(fun _=>some (some (vi 0),42,m))) (fun _=>rfl) (Sim.pur _ _)))))))
def f_hasMutexPair (x1 x2:Int) (m:OMem):Option (Int):=(f_meetsMutex x1 x2 x2 m).bind fun r_18=>(some (r_18 % 2))
theorem f_hasMutexPair_ok (x1 x2:Int) (m:OMem):Sim (f_hasMutexPair x1 x2 m) (fun r _=>some (some (vi r),42,m)) (fun n=>R n 29 0 [qr 0,qi x1,qi x2] [] 42 m) :=
  Sim.shift 5 (G:=fun n=>(R n 30 0 [qr 0,qi x1,qi x2,qi x2,qn] [] 42 m).bind fun y=>Rr n 29 7 [qr 0,qi x1,qi x2] [] y) (fun _=>rfl) (Sim.call (f_meetsMutex_ok x1 x2 x2 m) (fun _ _=>rfl) (runP_mono _ _ _ _ _ _) (fun _=>runP_mono _ _ _ _ _ _) (fun r_18=>Sim.shift 0 (G:=fun n=>R n 29 7 [qr 0,qi x1,qi x2] [vi r_18] 42 m) (fun _=>rfl) (Sim.shift 1 (G:=(fun _=>some (some (vi (r_18 % 2)),42,m))) (fun _=>rfl) (Sim.pur _ _))))
def f_actionPresent_b39 (s0:Int) (m:OMem):Option (Int):=some (s0 % 2)
theorem f_actionPresent_b39_ok (s0:Int) (m:OMem):Sim (f_actionPresent_b39 s0 m) (fun r _=>some (some (vi r),42,m)) (fun n=>R n 28 39 [qn,qn,qn] [vi s0] 42 m) :=
  Sim.shift 1 (G:=(fun _=>some (some (vi (s0 % 2)),42,m))) (fun _=>rfl) (Sim.pur _ _)
def f_actionPresent (x1 x2:Int) (m:OMem):Option (Int):=if 0≤x2∧x2<10 then (if 0≤x1∧x1<9 then (if and32 (m 2 x2) (xor32 (m 11 x1) (-1))=0 then (if 0≤x2∧x2<10 then ((f_hasMutexPair x1 (m 2 x2) m).bind fun r_19=>(if r_19=0 then (f_actionPresent_b39 1 m) else (f_actionPresent_b39 0 m))) else none) else (some 0)) else none) else none
theorem f_actionPresent_ok (x1 x2:Int) (m:OMem):Sim (f_actionPresent x1 x2 m) (fun r _=>some (some (vi r),42,m)) (fun n=>R n 28 0 [qr 0,qi x1,qi x2] [] 42 m) :=
  Sim.shift 4 (G:=fun n=>if 0≤x2∧x2<10 then R n 28 6 [qr 0,qi x1,qi x2] [vi (m 2 x2)] 42 m else none) (fun _=>rfl) (Sim.grd fun _=>Sim.shift 4 (G:=fun n=>if 0≤x1∧x1<9 then R n 28 12 [qr 0,qi x1,qi x2] [vi (m 11 x1),vi (m 2 x2)] 42 m else none) (fun _=>rfl) (Sim.grd fun _=>Sim.shift 2 (G:=fun n=>R n 28 14 [qr 0,qi x1,qi x2] [vi (xor32 (m 11 x1) (-1)),vi (m 2 x2)] 42 m) (fun _=>rfl) (Sim.shift 2 (G:=fun n=>if and32 (m 2 x2) (xor32 (m 11 x1) (-1))=0 then R n 28 20 [qr 0,qi x1,qi x2] [] 42 m else R n 28 18 [qr 0,qi x1,qi x2] [] 42 m) (fun _=>rfl) (Sim.ite (fun _=>Sim.shift 6 (G:=fun n=>if 0≤x2∧x2<10 then R n 28 28 [qr 0,qi x1,qi x2] [vi (m 2 x2),vi x1,vr 0] 42 m else none) (fun _=>rfl) (Sim.grd fun _=>Sim.shift 1 (G:=fun n=>(R n 29 0 [qr 0,qi x1,qi (m 2 x2)] [] 42 m).bind fun y=>Rr n 28 31 [qr 0,qi x1,qi x2] [] y) (fun _=>rfl) (Sim.call (f_hasMutexPair_ok x1 (m 2 x2) m) (fun _ _=>rfl) (runP_mono _ _ _ _ _ _) (fun _=>runP_mono _ _ _ _ _ _) (fun r_19=>Sim.shift 0 (G:=fun n=>R n 28 31 [qr 0,qi x1,qi x2] [vi r_19] 42 m) (fun _=>rfl) (Sim.shift 1 (G:=fun n=>if r_19=0 then R n 28 34 [qr 0,qi x1,qi x2] [] 42 m else R n 28 38 [qr 0,qi x1,qi x2] [] 42 m) (fun _=>rfl) (Sim.ite (fun _=>Sim.shift 2 (G:=fun n=>R n 28 39 [qn,qn,qn] [vi 1] 42 m) (fun _=>rfl) (f_actionPresent_b39_ok 1 m)) (fun _=>Sim.shift 1 (G:=fun n=>R n 28 39 [qn,qn,qn] [vi 0] 42 m) (fun _=>rfl) (f_actionPresent_b39_ok 0 m)))))))) (fun _=>Sim.shift 2 (G:=(fun _=>some (some (vi 0),42,m))) (fun _=>rfl) (Sim.pur _ _))))))
def f_actionMutexRow_b22 (m:OMem):Option (Int):=some 0
theorem f_actionMutexRow_b22_ok (m:OMem):Sim (f_actionMutexRow_b22 m) (fun r _=>some (some (vi r),42,m)) (fun n=>R n 32 22 [qn,qn,qn,qn,qn] [] 42 m) :=
  Sim.shift 2 (G:=(fun _=>some (some (vi 0),42,m))) (fun _=>rfl) (Sim.pur _ _)
def f_actionMutexRow_l29_H (m:OMem) (x1 x2:Int):Int×Int→Nat→RT:=fun (x3,x4) n=>R n 32 29 [qr 0,qi x1,qi x2,qi x3,qi x4] [] 42 m
def f_actionMutexRow_l29_X (m:OMem) (x1 x2:Int):(Int)→Nat→RT:=fun e n=>match e with | y3=>R n 32 113 [qn,qn,qn,qi y3,qn] [] 42 m
def f_actionMutexRow_b107 (x1 x2 x3 x4:Int) (m:OMem):Option ((Int×Int)⊕((Int))):=some (.inl (x3,w32 (x4+1)))
theorem f_actionMutexRow_b107_ok (x1 x2 x3 x4:Int) (m:OMem):Sim (f_actionMutexRow_b107 x1 x2 x3 x4 m) (Sum.elim (f_actionMutexRow_l29_H m x1 x2 ) (f_actionMutexRow_l29_X m x1 x2 )) (fun n=>R n 32 107 [qr 0,qi x1,qi x2,qi x3,qi x4] [] 42 m) :=
  Sim.shift 2 (G:=fun n=>R n 32 29 [qr 0,qi x1,qi x2,qi x3,qi (w32 (x4+1))] [] 42 m) (fun _=>rfl) (Sim.pur _ _)
def f_actionMutexRow_b100 (x1 x2 x3 x4:Int) (m:OMem):Option ((Int×Int)⊕((Int))):=f_actionMutexRow_b107 x1 x2 (or32 x3 (shl32 1 x4)) x4 m
theorem f_actionMutexRow_b100_ok (x1 x2 x3 x4:Int) (m:OMem):Sim (f_actionMutexRow_b100 x1 x2 x3 x4 m) (Sum.elim (f_actionMutexRow_l29_H m x1 x2 ) (f_actionMutexRow_l29_X m x1 x2 )) (fun n=>R n 32 100 [qr 0,qi x1,qi x2,qi x3,qi x4] [] 42 m) :=
  Sim.shift 4 (G:=fun n=>R n 32 105 [qr 0,qi x1,qi x2,qi x3,qi x4] [vi (shl32 1 x4),vi x3] 42 m) (fun _=>rfl) (Sim.shift 2 (G:=fun n=>R n 32 107 [qr 0,qi x1,qi x2,qi (or32 x3 (shl32 1 x4)),qi x4] [] 42 m) (fun _=>rfl) (f_actionMutexRow_b107_ok x1 x2 (or32 x3 (shl32 1 x4)) x4 m))
def f_actionMutexRow_l29 (m:OMem) (x1 x2:Int):Int×Int→Option ((Int×Int)⊕((Int))):=fun (x3,x4)=>if x4<m 0 25 then (if x4=x2 then (f_actionMutexRow_b107 x1 x2 x3 x4 m) else (if 0≤x1∧x1<9 then ((f_hasBit (m 12 x1) x4 m).bind fun r_23=>(if r_23=0 then (f_actionMutexRow_b107 x1 x2 x3 x4 m) else (if 0≤x2∧x2<10 then ((f_hasBit (m 6 x2) x4 m).bind fun r_24=>(if r_24=0 then (if 0≤x2∧x2<10 then (if 0≤x4∧x4<10 then ((f_meetsMutex (w32 (x1 - 1)) (m 2 x2) (m 2 x4) m).bind fun r_25=>(if r_25=0 then (f_actionMutexRow_b107 x1 x2 x3 x4 m) else (f_actionMutexRow_b100 x1 x2 x3 x4 m))) else none) else none) else (f_actionMutexRow_b100 x1 x2 x3 x4 m))) else none))) else none)) else (some (.inr x3))
theorem f_actionMutexRow_l29_ok (m:OMem) (x1 x2:Int) (x3 x4:Int):Sim (f_actionMutexRow_l29 m x1 x2 (x3,x4)) (Sum.elim (f_actionMutexRow_l29_H m x1 x2 ) (f_actionMutexRow_l29_X m x1 x2 )) (f_actionMutexRow_l29_H m x1 x2 (x3,x4)) :=
  Sim.shift 4 (G:=fun n=>if x4<m 0 25 then R n 32 38 [qr 0,qi x1,qi x2,qi x3,qi x4] [] 42 m else R n 32 113 [qr 0,qi x1,qi x2,qi x3,qi x4] [] 42 m) (fun _=>rfl) (Sim.ite (fun _=>Sim.shift 3 (G:=fun n=>if x4=x2 then R n 32 107 [qr 0,qi x1,qi x2,qi x3,qi x4] [] 42 m else R n 32 44 [qr 0,qi x1,qi x2,qi x3,qi x4] [] 42 m) (fun _=>rfl) (Sim.ite (fun _=>f_actionMutexRow_b107_ok x1 x2 x3 x4 m) (fun _=>Sim.shift 5 (G:=fun n=>if 0≤x1∧x1<9 then R n 32 51 [qr 0,qi x1,qi x2,qi x3,qi x4] [vi (m 12 x1),vr 0] 42 m else none) (fun _=>rfl) (Sim.grd fun _=>Sim.shift 2 (G:=fun n=>(R n 31 0 [qr 0,qi (m 12 x1),qi x4] [] 42 m).bind fun y=>Rr n 32 56 [qr 0,qi x1,qi x2,qi x3,qi x4] [] y) (fun _=>rfl) (Sim.call (f_hasBit_ok 42 (m 12 x1) x4 m) (fun _ _=>rfl) (runP_mono _ _ _ _ _ _) (fun _=>runP_mono _ _ _ _ _ _) (fun r_23=>Sim.shift 0 (G:=fun n=>R n 32 56 [qr 0,qi x1,qi x2,qi x3,qi x4] [vi r_23] 42 m) (fun _=>rfl) (Sim.shift 1 (G:=fun n=>if r_23=0 then R n 32 59 [qr 0,qi x1,qi x2,qi x3,qi x4] [] 42 m else R n 32 62 [qr 0,qi x1,qi x2,qi x3,qi x4] [] 42 m) (fun _=>rfl) (Sim.ite (fun _=>Sim.shift 1 (G:=fun n=>R n 32 107 [qr 0,qi x1,qi x2,qi x3,qi x4] [] 42 m) (fun _=>rfl) (f_actionMutexRow_b107_ok x1 x2 x3 x4 m)) (fun _=>Sim.shift 5 (G:=fun n=>if 0≤x2∧x2<10 then R n 32 69 [qr 0,qi x1,qi x2,qi x3,qi x4] [vi (m 6 x2),vr 0] 42 m else none) (fun _=>rfl) (Sim.grd fun _=>Sim.shift 2 (G:=fun n=>(R n 31 0 [qr 0,qi (m 6 x2),qi x4] [] 42 m).bind fun y=>Rr n 32 74 [qr 0,qi x1,qi x2,qi x3,qi x4] [] y) (fun _=>rfl) (Sim.call (f_hasBit_ok 42 (m 6 x2) x4 m) (fun _ _=>rfl) (runP_mono _ _ _ _ _ _) (fun _=>runP_mono _ _ _ _ _ _) (fun r_24=>Sim.shift 0 (G:=fun n=>R n 32 74 [qr 0,qi x1,qi x2,qi x3,qi x4] [vi r_24] 42 m) (fun _=>rfl) (Sim.shift 1 (G:=fun n=>if r_24=0 then R n 32 77 [qr 0,qi x1,qi x2,qi x3,qi x4] [] 42 m else R n 32 100 [qr 0,qi x1,qi x2,qi x3,qi x4] [] 42 m) (fun _=>rfl) (Sim.ite (fun _=>Sim.shift 8 (G:=fun n=>if 0≤x2∧x2<10 then R n 32 87 [qr 0,qi x1,qi x2,qi x3,qi x4] [vi (m 2 x2),vi (w32 (x1 - 1)),vr 0] 42 m else none) (fun _=>rfl) (Sim.grd fun _=>Sim.shift 4 (G:=fun n=>if 0≤x4∧x4<10 then R n 32 94 [qr 0,qi x1,qi x2,qi x3,qi x4] [vi (m 2 x4),vi (m 2 x2),vi (w32 (x1 - 1)),vr 0] 42 m else none) (fun _=>rfl) (Sim.grd fun _=>Sim.shift 1 (G:=fun n=>(R n 30 0 [qr 0,qi (w32 (x1 - 1)),qi (m 2 x2),qi (m 2 x4),qn] [] 42 m).bind fun y=>Rr n 32 97 [qr 0,qi x1,qi x2,qi x3,qi x4] [] y) (fun _=>rfl) (Sim.call (f_meetsMutex_ok (w32 (x1 - 1)) (m 2 x2) (m 2 x4) m) (fun _ _=>rfl) (runP_mono _ _ _ _ _ _) (fun _=>runP_mono _ _ _ _ _ _) (fun r_25=>Sim.shift 0 (G:=fun n=>R n 32 97 [qr 0,qi x1,qi x2,qi x3,qi x4] [vi r_25] 42 m) (fun _=>rfl) (Sim.shift 1 (G:=fun n=>if r_25=0 then R n 32 107 [qr 0,qi x1,qi x2,qi x3,qi x4] [] 42 m else R n 32 100 [qr 0,qi x1,qi x2,qi x3,qi x4] [] 42 m) (fun _=>rfl) (Sim.ite (fun _=>f_actionMutexRow_b107_ok x1 x2 x3 x4 m) (fun _=>f_actionMutexRow_b100_ok x1 x2 x3 x4 m)))))))) (fun _=>f_actionMutexRow_b100_ok x1 x2 x3 x4 m))))))))))))))) (fun _=>Sim.leaf rfl (fun _=>rfl)))
def f_actionMutexRow (x1 x2:Int) (m:OMem):Option (Int):=if x2<m 0 25 then (if 0≤x1∧x1<9 then ((f_hasBit (m 12 x1) x2 m).bind fun r_22=>(if r_22=0 then (f_actionMutexRow_b22 m) else ((lp (f_actionMutexRow_l29 m x1 x2) NN (0,0)).bind fun x3_26=>(some x3_26)))) else none) else (f_actionMutexRow_b22 m)
theorem f_actionMutexRow_ok (x1 x2:Int) (m:OMem):Sim (f_actionMutexRow x1 x2 m) (fun r _=>some (some (vi r),42,m)) (fun n=>R n 32 0 [qr 0,qi x1,qi x2,qn,qn] [] 42 m) :=
  Sim.shift 4 (G:=fun n=>if x2<m 0 25 then R n 32 8 [qr 0,qi x1,qi x2,qn,qn] [] 42 m else R n 32 22 [qr 0,qi x1,qi x2,qn,qn] [] 42 m) (fun _=>rfl) (Sim.ite (fun _=>Sim.shift 5 (G:=fun n=>if 0≤x1∧x1<9 then R n 32 15 [qr 0,qi x1,qi x2,qn,qn] [vi (m 12 x1),vr 0] 42 m else none) (fun _=>rfl) (Sim.grd fun _=>Sim.shift 2 (G:=fun n=>(R n 31 0 [qr 0,qi (m 12 x1),qi x2] [] 42 m).bind fun y=>Rr n 32 19 [qr 0,qi x1,qi x2,qn,qn] [] y) (fun _=>rfl) (Sim.call (f_hasBit_ok 42 (m 12 x1) x2 m) (fun _ _=>rfl) (runP_mono _ _ _ _ _ _) (fun _=>runP_mono _ _ _ _ _ _) (fun r_22=>Sim.shift 0 (G:=fun n=>R n 32 19 [qr 0,qi x1,qi x2,qn,qn] [vi r_22] 42 m) (fun _=>rfl) (Sim.shift 1 (G:=fun n=>if r_22=0 then R n 32 22 [qr 0,qi x1,qi x2,qn,qn] [] 42 m else R n 32 24 [qr 0,qi x1,qi x2,qn,qn] [] 42 m) (fun _=>rfl) (Sim.ite (fun _=>Sim.jmp (f_actionMutexRow_b22_ok m) rfl (fun _=>rfl)) (fun _=>Sim.shift 4 (G:=fun n=>R n 32 29 [qr 0,qi x1,qi x2,qi 0,qi 0] [] 42 m) (fun _=>rfl) (Sim.bind (Sim.lp (σ:=Int×Int) (fun ⟨x3L,x4L⟩=>f_actionMutexRow_l29_ok m x1 x2 x3L x4L) NN (0,0)) (fun x3_26=>Sim.shift 2 (G:=(fun _=>some (some (vi x3_26),42,m))) (fun _=>rfl) (Sim.pur _ _)))))))))) (fun _=>Sim.jmp (f_actionMutexRow_b22_ok m) rfl (fun _=>rfl)))
def f_noopMutexRow_b24 (m:OMem):Option (Int):=some 0
theorem f_noopMutexRow_b24_ok (m:OMem):Sim (f_noopMutexRow_b24 m) (fun r _=>some (some (vi r),42,m)) (fun n=>R n 33 24 [qn,qn,qn,qn,qn,qn] [] 42 m) :=
  Sim.shift 2 (G:=(fun _=>some (some (vi 0),42,m))) (fun _=>rfl) (Sim.pur _ _)
def f_noopMutexRow_l46_H (m:OMem) (x1 x2 x3:Int):Int×Int→Nat→RT:=fun (x4,x5) n=>R n 33 46 [qr 0,qi x1,qi x2,qi x3,qi x4,qi x5] [] 42 m
def f_noopMutexRow_l46_X (m:OMem) (x1 x2 x3:Int):(Int)→Nat→RT:=fun e n=>match e with | y4=>R n 33 115 [qn,qn,qn,qn,qi y4,qn] [] 42 m
def f_noopMutexRow_b109 (x1 x2 x3 x4 x5:Int) (m:OMem):Option ((Int×Int)⊕((Int))):=some (.inl (x4,w32 (x5+1)))
theorem f_noopMutexRow_b109_ok (x1 x2 x3 x4 x5:Int) (m:OMem):Sim (f_noopMutexRow_b109 x1 x2 x3 x4 x5 m) (Sum.elim (f_noopMutexRow_l46_H m x1 x2 x3 ) (f_noopMutexRow_l46_X m x1 x2 x3 )) (fun n=>R n 33 109 [qr 0,qi x1,qi x2,qi x3,qi x4,qi x5] [] 42 m) :=
  Sim.shift 2 (G:=fun n=>R n 33 46 [qr 0,qi x1,qi x2,qi x3,qi x4,qi (w32 (x5+1))] [] 42 m) (fun _=>rfl) (Sim.pur _ _)
def f_noopMutexRow_b100 (x1 x2 x3 x4 x5:Int) (m:OMem):Option ((Int×Int)⊕((Int))):=f_noopMutexRow_b109 x1 x2 x3 (or32 x4 (shl32 1 x5)) x5 m
theorem f_noopMutexRow_b100_ok (x1 x2 x3 x4 x5:Int) (m:OMem):Sim (f_noopMutexRow_b100 x1 x2 x3 x4 x5 m) (Sum.elim (f_noopMutexRow_l46_H m x1 x2 x3 ) (f_noopMutexRow_l46_X m x1 x2 x3 )) (fun n=>R n 33 100 [qr 0,qi x1,qi x2,qi x3,qi x4,qi x5] [] 42 m) :=
  Sim.shift 4 (G:=fun n=>R n 33 106 [qr 0,qi x1,qi x2,qi x3,qi x4,qi x5] [vi (shl32 1 x5),vi x4] 42 m) (fun _=>rfl) (Sim.shift 2 (G:=fun n=>R n 33 109 [qr 0,qi x1,qi x2,qi x3,qi (or32 x4 (shl32 1 x5)),qi x5] [] 42 m) (fun _=>rfl) (f_noopMutexRow_b109_ok x1 x2 x3 (or32 x4 (shl32 1 x5)) x5 m))
def f_noopMutexRow_l46 (m:OMem) (x1 x2 x3:Int):Int×Int→Option ((Int×Int)⊕((Int))):=fun (x4,x5)=>if x5<m 0 25 then (if 0≤x1∧x1<9 then ((f_hasBit (m 12 x1) x5 m).bind fun r_30=>(if r_30=0 then (f_noopMutexRow_b109 x1 x2 x3 x4 x5 m) else (if 0≤x5∧x5<10 then ((f_hasBit (m 4 x5) x2 m).bind fun r_31=>(if r_31=0 then (if 0≤x5∧x5<10 then (if and32 x3 (m 2 x5)=0 then (f_noopMutexRow_b109 x1 x2 x3 x4 x5 m) else (f_noopMutexRow_b100 x1 x2 x3 x4 x5 m)) else none) else (f_noopMutexRow_b100 x1 x2 x3 x4 x5 m))) else none))) else none) else (some (.inr x4))
theorem f_noopMutexRow_l46_ok (m:OMem) (x1 x2 x3:Int) (x4 x5:Int):Sim (f_noopMutexRow_l46 m x1 x2 x3 (x4,x5)) (Sum.elim (f_noopMutexRow_l46_H m x1 x2 x3 ) (f_noopMutexRow_l46_X m x1 x2 x3 )) (f_noopMutexRow_l46_H m x1 x2 x3 (x4,x5)) :=
  Sim.shift 4 (G:=fun n=>if x5<m 0 25 then R n 33 55 [qr 0,qi x1,qi x2,qi x3,qi x4,qi x5] [] 42 m else R n 33 115 [qr 0,qi x1,qi x2,qi x3,qi x4,qi x5] [] 42 m) (fun _=>rfl) (Sim.ite (fun _=>Sim.shift 5 (G:=fun n=>if 0≤x1∧x1<9 then R n 33 62 [qr 0,qi x1,qi x2,qi x3,qi x4,qi x5] [vi (m 12 x1),vr 0] 42 m else none) (fun _=>rfl) (Sim.grd fun _=>Sim.shift 2 (G:=fun n=>(R n 31 0 [qr 0,qi (m 12 x1),qi x5] [] 42 m).bind fun y=>Rr n 33 67 [qr 0,qi x1,qi x2,qi x3,qi x4,qi x5] [] y) (fun _=>rfl) (Sim.call (f_hasBit_ok 42 (m 12 x1) x5 m) (fun _ _=>rfl) (runP_mono _ _ _ _ _ _) (fun _=>runP_mono _ _ _ _ _ _) (fun r_30=>Sim.shift 0 (G:=fun n=>R n 33 67 [qr 0,qi x1,qi x2,qi x3,qi x4,qi x5] [vi r_30] 42 m) (fun _=>rfl) (Sim.shift 1 (G:=fun n=>if r_30=0 then R n 33 70 [qr 0,qi x1,qi x2,qi x3,qi x4,qi x5] [] 42 m else R n 33 73 [qr 0,qi x1,qi x2,qi x3,qi x4,qi x5] [] 42 m) (fun _=>rfl) (Sim.ite (fun _=>Sim.shift 1 (G:=fun n=>R n 33 109 [qr 0,qi x1,qi x2,qi x3,qi x4,qi x5] [] 42 m) (fun _=>rfl) (f_noopMutexRow_b109_ok x1 x2 x3 x4 x5 m)) (fun _=>Sim.shift 5 (G:=fun n=>if 0≤x5∧x5<10 then R n 33 81 [qr 0,qi x1,qi x2,qi x3,qi x4,qi x5] [vi (m 4 x5),vr 0] 42 m else none) (fun _=>rfl) (Sim.grd fun _=>Sim.shift 2 (G:=fun n=>(R n 31 0 [qr 0,qi (m 4 x5),qi x2] [] 42 m).bind fun y=>Rr n 33 85 [qr 0,qi x1,qi x2,qi x3,qi x4,qi x5] [] y) (fun _=>rfl) (Sim.call (f_hasBit_ok 42 (m 4 x5) x2 m) (fun _ _=>rfl) (runP_mono _ _ _ _ _ _) (fun _=>runP_mono _ _ _ _ _ _) (fun r_31=>Sim.shift 0 (G:=fun n=>R n 33 85 [qr 0,qi x1,qi x2,qi x3,qi x4,qi x5] [vi r_31] 42 m) (fun _=>rfl) (Sim.shift 1 (G:=fun n=>if r_31=0 then R n 33 88 [qr 0,qi x1,qi x2,qi x3,qi x4,qi x5] [] 42 m else R n 33 100 [qr 0,qi x1,qi x2,qi x3,qi x4,qi x5] [] 42 m) (fun _=>rfl) (Sim.ite (fun _=>Sim.shift 5 (G:=fun n=>if 0≤x5∧x5<10 then R n 33 96 [qr 0,qi x1,qi x2,qi x3,qi x4,qi x5] [vi (m 2 x5),vi x3] 42 m else none) (fun _=>rfl) (Sim.grd fun _=>Sim.shift 2 (G:=fun n=>if and32 x3 (m 2 x5)=0 then R n 33 109 [qr 0,qi x1,qi x2,qi x3,qi x4,qi x5] [] 42 m else R n 33 100 [qr 0,qi x1,qi x2,qi x3,qi x4,qi x5] [] 42 m) (fun _=>rfl) (Sim.ite (fun _=>f_noopMutexRow_b109_ok x1 x2 x3 x4 x5 m) (fun _=>f_noopMutexRow_b100_ok x1 x2 x3 x4 x5 m)))) (fun _=>f_noopMutexRow_b100_ok x1 x2 x3 x4 x5 m))))))))))))) (fun _=>Sim.leaf rfl (fun _=>rfl)))
def f_noopMutexRow (x1 x2:Int) (m:OMem):Option (Int):=if x2<m 0 24 then (if 0≤w32 (x1 - 1)∧w32 (x1 - 1)<9 then ((f_hasBit (m 11 (w32 (x1 - 1))) x2 m).bind fun r_29=>(if r_29=0 then (f_noopMutexRow_b24 m) else (if 0≤w32 ((w32 ((w32 (x1 - 1))*10))+x2)∧w32 ((w32 ((w32 (x1 - 1))*10))+x2)<90 then ((lp (f_noopMutexRow_l46 m x1 x2 (m 13 (w32 ((w32 ((w32 (x1 - 1))*10))+x2)))) NN (0,0)).bind fun x4_32=>(some x4_32)) else none))) else none) else (f_noopMutexRow_b24 m)
theorem f_noopMutexRow_ok (x1 x2:Int) (m:OMem):Sim (f_noopMutexRow x1 x2 m) (fun r _=>some (some (vi r),42,m)) (fun n=>R n 33 0 [qr 0,qi x1,qi x2,qn,qn,qn] [] 42 m) :=
  Sim.shift 4 (G:=fun n=>if x2<m 0 24 then R n 33 8 [qr 0,qi x1,qi x2,qn,qn,qn] [] 42 m else R n 33 24 [qr 0,qi x1,qi x2,qn,qn,qn] [] 42 m) (fun _=>rfl) (Sim.ite (fun _=>Sim.shift 7 (G:=fun n=>if 0≤w32 (x1 - 1)∧w32 (x1 - 1)<9 then R n 33 17 [qr 0,qi x1,qi x2,qn,qn,qn] [vi (m 11 (w32 (x1 - 1))),vr 0] 42 m else none) (fun _=>rfl) (Sim.grd fun _=>Sim.shift 2 (G:=fun n=>(R n 31 0 [qr 0,qi (m 11 (w32 (x1 - 1))),qi x2] [] 42 m).bind fun y=>Rr n 33 21 [qr 0,qi x1,qi x2,qn,qn,qn] [] y) (fun _=>rfl) (Sim.call (f_hasBit_ok 42 (m 11 (w32 (x1 - 1))) x2 m) (fun _ _=>rfl) (runP_mono _ _ _ _ _ _) (fun _=>runP_mono _ _ _ _ _ _) (fun r_29=>Sim.shift 0 (G:=fun n=>R n 33 21 [qr 0,qi x1,qi x2,qn,qn,qn] [vi r_29] 42 m) (fun _=>rfl) (Sim.shift 1 (G:=fun n=>if r_29=0 then R n 33 24 [qr 0,qi x1,qi x2,qn,qn,qn] [] 42 m else R n 33 26 [qr 0,qi x1,qi x2,qn,qn,qn] [] 42 m) (fun _=>rfl) (Sim.ite (fun _=>Sim.jmp (f_noopMutexRow_b24_ok m) rfl (fun _=>rfl)) (fun _=>Sim.shift 6 (G:=fun n=>R n 33 35 [qr 0,qi x1,qi x2,qn,qn,qn] [vi 10,vi (w32 (x1 - 1)),vr 13] 42 m) (fun _=>rfl) (Sim.shift 4 (G:=fun n=>if 0≤w32 ((w32 ((w32 (x1 - 1))*10))+x2)∧w32 ((w32 ((w32 (x1 - 1))*10))+x2)<90 then R n 33 39 [qr 0,qi x1,qi x2,qn,qn,qn] [vi (m 13 (w32 ((w32 ((w32 (x1 - 1))*10))+x2)))] 42 m else none) (fun _=>rfl) (Sim.grd fun _=>Sim.shift 5 (G:=fun n=>R n 33 46 [qr 0,qi x1,qi x2,qi (m 13 (w32 ((w32 ((w32 (x1 - 1))*10))+x2))),qi 0,qi 0] [] 42 m) (fun _=>rfl) (Sim.bind (Sim.lp (σ:=Int×Int) (fun ⟨x4L,x5L⟩=>f_noopMutexRow_l46_ok m x1 x2 (m 13 (w32 ((w32 ((w32 (x1 - 1))*10))+x2))) x4L x5L) NN (0,0)) (fun x4_32=>Sim.shift 2 (G:=(fun _=>some (some (vi x4_32),42,m))) (fun _=>rfl) (Sim.pur _ _)))))))))))) (fun _=>Sim.jmp (f_noopMutexRow_b24_ok m) rfl (fun _=>rfl)))
def f_buildActionLevel_l4_H (m:OMem) (x1:Int):Int×Int→Nat→RT:=fun (x2,x3) n=>R n 27 4 [qr 0,qi x1,qi x2,qi x3] [] 42 m
def f_buildActionLevel_l4_X (m:OMem) (x1:Int):(Int)→Nat→RT:=fun e n=>match e with | y2=>R n 27 35 [qr 0,qi x1,qi y2,qn] [] 42 m
def f_buildActionLevel_b29 (x1 x2 x3:Int) (m:OMem):Option ((Int×Int)⊕((Int))):=some (.inl (x2,w32 (x3+1)))
theorem f_buildActionLevel_b29_ok (x1 x2 x3:Int) (m:OMem):Sim (f_buildActionLevel_b29 x1 x2 x3 m) (Sum.elim (f_buildActionLevel_l4_H m x1 ) (f_buildActionLevel_l4_X m x1 )) (fun n=>R n 27 29 [qr 0,qi x1,qi x2,qi x3] [] 42 m) :=
  Sim.shift 2 (G:=fun n=>R n 27 4 [qr 0,qi x1,qi x2,qi (w32 (x3+1))] [] 42 m) (fun _=>rfl) (Sim.pur _ _)
def f_buildActionLevel_l4 (m:OMem) (x1:Int):Int×Int→Option ((Int×Int)⊕((Int))):=fun (x2,x3)=>if x3<m 0 25 then ((f_actionPresent (w32 (x1 - 1)) x3 m).bind fun r_20=>(if r_20=0 then (f_buildActionLevel_b29 x1 x2 x3 m) else (f_buildActionLevel_b29 x1 (or32 x2 (shl32 1 x3)) x3 m))) else (some (.inr x2))
theorem f_buildActionLevel_l4_ok (m:OMem) (x1:Int) (x2 x3:Int):Sim (f_buildActionLevel_l4 m x1 (x2,x3)) (Sum.elim (f_buildActionLevel_l4_H m x1 ) (f_buildActionLevel_l4_X m x1 )) (f_buildActionLevel_l4_H m x1 (x2,x3)) :=
  Sim.shift 4 (G:=fun n=>if x3<m 0 25 then R n 27 12 [qr 0,qi x1,qi x2,qi x3] [] 42 m else R n 27 35 [qr 0,qi x1,qi x2,qi x3] [] 42 m) (fun _=>rfl) (Sim.ite (fun _=>Sim.shift 6 (G:=fun n=>(R n 28 0 [qr 0,qi (w32 (x1 - 1)),qi x3] [] 42 m).bind fun y=>Rr n 27 20 [qr 0,qi x1,qi x2,qi x3] [] y) (fun _=>rfl) (Sim.call (f_actionPresent_ok (w32 (x1 - 1)) x3 m) (fun _ _=>rfl) (runP_mono _ _ _ _ _ _) (fun _=>runP_mono _ _ _ _ _ _) (fun r_20=>Sim.shift 0 (G:=fun n=>R n 27 20 [qr 0,qi x1,qi x2,qi x3] [vi r_20] 42 m) (fun _=>rfl) (Sim.shift 1 (G:=fun n=>if r_20=0 then R n 27 29 [qr 0,qi x1,qi x2,qi x3] [] 42 m else R n 27 23 [qr 0,qi x1,qi x2,qi x3] [] 42 m) (fun _=>rfl) (Sim.ite (fun _=>f_buildActionLevel_b29_ok x1 x2 x3 m) (fun _=>Sim.shift 4 (G:=fun n=>R n 27 27 [qr 0,qi x1,qi x2,qi x3] [vi (shl32 1 x3),vi x2] 42 m) (fun _=>rfl) (Sim.shift 2 (G:=fun n=>R n 27 29 [qr 0,qi x1,qi (or32 x2 (shl32 1 x3)),qi x3] [] 42 m) (fun _=>rfl) (f_buildActionLevel_b29_ok x1 (or32 x2 (shl32 1 x3)) x3 m)))))))) (fun _=>Sim.leaf rfl (fun _=>rfl)))
def f_buildActionLevel_l44_H (x1:Int):Int×OMem→Nat→RT:=fun (x3,m) n=>R n 27 44 [qr 0,qi x1,qn,qi x3] [] 42 m
def f_buildActionLevel_l44_X (x1:Int):(OMem)→Nat→RT:=fun e n=>match e with | w=>R n 27 73 [qr 0,qi x1,qn,qn] [] 42 w
def f_buildActionLevel_l44 (x1:Int):Int×OMem→Option ((Int×OMem)⊕((OMem))):=fun (x3,m)=>if x3<10 then ((f_actionMutexRow x1 x3 m).bind fun r_27=>(if 0≤w32 ((w32 (x1*10))+x3)∧w32 ((w32 (x1*10))+x3)<90 then (some (.inl (w32 (x3+1),sto m 14 (w32 ((w32 (x1*10))+x3)) r_27))) else none)) else (some (.inr m))
theorem f_buildActionLevel_l44_ok (x1:Int) (x3:Int) (m:OMem):Sim (f_buildActionLevel_l44 x1 (x3,m)) (Sum.elim (f_buildActionLevel_l44_H x1 ) (f_buildActionLevel_l44_X x1 )) (f_buildActionLevel_l44_H x1 (x3,m)) :=
  Sim.shift 3 (G:=fun n=>if x3<10 then R n 27 50 [qr 0,qi x1,qn,qi x3] [] 42 m else R n 27 73 [qr 0,qi x1,qn,qi x3] [] 42 m) (fun _=>rfl) (Sim.ite (fun _=>Sim.shift 7 (G:=fun n=>R n 27 60 [qr 0,qi x1,qn,qi x3] [vi (w32 ((w32 (x1*10))+x3)),vr 14] 42 m) (fun _=>rfl) (Sim.shift 4 (G:=fun n=>(R n 32 0 [qr 0,qi x1,qi x3,qn,qn] [] 42 m).bind fun y=>Rr n 27 66 [qr 0,qi x1,qn,qi x3] [vi (w32 ((w32 (x1*10))+x3)),vr 14] y) (fun _=>rfl) (Sim.call (f_actionMutexRow_ok x1 x3 m) (fun _ _=>rfl) (runP_mono _ _ _ _ _ _) (fun _=>runP_mono _ _ _ _ _ _) (fun r_27=>Sim.shift 0 (G:=fun n=>R n 27 66 [qr 0,qi x1,qn,qi x3] [vi r_27,vi (w32 ((w32 (x1*10))+x3)),vr 14] 42 m) (fun _=>rfl) (Sim.shift 1 (G:=fun n=>if 0≤w32 ((w32 (x1*10))+x3)∧w32 ((w32 (x1*10))+x3)<90 then R n 27 67 [qr 0,qi x1,qn,qi x3] [] 42 (sto m 14 (w32 ((w32 (x1*10))+x3)) r_27) else none) (fun _=>rfl) (Sim.grd fun _=>Sim.shift 2 (G:=fun n=>R n 27 44 [qr 0,qi x1,qn,qi (w32 (x3+1))] [] 42 (sto m 14 (w32 ((w32 (x1*10))+x3)) r_27)) (fun _=>rfl) (Sim.pur _ _))))))) (fun _=>Sim.leaf rfl (fun _=>rfl)))
def f_buildActionLevel_l75_H (x1:Int):Int×OMem→Nat→RT:=fun (x3,m) n=>R n 27 75 [qr 0,qi x1,qn,qi x3] [] 42 m
def f_buildActionLevel_l75_X (x1:Int):(OMem)→Nat→RT:=fun e n=>match e with | w=>R n 27 104 [qn,qn,qn,qn] [] 42 w
def f_buildActionLevel_l75 (x1:Int):Int×OMem→Option ((Int×OMem)⊕((OMem))):=fun (x3,m)=>if x3<10 then ((f_noopMutexRow x1 x3 m).bind fun r_33=>(if 0≤w32 ((w32 (x1*10))+x3)∧w32 ((w32 (x1*10))+x3)<90 then (some (.inl (w32 (x3+1),sto m 15 (w32 ((w32 (x1*10))+x3)) r_33))) else none)) else (some (.inr m))
theorem f_buildActionLevel_l75_ok (x1:Int) (x3:Int) (m:OMem):Sim (f_buildActionLevel_l75 x1 (x3,m)) (Sum.elim (f_buildActionLevel_l75_H x1 ) (f_buildActionLevel_l75_X x1 )) (f_buildActionLevel_l75_H x1 (x3,m)) :=
  Sim.shift 3 (G:=fun n=>if x3<10 then R n 27 81 [qr 0,qi x1,qn,qi x3] [] 42 m else R n 27 104 [qr 0,qi x1,qn,qi x3] [] 42 m) (fun _=>rfl) (Sim.ite (fun _=>Sim.shift 7 (G:=fun n=>R n 27 91 [qr 0,qi x1,qn,qi x3] [vi (w32 ((w32 (x1*10))+x3)),vr 15] 42 m) (fun _=>rfl) (Sim.shift 4 (G:=fun n=>(R n 33 0 [qr 0,qi x1,qi x3,qn,qn,qn] [] 42 m).bind fun y=>Rr n 27 97 [qr 0,qi x1,qn,qi x3] [vi (w32 ((w32 (x1*10))+x3)),vr 15] y) (fun _=>rfl) (Sim.call (f_noopMutexRow_ok x1 x3 m) (fun _ _=>rfl) (runP_mono _ _ _ _ _ _) (fun _=>runP_mono _ _ _ _ _ _) (fun r_33=>Sim.shift 0 (G:=fun n=>R n 27 97 [qr 0,qi x1,qn,qi x3] [vi r_33,vi (w32 ((w32 (x1*10))+x3)),vr 15] 42 m) (fun _=>rfl) (Sim.shift 1 (G:=fun n=>if 0≤w32 ((w32 (x1*10))+x3)∧w32 ((w32 (x1*10))+x3)<90 then R n 27 98 [qr 0,qi x1,qn,qi x3] [] 42 (sto m 15 (w32 ((w32 (x1*10))+x3)) r_33) else none) (fun _=>rfl) (Sim.grd fun _=>Sim.shift 2 (G:=fun n=>R n 27 75 [qr 0,qi x1,qn,qi (w32 (x3+1))] [] 42 (sto m 15 (w32 ((w32 (x1*10))+x3)) r_33)) (fun _=>rfl) (Sim.pur _ _))))))) (fun _=>Sim.leaf rfl (fun _=>rfl)))
def f_buildActionLevel (x1:Int) (m:OMem):Option (OMem):=(lp (f_buildActionLevel_l4 m x1) NN (0,0)).bind fun x2_21=>(if 0≤x1∧x1<9 then ((lp (f_buildActionLevel_l44 x1) NN (0,sto m 12 x1 x2_21)).bind fun m_28=>((lp (f_buildActionLevel_l75 x1) NN (0,m_28)).bind fun m_34=>(some m_34))) else none)
theorem f_buildActionLevel_ok (x1:Int) (m:OMem):Sim (f_buildActionLevel x1 m) (fun w0 _=>some (none,42,w0)) (fun n=>R n 27 0 [qr 0,qi x1,qn,qn] [] 42 m) :=
  Sim.shift 4 (G:=fun n=>R n 27 4 [qr 0,qi x1,qi 0,qi 0] [] 42 m) (fun _=>rfl) (Sim.bind (Sim.lp (σ:=Int×Int) (fun ⟨x2L,x3L⟩=>f_buildActionLevel_l4_ok m x1 x2L x3L) NN (0,0)) (fun x2_21=>Sim.shift 5 (G:=fun n=>if 0≤x1∧x1<9 then R n 27 42 [qr 0,qi x1,qi x2_21,qn] [] 42 (sto m 12 x1 x2_21) else none) (fun _=>rfl) (Sim.grd fun _=>Sim.shift 2 (G:=fun n=>R n 27 44 [qr 0,qi x1,qi x2_21,qi 0] [] 42 (sto m 12 x1 x2_21)) (fun _=>rfl) (Sim.jmp (Sim.bind (Sim.lp (σ:=Int×OMem) (fun ⟨x3L,mL⟩=>f_buildActionLevel_l44_ok x1 x3L mL) NN (0,sto m 12 x1 x2_21)) (fun m_28=>Sim.shift 2 (G:=fun n=>R n 27 75 [qr 0,qi x1,qn,qi 0] [] 42 m_28) (fun _=>rfl) (Sim.bind (Sim.lp (σ:=Int×OMem) (fun ⟨x3L,mL⟩=>f_buildActionLevel_l75_ok x1 x3L mL) NN (0,m_28)) (fun m_34=>Sim.shift 1 (G:=(fun _=>some (none,42,m_34))) (fun _=>rfl) (Sim.pur _ _))))) rfl (fun _=>rfl)))))
def f_achievers_l5_H (m:OMem) (x1 x2:Int):Int×Int→Nat→RT:=fun (x3,x4) n=>R n 37 5 [qr 0,qi x1,qi x2,qi x3,qi x4] [] 42 m
def f_achievers_l5_X (m:OMem) (x1 x2:Int):(Int)→Nat→RT:=fun e n=>match e with | y3=>R n 37 57 [qn,qn,qn,qi y3,qn] [] 42 m
def f_achievers_b51 (x1 x2 x3 x4:Int) (m:OMem):Option ((Int×Int)⊕((Int))):=some (.inl (x3,w32 (x4+1)))
theorem f_achievers_b51_ok (x1 x2 x3 x4:Int) (m:OMem):Sim (f_achievers_b51 x1 x2 x3 x4 m) (Sum.elim (f_achievers_l5_H m x1 x2 ) (f_achievers_l5_X m x1 x2 )) (fun n=>R n 37 51 [qr 0,qi x1,qi x2,qi x3,qi x4] [] 42 m) :=
  Sim.shift 2 (G:=fun n=>R n 37 5 [qr 0,qi x1,qi x2,qi x3,qi (w32 (x4+1))] [] 42 m) (fun _=>rfl) (Sim.pur _ _)
def f_achievers_l5 (m:OMem) (x1 x2:Int):Int×Int→Option ((Int×Int)⊕((Int))):=fun (x3,x4)=>if x4<m 0 25 then (if 0≤x1∧x1<9 then ((f_hasBit (m 12 x1) x4 m).bind fun r_40=>(if r_40=0 then (f_achievers_b51 x1 x2 x3 x4 m) else (if 0≤x4∧x4<10 then ((f_hasBit (m 3 x4) x2 m).bind fun r_41=>(if r_41=0 then (f_achievers_b51 x1 x2 x3 x4 m) else (f_achievers_b51 x1 x2 (or32 x3 (shl32 1 x4)) x4 m))) else none))) else none) else (some (.inr x3))
theorem f_achievers_l5_ok (m:OMem) (x1 x2:Int) (x3 x4:Int):Sim (f_achievers_l5 m x1 x2 (x3,x4)) (Sum.elim (f_achievers_l5_H m x1 x2 ) (f_achievers_l5_X m x1 x2 )) (f_achievers_l5_H m x1 x2 (x3,x4)) :=
  Sim.shift 4 (G:=fun n=>if x4<m 0 25 then R n 37 14 [qr 0,qi x1,qi x2,qi x3,qi x4] [] 42 m else R n 37 57 [qr 0,qi x1,qi x2,qi x3,qi x4] [] 42 m) (fun _=>rfl) (Sim.ite (fun _=>Sim.shift 5 (G:=fun n=>if 0≤x1∧x1<9 then R n 37 21 [qr 0,qi x1,qi x2,qi x3,qi x4] [vi (m 12 x1),vr 0] 42 m else none) (fun _=>rfl) (Sim.grd fun _=>Sim.shift 2 (G:=fun n=>(R n 31 0 [qr 0,qi (m 12 x1),qi x4] [] 42 m).bind fun y=>Rr n 37 26 [qr 0,qi x1,qi x2,qi x3,qi x4] [] y) (fun _=>rfl) (Sim.call (f_hasBit_ok 42 (m 12 x1) x4 m) (fun _ _=>rfl) (runP_mono _ _ _ _ _ _) (fun _=>runP_mono _ _ _ _ _ _) (fun r_40=>Sim.shift 0 (G:=fun n=>R n 37 26 [qr 0,qi x1,qi x2,qi x3,qi x4] [vi r_40] 42 m) (fun _=>rfl) (Sim.shift 1 (G:=fun n=>if r_40=0 then R n 37 51 [qr 0,qi x1,qi x2,qi x3,qi x4] [] 42 m else R n 37 29 [qr 0,qi x1,qi x2,qi x3,qi x4] [] 42 m) (fun _=>rfl) (Sim.ite (fun _=>f_achievers_b51_ok x1 x2 x3 x4 m) (fun _=>Sim.shift 5 (G:=fun n=>if 0≤x4∧x4<10 then R n 37 37 [qr 0,qi x1,qi x2,qi x3,qi x4] [vi (m 3 x4),vr 0] 42 m else none) (fun _=>rfl) (Sim.grd fun _=>Sim.shift 2 (G:=fun n=>(R n 31 0 [qr 0,qi (m 3 x4),qi x2] [] 42 m).bind fun y=>Rr n 37 41 [qr 0,qi x1,qi x2,qi x3,qi x4] [] y) (fun _=>rfl) (Sim.call (f_hasBit_ok 42 (m 3 x4) x2 m) (fun _ _=>rfl) (runP_mono _ _ _ _ _ _) (fun _=>runP_mono _ _ _ _ _ _) (fun r_41=>Sim.shift 0 (G:=fun n=>R n 37 41 [qr 0,qi x1,qi x2,qi x3,qi x4] [vi r_41] 42 m) (fun _=>rfl) (Sim.shift 1 (G:=fun n=>if r_41=0 then R n 37 51 [qr 0,qi x1,qi x2,qi x3,qi x4] [] 42 m else R n 37 44 [qr 0,qi x1,qi x2,qi x3,qi x4] [] 42 m) (fun _=>rfl) (Sim.ite (fun _=>f_achievers_b51_ok x1 x2 x3 x4 m) (fun _=>Sim.shift 4 (G:=fun n=>R n 37 49 [qr 0,qi x1,qi x2,qi x3,qi x4] [vi (shl32 1 x4),vi x3] 42 m) (fun _=>rfl) (Sim.shift 2 (G:=fun n=>R n 37 51 [qr 0,qi x1,qi x2,qi (or32 x3 (shl32 1 x4)),qi x4] [] 42 m) (fun _=>rfl) (f_achievers_b51_ok x1 x2 (or32 x3 (shl32 1 x4)) x4 m))))))))))))))) (fun _=>Sim.leaf rfl (fun _=>rfl)))
def f_achievers (x1 x2:Int) (m:OMem):Option (Int):=(lp (f_achievers_l5 m x1 x2) NN (0,0)).bind fun x3_42=>(some x3_42)
theorem f_achievers_ok (x1 x2:Int) (m:OMem):Sim (f_achievers x1 x2 m) (fun r _=>some (some (vi r),42,m)) (fun n=>R n 37 0 [qr 0,qi x1,qi x2,qn,qn] [] 42 m) :=
  Sim.shift 4 (G:=fun n=>R n 37 5 [qr 0,qi x1,qi x2,qi 0,qi 0] [] 42 m) (fun _=>rfl) (Sim.bind (Sim.lp (σ:=Int×Int) (fun ⟨x3L,x4L⟩=>f_achievers_l5_ok m x1 x2 x3L x4L) NN (0,0)) (fun x3_42=>Sim.shift 2 (G:=(fun _=>some (some (vi x3_42),42,m))) (fun _=>rfl) (Sim.pur _ _)))
def f_factsMutex_l49_H (m:OMem) (x1 x2 x3 x4 x5 x6 x7:Int):Int→Nat→RT:=fun x8 n=>R n 36 49 [qr 0,qi x1,qi x2,qi x3,qi x4,qi x5,qi x6,qi x7,qi x8] [] 42 m
def f_factsMutex_l49_X (m:OMem) (x1 x2 x3 x4 x5 x6 x7:Int):(Unit)⊕(Unit)→Nat→RT:=fun e n=>match e with | (.inl _)=>R n 36 89 [qn,qn,qn,qn,qn,qn,qn,qn,qn] [] 42 m | (.inr _)=>R n 36 97 [qr 0,qi x1,qi x2,qi x3,qi x4,qi x5,qi x6,qi x7,qn] [] 42 m
def f_factsMutex_b91 (x1 x2 x3 x4 x5 x6 x7 x8:Int) (m:OMem):Option ((Int)⊕((Unit)⊕(Unit))):=some (.inl (w32 (x8+1)))
theorem f_factsMutex_b91_ok (x1 x2 x3 x4 x5 x6 x7 x8:Int) (m:OMem):Sim (f_factsMutex_b91 x1 x2 x3 x4 x5 x6 x7 x8 m) (Sum.elim (f_factsMutex_l49_H m x1 x2 x3 x4 x5 x6 x7 ) (f_factsMutex_l49_X m x1 x2 x3 x4 x5 x6 x7 )) (fun n=>R n 36 91 [qr 0,qi x1,qi x2,qi x3,qi x4,qi x5,qi x6,qi x7,qi x8] [] 42 m) :=
  Sim.shift 2 (G:=fun n=>R n 36 49 [qr 0,qi x1,qi x2,qi x3,qi x4,qi x5,qi x6,qi x7,qi (w32 (x8+1))] [] 42 m) (fun _=>rfl) (Sim.pur _ _)
def f_factsMutex_l49 (m:OMem) (x1 x2 x3 x4 x5 x6 x7:Int):Int→Option ((Int)⊕((Unit)⊕(Unit))):=fun x8=>if x8<m 0 25 then ((f_hasBit x4 x8 m).bind fun r_47=>(if r_47=0 then (f_factsMutex_b91 x1 x2 x3 x4 x5 x6 x7 x8 m) else (if 0≤w32 ((w32 (x1*10))+x8)∧w32 ((w32 (x1*10))+x8)<90 then (if and32 x5 (xor32 (m 14 (w32 ((w32 (x1*10))+x8))) (-1))=0 then (f_factsMutex_b91 x1 x2 x3 x4 x5 x6 x7 x8 m) else (some (.inr (.inl ())))) else none))) else (some (.inr (.inr ())))
theorem f_factsMutex_l49_ok (m:OMem) (x1 x2 x3 x4 x5 x6 x7:Int) (x8:Int):Sim (f_factsMutex_l49 m x1 x2 x3 x4 x5 x6 x7 x8) (Sum.elim (f_factsMutex_l49_H m x1 x2 x3 x4 x5 x6 x7 ) (f_factsMutex_l49_X m x1 x2 x3 x4 x5 x6 x7 )) (f_factsMutex_l49_H m x1 x2 x3 x4 x5 x6 x7 x8) :=
  Sim.shift 4 (G:=fun n=>if x8<m 0 25 then R n 36 58 [qr 0,qi x1,qi x2,qi x3,qi x4,qi x5,qi x6,qi x7,qi x8] [] 42 m else R n 36 97 [qr 0,qi x1,qi x2,qi x3,qi x4,qi x5,qi x6,qi x7,qi x8] [] 42 m) (fun _=>rfl) (Sim.ite (fun _=>Sim.shift 4 (G:=fun n=>(R n 31 0 [qr 0,qi x4,qi x8] [] 42 m).bind fun y=>Rr n 36 66 [qr 0,qi x1,qi x2,qi x3,qi x4,qi x5,qi x6,qi x7,qi x8] [] y) (fun _=>rfl) (Sim.call (f_hasBit_ok 42 x4 x8 m) (fun _ _=>rfl) (runP_mono _ _ _ _ _ _) (fun _=>runP_mono _ _ _ _ _ _) (fun r_47=>Sim.shift 0 (G:=fun n=>R n 36 66 [qr 0,qi x1,qi x2,qi x3,qi x4,qi x5,qi x6,qi x7,qi x8] [vi r_47] 42 m) (fun _=>rfl) (Sim.shift 1 (G:=fun n=>if r_47=0 then R n 36 91 [qr 0,qi x1,qi x2,qi x3,qi x4,qi x5,qi x6,qi x7,qi x8] [] 42 m else R n 36 69 [qr 0,qi x1,qi x2,qi x3,qi x4,qi x5,qi x6,qi x7,qi x8] [] 42 m) (fun _=>rfl) (Sim.ite (fun _=>f_factsMutex_b91_ok x1 x2 x3 x4 x5 x6 x7 x8 m) (fun _=>Sim.shift 8 (G:=fun n=>R n 36 82 [qr 0,qi x1,qi x2,qi x3,qi x4,qi x5,qi x6,qi x7,qi x8] [vi (w32 ((w32 (x1*10))+x8)),vr 14,vi x5] 42 m) (fun _=>rfl) (Sim.shift 1 (G:=fun n=>if 0≤w32 ((w32 (x1*10))+x8)∧w32 ((w32 (x1*10))+x8)<90 then R n 36 83 [qr 0,qi x1,qi x2,qi x3,qi x4,qi x5,qi x6,qi x7,qi x8] [vi (m 14 (w32 ((w32 (x1*10))+x8))),vi x5] 42 m else none) (fun _=>rfl) (Sim.grd fun _=>Sim.shift 2 (G:=fun n=>R n 36 85 [qr 0,qi x1,qi x2,qi x3,qi x4,qi x5,qi x6,qi x7,qi x8] [vi (xor32 (m 14 (w32 ((w32 (x1*10))+x8))) (-1)),vi x5] 42 m) (fun _=>rfl) (Sim.shift 2 (G:=fun n=>if and32 x5 (xor32 (m 14 (w32 ((w32 (x1*10))+x8))) (-1))=0 then R n 36 91 [qr 0,qi x1,qi x2,qi x3,qi x4,qi x5,qi x6,qi x7,qi x8] [] 42 m else R n 36 89 [qr 0,qi x1,qi x2,qi x3,qi x4,qi x5,qi x6,qi x7,qi x8] [] 42 m) (fun _=>rfl) (Sim.ite (fun _=>f_factsMutex_b91_ok x1 x2 x3 x4 x5 x6 x7 x8 m) (fun _=>Sim.leaf rfl (fun _=>rfl)))))))))))) (fun _=>Sim.leaf rfl (fun _=>rfl)))
def f_factsMutex_b182 (m:OMem):Option (Int):=some 1
theorem f_factsMutex_b182_ok (m:OMem):Sim (f_factsMutex_b182 m) (fun r _=>some (some (vi r),42,m)) (fun n=>R n 36 182 [qn,qn,qn,qn,qn,qn,qn,qn,qn] [] 42 m) :=
  Sim.shift 2 (G:=(fun _=>some (some (vi 1),42,m))) (fun _=>rfl) (Sim.pur _ _)
def f_factsMutex_b149 (x1 x2 x3 x6 x7:Int) (m:OMem):Option (Int):=if x6=0 then (f_factsMutex_b182 m) else (if x7=0 then (f_factsMutex_b182 m) else (if 0≤w32 ((w32 ((w32 (x1 - 1))*10))+x2)∧w32 ((w32 ((w32 (x1 - 1))*10))+x2)<90 then ((f_hasBit (m 13 (w32 ((w32 ((w32 (x1 - 1))*10))+x2))) x3 m).bind fun r_48=>(if r_48=0 then (some 0) else (f_factsMutex_b182 m))) else none))
theorem f_factsMutex_b149_ok (x1 x2 x3 x6 x7:Int) (m:OMem):Sim (f_factsMutex_b149 x1 x2 x3 x6 x7 m) (fun r _=>some (some (vi r),42,m)) (fun n=>R n 36 149 [qr 0,qi x1,qi x2,qi x3,qn,qn,qi x6,qi x7,qn] [] 42 m) :=
  Sim.shift 2 (G:=fun n=>if x6=0 then R n 36 182 [qr 0,qi x1,qi x2,qi x3,qn,qn,qi x6,qi x7,qn] [] 42 m else R n 36 154 [qr 0,qi x1,qi x2,qi x3,qn,qn,qi x6,qi x7,qn] [] 42 m) (fun _=>rfl) (Sim.ite (fun _=>Sim.jmp (f_factsMutex_b182_ok m) rfl (fun _=>rfl)) (fun _=>Sim.shift 2 (G:=fun n=>if x7=0 then R n 36 182 [qr 0,qi x1,qi x2,qi x3,qn,qn,qn,qi x7,qn] [] 42 m else R n 36 159 [qr 0,qi x1,qi x2,qi x3,qn,qn,qn,qi x7,qn] [] 42 m) (fun _=>rfl) (Sim.ite (fun _=>Sim.jmp (f_factsMutex_b182_ok m) rfl (fun _=>rfl)) (fun _=>Sim.shift 7 (G:=fun n=>R n 36 169 [qr 0,qi x1,qi x2,qi x3,qn,qn,qn,qn,qn] [vi 10,vi (w32 (x1 - 1)),vr 13,vr 0] 42 m) (fun _=>rfl) (Sim.shift 4 (G:=fun n=>if 0≤w32 ((w32 ((w32 (x1 - 1))*10))+x2)∧w32 ((w32 ((w32 (x1 - 1))*10))+x2)<90 then R n 36 173 [qr 0,qi x1,qi x2,qi x3,qn,qn,qn,qn,qn] [vi (m 13 (w32 ((w32 ((w32 (x1 - 1))*10))+x2))),vr 0] 42 m else none) (fun _=>rfl) (Sim.grd fun _=>Sim.shift 2 (G:=fun n=>(R n 31 0 [qr 0,qi (m 13 (w32 ((w32 ((w32 (x1 - 1))*10))+x2))),qi x3] [] 42 m).bind fun y=>Rr n 36 177 [qr 0,qi x1,qi x2,qi x3,qn,qn,qn,qn,qn] [] y) (fun _=>rfl) (Sim.call (f_hasBit_ok 42 (m 13 (w32 ((w32 ((w32 (x1 - 1))*10))+x2))) x3 m) (fun _ _=>rfl) (runP_mono _ _ _ _ _ _) (fun _=>runP_mono _ _ _ _ _ _) (fun r_48=>Sim.shift 0 (G:=fun n=>R n 36 177 [qr 0,qi x1,qi x2,qi x3,qn,qn,qn,qn,qn] [vi r_48] 42 m) (fun _=>rfl) (Sim.shift 1 (G:=fun n=>if r_48=0 then R n 36 180 [qr 0,qi x1,qi x2,qi x3,qn,qn,qn,qn,qn] [] 42 m else R n 36 182 [qr 0,qi x1,qi x2,qi x3,qn,qn,qn,qn,qn] [] 42 m) (fun _=>rfl) (Sim.ite (fun _=>Sim.shift 2 (G:=(fun _=>some (some (vi 0),42,m))) (fun _=>rfl) (Sim.pur _ _)) (fun _=>Sim.jmp (f_factsMutex_b182_ok m) rfl (fun _=>rfl))))))))))))
def f_factsMutex_b123 (x1 x2 x3 x4 x6 x7:Int) (m:OMem):Option (Int):=if x7=0 then (f_factsMutex_b149 x1 x2 x3 x6 x7 m) else (if 0≤w32 ((w32 (x1*10))+x3)∧w32 ((w32 (x1*10))+x3)<90 then (if and32 x4 (xor32 (m 15 (w32 ((w32 (x1*10))+x3))) (-1))=0 then (f_factsMutex_b149 x1 x2 x3 x6 x7 m) else (some 0)) else none)
theorem f_factsMutex_b123_ok (x1 x2 x3 x4 x6 x7:Int) (m:OMem):Sim (f_factsMutex_b123 x1 x2 x3 x4 x6 x7 m) (fun r _=>some (some (vi r),42,m)) (fun n=>R n 36 123 [qr 0,qi x1,qi x2,qi x3,qi x4,qn,qi x6,qi x7,qn] [] 42 m) :=
  Sim.shift 2 (G:=fun n=>if x7=0 then R n 36 149 [qr 0,qi x1,qi x2,qi x3,qi x4,qn,qi x6,qi x7,qn] [] 42 m else R n 36 128 [qr 0,qi x1,qi x2,qi x3,qi x4,qn,qi x6,qi x7,qn] [] 42 m) (fun _=>rfl) (Sim.ite (fun _=>Sim.jmp (f_factsMutex_b149_ok x1 x2 x3 x6 x7 m) rfl (fun _=>rfl)) (fun _=>Sim.shift 8 (G:=fun n=>R n 36 140 [qr 0,qi x1,qi x2,qi x3,qi x4,qn,qi x6,qi x7,qn] [vi (w32 ((w32 (x1*10))+x3)),vr 15,vi x4] 42 m) (fun _=>rfl) (Sim.shift 1 (G:=fun n=>if 0≤w32 ((w32 (x1*10))+x3)∧w32 ((w32 (x1*10))+x3)<90 then R n 36 141 [qr 0,qi x1,qi x2,qi x3,qi x4,qn,qi x6,qi x7,qn] [vi (m 15 (w32 ((w32 (x1*10))+x3))),vi x4] 42 m else none) (fun _=>rfl) (Sim.grd fun _=>Sim.shift 2 (G:=fun n=>R n 36 143 [qr 0,qi x1,qi x2,qi x3,qi x4,qn,qi x6,qi x7,qn] [vi (xor32 (m 15 (w32 ((w32 (x1*10))+x3))) (-1)),vi x4] 42 m) (fun _=>rfl) (Sim.shift 2 (G:=fun n=>if and32 x4 (xor32 (m 15 (w32 ((w32 (x1*10))+x3))) (-1))=0 then R n 36 149 [qr 0,qi x1,qi x2,qi x3,qi x4,qn,qi x6,qi x7,qn] [] 42 m else R n 36 147 [qr 0,qi x1,qi x2,qi x3,qi x4,qn,qi x6,qi x7,qn] [] 42 m) (fun _=>rfl) (Sim.ite (fun _=>Sim.jmp (f_factsMutex_b149_ok x1 x2 x3 x6 x7 m) rfl (fun _=>rfl)) (fun _=>Sim.shift 2 (G:=(fun _=>some (some (vi 0),42,m))) (fun _=>rfl) (Sim.pur _ _))))))))
def f_factsMutex (x1 x2 x3:Int) (m:OMem):Option (Int):=(f_achievers x1 x2 m).bind fun r_43=>((f_achievers x1 x3 m).bind fun r_44=>(if 0≤w32 (x1 - 1)∧w32 (x1 - 1)<9 then ((f_hasBit (m 11 (w32 (x1 - 1))) x2 m).bind fun r_45=>(if 0≤w32 (x1 - 1)∧w32 (x1 - 1)<9 then ((f_hasBit (m 11 (w32 (x1 - 1))) x3 m).bind fun r_46=>((lp (f_factsMutex_l49 m x1 x2 x3 r_43 r_44 r_45 r_46) NN 0).bind fun e=>match e with | (.inl _)=>(some 0) | (.inr _)=>(if r_45=0 then (f_factsMutex_b123 x1 x2 x3 r_43 r_45 r_46 m) else (if 0≤w32 ((w32 (x1*10))+x2)∧w32 ((w32 (x1*10))+x2)<90 then (if and32 r_44 (xor32 (m 15 (w32 ((w32 (x1*10))+x2))) (-1))=0 then (f_factsMutex_b123 x1 x2 x3 r_43 r_45 r_46 m) else (some 0)) else none)))) else none)) else none))
theorem f_factsMutex_ok (x1 x2 x3:Int) (m:OMem):Sim (f_factsMutex x1 x2 x3 m) (fun r _=>some (some (vi r),42,m)) (fun n=>R n 36 0 [qr 0,qi x1,qi x2,qi x3,qn,qn,qn,qn,qn] [] 42 m) :=
  Sim.shift 4 (G:=fun n=>(R n 37 0 [qr 0,qi x1,qi x2,qn,qn] [] 42 m).bind fun y=>Rr n 36 6 [qr 0,qi x1,qi x2,qi x3,qn,qn,qn,qn,qn] [] y) (fun _=>rfl) (Sim.call (f_achievers_ok x1 x2 m) (fun _ _=>rfl) (runP_mono _ _ _ _ _ _) (fun _=>runP_mono _ _ _ _ _ _) (fun r_43=>Sim.shift 0 (G:=fun n=>R n 36 6 [qr 0,qi x1,qi x2,qi x3,qn,qn,qn,qn,qn] [vi r_43] 42 m) (fun _=>rfl) (Sim.shift 5 (G:=fun n=>(R n 37 0 [qr 0,qi x1,qi x3,qn,qn] [] 42 m).bind fun y=>Rr n 36 14 [qr 0,qi x1,qi x2,qi x3,qi r_43,qn,qn,qn,qn] [] y) (fun _=>rfl) (Sim.call (f_achievers_ok x1 x3 m) (fun _ _=>rfl) (runP_mono _ _ _ _ _ _) (fun _=>runP_mono _ _ _ _ _ _) (fun r_44=>Sim.shift 0 (G:=fun n=>R n 36 14 [qr 0,qi x1,qi x2,qi x3,qi r_43,qn,qn,qn,qn] [vi r_44] 42 m) (fun _=>rfl) (Sim.shift 7 (G:=fun n=>R n 36 24 [qr 0,qi x1,qi x2,qi x3,qi r_43,qi r_44,qn,qn,qn] [vi (w32 (x1 - 1)),vr 11,vr 0] 42 m) (fun _=>rfl) (Sim.shift 1 (G:=fun n=>if 0≤w32 (x1 - 1)∧w32 (x1 - 1)<9 then R n 36 25 [qr 0,qi x1,qi x2,qi x3,qi r_43,qi r_44,qn,qn,qn] [vi (m 11 (w32 (x1 - 1))),vr 0] 42 m else none) (fun _=>rfl) (Sim.grd fun _=>Sim.shift 2 (G:=fun n=>(R n 31 0 [qr 0,qi (m 11 (w32 (x1 - 1))),qi x2] [] 42 m).bind fun y=>Rr n 36 29 [qr 0,qi x1,qi x2,qi x3,qi r_43,qi r_44,qn,qn,qn] [] y) (fun _=>rfl) (Sim.call (f_hasBit_ok 42 (m 11 (w32 (x1 - 1))) x2 m) (fun _ _=>rfl) (runP_mono _ _ _ _ _ _) (fun _=>runP_mono _ _ _ _ _ _) (fun r_45=>Sim.shift 0 (G:=fun n=>R n 36 29 [qr 0,qi x1,qi x2,qi x3,qi r_43,qi r_44,qn,qn,qn] [vi r_45] 42 m) (fun _=>rfl) (Sim.shift 7 (G:=fun n=>R n 36 39 [qr 0,qi x1,qi x2,qi x3,qi r_43,qi r_44,qi r_45,qn,qn] [vi (w32 (x1 - 1)),vr 11,vr 0] 42 m) (fun _=>rfl) (Sim.shift 1 (G:=fun n=>if 0≤w32 (x1 - 1)∧w32 (x1 - 1)<9 then R n 36 40 [qr 0,qi x1,qi x2,qi x3,qi r_43,qi r_44,qi r_45,qn,qn] [vi (m 11 (w32 (x1 - 1))),vr 0] 42 m else none) (fun _=>rfl) (Sim.grd fun _=>Sim.shift 2 (G:=fun n=>(R n 31 0 [qr 0,qi (m 11 (w32 (x1 - 1))),qi x3] [] 42 m).bind fun y=>Rr n 36 44 [qr 0,qi x1,qi x2,qi x3,qi r_43,qi r_44,qi r_45,qn,qn] [] y) (fun _=>rfl) (Sim.call (f_hasBit_ok 42 (m 11 (w32 (x1 - 1))) x3 m) (fun _ _=>rfl) (runP_mono _ _ _ _ _ _) (fun _=>runP_mono _ _ _ _ _ _) (fun r_46=>Sim.shift 0 (G:=fun n=>R n 36 44 [qr 0,qi x1,qi x2,qi x3,qi r_43,qi r_44,qi r_45,qn,qn] [vi r_46] 42 m) (fun _=>rfl) (Sim.shift 3 (G:=fun n=>R n 36 49 [qr 0,qi x1,qi x2,qi x3,qi r_43,qi r_44,qi r_45,qi r_46,qi 0] [] 42 m) (fun _=>rfl) (Sim.bind (Sim.lp (σ:=Int) (fun x8L=>f_factsMutex_l49_ok m x1 x2 x3 r_43 r_44 r_45 r_46 x8L) NN 0) (fun e=>match e with | (.inl _)=>Sim.shift 2 (G:=(fun _=>some (some (vi 0),42,m))) (fun _=>rfl) (Sim.pur _ _) | (.inr _)=>Sim.shift 2 (G:=fun n=>if r_45=0 then R n 36 123 [qr 0,qi x1,qi x2,qi x3,qi r_43,qi r_44,qi r_45,qi r_46,qn] [] 42 m else R n 36 102 [qr 0,qi x1,qi x2,qi x3,qi r_43,qi r_44,qi r_45,qi r_46,qn] [] 42 m) (fun _=>rfl) (Sim.ite (fun _=>Sim.jmp (f_factsMutex_b123_ok x1 x2 x3 r_43 r_45 r_46 m) rfl (fun _=>rfl)) (fun _=>Sim.shift 8 (G:=fun n=>R n 36 114 [qr 0,qi x1,qi x2,qi x3,qi r_43,qi r_44,qi r_45,qi r_46,qn] [vi (w32 ((w32 (x1*10))+x2)),vr 15,vi r_44] 42 m) (fun _=>rfl) (Sim.shift 1 (G:=fun n=>if 0≤w32 ((w32 (x1*10))+x2)∧w32 ((w32 (x1*10))+x2)<90 then R n 36 115 [qr 0,qi x1,qi x2,qi x3,qi r_43,qi r_44,qi r_45,qi r_46,qn] [vi (m 15 (w32 ((w32 (x1*10))+x2))),vi r_44] 42 m else none) (fun _=>rfl) (Sim.grd fun _=>Sim.shift 2 (G:=fun n=>R n 36 117 [qr 0,qi x1,qi x2,qi x3,qi r_43,qi r_44,qi r_45,qi r_46,qn] [vi (xor32 (m 15 (w32 ((w32 (x1*10))+x2))) (-1)),vi r_44] 42 m) (fun _=>rfl) (Sim.shift 2 (G:=fun n=>if and32 r_44 (xor32 (m 15 (w32 ((w32 (x1*10))+x2))) (-1))=0 then R n 36 123 [qr 0,qi x1,qi x2,qi x3,qi r_43,qi r_44,qi r_45,qi r_46,qn] [] 42 m else R n 36 121 [qr 0,qi x1,qi x2,qi x3,qi r_43,qi r_44,qi r_45,qi r_46,qn] [] 42 m) (fun _=>rfl) (Sim.ite (fun _=>Sim.jmp (f_factsMutex_b123_ok x1 x2 x3 r_43 r_45 r_46 m) rfl (fun _=>rfl)) (fun _=>Sim.shift 2 (G:=(fun _=>some (some (vi 0),42,m))) (fun _=>rfl) (Sim.pur _ _))))))))))))))))))))))))))
def f_factMutexRow_b22 (m:OMem):Option (Int):=some 0
theorem f_factMutexRow_b22_ok (m:OMem):Sim (f_factMutexRow_b22 m) (fun r _=>some (some (vi r),42,m)) (fun n=>R n 35 22 [qn,qn,qn,qn,qn] [] 42 m) :=
  Sim.shift 2 (G:=(fun _=>some (some (vi 0),42,m))) (fun _=>rfl) (Sim.pur _ _)
def f_factMutexRow_l29_H (m:OMem) (x1 x2:Int):Int×Int→Nat→RT:=fun (x3,x4) n=>R n 35 29 [qr 0,qi x1,qi x2,qi x3,qi x4] [] 42 m
def f_factMutexRow_l29_X (m:OMem) (x1 x2:Int):(Int)→Nat→RT:=fun e n=>match e with | y3=>R n 35 83 [qn,qn,qn,qi y3,qn] [] 42 m
def f_factMutexRow_b77 (x1 x2 x3 x4:Int) (m:OMem):Option ((Int×Int)⊕((Int))):=some (.inl (x3,w32 (x4+1)))
theorem f_factMutexRow_b77_ok (x1 x2 x3 x4:Int) (m:OMem):Sim (f_factMutexRow_b77 x1 x2 x3 x4 m) (Sum.elim (f_factMutexRow_l29_H m x1 x2 ) (f_factMutexRow_l29_X m x1 x2 )) (fun n=>R n 35 77 [qr 0,qi x1,qi x2,qi x3,qi x4] [] 42 m) :=
  Sim.shift 2 (G:=fun n=>R n 35 29 [qr 0,qi x1,qi x2,qi x3,qi (w32 (x4+1))] [] 42 m) (fun _=>rfl) (Sim.pur _ _)
def f_factMutexRow_l29 (m:OMem) (x1 x2:Int):Int×Int→Option ((Int×Int)⊕((Int))):=fun (x3,x4)=>if x4<m 0 24 then (if x4=x2 then (f_factMutexRow_b77 x1 x2 x3 x4 m) else (if 0≤x1∧x1<9 then ((f_hasBit (m 11 x1) x4 m).bind fun r_39=>(if r_39=0 then (f_factMutexRow_b77 x1 x2 x3 x4 m) else ((f_factsMutex x1 x2 x4 m).bind fun r_49=>(if r_49=0 then (f_factMutexRow_b77 x1 x2 x3 x4 m) else (f_factMutexRow_b77 x1 x2 (or32 x3 (shl32 1 x4)) x4 m))))) else none)) else (some (.inr x3))
theorem f_factMutexRow_l29_ok (m:OMem) (x1 x2:Int) (x3 x4:Int):Sim (f_factMutexRow_l29 m x1 x2 (x3,x4)) (Sum.elim (f_factMutexRow_l29_H m x1 x2 ) (f_factMutexRow_l29_X m x1 x2 )) (f_factMutexRow_l29_H m x1 x2 (x3,x4)) :=
  Sim.shift 4 (G:=fun n=>if x4<m 0 24 then R n 35 38 [qr 0,qi x1,qi x2,qi x3,qi x4] [] 42 m else R n 35 83 [qr 0,qi x1,qi x2,qi x3,qi x4] [] 42 m) (fun _=>rfl) (Sim.ite (fun _=>Sim.shift 3 (G:=fun n=>if x4=x2 then R n 35 77 [qr 0,qi x1,qi x2,qi x3,qi x4] [] 42 m else R n 35 44 [qr 0,qi x1,qi x2,qi x3,qi x4] [] 42 m) (fun _=>rfl) (Sim.ite (fun _=>f_factMutexRow_b77_ok x1 x2 x3 x4 m) (fun _=>Sim.shift 5 (G:=fun n=>if 0≤x1∧x1<9 then R n 35 51 [qr 0,qi x1,qi x2,qi x3,qi x4] [vi (m 11 x1),vr 0] 42 m else none) (fun _=>rfl) (Sim.grd fun _=>Sim.shift 2 (G:=fun n=>(R n 31 0 [qr 0,qi (m 11 x1),qi x4] [] 42 m).bind fun y=>Rr n 35 56 [qr 0,qi x1,qi x2,qi x3,qi x4] [] y) (fun _=>rfl) (Sim.call (f_hasBit_ok 42 (m 11 x1) x4 m) (fun _ _=>rfl) (runP_mono _ _ _ _ _ _) (fun _=>runP_mono _ _ _ _ _ _) (fun r_39=>Sim.shift 0 (G:=fun n=>R n 35 56 [qr 0,qi x1,qi x2,qi x3,qi x4] [vi r_39] 42 m) (fun _=>rfl) (Sim.shift 1 (G:=fun n=>if r_39=0 then R n 35 77 [qr 0,qi x1,qi x2,qi x3,qi x4] [] 42 m else R n 35 59 [qr 0,qi x1,qi x2,qi x3,qi x4] [] 42 m) (fun _=>rfl) (Sim.ite (fun _=>f_factMutexRow_b77_ok x1 x2 x3 x4 m) (fun _=>Sim.shift 5 (G:=fun n=>(R n 36 0 [qr 0,qi x1,qi x2,qi x4,qn,qn,qn,qn,qn] [] 42 m).bind fun y=>Rr n 35 67 [qr 0,qi x1,qi x2,qi x3,qi x4] [] y) (fun _=>rfl) (Sim.call (f_factsMutex_ok x1 x2 x4 m) (fun _ _=>rfl) (runP_mono _ _ _ _ _ _) (fun _=>runP_mono _ _ _ _ _ _) (fun r_49=>Sim.shift 0 (G:=fun n=>R n 35 67 [qr 0,qi x1,qi x2,qi x3,qi x4] [vi r_49] 42 m) (fun _=>rfl) (Sim.shift 1 (G:=fun n=>if r_49=0 then R n 35 77 [qr 0,qi x1,qi x2,qi x3,qi x4] [] 42 m else R n 35 70 [qr 0,qi x1,qi x2,qi x3,qi x4] [] 42 m) (fun _=>rfl) (Sim.ite (fun _=>f_factMutexRow_b77_ok x1 x2 x3 x4 m) (fun _=>Sim.shift 4 (G:=fun n=>R n 35 75 [qr 0,qi x1,qi x2,qi x3,qi x4] [vi (shl32 1 x4),vi x3] 42 m) (fun _=>rfl) (Sim.shift 2 (G:=fun n=>R n 35 77 [qr 0,qi x1,qi x2,qi (or32 x3 (shl32 1 x4)),qi x4] [] 42 m) (fun _=>rfl) (f_factMutexRow_b77_ok x1 x2 (or32 x3 (shl32 1 x4)) x4 m)))))))))))))))) (fun _=>Sim.leaf rfl (fun _=>rfl)))
def f_factMutexRow (x1 x2:Int) (m:OMem):Option (Int):=if x2<m 0 24 then (if 0≤x1∧x1<9 then ((f_hasBit (m 11 x1) x2 m).bind fun r_38=>(if r_38=0 then (f_factMutexRow_b22 m) else ((lp (f_factMutexRow_l29 m x1 x2) NN (0,0)).bind fun x3_50=>(some x3_50)))) else none) else (f_factMutexRow_b22 m)
theorem f_factMutexRow_ok (x1 x2:Int) (m:OMem):Sim (f_factMutexRow x1 x2 m) (fun r _=>some (some (vi r),42,m)) (fun n=>R n 35 0 [qr 0,qi x1,qi x2,qn,qn] [] 42 m) :=
  Sim.shift 4 (G:=fun n=>if x2<m 0 24 then R n 35 8 [qr 0,qi x1,qi x2,qn,qn] [] 42 m else R n 35 22 [qr 0,qi x1,qi x2,qn,qn] [] 42 m) (fun _=>rfl) (Sim.ite (fun _=>Sim.shift 5 (G:=fun n=>if 0≤x1∧x1<9 then R n 35 15 [qr 0,qi x1,qi x2,qn,qn] [vi (m 11 x1),vr 0] 42 m else none) (fun _=>rfl) (Sim.grd fun _=>Sim.shift 2 (G:=fun n=>(R n 31 0 [qr 0,qi (m 11 x1),qi x2] [] 42 m).bind fun y=>Rr n 35 19 [qr 0,qi x1,qi x2,qn,qn] [] y) (fun _=>rfl) (Sim.call (f_hasBit_ok 42 (m 11 x1) x2 m) (fun _ _=>rfl) (runP_mono _ _ _ _ _ _) (fun _=>runP_mono _ _ _ _ _ _) (fun r_38=>Sim.shift 0 (G:=fun n=>R n 35 19 [qr 0,qi x1,qi x2,qn,qn] [vi r_38] 42 m) (fun _=>rfl) (Sim.shift 1 (G:=fun n=>if r_38=0 then R n 35 22 [qr 0,qi x1,qi x2,qn,qn] [] 42 m else R n 35 24 [qr 0,qi x1,qi x2,qn,qn] [] 42 m) (fun _=>rfl) (Sim.ite (fun _=>Sim.jmp (f_factMutexRow_b22_ok m) rfl (fun _=>rfl)) (fun _=>Sim.shift 4 (G:=fun n=>R n 35 29 [qr 0,qi x1,qi x2,qi 0,qi 0] [] 42 m) (fun _=>rfl) (Sim.bind (Sim.lp (σ:=Int×Int) (fun ⟨x3L,x4L⟩=>f_factMutexRow_l29_ok m x1 x2 x3L x4L) NN (0,0)) (fun x3_50=>Sim.shift 2 (G:=(fun _=>some (some (vi x3_50),42,m))) (fun _=>rfl) (Sim.pur _ _)))))))))) (fun _=>Sim.jmp (f_factMutexRow_b22_ok m) rfl (fun _=>rfl)))
def f_buildFactLevel_l11_H (m:OMem) (x1:Int):Int×Int→Nat→RT:=fun (x2,x3) n=>R n 34 11 [qr 0,qi x1,qi x2,qi x3] [] 42 m
def f_buildFactLevel_l11_X (m:OMem) (x1:Int):(Int)→Nat→RT:=fun e n=>match e with | y2=>R n 34 48 [qr 0,qi x1,qi y2,qn] [] 42 m
def f_buildFactLevel_b42 (x1 x2 x3:Int) (m:OMem):Option ((Int×Int)⊕((Int))):=some (.inl (x2,w32 (x3+1)))
theorem f_buildFactLevel_b42_ok (x1 x2 x3:Int) (m:OMem):Sim (f_buildFactLevel_b42 x1 x2 x3 m) (Sum.elim (f_buildFactLevel_l11_H m x1 ) (f_buildFactLevel_l11_X m x1 )) (fun n=>R n 34 42 [qr 0,qi x1,qi x2,qi x3] [] 42 m) :=
  Sim.shift 2 (G:=fun n=>R n 34 11 [qr 0,qi x1,qi x2,qi (w32 (x3+1))] [] 42 m) (fun _=>rfl) (Sim.pur _ _)
def f_buildFactLevel_l11 (m:OMem) (x1:Int):Int×Int→Option ((Int×Int)⊕((Int))):=fun (x2,x3)=>if x3<m 0 25 then (if 0≤x1∧x1<9 then ((f_hasBit (m 12 x1) x3 m).bind fun r_36=>(if r_36=0 then (f_buildFactLevel_b42 x1 x2 x3 m) else (if 0≤x3∧x3<10 then (f_buildFactLevel_b42 x1 (or32 x2 (m 3 x3)) x3 m) else none))) else none) else (some (.inr x2))
theorem f_buildFactLevel_l11_ok (m:OMem) (x1:Int) (x2 x3:Int):Sim (f_buildFactLevel_l11 m x1 (x2,x3)) (Sum.elim (f_buildFactLevel_l11_H m x1 ) (f_buildFactLevel_l11_X m x1 )) (f_buildFactLevel_l11_H m x1 (x2,x3)) :=
  Sim.shift 4 (G:=fun n=>if x3<m 0 25 then R n 34 19 [qr 0,qi x1,qi x2,qi x3] [] 42 m else R n 34 48 [qr 0,qi x1,qi x2,qi x3] [] 42 m) (fun _=>rfl) (Sim.ite (fun _=>Sim.shift 5 (G:=fun n=>if 0≤x1∧x1<9 then R n 34 26 [qr 0,qi x1,qi x2,qi x3] [vi (m 12 x1),vr 0] 42 m else none) (fun _=>rfl) (Sim.grd fun _=>Sim.shift 2 (G:=fun n=>(R n 31 0 [qr 0,qi (m 12 x1),qi x3] [] 42 m).bind fun y=>Rr n 34 30 [qr 0,qi x1,qi x2,qi x3] [] y) (fun _=>rfl) (Sim.call (f_hasBit_ok 42 (m 12 x1) x3 m) (fun _ _=>rfl) (runP_mono _ _ _ _ _ _) (fun _=>runP_mono _ _ _ _ _ _) (fun r_36=>Sim.shift 0 (G:=fun n=>R n 34 30 [qr 0,qi x1,qi x2,qi x3] [vi r_36] 42 m) (fun _=>rfl) (Sim.shift 1 (G:=fun n=>if r_36=0 then R n 34 42 [qr 0,qi x1,qi x2,qi x3] [] 42 m else R n 34 33 [qr 0,qi x1,qi x2,qi x3] [] 42 m) (fun _=>rfl) (Sim.ite (fun _=>f_buildFactLevel_b42_ok x1 x2 x3 m) (fun _=>Sim.shift 5 (G:=fun n=>if 0≤x3∧x3<10 then R n 34 40 [qr 0,qi x1,qi x2,qi x3] [vi (m 3 x3),vi x2] 42 m else none) (fun _=>rfl) (Sim.grd fun _=>Sim.shift 2 (G:=fun n=>R n 34 42 [qr 0,qi x1,qi (or32 x2 (m 3 x3)),qi x3] [] 42 m) (fun _=>rfl) (f_buildFactLevel_b42_ok x1 (or32 x2 (m 3 x3)) x3 m))))))))) (fun _=>Sim.leaf rfl (fun _=>rfl)))
def f_buildFactLevel_l57_H (x1:Int):Int×OMem→Nat→RT:=fun (x3,m) n=>R n 34 57 [qr 0,qi x1,qn,qi x3] [] 42 m
def f_buildFactLevel_l57_X (x1:Int):(OMem)→Nat→RT:=fun e n=>match e with | w=>R n 34 86 [qn,qn,qn,qn] [] 42 w
def f_buildFactLevel_l57 (x1:Int):Int×OMem→Option ((Int×OMem)⊕((OMem))):=fun (x3,m)=>if x3<10 then ((f_factMutexRow x1 x3 m).bind fun r_51=>(if 0≤w32 ((w32 (x1*10))+x3)∧w32 ((w32 (x1*10))+x3)<90 then (some (.inl (w32 (x3+1),sto m 13 (w32 ((w32 (x1*10))+x3)) r_51))) else none)) else (some (.inr m))
theorem f_buildFactLevel_l57_ok (x1:Int) (x3:Int) (m:OMem):Sim (f_buildFactLevel_l57 x1 (x3,m)) (Sum.elim (f_buildFactLevel_l57_H x1 ) (f_buildFactLevel_l57_X x1 )) (f_buildFactLevel_l57_H x1 (x3,m)) :=
  Sim.shift 3 (G:=fun n=>if x3<10 then R n 34 63 [qr 0,qi x1,qn,qi x3] [] 42 m else R n 34 86 [qr 0,qi x1,qn,qi x3] [] 42 m) (fun _=>rfl) (Sim.ite (fun _=>Sim.shift 7 (G:=fun n=>R n 34 73 [qr 0,qi x1,qn,qi x3] [vi (w32 ((w32 (x1*10))+x3)),vr 13] 42 m) (fun _=>rfl) (Sim.shift 4 (G:=fun n=>(R n 35 0 [qr 0,qi x1,qi x3,qn,qn] [] 42 m).bind fun y=>Rr n 34 79 [qr 0,qi x1,qn,qi x3] [vi (w32 ((w32 (x1*10))+x3)),vr 13] y) (fun _=>rfl) (Sim.call (f_factMutexRow_ok x1 x3 m) (fun _ _=>rfl) (runP_mono _ _ _ _ _ _) (fun _=>runP_mono _ _ _ _ _ _) (fun r_51=>Sim.shift 0 (G:=fun n=>R n 34 79 [qr 0,qi x1,qn,qi x3] [vi r_51,vi (w32 ((w32 (x1*10))+x3)),vr 13] 42 m) (fun _=>rfl) (Sim.shift 1 (G:=fun n=>if 0≤w32 ((w32 (x1*10))+x3)∧w32 ((w32 (x1*10))+x3)<90 then R n 34 80 [qr 0,qi x1,qn,qi x3] [] 42 (sto m 13 (w32 ((w32 (x1*10))+x3)) r_51) else none) (fun _=>rfl) (Sim.grd fun _=>Sim.shift 2 (G:=fun n=>R n 34 57 [qr 0,qi x1,qn,qi (w32 (x3+1))] [] 42 (sto m 13 (w32 ((w32 (x1*10))+x3)) r_51)) (fun _=>rfl) (Sim.pur _ _))))))) (fun _=>Sim.leaf rfl (fun _=>rfl)))
def f_buildFactLevel (x1:Int) (m:OMem):Option (OMem):=if 0≤w32 (x1 - 1)∧w32 (x1 - 1)<9 then ((lp (f_buildFactLevel_l11 m x1) NN (m 11 (w32 (x1 - 1)),0)).bind fun x2_37=>(if 0≤x1∧x1<9 then ((lp (f_buildFactLevel_l57 x1) NN (0,sto m 11 x1 x2_37)).bind fun m_52=>(some m_52)) else none)) else none
theorem f_buildFactLevel_ok (x1:Int) (m:OMem):Sim (f_buildFactLevel x1 m) (fun w0 _=>some (none,42,w0)) (fun n=>R n 34 0 [qr 0,qi x1,qn,qn] [] 42 m) :=
  Sim.shift 6 (G:=fun n=>if 0≤w32 (x1 - 1)∧w32 (x1 - 1)<9 then R n 34 8 [qr 0,qi x1,qn,qn] [vi (m 11 (w32 (x1 - 1)))] 42 m else none) (fun _=>rfl) (Sim.grd fun _=>Sim.shift 3 (G:=fun n=>R n 34 11 [qr 0,qi x1,qi (m 11 (w32 (x1 - 1))),qi 0] [] 42 m) (fun _=>rfl) (Sim.bind (Sim.lp (σ:=Int×Int) (fun ⟨x2L,x3L⟩=>f_buildFactLevel_l11_ok m x1 x2L x3L) NN (m 11 (w32 (x1 - 1)),0)) (fun x2_37=>Sim.shift 5 (G:=fun n=>if 0≤x1∧x1<9 then R n 34 55 [qr 0,qi x1,qi x2_37,qn] [] 42 (sto m 11 x1 x2_37) else none) (fun _=>rfl) (Sim.grd fun _=>Sim.shift 2 (G:=fun n=>R n 34 57 [qr 0,qi x1,qi x2_37,qi 0] [] 42 (sto m 11 x1 x2_37)) (fun _=>rfl) (Sim.jmp (Sim.bind (Sim.lp (σ:=Int×OMem) (fun ⟨x3L,mL⟩=>f_buildFactLevel_l57_ok x1 x3L mL) NN (0,sto m 11 x1 x2_37)) (fun m_52=>Sim.shift 1 (G:=(fun _=>some (none,42,m_52))) (fun _=>rfl) (Sim.pur _ _))) rfl (fun _=>rfl))))))
def f_buildGraph_l31_H:Int×OMem→Nat→RT:=fun (x2,m) n=>R n 9 31 [qr 0,qn,qi x2] [] 42 m
def f_buildGraph_l31_X:(OMem)→Nat→RT:=fun e n=>match e with | w=>R n 9 64 [qr 0,qn,qn] [] 42 w
def f_buildGraph_l31:Int×OMem→Option ((Int×OMem)⊕((OMem))):=fun (x2,m)=>if x2<10 then (if 0≤x2∧x2<90 then (if 0≤x2∧x2<90 then (if 0≤x2∧x2<90 then (some (.inl (w32 (x2+1),sto (sto (sto m 13 x2 0) 14 x2 0) 15 x2 0))) else none) else none) else none) else (some (.inr m))
theorem f_buildGraph_l31_ok (x2:Int) (m:OMem):Sim (f_buildGraph_l31 (x2,m)) (Sum.elim (f_buildGraph_l31_H ) (f_buildGraph_l31_X )) (f_buildGraph_l31_H (x2,m)) :=
  Sim.shift 3 (G:=fun n=>if x2<10 then R n 9 37 [qr 0,qn,qi x2] [] 42 m else R n 9 64 [qr 0,qn,qi x2] [] 42 m) (fun _=>rfl) (Sim.ite (fun _=>Sim.shift 5 (G:=fun n=>if 0≤x2∧x2<90 then R n 9 44 [qr 0,qn,qi x2] [] 42 (sto m 13 x2 0) else none) (fun _=>rfl) (Sim.grd fun _=>Sim.shift 5 (G:=fun n=>if 0≤x2∧x2<90 then R n 9 51 [qr 0,qn,qi x2] [] 42 (sto (sto m 13 x2 0) 14 x2 0) else none) (fun _=>rfl) (Sim.grd fun _=>Sim.shift 5 (G:=fun n=>if 0≤x2∧x2<90 then R n 9 58 [qr 0,qn,qi x2] [] 42 (sto (sto (sto m 13 x2 0) 14 x2 0) 15 x2 0) else none) (fun _=>rfl) (Sim.grd fun _=>Sim.shift 2 (G:=fun n=>R n 9 31 [qr 0,qn,qi (w32 (x2+1))] [] 42 (sto (sto (sto m 13 x2 0) 14 x2 0) 15 x2 0)) (fun _=>rfl) (Sim.pur _ _))))) (fun _=>Sim.leaf rfl (fun _=>rfl)))
def f_buildGraph_l66_H:Int×OMem→Nat→RT:=fun (x2,m) n=>R n 9 66 [qr 0,qn,qi x2] [] 42 m
def f_buildGraph_l66_X:(OMem)→Nat→RT:=fun e n=>match e with | w=>R n 9 90 [qn,qn,qn] [] 42 w
def f_buildGraph_l66:Int×OMem→Option ((Int×OMem)⊕((OMem))):=fun (x2,m)=>if m 0 32<x2 then (some (.inr m)) else ((f_buildActionLevel x2 m).bind fun m_35=>((f_buildFactLevel x2 m_35).bind fun m_53=>(some (.inl (w32 (x2+1),m_53)))))
theorem f_buildGraph_l66_ok (x2:Int) (m:OMem):Sim (f_buildGraph_l66 (x2,m)) (Sum.elim (f_buildGraph_l66_H ) (f_buildGraph_l66_X )) (f_buildGraph_l66_H (x2,m)) :=
  Sim.shift 4 (G:=fun n=>if m 0 32<x2 then R n 9 90 [qr 0,qn,qi x2] [] 42 m else R n 9 74 [qr 0,qn,qi x2] [] 42 m) (fun _=>rfl) (Sim.ite (fun _=>Sim.leaf rfl (fun _=>rfl)) (fun _=>Sim.shift 3 (G:=fun n=>(R n 27 0 [qr 0,qi x2,qn,qn] [] 42 m).bind fun y=>Rr n 9 79 [qr 0,qn,qi x2] [] y) (fun _=>rfl) (Sim.call (f_buildActionLevel_ok x2 m) (fun _ _=>rfl) (runP_mono _ _ _ _ _ _) (fun _=>runP_mono _ _ _ _ _ _) (fun m_35=>Sim.shift 0 (G:=fun n=>R n 9 79 [qr 0,qn,qi x2] [] 42 m_35) (fun _=>rfl) (Sim.shift 3 (G:=fun n=>(R n 34 0 [qr 0,qi x2,qn,qn] [] 42 m_35).bind fun y=>Rr n 9 84 [qr 0,qn,qi x2] [] y) (fun _=>rfl) (Sim.call (f_buildFactLevel_ok x2 m_35) (fun _ _=>rfl) (runP_mono _ _ _ _ _ _) (fun _=>runP_mono _ _ _ _ _ _) (fun m_53=>Sim.shift 0 (G:=fun n=>R n 9 84 [qr 0,qn,qi x2] [] 42 m_53) (fun _=>rfl) (Sim.shift 2 (G:=fun n=>R n 9 66 [qr 0,qn,qi (w32 (x2+1))] [] 42 m_53) (fun _=>rfl) (Sim.pur _ _)))))))))
def f_buildGraph (x1:Int) (m:OMem):Option (OMem):=(f_clamp x1 0 8 m).bind fun r_15=>((lp (f_buildGraph_l31 ) NN (0,sto (sto (sto m 0 32 r_15) 11 0 (m 0 27)) 12 0 0)).bind fun m_16=>((lp (f_buildGraph_l66 ) NN (1,m_16)).bind fun m_54=>(some m_54)))
theorem f_buildGraph_ok (x1:Int) (m:OMem):Sim (f_buildGraph x1 m) (fun w0 _=>some (none,42,w0)) (fun n=>R n 9 0 [qr 0,qi x1,qn] [] 42 m) :=
  Sim.shift 6 (G:=fun n=>(R n 1 0 [qr 0,qi x1,qi 0,qi 8] [] 42 m).bind fun y=>Rr n 9 9 [qr 0,qi x1,qn] [vr 0] y) (fun _=>rfl) (Sim.call (f_clamp_ok 42 x1 0 8 m) (fun _ _=>rfl) (runP_mono _ _ _ _ _ _) (fun _=>runP_mono _ _ _ _ _ _) (fun r_15=>Sim.shift 0 (G:=fun n=>R n 9 9 [qr 0,qi x1,qn] [vi r_15,vr 0] 42 m) (fun _=>rfl) (Sim.shift 12 (G:=fun n=>R n 9 29 [qr 0,qi x1,qn] [] 42 (sto (sto (sto m 0 32 r_15) 11 0 (m 0 27)) 12 0 0)) (fun _=>rfl) (Sim.shift 2 (G:=fun n=>R n 9 31 [qr 0,qi x1,qi 0] [] 42 (sto (sto (sto m 0 32 r_15) 11 0 (m 0 27)) 12 0 0)) (fun _=>rfl) (Sim.jmp (Sim.bind (Sim.lp (σ:=Int×OMem) (fun ⟨x2L,mL⟩=>f_buildGraph_l31_ok x2L mL) NN (0,sto (sto (sto m 0 32 r_15) 11 0 (m 0 27)) 12 0 0)) (fun m_16=>Sim.shift 2 (G:=fun n=>R n 9 66 [qr 0,qn,qi 1] [] 42 m_16) (fun _=>rfl) (Sim.bind (Sim.lp (σ:=Int×OMem) (fun ⟨x2L,mL⟩=>f_buildGraph_l66_ok x2L mL) NN (1,m_16)) (fun m_54=>Sim.shift 1 (G:=(fun _=>some (none,42,m_54))) (fun _=>rfl) (Sim.pur _ _))))) rfl (fun _=>rfl))))))
def f_layerCandidate_l28_H (m:OMem) (x1 x2:Int):Int→Nat→RT:=fun x3 n=>R n 38 28 [qr 0,qi x1,qi x2,qi x3] [] 42 m
def f_layerCandidate_l28_X (m:OMem) (x1 x2:Int):(Unit)⊕(Unit)→Nat→RT:=fun e n=>match e with | (.inl _)=>R n 38 61 [qn,qn,qn,qn] [] 42 m | (.inr _)=>R n 38 69 [qn,qn,qn,qn] [] 42 m
def f_layerCandidate_b63 (x1 x2 x3:Int) (m:OMem):Option ((Int)⊕((Unit)⊕(Unit))):=some (.inl (w32 (x3+1)))
theorem f_layerCandidate_b63_ok (x1 x2 x3:Int) (m:OMem):Sim (f_layerCandidate_b63 x1 x2 x3 m) (Sum.elim (f_layerCandidate_l28_H m x1 x2 ) (f_layerCandidate_l28_X m x1 x2 )) (fun n=>R n 38 63 [qr 0,qi x1,qi x2,qi x3] [] 42 m) :=
  Sim.shift 2 (G:=fun n=>R n 38 28 [qr 0,qi x1,qi x2,qi (w32 (x3+1))] [] 42 m) (fun _=>rfl) (Sim.pur _ _)
def f_layerCandidate_l28 (m:OMem) (x1 x2:Int):Int→Option ((Int)⊕((Unit)⊕(Unit))):=fun x3=>if x3<m 0 25 then ((f_hasBit x2 x3 m).bind fun r_56=>(if r_56=0 then (f_layerCandidate_b63 x1 x2 x3 m) else (if 0≤w32 ((w32 (x1*10))+x3)∧w32 ((w32 (x1*10))+x3)<90 then (if and32 (m 14 (w32 ((w32 (x1*10))+x3))) x2=0 then (f_layerCandidate_b63 x1 x2 x3 m) else (some (.inr (.inl ())))) else none))) else (some (.inr (.inr ())))
theorem f_layerCandidate_l28_ok (m:OMem) (x1 x2:Int) (x3:Int):Sim (f_layerCandidate_l28 m x1 x2 x3) (Sum.elim (f_layerCandidate_l28_H m x1 x2 ) (f_layerCandidate_l28_X m x1 x2 )) (f_layerCandidate_l28_H m x1 x2 x3) :=
  Sim.shift 4 (G:=fun n=>if x3<m 0 25 then R n 38 36 [qr 0,qi x1,qi x2,qi x3] [] 42 m else R n 38 69 [qr 0,qi x1,qi x2,qi x3] [] 42 m) (fun _=>rfl) (Sim.ite (fun _=>Sim.shift 4 (G:=fun n=>(R n 31 0 [qr 0,qi x2,qi x3] [] 42 m).bind fun y=>Rr n 38 42 [qr 0,qi x1,qi x2,qi x3] [] y) (fun _=>rfl) (Sim.call (f_hasBit_ok 42 x2 x3 m) (fun _ _=>rfl) (runP_mono _ _ _ _ _ _) (fun _=>runP_mono _ _ _ _ _ _) (fun r_56=>Sim.shift 0 (G:=fun n=>R n 38 42 [qr 0,qi x1,qi x2,qi x3] [vi r_56] 42 m) (fun _=>rfl) (Sim.shift 1 (G:=fun n=>if r_56=0 then R n 38 63 [qr 0,qi x1,qi x2,qi x3] [] 42 m else R n 38 45 [qr 0,qi x1,qi x2,qi x3] [] 42 m) (fun _=>rfl) (Sim.ite (fun _=>f_layerCandidate_b63_ok x1 x2 x3 m) (fun _=>Sim.shift 7 (G:=fun n=>R n 38 55 [qr 0,qi x1,qi x2,qi x3] [vi (w32 ((w32 (x1*10))+x3)),vr 14] 42 m) (fun _=>rfl) (Sim.shift 1 (G:=fun n=>if 0≤w32 ((w32 (x1*10))+x3)∧w32 ((w32 (x1*10))+x3)<90 then R n 38 56 [qr 0,qi x1,qi x2,qi x3] [vi (m 14 (w32 ((w32 (x1*10))+x3)))] 42 m else none) (fun _=>rfl) (Sim.grd fun _=>Sim.shift 3 (G:=fun n=>if and32 (m 14 (w32 ((w32 (x1*10))+x3))) x2=0 then R n 38 63 [qr 0,qi x1,qi x2,qi x3] [] 42 m else R n 38 61 [qr 0,qi x1,qi x2,qi x3] [] 42 m) (fun _=>rfl) (Sim.ite (fun _=>f_layerCandidate_b63_ok x1 x2 x3 m) (fun _=>Sim.leaf rfl (fun _=>rfl))))))))))) (fun _=>Sim.leaf rfl (fun _=>rfl)))
def f_layerCandidate (x1 x2:Int) (m:OMem):Option (Int):=if 0≤x2∧x2<1024 then (if m 10 x2=0 then (some 0) else (if 0≤x1∧x1<9 then (if and32 x2 (xor32 (m 12 x1) (-1))=0 then ((lp (f_layerCandidate_l28 m x1 x2) NN 0).bind fun e=>match e with | (.inl _)=>(some 0) | (.inr _)=>(some 1)) else (some 0)) else none)) else none
theorem f_layerCandidate_ok (x1 x2:Int) (m:OMem):Sim (f_layerCandidate x1 x2 m) (fun r _=>some (some (vi r),42,m)) (fun n=>R n 38 0 [qr 0,qi x1,qi x2,qn] [] 42 m) :=
  Sim.shift 4 (G:=fun n=>if 0≤x2∧x2<1024 then R n 38 6 [qr 0,qi x1,qi x2,qn] [vi (m 10 x2)] 42 m else none) (fun _=>rfl) (Sim.grd fun _=>Sim.shift 1 (G:=fun n=>if m 10 x2=0 then R n 38 9 [qr 0,qi x1,qi x2,qn] [] 42 m else R n 38 11 [qr 0,qi x1,qi x2,qn] [] 42 m) (fun _=>rfl) (Sim.ite (fun _=>Sim.shift 2 (G:=(fun _=>some (some (vi 0),42,m))) (fun _=>rfl) (Sim.pur _ _)) (fun _=>Sim.shift 5 (G:=fun n=>if 0≤x1∧x1<9 then R n 38 18 [qr 0,qi x1,qi x2,qn] [vi (m 12 x1),vi x2] 42 m else none) (fun _=>rfl) (Sim.grd fun _=>Sim.shift 2 (G:=fun n=>R n 38 20 [qr 0,qi x1,qi x2,qn] [vi (xor32 (m 12 x1) (-1)),vi x2] 42 m) (fun _=>rfl) (Sim.shift 2 (G:=fun n=>if and32 x2 (xor32 (m 12 x1) (-1))=0 then R n 38 26 [qr 0,qi x1,qi x2,qn] [] 42 m else R n 38 24 [qr 0,qi x1,qi x2,qn] [] 42 m) (fun _=>rfl) (Sim.ite (fun _=>Sim.shift 2 (G:=fun n=>R n 38 28 [qr 0,qi x1,qi x2,qi 0] [] 42 m) (fun _=>rfl) (Sim.bind (Sim.lp (σ:=Int) (fun x3L=>f_layerCandidate_l28_ok m x1 x2 x3L) NN 0) (fun e=>match e with | (.inl _)=>Sim.shift 2 (G:=(fun _=>some (some (vi 0),42,m))) (fun _=>rfl) (Sim.pur _ _) | (.inr _)=>Sim.shift 2 (G:=(fun _=>some (some (vi 1),42,m))) (fun _=>rfl) (Sim.pur _ _)))) (fun _=>Sim.shift 2 (G:=(fun _=>some (some (vi 0),42,m))) (fun _=>rfl) (Sim.pur _ _))))))))
def f_buildCandidates_l9_H (x1 x2:Int):Int×OMem→Nat→RT:=fun (x3,m) n=>R n 10 9 [qr 0,qi x1,qi x2,qi x3,qn] [] 42 m
def f_buildCandidates_l9_X (x1 x2:Int):(OMem)→Nat→RT:=fun e n=>match e with | w=>R n 10 61 [qn,qn,qn,qn,qn] [] 42 w
def f_buildCandidates_l23_H (x1 x2 x3:Int):Int×OMem→Nat→RT:=fun (x4,m) n=>R n 10 23 [qr 0,qi x1,qi x2,qi x3,qi x4] [] 42 m
def f_buildCandidates_l23_X (x1 x2 x3:Int):(OMem)→Nat→RT:=fun e n=>match e with | w=>R n 10 55 [qr 0,qi x1,qi x2,qi x3,qn] [] 42 w
def f_buildCandidates_l23 (x1 x2 x3:Int):Int×OMem→Option ((Int×OMem)⊕((OMem))):=fun (x4,m)=>if x4<x2 then ((f_layerCandidate x3 x4 m).bind fun r_57=>(if 0≤w32 ((w32 (x3*1024))+x4)∧w32 ((w32 (x3*1024))+x4)<9216 then (some (.inl (w32 (x4+1),sto m 16 (w32 ((w32 (x3*1024))+x4)) (r_57 % 2)))) else none)) else (some (.inr m))
theorem f_buildCandidates_l23_ok (x1 x2 x3:Int) (x4:Int) (m:OMem):Sim (f_buildCandidates_l23 x1 x2 x3 (x4,m)) (Sum.elim (f_buildCandidates_l23_H x1 x2 x3 ) (f_buildCandidates_l23_X x1 x2 x3 )) (f_buildCandidates_l23_H x1 x2 x3 (x4,m)) :=
  Sim.shift 3 (G:=fun n=>if x4<x2 then R n 10 29 [qr 0,qi x1,qi x2,qi x3,qi x4] [] 42 m else R n 10 55 [qr 0,qi x1,qi x2,qi x3,qi x4] [] 42 m) (fun _=>rfl) (Sim.ite (fun _=>Sim.shift 7 (G:=fun n=>R n 10 41 [qr 0,qi x1,qi x2,qi x3,qi x4] [vi (w32 ((w32 (x3*1024))+x4)),vr 16] 42 m) (fun _=>rfl) (Sim.shift 4 (G:=fun n=>(R n 38 0 [qr 0,qi x3,qi x4,qn] [] 42 m).bind fun y=>Rr n 10 48 [qr 0,qi x1,qi x2,qi x3,qi x4] [vi (w32 ((w32 (x3*1024))+x4)),vr 16] y) (fun _=>rfl) (Sim.call (f_layerCandidate_ok x3 x4 m) (fun _ _=>rfl) (runP_mono _ _ _ _ _ _) (fun _=>runP_mono _ _ _ _ _ _) (fun r_57=>Sim.shift 0 (G:=fun n=>R n 10 48 [qr 0,qi x1,qi x2,qi x3,qi x4] [vi r_57,vi (w32 ((w32 (x3*1024))+x4)),vr 16] 42 m) (fun _=>rfl) (Sim.shift 1 (G:=fun n=>if 0≤w32 ((w32 (x3*1024))+x4)∧w32 ((w32 (x3*1024))+x4)<9216 then R n 10 49 [qr 0,qi x1,qi x2,qi x3,qi x4] [] 42 (sto m 16 (w32 ((w32 (x3*1024))+x4)) (r_57 % 2)) else none) (fun _=>rfl) (Sim.grd fun _=>Sim.shift 2 (G:=fun n=>R n 10 23 [qr 0,qi x1,qi x2,qi x3,qi (w32 (x4+1))] [] 42 (sto m 16 (w32 ((w32 (x3*1024))+x4)) (r_57 % 2))) (fun _=>rfl) (Sim.pur _ _))))))) (fun _=>Sim.leaf rfl (fun _=>rfl)))
def f_buildCandidates_l9 (x1 x2:Int):Int×OMem→Option ((Int×OMem)⊕((OMem))):=fun (x3,m)=>if x1<x3 then (some (.inr m)) else (if 8<x3 then (some (.inr m)) else ((lp (f_buildCandidates_l23 x1 x2 x3) NN (0,m)).bind fun m_58=>(some (.inl (w32 (x3+1),m_58)))))
theorem f_buildCandidates_l9_ok (x1 x2:Int) (x3:Int) (m:OMem):Sim (f_buildCandidates_l9 x1 x2 (x3,m)) (Sum.elim (f_buildCandidates_l9_H x1 x2 ) (f_buildCandidates_l9_X x1 x2 )) (f_buildCandidates_l9_H x1 x2 (x3,m)) :=
  Sim.shift 3 (G:=fun n=>if x1<x3 then R n 10 61 [qr 0,qi x1,qi x2,qi x3,qn] [] 42 m else R n 10 14 [qr 0,qi x1,qi x2,qi x3,qn] [] 42 m) (fun _=>rfl) (Sim.ite (fun _=>Sim.leaf rfl (fun _=>rfl)) (fun _=>Sim.shift 3 (G:=fun n=>if 8<x3 then R n 10 61 [qr 0,qi x1,qi x2,qi x3,qn] [] 42 m else R n 10 20 [qr 0,qi x1,qi x2,qi x3,qn] [] 42 m) (fun _=>rfl) (Sim.ite (fun _=>Sim.leaf rfl (fun _=>rfl)) (fun _=>Sim.shift 2 (G:=fun n=>R n 10 23 [qr 0,qi x1,qi x2,qi x3,qi 0] [] 42 m) (fun _=>rfl) (Sim.bind (Sim.lp (σ:=Int×OMem) (fun ⟨x4L,mL⟩=>f_buildCandidates_l23_ok x1 x2 x3 x4L mL) NN (0,m)) (fun m_58=>Sim.shift 2 (G:=fun n=>R n 10 9 [qr 0,qi x1,qi x2,qi (w32 (x3+1)),qn] [] 42 m_58) (fun _=>rfl) (Sim.pur _ _)))))))
def f_buildCandidates_b61 (m:OMem):Option (OMem):=some m
theorem f_buildCandidates_b61_ok (m:OMem):Sim (f_buildCandidates_b61 m) (fun w0 _=>some (none,42,w0)) (fun n=>R n 10 61 [qn,qn,qn,qn,qn] [] 42 m) :=
  Sim.shift 1 (G:=(fun _=>some (none,42,m))) (fun _=>rfl) (Sim.pur _ _)
def f_buildCandidates (x1:Int) (m:OMem):Option (OMem):=(lp (f_buildCandidates_l9 x1 (shl32 1 (m 0 25))) NN (1,m)).bind fun m_59=>(f_buildCandidates_b61 m_59)
theorem f_buildCandidates_ok (x1:Int) (m:OMem):Sim (f_buildCandidates x1 m) (fun w0 _=>some (none,42,w0)) (fun n=>R n 10 0 [qr 0,qi x1,qn,qn,qn] [] 42 m) :=
  Sim.shift 5 (G:=fun n=>R n 10 7 [qr 0,qi x1,qi (shl32 1 (m 0 25)),qn,qn] [] 42 m) (fun _=>rfl) (Sim.shift 2 (G:=fun n=>R n 10 9 [qr 0,qi x1,qi (shl32 1 (m 0 25)),qi 1,qn] [] 42 m) (fun _=>rfl) (Sim.bind (Sim.lp (σ:=Int×OMem) (fun ⟨x3L,mL⟩=>f_buildCandidates_l9_ok x1 (shl32 1 (m 0 25)) x3L mL) NN (1,m)) (fun m_59=>f_buildCandidates_b61_ok m_59)))
def f_clearMemo_l2_H:Int×OMem→Nat→RT:=fun (x1,m) n=>R n 11 2 [qr 0,qi x1] [] 42 m
def f_clearMemo_l2_X:(OMem)→Nat→RT:=fun e n=>match e with | w=>R n 11 29 [qn,qn] [] 42 w
def f_clearMemo_l2:Int×OMem→Option ((Int×OMem)⊕((OMem))):=fun (x1,m)=>if x1<9216 then (if 0≤x1∧x1<9216 then (if 0≤x1∧x1<9216 then (some (.inl (w32 (x1+1),sto (sto m 17 x1 0) 18 x1 0))) else none) else none) else (some (.inr m))
theorem f_clearMemo_l2_ok (x1:Int) (m:OMem):Sim (f_clearMemo_l2 (x1,m)) (Sum.elim (f_clearMemo_l2_H ) (f_clearMemo_l2_X )) (f_clearMemo_l2_H (x1,m)) :=
  Sim.shift 3 (G:=fun n=>if x1<9216 then R n 11 9 [qr 0,qi x1] [] 42 m else R n 11 29 [qr 0,qi x1] [] 42 m) (fun _=>rfl) (Sim.ite (fun _=>Sim.shift 5 (G:=fun n=>if 0≤x1∧x1<9216 then R n 11 16 [qr 0,qi x1] [] 42 (sto m 17 x1 0) else none) (fun _=>rfl) (Sim.grd fun _=>Sim.shift 5 (G:=fun n=>if 0≤x1∧x1<9216 then R n 11 23 [qr 0,qi x1] [] 42 (sto (sto m 17 x1 0) 18 x1 0) else none) (fun _=>rfl) (Sim.grd fun _=>Sim.shift 2 (G:=fun n=>R n 11 2 [qr 0,qi (w32 (x1+1))] [] 42 (sto (sto m 17 x1 0) 18 x1 0)) (fun _=>rfl) (Sim.pur _ _)))) (fun _=>Sim.leaf rfl (fun _=>rfl)))
def f_clearMemo (m:OMem):Option (OMem):=(lp (f_clearMemo_l2 ) NN (0,m)).bind fun m_61=>(some m_61)
theorem f_clearMemo_ok (m:OMem):Sim (f_clearMemo m) (fun w0 _=>some (none,42,w0)) (fun n=>R n 11 0 [qr 0,qn] [] 42 m) :=
  Sim.shift 2 (G:=fun n=>R n 11 2 [qr 0,qi 0] [] 42 m) (fun _=>rfl) (Sim.bind (Sim.lp (σ:=Int×OMem) (fun ⟨x1L,mL⟩=>f_clearMemo_l2_ok x1L mL) NN (0,m)) (fun m_61=>Sim.shift 1 (G:=(fun _=>some (none,42,m_61))) (fun _=>rfl) (Sim.pur _ _)))
def f_prepareSearch (x1:Int) (m:OMem):Option (OMem):=(f_buildConflicts m).bind fun m_10=>((f_buildUnions m_10).bind fun m_14=>((f_buildGraph x1 m_14).bind fun m_55=>((f_buildCandidates x1 m_55).bind fun m_60=>((f_clearMemo m_60).bind fun m_62=>(some (sto m_62 0 31 0))))))
theorem f_prepareSearch_ok (x1:Int) (m:OMem):Sim (f_prepareSearch x1 m) (fun w0 _=>some (none,42,w0)) (fun n=>R n 3 0 [qr 0,qi x1] [] 42 m) :=
  Sim.shift 2 (G:=fun n=>(R n 4 0 [qr 0,qn] [] 42 m).bind fun y=>Rr n 3 4 [qr 0,qi x1] [] y) (fun _=>rfl) (Sim.call (f_buildConflicts_ok m) (fun _ _=>rfl) (runP_mono _ _ _ _ _ _) (fun _=>runP_mono _ _ _ _ _ _) (fun m_10=>Sim.shift 0 (G:=fun n=>R n 3 4 [qr 0,qi x1] [] 42 m_10) (fun _=>rfl) (Sim.shift 2 (G:=fun n=>(R n 7 0 [qr 0,qn,qn,qn,qn] [] 42 m_10).bind fun y=>Rr n 3 8 [qr 0,qi x1] [] y) (fun _=>rfl) (Sim.call (f_buildUnions_ok m_10) (fun _ _=>rfl) (runP_mono _ _ _ _ _ _) (fun _=>runP_mono _ _ _ _ _ _) (fun m_14=>Sim.shift 0 (G:=fun n=>R n 3 8 [qr 0,qi x1] [] 42 m_14) (fun _=>rfl) (Sim.shift 3 (G:=fun n=>(R n 9 0 [qr 0,qi x1,qn] [] 42 m_14).bind fun y=>Rr n 3 13 [qr 0,qi x1] [] y) (fun _=>rfl) (Sim.call (f_buildGraph_ok x1 m_14) (fun _ _=>rfl) (runP_mono _ _ _ _ _ _) (fun _=>runP_mono _ _ _ _ _ _) (fun m_55=>Sim.shift 0 (G:=fun n=>R n 3 13 [qr 0,qi x1] [] 42 m_55) (fun _=>rfl) (Sim.shift 3 (G:=fun n=>(R n 10 0 [qr 0,qi x1,qn,qn,qn] [] 42 m_55).bind fun y=>Rr n 3 18 [qr 0,qi x1] [] y) (fun _=>rfl) (Sim.call (f_buildCandidates_ok x1 m_55) (fun _ _=>rfl) (runP_mono _ _ _ _ _ _) (fun _=>runP_mono _ _ _ _ _ _) (fun m_60=>Sim.shift 0 (G:=fun n=>R n 3 18 [qr 0,qi x1] [] 42 m_60) (fun _=>rfl) (Sim.shift 2 (G:=fun n=>(R n 11 0 [qr 0,qn] [] 42 m_60).bind fun y=>Rr n 3 22 [qr 0,qi x1] [] y) (fun _=>rfl) (Sim.call (f_clearMemo_ok m_60) (fun _ _=>rfl) (runP_mono _ _ _ _ _ _) (fun _=>runP_mono _ _ _ _ _ _) (fun m_62=>Sim.shift 0 (G:=fun n=>R n 3 22 [qr 0,qi x1] [] 42 m_62) (fun _=>rfl) (Sim.shift 4 (G:=(fun _=>some (none,42,sto m_62 0 31 0))) (fun _=>rfl) (Sim.pur _ _))))))))))))))))
def f_statusIndex (x1 x2:Int) (m:OMem):Option (Int):=(f_clamp x1 0 8 m).bind fun r_64=>(some (w32 ((w32 (r_64*1024))+(and32 x2 1023))))
theorem f_statusIndex_ok (t:Nat) (x1 x2:Int) (m:OMem):Sim (f_statusIndex x1 x2 m) (fun r _=>some (some (vi r),t,m)) (fun n=>R n 14 0 [qr 0,qi x1,qi x2,qn] [] t m) :=
  Sim.shift 5 (G:=fun n=>(R n 1 0 [qr 0,qi x1,qi 0,qi 8] [] t m).bind fun y=>Rr n 14 8 [qr 0,qi x1,qi x2,qn] [] y) (fun _=>rfl) (Sim.call (f_clamp_ok t x1 0 8 m) (fun _ _=>rfl) (runP_mono _ _ _ _ _ _) (fun _=>runP_mono _ _ _ _ _ _) (fun r_64=>Sim.shift 0 (G:=fun n=>R n 14 8 [qr 0,qi x1,qi x2,qn] [vi r_64] t m) (fun _=>rfl) (Sim.shift 5 (G:=fun n=>R n 14 15 [qr 0,qi x1,qi x2,qi r_64] [vi x2,vi (w32 (r_64*1024))] t m) (fun _=>rfl) (Sim.shift 4 (G:=(fun _=>some (some (vi (w32 ((w32 (r_64*1024))+(and32 x2 1023)))),t,m))) (fun _=>rfl) (Sim.pur _ _)))))
def f_goalPossible_b39 (s0:Int) (m:OMem):Option (Int):=some (s0 % 2)
theorem f_goalPossible_b39_ok (s0:Int) (m:OMem):Sim (f_goalPossible_b39 s0 m) (fun r _=>some (some (vi r),42,m)) (fun n=>R n 41 39 [qn,qn,qn] [vi s0] 42 m) :=
  Sim.shift 1 (G:=(fun _=>some (some (vi (s0 % 2)),42,m))) (fun _=>rfl) (Sim.pur _ _)
def f_goalPossible (x1 x2:Int) (m:OMem):Option (Int):=if m 0 32<x1 then (some 0) else (if 0≤x1∧x1<9 then (if and32 x2 (xor32 (m 11 x1) (-1))=0 then ((f_hasMutexPair x1 x2 m).bind fun r_66=>(if r_66=0 then (f_goalPossible_b39 1 m) else (f_goalPossible_b39 0 m))) else (some 0)) else none)
theorem f_goalPossible_ok (x1 x2:Int) (m:OMem):Sim (f_goalPossible x1 x2 m) (fun r _=>some (some (vi r),42,m)) (fun n=>R n 41 0 [qr 0,qi x1,qi x2] [] 42 m) :=
  Sim.shift 4 (G:=fun n=>if m 0 32<x1 then R n 41 8 [qr 0,qi x1,qi x2] [] 42 m else R n 41 10 [qr 0,qi x1,qi x2] [] 42 m) (fun _=>rfl) (Sim.ite (fun _=>Sim.shift 2 (G:=(fun _=>some (some (vi 0),42,m))) (fun _=>rfl) (Sim.pur _ _)) (fun _=>Sim.shift 5 (G:=fun n=>if 0≤x1∧x1<9 then R n 41 17 [qr 0,qi x1,qi x2] [vi (m 11 x1),vi x2] 42 m else none) (fun _=>rfl) (Sim.grd fun _=>Sim.shift 2 (G:=fun n=>R n 41 19 [qr 0,qi x1,qi x2] [vi (xor32 (m 11 x1) (-1)),vi x2] 42 m) (fun _=>rfl) (Sim.shift 2 (G:=fun n=>if and32 x2 (xor32 (m 11 x1) (-1))=0 then R n 41 25 [qr 0,qi x1,qi x2] [] 42 m else R n 41 23 [qr 0,qi x1,qi x2] [] 42 m) (fun _=>rfl) (Sim.ite (fun _=>Sim.shift 4 (G:=fun n=>(R n 29 0 [qr 0,qi x1,qi x2] [] 42 m).bind fun y=>Rr n 41 31 [qr 0,qi x1,qi x2] [] y) (fun _=>rfl) (Sim.call (f_hasMutexPair_ok x1 x2 m) (fun _ _=>rfl) (runP_mono _ _ _ _ _ _) (fun _=>runP_mono _ _ _ _ _ _) (fun r_66=>Sim.shift 0 (G:=fun n=>R n 41 31 [qr 0,qi x1,qi x2] [vi r_66] 42 m) (fun _=>rfl) (Sim.shift 1 (G:=fun n=>if r_66=0 then R n 41 34 [qr 0,qi x1,qi x2] [] 42 m else R n 41 38 [qr 0,qi x1,qi x2] [] 42 m) (fun _=>rfl) (Sim.ite (fun _=>Sim.shift 2 (G:=fun n=>R n 41 39 [qn,qn,qn] [vi 1] 42 m) (fun _=>rfl) (f_goalPossible_b39_ok 1 m)) (fun _=>Sim.shift 1 (G:=fun n=>R n 41 39 [qn,qn,qn] [vi 0] 42 m) (fun _=>rfl) (f_goalPossible_b39_ok 0 m))))))) (fun _=>Sim.shift 2 (G:=(fun _=>some (some (vi 0),42,m))) (fun _=>rfl) (Sim.pur _ _)))))))
def f_quickStatus_b68 (x3:Int) (m:OMem):Option (Int×OMem):=if 0≤x3∧x3<9216 then (some (m 17 x3,m)) else none
theorem f_quickStatus_b68_ok (x3:Int) (m:OMem):Sim (f_quickStatus_b68 x3 m) (fun (r,w0) _=>some (some (vi r),42,w0)) (fun n=>R n 13 68 [qr 0,qn,qn,qi x3] [] 42 m) :=
  Sim.shift 4 (G:=fun n=>if 0≤x3∧x3<9216 then R n 13 74 [qr 0,qn,qn,qi x3] [vi (m 17 x3)] 42 m else none) (fun _=>rfl) (Sim.grd fun _=>Sim.shift 1 (G:=(fun _=>some (some (vi (m 17 x3)),42,m))) (fun _=>rfl) (Sim.pur _ _))
def f_quickStatus_b48 (x3 s1 s2:Int) (m:OMem):Option (Int×OMem):=if 0≤s1∧s1<9216 then (f_quickStatus_b68 x3 (sto m 17 s1 s2)) else none
theorem f_quickStatus_b48_ok (x3 s1 s2:Int) (m:OMem):Sim (f_quickStatus_b48 x3 s1 s2 m) (fun (r,w0) _=>some (some (vi r),42,w0)) (fun n=>R n 13 48 [qr 0,qn,qn,qi x3] [vi s2,vi s1,vr 17] 42 m) :=
  Sim.shift 1 (G:=fun n=>if 0≤s1∧s1<9216 then R n 13 49 [qr 0,qn,qn,qi x3] [] 42 (sto m 17 s1 s2) else none) (fun _=>rfl) (Sim.grd fun _=>Sim.shift 1 (G:=fun n=>R n 13 68 [qr 0,qn,qn,qi x3] [] 42 (sto m 17 s1 s2)) (fun _=>rfl) (f_quickStatus_b68_ok x3 (sto m 17 s1 s2)))
def f_quickStatus (x1 x2:Int) (m:OMem):Option (Int×OMem):=(f_statusIndex x1 x2 m).bind fun r_65=>(if 0≤r_65∧r_65<9216 then (if m 17 r_65=0 then (if 0<x1 then ((f_goalPossible x1 x2 m).bind fun r_67=>(if r_67=0 then (if 0≤r_65∧r_65<9216 then (f_quickStatus_b68 r_65 (sto m 17 r_65 2)) else none) else (f_quickStatus_b68 r_65 m))) else (if and32 x2 (xor32 (m 0 27) (-1))=0 then (f_quickStatus_b48 r_65 r_65 1 m) else (f_quickStatus_b48 r_65 r_65 2 m))) else (if 0≤r_65∧r_65<9216 then (some (m 17 r_65,m)) else none)) else none)
theorem f_quickStatus_ok (x1 x2:Int) (m:OMem):Sim (f_quickStatus x1 x2 m) (fun (r,w0) _=>some (some (vi r),42,w0)) (fun n=>R n 13 0 [qr 0,qi x1,qi x2,qn] [] 42 m) :=
  Sim.shift 4 (G:=fun n=>(R n 14 0 [qr 0,qi x1,qi x2,qn] [] 42 m).bind fun y=>Rr n 13 6 [qr 0,qi x1,qi x2,qn] [] y) (fun _=>rfl) (Sim.call (f_statusIndex_ok 42 x1 x2 m) (fun _ _=>rfl) (runP_mono _ _ _ _ _ _) (fun _=>runP_mono _ _ _ _ _ _) (fun r_65=>Sim.shift 0 (G:=fun n=>R n 13 6 [qr 0,qi x1,qi x2,qn] [vi r_65] 42 m) (fun _=>rfl) (Sim.shift 5 (G:=fun n=>if 0≤r_65∧r_65<9216 then R n 13 13 [qr 0,qi x1,qi x2,qi r_65] [vi (m 17 r_65)] 42 m else none) (fun _=>rfl) (Sim.grd fun _=>Sim.shift 1 (G:=fun n=>if m 17 r_65=0 then R n 13 23 [qr 0,qi x1,qi x2,qi r_65] [] 42 m else R n 13 16 [qr 0,qi x1,qi x2,qi r_65] [] 42 m) (fun _=>rfl) (Sim.ite (fun _=>Sim.shift 2 (G:=fun n=>if 0<x1 then R n 13 52 [qr 0,qi x1,qi x2,qi r_65] [] 42 m else R n 13 27 [qr 0,qi x1,qi x2,qi r_65] [] 42 m) (fun _=>rfl) (Sim.ite (fun _=>Sim.shift 4 (G:=fun n=>(R n 41 0 [qr 0,qi x1,qi x2] [] 42 m).bind fun y=>Rr n 13 58 [qr 0,qi x1,qi x2,qi r_65] [] y) (fun _=>rfl) (Sim.call (f_goalPossible_ok x1 x2 m) (fun _ _=>rfl) (runP_mono _ _ _ _ _ _) (fun _=>runP_mono _ _ _ _ _ _) (fun r_67=>Sim.shift 0 (G:=fun n=>R n 13 58 [qr 0,qi x1,qi x2,qi r_65] [vi r_67] 42 m) (fun _=>rfl) (Sim.shift 1 (G:=fun n=>if r_67=0 then R n 13 61 [qr 0,qi x1,qi x2,qi r_65] [] 42 m else R n 13 68 [qr 0,qi x1,qi x2,qi r_65] [] 42 m) (fun _=>rfl) (Sim.ite (fun _=>Sim.shift 5 (G:=fun n=>if 0≤r_65∧r_65<9216 then R n 13 68 [qr 0,qn,qn,qi r_65] [] 42 (sto m 17 r_65 2) else none) (fun _=>rfl) (Sim.grd fun _=>f_quickStatus_b68_ok r_65 (sto m 17 r_65 2))) (fun _=>Sim.jmp (f_quickStatus_b68_ok r_65 m) rfl (fun _=>rfl))))))) (fun _=>Sim.shift 8 (G:=fun n=>R n 13 39 [qr 0,qn,qi x2,qi r_65] [vi (xor32 (m 0 27) (-1)),vi x2,vi r_65,vr 17] 42 m) (fun _=>rfl) (Sim.shift 2 (G:=fun n=>if and32 x2 (xor32 (m 0 27) (-1))=0 then R n 13 43 [qr 0,qn,qi x2,qi r_65] [vi r_65,vr 17] 42 m else R n 13 47 [qr 0,qn,qi x2,qi r_65] [vi r_65,vr 17] 42 m) (fun _=>rfl) (Sim.ite (fun _=>Sim.shift 2 (G:=fun n=>R n 13 48 [qr 0,qn,qn,qi r_65] [vi 1,vi r_65,vr 17] 42 m) (fun _=>rfl) (f_quickStatus_b48_ok r_65 r_65 1 m)) (fun _=>Sim.shift 1 (G:=fun n=>R n 13 48 [qr 0,qn,qn,qi r_65] [vi 2,vi r_65,vr 17] 42 m) (fun _=>rfl) (f_quickStatus_b48_ok r_65 r_65 2 m))))))) (fun _=>Sim.shift 4 (G:=fun n=>if 0≤r_65∧r_65<9216 then R n 13 22 [qr 0,qn,qn,qi r_65] [vi (m 17 r_65)] 42 m else none) (fun _=>rfl) (Sim.grd fun _=>Sim.shift 1 (G:=(fun _=>some (some (vi (m 17 r_65)),42,m))) (fun _=>rfl) (Sim.pur _ _))))))))
def f_push_b16 (m:OMem):Option (Int×OMem):=some (0,m)
theorem f_push_b16_ok (m:OMem):Sim (f_push_b16 m) (fun (r,w0) _=>some (some (vi r),42,w0)) (fun n=>R n 45 16 [qn,qn,qn] [] 42 m) :=
  Sim.shift 2 (G:=(fun _=>some (some (vi 0),42,m))) (fun _=>rfl) (Sim.pur _ _)
def f_push (x1 x2:Int) (m:OMem):Option (Int×OMem):=if m 0 31<0 then (f_push_b16 m) else (if m 0 31<10 then (if 0≤m 0 31∧m 0 31<10 then (if 0≤m 0 31∧m 0 31<10 then (if 0≤m 0 31∧m 0 31<10 then (some (1,sto (sto (sto (sto m 19 (m 0 31) x1) 20 (m 0 31) x2) 21 (m 0 31) 0) 0 31 (w32 ((m 0 31)+1)))) else none) else none) else none) else (f_push_b16 m))
theorem f_push_ok (x1 x2:Int) (m:OMem):Sim (f_push x1 x2 m) (fun (r,w0) _=>some (some (vi r),42,w0)) (fun n=>R n 45 0 [qr 0,qi x1,qi x2] [] 42 m) :=
  Sim.shift 3 (G:=fun n=>if m 0 31<0 then R n 45 16 [qr 0,qi x1,qi x2] [] 42 m else R n 45 7 [qr 0,qi x1,qi x2] [] 42 m) (fun _=>rfl) (Sim.ite (fun _=>Sim.jmp (f_push_b16_ok m) rfl (fun _=>rfl)) (fun _=>Sim.shift 4 (G:=fun n=>if m 0 31<10 then R n 45 18 [qr 0,qi x1,qi x2] [] 42 m else R n 45 16 [qr 0,qi x1,qi x2] [] 42 m) (fun _=>rfl) (Sim.ite (fun _=>Sim.shift 6 (G:=fun n=>if 0≤m 0 31∧m 0 31<10 then R n 45 28 [qr 0,qi x1,qi x2] [] 42 (sto m 19 (m 0 31) x1) else none) (fun _=>rfl) (Sim.grd fun _=>Sim.shift 6 (G:=fun n=>if 0≤m 0 31∧m 0 31<10 then R n 45 38 [qr 0,qi x1,qi x2] [] 42 (sto (sto m 19 (m 0 31) x1) 20 (m 0 31) x2) else none) (fun _=>rfl) (Sim.grd fun _=>Sim.shift 6 (G:=fun n=>if 0≤m 0 31∧m 0 31<10 then R n 45 48 [qr 0,qi x1,qi x2] [] 42 (sto (sto (sto m 19 (m 0 31) x1) 20 (m 0 31) x2) 21 (m 0 31) 0) else none) (fun _=>rfl) (Sim.grd fun _=>Sim.shift 8 (G:=(fun _=>some (some (vi 1),42,sto (sto (sto (sto m 19 (m 0 31) x1) 20 (m 0 31) x2) 21 (m 0 31) 0) 0 31 (w32 ((m 0 31)+1))))) (fun _=>rfl) (Sim.pur _ _))))) (fun _=>Sim.jmp (f_push_b16_ok m) rfl (fun _=>rfl)))))
def f_regressOk_b25 (s0:Int) (m:OMem):Option (Int):=some (s0 % 2)
theorem f_regressOk_b25_ok (s0:Int) (m:OMem):Sim (f_regressOk_b25 s0 m) (fun r _=>some (some (vi r),42,m)) (fun n=>R n 47 25 [qn,qn,qn] [vi s0] 42 m) :=
  Sim.shift 1 (G:=(fun _=>some (some (vi (s0 % 2)),42,m))) (fun _=>rfl) (Sim.pur _ _)
def f_regressOk (x1 x2:Int) (m:OMem):Option (Int):=if 0≤x2∧x2<1024 then (if 0≤x2∧x2<1024 then (if and32 (and32 x1 (xor32 (m 8 x2) (-1))) (m 9 x2)=0 then (f_regressOk_b25 1 m) else (f_regressOk_b25 0 m)) else none) else none
theorem f_regressOk_ok (x1 x2:Int) (m:OMem):Sim (f_regressOk x1 x2 m) (fun r _=>some (some (vi r),42,m)) (fun n=>R n 47 0 [qr 0,qi x1,qi x2] [] 42 m) :=
  Sim.shift 5 (G:=fun n=>if 0≤x2∧x2<1024 then R n 47 7 [qr 0,qi x1,qi x2] [vi (m 8 x2),vi x1] 42 m else none) (fun _=>rfl) (Sim.grd fun _=>Sim.shift 2 (G:=fun n=>R n 47 9 [qr 0,qi x1,qi x2] [vi (xor32 (m 8 x2) (-1)),vi x1] 42 m) (fun _=>rfl) (Sim.shift 5 (G:=fun n=>if 0≤x2∧x2<1024 then R n 47 16 [qr 0,qi x1,qi x2] [vi (m 9 x2),vi (and32 x1 (xor32 (m 8 x2) (-1)))] 42 m else none) (fun _=>rfl) (Sim.grd fun _=>Sim.shift 2 (G:=fun n=>if and32 (and32 x1 (xor32 (m 8 x2) (-1))) (m 9 x2)=0 then R n 47 20 [qr 0,qi x1,qi x2] [] 42 m else R n 47 24 [qr 0,qi x1,qi x2] [] 42 m) (fun _=>rfl) (Sim.ite (fun _=>Sim.shift 2 (G:=fun n=>R n 47 25 [qn,qn,qn] [vi 1] 42 m) (fun _=>rfl) (f_regressOk_b25_ok 1 m)) (fun _=>Sim.shift 1 (G:=fun n=>R n 47 25 [qn,qn,qn] [vi 0] 42 m) (fun _=>rfl) (f_regressOk_b25_ok 0 m))))))
def f_regress (x1 x2:Int) (m:OMem):Option (Int):=if 0≤x2∧x2<1024 then (if 0≤x2∧x2<1024 then (some (or32 (m 7 x2) (and32 x1 (xor32 (m 8 x2) (-1))))) else none) else none
theorem f_regress_ok (x1 x2:Int) (m:OMem):Sim (f_regress x1 x2 m) (fun r _=>some (some (vi r),42,m)) (fun n=>R n 48 0 [qr 0,qi x1,qi x2] [] 42 m) :=
  Sim.shift 4 (G:=fun n=>if 0≤x2∧x2<1024 then R n 48 6 [qr 0,qi x1,qi x2] [vi (m 7 x2)] 42 m else none) (fun _=>rfl) (Sim.grd fun _=>Sim.shift 5 (G:=fun n=>if 0≤x2∧x2<1024 then R n 48 13 [qr 0,qi x1,qi x2] [vi (m 8 x2),vi x1,vi (m 7 x2)] 42 m else none) (fun _=>rfl) (Sim.grd fun _=>Sim.shift 2 (G:=fun n=>R n 48 15 [qr 0,qi x1,qi x2] [vi (xor32 (m 8 x2) (-1)),vi x1,vi (m 7 x2)] 42 m) (fun _=>rfl) (Sim.shift 3 (G:=(fun _=>some (some (vi (or32 (m 7 x2) (and32 x1 (xor32 (m 8 x2) (-1))))),42,m))) (fun _=>rfl) (Sim.pur _ _))))
def f_record (x1 x2 x3 x4:Int) (m:OMem):Option (OMem):=(f_statusIndex x1 x2 m).bind fun r_77=>(if 0≤r_77∧r_77<9216 then (if 0≤r_77∧r_77<9216 then (some (sto (sto m 17 r_77 x3) 18 r_77 x4)) else none) else none)
theorem f_record_ok (x1 x2 x3 x4:Int) (m:OMem):Sim (f_record x1 x2 x3 x4 m) (fun w0 _=>some (none,42,w0)) (fun n=>R n 49 0 [qr 0,qi x1,qi x2,qi x3,qi x4,qn] [] 42 m) :=
  Sim.shift 4 (G:=fun n=>(R n 14 0 [qr 0,qi x1,qi x2,qn] [] 42 m).bind fun y=>Rr n 49 6 [qr 0,qi x1,qi x2,qi x3,qi x4,qn] [] y) (fun _=>rfl) (Sim.call (f_statusIndex_ok 42 x1 x2 m) (fun _ _=>rfl) (runP_mono _ _ _ _ _ _) (fun _=>runP_mono _ _ _ _ _ _) (fun r_77=>Sim.shift 0 (G:=fun n=>R n 49 6 [qr 0,qi x1,qi x2,qi x3,qi x4,qn] [vi r_77] 42 m) (fun _=>rfl) (Sim.shift 6 (G:=fun n=>if 0≤r_77∧r_77<9216 then R n 49 16 [qr 0,qi x1,qi x2,qi x3,qi x4,qi r_77] [] 42 (sto m 17 r_77 x3) else none) (fun _=>rfl) (Sim.grd fun _=>Sim.shift 5 (G:=fun n=>if 0≤r_77∧r_77<9216 then R n 49 25 [qr 0,qi x1,qi x2,qi x3,qi x4,qi r_77] [] 42 (sto (sto m 17 r_77 x3) 18 r_77 x4) else none) (fun _=>rfl) (Sim.grd fun _=>Sim.shift 1 (G:=(fun _=>some (none,42,sto (sto m 17 r_77 x3) 18 r_77 x4))) (fun _=>rfl) (Sim.pur _ _))))))
def f_searchStep_b17 (m:OMem):Option (OMem):=some (sto m 0 31 0)
theorem f_searchStep_b17_ok (m:OMem):Sim (f_searchStep_b17 m) (fun w0 _=>some (none,42,w0)) (fun n=>R n 46 17 [qr 0,qn,qn,qn,qn,qn,qn,qn] [] 42 m) :=
  Sim.shift 4 (G:=(fun _=>some (none,42,sto m 0 31 0))) (fun _=>rfl) (Sim.pur _ _)
def f_searchStep_b93 (x2 x5:Int) (m:OMem):Option (OMem):=if 0≤x2∧x2<10 then (some (sto m 21 x2 (w32 (x5+1)))) else none
theorem f_searchStep_b93_ok (x2 x5:Int) (m:OMem):Sim (f_searchStep_b93 x2 x5 m) (fun w0 _=>some (none,42,w0)) (fun n=>R n 46 93 [qr 0,qn,qi x2,qn,qn,qi x5,qn,qn] [] 42 m) :=
  Sim.shift 7 (G:=fun n=>if 0≤x2∧x2<10 then R n 46 103 [qr 0,qn,qi x2,qn,qn,qi x5,qn,qn] [] 42 (sto m 21 x2 (w32 (x5+1))) else none) (fun _=>rfl) (Sim.grd fun _=>Sim.shift 1 (G:=(fun _=>some (none,42,sto m 21 x2 (w32 (x5+1))))) (fun _=>rfl) (Sim.pur _ _))
def f_searchStep_b186 (m:OMem):Option (OMem):=some m
theorem f_searchStep_b186_ok (m:OMem):Sim (f_searchStep_b186 m) (fun w0 _=>some (none,42,w0)) (fun n=>R n 46 186 [qn,qn,qn,qn,qn,qn,qn,qn] [] 42 m) :=
  Sim.shift 1 (G:=(fun _=>some (none,42,m))) (fun _=>rfl) (Sim.pur _ _)
def f_searchStep (x1:Int) (m:OMem):Option (OMem):=if w32 ((m 0 31) - 1)<0 then (f_searchStep_b17 m) else (if w32 ((m 0 31) - 1)<10 then (if 0≤w32 ((m 0 31) - 1)∧w32 ((m 0 31) - 1)<10 then (if 0≤w32 ((m 0 31) - 1)∧w32 ((m 0 31) - 1)<10 then (if 0≤w32 ((m 0 31) - 1)∧w32 ((m 0 31) - 1)<10 then (if m 21 (w32 ((m 0 31) - 1))<x1 then ((f_statusIndex (m 19 (w32 ((m 0 31) - 1))) (m 21 (w32 ((m 0 31) - 1))) m).bind fun r_72=>(if 0≤r_72∧r_72<9216 then (if m 16 r_72=0 then (f_searchStep_b93 (w32 ((m 0 31) - 1)) (m 21 (w32 ((m 0 31) - 1))) m) else ((f_regressOk (m 20 (w32 ((m 0 31) - 1))) (m 21 (w32 ((m 0 31) - 1))) m).bind fun r_73=>(if r_73=0 then (f_searchStep_b93 (w32 ((m 0 31) - 1)) (m 21 (w32 ((m 0 31) - 1))) m) else ((f_regress (m 20 (w32 ((m 0 31) - 1))) (m 21 (w32 ((m 0 31) - 1))) m).bind fun r_74=>((f_quickStatus (w32 ((m 19 (w32 ((m 0 31) - 1))) - 1)) r_74 m).bind fun (r_75,m_76)=>(if r_75=1 then ((f_record (m 19 (w32 ((m 0 31) - 1))) (m 20 (w32 ((m 0 31) - 1))) 1 (m 21 (w32 ((m 0 31) - 1))) m_76).bind fun m_78=>(some (sto m_78 0 31 (w32 ((m 0 31) - 1))))) else (if r_75=2 then (if 0≤w32 ((m 0 31) - 1)∧w32 ((m 0 31) - 1)<10 then (some (sto m_76 21 (w32 ((m 0 31) - 1)) (w32 ((m 21 (w32 ((m 0 31) - 1)))+1)))) else none) else ((f_push (w32 ((m 19 (w32 ((m 0 31) - 1))) - 1)) r_74 m_76).bind fun (r_79,m_80)=>(if r_79=0 then (if 0≤w32 ((m 0 31) - 1)∧w32 ((m 0 31) - 1)<10 then (f_searchStep_b186 (sto m_80 21 (w32 ((m 0 31) - 1)) (w32 ((m 21 (w32 ((m 0 31) - 1)))+1)))) else none) else (f_searchStep_b186 m_80)))))))))) else none)) else ((f_record (m 19 (w32 ((m 0 31) - 1))) (m 20 (w32 ((m 0 31) - 1))) 2 0 m).bind fun m_81=>(some (sto m_81 0 31 (w32 ((m 0 31) - 1)))))) else none) else none) else none) else (f_searchStep_b17 m))
theorem f_searchStep_ok (x1:Int) (m:OMem):Sim (f_searchStep x1 m) (fun w0 _=>some (none,42,w0)) (fun n=>R n 46 0 [qr 0,qi x1,qn,qn,qn,qn,qn,qn] [] 42 m) :=
  Sim.shift 5 (G:=fun n=>R n 46 7 [qr 0,qi x1,qi (w32 ((m 0 31) - 1)),qn,qn,qn,qn,qn] [] 42 m) (fun _=>rfl) (Sim.shift 2 (G:=fun n=>if w32 ((m 0 31) - 1)<0 then R n 46 17 [qr 0,qi x1,qi (w32 ((m 0 31) - 1)),qn,qn,qn,qn,qn] [] 42 m else R n 46 11 [qr 0,qi x1,qi (w32 ((m 0 31) - 1)),qn,qn,qn,qn,qn] [] 42 m) (fun _=>rfl) (Sim.ite (fun _=>Sim.jmp (f_searchStep_b17_ok m) rfl (fun _=>rfl)) (fun _=>Sim.shift 3 (G:=fun n=>if w32 ((m 0 31) - 1)<10 then R n 46 23 [qr 0,qi x1,qi (w32 ((m 0 31) - 1)),qn,qn,qn,qn,qn] [] 42 m else R n 46 17 [qr 0,qi x1,qi (w32 ((m 0 31) - 1)),qn,qn,qn,qn,qn] [] 42 m) (fun _=>rfl) (Sim.ite (fun _=>Sim.shift 4 (G:=fun n=>if 0≤w32 ((m 0 31) - 1)∧w32 ((m 0 31) - 1)<10 then R n 46 29 [qr 0,qi x1,qi (w32 ((m 0 31) - 1)),qn,qn,qn,qn,qn] [vi (m 19 (w32 ((m 0 31) - 1)))] 42 m else none) (fun _=>rfl) (Sim.grd fun _=>Sim.shift 5 (G:=fun n=>if 0≤w32 ((m 0 31) - 1)∧w32 ((m 0 31) - 1)<10 then R n 46 36 [qr 0,qi x1,qi (w32 ((m 0 31) - 1)),qi (m 19 (w32 ((m 0 31) - 1))),qn,qn,qn,qn] [vi (m 20 (w32 ((m 0 31) - 1)))] 42 m else none) (fun _=>rfl) (Sim.grd fun _=>Sim.shift 5 (G:=fun n=>if 0≤w32 ((m 0 31) - 1)∧w32 ((m 0 31) - 1)<10 then R n 46 44 [qr 0,qi x1,qi (w32 ((m 0 31) - 1)),qi (m 19 (w32 ((m 0 31) - 1))),qi (m 20 (w32 ((m 0 31) - 1))),qn,qn,qn] [vi (m 21 (w32 ((m 0 31) - 1)))] 42 m else none) (fun _=>rfl) (Sim.grd fun _=>Sim.shift 4 (G:=fun n=>if m 21 (w32 ((m 0 31) - 1))<x1 then R n 46 67 [qr 0,qi x1,qi (w32 ((m 0 31) - 1)),qi (m 19 (w32 ((m 0 31) - 1))),qi (m 20 (w32 ((m 0 31) - 1))),qi (m 21 (w32 ((m 0 31) - 1))),qn,qn] [] 42 m else R n 46 52 [qr 0,qi x1,qi (w32 ((m 0 31) - 1)),qi (m 19 (w32 ((m 0 31) - 1))),qi (m 20 (w32 ((m 0 31) - 1))),qi (m 21 (w32 ((m 0 31) - 1))),qn,qn] [] 42 m) (fun _=>rfl) (Sim.ite (fun _=>Sim.shift 6 (G:=fun n=>(R n 14 0 [qr 0,qi (m 19 (w32 ((m 0 31) - 1))),qi (m 21 (w32 ((m 0 31) - 1))),qn] [] 42 m).bind fun y=>Rr n 46 78 [qr 0,qn,qi (w32 ((m 0 31) - 1)),qi (m 19 (w32 ((m 0 31) - 1))),qi (m 20 (w32 ((m 0 31) - 1))),qi (m 21 (w32 ((m 0 31) - 1))),qn,qn] [vr 16] y) (fun _=>rfl) (Sim.call (f_statusIndex_ok 42 (m 19 (w32 ((m 0 31) - 1))) (m 21 (w32 ((m 0 31) - 1))) m) (fun _ _=>rfl) (runP_mono _ _ _ _ _ _) (fun _=>runP_mono _ _ _ _ _ _) (fun r_72=>Sim.shift 0 (G:=fun n=>R n 46 78 [qr 0,qn,qi (w32 ((m 0 31) - 1)),qi (m 19 (w32 ((m 0 31) - 1))),qi (m 20 (w32 ((m 0 31) - 1))),qi (m 21 (w32 ((m 0 31) - 1))),qn,qn] [vi r_72,vr 16] 42 m) (fun _=>rfl) (Sim.shift 1 (G:=fun n=>if 0≤r_72∧r_72<9216 then R n 46 79 [qr 0,qn,qi (w32 ((m 0 31) - 1)),qi (m 19 (w32 ((m 0 31) - 1))),qi (m 20 (w32 ((m 0 31) - 1))),qi (m 21 (w32 ((m 0 31) - 1))),qn,qn] [vi (m 16 r_72)] 42 m else none) (fun _=>rfl) (Sim.grd fun _=>Sim.shift 1 (G:=fun n=>if m 16 r_72=0 then R n 46 93 [qr 0,qn,qi (w32 ((m 0 31) - 1)),qi (m 19 (w32 ((m 0 31) - 1))),qi (m 20 (w32 ((m 0 31) - 1))),qi (m 21 (w32 ((m 0 31) - 1))),qn,qn] [] 42 m else R n 46 82 [qr 0,qn,qi (w32 ((m 0 31) - 1)),qi (m 19 (w32 ((m 0 31) - 1))),qi (m 20 (w32 ((m 0 31) - 1))),qi (m 21 (w32 ((m 0 31) - 1))),qn,qn] [] 42 m) (fun _=>rfl) (Sim.ite (fun _=>Sim.jmp (f_searchStep_b93_ok (w32 ((m 0 31) - 1)) (m 21 (w32 ((m 0 31) - 1))) m) rfl (fun _=>rfl)) (fun _=>Sim.shift 4 (G:=fun n=>(R n 47 0 [qr 0,qi (m 20 (w32 ((m 0 31) - 1))),qi (m 21 (w32 ((m 0 31) - 1)))] [] 42 m).bind fun y=>Rr n 46 90 [qr 0,qn,qi (w32 ((m 0 31) - 1)),qi (m 19 (w32 ((m 0 31) - 1))),qi (m 20 (w32 ((m 0 31) - 1))),qi (m 21 (w32 ((m 0 31) - 1))),qn,qn] [] y) (fun _=>rfl) (Sim.call (f_regressOk_ok (m 20 (w32 ((m 0 31) - 1))) (m 21 (w32 ((m 0 31) - 1))) m) (fun _ _=>rfl) (runP_mono _ _ _ _ _ _) (fun _=>runP_mono _ _ _ _ _ _) (fun r_73=>Sim.shift 0 (G:=fun n=>R n 46 90 [qr 0,qn,qi (w32 ((m 0 31) - 1)),qi (m 19 (w32 ((m 0 31) - 1))),qi (m 20 (w32 ((m 0 31) - 1))),qi (m 21 (w32 ((m 0 31) - 1))),qn,qn] [vi r_73] 42 m) (fun _=>rfl) (Sim.shift 1 (G:=fun n=>if r_73=0 then R n 46 93 [qr 0,qn,qi (w32 ((m 0 31) - 1)),qi (m 19 (w32 ((m 0 31) - 1))),qi (m 20 (w32 ((m 0 31) - 1))),qi (m 21 (w32 ((m 0 31) - 1))),qn,qn] [] 42 m else R n 46 104 [qr 0,qn,qi (w32 ((m 0 31) - 1)),qi (m 19 (w32 ((m 0 31) - 1))),qi (m 20 (w32 ((m 0 31) - 1))),qi (m 21 (w32 ((m 0 31) - 1))),qn,qn] [] 42 m) (fun _=>rfl) (Sim.ite (fun _=>Sim.jmp (f_searchStep_b93_ok (w32 ((m 0 31) - 1)) (m 21 (w32 ((m 0 31) - 1))) m) rfl (fun _=>rfl)) (fun _=>Sim.shift 4 (G:=fun n=>(R n 48 0 [qr 0,qi (m 20 (w32 ((m 0 31) - 1))),qi (m 21 (w32 ((m 0 31) - 1)))] [] 42 m).bind fun y=>Rr n 46 112 [qr 0,qn,qi (w32 ((m 0 31) - 1)),qi (m 19 (w32 ((m 0 31) - 1))),qi (m 20 (w32 ((m 0 31) - 1))),qi (m 21 (w32 ((m 0 31) - 1))),qn,qn] [] y) (fun _=>rfl) (Sim.call (f_regress_ok (m 20 (w32 ((m 0 31) - 1))) (m 21 (w32 ((m 0 31) - 1))) m) (fun _ _=>rfl) (runP_mono _ _ _ _ _ _) (fun _=>runP_mono _ _ _ _ _ _) (fun r_74=>Sim.shift 0 (G:=fun n=>R n 46 112 [qr 0,qn,qi (w32 ((m 0 31) - 1)),qi (m 19 (w32 ((m 0 31) - 1))),qi (m 20 (w32 ((m 0 31) - 1))),qi (m 21 (w32 ((m 0 31) - 1))),qn,qn] [vi r_74] 42 m) (fun _=>rfl) (Sim.shift 5 (G:=fun n=>R n 46 118 [qr 0,qn,qi (w32 ((m 0 31) - 1)),qi (m 19 (w32 ((m 0 31) - 1))),qi (m 20 (w32 ((m 0 31) - 1))),qi (m 21 (w32 ((m 0 31) - 1))),qi r_74,qn] [vi (w32 ((m 19 (w32 ((m 0 31) - 1))) - 1)),vr 0] 42 m) (fun _=>rfl) (Sim.shift 2 (G:=fun n=>(R n 13 0 [qr 0,qi (w32 ((m 19 (w32 ((m 0 31) - 1))) - 1)),qi r_74,qn] [] 42 m).bind fun y=>Rr n 46 123 [qr 0,qn,qi (w32 ((m 0 31) - 1)),qi (m 19 (w32 ((m 0 31) - 1))),qi (m 20 (w32 ((m 0 31) - 1))),qi (m 21 (w32 ((m 0 31) - 1))),qi r_74,qn] [] y) (fun _=>rfl) (Sim.call (f_quickStatus_ok (w32 ((m 19 (w32 ((m 0 31) - 1))) - 1)) r_74 m) (fun _ _=>rfl) (runP_mono _ _ _ _ _ _) (fun _=>runP_mono _ _ _ _ _ _) (fun ⟨r_75,m_76⟩=>Sim.shift 0 (G:=fun n=>R n 46 123 [qr 0,qn,qi (w32 ((m 0 31) - 1)),qi (m 19 (w32 ((m 0 31) - 1))),qi (m 20 (w32 ((m 0 31) - 1))),qi (m 21 (w32 ((m 0 31) - 1))),qi r_74,qn] [vi r_75] 42 m_76) (fun _=>rfl) (Sim.shift 4 (G:=fun n=>if r_75=1 then R n 46 131 [qr 0,qn,qi (w32 ((m 0 31) - 1)),qi (m 19 (w32 ((m 0 31) - 1))),qi (m 20 (w32 ((m 0 31) - 1))),qi (m 21 (w32 ((m 0 31) - 1))),qi r_74,qi r_75] [] 42 m_76 else R n 46 147 [qr 0,qn,qi (w32 ((m 0 31) - 1)),qi (m 19 (w32 ((m 0 31) - 1))),qi (m 20 (w32 ((m 0 31) - 1))),qi (m 21 (w32 ((m 0 31) - 1))),qi r_74,qi r_75] [] 42 m_76) (fun _=>rfl) (Sim.ite (fun _=>Sim.shift 6 (G:=fun n=>(R n 49 0 [qr 0,qi (m 19 (w32 ((m 0 31) - 1))),qi (m 20 (w32 ((m 0 31) - 1))),qi 1,qi (m 21 (w32 ((m 0 31) - 1))),qn] [] 42 m_76).bind fun y=>Rr n 46 141 [qr 0,qn,qi (w32 ((m 0 31) - 1)),qi (m 19 (w32 ((m 0 31) - 1))),qi (m 20 (w32 ((m 0 31) - 1))),qi (m 21 (w32 ((m 0 31) - 1))),qn,qn] [] y) (fun _=>rfl) (Sim.call (f_record_ok (m 19 (w32 ((m 0 31) - 1))) (m 20 (w32 ((m 0 31) - 1))) 1 (m 21 (w32 ((m 0 31) - 1))) m_76) (fun _ _=>rfl) (runP_mono _ _ _ _ _ _) (fun _=>runP_mono _ _ _ _ _ _) (fun m_78=>Sim.shift 0 (G:=fun n=>R n 46 141 [qr 0,qn,qi (w32 ((m 0 31) - 1)),qi (m 19 (w32 ((m 0 31) - 1))),qi (m 20 (w32 ((m 0 31) - 1))),qi (m 21 (w32 ((m 0 31) - 1))),qn,qn] [] 42 m_78) (fun _=>rfl) (Sim.shift 4 (G:=(fun _=>some (none,42,sto m_78 0 31 (w32 ((m 0 31) - 1))))) (fun _=>rfl) (Sim.pur _ _))))) (fun _=>Sim.shift 3 (G:=fun n=>if r_75=2 then R n 46 153 [qr 0,qn,qi (w32 ((m 0 31) - 1)),qi (m 19 (w32 ((m 0 31) - 1))),qn,qi (m 21 (w32 ((m 0 31) - 1))),qi r_74,qi r_75] [] 42 m_76 else R n 46 164 [qr 0,qn,qi (w32 ((m 0 31) - 1)),qi (m 19 (w32 ((m 0 31) - 1))),qn,qi (m 21 (w32 ((m 0 31) - 1))),qi r_74,qi r_75] [] 42 m_76) (fun _=>rfl) (Sim.ite (fun _=>Sim.shift 7 (G:=fun n=>if 0≤w32 ((m 0 31) - 1)∧w32 ((m 0 31) - 1)<10 then R n 46 163 [qr 0,qn,qi (w32 ((m 0 31) - 1)),qn,qn,qi (m 21 (w32 ((m 0 31) - 1))),qn,qn] [] 42 (sto m_76 21 (w32 ((m 0 31) - 1)) (w32 ((m 21 (w32 ((m 0 31) - 1)))+1))) else none) (fun _=>rfl) (Sim.grd fun _=>Sim.shift 1 (G:=(fun _=>some (none,42,sto m_76 21 (w32 ((m 0 31) - 1)) (w32 ((m 21 (w32 ((m 0 31) - 1)))+1))))) (fun _=>rfl) (Sim.pur _ _))) (fun _=>Sim.shift 6 (G:=fun n=>(R n 45 0 [qr 0,qi (w32 ((m 19 (w32 ((m 0 31) - 1))) - 1)),qi r_74] [] 42 m_76).bind fun y=>Rr n 46 173 [qr 0,qn,qi (w32 ((m 0 31) - 1)),qi (m 19 (w32 ((m 0 31) - 1))),qn,qi (m 21 (w32 ((m 0 31) - 1))),qi r_74,qn] [] y) (fun _=>rfl) (Sim.call (f_push_ok (w32 ((m 19 (w32 ((m 0 31) - 1))) - 1)) r_74 m_76) (fun _ _=>rfl) (runP_mono _ _ _ _ _ _) (fun _=>runP_mono _ _ _ _ _ _) (fun ⟨r_79,m_80⟩=>Sim.shift 0 (G:=fun n=>R n 46 173 [qr 0,qn,qi (w32 ((m 0 31) - 1)),qi (m 19 (w32 ((m 0 31) - 1))),qn,qi (m 21 (w32 ((m 0 31) - 1))),qi r_74,qn] [vi r_79] 42 m_80) (fun _=>rfl) (Sim.shift 1 (G:=fun n=>if r_79=0 then R n 46 176 [qr 0,qn,qi (w32 ((m 0 31) - 1)),qi (m 19 (w32 ((m 0 31) - 1))),qn,qi (m 21 (w32 ((m 0 31) - 1))),qi r_74,qn] [] 42 m_80 else R n 46 186 [qr 0,qn,qi (w32 ((m 0 31) - 1)),qi (m 19 (w32 ((m 0 31) - 1))),qn,qi (m 21 (w32 ((m 0 31) - 1))),qi r_74,qn] [] 42 m_80) (fun _=>rfl) (Sim.ite (fun _=>Sim.shift 7 (G:=fun n=>if 0≤w32 ((m 0 31) - 1)∧w32 ((m 0 31) - 1)<10 then R n 46 186 [qr 0,qn,qi (w32 ((m 0 31) - 1)),qn,qn,qi (m 21 (w32 ((m 0 31) - 1))),qn,qn] [] 42 (sto m_80 21 (w32 ((m 0 31) - 1)) (w32 ((m 21 (w32 ((m 0 31) - 1)))+1))) else none) (fun _=>rfl) (Sim.grd fun _=>Sim.jmp (f_searchStep_b186_ok (sto m_80 21 (w32 ((m 0 31) - 1)) (w32 ((m 21 (w32 ((m 0 31) - 1)))+1)))) rfl (fun _=>rfl))) (fun _=>Sim.jmp (f_searchStep_b186_ok m_80) rfl (fun _=>rfl))))))))))))))))))))))))))))) (fun _=>Sim.shift 6 (G:=fun n=>(R n 49 0 [qr 0,qi (m 19 (w32 ((m 0 31) - 1))),qi (m 20 (w32 ((m 0 31) - 1))),qi 2,qi 0,qn] [] 42 m).bind fun y=>Rr n 46 61 [qr 0,qn,qi (w32 ((m 0 31) - 1)),qi (m 19 (w32 ((m 0 31) - 1))),qi (m 20 (w32 ((m 0 31) - 1))),qn,qn,qn] [] y) (fun _=>rfl) (Sim.call (f_record_ok (m 19 (w32 ((m 0 31) - 1))) (m 20 (w32 ((m 0 31) - 1))) 2 0 m) (fun _ _=>rfl) (runP_mono _ _ _ _ _ _) (fun _=>runP_mono _ _ _ _ _ _) (fun m_81=>Sim.shift 0 (G:=fun n=>R n 46 61 [qr 0,qn,qi (w32 ((m 0 31) - 1)),qi (m 19 (w32 ((m 0 31) - 1))),qi (m 20 (w32 ((m 0 31) - 1))),qn,qn,qn] [] 42 m_81) (fun _=>rfl) (Sim.shift 4 (G:=(fun _=>some (none,42,sto m_81 0 31 (w32 ((m 0 31) - 1))))) (fun _=>rfl) (Sim.pur _ _)))))))))) (fun _=>Sim.jmp (f_searchStep_b17_ok m) rfl (fun _=>rfl))))))
def f_solvable_l45_H (x1 x2 x4:Int):Int×OMem→Nat→RT:=fun (x5,m) n=>R n 12 45 [qr 0,qi x1,qi x2,qn,qi x4,qi x5] [] 42 m
def f_solvable_l45_X (x1 x2 x4:Int):(OMem)→Nat→RT:=fun e n=>match e with | w=>R n 12 71 [qr 0,qi x1,qi x2,qn,qn,qn] [] 42 w
def f_solvable_l45 (x1 x2 x4:Int):Int×OMem→Option ((Int×OMem)⊕((OMem))):=fun (x5,m)=>if x5<40000000 then (if 0<m 0 31 then ((f_searchStep x4 m).bind fun m_82=>(some (.inl (w32 (x5+1),m_82)))) else (some (.inr m))) else (some (.inr m))
theorem f_solvable_l45_ok (x1 x2 x4:Int) (x5:Int) (m:OMem):Sim (f_solvable_l45 x1 x2 x4 (x5,m)) (Sum.elim (f_solvable_l45_H x1 x2 x4 ) (f_solvable_l45_X x1 x2 x4 )) (f_solvable_l45_H x1 x2 x4 (x5,m)) :=
  Sim.shift 3 (G:=fun n=>if x5<40000000 then R n 12 52 [qr 0,qi x1,qi x2,qn,qi x4,qi x5] [] 42 m else R n 12 71 [qr 0,qi x1,qi x2,qn,qi x4,qi x5] [] 42 m) (fun _=>rfl) (Sim.ite (fun _=>Sim.shift 3 (G:=fun n=>if 0<m 0 31 then R n 12 59 [qr 0,qi x1,qi x2,qn,qi x4,qi x5] [] 42 m else R n 12 71 [qr 0,qi x1,qi x2,qn,qi x4,qi x5] [] 42 m) (fun _=>rfl) (Sim.ite (fun _=>Sim.shift 3 (G:=fun n=>(R n 46 0 [qr 0,qi x4,qn,qn,qn,qn,qn,qn] [] 42 m).bind fun y=>Rr n 12 65 [qr 0,qi x1,qi x2,qn,qi x4,qi x5] [] y) (fun _=>rfl) (Sim.call (f_searchStep_ok x4 m) (fun _ _=>rfl) (runP_mono _ _ _ _ _ _) (fun _=>runP_mono _ _ _ _ _ _) (fun m_82=>Sim.shift 0 (G:=fun n=>R n 12 65 [qr 0,qi x1,qi x2,qn,qi x4,qi x5] [] 42 m_82) (fun _=>rfl) (Sim.shift 2 (G:=fun n=>R n 12 45 [qr 0,qi x1,qi x2,qn,qi x4,qi (w32 (x5+1))] [] 42 m_82) (fun _=>rfl) (Sim.pur _ _))))) (fun _=>Sim.leaf rfl (fun _=>rfl)))) (fun _=>Sim.leaf rfl (fun _=>rfl)))
def f_solvable_b96 (s0:Int) (m:OMem):Option (Int×OMem):=some (s0 % 2,m)
theorem f_solvable_b96_ok (s0:Int) (m:OMem):Sim (f_solvable_b96 s0 m) (fun (r,w0) _=>some (some (vi r),42,w0)) (fun n=>R n 12 96 [qn,qn,qn,qn,qn,qn] [vi s0] 42 m) :=
  Sim.shift 1 (G:=(fun _=>some (some (vi (s0 % 2)),42,m))) (fun _=>rfl) (Sim.pur _ _)
def f_solvable_b71 (x1 x2:Int) (m:OMem):Option (Int×OMem):=(f_statusIndex x1 x2 (sto m 0 31 0)).bind fun r_84=>(if 0≤r_84∧r_84<9216 then (if m 17 r_84=1 then (f_solvable_b96 1 (sto m 0 31 0)) else (f_solvable_b96 0 (sto m 0 31 0))) else none)
theorem f_solvable_b71_ok (x1 x2:Int) (m:OMem):Sim (f_solvable_b71 x1 x2 m) (fun (r,w0) _=>some (some (vi r),42,w0)) (fun n=>R n 12 71 [qr 0,qi x1,qi x2,qn,qn,qn] [] 42 m) :=
  Sim.shift 9 (G:=fun n=>(R n 14 0 [qr 0,qi x1,qi x2,qn] [] 42 (sto m 0 31 0)).bind fun y=>Rr n 12 86 [qr 0,qi x1,qi x2,qn,qn,qn] [vr 17] y) (fun _=>rfl) (Sim.call (f_statusIndex_ok 42 x1 x2 (sto m 0 31 0)) (fun _ _=>rfl) (runP_mono _ _ _ _ _ _) (fun _=>runP_mono _ _ _ _ _ _) (fun r_84=>Sim.shift 0 (G:=fun n=>R n 12 86 [qr 0,qi x1,qi x2,qn,qn,qn] [vi r_84,vr 17] 42 (sto m 0 31 0)) (fun _=>rfl) (Sim.shift 1 (G:=fun n=>if 0≤r_84∧r_84<9216 then R n 12 87 [qr 0,qi x1,qi x2,qn,qn,qn] [vi (m 17 r_84)] 42 (sto m 0 31 0) else none) (fun _=>rfl) (Sim.grd fun _=>Sim.shift 2 (G:=fun n=>if m 17 r_84=1 then R n 12 91 [qr 0,qi x1,qi x2,qn,qn,qn] [] 42 (sto m 0 31 0) else R n 12 95 [qr 0,qi x1,qi x2,qn,qn,qn] [] 42 (sto m 0 31 0)) (fun _=>rfl) (Sim.ite (fun _=>Sim.shift 2 (G:=fun n=>R n 12 96 [qn,qn,qn,qn,qn,qn] [vi 1] 42 (sto m 0 31 0)) (fun _=>rfl) (f_solvable_b96_ok 1 (sto m 0 31 0))) (fun _=>Sim.shift 1 (G:=fun n=>R n 12 96 [qn,qn,qn,qn,qn,qn] [vi 0] 42 (sto m 0 31 0)) (fun _=>rfl) (f_solvable_b96_ok 0 (sto m 0 31 0))))))))
def f_solvable_b21 (s0:Int) (m:OMem):Option (Int×OMem):=some (s0 % 2,m)
theorem f_solvable_b21_ok (s0:Int) (m:OMem):Sim (f_solvable_b21 s0 m) (fun (r,w0) _=>some (some (vi r),42,w0)) (fun n=>R n 12 21 [qn,qn,qn,qn,qn,qn] [vi s0] 42 m) :=
  Sim.shift 1 (G:=(fun _=>some (some (vi (s0 % 2)),42,m))) (fun _=>rfl) (Sim.pur _ _)
def f_solvable (x1 x2:Int) (m:OMem):Option (Int×OMem):=(f_quickStatus x1 x2 m).bind fun (r_68,m_69)=>(if r_68=0 then ((f_push x1 x2 (sto m_69 0 31 0)).bind fun (r_70,m_71)=>((lp (f_solvable_l45 x1 x2 (shl32 1 (m_71 0 25))) NN (0,m_71)).bind fun m_83=>(f_solvable_b71 x1 x2 m_83))) else (if r_68=1 then (f_solvable_b21 1 m_69) else (f_solvable_b21 0 m_69)))
theorem f_solvable_ok (x1 x2:Int) (m:OMem):Sim (f_solvable x1 x2 m) (fun (r,w0) _=>some (some (vi r),42,w0)) (fun n=>R n 12 0 [qr 0,qi x1,qi x2,qn,qn,qn] [] 42 m) :=
  Sim.shift 4 (G:=fun n=>(R n 13 0 [qr 0,qi x1,qi x2,qn] [] 42 m).bind fun y=>Rr n 12 6 [qr 0,qi x1,qi x2,qn,qn,qn] [] y) (fun _=>rfl) (Sim.call (f_quickStatus_ok x1 x2 m) (fun _ _=>rfl) (runP_mono _ _ _ _ _ _) (fun _=>runP_mono _ _ _ _ _ _) (fun ⟨r_68,m_69⟩=>Sim.shift 0 (G:=fun n=>R n 12 6 [qr 0,qi x1,qi x2,qn,qn,qn] [vi r_68] 42 m_69) (fun _=>rfl) (Sim.shift 3 (G:=fun n=>if r_68=0 then R n 12 22 [qr 0,qi x1,qi x2,qi r_68,qn,qn] [] 42 m_69 else R n 12 11 [qr 0,qi x1,qi x2,qi r_68,qn,qn] [] 42 m_69) (fun _=>rfl) (Sim.ite (fun _=>Sim.shift 7 (G:=fun n=>(R n 45 0 [qr 0,qi x1,qi x2] [] 42 (sto m_69 0 31 0)).bind fun y=>Rr n 12 33 [qr 0,qi x1,qi x2,qn,qn,qn] [] y) (fun _=>rfl) (Sim.call (f_push_ok x1 x2 (sto m_69 0 31 0)) (fun _ _=>rfl) (runP_mono _ _ _ _ _ _) (fun _=>runP_mono _ _ _ _ _ _) (fun ⟨r_70,m_71⟩=>Sim.shift 0 (G:=fun n=>R n 12 33 [qr 0,qi x1,qi x2,qn,qn,qn] [vi r_70] 42 m_71) (fun _=>rfl) (Sim.shift 6 (G:=fun n=>R n 12 42 [qr 0,qi x1,qi x2,qn,qi (shl32 1 (m_71 0 25)),qn] [] 42 m_71) (fun _=>rfl) (Sim.shift 2 (G:=fun n=>R n 12 45 [qr 0,qi x1,qi x2,qn,qi (shl32 1 (m_71 0 25)),qi 0] [] 42 m_71) (fun _=>rfl) (Sim.bind (Sim.lp (σ:=Int×OMem) (fun ⟨x5L,mL⟩=>f_solvable_l45_ok x1 x2 (shl32 1 (m_71 0 25)) x5L mL) NN (0,m_71)) (fun m_83=>f_solvable_b71_ok x1 x2 m_83))))))) (fun _=>Sim.shift 3 (G:=fun n=>if r_68=1 then R n 12 16 [qn,qn,qn,qi r_68,qn,qn] [] 42 m_69 else R n 12 20 [qn,qn,qn,qi r_68,qn,qn] [] 42 m_69) (fun _=>rfl) (Sim.ite (fun _=>Sim.shift 2 (G:=fun n=>R n 12 21 [qn,qn,qn,qn,qn,qn] [vi 1] 42 m_69) (fun _=>rfl) (f_solvable_b21_ok 1 m_69)) (fun _=>Sim.shift 1 (G:=fun n=>R n 12 21 [qn,qn,qn,qn,qn,qn] [vi 0] 42 m_69) (fun _=>rfl) (f_solvable_b21_ok 0 m_69))))))))
def f_clearPlan_l2_H:Int×OMem→Nat→RT:=fun (x1,m) n=>R n 16 2 [qr 0,qi x1] [] 42 m
def f_clearPlan_l2_X:(OMem)→Nat→RT:=fun e n=>match e with | w=>R n 16 21 [qn,qn] [] 42 w
def f_clearPlan_l2:Int×OMem→Option ((Int×OMem)⊕((OMem))):=fun (x1,m)=>if x1<9 then (if 0≤x1∧x1<9 then (some (.inl (w32 (x1+1),sto m 1 x1 0))) else none) else (some (.inr m))
theorem f_clearPlan_l2_ok (x1:Int) (m:OMem):Sim (f_clearPlan_l2 (x1,m)) (Sum.elim (f_clearPlan_l2_H ) (f_clearPlan_l2_X )) (f_clearPlan_l2_H (x1,m)) :=
  Sim.shift 3 (G:=fun n=>if x1<9 then R n 16 8 [qr 0,qi x1] [] 42 m else R n 16 21 [qr 0,qi x1] [] 42 m) (fun _=>rfl) (Sim.ite (fun _=>Sim.shift 5 (G:=fun n=>if 0≤x1∧x1<9 then R n 16 15 [qr 0,qi x1] [] 42 (sto m 1 x1 0) else none) (fun _=>rfl) (Sim.grd fun _=>Sim.shift 2 (G:=fun n=>R n 16 2 [qr 0,qi (w32 (x1+1))] [] 42 (sto m 1 x1 0)) (fun _=>rfl) (Sim.pur _ _))) (fun _=>Sim.leaf rfl (fun _=>rfl)))
def f_clearPlan (m:OMem):Option (OMem):=(lp (f_clearPlan_l2 ) NN (0,m)).bind fun m_89=>(some m_89)
theorem f_clearPlan_ok (m:OMem):Sim (f_clearPlan m) (fun w0 _=>some (none,42,w0)) (fun n=>R n 16 0 [qr 0,qn] [] 42 m) :=
  Sim.shift 2 (G:=fun n=>R n 16 2 [qr 0,qi 0] [] 42 m) (fun _=>rfl) (Sim.bind (Sim.lp (σ:=Int×OMem) (fun ⟨x1L,mL⟩=>f_clearPlan_l2_ok x1L mL) NN (0,m)) (fun m_89=>Sim.shift 1 (G:=(fun _=>some (none,42,m_89))) (fun _=>rfl) (Sim.pur _ _)))
def f_extractPlan_l18_H:Int×Int×OMem→Nat→RT:=fun (x2,x3,m) n=>R n 15 18 [qr 0,qn,qi x2,qi x3,qn] [] 42 m
def f_extractPlan_l18_X:(OMem)→Nat→RT:=fun e n=>match e with | w=>R n 15 58 [qn,qn,qn,qn,qn] [] 42 w
def f_extractPlan_l18:Int×Int×OMem→Option ((Int×Int×OMem)⊕((OMem))):=fun (x2,x3,m)=>if x3<1 then (some (.inr m)) else ((f_statusIndex x3 x2 m).bind fun r_92=>(if 0≤r_92∧r_92<9216 then (if 0≤x3∧x3<9 then ((f_regress x2 (m 18 r_92) (sto m 1 x3 (m 18 r_92))).bind fun r_93=>(some (.inl (r_93,w32 (x3+(-1)),sto m 1 x3 (m 18 r_92))))) else none) else none))
theorem f_extractPlan_l18_ok (x2 x3:Int) (m:OMem):Sim (f_extractPlan_l18 (x2,x3,m)) (Sum.elim (f_extractPlan_l18_H ) (f_extractPlan_l18_X )) (f_extractPlan_l18_H (x2,x3,m)) :=
  Sim.shift 3 (G:=fun n=>if x3<1 then R n 15 58 [qr 0,qn,qi x2,qi x3,qn] [] 42 m else R n 15 23 [qr 0,qn,qi x2,qi x3,qn] [] 42 m) (fun _=>rfl) (Sim.ite (fun _=>Sim.leaf rfl (fun _=>rfl)) (fun _=>Sim.shift 6 (G:=fun n=>(R n 14 0 [qr 0,qi x3,qi x2,qn] [] 42 m).bind fun y=>Rr n 15 33 [qr 0,qn,qi x2,qi x3,qn] [vr 18] y) (fun _=>rfl) (Sim.call (f_statusIndex_ok 42 x3 x2 m) (fun _ _=>rfl) (runP_mono _ _ _ _ _ _) (fun _=>runP_mono _ _ _ _ _ _) (fun r_92=>Sim.shift 0 (G:=fun n=>R n 15 33 [qr 0,qn,qi x2,qi x3,qn] [vi r_92,vr 18] 42 m) (fun _=>rfl) (Sim.shift 1 (G:=fun n=>if 0≤r_92∧r_92<9216 then R n 15 34 [qr 0,qn,qi x2,qi x3,qn] [vi (m 18 r_92)] 42 m else none) (fun _=>rfl) (Sim.grd fun _=>Sim.shift 6 (G:=fun n=>if 0≤x3∧x3<9 then R n 15 44 [qr 0,qn,qi x2,qi x3,qi (m 18 r_92)] [] 42 (sto m 1 x3 (m 18 r_92)) else none) (fun _=>rfl) (Sim.grd fun _=>Sim.shift 4 (G:=fun n=>(R n 48 0 [qr 0,qi x2,qi (m 18 r_92)] [] 42 (sto m 1 x3 (m 18 r_92))).bind fun y=>Rr n 15 51 [qr 0,qn,qi x2,qi x3,qi (m 18 r_92)] [] y) (fun _=>rfl) (Sim.call (f_regress_ok x2 (m 18 r_92) (sto m 1 x3 (m 18 r_92))) (fun _ _=>rfl) (runP_mono _ _ _ _ _ _) (fun _=>runP_mono _ _ _ _ _ _) (fun r_93=>Sim.shift 0 (G:=fun n=>R n 15 51 [qr 0,qn,qi x2,qi x3,qi (m 18 r_92)] [vi r_93] 42 (sto m 1 x3 (m 18 r_92))) (fun _=>rfl) (Sim.shift 3 (G:=fun n=>R n 15 18 [qr 0,qn,qi r_93,qi (w32 (x3+(-1))),qi (m 18 r_92)] [] 42 (sto m 1 x3 (m 18 r_92))) (fun _=>rfl) (Sim.leaf rfl (fun _=>rfl))))))))))))
def f_extractPlan (x1:Int) (m:OMem):Option (OMem):=(f_clearPlan m).bind fun m_90=>((f_clamp x1 0 8 m_90).bind fun r_91=>((lp (f_extractPlan_l18 ) NN (m_90 0 28,r_91,m_90)).bind fun m_94=>(some m_94)))
theorem f_extractPlan_ok (x1:Int) (m:OMem):Sim (f_extractPlan x1 m) (fun w0 _=>some (none,42,w0)) (fun n=>R n 15 0 [qr 0,qi x1,qn,qn,qn] [] 42 m) :=
  Sim.shift 2 (G:=fun n=>(R n 16 0 [qr 0,qn] [] 42 m).bind fun y=>Rr n 15 4 [qr 0,qi x1,qn,qn,qn] [] y) (fun _=>rfl) (Sim.call (f_clearPlan_ok m) (fun _ _=>rfl) (runP_mono _ _ _ _ _ _) (fun _=>runP_mono _ _ _ _ _ _) (fun m_90=>Sim.shift 0 (G:=fun n=>R n 15 4 [qr 0,qi x1,qn,qn,qn] [] 42 m_90) (fun _=>rfl) (Sim.shift 8 (G:=fun n=>(R n 1 0 [qr 0,qi x1,qi 0,qi 8] [] 42 m_90).bind fun y=>Rr n 15 17 [qr 0,qi x1,qi (m_90 0 28),qn,qn] [] y) (fun _=>rfl) (Sim.call (f_clamp_ok 42 x1 0 8 m_90) (fun _ _=>rfl) (runP_mono _ _ _ _ _ _) (fun _=>runP_mono _ _ _ _ _ _) (fun r_91=>Sim.shift 0 (G:=fun n=>R n 15 17 [qr 0,qi x1,qi (m_90 0 28),qn,qn] [vi r_91] 42 m_90) (fun _=>rfl) (Sim.shift 1 (G:=fun n=>R n 15 18 [qr 0,qi x1,qi (m_90 0 28),qi r_91,qn] [] 42 m_90) (fun _=>rfl) (Sim.jmp (Sim.bind (Sim.lp (σ:=Int×Int×OMem) (fun ⟨x2L,x3L,mL⟩=>f_extractPlan_l18_ok x2L x3L mL) NN (m_90 0 28,r_91,m_90)) (fun m_94=>Sim.shift 1 (G:=(fun _=>some (none,42,m_94))) (fun _=>rfl) (Sim.pur _ _))) rfl (fun _=>rfl))))))))
def f_solve_l18_H (x2:Int):Int×OMem→Nat→RT:=fun (x3,m) n=>R n 2 18 [qr 0,qn,qi x2,qi x3] [] 42 m
def f_solve_l18_X (x2:Int):(Int×OMem)⊕(OMem)→Nat→RT:=fun e n=>match e with | (.inl (y3,w))=>R n 2 35 [qr 0,qn,qn,qi y3] [] 42 w | (.inr w)=>R n 2 53 [qr 0,qn,qn,qn] [] 42 w
def f_solve_l18 (x2:Int):Int×OMem→Option ((Int×OMem)⊕((Int×OMem)⊕(OMem))):=fun (x3,m)=>if x2<x3 then (some (.inr (.inr m))) else ((f_solvable x3 (m 0 28) m).bind fun (r_85,m_86)=>(if r_85=0 then (some (.inl (w32 (x3+1),m_86))) else (some (.inr (.inl (x3,m_86))))))
theorem f_solve_l18_ok (x2:Int) (x3:Int) (m:OMem):Sim (f_solve_l18 x2 (x3,m)) (Sum.elim (f_solve_l18_H x2 ) (f_solve_l18_X x2 )) (f_solve_l18_H x2 (x3,m)) :=
  Sim.shift 3 (G:=fun n=>if x2<x3 then R n 2 53 [qr 0,qn,qi x2,qi x3] [] 42 m else R n 2 23 [qr 0,qn,qi x2,qi x3] [] 42 m) (fun _=>rfl) (Sim.ite (fun _=>Sim.leaf rfl (fun _=>rfl)) (fun _=>Sim.shift 5 (G:=fun n=>(R n 12 0 [qr 0,qi x3,qi (m 0 28),qn,qn,qn] [] 42 m).bind fun y=>Rr n 2 32 [qr 0,qn,qi x2,qi x3] [] y) (fun _=>rfl) (Sim.call (f_solvable_ok x3 (m 0 28) m) (fun _ _=>rfl) (runP_mono _ _ _ _ _ _) (fun _=>runP_mono _ _ _ _ _ _) (fun ⟨r_85,m_86⟩=>Sim.shift 0 (G:=fun n=>R n 2 32 [qr 0,qn,qi x2,qi x3] [vi r_85] 42 m_86) (fun _=>rfl) (Sim.shift 1 (G:=fun n=>if r_85=0 then R n 2 47 [qr 0,qn,qi x2,qi x3] [] 42 m_86 else R n 2 35 [qr 0,qn,qi x2,qi x3] [] 42 m_86) (fun _=>rfl) (Sim.ite (fun _=>Sim.shift 2 (G:=fun n=>R n 2 18 [qr 0,qn,qi x2,qi (w32 (x3+1))] [] 42 m_86) (fun _=>rfl) (Sim.pur _ _)) (fun _=>Sim.leaf rfl (fun _=>rfl))))))))
def f_solve (x1:Int) (m:OMem):Option (Int×OMem):=(f_clamp x1 0 (m 0 26) m).bind fun r_4=>((f_prepareSearch r_4 m).bind fun m_63=>((lp (f_solve_l18 r_4) NN (0,m_63)).bind fun e=>match e with | (.inl (x3_87,m_88))=>((f_extractPlan x3_87 m_88).bind fun m_95=>(some (x3_87,sto m_95 0 30 x3_87))) | (.inr m_96)=>((f_clearPlan m_96).bind fun m_97=>(some ((-1),sto m_97 0 30 (-1))))))
theorem f_solve_ok (x1:Int) (m:OMem):Sim (f_solve x1 m) (fun (r,w0) _=>some (some (vi r),42,w0)) (fun n=>R n 2 0 [qr 0,qi x1,qn,qn] [] 42 m) :=
  Sim.shift 6 (G:=fun n=>(R n 1 0 [qr 0,qi x1,qi 0,qi (m 0 26)] [] 42 m).bind fun y=>Rr n 2 10 [qr 0,qi x1,qn,qn] [] y) (fun _=>rfl) (Sim.call (f_clamp_ok 42 x1 0 (m 0 26) m) (fun _ _=>rfl) (runP_mono _ _ _ _ _ _) (fun _=>runP_mono _ _ _ _ _ _) (fun r_4=>Sim.shift 0 (G:=fun n=>R n 2 10 [qr 0,qi x1,qn,qn] [vi r_4] 42 m) (fun _=>rfl) (Sim.shift 4 (G:=fun n=>(R n 3 0 [qr 0,qi r_4] [] 42 m).bind fun y=>Rr n 2 16 [qr 0,qi x1,qi r_4,qn] [] y) (fun _=>rfl) (Sim.call (f_prepareSearch_ok r_4 m) (fun _ _=>rfl) (runP_mono _ _ _ _ _ _) (fun _=>runP_mono _ _ _ _ _ _) (fun m_63=>Sim.shift 0 (G:=fun n=>R n 2 16 [qr 0,qi x1,qi r_4,qn] [] 42 m_63) (fun _=>rfl) (Sim.shift 2 (G:=fun n=>R n 2 18 [qr 0,qi x1,qi r_4,qi 0] [] 42 m_63) (fun _=>rfl) (Sim.jmp (Sim.bind (Sim.lp (σ:=Int×OMem) (fun ⟨x3L,mL⟩=>f_solve_l18_ok r_4 x3L mL) NN (0,m_63)) (fun e=>match e with | (.inl (⟨x3_87,m_88⟩))=>Sim.shift 3 (G:=fun n=>(R n 15 0 [qr 0,qi x3_87,qn,qn,qn] [] 42 m_88).bind fun y=>Rr n 2 40 [qr 0,qn,qn,qi x3_87] [] y) (fun _=>rfl) (Sim.call (f_extractPlan_ok x3_87 m_88) (fun _ _=>rfl) (runP_mono _ _ _ _ _ _) (fun _=>runP_mono _ _ _ _ _ _) (fun m_95=>Sim.shift 0 (G:=fun n=>R n 2 40 [qr 0,qn,qn,qi x3_87] [] 42 m_95) (fun _=>rfl) (Sim.shift 5 (G:=(fun _=>some (some (vi x3_87),42,sto m_95 0 30 x3_87))) (fun _=>rfl) (Sim.pur _ _)))) | (.inr m_96)=>Sim.shift 2 (G:=fun n=>(R n 16 0 [qr 0,qn] [] 42 m_96).bind fun y=>Rr n 2 57 [qr 0,qn,qn,qn] [] y) (fun _=>rfl) (Sim.call (f_clearPlan_ok m_96) (fun _ _=>rfl) (runP_mono _ _ _ _ _ _) (fun _=>runP_mono _ _ _ _ _ _) (fun m_97=>Sim.shift 0 (G:=fun n=>R n 2 57 [qr 0,qn,qn,qn] [] 42 m_97) (fun _=>rfl) (Sim.shift 5 (G:=(fun _=>some (some (vi (-1)),42,sto m_97 0 30 (-1)))) (fun _=>rfl) (Sim.pur _ _)))))) rfl (fun _=>rfl))))))))
def f_layerMask_b22 (m:OMem):Option (Int):=some (-1)
theorem f_layerMask_b22_ok (m:OMem):Sim (f_layerMask_b22 m) (fun r _=>some (some (vi r),42,m)) (fun n=>R n 17 22 [qn,qn] [] 42 m) :=
  Sim.shift 2 (G:=(fun _=>some (some (vi (-1)),42,m))) (fun _=>rfl) (Sim.pur _ _)
def f_layerMask (x1:Int) (m:OMem):Option (Int):=if m 0 30<0 then (some (-1)) else (if x1<1 then (f_layerMask_b22 m) else (if m 0 30<x1 then (f_layerMask_b22 m) else (if 0≤x1∧x1<9 then (some (m 1 x1)) else none)))
theorem f_layerMask_ok (x1:Int) (m:OMem):Sim (f_layerMask x1 m) (fun r _=>some (some (vi r),42,m)) (fun n=>R n 17 0 [qr 0,qi x1] [] 42 m) :=
  Sim.shift 3 (G:=fun n=>if m 0 30<0 then R n 17 7 [qr 0,qi x1] [] 42 m else R n 17 9 [qr 0,qi x1] [] 42 m) (fun _=>rfl) (Sim.ite (fun _=>Sim.shift 2 (G:=(fun _=>some (some (vi (-1)),42,m))) (fun _=>rfl) (Sim.pur _ _)) (fun _=>Sim.shift 3 (G:=fun n=>if x1<1 then R n 17 22 [qr 0,qi x1] [] 42 m else R n 17 14 [qr 0,qi x1] [] 42 m) (fun _=>rfl) (Sim.ite (fun _=>Sim.jmp (f_layerMask_b22_ok m) rfl (fun _=>rfl)) (fun _=>Sim.shift 4 (G:=fun n=>if m 0 30<x1 then R n 17 22 [qr 0,qi x1] [] 42 m else R n 17 24 [qr 0,qi x1] [] 42 m) (fun _=>rfl) (Sim.ite (fun _=>Sim.jmp (f_layerMask_b22_ok m) rfl (fun _=>rfl)) (fun _=>Sim.shift 4 (G:=fun n=>if 0≤x1∧x1<9 then R n 17 30 [qr 0,qi x1] [vi (m 1 x1)] 42 m else none) (fun _=>rfl) (Sim.grd fun _=>Sim.shift 1 (G:=(fun _=>some (some (vi (m 1 x1)),42,m))) (fun _=>rfl) (Sim.pur _ _))))))))
def f_isAction_b17 (s0:Int) (m:OMem):Option (Int):=some (s0 % 2)
theorem f_isAction_b17_ok (t:Nat) (s0:Int) (m:OMem):Sim (f_isAction_b17 s0 m) (fun r _=>some (some (vi r),t,m)) (fun n=>R n 19 17 [qn,qn] [vi s0] t m) :=
  Sim.shift 1 (G:=(fun _=>some (some (vi (s0 % 2)),t,m))) (fun _=>rfl) (Sim.pur _ _)
def f_isAction_b16 (m:OMem):Option (Int):=f_isAction_b17 0 m
theorem f_isAction_b16_ok (t:Nat) (m:OMem):Sim (f_isAction_b16 m) (fun r _=>some (some (vi r),t,m)) (fun n=>R n 19 16 [qn,qn] [] t m) :=
  Sim.shift 1 (G:=fun n=>R n 19 17 [qn,qn] [vi 0] t m) (fun _=>rfl) (f_isAction_b17_ok t 0 m)
def f_isAction (x1:Int) (m:OMem):Option (Int):=if x1<0 then (f_isAction_b16 m) else (if x1<m 0 25 then (f_isAction_b17 1 m) else (f_isAction_b16 m))
theorem f_isAction_ok (t:Nat) (x1:Int) (m:OMem):Sim (f_isAction x1 m) (fun r _=>some (some (vi r),t,m)) (fun n=>R n 19 0 [qr 0,qi x1] [] t m) :=
  Sim.shift 2 (G:=fun n=>if x1<0 then R n 19 16 [qr 0,qi x1] [] t m else R n 19 4 [qr 0,qi x1] [] t m) (fun _=>rfl) (Sim.ite (fun _=>Sim.jmp (f_isAction_b16_ok t m) rfl (fun _=>rfl)) (fun _=>Sim.shift 4 (G:=fun n=>if x1<m 0 25 then R n 19 12 [qr 0,qi x1] [] t m else R n 19 16 [qr 0,qi x1] [] t m) (fun _=>rfl) (Sim.ite (fun _=>Sim.shift 2 (G:=fun n=>R n 19 17 [qn,qn] [vi 1] t m) (fun _=>rfl) (f_isAction_b17_ok t 1 m)) (fun _=>Sim.jmp (f_isAction_b16_ok t m) rfl (fun _=>rfl)))))
def f_isKind_b19 (s0:Int) (m:OMem):Option (Int):=some (s0 % 2)
theorem f_isKind_b19_ok (t:Nat) (s0:Int) (m:OMem):Sim (f_isKind_b19 s0 m) (fun r _=>some (some (vi r),t,m)) (fun n=>R n 20 19 [qn,qn] [vi s0] t m) :=
  Sim.shift 1 (G:=(fun _=>some (some (vi (s0 % 2)),t,m))) (fun _=>rfl) (Sim.pur _ _)
def f_isKind_b14 (m:OMem):Option (Int):=f_isKind_b19 1 m
theorem f_isKind_b14_ok (t:Nat) (m:OMem):Sim (f_isKind_b14 m) (fun r _=>some (some (vi r),t,m)) (fun n=>R n 20 14 [qn,qn] [] t m) :=
  Sim.shift 2 (G:=fun n=>R n 20 19 [qn,qn] [vi 1] t m) (fun _=>rfl) (f_isKind_b19_ok t 1 m)
def f_isKind (x1:Int) (m:OMem):Option (Int):=if x1=0 then (f_isKind_b14 m) else (if x1=1 then (f_isKind_b14 m) else (if x1=2 then (f_isKind_b14 m) else (f_isKind_b19 0 m)))
theorem f_isKind_ok (t:Nat) (x1:Int) (m:OMem):Sim (f_isKind x1 m) (fun r _=>some (some (vi r),t,m)) (fun n=>R n 20 0 [qr 0,qi x1] [] t m) :=
  Sim.shift 2 (G:=fun n=>if x1=0 then R n 20 14 [qn,qi x1] [] t m else R n 20 4 [qn,qi x1] [] t m) (fun _=>rfl) (Sim.ite (fun _=>Sim.jmp (f_isKind_b14_ok t m) rfl (fun _=>rfl)) (fun _=>Sim.shift 3 (G:=fun n=>if x1=1 then R n 20 14 [qn,qi x1] [] t m else R n 20 9 [qn,qi x1] [] t m) (fun _=>rfl) (Sim.ite (fun _=>Sim.jmp (f_isKind_b14_ok t m) rfl (fun _=>rfl)) (fun _=>Sim.shift 3 (G:=fun n=>if x1=2 then R n 20 14 [qn,qi x1] [] t m else R n 20 18 [qn,qi x1] [] t m) (fun _=>rfl) (Sim.ite (fun _=>Sim.jmp (f_isKind_b14_ok t m) rfl (fun _=>rfl)) (fun _=>Sim.shift 1 (G:=fun n=>R n 20 19 [qn,qn] [vi 0] t m) (fun _=>rfl) (f_isKind_b19_ok t 0 m)))))))
def f_listMask (x1 x2:Int) (m:OMem):Option (Int):=(f_isAction x1 m).bind fun r_98=>(if r_98=0 then (some (-1)) else ((f_isKind x2 m).bind fun r_99=>(if r_99=0 then (some (-1)) else (if x2=0 then (if 0≤x1∧x1<10 then (some (m 2 x1)) else none) else (if x2=1 then (if 0≤x1∧x1<10 then (some (m 3 x1)) else none) else (if 0≤x1∧x1<10 then (some (m 4 x1)) else none))))))
theorem f_listMask_ok (x1 x2:Int) (m:OMem):Sim (f_listMask x1 x2 m) (fun r _=>some (some (vi r),42,m)) (fun n=>R n 18 0 [qr 0,qi x1,qi x2] [] 42 m) :=
  Sim.shift 3 (G:=fun n=>(R n 19 0 [qr 0,qi x1] [] 42 m).bind fun y=>Rr n 18 5 [qr 0,qi x1,qi x2] [] y) (fun _=>rfl) (Sim.call (f_isAction_ok 42 x1 m) (fun _ _=>rfl) (runP_mono _ _ _ _ _ _) (fun _=>runP_mono _ _ _ _ _ _) (fun r_98=>Sim.shift 0 (G:=fun n=>R n 18 5 [qr 0,qi x1,qi x2] [vi r_98] 42 m) (fun _=>rfl) (Sim.shift 1 (G:=fun n=>if r_98=0 then R n 18 8 [qr 0,qi x1,qi x2] [] 42 m else R n 18 10 [qr 0,qi x1,qi x2] [] 42 m) (fun _=>rfl) (Sim.ite (fun _=>Sim.shift 2 (G:=(fun _=>some (some (vi (-1)),42,m))) (fun _=>rfl) (Sim.pur _ _)) (fun _=>Sim.shift 3 (G:=fun n=>(R n 20 0 [qr 0,qi x2] [] 42 m).bind fun y=>Rr n 18 15 [qr 0,qi x1,qi x2] [] y) (fun _=>rfl) (Sim.call (f_isKind_ok 42 x2 m) (fun _ _=>rfl) (runP_mono _ _ _ _ _ _) (fun _=>runP_mono _ _ _ _ _ _) (fun r_99=>Sim.shift 0 (G:=fun n=>R n 18 15 [qr 0,qi x1,qi x2] [vi r_99] 42 m) (fun _=>rfl) (Sim.shift 1 (G:=fun n=>if r_99=0 then R n 18 18 [qr 0,qi x1,qi x2] [] 42 m else R n 18 20 [qr 0,qi x1,qi x2] [] 42 m) (fun _=>rfl) (Sim.ite (fun _=>Sim.shift 2 (G:=(fun _=>some (some (vi (-1)),42,m))) (fun _=>rfl) (Sim.pur _ _)) (fun _=>Sim.shift 2 (G:=fun n=>if x2=0 then R n 18 24 [qr 0,qi x1,qi x2] [] 42 m else R n 18 31 [qr 0,qi x1,qi x2] [] 42 m) (fun _=>rfl) (Sim.ite (fun _=>Sim.shift 4 (G:=fun n=>if 0≤x1∧x1<10 then R n 18 30 [qr 0,qi x1,qn] [vi (m 2 x1)] 42 m else none) (fun _=>rfl) (Sim.grd fun _=>Sim.shift 1 (G:=(fun _=>some (some (vi (m 2 x1)),42,m))) (fun _=>rfl) (Sim.pur _ _))) (fun _=>Sim.shift 3 (G:=fun n=>if x2=1 then R n 18 36 [qr 0,qi x1,qi x2] [] 42 m else R n 18 43 [qr 0,qi x1,qi x2] [] 42 m) (fun _=>rfl) (Sim.ite (fun _=>Sim.shift 4 (G:=fun n=>if 0≤x1∧x1<10 then R n 18 42 [qr 0,qi x1,qn] [vi (m 3 x1)] 42 m else none) (fun _=>rfl) (Sim.grd fun _=>Sim.shift 1 (G:=(fun _=>some (some (vi (m 3 x1)),42,m))) (fun _=>rfl) (Sim.pur _ _))) (fun _=>Sim.shift 4 (G:=fun n=>if 0≤x1∧x1<10 then R n 18 49 [qr 0,qi x1,qn] [vi (m 4 x1)] 42 m else none) (fun _=>rfl) (Sim.grd fun _=>Sim.shift 1 (G:=(fun _=>some (some (vi (m 4 x1)),42,m))) (fun _=>rfl) (Sim.pur _ _))))))))))))))))
def f_problemMask (x1:Int) (m:OMem):Option (Int):=if x1=0 then (some (m 0 27)) else (if x1=1 then (some (m 0 28)) else (if x1=2 then (some (m 0 29)) else (some (-1))))
theorem f_problemMask_ok (t:Nat) (x1:Int) (m:OMem):Sim (f_problemMask x1 m) (fun r _=>some (some (vi r),t,m)) (fun n=>R n 21 0 [qr 0,qi x1] [] t m) :=
  Sim.shift 2 (G:=fun n=>if x1=0 then R n 21 4 [qr 0,qi x1] [] t m else R n 21 9 [qr 0,qi x1] [] t m) (fun _=>rfl) (Sim.ite (fun _=>Sim.shift 3 (G:=(fun _=>some (some (vi (m 0 27)),t,m))) (fun _=>rfl) (Sim.pur _ _)) (fun _=>Sim.shift 3 (G:=fun n=>if x1=1 then R n 21 14 [qr 0,qi x1] [] t m else R n 21 19 [qr 0,qi x1] [] t m) (fun _=>rfl) (Sim.ite (fun _=>Sim.shift 3 (G:=(fun _=>some (some (vi (m 0 28)),t,m))) (fun _=>rfl) (Sim.pur _ _)) (fun _=>Sim.shift 3 (G:=fun n=>if x1=2 then R n 21 24 [qr 0,qi x1] [] t m else R n 21 29 [qr 0,qi x1] [] t m) (fun _=>rfl) (Sim.ite (fun _=>Sim.shift 3 (G:=(fun _=>some (some (vi (m 0 29)),t,m))) (fun _=>rfl) (Sim.pur _ _)) (fun _=>Sim.shift 2 (G:=(fun _=>some (some (vi (-1)),t,m))) (fun _=>rfl) (Sim.pur _ _)))))))
def f_planLength (m:OMem):Option (Int):=some (m 0 30)
theorem f_planLength_ok (t:Nat) (m:OMem):Sim (f_planLength m) (fun r _=>some (some (vi r),t,m)) (fun n=>R n 22 0 [qr 0] [] t m) :=
  Sim.shift 3 (G:=(fun _=>some (some (vi (m 0 30)),t,m))) (fun _=>rfl) (Sim.pur _ _)
def f_isFact_b17 (s0:Int) (m:OMem):Option (Int):=some (s0 % 2)
theorem f_isFact_b17_ok (t:Nat) (s0:Int) (m:OMem):Sim (f_isFact_b17 s0 m) (fun r _=>some (some (vi r),t,m)) (fun n=>R n 24 17 [qn,qn] [vi s0] t m) :=
  Sim.shift 1 (G:=(fun _=>some (some (vi (s0 % 2)),t,m))) (fun _=>rfl) (Sim.pur _ _)
def f_isFact_b16 (m:OMem):Option (Int):=f_isFact_b17 0 m
theorem f_isFact_b16_ok (t:Nat) (m:OMem):Sim (f_isFact_b16 m) (fun r _=>some (some (vi r),t,m)) (fun n=>R n 24 16 [qn,qn] [] t m) :=
  Sim.shift 1 (G:=fun n=>R n 24 17 [qn,qn] [vi 0] t m) (fun _=>rfl) (f_isFact_b17_ok t 0 m)
def f_isFact (x1:Int) (m:OMem):Option (Int):=if x1<0 then (f_isFact_b16 m) else (if x1<m 0 24 then (f_isFact_b17 1 m) else (f_isFact_b16 m))
theorem f_isFact_ok (t:Nat) (x1:Int) (m:OMem):Sim (f_isFact x1 m) (fun r _=>some (some (vi r),t,m)) (fun n=>R n 24 0 [qr 0,qi x1] [] t m) :=
  Sim.shift 2 (G:=fun n=>if x1<0 then R n 24 16 [qr 0,qi x1] [] t m else R n 24 4 [qr 0,qi x1] [] t m) (fun _=>rfl) (Sim.ite (fun _=>Sim.jmp (f_isFact_b16_ok t m) rfl (fun _=>rfl)) (fun _=>Sim.shift 4 (G:=fun n=>if x1<m 0 24 then R n 24 12 [qr 0,qi x1] [] t m else R n 24 16 [qr 0,qi x1] [] t m) (fun _=>rfl) (Sim.ite (fun _=>Sim.shift 2 (G:=fun n=>R n 24 17 [qn,qn] [vi 1] t m) (fun _=>rfl) (f_isFact_b17_ok t 1 m)) (fun _=>Sim.jmp (f_isFact_b16_ok t m) rfl (fun _=>rfl)))))
def f_withBit (x1 x2 x3:Int) (m:OMem):Option (Int):=if x3=0 then (some (and32 x1 (xor32 x2 (-1)))) else (some (or32 x1 x2))
theorem f_withBit_ok (t:Nat) (x1 x2 x3:Int) (m:OMem):Sim (f_withBit x1 x2 x3 m) (fun r _=>some (some (vi r),t,m)) (fun n=>R n 25 0 [qr 0,qi x1,qi x2,qi x3] [] t m) :=
  Sim.shift 2 (G:=fun n=>if x3=0 then R n 25 8 [qn,qi x1,qi x2,qi x3] [] t m else R n 25 4 [qn,qi x1,qi x2,qi x3] [] t m) (fun _=>rfl) (Sim.ite (fun _=>Sim.shift 4 (G:=fun n=>R n 25 12 [qn,qi x1,qi x2,qn] [vi (xor32 x2 (-1)),vi x1] t m) (fun _=>rfl) (Sim.shift 2 (G:=(fun _=>some (some (vi (and32 x1 (xor32 x2 (-1)))),t,m))) (fun _=>rfl) (Sim.pur _ _))) (fun _=>Sim.shift 4 (G:=(fun _=>some (some (vi (or32 x1 x2)),t,m))) (fun _=>rfl) (Sim.pur _ _)))
def f_markStale (m:OMem):Option (OMem):=(f_clearPlan (sto m 0 30 (-2))).bind fun m_102=>(some m_102)
theorem f_markStale_ok (m:OMem):Sim (f_markStale m) (fun w0 _=>some (none,42,w0)) (fun n=>R n 26 0 [qr 0] [] 42 m) :=
  Sim.shift 5 (G:=fun n=>(R n 16 0 [qr 0,qn] [] 42 (sto m 0 30 (-2))).bind fun y=>Rr n 26 10 [qr 0] [] y) (fun _=>rfl) (Sim.call (f_clearPlan_ok (sto m 0 30 (-2))) (fun _ _=>rfl) (runP_mono _ _ _ _ _ _) (fun _=>runP_mono _ _ _ _ _ _) (fun m_102=>Sim.shift 0 (G:=fun n=>R n 26 10 [qr 0] [] 42 m_102) (fun _=>rfl) (Sim.shift 1 (G:=(fun _=>some (none,42,m_102))) (fun _=>rfl) (Sim.pur _ _))))
def f_setInit (x1 x2:Int) (m:OMem):Option (Int×OMem):=(f_isFact x1 m).bind fun r_100=>(if r_100=0 then (some (0,m)) else ((f_withBit (m 0 27) (shl32 1 x1) x2 m).bind fun r_101=>((f_markStale (sto m 0 27 r_101)).bind fun m_103=>(some (1,m_103)))))
theorem f_setInit_ok (x1 x2:Int) (m:OMem):Sim (f_setInit x1 x2 m) (fun (r,w0) _=>some (some (vi r),42,w0)) (fun n=>R n 23 0 [qr 0,qi x1,qi x2] [] 42 m) :=
  Sim.shift 3 (G:=fun n=>(R n 24 0 [qr 0,qi x1] [] 42 m).bind fun y=>Rr n 23 5 [qr 0,qi x1,qi x2] [] y) (fun _=>rfl) (Sim.call (f_isFact_ok 42 x1 m) (fun _ _=>rfl) (runP_mono _ _ _ _ _ _) (fun _=>runP_mono _ _ _ _ _ _) (fun r_100=>Sim.shift 0 (G:=fun n=>R n 23 5 [qr 0,qi x1,qi x2] [vi r_100] 42 m) (fun _=>rfl) (Sim.shift 1 (G:=fun n=>if r_100=0 then R n 23 8 [qr 0,qi x1,qi x2] [] 42 m else R n 23 10 [qr 0,qi x1,qi x2] [] 42 m) (fun _=>rfl) (Sim.ite (fun _=>Sim.shift 2 (G:=(fun _=>some (some (vi 0),42,m))) (fun _=>rfl) (Sim.pur _ _)) (fun _=>Sim.shift 8 (G:=fun n=>R n 23 20 [qr 0,qi x1,qi x2] [vi x2,vi (shl32 1 x1),vi (m 0 27),vr 0,vr 0] 42 m) (fun _=>rfl) (Sim.shift 1 (G:=fun n=>(R n 25 0 [qr 0,qi (m 0 27),qi (shl32 1 x1),qi x2] [] 42 m).bind fun y=>Rr n 23 23 [qr 0,qi x1,qi x2] [vr 0] y) (fun _=>rfl) (Sim.call (f_withBit_ok 42 (m 0 27) (shl32 1 x1) x2 m) (fun _ _=>rfl) (runP_mono _ _ _ _ _ _) (fun _=>runP_mono _ _ _ _ _ _) (fun r_101=>Sim.shift 0 (G:=fun n=>R n 23 23 [qr 0,qi x1,qi x2] [vi r_101,vr 0] 42 m) (fun _=>rfl) (Sim.shift 3 (G:=fun n=>(R n 26 0 [qr 0] [] 42 (sto m 0 27 r_101)).bind fun y=>Rr n 23 30 [qr 0,qi x1,qi x2] [] y) (fun _=>rfl) (Sim.call (f_markStale_ok (sto m 0 27 r_101)) (fun _ _=>rfl) (runP_mono _ _ _ _ _ _) (fun _=>runP_mono _ _ _ _ _ _) (fun m_103=>Sim.shift 0 (G:=fun n=>R n 23 30 [qr 0,qi x1,qi x2] [] 42 m_103) (fun _=>rfl) (Sim.shift 2 (G:=(fun _=>some (some (vi 1),42,m_103))) (fun _=>rfl) (Sim.pur _ _)))))))))))))
def f_setFact_b110 (m:OMem):Option (Int×OMem):=(f_markStale m).bind fun m_108=>(some (1,m_108))
theorem f_setFact_b110_ok (m:OMem):Sim (f_setFact_b110 m) (fun (r,w0) _=>some (some (vi r),42,w0)) (fun n=>R n 39 110 [qr 0,qn,qn,qn,qn,qn] [] 42 m) :=
  Sim.shift 2 (G:=fun n=>(R n 26 0 [qr 0] [] 42 m).bind fun y=>Rr n 39 114 [qr 0,qn,qn,qn,qn,qn] [] y) (fun _=>rfl) (Sim.call (f_markStale_ok m) (fun _ _=>rfl) (runP_mono _ _ _ _ _ _) (fun _=>runP_mono _ _ _ _ _ _) (fun m_108=>Sim.shift 0 (G:=fun n=>R n 39 114 [qr 0,qn,qn,qn,qn,qn] [] 42 m_108) (fun _=>rfl) (Sim.shift 2 (G:=(fun _=>some (some (vi 1),42,m_108))) (fun _=>rfl) (Sim.pur _ _))))
def f_setFact (x1 x2 x3 x4:Int) (m:OMem):Option (Int×OMem):=(f_isAction x1 m).bind fun r_104=>(if r_104=0 then (some (0,m)) else ((f_isKind x2 m).bind fun r_105=>(if r_105=0 then (some (0,m)) else ((f_isFact x3 m).bind fun r_106=>(if r_106=0 then (some (0,m)) else (if x2=0 then (if 0≤x1∧x1<10 then ((f_withBit (m 2 x1) (shl32 1 x3) x4 m).bind fun r_107=>(if 0≤x1∧x1<10 then (f_setFact_b110 (sto m 2 x1 r_107)) else none)) else none) else (if x2=1 then (if 0≤x1∧x1<10 then ((f_withBit (m 3 x1) (shl32 1 x3) x4 m).bind fun r_109=>(if 0≤x1∧x1<10 then (f_setFact_b110 (sto m 3 x1 r_109)) else none)) else none) else (if 0≤x1∧x1<10 then ((f_withBit (m 4 x1) (shl32 1 x3) x4 m).bind fun r_110=>(if 0≤x1∧x1<10 then (f_setFact_b110 (sto m 4 x1 r_110)) else none)) else none))))))))
theorem f_setFact_ok (x1 x2 x3 x4:Int) (m:OMem):Sim (f_setFact x1 x2 x3 x4 m) (fun (r,w0) _=>some (some (vi r),42,w0)) (fun n=>R n 39 0 [qr 0,qi x1,qi x2,qi x3,qi x4,qn] [] 42 m) :=
  Sim.shift 3 (G:=fun n=>(R n 19 0 [qr 0,qi x1] [] 42 m).bind fun y=>Rr n 39 5 [qr 0,qi x1,qi x2,qi x3,qi x4,qn] [] y) (fun _=>rfl) (Sim.call (f_isAction_ok 42 x1 m) (fun _ _=>rfl) (runP_mono _ _ _ _ _ _) (fun _=>runP_mono _ _ _ _ _ _) (fun r_104=>Sim.shift 0 (G:=fun n=>R n 39 5 [qr 0,qi x1,qi x2,qi x3,qi x4,qn] [vi r_104] 42 m) (fun _=>rfl) (Sim.shift 1 (G:=fun n=>if r_104=0 then R n 39 8 [qr 0,qi x1,qi x2,qi x3,qi x4,qn] [] 42 m else R n 39 10 [qr 0,qi x1,qi x2,qi x3,qi x4,qn] [] 42 m) (fun _=>rfl) (Sim.ite (fun _=>Sim.shift 2 (G:=(fun _=>some (some (vi 0),42,m))) (fun _=>rfl) (Sim.pur _ _)) (fun _=>Sim.shift 3 (G:=fun n=>(R n 20 0 [qr 0,qi x2] [] 42 m).bind fun y=>Rr n 39 15 [qr 0,qi x1,qi x2,qi x3,qi x4,qn] [] y) (fun _=>rfl) (Sim.call (f_isKind_ok 42 x2 m) (fun _ _=>rfl) (runP_mono _ _ _ _ _ _) (fun _=>runP_mono _ _ _ _ _ _) (fun r_105=>Sim.shift 0 (G:=fun n=>R n 39 15 [qr 0,qi x1,qi x2,qi x3,qi x4,qn] [vi r_105] 42 m) (fun _=>rfl) (Sim.shift 1 (G:=fun n=>if r_105=0 then R n 39 18 [qr 0,qi x1,qi x2,qi x3,qi x4,qn] [] 42 m else R n 39 20 [qr 0,qi x1,qi x2,qi x3,qi x4,qn] [] 42 m) (fun _=>rfl) (Sim.ite (fun _=>Sim.shift 2 (G:=(fun _=>some (some (vi 0),42,m))) (fun _=>rfl) (Sim.pur _ _)) (fun _=>Sim.shift 3 (G:=fun n=>(R n 24 0 [qr 0,qi x3] [] 42 m).bind fun y=>Rr n 39 25 [qr 0,qi x1,qi x2,qi x3,qi x4,qn] [] y) (fun _=>rfl) (Sim.call (f_isFact_ok 42 x3 m) (fun _ _=>rfl) (runP_mono _ _ _ _ _ _) (fun _=>runP_mono _ _ _ _ _ _) (fun r_106=>Sim.shift 0 (G:=fun n=>R n 39 25 [qr 0,qi x1,qi x2,qi x3,qi x4,qn] [vi r_106] 42 m) (fun _=>rfl) (Sim.shift 1 (G:=fun n=>if r_106=0 then R n 39 28 [qr 0,qi x1,qi x2,qi x3,qi x4,qn] [] 42 m else R n 39 30 [qr 0,qi x1,qi x2,qi x3,qi x4,qn] [] 42 m) (fun _=>rfl) (Sim.ite (fun _=>Sim.shift 2 (G:=(fun _=>some (some (vi 0),42,m))) (fun _=>rfl) (Sim.pur _ _)) (fun _=>Sim.shift 5 (G:=fun n=>R n 39 36 [qr 0,qi x1,qi x2,qi x3,qi x4,qi (shl32 1 x3)] [vi x2] 42 m) (fun _=>rfl) (Sim.shift 1 (G:=fun n=>if x2=0 then R n 39 39 [qr 0,qi x1,qi x2,qi x3,qi x4,qi (shl32 1 x3)] [] 42 m else R n 39 62 [qr 0,qi x1,qi x2,qi x3,qi x4,qi (shl32 1 x3)] [] 42 m) (fun _=>rfl) (Sim.ite (fun _=>Sim.shift 8 (G:=fun n=>if 0≤x1∧x1<10 then R n 39 51 [qr 0,qi x1,qn,qn,qi x4,qi (shl32 1 x3)] [vi (m 2 x1),vr 0,vi x1,vr 2] 42 m else none) (fun _=>rfl) (Sim.grd fun _=>Sim.shift 3 (G:=fun n=>(R n 25 0 [qr 0,qi (m 2 x1),qi (shl32 1 x3),qi x4] [] 42 m).bind fun y=>Rr n 39 58 [qr 0,qi x1,qn,qn,qi x4,qi (shl32 1 x3)] [vi x1,vr 2] y) (fun _=>rfl) (Sim.call (f_withBit_ok 42 (m 2 x1) (shl32 1 x3) x4 m) (fun _ _=>rfl) (runP_mono _ _ _ _ _ _) (fun _=>runP_mono _ _ _ _ _ _) (fun r_107=>Sim.shift 0 (G:=fun n=>R n 39 58 [qr 0,qi x1,qn,qn,qi x4,qi (shl32 1 x3)] [vi r_107,vi x1,vr 2] 42 m) (fun _=>rfl) (Sim.shift 1 (G:=fun n=>if 0≤x1∧x1<10 then R n 39 59 [qr 0,qi x1,qn,qn,qi x4,qi (shl32 1 x3)] [] 42 (sto m 2 x1 r_107) else none) (fun _=>rfl) (Sim.grd fun _=>Sim.shift 1 (G:=fun n=>R n 39 110 [qr 0,qi x1,qn,qn,qi x4,qi (shl32 1 x3)] [] 42 (sto m 2 x1 r_107)) (fun _=>rfl) (Sim.jmp (f_setFact_b110_ok (sto m 2 x1 r_107)) rfl (fun _=>rfl)))))))) (fun _=>Sim.shift 3 (G:=fun n=>if x2=1 then R n 39 67 [qr 0,qi x1,qi x2,qn,qi x4,qi (shl32 1 x3)] [] 42 m else R n 39 90 [qr 0,qi x1,qi x2,qn,qi x4,qi (shl32 1 x3)] [] 42 m) (fun _=>rfl) (Sim.ite (fun _=>Sim.shift 8 (G:=fun n=>if 0≤x1∧x1<10 then R n 39 79 [qr 0,qi x1,qn,qn,qi x4,qi (shl32 1 x3)] [vi (m 3 x1),vr 0,vi x1,vr 3] 42 m else none) (fun _=>rfl) (Sim.grd fun _=>Sim.shift 3 (G:=fun n=>(R n 25 0 [qr 0,qi (m 3 x1),qi (shl32 1 x3),qi x4] [] 42 m).bind fun y=>Rr n 39 86 [qr 0,qi x1,qn,qn,qi x4,qi (shl32 1 x3)] [vi x1,vr 3] y) (fun _=>rfl) (Sim.call (f_withBit_ok 42 (m 3 x1) (shl32 1 x3) x4 m) (fun _ _=>rfl) (runP_mono _ _ _ _ _ _) (fun _=>runP_mono _ _ _ _ _ _) (fun r_109=>Sim.shift 0 (G:=fun n=>R n 39 86 [qr 0,qi x1,qn,qn,qi x4,qi (shl32 1 x3)] [vi r_109,vi x1,vr 3] 42 m) (fun _=>rfl) (Sim.shift 1 (G:=fun n=>if 0≤x1∧x1<10 then R n 39 87 [qr 0,qi x1,qn,qn,qi x4,qi (shl32 1 x3)] [] 42 (sto m 3 x1 r_109) else none) (fun _=>rfl) (Sim.grd fun _=>Sim.shift 1 (G:=fun n=>R n 39 110 [qr 0,qi x1,qn,qn,qi x4,qi (shl32 1 x3)] [] 42 (sto m 3 x1 r_109)) (fun _=>rfl) (Sim.jmp (f_setFact_b110_ok (sto m 3 x1 r_109)) rfl (fun _=>rfl)))))))) (fun _=>Sim.shift 8 (G:=fun n=>if 0≤x1∧x1<10 then R n 39 102 [qr 0,qi x1,qn,qn,qi x4,qi (shl32 1 x3)] [vi (m 4 x1),vr 0,vi x1,vr 4] 42 m else none) (fun _=>rfl) (Sim.grd fun _=>Sim.shift 3 (G:=fun n=>(R n 25 0 [qr 0,qi (m 4 x1),qi (shl32 1 x3),qi x4] [] 42 m).bind fun y=>Rr n 39 109 [qr 0,qi x1,qn,qn,qi x4,qi (shl32 1 x3)] [vi x1,vr 4] y) (fun _=>rfl) (Sim.call (f_withBit_ok 42 (m 4 x1) (shl32 1 x3) x4 m) (fun _ _=>rfl) (runP_mono _ _ _ _ _ _) (fun _=>runP_mono _ _ _ _ _ _) (fun r_110=>Sim.shift 0 (G:=fun n=>R n 39 109 [qr 0,qi x1,qn,qn,qi x4,qi (shl32 1 x3)] [vi r_110,vi x1,vr 4] 42 m) (fun _=>rfl) (Sim.shift 1 (G:=fun n=>if 0≤x1∧x1<10 then R n 39 110 [qr 0,qi x1,qn,qn,qi x4,qi (shl32 1 x3)] [] 42 (sto m 4 x1 r_110) else none) (fun _=>rfl) (Sim.grd fun _=>Sim.jmp (f_setFact_b110_ok (sto m 4 x1 r_110)) rfl (fun _=>rfl))))))))))))))))))))))))))
def f_setGoal (x1 x2:Int) (m:OMem):Option (Int×OMem):=(f_isFact x1 m).bind fun r_111=>(if r_111=0 then (some (0,m)) else ((f_withBit (m 0 28) (shl32 1 x1) x2 m).bind fun r_112=>((f_markStale (sto m 0 28 r_112)).bind fun m_113=>(some (1,m_113)))))
theorem f_setGoal_ok (x1 x2:Int) (m:OMem):Sim (f_setGoal x1 x2 m) (fun (r,w0) _=>some (some (vi r),42,w0)) (fun n=>R n 40 0 [qr 0,qi x1,qi x2] [] 42 m) :=
  Sim.shift 3 (G:=fun n=>(R n 24 0 [qr 0,qi x1] [] 42 m).bind fun y=>Rr n 40 5 [qr 0,qi x1,qi x2] [] y) (fun _=>rfl) (Sim.call (f_isFact_ok 42 x1 m) (fun _ _=>rfl) (runP_mono _ _ _ _ _ _) (fun _=>runP_mono _ _ _ _ _ _) (fun r_111=>Sim.shift 0 (G:=fun n=>R n 40 5 [qr 0,qi x1,qi x2] [vi r_111] 42 m) (fun _=>rfl) (Sim.shift 1 (G:=fun n=>if r_111=0 then R n 40 8 [qr 0,qi x1,qi x2] [] 42 m else R n 40 10 [qr 0,qi x1,qi x2] [] 42 m) (fun _=>rfl) (Sim.ite (fun _=>Sim.shift 2 (G:=(fun _=>some (some (vi 0),42,m))) (fun _=>rfl) (Sim.pur _ _)) (fun _=>Sim.shift 8 (G:=fun n=>R n 40 20 [qr 0,qi x1,qi x2] [vi x2,vi (shl32 1 x1),vi (m 0 28),vr 0,vr 0] 42 m) (fun _=>rfl) (Sim.shift 1 (G:=fun n=>(R n 25 0 [qr 0,qi (m 0 28),qi (shl32 1 x1),qi x2] [] 42 m).bind fun y=>Rr n 40 23 [qr 0,qi x1,qi x2] [vr 0] y) (fun _=>rfl) (Sim.call (f_withBit_ok 42 (m 0 28) (shl32 1 x1) x2 m) (fun _ _=>rfl) (runP_mono _ _ _ _ _ _) (fun _=>runP_mono _ _ _ _ _ _) (fun r_112=>Sim.shift 0 (G:=fun n=>R n 40 23 [qr 0,qi x1,qi x2] [vi r_112,vr 0] 42 m) (fun _=>rfl) (Sim.shift 3 (G:=fun n=>(R n 26 0 [qr 0] [] 42 (sto m 0 28 r_112)).bind fun y=>Rr n 40 30 [qr 0,qi x1,qi x2] [] y) (fun _=>rfl) (Sim.call (f_markStale_ok (sto m 0 28 r_112)) (fun _ _=>rfl) (runP_mono _ _ _ _ _ _) (fun _=>runP_mono _ _ _ _ _ _) (fun m_113=>Sim.shift 0 (G:=fun n=>R n 40 30 [qr 0,qi x1,qi x2] [] 42 m_113) (fun _=>rfl) (Sim.shift 2 (G:=(fun _=>some (some (vi 1),42,m_113))) (fun _=>rfl) (Sim.pur _ _)))))))))))))
def f_apply (x1:Int) (m:OMem):Option (Int×OMem):=(f_isAction x1 m).bind fun r_115=>(if r_115=0 then (some (0,m)) else (if 0≤x1∧x1<10 then (if and32 (m 2 x1) (xor32 (m 0 29) (-1))=0 then (if 0≤x1∧x1<10 then (if 0≤x1∧x1<10 then (some (1,sto m 0 29 (or32 (and32 (m 0 29) (xor32 (m 4 x1) (-1))) (m 3 x1)))) else none) else none) else (some (0,m))) else none))
theorem f_apply_ok (x1:Int) (m:OMem):Sim (f_apply x1 m) (fun (r,w0) _=>some (some (vi r),42,w0)) (fun n=>R n 43 0 [qr 0,qi x1] [] 42 m) :=
  Sim.shift 3 (G:=fun n=>(R n 19 0 [qr 0,qi x1] [] 42 m).bind fun y=>Rr n 43 5 [qr 0,qi x1] [] y) (fun _=>rfl) (Sim.call (f_isAction_ok 42 x1 m) (fun _ _=>rfl) (runP_mono _ _ _ _ _ _) (fun _=>runP_mono _ _ _ _ _ _) (fun r_115=>Sim.shift 0 (G:=fun n=>R n 43 5 [qr 0,qi x1] [vi r_115] 42 m) (fun _=>rfl) (Sim.shift 1 (G:=fun n=>if r_115=0 then R n 43 8 [qr 0,qi x1] [] 42 m else R n 43 10 [qr 0,qi x1] [] 42 m) (fun _=>rfl) (Sim.ite (fun _=>Sim.shift 2 (G:=(fun _=>some (some (vi 0),42,m))) (fun _=>rfl) (Sim.pur _ _)) (fun _=>Sim.shift 4 (G:=fun n=>if 0≤x1∧x1<10 then R n 43 16 [qr 0,qi x1] [vi (m 2 x1)] 42 m else none) (fun _=>rfl) (Sim.grd fun _=>Sim.shift 4 (G:=fun n=>R n 43 22 [qr 0,qi x1] [vi (xor32 (m 0 29) (-1)),vi (m 2 x1)] 42 m) (fun _=>rfl) (Sim.shift 2 (G:=fun n=>if and32 (m 2 x1) (xor32 (m 0 29) (-1))=0 then R n 43 28 [qr 0,qi x1] [] 42 m else R n 43 26 [qr 0,qi x1] [] 42 m) (fun _=>rfl) (Sim.ite (fun _=>Sim.shift 7 (G:=fun n=>if 0≤x1∧x1<10 then R n 43 39 [qr 0,qi x1] [vi (m 4 x1),vi (m 0 29),vr 0] 42 m else none) (fun _=>rfl) (Sim.grd fun _=>Sim.shift 2 (G:=fun n=>R n 43 41 [qr 0,qi x1] [vi (xor32 (m 4 x1) (-1)),vi (m 0 29),vr 0] 42 m) (fun _=>rfl) (Sim.shift 5 (G:=fun n=>if 0≤x1∧x1<10 then R n 43 48 [qr 0,qi x1] [vi (m 3 x1),vi (and32 (m 0 29) (xor32 (m 4 x1) (-1))),vr 0] 42 m else none) (fun _=>rfl) (Sim.grd fun _=>Sim.shift 4 (G:=(fun _=>some (some (vi 1),42,sto m 0 29 (or32 (and32 (m 0 29) (xor32 (m 4 x1) (-1))) (m 3 x1))))) (fun _=>rfl) (Sim.pur _ _))))) (fun _=>Sim.shift 2 (G:=(fun _=>some (some (vi 0),42,m))) (fun _=>rfl) (Sim.pur _ _))))))))))
def f_replayLayer_b11 (m:OMem):Option (Int×OMem):=some (0,m)
theorem f_replayLayer_b11_ok (m:OMem):Sim (f_replayLayer_b11 m) (fun (r,w0) _=>some (some (vi r),42,w0)) (fun n=>R n 50 11 [qn,qn,qn,qn,qn] [] 42 m) :=
  Sim.shift 2 (G:=(fun _=>some (some (vi 0),42,m))) (fun _=>rfl) (Sim.pur _ _)
def f_replayLayer_l25_H (x2:Int):Int×Int×OMem→Nat→RT:=fun (x3,x4,m) n=>R n 50 25 [qr 0,qn,qi x2,qi x3,qi x4] [] 42 m
def f_replayLayer_l25_X (x2:Int):(Int×OMem)→Nat→RT:=fun e n=>match e with | (y3,w)=>R n 50 61 [qn,qn,qn,qi y3,qn] [] 42 w
def f_replayLayer_b55 (x2 x3 x4:Int) (m:OMem):Option ((Int×Int×OMem)⊕((Int×OMem))):=some (.inl (x3,w32 (x4+1),m))
theorem f_replayLayer_b55_ok (x2 x3 x4:Int) (m:OMem):Sim (f_replayLayer_b55 x2 x3 x4 m) (Sum.elim (f_replayLayer_l25_H x2 ) (f_replayLayer_l25_X x2 )) (fun n=>R n 50 55 [qr 0,qn,qi x2,qi x3,qi x4] [] 42 m) :=
  Sim.shift 2 (G:=fun n=>R n 50 25 [qr 0,qn,qi x2,qi x3,qi (w32 (x4+1))] [] 42 m) (fun _=>rfl) (Sim.pur _ _)
def f_replayLayer_l25 (x2:Int):Int×Int×OMem→Option ((Int×Int×OMem)⊕((Int×OMem))):=fun (x3,x4,m)=>if x4<m 0 25 then (if and32 x2 (shl32 1 x4)=0 then (f_replayLayer_b55 x2 x3 x4 m) else ((f_apply x4 m).bind fun (r_116,m_117)=>(if r_116=0 then (f_replayLayer_b55 x2 x3 x4 m_117) else (f_replayLayer_b55 x2 (w32 (x3+1)) x4 m_117)))) else (some (.inr (x3,m)))
theorem f_replayLayer_l25_ok (x2:Int) (x3 x4:Int) (m:OMem):Sim (f_replayLayer_l25 x2 (x3,x4,m)) (Sum.elim (f_replayLayer_l25_H x2 ) (f_replayLayer_l25_X x2 )) (f_replayLayer_l25_H x2 (x3,x4,m)) :=
  Sim.shift 4 (G:=fun n=>if x4<m 0 25 then R n 50 34 [qr 0,qn,qi x2,qi x3,qi x4] [] 42 m else R n 50 61 [qr 0,qn,qi x2,qi x3,qi x4] [] 42 m) (fun _=>rfl) (Sim.ite (fun _=>Sim.shift 4 (G:=fun n=>R n 50 39 [qr 0,qn,qi x2,qi x3,qi x4] [vi (shl32 1 x4),vi x2] 42 m) (fun _=>rfl) (Sim.shift 2 (G:=fun n=>if and32 x2 (shl32 1 x4)=0 then R n 50 55 [qr 0,qn,qi x2,qi x3,qi x4] [] 42 m else R n 50 43 [qr 0,qn,qi x2,qi x3,qi x4] [] 42 m) (fun _=>rfl) (Sim.ite (fun _=>f_replayLayer_b55_ok x2 x3 x4 m) (fun _=>Sim.shift 3 (G:=fun n=>(R n 43 0 [qr 0,qi x4] [] 42 m).bind fun y=>Rr n 50 49 [qr 0,qn,qi x2,qi x3,qi x4] [] y) (fun _=>rfl) (Sim.call (f_apply_ok x4 m) (fun _ _=>rfl) (runP_mono _ _ _ _ _ _) (fun _=>runP_mono _ _ _ _ _ _) (fun ⟨r_116,m_117⟩=>Sim.shift 0 (G:=fun n=>R n 50 49 [qr 0,qn,qi x2,qi x3,qi x4] [vi r_116] 42 m_117) (fun _=>rfl) (Sim.shift 1 (G:=fun n=>if r_116=0 then R n 50 55 [qr 0,qn,qi x2,qi x3,qi x4] [] 42 m_117 else R n 50 52 [qr 0,qn,qi x2,qi x3,qi x4] [] 42 m_117) (fun _=>rfl) (Sim.ite (fun _=>f_replayLayer_b55_ok x2 x3 x4 m_117) (fun _=>Sim.shift 1 (G:=fun n=>R n 50 55 [qr 0,qn,qi x2,qi (w32 (x3+1)),qi x4] [] 42 m_117) (fun _=>rfl) (f_replayLayer_b55_ok x2 (w32 (x3+1)) x4 m_117)))))))))) (fun _=>Sim.leaf rfl (fun _=>rfl)))
def f_replayLayer (x1:Int) (m:OMem):Option (Int×OMem):=if x1<1 then (f_replayLayer_b11 m) else (if 8<x1 then (f_replayLayer_b11 m) else (if 0≤x1∧x1<9 then ((lp (f_replayLayer_l25 (m 1 x1)) NN (0,0,m)).bind fun (x3_118,m_119)=>(some (x3_118,m_119))) else none))
theorem f_replayLayer_ok (x1:Int) (m:OMem):Sim (f_replayLayer x1 m) (fun (r,w0) _=>some (some (vi r),42,w0)) (fun n=>R n 50 0 [qr 0,qi x1,qn,qn,qn] [] 42 m) :=
  Sim.shift 3 (G:=fun n=>if x1<1 then R n 50 11 [qr 0,qi x1,qn,qn,qn] [] 42 m else R n 50 5 [qr 0,qi x1,qn,qn,qn] [] 42 m) (fun _=>rfl) (Sim.ite (fun _=>Sim.jmp (f_replayLayer_b11_ok m) rfl (fun _=>rfl)) (fun _=>Sim.shift 3 (G:=fun n=>if 8<x1 then R n 50 11 [qr 0,qi x1,qn,qn,qn] [] 42 m else R n 50 13 [qr 0,qi x1,qn,qn,qn] [] 42 m) (fun _=>rfl) (Sim.ite (fun _=>Sim.jmp (f_replayLayer_b11_ok m) rfl (fun _=>rfl)) (fun _=>Sim.shift 4 (G:=fun n=>if 0≤x1∧x1<9 then R n 50 19 [qr 0,qi x1,qn,qn,qn] [vi (m 1 x1)] 42 m else none) (fun _=>rfl) (Sim.grd fun _=>Sim.shift 5 (G:=fun n=>R n 50 25 [qr 0,qi x1,qi (m 1 x1),qi 0,qi 0] [] 42 m) (fun _=>rfl) (Sim.jmp (Sim.bind (Sim.lp (σ:=Int×Int×OMem) (fun ⟨x3L,x4L,mL⟩=>f_replayLayer_l25_ok (m 1 x1) x3L x4L mL) NN (0,0,m)) (fun ⟨x3_118,m_119⟩=>Sim.shift 2 (G:=(fun _=>some (some (vi x3_118),42,m_119))) (fun _=>rfl) (Sim.pur _ _))) rfl (fun _=>rfl)))))))
def f_runPlan_l33_H (x2:Int):Int×Int×OMem→Nat→RT:=fun (x3,x4,m) n=>R n 42 33 [qr 0,qn,qi x2,qi x3,qi x4] [] 42 m
def f_runPlan_l33_X (x2:Int):(Int×OMem)→Nat→RT:=fun e n=>match e with | (y3,w)=>R n 42 54 [qn,qn,qn,qi y3,qn] [] 42 w
def f_runPlan_l33 (x2:Int):Int×Int×OMem→Option ((Int×Int×OMem)⊕((Int×OMem))):=fun (x3,x4,m)=>if x2<x4 then (some (.inr (x3,m))) else ((f_replayLayer x4 m).bind fun (r_120,m_121)=>(some (.inl (w32 (x3+r_120),w32 (x4+1),m_121))))
theorem f_runPlan_l33_ok (x2:Int) (x3 x4:Int) (m:OMem):Sim (f_runPlan_l33 x2 (x3,x4,m)) (Sum.elim (f_runPlan_l33_H x2 ) (f_runPlan_l33_X x2 )) (f_runPlan_l33_H x2 (x3,x4,m)) :=
  Sim.shift 3 (G:=fun n=>if x2<x4 then R n 42 54 [qr 0,qn,qi x2,qi x3,qi x4] [] 42 m else R n 42 39 [qr 0,qn,qi x2,qi x3,qi x4] [] 42 m) (fun _=>rfl) (Sim.ite (fun _=>Sim.leaf rfl (fun _=>rfl)) (fun _=>Sim.shift 4 (G:=fun n=>(R n 50 0 [qr 0,qi x4,qn,qn,qn] [] 42 m).bind fun y=>Rr n 42 46 [qr 0,qn,qi x2,qi x3,qi x4] [vi x3] y) (fun _=>rfl) (Sim.call (f_replayLayer_ok x4 m) (fun _ _=>rfl) (runP_mono _ _ _ _ _ _) (fun _=>runP_mono _ _ _ _ _ _) (fun ⟨r_120,m_121⟩=>Sim.shift 0 (G:=fun n=>R n 42 46 [qr 0,qn,qi x2,qi x3,qi x4] [vi r_120,vi x3] 42 m_121) (fun _=>rfl) (Sim.shift 3 (G:=fun n=>R n 42 51 [qr 0,qn,qi x2,qi (w32 (x3+r_120)),qi (w32 (x4+1))] [] 42 m_121) (fun _=>rfl) (Sim.shift 1 (G:=fun n=>R n 42 33 [qr 0,qn,qi x2,qi (w32 (x3+r_120)),qi (w32 (x4+1))] [] 42 m_121) (fun _=>rfl) (Sim.pur _ _)))))))
def f_runPlan (x1:Int) (m:OMem):Option (Int×OMem):=if m 0 30<0 then (some ((-1),m)) else ((f_clamp x1 0 (m 0 30) m).bind fun r_114=>((lp (f_runPlan_l33 r_114) NN (0,1,sto m 0 29 (m 0 27))).bind fun (x3_122,m_123)=>(some (x3_122,m_123))))
theorem f_runPlan_ok (x1:Int) (m:OMem):Sim (f_runPlan x1 m) (fun (r,w0) _=>some (some (vi r),42,w0)) (fun n=>R n 42 0 [qr 0,qi x1,qn,qn,qn] [] 42 m) :=
  Sim.shift 3 (G:=fun n=>if m 0 30<0 then R n 42 7 [qr 0,qi x1,qn,qn,qn] [] 42 m else R n 42 9 [qr 0,qi x1,qn,qn,qn] [] 42 m) (fun _=>rfl) (Sim.ite (fun _=>Sim.shift 2 (G:=(fun _=>some (some (vi (-1)),42,m))) (fun _=>rfl) (Sim.pur _ _)) (fun _=>Sim.shift 6 (G:=fun n=>(R n 1 0 [qr 0,qi x1,qi 0,qi (m 0 30)] [] 42 m).bind fun y=>Rr n 42 19 [qr 0,qi x1,qn,qn,qn] [] y) (fun _=>rfl) (Sim.call (f_clamp_ok 42 x1 0 (m 0 30) m) (fun _ _=>rfl) (runP_mono _ _ _ _ _ _) (fun _=>runP_mono _ _ _ _ _ _) (fun r_114=>Sim.shift 0 (G:=fun n=>R n 42 19 [qr 0,qi x1,qn,qn,qn] [vi r_114] 42 m) (fun _=>rfl) (Sim.shift 7 (G:=fun n=>R n 42 30 [qr 0,qi x1,qi r_114,qi 0,qn] [] 42 (sto m 0 29 (m 0 27))) (fun _=>rfl) (Sim.shift 2 (G:=fun n=>R n 42 33 [qr 0,qi x1,qi r_114,qi 0,qi 1] [] 42 (sto m 0 29 (m 0 27))) (fun _=>rfl) (Sim.jmp (Sim.bind (Sim.lp (σ:=Int×Int×OMem) (fun ⟨x3L,x4L,mL⟩=>f_runPlan_l33_ok r_114 x3L x4L mL) NN (0,1,sto m 0 29 (m 0 27))) (fun ⟨x3_122,m_123⟩=>Sim.shift 2 (G:=(fun _=>some (some (vi x3_122),42,m_123))) (fun _=>rfl) (Sim.pur _ _))) rfl (fun _=>rfl))))))))
def f_resetRun (m:OMem):Option (OMem):=some (sto m 0 29 (m 0 27))
theorem f_resetRun_ok (t:Nat) (m:OMem):Sim (f_resetRun m) (fun w0 _=>some (none,t,w0)) (fun n=>R n 44 0 [qr 0] [] t m) :=
  Sim.shift 5 (G:=(fun _=>some (none,t,sto m 0 29 (m 0 27)))) (fun _=>rfl) (Sim.pur _ _)
def lcd_0:Nat→Option (Instr×Nat):=fun pc=>cond (Nat.blt pc 724) (cb pc 349 (cb pc 166 (cb pc 71 (cb pc 35 (cb pc 17 (cb pc 10 (cb pc 5 (cb pc 3 (ce pc 0 (.new 10) 3) (cb pc 4 (ce pc 3 .dup 1) (ce pc 4 (.iconst 4) 1))) (cb pc 6 (ce pc 5 (.iconst 4) 1) (cb pc 7 (ce pc 6 (.iconst 3) 1) (ce pc 7 (.invokespecial 33) 3)))) (cb pc 13 (cb pc 11 (ce pc 10 (.astore_n 1) 1) (cb pc 12 (ce pc 11 (.lconst 0) 1) (ce pc 12 (.lstore_n 2) 1))) (cb pc 14 (ce pc 13 (.iconst 0) 1) (cb pc 16 (ce pc 14 (.istore 4) 2) (ce pc 16 (.iconst 0) 1))))) (cb pc 27 (cb pc 22 (cb pc 19 (ce pc 17 (.istore 5) 2) (cb pc 20 (ce pc 19 (.iconst 0) 1) (ce pc 20 (.istore 6) 2))) (cb pc 24 (ce pc 22 (.bipush (-2)) 2) (cb pc 26 (ce pc 24 (.istore 7) 2) (ce pc 26 (.iconst 0) 1)))) (cb pc 32 (cb pc 29 (ce pc 27 (.istore 8) 2) (cb pc 31 (ce pc 29 (.iload 8) 2) (ce pc 31 (.iconst 3) 1))) (cb pc 33 (ce pc 32 .iadd 1) (cb pc 34 (ce pc 33 (.aload_n 0) 1) (ce pc 34 .arraylength 1)))))) (cb pc 53 (cb pc 45 (cb pc 41 (cb pc 38 (ce pc 35 (.if_icmp .ge 687) 3) (cb pc 39 (ce pc 38 (.aload_n 0) 1) (ce pc 39 (.iload 8) 2))) (cb pc 42 (ce pc 41 .iaload 1) (cb pc 44 (ce pc 42 (.bipush 7) 2) (ce pc 44 .iand 1)))) (cb pc 50 (cb pc 47 (ce pc 45 (.istore 9) 2) (cb pc 48 (ce pc 47 (.aload_n 0) 1) (ce pc 48 (.iload 8) 2))) (cb pc 51 (ce pc 50 (.iconst 1) 1) (cb pc 52 (ce pc 51 .iadd 1) (ce pc 52 .iaload 1))))) (cb pc 61 (cb pc 58 (cb pc 55 (ce pc 53 (.istore 10) 2) (cb pc 56 (ce pc 55 (.aload_n 0) 1) (ce pc 56 (.iload 8) 2))) (cb pc 59 (ce pc 58 (.iconst 2) 1) (cb pc 60 (ce pc 59 .iadd 1) (ce pc 60 .iaload 1)))) (cb pc 66 (cb pc 63 (ce pc 61 (.istore 11) 2) (cb pc 64 (ce pc 63 (.aload_n 0) 1) (ce pc 64 (.iload 8) 2))) (cb pc 68 (cb pc 67 (ce pc 66 (.iconst 3) 1) (ce pc 67 .iadd 1)) (cb pc 69 (ce pc 68 .iaload 1) (ce pc 69 (.istore 12) 2))))))) (cb pc 117 (cb pc 95 (cb pc 81 (cb pc 77 (cb pc 73 (ce pc 71 (.iload 10) 2) (cb pc 76 (ce pc 73 (.sipush 255) 3) (ce pc 76 .iand 1))) (cb pc 78 (ce pc 77 (.iconst 5) 1) (cb pc 79 (ce pc 78 .irem 1) (ce pc 79 (.istore 13) 2)))) (cb pc 88 (cb pc 83 (ce pc 81 (.iload 9) 2) (cb pc 86 (ce pc 83 (.ifCond .eq 10) 3) (ce pc 86 (.iload 9) 2))) (cb pc 90 (ce pc 88 (.bipush 7) 2) (cb pc 93 (ce pc 90 (.if_icmp .ne 140) 3) (ce pc 93 (.iload 11) 2))))) (cb pc 105 (cb pc 100 (cb pc 98 (ce pc 95 (.sipush 255) 3) (cb pc 99 (ce pc 98 .iand 1) (ce pc 99 (.iconst 4) 1))) (cb pc 101 (ce pc 100 .irem 1) (cb pc 103 (ce pc 101 (.istore 14) 2) (ce pc 103 (.iload 12) 2)))) (cb pc 110 (cb pc 108 (ce pc 105 (.sipush 255) 3) (cb pc 109 (ce pc 108 .iand 1) (ce pc 109 (.iconst 5) 1))) (cb pc 113 (cb pc 111 (ce pc 110 .irem 1) (ce pc 111 (.istore 15) 2)) (cb pc 115 (ce pc 113 (.iload 9) 2) (ce pc 115 (.bipush 7) 2)))))) (cb pc 142 (cb pc 130 (cb pc 125 (cb pc 120 (ce pc 117 (.if_icmp .eq 12) 3) (cb pc 122 (ce pc 120 (.iload 12) 2) (ce pc 122 (.sipush 256) 3))) (cb pc 126 (ce pc 125 .iand 1) (cb pc 129 (ce pc 126 (.ifCond .eq 7) 3) (ce pc 129 (.iconst 1) 1)))) (cb pc 136 (cb pc 133 (ce pc 130 (.goto 4) 3) (cb pc 134 (ce pc 133 (.iconst 0) 1) (ce pc 134 (.istore 16) 2))) (cb pc 138 (ce pc 136 (.iload 13) 2) (cb pc 139 (ce pc 138 (.iconst 4) 1) (ce pc 139 (.if_icmp .ge 19) 3))))) (cb pc 154 (cb pc 148 (cb pc 144 (ce pc 142 (.iload 14) 2) (cb pc 145 (ce pc 144 (.iconst 3) 1) (ce pc 145 (.if_icmp .ge 13) 3))) (cb pc 150 (ce pc 148 (.iload 15) 2) (cb pc 151 (ce pc 150 (.iconst 4) 1) (ce pc 151 (.if_icmp .ge 7) 3)))) (cb pc 159 (cb pc 155 (ce pc 154 (.iconst 1) 1) (cb pc 158 (ce pc 155 (.goto 4) 3) (ce pc 158 (.iconst 0) 1))) (cb pc 162 (cb pc 161 (ce pc 159 (.istore 17) 2) (ce pc 161 (.aload_n 1) 1)) (cb pc 164 (ce pc 162 (.iload 13) 2) (ce pc 164 (.iload 14) 2)))))))) (cb pc 255 (cb pc 210 (cb pc 190 (cb pc 179 (cb pc 173 (cb pc 168 (ce pc 166 (.iload 15) 2) (cb pc 170 (ce pc 168 (.iload 16) 2) (ce pc 170 (.invokevirtual 36) 3))) (cb pc 175 (ce pc 173 (.iload 17) 2) (cb pc 178 (ce pc 175 (.if_icmp .eq 5) 3) (ce pc 178 (.iconst 0) 1)))) (cb pc 185 (cb pc 180 (ce pc 179 .ireturn 1) (cb pc 182 (ce pc 180 (.iload 17) 2) (ce pc 182 (.ifCond .eq 45) 3))) (cb pc 186 (ce pc 185 (.lconst 1) 1) (cb pc 188 (ce pc 186 (.iload 13) 2) (ce pc 188 (.bipush 12) 2))))) (cb pc 198 (cb pc 194 (cb pc 191 (ce pc 190 .imul 1) (cb pc 193 (ce pc 191 (.iload 14) 2) (ce pc 193 (.iconst 4) 1))) (cb pc 195 (ce pc 194 .imul 1) (cb pc 196 (ce pc 195 .iadd 1) (ce pc 196 (.iload 15) 2)))) (cb pc 202 (cb pc 199 (ce pc 198 .iadd 1) (cb pc 200 (ce pc 199 .lshl 1) (ce pc 200 (.lstore 18) 2))) (cb pc 207 (cb pc 204 (ce pc 202 (.iload 16) 2) (ce pc 204 (.ifCond .eq 10) 3)) (cb pc 208 (ce pc 207 (.lload_n 2) 1) (ce pc 208 (.lload 18) 2)))))) (cb pc 232 (cb pc 221 (cb pc 215 (cb pc 211 (ce pc 210 .lor 1) (cb pc 214 (ce pc 211 (.goto 11) 3) (ce pc 214 (.lload_n 2) 1))) (cb pc 217 (ce pc 215 (.lload 18) 2) (cb pc 220 (ce pc 217 (.ldc2_w 40) 3) (ce pc 220 .lxor 1)))) (cb pc 225 (cb pc 222 (ce pc 221 .land 1) (cb pc 223 (ce pc 222 (.lstore_n 2) 1) (ce pc 223 (.bipush (-2)) 2))) (cb pc 227 (ce pc 225 (.istore 7) 2) (cb pc 230 (ce pc 227 (.goto 471) 3) (ce pc 230 (.iload 9) 2))))) (cb pc 244 (cb pc 238 (cb pc 233 (ce pc 232 (.iconst 1) 1) (cb pc 236 (ce pc 233 (.if_icmp .eq 9) 3) (ce pc 236 (.iload 9) 2))) (cb pc 239 (ce pc 238 (.iconst 2) 1) (cb pc 242 (ce pc 239 (.if_icmp .ne 144) 3) (ce pc 242 (.iload 11) 2)))) (cb pc 249 (cb pc 247 (ce pc 244 (.sipush 255) 3) (cb pc 248 (ce pc 247 .iand 1) (ce pc 248 (.iconst 5) 1))) (cb pc 252 (cb pc 250 (ce pc 249 .irem 1) (ce pc 250 (.istore 14) 2)) (cb pc 254 (ce pc 252 (.iload 12) 2) (ce pc 254 (.iconst 3) 1))))))) (cb pc 305 (cb pc 277 (cb pc 266 (cb pc 260 (cb pc 256 (ce pc 255 .iand 1) (cb pc 259 (ce pc 256 (.ifCond .eq 7) 3) (ce pc 259 (.iconst 1) 1))) (cb pc 263 (ce pc 260 (.goto 4) 3) (cb pc 264 (ce pc 263 (.iconst 0) 1) (ce pc 264 (.istore 15) 2)))) (cb pc 272 (cb pc 268 (ce pc 266 (.iload 9) 2) (cb pc 269 (ce pc 268 (.iconst 1) 1) (ce pc 269 (.if_icmp .ne 14) 3))) (cb pc 273 (ce pc 272 (.aload_n 1) 1) (cb pc 275 (ce pc 273 (.iload 14) 2) (ce pc 275 (.iload 15) 2))))) (cb pc 291 (cb pc 284 (cb pc 280 (ce pc 277 (.invokevirtual 42) 3) (cb pc 283 (ce pc 280 (.goto 11) 3) (ce pc 283 (.aload_n 1) 1))) (cb pc 286 (ce pc 284 (.iload 14) 2) (cb pc 288 (ce pc 286 (.iload 15) 2) (ce pc 288 (.invokevirtual 46) 3)))) (cb pc 297 (cb pc 293 (ce pc 291 (.istore 16) 2) (cb pc 295 (ce pc 293 (.iload 16) 2) (ce pc 295 (.iload 14) 2))) (cb pc 301 (cb pc 298 (ce pc 297 (.iconst 4) 1) (ce pc 298 (.if_icmp .ge 7) 3)) (cb pc 302 (ce pc 301 (.iconst 1) 1) (ce pc 302 (.goto 4) 3)))))) (cb pc 325 (cb pc 314 (cb pc 310 (cb pc 306 (ce pc 305 (.iconst 0) 1) (cb pc 309 (ce pc 306 (.if_icmp .eq 5) 3) (ce pc 309 (.iconst 0) 1))) (cb pc 311 (ce pc 310 .ireturn 1) (cb pc 313 (ce pc 311 (.iload 14) 2) (ce pc 313 (.iconst 4) 1)))) (cb pc 320 (cb pc 317 (ce pc 314 (.if_icmp .ge 66) 3) (cb pc 318 (ce pc 317 (.iconst 1) 1) (ce pc 318 (.iload 14) 2))) (cb pc 321 (ce pc 320 .ishl 1) (cb pc 323 (ce pc 321 (.istore 17) 2) (ce pc 323 (.iload 9) 2))))) (cb pc 338 (cb pc 331 (cb pc 326 (ce pc 325 (.iconst 1) 1) (cb pc 329 (ce pc 326 (.if_icmp .ne 28) 3) (ce pc 329 (.iload 15) 2))) (cb pc 334 (ce pc 331 (.ifCond .eq 11) 3) (cb pc 336 (ce pc 334 (.iload 4) 2) (ce pc 336 (.iload 17) 2)))) (cb pc 344 (cb pc 339 (ce pc 338 .ior 1) (cb pc 342 (ce pc 339 (.goto 10) 3) (ce pc 342 (.iload 4) 2))) (cb pc 347 (cb pc 346 (ce pc 344 (.iload 17) 2) (ce pc 346 (.iconst (-1)) 1)) (cb pc 348 (ce pc 347 .ixor 1) (ce pc 348 .iand 1))))))))) (cb pc 539 (cb pc 446 (cb pc 396 (cb pc 373 (cb pc 363 (cb pc 356 (cb pc 351 (ce pc 349 (.istore 4) 2) (cb pc 354 (ce pc 351 (.goto 25) 3) (ce pc 354 (.iload 15) 2))) (cb pc 359 (ce pc 356 (.ifCond .eq 11) 3) (cb pc 361 (ce pc 359 (.iload 5) 2) (ce pc 361 (.iload 17) 2)))) (cb pc 369 (cb pc 364 (ce pc 363 .ior 1) (cb pc 367 (ce pc 364 (.goto 10) 3) (ce pc 367 (.iload 5) 2))) (cb pc 371 (ce pc 369 (.iload 17) 2) (cb pc 372 (ce pc 371 (.iconst (-1)) 1) (ce pc 372 .ixor 1))))) (cb pc 385 (cb pc 378 (cb pc 374 (ce pc 373 .iand 1) (cb pc 376 (ce pc 374 (.istore 5) 2) (ce pc 376 (.bipush (-2)) 2))) (cb pc 380 (ce pc 378 (.istore 7) 2) (cb pc 383 (ce pc 380 (.goto 318) 3) (ce pc 383 (.iload 9) 2)))) (cb pc 391 (cb pc 386 (ce pc 385 (.iconst 3) 1) (cb pc 389 (ce pc 386 (.if_icmp .ne 133) 3) (ce pc 389 (.iload 10) 2))) (cb pc 394 (cb pc 393 (ce pc 391 (.bipush 7) 2) (ce pc 393 .iand 1)) (cb pc 395 (ce pc 394 (.iconst 2) 1) (ce pc 395 .isub 1)))))) (cb pc 421 (cb pc 409 (cb pc 403 (cb pc 398 (ce pc 396 (.istore 14) 2) (cb pc 400 (ce pc 398 (.iload 14) 2) (ce pc 400 (.ifCond .ge 7) 3))) (cb pc 404 (ce pc 403 (.iconst 0) 1) (cb pc 407 (ce pc 404 (.goto 15) 3) (ce pc 407 (.iload 14) 2)))) (cb pc 414 (cb pc 410 (ce pc 409 (.iconst 3) 1) (cb pc 413 (ce pc 410 (.if_icmp .le 7) 3) (ce pc 413 (.iconst 3) 1))) (cb pc 417 (ce pc 414 (.goto 5) 3) (cb pc 419 (ce pc 417 (.iload 14) 2) (ce pc 419 (.istore 15) 2))))) (cb pc 432 (cb pc 427 (cb pc 422 (ce pc 421 (.aload_n 1) 1) (cb pc 424 (ce pc 422 (.iload 14) 2) (ce pc 424 (.invokevirtual 49) 3))) (cb pc 429 (ce pc 427 (.istore 16) 2) (cb pc 431 (ce pc 429 (.iload 16) 2) (ce pc 431 (.iconst (-1)) 1)))) (cb pc 439 (cb pc 435 (ce pc 432 (.if_icmp .lt 10) 3) (cb pc 437 (ce pc 435 (.iload 16) 2) (ce pc 437 (.iload 15) 2))) (cb pc 443 (cb pc 442 (ce pc 439 (.if_icmp .le 5) 3) (ce pc 442 (.iconst 0) 1)) (cb pc 444 (ce pc 443 .ireturn 1) (ce pc 444 (.iload 5) 2))))))) (cb pc 493 (cb pc 468 (cb pc 455 (cb pc 450 (cb pc 448 (ce pc 446 (.iload 4) 2) (cb pc 449 (ce pc 448 (.iconst (-1)) 1) (ce pc 449 .ixor 1))) (cb pc 451 (ce pc 450 .iand 1) (cb pc 454 (ce pc 451 (.ifCond .ne 7) 3) (ce pc 454 (.iconst 1) 1)))) (cb pc 461 (cb pc 458 (ce pc 455 (.goto 4) 3) (cb pc 459 (ce pc 458 (.iconst 0) 1) (ce pc 459 (.iload 16) 2))) (cb pc 464 (ce pc 461 (.ifCond .ne 7) 3) (cb pc 465 (ce pc 464 (.iconst 1) 1) (ce pc 465 (.goto 4) 3))))) (cb pc 479 (cb pc 473 (cb pc 469 (ce pc 468 (.iconst 0) 1) (cb pc 472 (ce pc 469 (.if_icmp .eq 5) 3) (ce pc 472 (.iconst 0) 1))) (cb pc 474 (ce pc 473 .ireturn 1) (cb pc 476 (ce pc 474 (.iload 16) 2) (ce pc 476 (.ifCond .lt 19) 3)))) (cb pc 483 (cb pc 480 (ce pc 479 (.aload_n 1) 1) (cb pc 482 (ce pc 480 (.iload 16) 2) (ce pc 482 (.lload_n 2) 1))) (cb pc 487 (cb pc 485 (ce pc 483 (.iload 4) 2) (ce pc 485 (.iload 5) 2)) (cb pc 490 (ce pc 487 (.invokestatic 52) 3) (ce pc 490 (.ifCond .ne 5) 3)))))) (cb pc 512 (cb pc 502 (cb pc 497 (cb pc 494 (ce pc 493 (.iconst 0) 1) (cb pc 495 (ce pc 494 .ireturn 1) (ce pc 495 (.iload 16) 2))) (cb pc 498 (ce pc 497 (.iconst (-1)) 1) (cb pc 501 (ce pc 498 (.if_icmp .ne 14) 3) (ce pc 501 (.aload_n 1) 1)))) (cb pc 507 (cb pc 503 (ce pc 502 (.iconst 1) 1) (cb pc 506 (ce pc 503 (.invokevirtual 29) 3) (ce pc 506 (.iconst (-1)) 1))) (cb pc 510 (ce pc 507 (.if_icmp .eq 5) 3) (cb pc 511 (ce pc 510 (.iconst 0) 1) (ce pc 511 .ireturn 1))))) (cb pc 525 (cb pc 519 (cb pc 514 (ce pc 512 (.iload 16) 2) (cb pc 516 (ce pc 514 (.istore 7) 2) (ce pc 516 (.goto 182) 3))) (cb pc 521 (ce pc 519 (.iload 9) 2) (cb pc 522 (ce pc 521 (.iconst 4) 1) (ce pc 522 (.if_icmp .ne 14) 3)))) (cb pc 531 (cb pc 526 (ce pc 525 (.aload_n 1) 1) (cb pc 529 (ce pc 526 (.invokevirtual 56) 3) (ce pc 529 (.iload 4) 2))) (cb pc 536 (cb pc 533 (ce pc 531 (.istore 6) 2) (ce pc 533 (.goto 165) 3)) (cb pc 538 (ce pc 536 (.iload 9) 2) (ce pc 538 (.iconst 5) 1)))))))) (cb pc 628 (cb pc 585 (cb pc 560 (cb pc 551 (cb pc 545 (cb pc 542 (ce pc 539 (.if_icmp .ne 74) 3) (cb pc 544 (ce pc 542 (.iload 13) 2) (ce pc 544 (.iconst 4) 1))) (cb pc 548 (ce pc 545 (.if_icmp .ge 22) 3) (cb pc 549 (ce pc 548 (.lload_n 2) 1) (ce pc 549 (.iload 13) 2)))) (cb pc 557 (cb pc 552 (ce pc 551 (.iconst 0) 1) (cb pc 555 (ce pc 552 (.invokestatic 15) 3) (ce pc 555 (.iload 6) 2))) (cb pc 558 (ce pc 557 (.iconst (-1)) 1) (cb pc 559 (ce pc 558 .ixor 1) (ce pc 559 .iand 1))))) (cb pc 571 (cb pc 567 (cb pc 563 (ce pc 560 (.ifCond .ne 7) 3) (cb pc 564 (ce pc 563 (.iconst 1) 1) (ce pc 564 (.goto 4) 3))) (cb pc 568 (ce pc 567 (.iconst 0) 1) (cb pc 570 (ce pc 568 (.istore 14) 2) (ce pc 570 (.aload_n 1) 1)))) (cb pc 578 (cb pc 573 (ce pc 571 (.iload 13) 2) (cb pc 576 (ce pc 573 (.invokevirtual 59) 3) (ce pc 576 (.iload 14) 2))) (cb pc 582 (cb pc 581 (ce pc 578 (.if_icmp .eq 5) 3) (ce pc 581 (.iconst 0) 1)) (cb pc 583 (ce pc 582 .ireturn 1) (ce pc 583 (.iload 14) 2)))))) (cb pc 604 (cb pc 597 (cb pc 591 (cb pc 588 (ce pc 585 (.ifCond .eq 25) 3) (cb pc 590 (ce pc 588 (.iload 6) 2) (ce pc 590 (.lload_n 2) 1))) (cb pc 593 (ce pc 591 (.iload 13) 2) (cb pc 594 (ce pc 593 (.iconst 2) 1) (ce pc 594 (.invokestatic 15) 3)))) (cb pc 600 (cb pc 598 (ce pc 597 (.iconst (-1)) 1) (cb pc 599 (ce pc 598 .ixor 1) (ce pc 599 .iand 1))) (cb pc 601 (ce pc 600 (.lload_n 2) 1) (cb pc 603 (ce pc 601 (.iload 13) 2) (ce pc 603 (.iconst 1) 1))))) (cb pc 617 (cb pc 610 (cb pc 607 (ce pc 604 (.invokestatic 15) 3) (cb pc 608 (ce pc 607 .ior 1) (ce pc 608 (.istore 6) 2))) (cb pc 613 (ce pc 610 (.goto 88) 3) (cb pc 615 (ce pc 613 (.iload 10) 2) (ce pc 615 (.bipush 7) 2)))) (cb pc 620 (cb pc 618 (ce pc 617 .iand 1) (cb pc 619 (ce pc 618 (.iconst 2) 1) (ce pc 619 .isub 1))) (cb pc 623 (cb pc 622 (ce pc 620 (.istore 14) 2) (ce pc 622 (.aload_n 1) 1)) (cb pc 625 (ce pc 623 (.iload 14) 2) (ce pc 625 (.invokevirtual 63) 3))))))) (cb pc 679 (cb pc 652 (cb pc 641 (cb pc 635 (cb pc 630 (ce pc 628 (.istore 15) 2) (cb pc 632 (ce pc 630 (.iload 7) 2) (ce pc 632 (.ifCond .ge 11) 3))) (cb pc 637 (ce pc 635 (.iload 15) 2) (cb pc 638 (ce pc 637 (.iconst (-1)) 1) (ce pc 638 (.if_icmp .eq 60) 3)))) (cb pc 645 (cb pc 642 (ce pc 641 (.iconst 0) 1) (cb pc 643 (ce pc 642 .ireturn 1) (ce pc 643 (.iload 14) 2))) (cb pc 648 (ce pc 645 (.ifCond .ge 7) 3) (cb pc 649 (ce pc 648 (.iconst 0) 1) (ce pc 649 (.goto 17) 3))))) (cb pc 666 (cb pc 659 (cb pc 654 (ce pc 652 (.iload 14) 2) (cb pc 656 (ce pc 654 (.iload 7) 2) (ce pc 656 (.if_icmp .le 8) 3))) (cb pc 661 (ce pc 659 (.iload 7) 2) (cb pc 664 (ce pc 661 (.goto 5) 3) (ce pc 664 (.iload 14) 2)))) (cb pc 671 (cb pc 668 (ce pc 666 (.istore 16) 2) (cb pc 669 (ce pc 668 (.aload_n 1) 1) (ce pc 669 (.iload 16) 2))) (cb pc 674 (cb pc 672 (ce pc 671 (.lload_n 2) 1) (ce pc 672 (.iload 4) 2)) (cb pc 677 (ce pc 674 (.invokestatic 66) 3) (ce pc 677 (.istore 17) 2)))))) (cb pc 699 (cb pc 690 (cb pc 685 (cb pc 681 (ce pc 679 (.iload 15) 2) (cb pc 683 (ce pc 681 (.iload 17) 2) (ce pc 683 (.ldc 32) 2))) (cb pc 686 (ce pc 685 .idiv 1) (cb pc 689 (ce pc 686 (.if_icmp .eq 5) 3) (ce pc 689 (.iconst 0) 1)))) (cb pc 695 (cb pc 691 (ce pc 690 .ireturn 1) (cb pc 693 (ce pc 691 (.iload 17) 2) (ce pc 693 (.ldc 32) 2))) (cb pc 696 (ce pc 695 .irem 1) (cb pc 698 (ce pc 696 (.istore 6) 2) (ce pc 698 (.aload_n 1) 1))))) (cb pc 711 (cb pc 704 (cb pc 700 (ce pc 699 (.lload_n 2) 1) (cb pc 702 (ce pc 700 (.iload 4) 2) (ce pc 702 (.iload 5) 2))) (cb pc 706 (ce pc 704 (.iload 6) 2) (cb pc 708 (ce pc 706 (.iload 7) 2) (ce pc 708 (.invokestatic 70) 3)))) (cb pc 716 (cb pc 714 (ce pc 711 (.ifCond .ne 5) 3) (cb pc 715 (ce pc 714 (.iconst 0) 1) (ce pc 715 .ireturn 1))) (cb pc 722 (cb pc 719 (ce pc 716 (.iinc 8 4) 3) (ce pc 719 (.goto (-690)) 3)) (cb pc 723 (ce pc 722 (.iconst 1) 1) (ce pc 723 .ireturn 1)))))))))) none
def lcd_1:Nat→Option (Instr×Nat):=fun pc=>cond (Nat.blt pc 178) (cb pc 88 (cb pc 41 (cb pc 20 (cb pc 10 (cb pc 5 (cb pc 2 (ce pc 0 (.iload 4) 2) (cb pc 4 (ce pc 2 (.istore 6) 2) (ce pc 4 (.iconst 0) 1))) (cb pc 7 (ce pc 5 (.istore 7) 2) (cb pc 8 (ce pc 7 (.iconst 0) 1) (ce pc 8 (.istore 8) 2)))) (cb pc 14 (cb pc 11 (ce pc 10 (.iconst 0) 1) (cb pc 13 (ce pc 11 (.istore 9) 2) (ce pc 13 (.iconst 0) 1))) (cb pc 18 (cb pc 16 (ce pc 14 (.istore 10) 2) (ce pc 16 (.iload 10) 2)) (cb pc 19 (ce pc 18 (.iload_n 1) 1) (ce pc 19 (.iconst 4) 1))))) (cb pc 30 (cb pc 26 (cb pc 21 (ce pc 20 .imul 1) (cb pc 24 (ce pc 21 (.if_icmp .ge 121) 3) (ce pc 24 (.iload 10) 2))) (cb pc 27 (ce pc 26 (.iconst 4) 1) (cb pc 28 (ce pc 27 .irem 1) (ce pc 28 (.istore 11) 2)))) (cb pc 36 (cb pc 32 (ce pc 30 (.iload 11) 2) (cb pc 35 (ce pc 32 (.ifCond .ne 35) 3) (ce pc 35 (.aload_n 0) 1))) (cb pc 39 (cb pc 38 (ce pc 36 (.iload 10) 2) (ce pc 38 (.iconst 4) 1)) (cb pc 40 (ce pc 39 .idiv 1) (ce pc 40 (.iconst 1) 1)))))) (cb pc 66 (cb pc 51 (cb pc 47 (cb pc 42 (ce pc 41 .iadd 1) (cb pc 45 (ce pc 42 (.invokevirtual 29) 3) (ce pc 45 (.istore 7) 2))) (cb pc 48 (ce pc 47 (.iconst 0) 1) (cb pc 50 (ce pc 48 (.istore 8) 2) (ce pc 50 (.iconst 0) 1)))) (cb pc 58 (cb pc 53 (ce pc 51 (.istore 9) 2) (cb pc 55 (ce pc 53 (.iload 7) 2) (ce pc 55 (.ifCond .lt 10) 3))) (cb pc 62 (cb pc 60 (ce pc 58 (.iload 7) 2) (ce pc 60 (.bipush 15) 2)) (cb pc 65 (ce pc 62 (.if_icmp .le 5) 3) (ce pc 65 (.iconst 0) 1))))) (cb pc 77 (cb pc 71 (cb pc 67 (ce pc 66 .ireturn 1) (cb pc 69 (ce pc 67 (.iload 7) 2) (ce pc 69 (.iload 11) 2))) (cb pc 73 (cb pc 72 (ce pc 71 .ishr 1) (ce pc 72 (.iconst 1) 1)) (cb pc 74 (ce pc 73 .iand 1) (ce pc 74 (.ifCond .eq 44) 3)))) (cb pc 81 (cb pc 78 (ce pc 77 (.lload_n 2) 1) (cb pc 80 (ce pc 78 (.iload 11) 2) (ce pc 80 (.iconst 0) 1))) (cb pc 86 (cb pc 84 (ce pc 81 (.invokestatic 15) 3) (ce pc 84 (.iload 6) 2)) (cb pc 87 (ce pc 86 (.iconst (-1)) 1) (ce pc 87 .ixor 1))))))) (cb pc 131 (cb pc 109 (cb pc 97 (cb pc 93 (cb pc 89 (ce pc 88 .iand 1) (cb pc 92 (ce pc 89 (.ifCond .eq 5) 3) (ce pc 92 (.iconst 0) 1))) (cb pc 94 (ce pc 93 .ireturn 1) (cb pc 96 (ce pc 94 (.iload 8) 2) (ce pc 96 (.lload_n 2) 1)))) (cb pc 103 (cb pc 99 (ce pc 97 (.iload 11) 2) (cb pc 100 (ce pc 99 (.iconst 2) 1) (ce pc 100 (.invokestatic 15) 3))) (cb pc 106 (cb pc 104 (ce pc 103 .ior 1) (ce pc 104 (.istore 8) 2)) (cb pc 108 (ce pc 106 (.iload 9) 2) (ce pc 108 (.lload_n 2) 1))))) (cb pc 120 (cb pc 115 (cb pc 111 (ce pc 109 (.iload 11) 2) (cb pc 112 (ce pc 111 (.iconst 1) 1) (ce pc 112 (.invokestatic 15) 3))) (cb pc 116 (ce pc 115 .ior 1) (cb pc 118 (ce pc 116 (.istore 9) 2) (ce pc 118 (.iload 11) 2)))) (cb pc 126 (cb pc 121 (ce pc 120 (.iconst 3) 1) (cb pc 124 (ce pc 121 (.if_icmp .ne 15) 3) (ce pc 124 (.iload 6) 2))) (cb pc 129 (cb pc 128 (ce pc 126 (.iload 8) 2) (ce pc 128 (.iconst (-1)) 1)) (cb pc 130 (ce pc 129 .ixor 1) (ce pc 130 .iand 1)))))) (cb pc 154 (cb pc 144 (cb pc 136 (cb pc 133 (ce pc 131 (.iload 9) 2) (cb pc 134 (ce pc 133 .ior 1) (ce pc 134 (.istore 6) 2))) (cb pc 139 (ce pc 136 (.iinc 10 1) 3) (cb pc 142 (ce pc 139 (.goto (-123)) 3) (ce pc 142 (.iload 5) 2)))) (cb pc 148 (cb pc 146 (ce pc 144 (.iload 6) 2) (cb pc 147 (ce pc 146 (.iconst (-1)) 1) (ce pc 147 .ixor 1))) (cb pc 152 (cb pc 149 (ce pc 148 .iand 1) (ce pc 149 (.ifCond .ne 27) 3)) (cb pc 153 (ce pc 152 (.aload_n 0) 1) (ce pc 153 (.iconst 0) 1))))) (cb pc 165 (cb pc 161 (cb pc 157 (ce pc 154 (.invokevirtual 29) 3) (cb pc 158 (ce pc 157 (.iconst (-1)) 1) (ce pc 158 (.if_icmp .ne 18) 3))) (cb pc 163 (cb pc 162 (ce pc 161 (.aload_n 0) 1) (ce pc 162 (.iload_n 1) 1)) (cb pc 164 (ce pc 163 (.iconst 1) 1) (ce pc 164 .iadd 1)))) (cb pc 172 (cb pc 168 (ce pc 165 (.invokevirtual 29) 3) (cb pc 169 (ce pc 168 (.iconst (-1)) 1) (ce pc 169 (.if_icmp .ne 7) 3))) (cb pc 176 (cb pc 173 (ce pc 172 (.iconst 1) 1) (ce pc 173 (.goto 4) 3)) (cb pc 177 (ce pc 176 (.iconst 0) 1) (ce pc 177 .ireturn 1)))))))) none
def lcd_2:Nat→Option (Instr×Nat):=fun pc=>cond (Nat.blt pc 93) (cb pc 42 (cb pc 19 (cb pc 11 (cb pc 5 (cb pc 1 (ce pc 0 (.iconst 0) 1) (cb pc 3 (ce pc 1 (.istore 7) 2) (ce pc 3 (.iload 7) 2))) (cb pc 7 (ce pc 5 (.bipush 12) 2) (cb pc 10 (ce pc 7 (.if_icmp .ge 42) 3) (ce pc 10 (.aload_n 0) 1)))) (cb pc 15 (cb pc 13 (ce pc 11 (.iload 7) 2) (cb pc 14 (ce pc 13 (.iconst 3) 1) (ce pc 14 .idiv 1))) (cb pc 17 (ce pc 15 (.iload 7) 2) (cb pc 18 (ce pc 17 (.iconst 3) 1) (ce pc 18 .irem 1))))) (cb pc 30 (cb pc 26 (cb pc 22 (ce pc 19 (.invokevirtual 9) 3) (cb pc 24 (ce pc 22 (.istore 8) 2) (ce pc 24 (.iload 8) 2))) (cb pc 27 (ce pc 26 (.lload_n 1) 1) (cb pc 29 (ce pc 27 (.iload 7) 2) (ce pc 29 (.iconst 3) 1)))) (cb pc 34 (cb pc 31 (ce pc 30 .idiv 1) (cb pc 33 (ce pc 31 (.iload 7) 2) (ce pc 33 (.iconst 3) 1))) (cb pc 38 (cb pc 35 (ce pc 34 .irem 1) (ce pc 35 (.invokestatic 15) 3)) (cb pc 41 (ce pc 38 (.if_icmp .eq 5) 3) (ce pc 41 (.iconst 0) 1)))))) (cb pc 68 (cb pc 54 (cb pc 49 (cb pc 43 (ce pc 42 .ireturn 1) (cb pc 46 (ce pc 43 (.iinc 7 1) 3) (ce pc 46 (.goto (-43)) 3))) (cb pc 50 (ce pc 49 (.aload_n 0) 1) (cb pc 51 (ce pc 50 (.iconst 0) 1) (ce pc 51 (.invokevirtual 21) 3)))) (cb pc 59 (cb pc 55 (ce pc 54 (.iload_n 3) 1) (cb pc 58 (ce pc 55 (.if_icmp .ne 36) 3) (ce pc 58 (.aload_n 0) 1))) (cb pc 63 (cb pc 60 (ce pc 59 (.iconst 1) 1) (ce pc 60 (.invokevirtual 21) 3)) (cb pc 65 (ce pc 63 (.iload 4) 2) (ce pc 65 (.if_icmp .ne 26) 3))))) (cb pc 79 (cb pc 73 (cb pc 69 (ce pc 68 (.aload_n 0) 1) (cb pc 70 (ce pc 69 (.iconst 2) 1) (ce pc 70 (.invokevirtual 21) 3))) (cb pc 75 (ce pc 73 (.iload 5) 2) (cb pc 78 (ce pc 75 (.if_icmp .ne 16) 3) (ce pc 78 (.aload_n 0) 1)))) (cb pc 87 (cb pc 82 (ce pc 79 (.invokevirtual 25) 3) (cb pc 84 (ce pc 82 (.iload 6) 2) (ce pc 84 (.if_icmp .ne 7) 3))) (cb pc 91 (cb pc 88 (ce pc 87 (.iconst 1) 1) (ce pc 88 (.goto 4) 3)) (cb pc 92 (ce pc 91 (.iconst 0) 1) (ce pc 92 .ireturn 1))))))) none
def lcd_3:Nat→Option (Instr×Nat):=fun pc=>cond (Nat.blt pc 16) (cb pc 7 (cb pc 4 (cb pc 1 (ce pc 0 (.lload_n 0) 1) (cb pc 2 (ce pc 1 (.iload_n 2) 1) (ce pc 2 (.bipush 12) 2))) (cb pc 5 (ce pc 4 .imul 1) (cb pc 6 (ce pc 5 (.iload_n 3) 1) (ce pc 6 (.iconst 4) 1)))) (cb pc 10 (cb pc 8 (ce pc 7 .imul 1) (cb pc 9 (ce pc 8 .iadd 1) (ce pc 9 .lushr 1))) (cb pc 14 (cb pc 13 (ce pc 10 (.ldc2_w 7) 3) (ce pc 13 .land 1)) (cb pc 15 (ce pc 14 .l2i 1) (ce pc 15 .ireturn 1))))) none
def lcd_4:Nat→Option (Instr×Nat):=fun pc=>cond (Nat.blt pc 109) (cb pc 51 (cb pc 25 (cb pc 13 (cb pc 7 (cb pc 4 (cb pc 2 (ce pc 0 (.iload 4) 2) (ce pc 2 (.istore 5) 2)) (cb pc 5 (ce pc 4 (.iconst 0) 1) (ce pc 5 (.istore 6) 2))) (cb pc 10 (cb pc 8 (ce pc 7 (.iconst 0) 1) (ce pc 8 (.istore 7) 2)) (cb pc 11 (ce pc 10 (.iconst 0) 1) (ce pc 11 (.istore 8) 2)))) (cb pc 18 (cb pc 16 (cb pc 15 (ce pc 13 (.iload 8) 2) (ce pc 15 (.iload_n 1) 1)) (cb pc 17 (ce pc 16 (.iconst 4) 1) (ce pc 17 .imul 1))) (cb pc 23 (cb pc 21 (ce pc 18 (.if_icmp .ge 82) 3) (ce pc 21 (.iload 8) 2)) (cb pc 24 (ce pc 23 (.iconst 4) 1) (ce pc 24 .irem 1))))) (cb pc 38 (cb pc 33 (cb pc 29 (cb pc 27 (ce pc 25 (.istore 9) 2) (ce pc 27 (.iload 9) 2)) (cb pc 32 (ce pc 29 (.ifCond .ne 15) 3) (ce pc 32 (.aload_n 0) 1))) (cb pc 36 (cb pc 35 (ce pc 33 (.iload 8) 2) (ce pc 35 (.iconst 4) 1)) (cb pc 37 (ce pc 36 .idiv 1) (ce pc 37 (.iconst 1) 1)))) (cb pc 46 (cb pc 42 (cb pc 39 (ce pc 38 .iadd 1) (ce pc 39 (.invokevirtual 29) 3)) (cb pc 44 (ce pc 42 (.istore 6) 2) (ce pc 44 (.iload 6) 2))) (cb pc 49 (cb pc 48 (ce pc 46 (.iload 9) 2) (ce pc 48 .ishr 1)) (cb pc 50 (ce pc 49 (.iconst 1) 1) (ce pc 50 .iand 1)))))) (cb pc 79 (cb pc 65 (cb pc 58 (cb pc 55 (cb pc 54 (ce pc 51 (.ifCond .eq 43) 3) (ce pc 54 (.lload_n 2) 1)) (cb pc 57 (ce pc 55 (.iload 9) 2) (ce pc 57 (.iconst 0) 1))) (cb pc 63 (cb pc 61 (ce pc 58 (.invokestatic 15) 3) (ce pc 61 (.iload 5) 2)) (cb pc 64 (ce pc 63 (.iconst (-1)) 1) (ce pc 64 .ixor 1)))) (cb pc 72 (cb pc 69 (cb pc 66 (ce pc 65 .iand 1) (ce pc 66 (.ifCond .ne 28) 3)) (cb pc 71 (ce pc 69 (.iload 5) 2) (ce pc 71 (.lload_n 2) 1))) (cb pc 75 (cb pc 74 (ce pc 72 (.iload 9) 2) (ce pc 74 (.iconst 2) 1)) (cb pc 78 (ce pc 75 (.invokestatic 15) 3) (ce pc 78 (.iconst (-1)) 1))))) (cb pc 91 (cb pc 84 (cb pc 81 (cb pc 80 (ce pc 79 .ixor 1) (ce pc 80 .iand 1)) (cb pc 82 (ce pc 81 (.lload_n 2) 1) (ce pc 82 (.iload 9) 2))) (cb pc 88 (cb pc 85 (ce pc 84 (.iconst 1) 1) (ce pc 85 (.invokestatic 15) 3)) (cb pc 89 (ce pc 88 .ior 1) (ce pc 89 (.istore 5) 2)))) (cb pc 102 (cb pc 97 (cb pc 94 (ce pc 91 (.iinc 7 1) 3) (ce pc 94 (.iinc 8 1) 3)) (cb pc 100 (ce pc 97 (.goto (-84)) 3) (ce pc 100 (.iload 7) 2))) (cb pc 105 (cb pc 104 (ce pc 102 (.ldc 32) 2) (ce pc 104 .imul 1)) (cb pc 107 (ce pc 105 (.iload 5) 2) (cb pc 108 (ce pc 107 .iadd 1) (ce pc 108 .ireturn 1)))))))) none
def LLcode:CodeT:=fun q pc=>cond (Nat.blt q 5) (cond (Nat.blt q 2) (cond (Nat.blt q 1) (cond (Nat.beq q 0) (lcd_0 pc) none) (cond (Nat.beq q 1) (lcd_1 pc) none)) (cond (Nat.blt q 3) (cond (Nat.beq q 2) (lcd_2 pc) none) (cond (Nat.blt q 4) (cond (Nat.beq q 3) (lcd_3 pc) none) (cond (Nat.beq q 4) (lcd_4 pc) none)))) none
def LLcst:Nat→Option OV:=fun x=>cond (Nat.blt x 41) (cond (Nat.blt x 32) (cond (Nat.beq x 7) (some (vl 15)) none) (cond (Nat.blt x 40) (cond (Nat.beq x 32) (some (vi 65536)) none) (cond (Nat.beq x 40) (some (vl (-1))) none))) none
def LLvm:Nat→Option Nat:=fun x=>cond (Nat.blt x 64) (cond (Nat.blt x 42) (cond (Nat.blt x 25) (cond (Nat.blt x 21) (cond (Nat.beq x 9) (some 18) none) (cond (Nat.beq x 21) (some 21) none)) (cond (Nat.blt x 29) (cond (Nat.beq x 25) (some 22) none) (cond (Nat.blt x 36) (cond (Nat.beq x 29) (some 17) none) (cond (Nat.beq x 36) (some 39) none)))) (cond (Nat.blt x 56) (cond (Nat.blt x 46) (cond (Nat.beq x 42) (some 23) none) (cond (Nat.blt x 49) (cond (Nat.beq x 46) (some 40) none) (cond (Nat.beq x 49) (some 2) none))) (cond (Nat.blt x 59) (cond (Nat.beq x 56) (some 44) none) (cond (Nat.blt x 63) (cond (Nat.beq x 59) (some 43) none) (cond (Nat.beq x 63) (some 42) none))))) none
def LLmk:Nat→Bool:=fun x=>Nat.beq x 33
def LLsm:Nat→Option Nat:=fun x=>cond (Nat.blt x 71) (cond (Nat.blt x 66) (cond (Nat.blt x 52) (cond (Nat.beq x 15) (some 3) none) (cond (Nat.beq x 52) (some 1) none)) (cond (Nat.blt x 70) (cond (Nat.beq x 66) (some 4) none) (cond (Nat.beq x 70) (some 2) none))) none
def LLcl:Nat→Bool:=fun x=>Nat.beq x 10
def LLinf:Nat→Option (List Nat×Nat×Nat×Nat×Nat):=fun x=>cond (Nat.blt x 5) (cond (Nat.blt x 2) (cond (Nat.blt x 1) (cond (Nat.beq x 0) (some ([2],20,2,8,125)) none) (cond (Nat.beq x 1) (some ([0,0,1,0,2],12,2,1,16)) none)) (cond (Nat.blt x 3) (cond (Nat.beq x 2) (some ([0,0,0,0,1,2],9,2,2,27)) none) (cond (Nat.blt x 4) (cond (Nat.beq x 3) (some ([0,0,1],4,1,0,0)) none) (cond (Nat.beq x 4) (some ([0,1,0,2],10,1,1,16)) none)))) none
def LLliv:LivT:=fun q pc=>yb q 2 (yb q 1 (cond (Nat.beq q 0) (yb pc 403 (yb pc 259 (yb pc 158 (yb pc 129 (yb pc 86 (yb pc 29 (ye pc 0 [oT,oF,oF,oF,oF,oF,oF,oF,oF,oF,oF,oF,oF,oF,oF,oF,oF,oF,oF,oF]) (yb pc 38 (ye pc 29 [oT,oT,oT,oF,oT,oT,oT,oT,oT,oF,oF,oF,oF,oF,oF,oF,oF,oF,oF,oF]) (ye pc 38 [oT,oT,oT,oF,oT,oT,oT,oT,oT,oF,oF,oF,oF,oF,oF,oF,oF,oF,oF,oF]))) (yb pc 93 (ye pc 86 [oT,oT,oT,oF,oT,oT,oT,oT,oT,oT,oT,oT,oT,oT,oF,oF,oF,oF,oF,oF]) (yb pc 120 (ye pc 93 [oT,oT,oT,oF,oT,oT,oT,oT,oT,oT,oF,oT,oT,oT,oF,oF,oF,oF,oF,oF]) (ye pc 120 [oT,oT,oT,oF,oT,oT,oT,oT,oT,oF,oF,oF,oT,oT,oT,oT,oF,oF,oF,oF])))) (yb pc 142 (yb pc 133 (ye pc 129 [oT,oT,oT,oF,oT,oT,oT,oT,oT,oF,oF,oF,oF,oT,oT,oT,oF,oF,oF,oF]) (yb pc 134 (ye pc 133 [oT,oT,oT,oF,oT,oT,oT,oT,oT,oF,oF,oF,oF,oT,oT,oT,oF,oF,oF,oF]) (ye pc 134 [oT,oT,oT,oF,oT,oT,oT,oT,oT,oF,oF,oF,oF,oT,oT,oT,oF,oF,oF,oF]))) (yb pc 148 (ye pc 142 [oT,oT,oT,oF,oT,oT,oT,oT,oT,oF,oF,oF,oF,oT,oT,oT,oT,oF,oF,oF]) (yb pc 154 (ye pc 148 [oT,oT,oT,oF,oT,oT,oT,oT,oT,oF,oF,oF,oF,oT,oT,oT,oT,oF,oF,oF]) (ye pc 154 [oT,oT,oT,oF,oT,oT,oT,oT,oT,oF,oF,oF,oF,oT,oT,oT,oT,oF,oF,oF]))))) (yb pc 214 (yb pc 180 (yb pc 159 (ye pc 158 [oT,oT,oT,oF,oT,oT,oT,oT,oT,oF,oF,oF,oF,oT,oT,oT,oT,oF,oF,oF]) (yb pc 178 (ye pc 159 [oT,oT,oT,oF,oT,oT,oT,oT,oT,oF,oF,oF,oF,oT,oT,oT,oT,oF,oF,oF]) (ye pc 178 [oF,oF,oF,oF,oF,oF,oF,oF,oF,oF,oF,oF,oF,oF,oF,oF,oF,oF,oF,oF]))) (yb pc 185 (ye pc 180 [oT,oT,oT,oF,oT,oT,oT,oT,oT,oF,oF,oF,oF,oT,oT,oT,oT,oT,oF,oF]) (yb pc 207 (ye pc 185 [oT,oT,oT,oF,oT,oT,oT,oF,oT,oF,oF,oF,oF,oT,oT,oT,oT,oF,oF,oF]) (ye pc 207 [oT,oT,oT,oF,oT,oT,oT,oF,oT,oF,oF,oF,oF,oF,oF,oF,oF,oF,oT,oF])))) (yb pc 230 (yb pc 222 (ye pc 214 [oT,oT,oT,oF,oT,oT,oT,oF,oT,oF,oF,oF,oF,oF,oF,oF,oF,oF,oT,oF]) (yb pc 227 (ye pc 222 [oT,oT,oF,oF,oT,oT,oT,oF,oT,oF,oF,oF,oF,oF,oF,oF,oF,oF,oF,oF]) (ye pc 227 [oT,oT,oT,oF,oT,oT,oT,oT,oT,oF,oF,oF,oF,oF,oF,oF,oF,oF,oF,oF]))) (yb pc 236 (ye pc 230 [oT,oT,oT,oF,oT,oT,oT,oT,oT,oT,oT,oT,oT,oT,oF,oF,oF,oF,oF,oF]) (yb pc 242 (ye pc 236 [oT,oT,oT,oF,oT,oT,oT,oT,oT,oT,oT,oT,oT,oT,oF,oF,oF,oF,oF,oF]) (ye pc 242 [oT,oT,oT,oF,oT,oT,oT,oT,oT,oT,oF,oT,oT,oF,oF,oF,oF,oF,oF,oF])))))) (yb pc 329 (yb pc 301 (yb pc 272 (yb pc 263 (ye pc 259 [oT,oT,oT,oF,oT,oT,oT,oT,oT,oT,oF,oF,oF,oF,oT,oF,oF,oF,oF,oF]) (yb pc 264 (ye pc 263 [oT,oT,oT,oF,oT,oT,oT,oT,oT,oT,oF,oF,oF,oF,oT,oF,oF,oF,oF,oF]) (ye pc 264 [oT,oT,oT,oF,oT,oT,oT,oT,oT,oT,oF,oF,oF,oF,oT,oF,oF,oF,oF,oF]))) (yb pc 283 (ye pc 272 [oT,oT,oT,oF,oT,oT,oT,oT,oT,oT,oF,oF,oF,oF,oT,oT,oF,oF,oF,oF]) (yb pc 291 (ye pc 283 [oT,oT,oT,oF,oT,oT,oT,oT,oT,oT,oF,oF,oF,oF,oT,oT,oF,oF,oF,oF]) (ye pc 291 [oT,oT,oT,oF,oT,oT,oT,oT,oT,oT,oF,oF,oF,oF,oT,oT,oF,oF,oF,oF])))) (yb pc 309 (yb pc 305 (ye pc 301 [oT,oT,oT,oF,oT,oT,oT,oT,oT,oT,oF,oF,oF,oF,oT,oT,oF,oF,oF,oF]) (yb pc 306 (ye pc 305 [oT,oT,oT,oF,oT,oT,oT,oT,oT,oT,oF,oF,oF,oF,oT,oT,oF,oF,oF,oF]) (ye pc 306 [oT,oT,oT,oF,oT,oT,oT,oT,oT,oT,oF,oF,oF,oF,oT,oT,oF,oF,oF,oF]))) (yb pc 311 (ye pc 309 [oF,oF,oF,oF,oF,oF,oF,oF,oF,oF,oF,oF,oF,oF,oF,oF,oF,oF,oF,oF]) (yb pc 317 (ye pc 311 [oT,oT,oT,oF,oT,oT,oT,oT,oT,oT,oF,oF,oF,oF,oT,oT,oF,oF,oF,oF]) (ye pc 317 [oT,oT,oT,oF,oT,oT,oT,oF,oT,oT,oF,oF,oF,oF,oT,oT,oF,oF,oF,oF]))))) (yb pc 367 (yb pc 349 (yb pc 334 (ye pc 329 [oT,oT,oT,oF,oT,oT,oT,oF,oT,oF,oF,oF,oF,oF,oF,oT,oF,oT,oF,oF]) (yb pc 342 (ye pc 334 [oT,oT,oT,oF,oT,oT,oT,oF,oT,oF,oF,oF,oF,oF,oF,oF,oF,oT,oF,oF]) (ye pc 342 [oT,oT,oT,oF,oT,oT,oT,oF,oT,oF,oF,oF,oF,oF,oF,oF,oF,oT,oF,oF]))) (yb pc 354 (ye pc 349 [oT,oT,oT,oF,oF,oT,oT,oF,oT,oF,oF,oF,oF,oF,oF,oF,oF,oF,oF,oF]) (yb pc 359 (ye pc 354 [oT,oT,oT,oF,oT,oT,oT,oF,oT,oF,oF,oF,oF,oF,oF,oT,oF,oT,oF,oF]) (ye pc 359 [oT,oT,oT,oF,oT,oT,oT,oF,oT,oF,oF,oF,oF,oF,oF,oF,oF,oT,oF,oF])))) (yb pc 380 (yb pc 374 (ye pc 367 [oT,oT,oT,oF,oT,oT,oT,oF,oT,oF,oF,oF,oF,oF,oF,oF,oF,oT,oF,oF]) (yb pc 376 (ye pc 374 [oT,oT,oT,oF,oT,oF,oT,oF,oT,oF,oF,oF,oF,oF,oF,oF,oF,oF,oF,oF]) (ye pc 376 [oT,oT,oT,oF,oT,oT,oT,oF,oT,oF,oF,oF,oF,oF,oF,oF,oF,oF,oF,oF]))) (yb pc 383 (ye pc 380 [oT,oT,oT,oF,oT,oT,oT,oT,oT,oF,oF,oF,oF,oF,oF,oF,oF,oF,oF,oF]) (yb pc 389 (ye pc 383 [oT,oT,oT,oF,oT,oT,oT,oT,oT,oT,oT,oF,oF,oT,oF,oF,oF,oF,oF,oF]) (ye pc 389 [oT,oT,oT,oF,oT,oT,oT,oF,oT,oF,oT,oF,oF,oF,oF,oF,oF,oF,oF,oF]))))))) (yb pc 536 (yb pc 468 (yb pc 442 (yb pc 417 (yb pc 407 (ye pc 403 [oT,oT,oT,oF,oT,oT,oT,oF,oT,oF,oF,oF,oF,oF,oT,oF,oF,oF,oF,oF]) (yb pc 413 (ye pc 407 [oT,oT,oT,oF,oT,oT,oT,oF,oT,oF,oF,oF,oF,oF,oT,oF,oF,oF,oF,oF]) (ye pc 413 [oT,oT,oT,oF,oT,oT,oT,oF,oT,oF,oF,oF,oF,oF,oT,oF,oF,oF,oF,oF]))) (yb pc 419 (ye pc 417 [oT,oT,oT,oF,oT,oT,oT,oF,oT,oF,oF,oF,oF,oF,oT,oF,oF,oF,oF,oF]) (yb pc 435 (ye pc 419 [oT,oT,oT,oF,oT,oT,oT,oF,oT,oF,oF,oF,oF,oF,oT,oF,oF,oF,oF,oF]) (ye pc 435 [oT,oT,oT,oF,oT,oT,oT,oF,oT,oF,oF,oF,oF,oF,oF,oT,oT,oF,oF,oF])))) (yb pc 458 (yb pc 444 (ye pc 442 [oF,oF,oF,oF,oF,oF,oF,oF,oF,oF,oF,oF,oF,oF,oF,oF,oF,oF,oF,oF]) (yb pc 454 (ye pc 444 [oT,oT,oT,oF,oT,oT,oT,oF,oT,oF,oF,oF,oF,oF,oF,oF,oT,oF,oF,oF]) (ye pc 454 [oT,oT,oT,oF,oT,oT,oT,oF,oT,oF,oF,oF,oF,oF,oF,oF,oT,oF,oF,oF]))) (yb pc 459 (ye pc 458 [oT,oT,oT,oF,oT,oT,oT,oF,oT,oF,oF,oF,oF,oF,oF,oF,oT,oF,oF,oF]) (yb pc 464 (ye pc 459 [oT,oT,oT,oF,oT,oT,oT,oF,oT,oF,oF,oF,oF,oF,oF,oF,oT,oF,oF,oF]) (ye pc 464 [oT,oT,oT,oF,oT,oT,oT,oF,oT,oF,oF,oF,oF,oF,oF,oF,oT,oF,oF,oF]))))) (yb pc 495 (yb pc 474 (yb pc 469 (ye pc 468 [oT,oT,oT,oF,oT,oT,oT,oF,oT,oF,oF,oF,oF,oF,oF,oF,oT,oF,oF,oF]) (yb pc 472 (ye pc 469 [oT,oT,oT,oF,oT,oT,oT,oF,oT,oF,oF,oF,oF,oF,oF,oF,oT,oF,oF,oF]) (ye pc 472 [oF,oF,oF,oF,oF,oF,oF,oF,oF,oF,oF,oF,oF,oF,oF,oF,oF,oF,oF,oF]))) (yb pc 479 (ye pc 474 [oT,oT,oT,oF,oT,oT,oT,oF,oT,oF,oF,oF,oF,oF,oF,oF,oT,oF,oF,oF]) (yb pc 493 (ye pc 479 [oT,oT,oT,oF,oT,oT,oT,oF,oT,oF,oF,oF,oF,oF,oF,oF,oT,oF,oF,oF]) (ye pc 493 [oF,oF,oF,oF,oF,oF,oF,oF,oF,oF,oF,oF,oF,oF,oF,oF,oF,oF,oF,oF])))) (yb pc 512 (yb pc 501 (ye pc 495 [oT,oT,oT,oF,oT,oT,oT,oF,oT,oF,oF,oF,oF,oF,oF,oF,oT,oF,oF,oF]) (yb pc 510 (ye pc 501 [oT,oT,oT,oF,oT,oT,oT,oF,oT,oF,oF,oF,oF,oF,oF,oF,oT,oF,oF,oF]) (ye pc 510 [oF,oF,oF,oF,oF,oF,oF,oF,oF,oF,oF,oF,oF,oF,oF,oF,oF,oF,oF,oF]))) (yb pc 519 (ye pc 512 [oT,oT,oT,oF,oT,oT,oT,oF,oT,oF,oF,oF,oF,oF,oF,oF,oT,oF,oF,oF]) (yb pc 525 (ye pc 519 [oT,oT,oT,oF,oT,oT,oT,oT,oT,oT,oT,oF,oF,oT,oF,oF,oF,oF,oF,oF]) (ye pc 525 [oT,oT,oT,oF,oT,oT,oF,oT,oT,oF,oF,oF,oF,oF,oF,oF,oF,oF,oF,oF])))))) (yb pc 641 (yb pc 581 (yb pc 563 (yb pc 542 (ye pc 536 [oT,oT,oT,oF,oT,oT,oT,oT,oT,oT,oT,oF,oF,oT,oF,oF,oF,oF,oF,oF]) (yb pc 548 (ye pc 542 [oT,oT,oT,oF,oT,oT,oT,oT,oT,oF,oF,oF,oF,oT,oF,oF,oF,oF,oF,oF]) (ye pc 548 [oT,oT,oT,oF,oT,oT,oT,oT,oT,oF,oF,oF,oF,oT,oF,oF,oF,oF,oF,oF]))) (yb pc 567 (ye pc 563 [oT,oT,oT,oF,oT,oT,oT,oT,oT,oF,oF,oF,oF,oT,oF,oF,oF,oF,oF,oF]) (yb pc 568 (ye pc 567 [oT,oT,oT,oF,oT,oT,oT,oT,oT,oF,oF,oF,oF,oT,oF,oF,oF,oF,oF,oF]) (ye pc 568 [oT,oT,oT,oF,oT,oT,oT,oT,oT,oF,oF,oF,oF,oT,oF,oF,oF,oF,oF,oF])))) (yb pc 610 (yb pc 583 (ye pc 581 [oF,oF,oF,oF,oF,oF,oF,oF,oF,oF,oF,oF,oF,oF,oF,oF,oF,oF,oF,oF]) (yb pc 588 (ye pc 583 [oT,oT,oT,oF,oT,oT,oT,oT,oT,oF,oF,oF,oF,oT,oT,oF,oF,oF,oF,oF]) (ye pc 588 [oT,oT,oT,oF,oT,oT,oT,oT,oT,oF,oF,oF,oF,oT,oF,oF,oF,oF,oF,oF]))) (yb pc 613 (ye pc 610 [oT,oT,oT,oF,oT,oT,oT,oT,oT,oF,oF,oF,oF,oF,oF,oF,oF,oF,oF,oF]) (yb pc 635 (ye pc 613 [oT,oT,oT,oF,oT,oT,oT,oT,oT,oF,oT,oF,oF,oF,oF,oF,oF,oF,oF,oF]) (ye pc 635 [oT,oT,oT,oF,oT,oT,oT,oT,oT,oF,oF,oF,oF,oF,oF,oT,oF,oF,oF,oF]))))) (yb pc 666 (yb pc 652 (yb pc 643 (ye pc 641 [oF,oF,oF,oF,oF,oF,oF,oF,oF,oF,oF,oF,oF,oF,oF,oF,oF,oF,oF,oF]) (yb pc 648 (ye pc 643 [oT,oT,oT,oF,oT,oT,oF,oT,oT,oF,oF,oF,oF,oF,oT,oT,oF,oF,oF,oF]) (ye pc 648 [oT,oT,oT,oF,oT,oT,oF,oT,oT,oF,oF,oF,oF,oF,oF,oT,oF,oF,oF,oF]))) (yb pc 659 (ye pc 652 [oT,oT,oT,oF,oT,oT,oF,oT,oT,oF,oF,oF,oF,oF,oT,oT,oF,oF,oF,oF]) (yb pc 664 (ye pc 659 [oT,oT,oT,oF,oT,oT,oF,oT,oT,oF,oF,oF,oF,oF,oF,oT,oF,oF,oF,oF]) (ye pc 664 [oT,oT,oT,oF,oT,oT,oF,oT,oT,oF,oF,oF,oF,oF,oT,oT,oF,oF,oF,oF])))) (yb pc 698 (yb pc 689 (ye pc 666 [oT,oT,oT,oF,oT,oT,oF,oT,oT,oF,oF,oF,oF,oF,oF,oT,oF,oF,oF,oF]) (yb pc 691 (ye pc 689 [oF,oF,oF,oF,oF,oF,oF,oF,oF,oF,oF,oF,oF,oF,oF,oF,oF,oF,oF,oF]) (ye pc 691 [oT,oT,oT,oF,oT,oT,oF,oT,oT,oF,oF,oF,oF,oF,oF,oF,oF,oT,oF,oF]))) (yb pc 716 (yb pc 714 (ye pc 698 [oT,oT,oT,oF,oT,oT,oT,oT,oT,oF,oF,oF,oF,oF,oF,oF,oF,oF,oF,oF]) (ye pc 714 [oF,oF,oF,oF,oF,oF,oF,oF,oF,oF,oF,oF,oF,oF,oF,oF,oF,oF,oF,oF])) (yb pc 722 (ye pc 716 [oT,oT,oT,oF,oT,oT,oT,oT,oT,oF,oF,oF,oF,oF,oF,oF,oF,oF,oF,oF]) (ye pc 722 [oF,oF,oF,oF,oF,oF,oF,oF,oF,oF,oF,oF,oF,oF,oF,oF,oF,oF,oF,oF])))))))) none) (cond (Nat.beq q 1) (yb pc 94 (yb pc 58 (yb pc 24 (yb pc 16 (ye pc 0 [oT,oT,oT,oF,oT,oT,oF,oF,oF,oF,oF,oF]) (ye pc 16 [oT,oT,oT,oF,oF,oT,oT,oT,oT,oT,oT,oF])) (yb pc 35 (ye pc 24 [oT,oT,oT,oF,oF,oT,oT,oT,oT,oT,oT,oF]) (ye pc 35 [oT,oT,oT,oF,oF,oT,oT,oF,oF,oF,oT,oT]))) (yb pc 67 (yb pc 65 (ye pc 58 [oT,oT,oT,oF,oF,oT,oT,oT,oT,oT,oT,oT]) (ye pc 65 [oF,oF,oF,oF,oF,oF,oF,oF,oF,oF,oF,oF])) (yb pc 77 (ye pc 67 [oT,oT,oT,oF,oF,oT,oT,oT,oT,oT,oT,oT]) (yb pc 92 (ye pc 77 [oT,oT,oT,oF,oF,oT,oT,oT,oT,oT,oT,oT]) (ye pc 92 [oF,oF,oF,oF,oF,oF,oF,oF,oF,oF,oF,oF]))))) (yb pc 152 (yb pc 124 (yb pc 118 (ye pc 94 [oT,oT,oT,oF,oF,oT,oT,oT,oT,oT,oT,oT]) (ye pc 118 [oT,oT,oT,oF,oF,oT,oT,oT,oT,oT,oT,oT])) (yb pc 136 (ye pc 124 [oT,oT,oT,oF,oF,oT,oT,oT,oT,oT,oT,oF]) (yb pc 142 (ye pc 136 [oT,oT,oT,oF,oF,oT,oT,oT,oT,oT,oT,oF]) (ye pc 142 [oT,oT,oF,oF,oF,oT,oT,oF,oF,oF,oF,oF])))) (yb pc 172 (yb pc 161 (ye pc 152 [oT,oT,oF,oF,oF,oF,oF,oF,oF,oF,oF,oF]) (ye pc 161 [oT,oT,oF,oF,oF,oF,oF,oF,oF,oF,oF,oF])) (yb pc 176 (ye pc 172 [oF,oF,oF,oF,oF,oF,oF,oF,oF,oF,oF,oF]) (yb pc 177 (ye pc 176 [oF,oF,oF,oF,oF,oF,oF,oF,oF,oF,oF,oF]) (ye pc 177 [oF,oF,oF,oF,oF,oF,oF,oF,oF,oF,oF,oF])))))) none)) (yb q 3 (cond (Nat.beq q 2) (yb pc 58 (yb pc 41 (yb pc 3 (ye pc 0 [oT,oT,oF,oT,oT,oT,oT,oF,oF]) (yb pc 10 (ye pc 3 [oT,oT,oF,oT,oT,oT,oT,oT,oF]) (ye pc 10 [oT,oT,oF,oT,oT,oT,oT,oT,oF]))) (yb pc 43 (ye pc 41 [oF,oF,oF,oF,oF,oF,oF,oF,oF]) (yb pc 49 (ye pc 43 [oT,oT,oF,oT,oT,oT,oT,oT,oF]) (ye pc 49 [oT,oF,oF,oT,oT,oT,oT,oF,oF])))) (yb pc 87 (yb pc 68 (ye pc 58 [oT,oF,oF,oF,oT,oT,oT,oF,oF]) (yb pc 78 (ye pc 68 [oT,oF,oF,oF,oF,oT,oT,oF,oF]) (ye pc 78 [oT,oF,oF,oF,oF,oF,oT,oF,oF]))) (yb pc 91 (ye pc 87 [oF,oF,oF,oF,oF,oF,oF,oF,oF]) (yb pc 92 (ye pc 91 [oF,oF,oF,oF,oF,oF,oF,oF,oF]) (ye pc 92 [oF,oF,oF,oF,oF,oF,oF,oF,oF]))))) none) (yb q 4 (cond (Nat.beq q 3) (ye pc 0 [oT,oF,oT,oT]) none) (cond (Nat.beq q 4) (yb pc 44 (yb pc 21 (yb pc 13 (ye pc 0 [oT,oT,oT,oF,oT,oF,oF,oF,oF,oF]) (ye pc 13 [oT,oT,oT,oF,oF,oT,oT,oT,oT,oF])) (yb pc 32 (ye pc 21 [oT,oT,oT,oF,oF,oT,oT,oT,oT,oF]) (ye pc 32 [oT,oT,oT,oF,oF,oT,oF,oT,oT,oT]))) (yb pc 69 (yb pc 54 (ye pc 44 [oT,oT,oT,oF,oF,oT,oT,oT,oT,oT]) (ye pc 54 [oT,oT,oT,oF,oF,oT,oT,oT,oT,oT])) (yb pc 94 (ye pc 69 [oT,oT,oT,oF,oF,oT,oT,oT,oT,oT]) (yb pc 100 (ye pc 94 [oT,oT,oT,oF,oF,oT,oT,oT,oT,oF]) (ye pc 100 [oF,oF,oF,oF,oF,oT,oF,oT,oF,oF]))))) none)))
def LL:LT:=(LLcode,LLcst,LLvm,LLmk,LLsm,LLcl,LLinf,LLliv)
abbrev RL (sl:Int) (sc:Int→Int):=runL PP LL 42 1 (true,sl,sc)
abbrev RLr (sl:Int) (sc:Int→Int) (n q pc:Nat) (L:OLs) (S:List OV) (y:Option OV×OWd):RTL:=RL sl sc n q pc L (pushR y.1 S) y.2
abbrev RLv (sl:Int) (sc:Int→Int) (n q pc:Nat) (L:OLs) (S:List OV) (W:OWd) (o:Nat) (y:Option OV×Nat×OMem):RTL:=RL sl sc n q pc L (pushR y.1 S) (wput W o y.2)
abbrev RLi (sl:Int) (sc:Int→Int) (n q pc:Nat) (L:OLs) (S:List OV) (W:OWd) (o:Nat) (y:Option OV×Nat×OMem):RTL:=cond (Nat.beq y.2.1 42) (RL sl sc n q pc L (pushR y.1 S) (wput W o y.2)) none
def l_m (sl:Int) (sc:Int→Int) (x0 x2 x3:Int) (m0:OMem):Option (Int):=some (w32 (and64 (ushr64 x0 (w32 ((w32 (x2*12))+(w32 (x3*4))))) 15))
theorem l_m_ok (sl:Int) (sc:Int→Int) (x0 x2 x3:Int) (m0:OMem):Sim (l_m sl sc x0 x2 x3 m0) (fun r _=>some (some (vi r),[(42,m0)])) (fun n=>RL sl sc n 3 0 [qj x0,qn,qi x2,qi x3] [] [(42,m0)]) :=
  Sim.shift 6 (G:=fun n=>RL sl sc n 3 7 [qj x0,qn,qi x2,qi x3] [vi 4,vi x3,vi (w32 (x2*12)),vl x0] [(42,m0)]) (fun _=>rfl) (Sim.shift 2 (G:=fun n=>RL sl sc n 3 9 [qj x0,qn,qi x2,qi x3] [vi (w32 ((w32 (x2*12))+(w32 (x3*4)))),vl x0] [(42,m0)]) (fun _=>rfl) (Sim.shift 2 (G:=fun n=>RL sl sc n 3 13 [qj x0,qn,qi x2,qi x3] [vl 15,vl (ushr64 x0 (w32 ((w32 (x2*12))+(w32 (x3*4)))))] [(42,m0)]) (fun _=>rfl) (Sim.shift 1 (G:=fun n=>RL sl sc n 3 14 [qj x0,qn,qi x2,qi x3] [vl (and64 (ushr64 x0 (w32 ((w32 (x2*12))+(w32 (x3*4))))) 15)] [(42,m0)]) (fun _=>rfl) (Sim.shift 2 (G:=(fun _=>some (some (vi (w32 (and64 (ushr64 x0 (w32 ((w32 (x2*12))+(w32 (x3*4))))) 15))),[(42,m0)]))) (fun _=>rfl) (Sim.pur _ _)))))
def l_agree_l3_H (sl:Int) (sc:Int→Int) (m0:OMem) (x1 x3 x4 x5 x6:Int):Int→Nat→RTL:=fun x7 n=>RL sl sc n 2 3 [qr 1,qj x1,qn,qi x3,qi x4,qi x5,qi x6,qi x7,qn] [] [(42,m0)]
def l_agree_l3_X (sl:Int) (sc:Int→Int) (m0:OMem) (x1 x3 x4 x5 x6:Int):(Unit)⊕(Unit)→Nat→RTL:=fun e n=>match e with | (.inl _)=>RL sl sc n 2 41 [qn,qn,qn,qn,qn,qn,qn,qn,qn] [] [(42,m0)] | (.inr _)=>RL sl sc n 2 49 [qr 1,qn,qn,qi x3,qi x4,qi x5,qi x6,qn,qn] [] [(42,m0)]
def l_agree_l3 (sl:Int) (sc:Int→Int) (m0:OMem) (x1 x3 x4 x5 x6:Int):Int→Option ((Int)⊕((Unit)⊕(Unit))):=fun x7=>if x7<12 then ((f_listMask (div32 x7 3) (rem32 x7 3) m0).bind fun r_127=>((l_m sl sc x1 (div32 x7 3) (rem32 x7 3) m0).bind fun r_128=>(if r_127=r_128 then (some (.inl (w32 (x7+1)))) else (some (.inr (.inl ())))))) else (some (.inr (.inr ())))
theorem l_agree_l3_ok (sl:Int) (sc:Int→Int) (m0:OMem) (x1 x3 x4 x5 x6:Int) (x7:Int):Sim (l_agree_l3 sl sc m0 x1 x3 x4 x5 x6 x7) (Sum.elim (l_agree_l3_H sl sc m0 x1 x3 x4 x5 x6 ) (l_agree_l3_X sl sc m0 x1 x3 x4 x5 x6 )) (l_agree_l3_H sl sc m0 x1 x3 x4 x5 x6 x7) :=
  Sim.shift 3 (G:=fun n=>if x7<12 then RL sl sc n 2 10 [qr 1,qj x1,qn,qi x3,qi x4,qi x5,qi x6,qi x7,qn] [] [(42,m0)] else RL sl sc n 2 49 [qr 1,qj x1,qn,qi x3,qi x4,qi x5,qi x6,qi x7,qn] [] [(42,m0)]) (fun _=>rfl) (Sim.ite (fun _=>Sim.shift 6 (G:=fun n=>RL sl sc n 2 18 [qr 1,qj x1,qn,qi x3,qi x4,qi x5,qi x6,qi x7,qn] [vi 3,vi x7,vi (div32 x7 3),vr 1] [(42,m0)]) (fun _=>rfl) (Sim.shift 2 (G:=fun n=>(R n 18 0 [qr 0,qi (div32 x7 3),qi (rem32 x7 3)] [] 42 m0).bind fun y=>RLv sl sc n 2 22 [qr 1,qj x1,qn,qi x3,qi x4,qi x5,qi x6,qi x7,qn] [] [(42,m0)] 0 y) (fun _=>rfl) (Sim.call (f_listMask_ok (div32 x7 3) (rem32 x7 3) m0) (fun _ _=>rfl) (runP_mono _ _ _ _ _ _) (fun _=>runL_mono _ _ _ _ _) (fun r_127=>Sim.shift 0 (G:=fun n=>RL sl sc n 2 22 [qr 1,qj x1,qn,qi x3,qi x4,qi x5,qi x6,qi x7,qn] [vi r_127] [(42,m0)]) (fun _=>rfl) (Sim.shift 6 (G:=fun n=>RL sl sc n 2 31 [qr 1,qj x1,qn,qi x3,qi x4,qi x5,qi x6,qi x7,qi r_127] [vi (div32 x7 3),vl x1,vi r_127] [(42,m0)]) (fun _=>rfl) (Sim.shift 4 (G:=fun n=>(RL sl sc n 3 0 [qj x1,qn,qi (div32 x7 3),qi (rem32 x7 3)] [] [(42,m0)]).bind fun y=>RLr sl sc n 2 38 [qr 1,qj x1,qn,qi x3,qi x4,qi x5,qi x6,qi x7,qi r_127] [vi r_127] y) (fun _=>rfl) (Sim.call (l_m_ok sl sc x1 (div32 x7 3) (rem32 x7 3) m0) (fun _ _=>rfl) (runL_mono _ _ _ _ _) (fun _=>runL_mono _ _ _ _ _) (fun r_128=>Sim.shift 0 (G:=fun n=>RL sl sc n 2 38 [qr 1,qj x1,qn,qi x3,qi x4,qi x5,qi x6,qi x7,qi r_127] [vi r_128,vi r_127] [(42,m0)]) (fun _=>rfl) (Sim.shift 1 (G:=fun n=>if r_127=r_128 then RL sl sc n 2 43 [qr 1,qj x1,qn,qi x3,qi x4,qi x5,qi x6,qi x7,qi r_127] [] [(42,m0)] else RL sl sc n 2 41 [qr 1,qj x1,qn,qi x3,qi x4,qi x5,qi x6,qi x7,qi r_127] [] [(42,m0)]) (fun _=>rfl) (Sim.ite (fun _=>Sim.shift 2 (G:=fun n=>RL sl sc n 2 3 [qr 1,qj x1,qn,qi x3,qi x4,qi x5,qi x6,qi (w32 (x7+1)),qn] [] [(42,m0)]) (fun _=>rfl) (Sim.pur _ _)) (fun _=>Sim.leaf rfl (fun _=>rfl)))))))))))) (fun _=>Sim.leaf rfl (fun _=>rfl)))
def l_agree_b92 (sl:Int) (sc:Int→Int) (s0:Int) (m0:OMem):Option (Int):=some (s0 % 2)
theorem l_agree_b92_ok (sl:Int) (sc:Int→Int) (s0:Int) (m0:OMem):Sim (l_agree_b92 sl sc s0 m0) (fun r _=>some (some (vi r),[(42,m0)])) (fun n=>RL sl sc n 2 92 [qn,qn,qn,qn,qn,qn,qn,qn,qn] [vi s0] [(42,m0)]) :=
  Sim.shift 1 (G:=(fun _=>some (some (vi (s0 % 2)),[(42,m0)]))) (fun _=>rfl) (Sim.pur _ _)
def l_agree_b91 (sl:Int) (sc:Int→Int) (m0:OMem):Option (Int):=l_agree_b92 sl sc 0 m0
theorem l_agree_b91_ok (sl:Int) (sc:Int→Int) (m0:OMem):Sim (l_agree_b91 sl sc m0) (fun r _=>some (some (vi r),[(42,m0)])) (fun n=>RL sl sc n 2 91 [qn,qn,qn,qn,qn,qn,qn,qn,qn] [] [(42,m0)]) :=
  Sim.shift 1 (G:=fun n=>RL sl sc n 2 92 [qn,qn,qn,qn,qn,qn,qn,qn,qn] [vi 0] [(42,m0)]) (fun _=>rfl) (l_agree_b92_ok sl sc 0 m0)
def l_agree (sl:Int) (sc:Int→Int) (x1 x3 x4 x5 x6:Int) (m0:OMem):Option (Int):=(lp (l_agree_l3 sl sc m0 x1 x3 x4 x5 x6) NN 0).bind fun e=>match e with | (.inl _)=>(some 0) | (.inr _)=>((f_problemMask 0 m0).bind fun r_129=>(if r_129=x3 then ((f_problemMask 1 m0).bind fun r_130=>(if r_130=x4 then ((f_problemMask 2 m0).bind fun r_131=>(if r_131=x5 then ((f_planLength m0).bind fun r_132=>(if r_132=x6 then (l_agree_b92 sl sc 1 m0) else (l_agree_b91 sl sc m0))) else (l_agree_b91 sl sc m0))) else (l_agree_b91 sl sc m0))) else (l_agree_b91 sl sc m0)))
theorem l_agree_ok (sl:Int) (sc:Int→Int) (x1 x3 x4 x5 x6:Int) (m0:OMem):Sim (l_agree sl sc x1 x3 x4 x5 x6 m0) (fun r _=>some (some (vi r),[(42,m0)])) (fun n=>RL sl sc n 2 0 [qr 1,qj x1,qn,qi x3,qi x4,qi x5,qi x6,qn,qn] [] [(42,m0)]) :=
  Sim.shift 2 (G:=fun n=>RL sl sc n 2 3 [qr 1,qj x1,qn,qi x3,qi x4,qi x5,qi x6,qi 0,qn] [] [(42,m0)]) (fun _=>rfl) (Sim.bind (Sim.lp (σ:=Int) (fun x7L=>l_agree_l3_ok sl sc m0 x1 x3 x4 x5 x6 x7L) NN 0) (fun e=>match e with | (.inl _)=>Sim.shift 2 (G:=(fun _=>some (some (vi 0),[(42,m0)]))) (fun _=>rfl) (Sim.pur _ _) | (.inr _)=>Sim.shift 3 (G:=fun n=>(R n 21 0 [qr 0,qi 0] [] 42 m0).bind fun y=>RLv sl sc n 2 54 [qr 1,qn,qn,qi x3,qi x4,qi x5,qi x6,qn,qn] [] [(42,m0)] 0 y) (fun _=>rfl) (Sim.call (f_problemMask_ok 42 0 m0) (fun _ _=>rfl) (runP_mono _ _ _ _ _ _) (fun _=>runL_mono _ _ _ _ _) (fun r_129=>Sim.shift 0 (G:=fun n=>RL sl sc n 2 54 [qr 1,qn,qn,qi x3,qi x4,qi x5,qi x6,qn,qn] [vi r_129] [(42,m0)]) (fun _=>rfl) (Sim.shift 2 (G:=fun n=>if r_129=x3 then RL sl sc n 2 58 [qr 1,qn,qn,qi x3,qi x4,qi x5,qi x6,qn,qn] [] [(42,m0)] else RL sl sc n 2 91 [qr 1,qn,qn,qi x3,qi x4,qi x5,qi x6,qn,qn] [] [(42,m0)]) (fun _=>rfl) (Sim.ite (fun _=>Sim.shift 3 (G:=fun n=>(R n 21 0 [qr 0,qi 1] [] 42 m0).bind fun y=>RLv sl sc n 2 63 [qr 1,qn,qn,qn,qi x4,qi x5,qi x6,qn,qn] [] [(42,m0)] 0 y) (fun _=>rfl) (Sim.call (f_problemMask_ok 42 1 m0) (fun _ _=>rfl) (runP_mono _ _ _ _ _ _) (fun _=>runL_mono _ _ _ _ _) (fun r_130=>Sim.shift 0 (G:=fun n=>RL sl sc n 2 63 [qr 1,qn,qn,qn,qi x4,qi x5,qi x6,qn,qn] [vi r_130] [(42,m0)]) (fun _=>rfl) (Sim.shift 2 (G:=fun n=>if r_130=x4 then RL sl sc n 2 68 [qr 1,qn,qn,qn,qi x4,qi x5,qi x6,qn,qn] [] [(42,m0)] else RL sl sc n 2 91 [qr 1,qn,qn,qn,qi x4,qi x5,qi x6,qn,qn] [] [(42,m0)]) (fun _=>rfl) (Sim.ite (fun _=>Sim.shift 3 (G:=fun n=>(R n 21 0 [qr 0,qi 2] [] 42 m0).bind fun y=>RLv sl sc n 2 73 [qr 1,qn,qn,qn,qn,qi x5,qi x6,qn,qn] [] [(42,m0)] 0 y) (fun _=>rfl) (Sim.call (f_problemMask_ok 42 2 m0) (fun _ _=>rfl) (runP_mono _ _ _ _ _ _) (fun _=>runL_mono _ _ _ _ _) (fun r_131=>Sim.shift 0 (G:=fun n=>RL sl sc n 2 73 [qr 1,qn,qn,qn,qn,qi x5,qi x6,qn,qn] [vi r_131] [(42,m0)]) (fun _=>rfl) (Sim.shift 2 (G:=fun n=>if r_131=x5 then RL sl sc n 2 78 [qr 1,qn,qn,qn,qn,qi x5,qi x6,qn,qn] [] [(42,m0)] else RL sl sc n 2 91 [qr 1,qn,qn,qn,qn,qi x5,qi x6,qn,qn] [] [(42,m0)]) (fun _=>rfl) (Sim.ite (fun _=>Sim.shift 2 (G:=fun n=>(R n 22 0 [qr 0] [] 42 m0).bind fun y=>RLv sl sc n 2 82 [qr 1,qn,qn,qn,qn,qn,qi x6,qn,qn] [] [(42,m0)] 0 y) (fun _=>rfl) (Sim.call (f_planLength_ok 42 m0) (fun _ _=>rfl) (runP_mono _ _ _ _ _ _) (fun _=>runL_mono _ _ _ _ _) (fun r_132=>Sim.shift 0 (G:=fun n=>RL sl sc n 2 82 [qr 1,qn,qn,qn,qn,qn,qi x6,qn,qn] [vi r_132] [(42,m0)]) (fun _=>rfl) (Sim.shift 2 (G:=fun n=>if r_132=x6 then RL sl sc n 2 87 [qr 1,qn,qn,qn,qn,qn,qi x6,qn,qn] [] [(42,m0)] else RL sl sc n 2 91 [qr 1,qn,qn,qn,qn,qn,qi x6,qn,qn] [] [(42,m0)]) (fun _=>rfl) (Sim.ite (fun _=>Sim.shift 2 (G:=fun n=>RL sl sc n 2 92 [qn,qn,qn,qn,qn,qn,qn,qn,qn] [vi 1] [(42,m0)]) (fun _=>rfl) (l_agree_b92_ok sl sc 1 m0)) (fun _=>Sim.jmp (l_agree_b91_ok sl sc m0) rfl (fun _=>rfl))))))) (fun _=>Sim.jmp (l_agree_b91_ok sl sc m0) rfl (fun _=>rfl))))))) (fun _=>Sim.jmp (l_agree_b91_ok sl sc m0) rfl (fun _=>rfl))))))) (fun _=>Sim.jmp (l_agree_b91_ok sl sc m0) rfl (fun _=>rfl))))))))
def l_valid_l16_H (sl:Int) (sc:Int→Int) (m0:OMem) (x1 x2 x5:Int):Int×Int×Int×Int×Int→Nat→RTL:=fun (x6,x7,x8,x9,x10) n=>RL sl sc n 1 16 [qr 1,qi x1,qj x2,qn,qn,qi x5,qi x6,qi x7,qi x8,qi x9,qi x10,qn] [] [(42,m0)]
def l_valid_l16_X (sl:Int) (sc:Int→Int) (m0:OMem) (x1 x2 x5:Int):(Unit)⊕(Unit)⊕(Int)→Nat→RTL:=fun e n=>match e with | (.inl _)=>RL sl sc n 1 65 [qn,qn,qn,qn,qn,qn,qn,qn,qn,qn,qn,qn] [] [(42,m0)] | (.inr (.inl _))=>RL sl sc n 1 92 [qn,qn,qn,qn,qn,qn,qn,qn,qn,qn,qn,qn] [] [(42,m0)] | (.inr (.inr y6))=>RL sl sc n 1 142 [qr 1,qi x1,qn,qn,qn,qi x5,qi y6,qn,qn,qn,qn,qn] [] [(42,m0)]
def l_valid_b136 (sl:Int) (sc:Int→Int) (x1 x2 x5 x6 x7 x8 x9 x10:Int) (m0:OMem):Option ((Int×Int×Int×Int×Int)⊕((Unit)⊕(Unit)⊕(Int))):=some (.inl (x6,x7,x8,x9,w32 (x10+1)))
theorem l_valid_b136_ok (sl:Int) (sc:Int→Int) (x1 x2 x5 x6 x7 x8 x9 x10:Int) (m0:OMem):Sim (l_valid_b136 sl sc x1 x2 x5 x6 x7 x8 x9 x10 m0) (Sum.elim (l_valid_l16_H sl sc m0 x1 x2 x5 ) (l_valid_l16_X sl sc m0 x1 x2 x5 )) (fun n=>RL sl sc n 1 136 [qr 1,qi x1,qj x2,qn,qn,qi x5,qi x6,qi x7,qi x8,qi x9,qi x10,qn] [] [(42,m0)]) :=
  Sim.shift 2 (G:=fun n=>RL sl sc n 1 16 [qr 1,qi x1,qj x2,qn,qn,qi x5,qi x6,qi x7,qi x8,qi x9,qi (w32 (x10+1)),qn] [] [(42,m0)]) (fun _=>rfl) (Sim.pur _ _)
def l_valid_b118 (sl:Int) (sc:Int→Int) (x1 x2 x5 x6 x7 x8 x9 x10 x11:Int) (m0:OMem):Option ((Int×Int×Int×Int×Int)⊕((Unit)⊕(Unit)⊕(Int))):=if x11=3 then (l_valid_b136 sl sc x1 x2 x5 (or32 (and32 x6 (xor32 x8 (-1))) x9) x7 x8 x9 x10 m0) else (l_valid_b136 sl sc x1 x2 x5 x6 x7 x8 x9 x10 m0)
theorem l_valid_b118_ok (sl:Int) (sc:Int→Int) (x1 x2 x5 x6 x7 x8 x9 x10 x11:Int) (m0:OMem):Sim (l_valid_b118 sl sc x1 x2 x5 x6 x7 x8 x9 x10 x11 m0) (Sum.elim (l_valid_l16_H sl sc m0 x1 x2 x5 ) (l_valid_l16_X sl sc m0 x1 x2 x5 )) (fun n=>RL sl sc n 1 118 [qr 1,qi x1,qj x2,qn,qn,qi x5,qi x6,qi x7,qi x8,qi x9,qi x10,qi x11] [] [(42,m0)]) :=
  Sim.shift 3 (G:=fun n=>if x11=3 then RL sl sc n 1 124 [qr 1,qi x1,qj x2,qn,qn,qi x5,qi x6,qi x7,qi x8,qi x9,qi x10,qi x11] [] [(42,m0)] else RL sl sc n 1 136 [qr 1,qi x1,qj x2,qn,qn,qi x5,qi x6,qi x7,qi x8,qi x9,qi x10,qi x11] [] [(42,m0)]) (fun _=>rfl) (Sim.ite (fun _=>Sim.shift 4 (G:=fun n=>RL sl sc n 1 130 [qr 1,qi x1,qj x2,qn,qn,qi x5,qi x6,qi x7,qi x8,qi x9,qi x10,qn] [vi (xor32 x8 (-1)),vi x6] [(42,m0)]) (fun _=>rfl) (Sim.shift 2 (G:=fun n=>RL sl sc n 1 133 [qr 1,qi x1,qj x2,qn,qn,qi x5,qi x6,qi x7,qi x8,qi x9,qi x10,qn] [vi x9,vi (and32 x6 (xor32 x8 (-1)))] [(42,m0)]) (fun _=>rfl) (Sim.shift 2 (G:=fun n=>RL sl sc n 1 136 [qr 1,qi x1,qj x2,qn,qn,qi x5,qi (or32 (and32 x6 (xor32 x8 (-1))) x9),qi x7,qi x8,qi x9,qi x10,qn] [] [(42,m0)]) (fun _=>rfl) (l_valid_b136_ok sl sc x1 x2 x5 (or32 (and32 x6 (xor32 x8 (-1))) x9) x7 x8 x9 x10 m0)))) (fun _=>Sim.jmp (l_valid_b136_ok sl sc x1 x2 x5 x6 x7 x8 x9 x10 m0) rfl (fun _=>rfl)))
def l_valid_b67 (sl:Int) (sc:Int→Int) (x1 x2 x5 x6 x7 x8 x9 x10 x11:Int) (m0:OMem):Option ((Int×Int×Int×Int×Int)⊕((Unit)⊕(Unit)⊕(Int))):=if and32 (shr32 x7 x11) 1=0 then (l_valid_b118 sl sc x1 x2 x5 x6 x7 x8 x9 x10 x11 m0) else ((l_m sl sc x2 x11 0 m0).bind fun r_142=>(if and32 r_142 (xor32 x6 (-1))=0 then ((l_m sl sc x2 x11 2 m0).bind fun r_143=>((l_m sl sc x2 x11 1 m0).bind fun r_144=>(l_valid_b118 sl sc x1 x2 x5 x6 x7 (or32 x8 r_143) (or32 x9 r_144) x10 x11 m0))) else (some (.inr (.inr (.inl ()))))))
theorem l_valid_b67_ok (sl:Int) (sc:Int→Int) (x1 x2 x5 x6 x7 x8 x9 x10 x11:Int) (m0:OMem):Sim (l_valid_b67 sl sc x1 x2 x5 x6 x7 x8 x9 x10 x11 m0) (Sum.elim (l_valid_l16_H sl sc m0 x1 x2 x5 ) (l_valid_l16_X sl sc m0 x1 x2 x5 )) (fun n=>RL sl sc n 1 67 [qr 1,qi x1,qj x2,qn,qn,qi x5,qi x6,qi x7,qi x8,qi x9,qi x10,qi x11] [] [(42,m0)]) :=
  Sim.shift 4 (G:=fun n=>RL sl sc n 1 73 [qr 1,qi x1,qj x2,qn,qn,qi x5,qi x6,qi x7,qi x8,qi x9,qi x10,qi x11] [vi 1,vi (shr32 x7 x11)] [(42,m0)]) (fun _=>rfl) (Sim.shift 2 (G:=fun n=>if and32 (shr32 x7 x11) 1=0 then RL sl sc n 1 118 [qr 1,qi x1,qj x2,qn,qn,qi x5,qi x6,qi x7,qi x8,qi x9,qi x10,qi x11] [] [(42,m0)] else RL sl sc n 1 77 [qr 1,qi x1,qj x2,qn,qn,qi x5,qi x6,qi x7,qi x8,qi x9,qi x10,qi x11] [] [(42,m0)]) (fun _=>rfl) (Sim.ite (fun _=>l_valid_b118_ok sl sc x1 x2 x5 x6 x7 x8 x9 x10 x11 m0) (fun _=>Sim.shift 4 (G:=fun n=>(RL sl sc n 3 0 [qj x2,qn,qi x11,qi 0] [] [(42,m0)]).bind fun y=>RLr sl sc n 1 84 [qr 1,qi x1,qj x2,qn,qn,qi x5,qi x6,qi x7,qi x8,qi x9,qi x10,qi x11] [] y) (fun _=>rfl) (Sim.call (l_m_ok sl sc x2 x11 0 m0) (fun _ _=>rfl) (runL_mono _ _ _ _ _) (fun _=>runL_mono _ _ _ _ _) (fun r_142=>Sim.shift 0 (G:=fun n=>RL sl sc n 1 84 [qr 1,qi x1,qj x2,qn,qn,qi x5,qi x6,qi x7,qi x8,qi x9,qi x10,qi x11] [vi r_142] [(42,m0)]) (fun _=>rfl) (Sim.shift 3 (G:=fun n=>RL sl sc n 1 88 [qr 1,qi x1,qj x2,qn,qn,qi x5,qi x6,qi x7,qi x8,qi x9,qi x10,qi x11] [vi (xor32 x6 (-1)),vi r_142] [(42,m0)]) (fun _=>rfl) (Sim.shift 2 (G:=fun n=>if and32 r_142 (xor32 x6 (-1))=0 then RL sl sc n 1 94 [qr 1,qi x1,qj x2,qn,qn,qi x5,qi x6,qi x7,qi x8,qi x9,qi x10,qi x11] [] [(42,m0)] else RL sl sc n 1 92 [qr 1,qi x1,qj x2,qn,qn,qi x5,qi x6,qi x7,qi x8,qi x9,qi x10,qi x11] [] [(42,m0)]) (fun _=>rfl) (Sim.ite (fun _=>Sim.shift 5 (G:=fun n=>(RL sl sc n 3 0 [qj x2,qn,qi x11,qi 2] [] [(42,m0)]).bind fun y=>RLr sl sc n 1 103 [qr 1,qi x1,qj x2,qn,qn,qi x5,qi x6,qi x7,qi x8,qi x9,qi x10,qi x11] [vi x8] y) (fun _=>rfl) (Sim.call (l_m_ok sl sc x2 x11 2 m0) (fun _ _=>rfl) (runL_mono _ _ _ _ _) (fun _=>runL_mono _ _ _ _ _) (fun r_143=>Sim.shift 0 (G:=fun n=>RL sl sc n 1 103 [qr 1,qi x1,qj x2,qn,qn,qi x5,qi x6,qi x7,qi x8,qi x9,qi x10,qi x11] [vi r_143,vi x8] [(42,m0)]) (fun _=>rfl) (Sim.shift 5 (G:=fun n=>RL sl sc n 1 111 [qr 1,qi x1,qj x2,qn,qn,qi x5,qi x6,qi x7,qi (or32 x8 r_143),qi x9,qi x10,qi x11] [vi x11,vl x2,vi x9] [(42,m0)]) (fun _=>rfl) (Sim.shift 2 (G:=fun n=>(RL sl sc n 3 0 [qj x2,qn,qi x11,qi 1] [] [(42,m0)]).bind fun y=>RLr sl sc n 1 115 [qr 1,qi x1,qj x2,qn,qn,qi x5,qi x6,qi x7,qi (or32 x8 r_143),qi x9,qi x10,qi x11] [vi x9] y) (fun _=>rfl) (Sim.call (l_m_ok sl sc x2 x11 1 m0) (fun _ _=>rfl) (runL_mono _ _ _ _ _) (fun _=>runL_mono _ _ _ _ _) (fun r_144=>Sim.shift 0 (G:=fun n=>RL sl sc n 1 115 [qr 1,qi x1,qj x2,qn,qn,qi x5,qi x6,qi x7,qi (or32 x8 r_143),qi x9,qi x10,qi x11] [vi r_144,vi x9] [(42,m0)]) (fun _=>rfl) (Sim.shift 2 (G:=fun n=>RL sl sc n 1 118 [qr 1,qi x1,qj x2,qn,qn,qi x5,qi x6,qi x7,qi (or32 x8 r_143),qi (or32 x9 r_144),qi x10,qi x11] [] [(42,m0)]) (fun _=>rfl) (l_valid_b118_ok sl sc x1 x2 x5 x6 x7 (or32 x8 r_143) (or32 x9 r_144) x10 x11 m0))))))))) (fun _=>Sim.leaf rfl (fun _=>rfl))))))))))
def l_valid_l16 (sl:Int) (sc:Int→Int) (m0:OMem) (x1 x2 x5:Int):Int×Int×Int×Int×Int→Option ((Int×Int×Int×Int×Int)⊕((Unit)⊕(Unit)⊕(Int))):=fun (x6,x7,x8,x9,x10)=>if x10<w32 (x1*4) then (if rem32 x10 4=0 then ((f_layerMask (w32 ((div32 x10 4)+1)) m0).bind fun r_141=>(if r_141<0 then (some (.inr (.inl ()))) else (if 15<r_141 then (some (.inr (.inl ()))) else (l_valid_b67 sl sc x1 x2 x5 x6 r_141 0 0 x10 (rem32 x10 4) m0)))) else (l_valid_b67 sl sc x1 x2 x5 x6 x7 x8 x9 x10 (rem32 x10 4) m0)) else (some (.inr (.inr (.inr x6))))
theorem l_valid_l16_ok (sl:Int) (sc:Int→Int) (m0:OMem) (x1 x2 x5:Int) (x6 x7 x8 x9 x10:Int):Sim (l_valid_l16 sl sc m0 x1 x2 x5 (x6,x7,x8,x9,x10)) (Sum.elim (l_valid_l16_H sl sc m0 x1 x2 x5 ) (l_valid_l16_X sl sc m0 x1 x2 x5 )) (l_valid_l16_H sl sc m0 x1 x2 x5 (x6,x7,x8,x9,x10)) :=
  Sim.shift 5 (G:=fun n=>if x10<w32 (x1*4) then RL sl sc n 1 24 [qr 1,qi x1,qj x2,qn,qn,qi x5,qi x6,qi x7,qi x8,qi x9,qi x10,qn] [] [(42,m0)] else RL sl sc n 1 142 [qr 1,qi x1,qj x2,qn,qn,qi x5,qi x6,qi x7,qi x8,qi x9,qi x10,qn] [] [(42,m0)]) (fun _=>rfl) (Sim.ite (fun _=>Sim.shift 5 (G:=fun n=>RL sl sc n 1 32 [qr 1,qi x1,qj x2,qn,qn,qi x5,qi x6,qi x7,qi x8,qi x9,qi x10,qi (rem32 x10 4)] [vi (rem32 x10 4)] [(42,m0)]) (fun _=>rfl) (Sim.shift 1 (G:=fun n=>if rem32 x10 4=0 then RL sl sc n 1 35 [qr 1,qi x1,qj x2,qn,qn,qi x5,qi x6,qi x7,qi x8,qi x9,qi x10,qi (rem32 x10 4)] [] [(42,m0)] else RL sl sc n 1 67 [qr 1,qi x1,qj x2,qn,qn,qi x5,qi x6,qi x7,qi x8,qi x9,qi x10,qi (rem32 x10 4)] [] [(42,m0)]) (fun _=>rfl) (Sim.ite (fun _=>Sim.shift 6 (G:=fun n=>RL sl sc n 1 42 [qr 1,qi x1,qj x2,qn,qn,qi x5,qi x6,qn,qn,qn,qi x10,qi (rem32 x10 4)] [vi (w32 ((div32 x10 4)+1)),vr 1] [(42,m0)]) (fun _=>rfl) (Sim.shift 1 (G:=fun n=>(R n 17 0 [qr 0,qi (w32 ((div32 x10 4)+1))] [] 42 m0).bind fun y=>RLv sl sc n 1 45 [qr 1,qi x1,qj x2,qn,qn,qi x5,qi x6,qn,qn,qn,qi x10,qi (rem32 x10 4)] [] [(42,m0)] 0 y) (fun _=>rfl) (Sim.call (f_layerMask_ok (w32 ((div32 x10 4)+1)) m0) (fun _ _=>rfl) (runP_mono _ _ _ _ _ _) (fun _=>runL_mono _ _ _ _ _) (fun r_141=>Sim.shift 0 (G:=fun n=>RL sl sc n 1 45 [qr 1,qi x1,qj x2,qn,qn,qi x5,qi x6,qn,qn,qn,qi x10,qi (rem32 x10 4)] [vi r_141] [(42,m0)]) (fun _=>rfl) (Sim.shift 5 (G:=fun n=>RL sl sc n 1 53 [qr 1,qi x1,qj x2,qn,qn,qi x5,qi x6,qi r_141,qi 0,qi 0,qi x10,qi (rem32 x10 4)] [] [(42,m0)]) (fun _=>rfl) (Sim.shift 2 (G:=fun n=>if r_141<0 then RL sl sc n 1 65 [qr 1,qi x1,qj x2,qn,qn,qi x5,qi x6,qi r_141,qi 0,qi 0,qi x10,qi (rem32 x10 4)] [] [(42,m0)] else RL sl sc n 1 58 [qr 1,qi x1,qj x2,qn,qn,qi x5,qi x6,qi r_141,qi 0,qi 0,qi x10,qi (rem32 x10 4)] [] [(42,m0)]) (fun _=>rfl) (Sim.ite (fun _=>Sim.leaf rfl (fun _=>rfl)) (fun _=>Sim.shift 3 (G:=fun n=>if 15<r_141 then RL sl sc n 1 65 [qr 1,qi x1,qj x2,qn,qn,qi x5,qi x6,qi r_141,qi 0,qi 0,qi x10,qi (rem32 x10 4)] [] [(42,m0)] else RL sl sc n 1 67 [qr 1,qi x1,qj x2,qn,qn,qi x5,qi x6,qi r_141,qi 0,qi 0,qi x10,qi (rem32 x10 4)] [] [(42,m0)]) (fun _=>rfl) (Sim.ite (fun _=>Sim.leaf rfl (fun _=>rfl)) (fun _=>l_valid_b67_ok sl sc x1 x2 x5 x6 r_141 0 0 x10 (rem32 x10 4) m0)))))))))) (fun _=>l_valid_b67_ok sl sc x1 x2 x5 x6 x7 x8 x9 x10 (rem32 x10 4) m0)))) (fun _=>Sim.leaf rfl (fun _=>rfl)))
def l_valid_b65 (sl:Int) (sc:Int→Int) (m0:OMem):Option (Int):=some 0
theorem l_valid_b65_ok (sl:Int) (sc:Int→Int) (m0:OMem):Sim (l_valid_b65 sl sc m0) (fun r _=>some (some (vi r),[(42,m0)])) (fun n=>RL sl sc n 1 65 [qn,qn,qn,qn,qn,qn,qn,qn,qn,qn,qn,qn] [] [(42,m0)]) :=
  Sim.shift 2 (G:=(fun _=>some (some (vi 0),[(42,m0)]))) (fun _=>rfl) (Sim.pur _ _)
def l_valid_b177 (sl:Int) (sc:Int→Int) (s0:Int) (m0:OMem):Option (Int):=some (s0 % 2)
theorem l_valid_b177_ok (sl:Int) (sc:Int→Int) (s0:Int) (m0:OMem):Sim (l_valid_b177 sl sc s0 m0) (fun r _=>some (some (vi r),[(42,m0)])) (fun n=>RL sl sc n 1 177 [qn,qn,qn,qn,qn,qn,qn,qn,qn,qn,qn,qn] [vi s0] [(42,m0)]) :=
  Sim.shift 1 (G:=(fun _=>some (some (vi (s0 % 2)),[(42,m0)]))) (fun _=>rfl) (Sim.pur _ _)
def l_valid_b176 (sl:Int) (sc:Int→Int) (m0:OMem):Option (Int):=l_valid_b177 sl sc 0 m0
theorem l_valid_b176_ok (sl:Int) (sc:Int→Int) (m0:OMem):Sim (l_valid_b176 sl sc m0) (fun r _=>some (some (vi r),[(42,m0)])) (fun n=>RL sl sc n 1 176 [qn,qn,qn,qn,qn,qn,qn,qn,qn,qn,qn,qn] [] [(42,m0)]) :=
  Sim.shift 1 (G:=fun n=>RL sl sc n 1 177 [qn,qn,qn,qn,qn,qn,qn,qn,qn,qn,qn,qn] [vi 0] [(42,m0)]) (fun _=>rfl) (l_valid_b177_ok sl sc 0 m0)
def l_valid (sl:Int) (sc:Int→Int) (x1 x2 x4 x5:Int) (m0:OMem):Option (Int):=(lp (l_valid_l16 sl sc m0 x1 x2 x5) NN (x4,0,0,0,0)).bind fun e=>match e with | (.inl _)=>(l_valid_b65 sl sc m0) | (.inr (.inl _))=>(some 0) | (.inr (.inr x6_145))=>(if and32 x5 (xor32 x6_145 (-1))=0 then ((f_layerMask 0 m0).bind fun r_146=>(if r_146=(-1) then ((f_layerMask (w32 (x1+1)) m0).bind fun r_147=>(if r_147=(-1) then (l_valid_b177 sl sc 1 m0) else (l_valid_b176 sl sc m0))) else (l_valid_b176 sl sc m0))) else (l_valid_b176 sl sc m0))
theorem l_valid_ok (sl:Int) (sc:Int→Int) (x1 x2 x4 x5:Int) (m0:OMem):Sim (l_valid sl sc x1 x2 x4 x5 m0) (fun r _=>some (some (vi r),[(42,m0)])) (fun n=>RL sl sc n 1 0 [qr 1,qi x1,qj x2,qn,qi x4,qi x5,qn,qn,qn,qn,qn,qn] [] [(42,m0)]) :=
  Sim.shift 6 (G:=fun n=>RL sl sc n 1 10 [qr 1,qi x1,qj x2,qn,qi x4,qi x5,qi x4,qi 0,qi 0,qn,qn,qn] [] [(42,m0)]) (fun _=>rfl) (Sim.shift 4 (G:=fun n=>RL sl sc n 1 16 [qr 1,qi x1,qj x2,qn,qi x4,qi x5,qi x4,qi 0,qi 0,qi 0,qi 0,qn] [] [(42,m0)]) (fun _=>rfl) (Sim.jmp (Sim.bind (Sim.lp (σ:=Int×Int×Int×Int×Int) (fun ⟨x6L,x7L,x8L,x9L,x10L⟩=>l_valid_l16_ok sl sc m0 x1 x2 x5 x6L x7L x8L x9L x10L) NN (x4,0,0,0,0)) (fun e=>match e with | (.inl _)=>l_valid_b65_ok sl sc m0 | (.inr (.inl _))=>Sim.shift 2 (G:=(fun _=>some (some (vi 0),[(42,m0)]))) (fun _=>rfl) (Sim.pur _ _) | (.inr (.inr x6_145))=>Sim.shift 4 (G:=fun n=>RL sl sc n 1 148 [qr 1,qi x1,qn,qn,qn,qi x5,qi x6_145,qn,qn,qn,qn,qn] [vi (xor32 x6_145 (-1)),vi x5] [(42,m0)]) (fun _=>rfl) (Sim.shift 2 (G:=fun n=>if and32 x5 (xor32 x6_145 (-1))=0 then RL sl sc n 1 152 [qr 1,qi x1,qn,qn,qn,qi x5,qi x6_145,qn,qn,qn,qn,qn] [] [(42,m0)] else RL sl sc n 1 176 [qr 1,qi x1,qn,qn,qn,qi x5,qi x6_145,qn,qn,qn,qn,qn] [] [(42,m0)]) (fun _=>rfl) (Sim.ite (fun _=>Sim.shift 3 (G:=fun n=>(R n 17 0 [qr 0,qi 0] [] 42 m0).bind fun y=>RLv sl sc n 1 157 [qr 1,qi x1,qn,qn,qn,qn,qn,qn,qn,qn,qn,qn] [] [(42,m0)] 0 y) (fun _=>rfl) (Sim.call (f_layerMask_ok 0 m0) (fun _ _=>rfl) (runP_mono _ _ _ _ _ _) (fun _=>runL_mono _ _ _ _ _) (fun r_146=>Sim.shift 0 (G:=fun n=>RL sl sc n 1 157 [qr 1,qi x1,qn,qn,qn,qn,qn,qn,qn,qn,qn,qn] [vi r_146] [(42,m0)]) (fun _=>rfl) (Sim.shift 2 (G:=fun n=>if r_146=(-1) then RL sl sc n 1 161 [qr 1,qi x1,qn,qn,qn,qn,qn,qn,qn,qn,qn,qn] [] [(42,m0)] else RL sl sc n 1 176 [qr 1,qi x1,qn,qn,qn,qn,qn,qn,qn,qn,qn,qn] [] [(42,m0)]) (fun _=>rfl) (Sim.ite (fun _=>Sim.shift 5 (G:=fun n=>(R n 17 0 [qr 0,qi (w32 (x1+1))] [] 42 m0).bind fun y=>RLv sl sc n 1 168 [qr 1,qi x1,qn,qn,qn,qn,qn,qn,qn,qn,qn,qn] [] [(42,m0)] 0 y) (fun _=>rfl) (Sim.call (f_layerMask_ok (w32 (x1+1)) m0) (fun _ _=>rfl) (runP_mono _ _ _ _ _ _) (fun _=>runL_mono _ _ _ _ _) (fun r_147=>Sim.shift 0 (G:=fun n=>RL sl sc n 1 168 [qr 1,qi x1,qn,qn,qn,qn,qn,qn,qn,qn,qn,qn] [vi r_147] [(42,m0)]) (fun _=>rfl) (Sim.shift 2 (G:=fun n=>if r_147=(-1) then RL sl sc n 1 172 [qr 1,qi x1,qn,qn,qn,qn,qn,qn,qn,qn,qn,qn] [] [(42,m0)] else RL sl sc n 1 176 [qr 1,qi x1,qn,qn,qn,qn,qn,qn,qn,qn,qn,qn] [] [(42,m0)]) (fun _=>rfl) (Sim.ite (fun _=>Sim.shift 2 (G:=fun n=>RL sl sc n 1 177 [qn,qn,qn,qn,qn,qn,qn,qn,qn,qn,qn,qn] [vi 1] [(42,m0)]) (fun _=>rfl) (l_valid_b177_ok sl sc 1 m0)) (fun _=>Sim.jmp (l_valid_b176_ok sl sc m0) rfl (fun _=>rfl))))))) (fun _=>Sim.jmp (l_valid_b176_ok sl sc m0) rfl (fun _=>rfl))))))) (fun _=>Sim.jmp (l_valid_b176_ok sl sc m0) rfl (fun _=>rfl)))))) rfl (fun _=>rfl)))
def l_replay_l13_H (sl:Int) (sc:Int→Int) (m0:OMem) (x1 x2:Int):Int×Int×Int×Int→Nat→RTL:=fun (x5,x6,x7,x8) n=>RL sl sc n 4 13 [qr 1,qi x1,qj x2,qn,qn,qi x5,qi x6,qi x7,qi x8,qn] [] [(42,m0)]
def l_replay_l13_X (sl:Int) (sc:Int→Int) (m0:OMem) (x1 x2:Int):(Int×Int)→Nat→RTL:=fun e n=>match e with | (y5,y7)=>RL sl sc n 4 100 [qn,qn,qn,qn,qn,qi y5,qn,qi y7,qn,qn] [] [(42,m0)]
def l_replay_b94 (sl:Int) (sc:Int→Int) (x1 x2 x5 x6 x7 x8:Int) (m0:OMem):Option ((Int×Int×Int×Int)⊕((Int×Int))):=some (.inl (x5,x6,x7,w32 (x8+1)))
theorem l_replay_b94_ok (sl:Int) (sc:Int→Int) (x1 x2 x5 x6 x7 x8:Int) (m0:OMem):Sim (l_replay_b94 sl sc x1 x2 x5 x6 x7 x8 m0) (Sum.elim (l_replay_l13_H sl sc m0 x1 x2 ) (l_replay_l13_X sl sc m0 x1 x2 )) (fun n=>RL sl sc n 4 94 [qr 1,qi x1,qj x2,qn,qn,qi x5,qi x6,qi x7,qi x8,qn] [] [(42,m0)]) :=
  Sim.shift 2 (G:=fun n=>RL sl sc n 4 13 [qr 1,qi x1,qj x2,qn,qn,qi x5,qi x6,qi x7,qi (w32 (x8+1)),qn] [] [(42,m0)]) (fun _=>rfl) (Sim.pur _ _)
def l_replay_b44 (sl:Int) (sc:Int→Int) (x1 x2 x5 x6 x7 x8 x9:Int) (m0:OMem):Option ((Int×Int×Int×Int)⊕((Int×Int))):=if and32 (shr32 x6 x9) 1=0 then (l_replay_b94 sl sc x1 x2 x5 x6 x7 x8 m0) else ((l_m sl sc x2 x9 0 m0).bind fun r_158=>(if and32 r_158 (xor32 x5 (-1))=0 then ((l_m sl sc x2 x9 2 m0).bind fun r_159=>((l_m sl sc x2 x9 1 m0).bind fun r_160=>(l_replay_b94 sl sc x1 x2 (or32 (and32 x5 (xor32 r_159 (-1))) r_160) x6 (w32 (x7+1)) x8 m0))) else (l_replay_b94 sl sc x1 x2 x5 x6 x7 x8 m0)))
theorem l_replay_b44_ok (sl:Int) (sc:Int→Int) (x1 x2 x5 x6 x7 x8 x9:Int) (m0:OMem):Sim (l_replay_b44 sl sc x1 x2 x5 x6 x7 x8 x9 m0) (Sum.elim (l_replay_l13_H sl sc m0 x1 x2 ) (l_replay_l13_X sl sc m0 x1 x2 )) (fun n=>RL sl sc n 4 44 [qr 1,qi x1,qj x2,qn,qn,qi x5,qi x6,qi x7,qi x8,qi x9] [] [(42,m0)]) :=
  Sim.shift 4 (G:=fun n=>RL sl sc n 4 50 [qr 1,qi x1,qj x2,qn,qn,qi x5,qi x6,qi x7,qi x8,qi x9] [vi 1,vi (shr32 x6 x9)] [(42,m0)]) (fun _=>rfl) (Sim.shift 2 (G:=fun n=>if and32 (shr32 x6 x9) 1=0 then RL sl sc n 4 94 [qr 1,qi x1,qj x2,qn,qn,qi x5,qi x6,qi x7,qi x8,qi x9] [] [(42,m0)] else RL sl sc n 4 54 [qr 1,qi x1,qj x2,qn,qn,qi x5,qi x6,qi x7,qi x8,qi x9] [] [(42,m0)]) (fun _=>rfl) (Sim.ite (fun _=>Sim.jmp (l_replay_b94_ok sl sc x1 x2 x5 x6 x7 x8 m0) rfl (fun _=>rfl)) (fun _=>Sim.shift 4 (G:=fun n=>(RL sl sc n 3 0 [qj x2,qn,qi x9,qi 0] [] [(42,m0)]).bind fun y=>RLr sl sc n 4 61 [qr 1,qi x1,qj x2,qn,qn,qi x5,qi x6,qi x7,qi x8,qi x9] [] y) (fun _=>rfl) (Sim.call (l_m_ok sl sc x2 x9 0 m0) (fun _ _=>rfl) (runL_mono _ _ _ _ _) (fun _=>runL_mono _ _ _ _ _) (fun r_158=>Sim.shift 0 (G:=fun n=>RL sl sc n 4 61 [qr 1,qi x1,qj x2,qn,qn,qi x5,qi x6,qi x7,qi x8,qi x9] [vi r_158] [(42,m0)]) (fun _=>rfl) (Sim.shift 3 (G:=fun n=>RL sl sc n 4 65 [qr 1,qi x1,qj x2,qn,qn,qi x5,qi x6,qi x7,qi x8,qi x9] [vi (xor32 x5 (-1)),vi r_158] [(42,m0)]) (fun _=>rfl) (Sim.shift 2 (G:=fun n=>if and32 r_158 (xor32 x5 (-1))=0 then RL sl sc n 4 69 [qr 1,qi x1,qj x2,qn,qn,qi x5,qi x6,qi x7,qi x8,qi x9] [] [(42,m0)] else RL sl sc n 4 94 [qr 1,qi x1,qj x2,qn,qn,qi x5,qi x6,qi x7,qi x8,qi x9] [] [(42,m0)]) (fun _=>rfl) (Sim.ite (fun _=>Sim.shift 5 (G:=fun n=>(RL sl sc n 3 0 [qj x2,qn,qi x9,qi 2] [] [(42,m0)]).bind fun y=>RLr sl sc n 4 78 [qr 1,qi x1,qj x2,qn,qn,qi x5,qi x6,qi x7,qi x8,qi x9] [vi x5] y) (fun _=>rfl) (Sim.call (l_m_ok sl sc x2 x9 2 m0) (fun _ _=>rfl) (runL_mono _ _ _ _ _) (fun _=>runL_mono _ _ _ _ _) (fun r_159=>Sim.shift 0 (G:=fun n=>RL sl sc n 4 78 [qr 1,qi x1,qj x2,qn,qn,qi x5,qi x6,qi x7,qi x8,qi x9] [vi r_159,vi x5] [(42,m0)]) (fun _=>rfl) (Sim.shift 2 (G:=fun n=>RL sl sc n 4 80 [qr 1,qi x1,qj x2,qn,qn,qi x5,qi x6,qi x7,qi x8,qi x9] [vi (xor32 r_159 (-1)),vi x5] [(42,m0)]) (fun _=>rfl) (Sim.shift 5 (G:=fun n=>(RL sl sc n 3 0 [qj x2,qn,qi x9,qi 1] [] [(42,m0)]).bind fun y=>RLr sl sc n 4 88 [qr 1,qi x1,qj x2,qn,qn,qi x5,qi x6,qi x7,qi x8,qi x9] [vi (and32 x5 (xor32 r_159 (-1)))] y) (fun _=>rfl) (Sim.call (l_m_ok sl sc x2 x9 1 m0) (fun _ _=>rfl) (runL_mono _ _ _ _ _) (fun _=>runL_mono _ _ _ _ _) (fun r_160=>Sim.shift 0 (G:=fun n=>RL sl sc n 4 88 [qr 1,qi x1,qj x2,qn,qn,qi x5,qi x6,qi x7,qi x8,qi x9] [vi r_160,vi (and32 x5 (xor32 r_159 (-1)))] [(42,m0)]) (fun _=>rfl) (Sim.shift 2 (G:=fun n=>RL sl sc n 4 91 [qr 1,qi x1,qj x2,qn,qn,qi (or32 (and32 x5 (xor32 r_159 (-1))) r_160),qi x6,qi x7,qi x8,qi x9] [] [(42,m0)]) (fun _=>rfl) (Sim.shift 1 (G:=fun n=>RL sl sc n 4 94 [qr 1,qi x1,qj x2,qn,qn,qi (or32 (and32 x5 (xor32 r_159 (-1))) r_160),qi x6,qi (w32 (x7+1)),qi x8,qi x9] [] [(42,m0)]) (fun _=>rfl) (Sim.jmp (l_replay_b94_ok sl sc x1 x2 (or32 (and32 x5 (xor32 r_159 (-1))) r_160) x6 (w32 (x7+1)) x8 m0) rfl (fun _=>rfl))))))))))) (fun _=>Sim.jmp (l_replay_b94_ok sl sc x1 x2 x5 x6 x7 x8 m0) rfl (fun _=>rfl))))))))))
def l_replay_l13 (sl:Int) (sc:Int→Int) (m0:OMem) (x1 x2:Int):Int×Int×Int×Int→Option ((Int×Int×Int×Int)⊕((Int×Int))):=fun (x5,x6,x7,x8)=>if x8<w32 (x1*4) then (if rem32 x8 4=0 then ((f_layerMask (w32 ((div32 x8 4)+1)) m0).bind fun r_157=>(l_replay_b44 sl sc x1 x2 x5 r_157 x7 x8 (rem32 x8 4) m0)) else (l_replay_b44 sl sc x1 x2 x5 x6 x7 x8 (rem32 x8 4) m0)) else (some (.inr (x5,x7)))
theorem l_replay_l13_ok (sl:Int) (sc:Int→Int) (m0:OMem) (x1 x2:Int) (x5 x6 x7 x8:Int):Sim (l_replay_l13 sl sc m0 x1 x2 (x5,x6,x7,x8)) (Sum.elim (l_replay_l13_H sl sc m0 x1 x2 ) (l_replay_l13_X sl sc m0 x1 x2 )) (l_replay_l13_H sl sc m0 x1 x2 (x5,x6,x7,x8)) :=
  Sim.shift 5 (G:=fun n=>if x8<w32 (x1*4) then RL sl sc n 4 21 [qr 1,qi x1,qj x2,qn,qn,qi x5,qi x6,qi x7,qi x8,qn] [] [(42,m0)] else RL sl sc n 4 100 [qr 1,qi x1,qj x2,qn,qn,qi x5,qi x6,qi x7,qi x8,qn] [] [(42,m0)]) (fun _=>rfl) (Sim.ite (fun _=>Sim.shift 5 (G:=fun n=>RL sl sc n 4 29 [qr 1,qi x1,qj x2,qn,qn,qi x5,qi x6,qi x7,qi x8,qi (rem32 x8 4)] [vi (rem32 x8 4)] [(42,m0)]) (fun _=>rfl) (Sim.shift 1 (G:=fun n=>if rem32 x8 4=0 then RL sl sc n 4 32 [qr 1,qi x1,qj x2,qn,qn,qi x5,qi x6,qi x7,qi x8,qi (rem32 x8 4)] [] [(42,m0)] else RL sl sc n 4 44 [qr 1,qi x1,qj x2,qn,qn,qi x5,qi x6,qi x7,qi x8,qi (rem32 x8 4)] [] [(42,m0)]) (fun _=>rfl) (Sim.ite (fun _=>Sim.shift 6 (G:=fun n=>RL sl sc n 4 39 [qr 1,qi x1,qj x2,qn,qn,qi x5,qn,qi x7,qi x8,qi (rem32 x8 4)] [vi (w32 ((div32 x8 4)+1)),vr 1] [(42,m0)]) (fun _=>rfl) (Sim.shift 1 (G:=fun n=>(R n 17 0 [qr 0,qi (w32 ((div32 x8 4)+1))] [] 42 m0).bind fun y=>RLv sl sc n 4 42 [qr 1,qi x1,qj x2,qn,qn,qi x5,qn,qi x7,qi x8,qi (rem32 x8 4)] [] [(42,m0)] 0 y) (fun _=>rfl) (Sim.call (f_layerMask_ok (w32 ((div32 x8 4)+1)) m0) (fun _ _=>rfl) (runP_mono _ _ _ _ _ _) (fun _=>runL_mono _ _ _ _ _) (fun r_157=>Sim.shift 0 (G:=fun n=>RL sl sc n 4 42 [qr 1,qi x1,qj x2,qn,qn,qi x5,qn,qi x7,qi x8,qi (rem32 x8 4)] [vi r_157] [(42,m0)]) (fun _=>rfl) (Sim.shift 1 (G:=fun n=>RL sl sc n 4 44 [qr 1,qi x1,qj x2,qn,qn,qi x5,qi r_157,qi x7,qi x8,qi (rem32 x8 4)] [] [(42,m0)]) (fun _=>rfl) (l_replay_b44_ok sl sc x1 x2 x5 r_157 x7 x8 (rem32 x8 4) m0)))))) (fun _=>l_replay_b44_ok sl sc x1 x2 x5 x6 x7 x8 (rem32 x8 4) m0)))) (fun _=>Sim.leaf rfl (fun _=>rfl)))
def l_replay (sl:Int) (sc:Int→Int) (x1 x2 x4:Int) (m0:OMem):Option (Int):=(lp (l_replay_l13 sl sc m0 x1 x2) NN (x4,0,0,0)).bind fun (x5_161,x7_162)=>(some (w32 ((w32 (x7_162*65536))+x5_161)))
theorem l_replay_ok (sl:Int) (sc:Int→Int) (x1 x2 x4:Int) (m0:OMem):Sim (l_replay sl sc x1 x2 x4 m0) (fun r _=>some (some (vi r),[(42,m0)])) (fun n=>RL sl sc n 4 0 [qr 1,qi x1,qj x2,qn,qi x4,qn,qn,qn,qn,qn] [] [(42,m0)]) :=
  Sim.shift 6 (G:=fun n=>RL sl sc n 4 10 [qr 1,qi x1,qj x2,qn,qi x4,qi x4,qi 0,qi 0,qn,qn] [] [(42,m0)]) (fun _=>rfl) (Sim.shift 2 (G:=fun n=>RL sl sc n 4 13 [qr 1,qi x1,qj x2,qn,qi x4,qi x4,qi 0,qi 0,qi 0,qn] [] [(42,m0)]) (fun _=>rfl) (Sim.jmp (Sim.bind (Sim.lp (σ:=Int×Int×Int×Int) (fun ⟨x5L,x6L,x7L,x8L⟩=>l_replay_l13_ok sl sc m0 x1 x2 x5L x6L x7L x8L) NN (x4,0,0,0)) (fun ⟨x5_161,x7_162⟩=>Sim.shift 5 (G:=fun n=>RL sl sc n 4 108 [qn,qn,qn,qn,qn,qi x5_161,qn,qi x7_162,qn,qn] [vi (w32 ((w32 (x7_162*65536))+x5_161))] [(42,m0)]) (fun _=>rfl) (Sim.shift 1 (G:=(fun _=>some (some (vi (w32 ((w32 (x7_162*65536))+x5_161))),[(42,m0)]))) (fun _=>rfl) (Sim.pur _ _)))) rfl (fun _=>rfl)))
def l_law_l29_H (sl:Int) (sc:Int→Int):Int×Int×Int×Int×Int×Int×OMem→Nat→RTL:=fun (x2,x4,x5,x6,x7,x8,m0) n=>RL sl sc n 0 29 [qr 0,qr 1,qj x2,qn,qi x4,qi x5,qi x6,qi x7,qi x8,qn,qn,qn,qn,qn,qn,qn,qn,qn,qn,qn] [] [(42,m0)]
def l_law_l29_X (sl:Int) (sc:Int→Int):(OMem)⊕(OMem)⊕(OMem)⊕(OMem)⊕(OMem)⊕(OMem)⊕(OMem)⊕(OMem)⊕(OMem)⊕(OMem)⊕(OMem)→Nat→RTL:=fun e n=>match e with | (.inl w0)=>RL sl sc n 0 178 [qn,qn,qn,qn,qn,qn,qn,qn,qn,qn,qn,qn,qn,qn,qn,qn,qn,qn,qn,qn] [] [(42,w0)] | (.inr (.inl w0))=>RL sl sc n 0 309 [qn,qn,qn,qn,qn,qn,qn,qn,qn,qn,qn,qn,qn,qn,qn,qn,qn,qn,qn,qn] [] [(42,w0)] | (.inr (.inr (.inl w0)))=>RL sl sc n 0 442 [qn,qn,qn,qn,qn,qn,qn,qn,qn,qn,qn,qn,qn,qn,qn,qn,qn,qn,qn,qn] [] [(42,w0)] | (.inr (.inr (.inr (.inl w0))))=>RL sl sc n 0 472 [qn,qn,qn,qn,qn,qn,qn,qn,qn,qn,qn,qn,qn,qn,qn,qn,qn,qn,qn,qn] [] [(42,w0)] | (.inr (.inr (.inr (.inr (.inl w0)))))=>RL sl sc n 0 493 [qn,qn,qn,qn,qn,qn,qn,qn,qn,qn,qn,qn,qn,qn,qn,qn,qn,qn,qn,qn] [] [(42,w0)] | (.inr (.inr (.inr (.inr (.inr (.inl w0))))))=>RL sl sc n 0 510 [qn,qn,qn,qn,qn,qn,qn,qn,qn,qn,qn,qn,qn,qn,qn,qn,qn,qn,qn,qn] [] [(42,w0)] | (.inr (.inr (.inr (.inr (.inr (.inr (.inl w0)))))))=>RL sl sc n 0 581 [qn,qn,qn,qn,qn,qn,qn,qn,qn,qn,qn,qn,qn,qn,qn,qn,qn,qn,qn,qn] [] [(42,w0)] | (.inr (.inr (.inr (.inr (.inr (.inr (.inr (.inl w0))))))))=>RL sl sc n 0 641 [qn,qn,qn,qn,qn,qn,qn,qn,qn,qn,qn,qn,qn,qn,qn,qn,qn,qn,qn,qn] [] [(42,w0)] | (.inr (.inr (.inr (.inr (.inr (.inr (.inr (.inr (.inl w0)))))))))=>RL sl sc n 0 689 [qn,qn,qn,qn,qn,qn,qn,qn,qn,qn,qn,qn,qn,qn,qn,qn,qn,qn,qn,qn] [] [(42,w0)] | (.inr (.inr (.inr (.inr (.inr (.inr (.inr (.inr (.inr (.inl w0))))))))))=>RL sl sc n 0 714 [qn,qn,qn,qn,qn,qn,qn,qn,qn,qn,qn,qn,qn,qn,qn,qn,qn,qn,qn,qn] [] [(42,w0)] | (.inr (.inr (.inr (.inr (.inr (.inr (.inr (.inr (.inr (.inr w0))))))))))=>RL sl sc n 0 722 [qn,qn,qn,qn,qn,qn,qn,qn,qn,qn,qn,qn,qn,qn,qn,qn,qn,qn,qn,qn] [] [(42,w0)]
def l_law_b698 (sl:Int) (sc:Int→Int) (x2 x4 x5 x6 x7 x8:Int) (m0:OMem):Option ((Int×Int×Int×Int×Int×Int×OMem)⊕((OMem)⊕(OMem)⊕(OMem)⊕(OMem)⊕(OMem)⊕(OMem)⊕(OMem)⊕(OMem)⊕(OMem)⊕(OMem)⊕(OMem))):=(l_agree sl sc x2 x4 x5 x6 x7 m0).bind fun r_133=>(if r_133=0 then (some (.inr (.inr (.inr (.inr (.inr (.inr (.inr (.inr (.inr (.inr (.inl m0)))))))))))) else (some (.inl (x2,x4,x5,x6,x7,w32 (x8+4),m0))))
theorem l_law_b698_ok (sl:Int) (sc:Int→Int) (x2 x4 x5 x6 x7 x8:Int) (m0:OMem):Sim (l_law_b698 sl sc x2 x4 x5 x6 x7 x8 m0) (Sum.elim (l_law_l29_H sl sc ) (l_law_l29_X sl sc )) (fun n=>RL sl sc n 0 698 [qr 0,qr 1,qj x2,qn,qi x4,qi x5,qi x6,qi x7,qi x8,qn,qn,qn,qn,qn,qn,qn,qn,qn,qn,qn] [] [(42,m0)]) :=
  Sim.shift 7 (G:=fun n=>(RL sl sc n 2 0 [qr 1,qj x2,qn,qi x4,qi x5,qi x6,qi x7,qn,qn] [] [(42,m0)]).bind fun y=>RLr sl sc n 0 711 [qr 0,qr 1,qj x2,qn,qi x4,qi x5,qi x6,qi x7,qi x8,qn,qn,qn,qn,qn,qn,qn,qn,qn,qn,qn] [] y) (fun _=>rfl) (Sim.call (l_agree_ok sl sc x2 x4 x5 x6 x7 m0) (fun _ _=>rfl) (runL_mono _ _ _ _ _) (fun _=>runL_mono _ _ _ _ _) (fun r_133=>Sim.shift 0 (G:=fun n=>RL sl sc n 0 711 [qr 0,qr 1,qj x2,qn,qi x4,qi x5,qi x6,qi x7,qi x8,qn,qn,qn,qn,qn,qn,qn,qn,qn,qn,qn] [vi r_133] [(42,m0)]) (fun _=>rfl) (Sim.shift 1 (G:=fun n=>if r_133=0 then RL sl sc n 0 714 [qr 0,qr 1,qj x2,qn,qi x4,qi x5,qi x6,qi x7,qi x8,qn,qn,qn,qn,qn,qn,qn,qn,qn,qn,qn] [] [(42,m0)] else RL sl sc n 0 716 [qr 0,qr 1,qj x2,qn,qi x4,qi x5,qi x6,qi x7,qi x8,qn,qn,qn,qn,qn,qn,qn,qn,qn,qn,qn] [] [(42,m0)]) (fun _=>rfl) (Sim.ite (fun _=>Sim.leaf rfl (fun _=>rfl)) (fun _=>Sim.shift 2 (G:=fun n=>RL sl sc n 0 29 [qr 0,qr 1,qj x2,qn,qi x4,qi x5,qi x6,qi x7,qi (w32 (x8+4)),qn,qn,qn,qn,qn,qn,qn,qn,qn,qn,qn] [] [(42,m0)]) (fun _=>rfl) (Sim.pur _ _))))))
def l_law_b227 (sl:Int) (sc:Int→Int) (x2 x4 x5 x6 x7 x8:Int) (m0:OMem):Option ((Int×Int×Int×Int×Int×Int×OMem)⊕((OMem)⊕(OMem)⊕(OMem)⊕(OMem)⊕(OMem)⊕(OMem)⊕(OMem)⊕(OMem)⊕(OMem)⊕(OMem)⊕(OMem))):=l_law_b698 sl sc x2 x4 x5 x6 x7 x8 m0
theorem l_law_b227_ok (sl:Int) (sc:Int→Int) (x2 x4 x5 x6 x7 x8:Int) (m0:OMem):Sim (l_law_b227 sl sc x2 x4 x5 x6 x7 x8 m0) (Sum.elim (l_law_l29_H sl sc ) (l_law_l29_X sl sc )) (fun n=>RL sl sc n 0 227 [qr 0,qr 1,qj x2,qn,qi x4,qi x5,qi x6,qi x7,qi x8,qn,qn,qn,qn,qn,qn,qn,qn,qn,qn,qn] [] [(42,m0)]) :=
  Sim.shift 1 (G:=fun n=>RL sl sc n 0 698 [qr 0,qr 1,qj x2,qn,qi x4,qi x5,qi x6,qi x7,qi x8,qn,qn,qn,qn,qn,qn,qn,qn,qn,qn,qn] [] [(42,m0)]) (fun _=>rfl) (l_law_b698_ok sl sc x2 x4 x5 x6 x7 x8 m0)
def l_law_b222 (sl:Int) (sc:Int→Int) (x4 x5 x6 x8 s0:Int) (m0:OMem):Option ((Int×Int×Int×Int×Int×Int×OMem)⊕((OMem)⊕(OMem)⊕(OMem)⊕(OMem)⊕(OMem)⊕(OMem)⊕(OMem)⊕(OMem)⊕(OMem)⊕(OMem)⊕(OMem))):=l_law_b227 sl sc s0 x4 x5 x6 (-2) x8 m0
theorem l_law_b222_ok (sl:Int) (sc:Int→Int) (x4 x5 x6 x8 s0:Int) (m0:OMem):Sim (l_law_b222 sl sc x4 x5 x6 x8 s0 m0) (Sum.elim (l_law_l29_H sl sc ) (l_law_l29_X sl sc )) (fun n=>RL sl sc n 0 222 [qr 0,qr 1,qn,qn,qi x4,qi x5,qi x6,qn,qi x8,qn,qn,qn,qn,qn,qn,qn,qn,qn,qn,qn] [vl s0] [(42,m0)]) :=
  Sim.shift 3 (G:=fun n=>RL sl sc n 0 227 [qr 0,qr 1,qj s0,qn,qi x4,qi x5,qi x6,qi (-2),qi x8,qn,qn,qn,qn,qn,qn,qn,qn,qn,qn,qn] [] [(42,m0)]) (fun _=>rfl) (l_law_b227_ok sl sc s0 x4 x5 x6 (-2) x8 m0)
def l_law_b159 (sl:Int) (sc:Int→Int) (x2 x4 x5 x6 x7 x8 x13 x14 x15 x16 s0:Int) (m0:OMem):Option ((Int×Int×Int×Int×Int×Int×OMem)⊕((OMem)⊕(OMem)⊕(OMem)⊕(OMem)⊕(OMem)⊕(OMem)⊕(OMem)⊕(OMem)⊕(OMem)⊕(OMem)⊕(OMem))):=(f_setFact x13 x14 x15 x16 m0).bind fun (r_125,m_126)=>(if r_125=s0 then (if s0=0 then (l_law_b227 sl sc x2 x4 x5 x6 x7 x8 m_126) else (if x16=0 then (l_law_b222 sl sc x4 x5 x6 x8 (and64 x2 (xor64 (shl64 1 (w32 ((w32 ((w32 (x13*12))+(w32 (x14*4))))+x15))) (-1))) m_126) else (l_law_b222 sl sc x4 x5 x6 x8 (or64 x2 (shl64 1 (w32 ((w32 ((w32 (x13*12))+(w32 (x14*4))))+x15)))) m_126))) else (some (.inr (.inl m_126))))
theorem l_law_b159_ok (sl:Int) (sc:Int→Int) (x2 x4 x5 x6 x7 x8 x13 x14 x15 x16 s0:Int) (m0:OMem):Sim (l_law_b159 sl sc x2 x4 x5 x6 x7 x8 x13 x14 x15 x16 s0 m0) (Sum.elim (l_law_l29_H sl sc ) (l_law_l29_X sl sc )) (fun n=>RL sl sc n 0 159 [qr 0,qr 1,qj x2,qn,qi x4,qi x5,qi x6,qi x7,qi x8,qn,qn,qn,qn,qi x13,qi x14,qi x15,qi x16,qn,qn,qn] [vi s0] [(42,m0)]) :=
  Sim.shift 7 (G:=fun n=>(R n 39 0 [qr 0,qi x13,qi x14,qi x15,qi x16,qn] [] 42 m0).bind fun y=>RLv sl sc n 0 173 [qr 0,qr 1,qj x2,qn,qi x4,qi x5,qi x6,qi x7,qi x8,qn,qn,qn,qn,qi x13,qi x14,qi x15,qi x16,qi s0,qn,qn] [] [(42,m0)] 0 y) (fun _=>rfl) (Sim.call (f_setFact_ok x13 x14 x15 x16 m0) (fun _ _=>rfl) (runP_mono _ _ _ _ _ _) (fun _=>runL_mono _ _ _ _ _) (fun ⟨r_125,m_126⟩=>Sim.shift 0 (G:=fun n=>RL sl sc n 0 173 [qr 0,qr 1,qj x2,qn,qi x4,qi x5,qi x6,qi x7,qi x8,qn,qn,qn,qn,qi x13,qi x14,qi x15,qi x16,qi s0,qn,qn] [vi r_125] [(42,m_126)]) (fun _=>rfl) (Sim.shift 2 (G:=fun n=>if r_125=s0 then RL sl sc n 0 180 [qr 0,qr 1,qj x2,qn,qi x4,qi x5,qi x6,qi x7,qi x8,qn,qn,qn,qn,qi x13,qi x14,qi x15,qi x16,qi s0,qn,qn] [] [(42,m_126)] else RL sl sc n 0 178 [qr 0,qr 1,qj x2,qn,qi x4,qi x5,qi x6,qi x7,qi x8,qn,qn,qn,qn,qi x13,qi x14,qi x15,qi x16,qi s0,qn,qn] [] [(42,m_126)]) (fun _=>rfl) (Sim.ite (fun _=>Sim.shift 2 (G:=fun n=>if s0=0 then RL sl sc n 0 227 [qr 0,qr 1,qj x2,qn,qi x4,qi x5,qi x6,qi x7,qi x8,qn,qn,qn,qn,qi x13,qi x14,qi x15,qi x16,qi s0,qn,qn] [] [(42,m_126)] else RL sl sc n 0 185 [qr 0,qr 1,qj x2,qn,qi x4,qi x5,qi x6,qi x7,qi x8,qn,qn,qn,qn,qi x13,qi x14,qi x15,qi x16,qi s0,qn,qn] [] [(42,m_126)]) (fun _=>rfl) (Sim.ite (fun _=>Sim.jmp (l_law_b227_ok sl sc x2 x4 x5 x6 x7 x8 m_126) rfl (fun _=>rfl)) (fun _=>Sim.shift 6 (G:=fun n=>RL sl sc n 0 194 [qr 0,qr 1,qj x2,qn,qi x4,qi x5,qi x6,qn,qi x8,qn,qn,qn,qn,qi x13,qi x14,qi x15,qi x16,qn,qn,qn] [vi 4,vi x14,vi (w32 (x13*12)),vl 1] [(42,m_126)]) (fun _=>rfl) (Sim.shift 4 (G:=fun n=>RL sl sc n 0 199 [qr 0,qr 1,qj x2,qn,qi x4,qi x5,qi x6,qn,qi x8,qn,qn,qn,qn,qi x13,qi x14,qi x15,qi x16,qn,qn,qn] [vi (w32 ((w32 ((w32 (x13*12))+(w32 (x14*4))))+x15)),vl 1] [(42,m_126)]) (fun _=>rfl) (Sim.shift 2 (G:=fun n=>RL sl sc n 0 202 [qr 0,qr 1,qj x2,qn,qi x4,qi x5,qi x6,qn,qi x8,qn,qn,qn,qn,qi x13,qi x14,qi x15,qi x16,qn,qj (shl64 1 (w32 ((w32 ((w32 (x13*12))+(w32 (x14*4))))+x15))),qn] [] [(42,m_126)]) (fun _=>rfl) (Sim.shift 2 (G:=fun n=>if x16=0 then RL sl sc n 0 214 [qr 0,qr 1,qj x2,qn,qi x4,qi x5,qi x6,qn,qi x8,qn,qn,qn,qn,qi x13,qi x14,qi x15,qi x16,qn,qj (shl64 1 (w32 ((w32 ((w32 (x13*12))+(w32 (x14*4))))+x15))),qn] [] [(42,m_126)] else RL sl sc n 0 207 [qr 0,qr 1,qj x2,qn,qi x4,qi x5,qi x6,qn,qi x8,qn,qn,qn,qn,qi x13,qi x14,qi x15,qi x16,qn,qj (shl64 1 (w32 ((w32 ((w32 (x13*12))+(w32 (x14*4))))+x15))),qn] [] [(42,m_126)]) (fun _=>rfl) (Sim.ite (fun _=>Sim.shift 5 (G:=fun n=>RL sl sc n 0 222 [qr 0,qr 1,qj x2,qn,qi x4,qi x5,qi x6,qn,qi x8,qn,qn,qn,qn,qn,qn,qn,qn,qn,qj (shl64 1 (w32 ((w32 ((w32 (x13*12))+(w32 (x14*4))))+x15))),qn] [vl (and64 x2 (xor64 (shl64 1 (w32 ((w32 ((w32 (x13*12))+(w32 (x14*4))))+x15))) (-1)))] [(42,m_126)]) (fun _=>rfl) (Sim.jmp (l_law_b222_ok sl sc x4 x5 x6 x8 (and64 x2 (xor64 (shl64 1 (w32 ((w32 ((w32 (x13*12))+(w32 (x14*4))))+x15))) (-1))) m_126) rfl (fun _=>rfl))) (fun _=>Sim.shift 4 (G:=fun n=>RL sl sc n 0 222 [qr 0,qr 1,qj x2,qn,qi x4,qi x5,qi x6,qn,qi x8,qn,qn,qn,qn,qn,qn,qn,qn,qn,qj (shl64 1 (w32 ((w32 ((w32 (x13*12))+(w32 (x14*4))))+x15))),qn] [vl (or64 x2 (shl64 1 (w32 ((w32 ((w32 (x13*12))+(w32 (x14*4))))+x15))))] [(42,m_126)]) (fun _=>rfl) (Sim.jmp (l_law_b222_ok sl sc x4 x5 x6 x8 (or64 x2 (shl64 1 (w32 ((w32 ((w32 (x13*12))+(w32 (x14*4))))+x15)))) m_126) rfl (fun _=>rfl)))))))))) (fun _=>Sim.leaf rfl (fun _=>rfl))))))
def l_law_b158 (sl:Int) (sc:Int→Int) (x2 x4 x5 x6 x7 x8 x13 x14 x15 x16:Int) (m0:OMem):Option ((Int×Int×Int×Int×Int×Int×OMem)⊕((OMem)⊕(OMem)⊕(OMem)⊕(OMem)⊕(OMem)⊕(OMem)⊕(OMem)⊕(OMem)⊕(OMem)⊕(OMem)⊕(OMem))):=l_law_b159 sl sc x2 x4 x5 x6 x7 x8 x13 x14 x15 x16 0 m0
theorem l_law_b158_ok (sl:Int) (sc:Int→Int) (x2 x4 x5 x6 x7 x8 x13 x14 x15 x16:Int) (m0:OMem):Sim (l_law_b158 sl sc x2 x4 x5 x6 x7 x8 x13 x14 x15 x16 m0) (Sum.elim (l_law_l29_H sl sc ) (l_law_l29_X sl sc )) (fun n=>RL sl sc n 0 158 [qr 0,qr 1,qj x2,qn,qi x4,qi x5,qi x6,qi x7,qi x8,qn,qn,qn,qn,qi x13,qi x14,qi x15,qi x16,qn,qn,qn] [] [(42,m0)]) :=
  Sim.shift 1 (G:=fun n=>RL sl sc n 0 159 [qr 0,qr 1,qj x2,qn,qi x4,qi x5,qi x6,qi x7,qi x8,qn,qn,qn,qn,qi x13,qi x14,qi x15,qi x16,qn,qn,qn] [vi 0] [(42,m0)]) (fun _=>rfl) (l_law_b159_ok sl sc x2 x4 x5 x6 x7 x8 x13 x14 x15 x16 0 m0)
def l_law_b134 (sl:Int) (sc:Int→Int) (x2 x4 x5 x6 x7 x8 x13 x14 x15 s0:Int) (m0:OMem):Option ((Int×Int×Int×Int×Int×Int×OMem)⊕((OMem)⊕(OMem)⊕(OMem)⊕(OMem)⊕(OMem)⊕(OMem)⊕(OMem)⊕(OMem)⊕(OMem)⊕(OMem)⊕(OMem))):=if x13<4 then (if x14<3 then (if x15<4 then (l_law_b159 sl sc x2 x4 x5 x6 x7 x8 x13 x14 x15 s0 1 m0) else (l_law_b158 sl sc x2 x4 x5 x6 x7 x8 x13 x14 x15 s0 m0)) else (l_law_b158 sl sc x2 x4 x5 x6 x7 x8 x13 x14 x15 s0 m0)) else (l_law_b158 sl sc x2 x4 x5 x6 x7 x8 x13 x14 x15 s0 m0)
theorem l_law_b134_ok (sl:Int) (sc:Int→Int) (x2 x4 x5 x6 x7 x8 x13 x14 x15 s0:Int) (m0:OMem):Sim (l_law_b134 sl sc x2 x4 x5 x6 x7 x8 x13 x14 x15 s0 m0) (Sum.elim (l_law_l29_H sl sc ) (l_law_l29_X sl sc )) (fun n=>RL sl sc n 0 134 [qr 0,qr 1,qj x2,qn,qi x4,qi x5,qi x6,qi x7,qi x8,qn,qn,qn,qn,qi x13,qi x14,qi x15,qn,qn,qn,qn] [vi s0] [(42,m0)]) :=
  Sim.shift 4 (G:=fun n=>if x13<4 then RL sl sc n 0 142 [qr 0,qr 1,qj x2,qn,qi x4,qi x5,qi x6,qi x7,qi x8,qn,qn,qn,qn,qi x13,qi x14,qi x15,qi s0,qn,qn,qn] [] [(42,m0)] else RL sl sc n 0 158 [qr 0,qr 1,qj x2,qn,qi x4,qi x5,qi x6,qi x7,qi x8,qn,qn,qn,qn,qi x13,qi x14,qi x15,qi s0,qn,qn,qn] [] [(42,m0)]) (fun _=>rfl) (Sim.ite (fun _=>Sim.shift 3 (G:=fun n=>if x14<3 then RL sl sc n 0 148 [qr 0,qr 1,qj x2,qn,qi x4,qi x5,qi x6,qi x7,qi x8,qn,qn,qn,qn,qi x13,qi x14,qi x15,qi s0,qn,qn,qn] [] [(42,m0)] else RL sl sc n 0 158 [qr 0,qr 1,qj x2,qn,qi x4,qi x5,qi x6,qi x7,qi x8,qn,qn,qn,qn,qi x13,qi x14,qi x15,qi s0,qn,qn,qn] [] [(42,m0)]) (fun _=>rfl) (Sim.ite (fun _=>Sim.shift 3 (G:=fun n=>if x15<4 then RL sl sc n 0 154 [qr 0,qr 1,qj x2,qn,qi x4,qi x5,qi x6,qi x7,qi x8,qn,qn,qn,qn,qi x13,qi x14,qi x15,qi s0,qn,qn,qn] [] [(42,m0)] else RL sl sc n 0 158 [qr 0,qr 1,qj x2,qn,qi x4,qi x5,qi x6,qi x7,qi x8,qn,qn,qn,qn,qi x13,qi x14,qi x15,qi s0,qn,qn,qn] [] [(42,m0)]) (fun _=>rfl) (Sim.ite (fun _=>Sim.shift 2 (G:=fun n=>RL sl sc n 0 159 [qr 0,qr 1,qj x2,qn,qi x4,qi x5,qi x6,qi x7,qi x8,qn,qn,qn,qn,qi x13,qi x14,qi x15,qi s0,qn,qn,qn] [vi 1] [(42,m0)]) (fun _=>rfl) (l_law_b159_ok sl sc x2 x4 x5 x6 x7 x8 x13 x14 x15 s0 1 m0)) (fun _=>l_law_b158_ok sl sc x2 x4 x5 x6 x7 x8 x13 x14 x15 s0 m0))) (fun _=>l_law_b158_ok sl sc x2 x4 x5 x6 x7 x8 x13 x14 x15 s0 m0))) (fun _=>l_law_b158_ok sl sc x2 x4 x5 x6 x7 x8 x13 x14 x15 s0 m0))
def l_law_b129 (sl:Int) (sc:Int→Int) (x2 x4 x5 x6 x7 x8 x13 x14 x15:Int) (m0:OMem):Option ((Int×Int×Int×Int×Int×Int×OMem)⊕((OMem)⊕(OMem)⊕(OMem)⊕(OMem)⊕(OMem)⊕(OMem)⊕(OMem)⊕(OMem)⊕(OMem)⊕(OMem)⊕(OMem))):=l_law_b134 sl sc x2 x4 x5 x6 x7 x8 x13 x14 x15 1 m0
theorem l_law_b129_ok (sl:Int) (sc:Int→Int) (x2 x4 x5 x6 x7 x8 x13 x14 x15:Int) (m0:OMem):Sim (l_law_b129 sl sc x2 x4 x5 x6 x7 x8 x13 x14 x15 m0) (Sum.elim (l_law_l29_H sl sc ) (l_law_l29_X sl sc )) (fun n=>RL sl sc n 0 129 [qr 0,qr 1,qj x2,qn,qi x4,qi x5,qi x6,qi x7,qi x8,qn,qn,qn,qn,qi x13,qi x14,qi x15,qn,qn,qn,qn] [] [(42,m0)]) :=
  Sim.shift 2 (G:=fun n=>RL sl sc n 0 134 [qr 0,qr 1,qj x2,qn,qi x4,qi x5,qi x6,qi x7,qi x8,qn,qn,qn,qn,qi x13,qi x14,qi x15,qn,qn,qn,qn] [vi 1] [(42,m0)]) (fun _=>rfl) (l_law_b134_ok sl sc x2 x4 x5 x6 x7 x8 x13 x14 x15 1 m0)
def l_law_b93 (sl:Int) (sc:Int→Int) (x2 x4 x5 x6 x7 x8 x9 x11 x12 x13:Int) (m0:OMem):Option ((Int×Int×Int×Int×Int×Int×OMem)⊕((OMem)⊕(OMem)⊕(OMem)⊕(OMem)⊕(OMem)⊕(OMem)⊕(OMem)⊕(OMem)⊕(OMem)⊕(OMem)⊕(OMem))):=if x9=7 then (l_law_b129 sl sc x2 x4 x5 x6 x7 x8 x13 (rem32 (and32 x11 255) 4) (rem32 (and32 x12 255) 5) m0) else (if and32 x12 256=0 then (l_law_b134 sl sc x2 x4 x5 x6 x7 x8 x13 (rem32 (and32 x11 255) 4) (rem32 (and32 x12 255) 5) 0 m0) else (l_law_b129 sl sc x2 x4 x5 x6 x7 x8 x13 (rem32 (and32 x11 255) 4) (rem32 (and32 x12 255) 5) m0))
theorem l_law_b93_ok (sl:Int) (sc:Int→Int) (x2 x4 x5 x6 x7 x8 x9 x11 x12 x13:Int) (m0:OMem):Sim (l_law_b93 sl sc x2 x4 x5 x6 x7 x8 x9 x11 x12 x13 m0) (Sum.elim (l_law_l29_H sl sc ) (l_law_l29_X sl sc )) (fun n=>RL sl sc n 0 93 [qr 0,qr 1,qj x2,qn,qi x4,qi x5,qi x6,qi x7,qi x8,qi x9,qn,qi x11,qi x12,qi x13,qn,qn,qn,qn,qn,qn] [] [(42,m0)]) :=
  Sim.shift 4 (G:=fun n=>RL sl sc n 0 100 [qr 0,qr 1,qj x2,qn,qi x4,qi x5,qi x6,qi x7,qi x8,qi x9,qn,qi x11,qi x12,qi x13,qn,qn,qn,qn,qn,qn] [vi 4,vi (and32 x11 255)] [(42,m0)]) (fun _=>rfl) (Sim.shift 2 (G:=fun n=>RL sl sc n 0 103 [qr 0,qr 1,qj x2,qn,qi x4,qi x5,qi x6,qi x7,qi x8,qi x9,qn,qi x11,qi x12,qi x13,qi (rem32 (and32 x11 255) 4),qn,qn,qn,qn,qn] [] [(42,m0)]) (fun _=>rfl) (Sim.shift 4 (G:=fun n=>RL sl sc n 0 110 [qr 0,qr 1,qj x2,qn,qi x4,qi x5,qi x6,qi x7,qi x8,qi x9,qn,qi x11,qi x12,qi x13,qi (rem32 (and32 x11 255) 4),qn,qn,qn,qn,qn] [vi 5,vi (and32 x12 255)] [(42,m0)]) (fun _=>rfl) (Sim.shift 2 (G:=fun n=>RL sl sc n 0 113 [qr 0,qr 1,qj x2,qn,qi x4,qi x5,qi x6,qi x7,qi x8,qi x9,qn,qi x11,qi x12,qi x13,qi (rem32 (and32 x11 255) 4),qi (rem32 (and32 x12 255) 5),qn,qn,qn,qn] [] [(42,m0)]) (fun _=>rfl) (Sim.shift 3 (G:=fun n=>if x9=7 then RL sl sc n 0 129 [qr 0,qr 1,qj x2,qn,qi x4,qi x5,qi x6,qi x7,qi x8,qi x9,qn,qi x11,qi x12,qi x13,qi (rem32 (and32 x11 255) 4),qi (rem32 (and32 x12 255) 5),qn,qn,qn,qn] [] [(42,m0)] else RL sl sc n 0 120 [qr 0,qr 1,qj x2,qn,qi x4,qi x5,qi x6,qi x7,qi x8,qi x9,qn,qi x11,qi x12,qi x13,qi (rem32 (and32 x11 255) 4),qi (rem32 (and32 x12 255) 5),qn,qn,qn,qn] [] [(42,m0)]) (fun _=>rfl) (Sim.ite (fun _=>Sim.jmp (l_law_b129_ok sl sc x2 x4 x5 x6 x7 x8 x13 (rem32 (and32 x11 255) 4) (rem32 (and32 x12 255) 5) m0) rfl (fun _=>rfl)) (fun _=>Sim.shift 4 (G:=fun n=>if and32 x12 256=0 then RL sl sc n 0 133 [qr 0,qr 1,qj x2,qn,qi x4,qi x5,qi x6,qi x7,qi x8,qn,qn,qn,qi x12,qi x13,qi (rem32 (and32 x11 255) 4),qi (rem32 (and32 x12 255) 5),qn,qn,qn,qn] [] [(42,m0)] else RL sl sc n 0 129 [qr 0,qr 1,qj x2,qn,qi x4,qi x5,qi x6,qi x7,qi x8,qn,qn,qn,qi x12,qi x13,qi (rem32 (and32 x11 255) 4),qi (rem32 (and32 x12 255) 5),qn,qn,qn,qn] [] [(42,m0)]) (fun _=>rfl) (Sim.ite (fun _=>Sim.shift 1 (G:=fun n=>RL sl sc n 0 134 [qr 0,qr 1,qj x2,qn,qi x4,qi x5,qi x6,qi x7,qi x8,qn,qn,qn,qn,qi x13,qi (rem32 (and32 x11 255) 4),qi (rem32 (and32 x12 255) 5),qn,qn,qn,qn] [vi 0] [(42,m0)]) (fun _=>rfl) (l_law_b134_ok sl sc x2 x4 x5 x6 x7 x8 x13 (rem32 (and32 x11 255) 4) (rem32 (and32 x12 255) 5) 0 m0)) (fun _=>Sim.jmp (l_law_b129_ok sl sc x2 x4 x5 x6 x7 x8 x13 (rem32 (and32 x11 255) 4) (rem32 (and32 x12 255) 5) m0) rfl (fun _=>rfl)))))))))
def l_law_b380 (sl:Int) (sc:Int→Int) (x2 x4 x5 x6 x7 x8:Int) (m0:OMem):Option ((Int×Int×Int×Int×Int×Int×OMem)⊕((OMem)⊕(OMem)⊕(OMem)⊕(OMem)⊕(OMem)⊕(OMem)⊕(OMem)⊕(OMem)⊕(OMem)⊕(OMem)⊕(OMem))):=l_law_b698 sl sc x2 x4 x5 x6 x7 x8 m0
theorem l_law_b380_ok (sl:Int) (sc:Int→Int) (x2 x4 x5 x6 x7 x8:Int) (m0:OMem):Sim (l_law_b380 sl sc x2 x4 x5 x6 x7 x8 m0) (Sum.elim (l_law_l29_H sl sc ) (l_law_l29_X sl sc )) (fun n=>RL sl sc n 0 380 [qr 0,qr 1,qj x2,qn,qi x4,qi x5,qi x6,qi x7,qi x8,qn,qn,qn,qn,qn,qn,qn,qn,qn,qn,qn] [] [(42,m0)]) :=
  Sim.shift 1 (G:=fun n=>RL sl sc n 0 698 [qr 0,qr 1,qj x2,qn,qi x4,qi x5,qi x6,qi x7,qi x8,qn,qn,qn,qn,qn,qn,qn,qn,qn,qn,qn] [] [(42,m0)]) (fun _=>rfl) (l_law_b698_ok sl sc x2 x4 x5 x6 x7 x8 m0)
def l_law_b376 (sl:Int) (sc:Int→Int) (x2 x4 x5 x6 x8:Int) (m0:OMem):Option ((Int×Int×Int×Int×Int×Int×OMem)⊕((OMem)⊕(OMem)⊕(OMem)⊕(OMem)⊕(OMem)⊕(OMem)⊕(OMem)⊕(OMem)⊕(OMem)⊕(OMem)⊕(OMem))):=l_law_b380 sl sc x2 x4 x5 x6 (-2) x8 m0
theorem l_law_b376_ok (sl:Int) (sc:Int→Int) (x2 x4 x5 x6 x8:Int) (m0:OMem):Sim (l_law_b376 sl sc x2 x4 x5 x6 x8 m0) (Sum.elim (l_law_l29_H sl sc ) (l_law_l29_X sl sc )) (fun n=>RL sl sc n 0 376 [qr 0,qr 1,qj x2,qn,qi x4,qi x5,qi x6,qn,qi x8,qn,qn,qn,qn,qn,qn,qn,qn,qn,qn,qn] [] [(42,m0)]) :=
  Sim.shift 2 (G:=fun n=>RL sl sc n 0 380 [qr 0,qr 1,qj x2,qn,qi x4,qi x5,qi x6,qi (-2),qi x8,qn,qn,qn,qn,qn,qn,qn,qn,qn,qn,qn] [] [(42,m0)]) (fun _=>rfl) (l_law_b380_ok sl sc x2 x4 x5 x6 (-2) x8 m0)
def l_law_b349 (sl:Int) (sc:Int→Int) (x2 x5 x6 x8 s0:Int) (m0:OMem):Option ((Int×Int×Int×Int×Int×Int×OMem)⊕((OMem)⊕(OMem)⊕(OMem)⊕(OMem)⊕(OMem)⊕(OMem)⊕(OMem)⊕(OMem)⊕(OMem)⊕(OMem)⊕(OMem))):=l_law_b376 sl sc x2 s0 x5 x6 x8 m0
theorem l_law_b349_ok (sl:Int) (sc:Int→Int) (x2 x5 x6 x8 s0:Int) (m0:OMem):Sim (l_law_b349 sl sc x2 x5 x6 x8 s0 m0) (Sum.elim (l_law_l29_H sl sc ) (l_law_l29_X sl sc )) (fun n=>RL sl sc n 0 349 [qr 0,qr 1,qj x2,qn,qn,qi x5,qi x6,qn,qi x8,qn,qn,qn,qn,qn,qn,qn,qn,qn,qn,qn] [vi s0] [(42,m0)]) :=
  Sim.shift 2 (G:=fun n=>RL sl sc n 0 376 [qr 0,qr 1,qj x2,qn,qi s0,qi x5,qi x6,qn,qi x8,qn,qn,qn,qn,qn,qn,qn,qn,qn,qn,qn] [] [(42,m0)]) (fun _=>rfl) (l_law_b376_ok sl sc x2 s0 x5 x6 x8 m0)
def l_law_b374 (sl:Int) (sc:Int→Int) (x2 x4 x6 x8 s0:Int) (m0:OMem):Option ((Int×Int×Int×Int×Int×Int×OMem)⊕((OMem)⊕(OMem)⊕(OMem)⊕(OMem)⊕(OMem)⊕(OMem)⊕(OMem)⊕(OMem)⊕(OMem)⊕(OMem)⊕(OMem))):=l_law_b376 sl sc x2 x4 s0 x6 x8 m0
theorem l_law_b374_ok (sl:Int) (sc:Int→Int) (x2 x4 x6 x8 s0:Int) (m0:OMem):Sim (l_law_b374 sl sc x2 x4 x6 x8 s0 m0) (Sum.elim (l_law_l29_H sl sc ) (l_law_l29_X sl sc )) (fun n=>RL sl sc n 0 374 [qr 0,qr 1,qj x2,qn,qi x4,qn,qi x6,qn,qi x8,qn,qn,qn,qn,qn,qn,qn,qn,qn,qn,qn] [vi s0] [(42,m0)]) :=
  Sim.shift 1 (G:=fun n=>RL sl sc n 0 376 [qr 0,qr 1,qj x2,qn,qi x4,qi s0,qi x6,qn,qi x8,qn,qn,qn,qn,qn,qn,qn,qn,qn,qn,qn] [] [(42,m0)]) (fun _=>rfl) (l_law_b376_ok sl sc x2 x4 s0 x6 x8 m0)
def l_law_b306 (sl:Int) (sc:Int→Int) (x2 x4 x5 x6 x7 x8 x9 x14 x15 s0 s1:Int) (m0:OMem):Option ((Int×Int×Int×Int×Int×Int×OMem)⊕((OMem)⊕(OMem)⊕(OMem)⊕(OMem)⊕(OMem)⊕(OMem)⊕(OMem)⊕(OMem)⊕(OMem)⊕(OMem)⊕(OMem))):=if s0=s1 then (if x14<4 then (if x9=1 then (if x15=0 then (l_law_b349 sl sc x2 x5 x6 x8 (and32 x4 (xor32 (shl32 1 x14) (-1))) m0) else (l_law_b349 sl sc x2 x5 x6 x8 (or32 x4 (shl32 1 x14)) m0)) else (if x15=0 then (l_law_b374 sl sc x2 x4 x6 x8 (and32 x5 (xor32 (shl32 1 x14) (-1))) m0) else (l_law_b374 sl sc x2 x4 x6 x8 (or32 x5 (shl32 1 x14)) m0))) else (l_law_b380 sl sc x2 x4 x5 x6 x7 x8 m0)) else (some (.inr (.inr (.inl m0))))
theorem l_law_b306_ok (sl:Int) (sc:Int→Int) (x2 x4 x5 x6 x7 x8 x9 x14 x15 s0 s1:Int) (m0:OMem):Sim (l_law_b306 sl sc x2 x4 x5 x6 x7 x8 x9 x14 x15 s0 s1 m0) (Sum.elim (l_law_l29_H sl sc ) (l_law_l29_X sl sc )) (fun n=>RL sl sc n 0 306 [qr 0,qr 1,qj x2,qn,qi x4,qi x5,qi x6,qi x7,qi x8,qi x9,qn,qn,qn,qn,qi x14,qi x15,qn,qn,qn,qn] [vi s1,vi s0] [(42,m0)]) :=
  Sim.shift 1 (G:=fun n=>if s0=s1 then RL sl sc n 0 311 [qr 0,qr 1,qj x2,qn,qi x4,qi x5,qi x6,qi x7,qi x8,qi x9,qn,qn,qn,qn,qi x14,qi x15,qn,qn,qn,qn] [] [(42,m0)] else RL sl sc n 0 309 [qr 0,qr 1,qj x2,qn,qi x4,qi x5,qi x6,qi x7,qi x8,qi x9,qn,qn,qn,qn,qi x14,qi x15,qn,qn,qn,qn] [] [(42,m0)]) (fun _=>rfl) (Sim.ite (fun _=>Sim.shift 3 (G:=fun n=>if x14<4 then RL sl sc n 0 317 [qr 0,qr 1,qj x2,qn,qi x4,qi x5,qi x6,qi x7,qi x8,qi x9,qn,qn,qn,qn,qi x14,qi x15,qn,qn,qn,qn] [] [(42,m0)] else RL sl sc n 0 380 [qr 0,qr 1,qj x2,qn,qi x4,qi x5,qi x6,qi x7,qi x8,qi x9,qn,qn,qn,qn,qi x14,qi x15,qn,qn,qn,qn] [] [(42,m0)]) (fun _=>rfl) (Sim.ite (fun _=>Sim.shift 5 (G:=fun n=>RL sl sc n 0 325 [qr 0,qr 1,qj x2,qn,qi x4,qi x5,qi x6,qn,qi x8,qi x9,qn,qn,qn,qn,qi x14,qi x15,qn,qi (shl32 1 x14),qn,qn] [vi x9] [(42,m0)]) (fun _=>rfl) (Sim.shift 2 (G:=fun n=>if x9=1 then RL sl sc n 0 329 [qr 0,qr 1,qj x2,qn,qi x4,qi x5,qi x6,qn,qi x8,qi x9,qn,qn,qn,qn,qi x14,qi x15,qn,qi (shl32 1 x14),qn,qn] [] [(42,m0)] else RL sl sc n 0 354 [qr 0,qr 1,qj x2,qn,qi x4,qi x5,qi x6,qn,qi x8,qi x9,qn,qn,qn,qn,qi x14,qi x15,qn,qi (shl32 1 x14),qn,qn] [] [(42,m0)]) (fun _=>rfl) (Sim.ite (fun _=>Sim.shift 2 (G:=fun n=>if x15=0 then RL sl sc n 0 342 [qr 0,qr 1,qj x2,qn,qi x4,qi x5,qi x6,qn,qi x8,qn,qn,qn,qn,qn,qn,qi x15,qn,qi (shl32 1 x14),qn,qn] [] [(42,m0)] else RL sl sc n 0 334 [qr 0,qr 1,qj x2,qn,qi x4,qi x5,qi x6,qn,qi x8,qn,qn,qn,qn,qn,qn,qi x15,qn,qi (shl32 1 x14),qn,qn] [] [(42,m0)]) (fun _=>rfl) (Sim.ite (fun _=>Sim.shift 5 (G:=fun n=>RL sl sc n 0 349 [qr 0,qr 1,qj x2,qn,qi x4,qi x5,qi x6,qn,qi x8,qn,qn,qn,qn,qn,qn,qn,qn,qi (shl32 1 x14),qn,qn] [vi (and32 x4 (xor32 (shl32 1 x14) (-1)))] [(42,m0)]) (fun _=>rfl) (Sim.jmp (l_law_b349_ok sl sc x2 x5 x6 x8 (and32 x4 (xor32 (shl32 1 x14) (-1))) m0) rfl (fun _=>rfl))) (fun _=>Sim.shift 4 (G:=fun n=>RL sl sc n 0 349 [qr 0,qr 1,qj x2,qn,qi x4,qi x5,qi x6,qn,qi x8,qn,qn,qn,qn,qn,qn,qn,qn,qi (shl32 1 x14),qn,qn] [vi (or32 x4 (shl32 1 x14))] [(42,m0)]) (fun _=>rfl) (Sim.jmp (l_law_b349_ok sl sc x2 x5 x6 x8 (or32 x4 (shl32 1 x14)) m0) rfl (fun _=>rfl))))) (fun _=>Sim.shift 2 (G:=fun n=>if x15=0 then RL sl sc n 0 367 [qr 0,qr 1,qj x2,qn,qi x4,qi x5,qi x6,qn,qi x8,qn,qn,qn,qn,qn,qn,qi x15,qn,qi (shl32 1 x14),qn,qn] [] [(42,m0)] else RL sl sc n 0 359 [qr 0,qr 1,qj x2,qn,qi x4,qi x5,qi x6,qn,qi x8,qn,qn,qn,qn,qn,qn,qi x15,qn,qi (shl32 1 x14),qn,qn] [] [(42,m0)]) (fun _=>rfl) (Sim.ite (fun _=>Sim.shift 5 (G:=fun n=>RL sl sc n 0 374 [qr 0,qr 1,qj x2,qn,qi x4,qi x5,qi x6,qn,qi x8,qn,qn,qn,qn,qn,qn,qn,qn,qi (shl32 1 x14),qn,qn] [vi (and32 x5 (xor32 (shl32 1 x14) (-1)))] [(42,m0)]) (fun _=>rfl) (Sim.jmp (l_law_b374_ok sl sc x2 x4 x6 x8 (and32 x5 (xor32 (shl32 1 x14) (-1))) m0) rfl (fun _=>rfl))) (fun _=>Sim.shift 4 (G:=fun n=>RL sl sc n 0 374 [qr 0,qr 1,qj x2,qn,qi x4,qi x5,qi x6,qn,qi x8,qn,qn,qn,qn,qn,qn,qn,qn,qi (shl32 1 x14),qn,qn] [vi (or32 x5 (shl32 1 x14))] [(42,m0)]) (fun _=>rfl) (Sim.jmp (l_law_b374_ok sl sc x2 x4 x6 x8 (or32 x5 (shl32 1 x14)) m0) rfl (fun _=>rfl)))))))) (fun _=>Sim.jmp (l_law_b380_ok sl sc x2 x4 x5 x6 x7 x8 m0) rfl (fun _=>rfl)))) (fun _=>Sim.leaf rfl (fun _=>rfl)))
def l_law_b291 (sl:Int) (sc:Int→Int) (x2 x4 x5 x6 x7 x8 x9 x14 x15 s0:Int) (m0:OMem):Option ((Int×Int×Int×Int×Int×Int×OMem)⊕((OMem)⊕(OMem)⊕(OMem)⊕(OMem)⊕(OMem)⊕(OMem)⊕(OMem)⊕(OMem)⊕(OMem)⊕(OMem)⊕(OMem))):=if x14<4 then (l_law_b306 sl sc x2 x4 x5 x6 x7 x8 x9 x14 x15 s0 1 m0) else (l_law_b306 sl sc x2 x4 x5 x6 x7 x8 x9 x14 x15 s0 0 m0)
theorem l_law_b291_ok (sl:Int) (sc:Int→Int) (x2 x4 x5 x6 x7 x8 x9 x14 x15 s0:Int) (m0:OMem):Sim (l_law_b291 sl sc x2 x4 x5 x6 x7 x8 x9 x14 x15 s0 m0) (Sum.elim (l_law_l29_H sl sc ) (l_law_l29_X sl sc )) (fun n=>RL sl sc n 0 291 [qr 0,qr 1,qj x2,qn,qi x4,qi x5,qi x6,qi x7,qi x8,qi x9,qn,qn,qn,qn,qi x14,qi x15,qn,qn,qn,qn] [vi s0] [(42,m0)]) :=
  Sim.shift 5 (G:=fun n=>if x14<4 then RL sl sc n 0 301 [qr 0,qr 1,qj x2,qn,qi x4,qi x5,qi x6,qi x7,qi x8,qi x9,qn,qn,qn,qn,qi x14,qi x15,qi s0,qn,qn,qn] [vi s0] [(42,m0)] else RL sl sc n 0 305 [qr 0,qr 1,qj x2,qn,qi x4,qi x5,qi x6,qi x7,qi x8,qi x9,qn,qn,qn,qn,qi x14,qi x15,qi s0,qn,qn,qn] [vi s0] [(42,m0)]) (fun _=>rfl) (Sim.ite (fun _=>Sim.shift 2 (G:=fun n=>RL sl sc n 0 306 [qr 0,qr 1,qj x2,qn,qi x4,qi x5,qi x6,qi x7,qi x8,qi x9,qn,qn,qn,qn,qi x14,qi x15,qn,qn,qn,qn] [vi 1,vi s0] [(42,m0)]) (fun _=>rfl) (l_law_b306_ok sl sc x2 x4 x5 x6 x7 x8 x9 x14 x15 s0 1 m0)) (fun _=>Sim.shift 1 (G:=fun n=>RL sl sc n 0 306 [qr 0,qr 1,qj x2,qn,qi x4,qi x5,qi x6,qi x7,qi x8,qi x9,qn,qn,qn,qn,qi x14,qi x15,qn,qn,qn,qn] [vi 0,vi s0] [(42,m0)]) (fun _=>rfl) (l_law_b306_ok sl sc x2 x4 x5 x6 x7 x8 x9 x14 x15 s0 0 m0)))
def l_law_b264 (sl:Int) (sc:Int→Int) (x2 x4 x5 x6 x7 x8 x9 x14 s0:Int) (m0:OMem):Option ((Int×Int×Int×Int×Int×Int×OMem)⊕((OMem)⊕(OMem)⊕(OMem)⊕(OMem)⊕(OMem)⊕(OMem)⊕(OMem)⊕(OMem)⊕(OMem)⊕(OMem)⊕(OMem))):=if x9=1 then ((f_setInit x14 s0 m0).bind fun (r_134,m_135)=>(l_law_b291 sl sc x2 x4 x5 x6 x7 x8 x9 x14 s0 r_134 m_135)) else ((f_setGoal x14 s0 m0).bind fun (r_136,m_137)=>(l_law_b291 sl sc x2 x4 x5 x6 x7 x8 x9 x14 s0 r_136 m_137))
theorem l_law_b264_ok (sl:Int) (sc:Int→Int) (x2 x4 x5 x6 x7 x8 x9 x14 s0:Int) (m0:OMem):Sim (l_law_b264 sl sc x2 x4 x5 x6 x7 x8 x9 x14 s0 m0) (Sum.elim (l_law_l29_H sl sc ) (l_law_l29_X sl sc )) (fun n=>RL sl sc n 0 264 [qr 0,qr 1,qj x2,qn,qi x4,qi x5,qi x6,qi x7,qi x8,qi x9,qn,qn,qn,qn,qi x14,qn,qn,qn,qn,qn] [vi s0] [(42,m0)]) :=
  Sim.shift 4 (G:=fun n=>if x9=1 then RL sl sc n 0 272 [qr 0,qr 1,qj x2,qn,qi x4,qi x5,qi x6,qi x7,qi x8,qi x9,qn,qn,qn,qn,qi x14,qi s0,qn,qn,qn,qn] [] [(42,m0)] else RL sl sc n 0 283 [qr 0,qr 1,qj x2,qn,qi x4,qi x5,qi x6,qi x7,qi x8,qi x9,qn,qn,qn,qn,qi x14,qi s0,qn,qn,qn,qn] [] [(42,m0)]) (fun _=>rfl) (Sim.ite (fun _=>Sim.shift 4 (G:=fun n=>(R n 23 0 [qr 0,qi x14,qi s0] [] 42 m0).bind fun y=>RLv sl sc n 0 280 [qr 0,qr 1,qj x2,qn,qi x4,qi x5,qi x6,qi x7,qi x8,qi x9,qn,qn,qn,qn,qi x14,qi s0,qn,qn,qn,qn] [] [(42,m0)] 0 y) (fun _=>rfl) (Sim.call (f_setInit_ok x14 s0 m0) (fun _ _=>rfl) (runP_mono _ _ _ _ _ _) (fun _=>runL_mono _ _ _ _ _) (fun ⟨r_134,m_135⟩=>Sim.shift 0 (G:=fun n=>RL sl sc n 0 280 [qr 0,qr 1,qj x2,qn,qi x4,qi x5,qi x6,qi x7,qi x8,qi x9,qn,qn,qn,qn,qi x14,qi s0,qn,qn,qn,qn] [vi r_134] [(42,m_135)]) (fun _=>rfl) (Sim.shift 1 (G:=fun n=>RL sl sc n 0 291 [qr 0,qr 1,qj x2,qn,qi x4,qi x5,qi x6,qi x7,qi x8,qi x9,qn,qn,qn,qn,qi x14,qi s0,qn,qn,qn,qn] [vi r_134] [(42,m_135)]) (fun _=>rfl) (l_law_b291_ok sl sc x2 x4 x5 x6 x7 x8 x9 x14 s0 r_134 m_135))))) (fun _=>Sim.shift 4 (G:=fun n=>(R n 40 0 [qr 0,qi x14,qi s0] [] 42 m0).bind fun y=>RLv sl sc n 0 291 [qr 0,qr 1,qj x2,qn,qi x4,qi x5,qi x6,qi x7,qi x8,qi x9,qn,qn,qn,qn,qi x14,qi s0,qn,qn,qn,qn] [] [(42,m0)] 0 y) (fun _=>rfl) (Sim.call (f_setGoal_ok x14 s0 m0) (fun _ _=>rfl) (runP_mono _ _ _ _ _ _) (fun _=>runL_mono _ _ _ _ _) (fun ⟨r_136,m_137⟩=>Sim.shift 0 (G:=fun n=>RL sl sc n 0 291 [qr 0,qr 1,qj x2,qn,qi x4,qi x5,qi x6,qi x7,qi x8,qi x9,qn,qn,qn,qn,qi x14,qi s0,qn,qn,qn,qn] [vi r_136] [(42,m_137)]) (fun _=>rfl) (l_law_b291_ok sl sc x2 x4 x5 x6 x7 x8 x9 x14 s0 r_136 m_137)))))
def l_law_b242 (sl:Int) (sc:Int→Int) (x2 x4 x5 x6 x7 x8 x9 x11 x12:Int) (m0:OMem):Option ((Int×Int×Int×Int×Int×Int×OMem)⊕((OMem)⊕(OMem)⊕(OMem)⊕(OMem)⊕(OMem)⊕(OMem)⊕(OMem)⊕(OMem)⊕(OMem)⊕(OMem)⊕(OMem))):=if and32 x12 3=0 then (l_law_b264 sl sc x2 x4 x5 x6 x7 x8 x9 (rem32 (and32 x11 255) 5) 0 m0) else (l_law_b264 sl sc x2 x4 x5 x6 x7 x8 x9 (rem32 (and32 x11 255) 5) 1 m0)
theorem l_law_b242_ok (sl:Int) (sc:Int→Int) (x2 x4 x5 x6 x7 x8 x9 x11 x12:Int) (m0:OMem):Sim (l_law_b242 sl sc x2 x4 x5 x6 x7 x8 x9 x11 x12 m0) (Sum.elim (l_law_l29_H sl sc ) (l_law_l29_X sl sc )) (fun n=>RL sl sc n 0 242 [qr 0,qr 1,qj x2,qn,qi x4,qi x5,qi x6,qi x7,qi x8,qi x9,qn,qi x11,qi x12,qn,qn,qn,qn,qn,qn,qn] [] [(42,m0)]) :=
  Sim.shift 4 (G:=fun n=>RL sl sc n 0 249 [qr 0,qr 1,qj x2,qn,qi x4,qi x5,qi x6,qi x7,qi x8,qi x9,qn,qi x11,qi x12,qn,qn,qn,qn,qn,qn,qn] [vi 5,vi (and32 x11 255)] [(42,m0)]) (fun _=>rfl) (Sim.shift 2 (G:=fun n=>RL sl sc n 0 252 [qr 0,qr 1,qj x2,qn,qi x4,qi x5,qi x6,qi x7,qi x8,qi x9,qn,qi x11,qi x12,qn,qi (rem32 (and32 x11 255) 5),qn,qn,qn,qn,qn] [] [(42,m0)]) (fun _=>rfl) (Sim.shift 4 (G:=fun n=>if and32 x12 3=0 then RL sl sc n 0 263 [qr 0,qr 1,qj x2,qn,qi x4,qi x5,qi x6,qi x7,qi x8,qi x9,qn,qi x11,qi x12,qn,qi (rem32 (and32 x11 255) 5),qn,qn,qn,qn,qn] [] [(42,m0)] else RL sl sc n 0 259 [qr 0,qr 1,qj x2,qn,qi x4,qi x5,qi x6,qi x7,qi x8,qi x9,qn,qi x11,qi x12,qn,qi (rem32 (and32 x11 255) 5),qn,qn,qn,qn,qn] [] [(42,m0)]) (fun _=>rfl) (Sim.ite (fun _=>Sim.shift 1 (G:=fun n=>RL sl sc n 0 264 [qr 0,qr 1,qj x2,qn,qi x4,qi x5,qi x6,qi x7,qi x8,qi x9,qn,qn,qn,qn,qi (rem32 (and32 x11 255) 5),qn,qn,qn,qn,qn] [vi 0] [(42,m0)]) (fun _=>rfl) (l_law_b264_ok sl sc x2 x4 x5 x6 x7 x8 x9 (rem32 (and32 x11 255) 5) 0 m0)) (fun _=>Sim.shift 2 (G:=fun n=>RL sl sc n 0 264 [qr 0,qr 1,qj x2,qn,qi x4,qi x5,qi x6,qi x7,qi x8,qi x9,qn,qn,qn,qn,qi (rem32 (and32 x11 255) 5),qn,qn,qn,qn,qn] [vi 1] [(42,m0)]) (fun _=>rfl) (l_law_b264_ok sl sc x2 x4 x5 x6 x7 x8 x9 (rem32 (and32 x11 255) 5) 1 m0)))))
def l_law_b512 (sl:Int) (sc:Int→Int) (x2 x4 x5 x6 x8 x16:Int) (m0:OMem):Option ((Int×Int×Int×Int×Int×Int×OMem)⊕((OMem)⊕(OMem)⊕(OMem)⊕(OMem)⊕(OMem)⊕(OMem)⊕(OMem)⊕(OMem)⊕(OMem)⊕(OMem)⊕(OMem))):=l_law_b698 sl sc x2 x4 x5 x6 x16 x8 m0
theorem l_law_b512_ok (sl:Int) (sc:Int→Int) (x2 x4 x5 x6 x8 x16:Int) (m0:OMem):Sim (l_law_b512 sl sc x2 x4 x5 x6 x8 x16 m0) (Sum.elim (l_law_l29_H sl sc ) (l_law_l29_X sl sc )) (fun n=>RL sl sc n 0 512 [qr 0,qr 1,qj x2,qn,qi x4,qi x5,qi x6,qn,qi x8,qn,qn,qn,qn,qn,qn,qn,qi x16,qn,qn,qn] [] [(42,m0)]) :=
  Sim.shift 3 (G:=fun n=>RL sl sc n 0 698 [qr 0,qr 1,qj x2,qn,qi x4,qi x5,qi x6,qi x16,qi x8,qn,qn,qn,qn,qn,qn,qn,qi x16,qn,qn,qn] [] [(42,m0)]) (fun _=>rfl) (Sim.jmp (l_law_b698_ok sl sc x2 x4 x5 x6 x16 x8 m0) rfl (fun _=>rfl))
def l_law_b495 (sl:Int) (sc:Int→Int) (x2 x4 x5 x6 x8 x16:Int) (m0:OMem):Option ((Int×Int×Int×Int×Int×Int×OMem)⊕((OMem)⊕(OMem)⊕(OMem)⊕(OMem)⊕(OMem)⊕(OMem)⊕(OMem)⊕(OMem)⊕(OMem)⊕(OMem)⊕(OMem))):=if x16=(-1) then ((f_layerMask 1 m0).bind fun r_140=>(if r_140=(-1) then (l_law_b512 sl sc x2 x4 x5 x6 x8 x16 m0) else (some (.inr (.inr (.inr (.inr (.inr (.inr (.inl m0)))))))))) else (l_law_b512 sl sc x2 x4 x5 x6 x8 x16 m0)
theorem l_law_b495_ok (sl:Int) (sc:Int→Int) (x2 x4 x5 x6 x8 x16:Int) (m0:OMem):Sim (l_law_b495 sl sc x2 x4 x5 x6 x8 x16 m0) (Sum.elim (l_law_l29_H sl sc ) (l_law_l29_X sl sc )) (fun n=>RL sl sc n 0 495 [qr 0,qr 1,qj x2,qn,qi x4,qi x5,qi x6,qn,qi x8,qn,qn,qn,qn,qn,qn,qn,qi x16,qn,qn,qn] [] [(42,m0)]) :=
  Sim.shift 3 (G:=fun n=>if x16=(-1) then RL sl sc n 0 501 [qr 0,qr 1,qj x2,qn,qi x4,qi x5,qi x6,qn,qi x8,qn,qn,qn,qn,qn,qn,qn,qi x16,qn,qn,qn] [] [(42,m0)] else RL sl sc n 0 512 [qr 0,qr 1,qj x2,qn,qi x4,qi x5,qi x6,qn,qi x8,qn,qn,qn,qn,qn,qn,qn,qi x16,qn,qn,qn] [] [(42,m0)]) (fun _=>rfl) (Sim.ite (fun _=>Sim.shift 3 (G:=fun n=>(R n 17 0 [qr 0,qi 1] [] 42 m0).bind fun y=>RLv sl sc n 0 506 [qr 0,qr 1,qj x2,qn,qi x4,qi x5,qi x6,qn,qi x8,qn,qn,qn,qn,qn,qn,qn,qi x16,qn,qn,qn] [] [(42,m0)] 0 y) (fun _=>rfl) (Sim.call (f_layerMask_ok 1 m0) (fun _ _=>rfl) (runP_mono _ _ _ _ _ _) (fun _=>runL_mono _ _ _ _ _) (fun r_140=>Sim.shift 0 (G:=fun n=>RL sl sc n 0 506 [qr 0,qr 1,qj x2,qn,qi x4,qi x5,qi x6,qn,qi x8,qn,qn,qn,qn,qn,qn,qn,qi x16,qn,qn,qn] [vi r_140] [(42,m0)]) (fun _=>rfl) (Sim.shift 2 (G:=fun n=>if r_140=(-1) then RL sl sc n 0 512 [qr 0,qr 1,qj x2,qn,qi x4,qi x5,qi x6,qn,qi x8,qn,qn,qn,qn,qn,qn,qn,qi x16,qn,qn,qn] [] [(42,m0)] else RL sl sc n 0 510 [qr 0,qr 1,qj x2,qn,qi x4,qi x5,qi x6,qn,qi x8,qn,qn,qn,qn,qn,qn,qn,qi x16,qn,qn,qn] [] [(42,m0)]) (fun _=>rfl) (Sim.ite (fun _=>l_law_b512_ok sl sc x2 x4 x5 x6 x8 x16 m0) (fun _=>Sim.leaf rfl (fun _=>rfl))))))) (fun _=>l_law_b512_ok sl sc x2 x4 x5 x6 x8 x16 m0))
def l_law_b469 (sl:Int) (sc:Int→Int) (x2 x4 x5 x6 x8 x16 s0 s1:Int) (m0:OMem):Option ((Int×Int×Int×Int×Int×Int×OMem)⊕((OMem)⊕(OMem)⊕(OMem)⊕(OMem)⊕(OMem)⊕(OMem)⊕(OMem)⊕(OMem)⊕(OMem)⊕(OMem)⊕(OMem))):=if s0=s1 then (if x16<0 then (l_law_b495 sl sc x2 x4 x5 x6 x8 x16 m0) else ((l_valid sl sc x16 x2 x4 x5 m0).bind fun r_148=>(if r_148=0 then (some (.inr (.inr (.inr (.inr (.inr (.inl m0))))))) else (l_law_b495 sl sc x2 x4 x5 x6 x8 x16 m0)))) else (some (.inr (.inr (.inr (.inr (.inl m0))))))
theorem l_law_b469_ok (sl:Int) (sc:Int→Int) (x2 x4 x5 x6 x8 x16 s0 s1:Int) (m0:OMem):Sim (l_law_b469 sl sc x2 x4 x5 x6 x8 x16 s0 s1 m0) (Sum.elim (l_law_l29_H sl sc ) (l_law_l29_X sl sc )) (fun n=>RL sl sc n 0 469 [qr 0,qr 1,qj x2,qn,qi x4,qi x5,qi x6,qn,qi x8,qn,qn,qn,qn,qn,qn,qn,qi x16,qn,qn,qn] [vi s1,vi s0] [(42,m0)]) :=
  Sim.shift 1 (G:=fun n=>if s0=s1 then RL sl sc n 0 474 [qr 0,qr 1,qj x2,qn,qi x4,qi x5,qi x6,qn,qi x8,qn,qn,qn,qn,qn,qn,qn,qi x16,qn,qn,qn] [] [(42,m0)] else RL sl sc n 0 472 [qr 0,qr 1,qj x2,qn,qi x4,qi x5,qi x6,qn,qi x8,qn,qn,qn,qn,qn,qn,qn,qi x16,qn,qn,qn] [] [(42,m0)]) (fun _=>rfl) (Sim.ite (fun _=>Sim.shift 2 (G:=fun n=>if x16<0 then RL sl sc n 0 495 [qr 0,qr 1,qj x2,qn,qi x4,qi x5,qi x6,qn,qi x8,qn,qn,qn,qn,qn,qn,qn,qi x16,qn,qn,qn] [] [(42,m0)] else RL sl sc n 0 479 [qr 0,qr 1,qj x2,qn,qi x4,qi x5,qi x6,qn,qi x8,qn,qn,qn,qn,qn,qn,qn,qi x16,qn,qn,qn] [] [(42,m0)]) (fun _=>rfl) (Sim.ite (fun _=>l_law_b495_ok sl sc x2 x4 x5 x6 x8 x16 m0) (fun _=>Sim.shift 6 (G:=fun n=>(RL sl sc n 1 0 [qr 1,qi x16,qj x2,qn,qi x4,qi x5,qn,qn,qn,qn,qn,qn] [] [(42,m0)]).bind fun y=>RLr sl sc n 0 490 [qr 0,qr 1,qj x2,qn,qi x4,qi x5,qi x6,qn,qi x8,qn,qn,qn,qn,qn,qn,qn,qi x16,qn,qn,qn] [] y) (fun _=>rfl) (Sim.call (l_valid_ok sl sc x16 x2 x4 x5 m0) (fun _ _=>rfl) (runL_mono _ _ _ _ _) (fun _=>runL_mono _ _ _ _ _) (fun r_148=>Sim.shift 0 (G:=fun n=>RL sl sc n 0 490 [qr 0,qr 1,qj x2,qn,qi x4,qi x5,qi x6,qn,qi x8,qn,qn,qn,qn,qn,qn,qn,qi x16,qn,qn,qn] [vi r_148] [(42,m0)]) (fun _=>rfl) (Sim.shift 1 (G:=fun n=>if r_148=0 then RL sl sc n 0 493 [qr 0,qr 1,qj x2,qn,qi x4,qi x5,qi x6,qn,qi x8,qn,qn,qn,qn,qn,qn,qn,qi x16,qn,qn,qn] [] [(42,m0)] else RL sl sc n 0 495 [qr 0,qr 1,qj x2,qn,qi x4,qi x5,qi x6,qn,qi x8,qn,qn,qn,qn,qn,qn,qn,qi x16,qn,qn,qn] [] [(42,m0)]) (fun _=>rfl) (Sim.ite (fun _=>Sim.leaf rfl (fun _=>rfl)) (fun _=>l_law_b495_ok sl sc x2 x4 x5 x6 x8 x16 m0)))))))) (fun _=>Sim.leaf rfl (fun _=>rfl)))
def l_law_b459 (sl:Int) (sc:Int→Int) (x2 x4 x5 x6 x8 x16 s0:Int) (m0:OMem):Option ((Int×Int×Int×Int×Int×Int×OMem)⊕((OMem)⊕(OMem)⊕(OMem)⊕(OMem)⊕(OMem)⊕(OMem)⊕(OMem)⊕(OMem)⊕(OMem)⊕(OMem)⊕(OMem))):=if x16=0 then (l_law_b469 sl sc x2 x4 x5 x6 x8 x16 s0 1 m0) else (l_law_b469 sl sc x2 x4 x5 x6 x8 x16 s0 0 m0)
theorem l_law_b459_ok (sl:Int) (sc:Int→Int) (x2 x4 x5 x6 x8 x16 s0:Int) (m0:OMem):Sim (l_law_b459 sl sc x2 x4 x5 x6 x8 x16 s0 m0) (Sum.elim (l_law_l29_H sl sc ) (l_law_l29_X sl sc )) (fun n=>RL sl sc n 0 459 [qr 0,qr 1,qj x2,qn,qi x4,qi x5,qi x6,qn,qi x8,qn,qn,qn,qn,qn,qn,qn,qi x16,qn,qn,qn] [vi s0] [(42,m0)]) :=
  Sim.shift 2 (G:=fun n=>if x16=0 then RL sl sc n 0 464 [qr 0,qr 1,qj x2,qn,qi x4,qi x5,qi x6,qn,qi x8,qn,qn,qn,qn,qn,qn,qn,qi x16,qn,qn,qn] [vi s0] [(42,m0)] else RL sl sc n 0 468 [qr 0,qr 1,qj x2,qn,qi x4,qi x5,qi x6,qn,qi x8,qn,qn,qn,qn,qn,qn,qn,qi x16,qn,qn,qn] [vi s0] [(42,m0)]) (fun _=>rfl) (Sim.ite (fun _=>Sim.shift 2 (G:=fun n=>RL sl sc n 0 469 [qr 0,qr 1,qj x2,qn,qi x4,qi x5,qi x6,qn,qi x8,qn,qn,qn,qn,qn,qn,qn,qi x16,qn,qn,qn] [vi 1,vi s0] [(42,m0)]) (fun _=>rfl) (l_law_b469_ok sl sc x2 x4 x5 x6 x8 x16 s0 1 m0)) (fun _=>Sim.shift 1 (G:=fun n=>RL sl sc n 0 469 [qr 0,qr 1,qj x2,qn,qi x4,qi x5,qi x6,qn,qi x8,qn,qn,qn,qn,qn,qn,qn,qi x16,qn,qn,qn] [vi 0,vi s0] [(42,m0)]) (fun _=>rfl) (l_law_b469_ok sl sc x2 x4 x5 x6 x8 x16 s0 0 m0)))
def l_law_b419 (sl:Int) (sc:Int→Int) (x2 x4 x5 x6 x8 x14 s0:Int) (m0:OMem):Option ((Int×Int×Int×Int×Int×Int×OMem)⊕((OMem)⊕(OMem)⊕(OMem)⊕(OMem)⊕(OMem)⊕(OMem)⊕(OMem)⊕(OMem)⊕(OMem)⊕(OMem)⊕(OMem))):=(f_solve x14 m0).bind fun (r_138,m_139)=>(if r_138<(-1) then (some (.inr (.inr (.inr (.inl m_139))))) else (if s0<r_138 then (some (.inr (.inr (.inr (.inl m_139))))) else (if and32 x5 (xor32 x4 (-1))=0 then (l_law_b459 sl sc x2 x4 x5 x6 x8 r_138 1 m_139) else (l_law_b459 sl sc x2 x4 x5 x6 x8 r_138 0 m_139))))
theorem l_law_b419_ok (sl:Int) (sc:Int→Int) (x2 x4 x5 x6 x8 x14 s0:Int) (m0:OMem):Sim (l_law_b419 sl sc x2 x4 x5 x6 x8 x14 s0 m0) (Sum.elim (l_law_l29_H sl sc ) (l_law_l29_X sl sc )) (fun n=>RL sl sc n 0 419 [qr 0,qr 1,qj x2,qn,qi x4,qi x5,qi x6,qn,qi x8,qn,qn,qn,qn,qn,qi x14,qn,qn,qn,qn,qn] [vi s0] [(42,m0)]) :=
  Sim.shift 4 (G:=fun n=>(R n 2 0 [qr 0,qi x14,qn,qn] [] 42 m0).bind fun y=>RLv sl sc n 0 427 [qr 0,qr 1,qj x2,qn,qi x4,qi x5,qi x6,qn,qi x8,qn,qn,qn,qn,qn,qi x14,qi s0,qn,qn,qn,qn] [] [(42,m0)] 0 y) (fun _=>rfl) (Sim.call (f_solve_ok x14 m0) (fun _ _=>rfl) (runP_mono _ _ _ _ _ _) (fun _=>runL_mono _ _ _ _ _) (fun ⟨r_138,m_139⟩=>Sim.shift 0 (G:=fun n=>RL sl sc n 0 427 [qr 0,qr 1,qj x2,qn,qi x4,qi x5,qi x6,qn,qi x8,qn,qn,qn,qn,qn,qi x14,qi s0,qn,qn,qn,qn] [vi r_138] [(42,m_139)]) (fun _=>rfl) (Sim.shift 4 (G:=fun n=>if r_138<(-1) then RL sl sc n 0 442 [qr 0,qr 1,qj x2,qn,qi x4,qi x5,qi x6,qn,qi x8,qn,qn,qn,qn,qn,qi x14,qi s0,qi r_138,qn,qn,qn] [] [(42,m_139)] else RL sl sc n 0 435 [qr 0,qr 1,qj x2,qn,qi x4,qi x5,qi x6,qn,qi x8,qn,qn,qn,qn,qn,qi x14,qi s0,qi r_138,qn,qn,qn] [] [(42,m_139)]) (fun _=>rfl) (Sim.ite (fun _=>Sim.leaf rfl (fun _=>rfl)) (fun _=>Sim.shift 3 (G:=fun n=>if s0<r_138 then RL sl sc n 0 442 [qr 0,qr 1,qj x2,qn,qi x4,qi x5,qi x6,qn,qi x8,qn,qn,qn,qn,qn,qn,qi s0,qi r_138,qn,qn,qn] [] [(42,m_139)] else RL sl sc n 0 444 [qr 0,qr 1,qj x2,qn,qi x4,qi x5,qi x6,qn,qi x8,qn,qn,qn,qn,qn,qn,qi s0,qi r_138,qn,qn,qn] [] [(42,m_139)]) (fun _=>rfl) (Sim.ite (fun _=>Sim.leaf rfl (fun _=>rfl)) (fun _=>Sim.shift 4 (G:=fun n=>RL sl sc n 0 450 [qr 0,qr 1,qj x2,qn,qi x4,qi x5,qi x6,qn,qi x8,qn,qn,qn,qn,qn,qn,qn,qi r_138,qn,qn,qn] [vi (xor32 x4 (-1)),vi x5] [(42,m_139)]) (fun _=>rfl) (Sim.shift 2 (G:=fun n=>if and32 x5 (xor32 x4 (-1))=0 then RL sl sc n 0 454 [qr 0,qr 1,qj x2,qn,qi x4,qi x5,qi x6,qn,qi x8,qn,qn,qn,qn,qn,qn,qn,qi r_138,qn,qn,qn] [] [(42,m_139)] else RL sl sc n 0 458 [qr 0,qr 1,qj x2,qn,qi x4,qi x5,qi x6,qn,qi x8,qn,qn,qn,qn,qn,qn,qn,qi r_138,qn,qn,qn] [] [(42,m_139)]) (fun _=>rfl) (Sim.ite (fun _=>Sim.shift 2 (G:=fun n=>RL sl sc n 0 459 [qr 0,qr 1,qj x2,qn,qi x4,qi x5,qi x6,qn,qi x8,qn,qn,qn,qn,qn,qn,qn,qi r_138,qn,qn,qn] [vi 1] [(42,m_139)]) (fun _=>rfl) (l_law_b459_ok sl sc x2 x4 x5 x6 x8 r_138 1 m_139)) (fun _=>Sim.shift 1 (G:=fun n=>RL sl sc n 0 459 [qr 0,qr 1,qj x2,qn,qi x4,qi x5,qi x6,qn,qi x8,qn,qn,qn,qn,qn,qn,qn,qi r_138,qn,qn,qn] [vi 0] [(42,m_139)]) (fun _=>rfl) (l_law_b459_ok sl sc x2 x4 x5 x6 x8 r_138 0 m_139)))))))))))
def l_law_b610 (sl:Int) (sc:Int→Int) (x2 x4 x5 x6 x7 x8:Int) (m0:OMem):Option ((Int×Int×Int×Int×Int×Int×OMem)⊕((OMem)⊕(OMem)⊕(OMem)⊕(OMem)⊕(OMem)⊕(OMem)⊕(OMem)⊕(OMem)⊕(OMem)⊕(OMem)⊕(OMem))):=l_law_b698 sl sc x2 x4 x5 x6 x7 x8 m0
theorem l_law_b610_ok (sl:Int) (sc:Int→Int) (x2 x4 x5 x6 x7 x8:Int) (m0:OMem):Sim (l_law_b610 sl sc x2 x4 x5 x6 x7 x8 m0) (Sum.elim (l_law_l29_H sl sc ) (l_law_l29_X sl sc )) (fun n=>RL sl sc n 0 610 [qr 0,qr 1,qj x2,qn,qi x4,qi x5,qi x6,qi x7,qi x8,qn,qn,qn,qn,qn,qn,qn,qn,qn,qn,qn] [] [(42,m0)]) :=
  Sim.shift 1 (G:=fun n=>RL sl sc n 0 698 [qr 0,qr 1,qj x2,qn,qi x4,qi x5,qi x6,qi x7,qi x8,qn,qn,qn,qn,qn,qn,qn,qn,qn,qn,qn] [] [(42,m0)]) (fun _=>rfl) (l_law_b698_ok sl sc x2 x4 x5 x6 x7 x8 m0)
def l_law_b568 (sl:Int) (sc:Int→Int) (x2 x4 x5 x6 x7 x8 x13 s0:Int) (m0:OMem):Option ((Int×Int×Int×Int×Int×Int×OMem)⊕((OMem)⊕(OMem)⊕(OMem)⊕(OMem)⊕(OMem)⊕(OMem)⊕(OMem)⊕(OMem)⊕(OMem)⊕(OMem)⊕(OMem))):=(f_apply x13 m0).bind fun (r_151,m_152)=>(if r_151=s0 then (if s0=0 then (l_law_b610 sl sc x2 x4 x5 x6 x7 x8 m_152) else ((l_m sl sc x2 x13 2 m_152).bind fun r_153=>((l_m sl sc x2 x13 1 m_152).bind fun r_154=>(l_law_b610 sl sc x2 x4 x5 (or32 (and32 x6 (xor32 r_153 (-1))) r_154) x7 x8 m_152)))) else (some (.inr (.inr (.inr (.inr (.inr (.inr (.inr (.inl m_152))))))))))
theorem l_law_b568_ok (sl:Int) (sc:Int→Int) (x2 x4 x5 x6 x7 x8 x13 s0:Int) (m0:OMem):Sim (l_law_b568 sl sc x2 x4 x5 x6 x7 x8 x13 s0 m0) (Sum.elim (l_law_l29_H sl sc ) (l_law_l29_X sl sc )) (fun n=>RL sl sc n 0 568 [qr 0,qr 1,qj x2,qn,qi x4,qi x5,qi x6,qi x7,qi x8,qn,qn,qn,qn,qi x13,qn,qn,qn,qn,qn,qn] [vi s0] [(42,m0)]) :=
  Sim.shift 4 (G:=fun n=>(R n 43 0 [qr 0,qi x13] [] 42 m0).bind fun y=>RLv sl sc n 0 576 [qr 0,qr 1,qj x2,qn,qi x4,qi x5,qi x6,qi x7,qi x8,qn,qn,qn,qn,qi x13,qi s0,qn,qn,qn,qn,qn] [] [(42,m0)] 0 y) (fun _=>rfl) (Sim.call (f_apply_ok x13 m0) (fun _ _=>rfl) (runP_mono _ _ _ _ _ _) (fun _=>runL_mono _ _ _ _ _) (fun ⟨r_151,m_152⟩=>Sim.shift 0 (G:=fun n=>RL sl sc n 0 576 [qr 0,qr 1,qj x2,qn,qi x4,qi x5,qi x6,qi x7,qi x8,qn,qn,qn,qn,qi x13,qi s0,qn,qn,qn,qn,qn] [vi r_151] [(42,m_152)]) (fun _=>rfl) (Sim.shift 2 (G:=fun n=>if r_151=s0 then RL sl sc n 0 583 [qr 0,qr 1,qj x2,qn,qi x4,qi x5,qi x6,qi x7,qi x8,qn,qn,qn,qn,qi x13,qi s0,qn,qn,qn,qn,qn] [] [(42,m_152)] else RL sl sc n 0 581 [qr 0,qr 1,qj x2,qn,qi x4,qi x5,qi x6,qi x7,qi x8,qn,qn,qn,qn,qi x13,qi s0,qn,qn,qn,qn,qn] [] [(42,m_152)]) (fun _=>rfl) (Sim.ite (fun _=>Sim.shift 2 (G:=fun n=>if s0=0 then RL sl sc n 0 610 [qr 0,qr 1,qj x2,qn,qi x4,qi x5,qi x6,qi x7,qi x8,qn,qn,qn,qn,qi x13,qi s0,qn,qn,qn,qn,qn] [] [(42,m_152)] else RL sl sc n 0 588 [qr 0,qr 1,qj x2,qn,qi x4,qi x5,qi x6,qi x7,qi x8,qn,qn,qn,qn,qi x13,qi s0,qn,qn,qn,qn,qn] [] [(42,m_152)]) (fun _=>rfl) (Sim.ite (fun _=>Sim.jmp (l_law_b610_ok sl sc x2 x4 x5 x6 x7 x8 m_152) rfl (fun _=>rfl)) (fun _=>Sim.shift 5 (G:=fun n=>(RL sl sc n 3 0 [qj x2,qn,qi x13,qi 2] [] [(42,m_152)]).bind fun y=>RLr sl sc n 0 597 [qr 0,qr 1,qj x2,qn,qi x4,qi x5,qi x6,qi x7,qi x8,qn,qn,qn,qn,qi x13,qn,qn,qn,qn,qn,qn] [vi x6] y) (fun _=>rfl) (Sim.call (l_m_ok sl sc x2 x13 2 m_152) (fun _ _=>rfl) (runL_mono _ _ _ _ _) (fun _=>runL_mono _ _ _ _ _) (fun r_153=>Sim.shift 0 (G:=fun n=>RL sl sc n 0 597 [qr 0,qr 1,qj x2,qn,qi x4,qi x5,qi x6,qi x7,qi x8,qn,qn,qn,qn,qi x13,qn,qn,qn,qn,qn,qn] [vi r_153,vi x6] [(42,m_152)]) (fun _=>rfl) (Sim.shift 2 (G:=fun n=>RL sl sc n 0 599 [qr 0,qr 1,qj x2,qn,qi x4,qi x5,qi x6,qi x7,qi x8,qn,qn,qn,qn,qi x13,qn,qn,qn,qn,qn,qn] [vi (xor32 r_153 (-1)),vi x6] [(42,m_152)]) (fun _=>rfl) (Sim.shift 5 (G:=fun n=>(RL sl sc n 3 0 [qj x2,qn,qi x13,qi 1] [] [(42,m_152)]).bind fun y=>RLr sl sc n 0 607 [qr 0,qr 1,qj x2,qn,qi x4,qi x5,qi x6,qi x7,qi x8,qn,qn,qn,qn,qi x13,qn,qn,qn,qn,qn,qn] [vi (and32 x6 (xor32 r_153 (-1)))] y) (fun _=>rfl) (Sim.call (l_m_ok sl sc x2 x13 1 m_152) (fun _ _=>rfl) (runL_mono _ _ _ _ _) (fun _=>runL_mono _ _ _ _ _) (fun r_154=>Sim.shift 0 (G:=fun n=>RL sl sc n 0 607 [qr 0,qr 1,qj x2,qn,qi x4,qi x5,qi x6,qi x7,qi x8,qn,qn,qn,qn,qi x13,qn,qn,qn,qn,qn,qn] [vi r_154,vi (and32 x6 (xor32 r_153 (-1)))] [(42,m_152)]) (fun _=>rfl) (Sim.shift 2 (G:=fun n=>RL sl sc n 0 610 [qr 0,qr 1,qj x2,qn,qi x4,qi x5,qi (or32 (and32 x6 (xor32 r_153 (-1))) r_154),qi x7,qi x8,qn,qn,qn,qn,qi x13,qn,qn,qn,qn,qn,qn] [] [(42,m_152)]) (fun _=>rfl) (Sim.jmp (l_law_b610_ok sl sc x2 x4 x5 (or32 (and32 x6 (xor32 r_153 (-1))) r_154) x7 x8 m_152) rfl (fun _=>rfl)))))))))))) (fun _=>Sim.leaf rfl (fun _=>rfl))))))
def l_law_b567 (sl:Int) (sc:Int→Int) (x2 x4 x5 x6 x7 x8 x13:Int) (m0:OMem):Option ((Int×Int×Int×Int×Int×Int×OMem)⊕((OMem)⊕(OMem)⊕(OMem)⊕(OMem)⊕(OMem)⊕(OMem)⊕(OMem)⊕(OMem)⊕(OMem)⊕(OMem)⊕(OMem))):=l_law_b568 sl sc x2 x4 x5 x6 x7 x8 x13 0 m0
theorem l_law_b567_ok (sl:Int) (sc:Int→Int) (x2 x4 x5 x6 x7 x8 x13:Int) (m0:OMem):Sim (l_law_b567 sl sc x2 x4 x5 x6 x7 x8 x13 m0) (Sum.elim (l_law_l29_H sl sc ) (l_law_l29_X sl sc )) (fun n=>RL sl sc n 0 567 [qr 0,qr 1,qj x2,qn,qi x4,qi x5,qi x6,qi x7,qi x8,qn,qn,qn,qn,qi x13,qn,qn,qn,qn,qn,qn] [] [(42,m0)]) :=
  Sim.shift 1 (G:=fun n=>RL sl sc n 0 568 [qr 0,qr 1,qj x2,qn,qi x4,qi x5,qi x6,qi x7,qi x8,qn,qn,qn,qn,qi x13,qn,qn,qn,qn,qn,qn] [vi 0] [(42,m0)]) (fun _=>rfl) (l_law_b568_ok sl sc x2 x4 x5 x6 x7 x8 x13 0 m0)
def l_law_b666 (sl:Int) (sc:Int→Int) (x2 x4 x5 x7 x8 x15 s0:Int) (m0:OMem):Option ((Int×Int×Int×Int×Int×Int×OMem)⊕((OMem)⊕(OMem)⊕(OMem)⊕(OMem)⊕(OMem)⊕(OMem)⊕(OMem)⊕(OMem)⊕(OMem)⊕(OMem)⊕(OMem))):=(l_replay sl sc s0 x2 x4 m0).bind fun r_163=>(if x15=div32 r_163 65536 then (l_law_b698 sl sc x2 x4 x5 (rem32 r_163 65536) x7 x8 m0) else (some (.inr (.inr (.inr (.inr (.inr (.inr (.inr (.inr (.inr (.inl m0))))))))))))
theorem l_law_b666_ok (sl:Int) (sc:Int→Int) (x2 x4 x5 x7 x8 x15 s0:Int) (m0:OMem):Sim (l_law_b666 sl sc x2 x4 x5 x7 x8 x15 s0 m0) (Sum.elim (l_law_l29_H sl sc ) (l_law_l29_X sl sc )) (fun n=>RL sl sc n 0 666 [qr 0,qr 1,qj x2,qn,qi x4,qi x5,qn,qi x7,qi x8,qn,qn,qn,qn,qn,qn,qi x15,qn,qn,qn,qn] [vi s0] [(42,m0)]) :=
  Sim.shift 6 (G:=fun n=>(RL sl sc n 4 0 [qr 1,qi s0,qj x2,qn,qi x4,qn,qn,qn,qn,qn] [] [(42,m0)]).bind fun y=>RLr sl sc n 0 677 [qr 0,qr 1,qj x2,qn,qi x4,qi x5,qn,qi x7,qi x8,qn,qn,qn,qn,qn,qn,qi x15,qi s0,qn,qn,qn] [] y) (fun _=>rfl) (Sim.call (l_replay_ok sl sc s0 x2 x4 m0) (fun _ _=>rfl) (runL_mono _ _ _ _ _) (fun _=>runL_mono _ _ _ _ _) (fun r_163=>Sim.shift 0 (G:=fun n=>RL sl sc n 0 677 [qr 0,qr 1,qj x2,qn,qi x4,qi x5,qn,qi x7,qi x8,qn,qn,qn,qn,qn,qn,qi x15,qi s0,qn,qn,qn] [vi r_163] [(42,m0)]) (fun _=>rfl) (Sim.shift 5 (G:=fun n=>RL sl sc n 0 686 [qr 0,qr 1,qj x2,qn,qi x4,qi x5,qn,qi x7,qi x8,qn,qn,qn,qn,qn,qn,qi x15,qi s0,qi r_163,qn,qn] [vi (div32 r_163 65536),vi x15] [(42,m0)]) (fun _=>rfl) (Sim.shift 1 (G:=fun n=>if x15=div32 r_163 65536 then RL sl sc n 0 691 [qr 0,qr 1,qj x2,qn,qi x4,qi x5,qn,qi x7,qi x8,qn,qn,qn,qn,qn,qn,qi x15,qi s0,qi r_163,qn,qn] [] [(42,m0)] else RL sl sc n 0 689 [qr 0,qr 1,qj x2,qn,qi x4,qi x5,qn,qi x7,qi x8,qn,qn,qn,qn,qn,qn,qi x15,qi s0,qi r_163,qn,qn] [] [(42,m0)]) (fun _=>rfl) (Sim.ite (fun _=>Sim.shift 4 (G:=fun n=>RL sl sc n 0 698 [qr 0,qr 1,qj x2,qn,qi x4,qi x5,qi (rem32 r_163 65536),qi x7,qi x8,qn,qn,qn,qn,qn,qn,qn,qn,qi r_163,qn,qn] [] [(42,m0)]) (fun _=>rfl) (Sim.jmp (l_law_b698_ok sl sc x2 x4 x5 (rem32 r_163 65536) x7 x8 m0) rfl (fun _=>rfl))) (fun _=>Sim.leaf rfl (fun _=>rfl)))))))
def l_law_l29 (sl:Int) (sc:Int→Int):Int×Int×Int×Int×Int×Int×OMem→Option ((Int×Int×Int×Int×Int×Int×OMem)⊕((OMem)⊕(OMem)⊕(OMem)⊕(OMem)⊕(OMem)⊕(OMem)⊕(OMem)⊕(OMem)⊕(OMem)⊕(OMem)⊕(OMem))):=fun (x2,x4,x5,x6,x7,x8,m0)=>if w32 (x8+3)<sl then (if 0≤x8∧x8<sl then (if 0≤w32 (x8+1)∧w32 (x8+1)<sl then (if 0≤w32 (x8+2)∧w32 (x8+2)<sl then (if 0≤w32 (x8+3)∧w32 (x8+3)<sl then (if and32 (sc x8) 7=0 then (l_law_b93 sl sc x2 x4 x5 x6 x7 x8 (and32 (sc x8) 7) (sc (w32 (x8+2))) (sc (w32 (x8+3))) (rem32 (and32 (sc (w32 (x8+1))) 255) 5) m0) else (if and32 (sc x8) 7=7 then (l_law_b93 sl sc x2 x4 x5 x6 x7 x8 (and32 (sc x8) 7) (sc (w32 (x8+2))) (sc (w32 (x8+3))) (rem32 (and32 (sc (w32 (x8+1))) 255) 5) m0) else (if and32 (sc x8) 7=1 then (l_law_b242 sl sc x2 x4 x5 x6 x7 x8 (and32 (sc x8) 7) (sc (w32 (x8+2))) (sc (w32 (x8+3))) m0) else (if and32 (sc x8) 7=2 then (l_law_b242 sl sc x2 x4 x5 x6 x7 x8 (and32 (sc x8) 7) (sc (w32 (x8+2))) (sc (w32 (x8+3))) m0) else (if and32 (sc x8) 7=3 then (if w32 ((and32 (sc (w32 (x8+1))) 7) - 2)<0 then (l_law_b419 sl sc x2 x4 x5 x6 x8 (w32 ((and32 (sc (w32 (x8+1))) 7) - 2)) 0 m0) else (if 3<w32 ((and32 (sc (w32 (x8+1))) 7) - 2) then (l_law_b419 sl sc x2 x4 x5 x6 x8 (w32 ((and32 (sc (w32 (x8+1))) 7) - 2)) 3 m0) else (l_law_b419 sl sc x2 x4 x5 x6 x8 (w32 ((and32 (sc (w32 (x8+1))) 7) - 2)) (w32 ((and32 (sc (w32 (x8+1))) 7) - 2)) m0))) else (if and32 (sc x8) 7=4 then ((f_resetRun m0).bind fun m_149=>(l_law_b698 sl sc x2 x4 x5 x4 x7 x8 m_149)) else (if and32 (sc x8) 7=5 then (if rem32 (and32 (sc (w32 (x8+1))) 255) 5<4 then ((l_m sl sc x2 (rem32 (and32 (sc (w32 (x8+1))) 255) 5) 0 m0).bind fun r_150=>(if and32 r_150 (xor32 x6 (-1))=0 then (l_law_b568 sl sc x2 x4 x5 x6 x7 x8 (rem32 (and32 (sc (w32 (x8+1))) 255) 5) 1 m0) else (l_law_b567 sl sc x2 x4 x5 x6 x7 x8 (rem32 (and32 (sc (w32 (x8+1))) 255) 5) m0))) else (l_law_b567 sl sc x2 x4 x5 x6 x7 x8 (rem32 (and32 (sc (w32 (x8+1))) 255) 5) m0)) else ((f_runPlan (w32 ((and32 (sc (w32 (x8+1))) 7) - 2)) m0).bind fun (r_155,m_156)=>(if x7<0 then (if r_155=(-1) then (l_law_b698 sl sc x2 x4 x5 x6 x7 x8 m_156) else (some (.inr (.inr (.inr (.inr (.inr (.inr (.inr (.inr (.inl m_156))))))))))) else (if w32 ((and32 (sc (w32 (x8+1))) 7) - 2)<0 then (l_law_b666 sl sc x2 x4 x5 x7 x8 r_155 0 m_156) else (if x7<w32 ((and32 (sc (w32 (x8+1))) 7) - 2) then (l_law_b666 sl sc x2 x4 x5 x7 x8 r_155 x7 m_156) else (l_law_b666 sl sc x2 x4 x5 x7 x8 r_155 (w32 ((and32 (sc (w32 (x8+1))) 7) - 2)) m_156)))))))))))) else none) else none) else none) else none) else (some (.inr (.inr (.inr (.inr (.inr (.inr (.inr (.inr (.inr (.inr (.inr m0))))))))))))
theorem l_law_l29_ok (sl:Int) (sc:Int→Int) (x2 x4 x5 x6 x7 x8:Int) (m0:OMem):Sim (l_law_l29 sl sc (x2,x4,x5,x6,x7,x8,m0)) (Sum.elim (l_law_l29_H sl sc ) (l_law_l29_X sl sc )) (l_law_l29_H sl sc (x2,x4,x5,x6,x7,x8,m0)) :=
  Sim.shift 6 (G:=fun n=>if w32 (x8+3)<sl then RL sl sc n 0 38 [qr 0,qr 1,qj x2,qn,qi x4,qi x5,qi x6,qi x7,qi x8,qn,qn,qn,qn,qn,qn,qn,qn,qn,qn,qn] [] [(42,m0)] else RL sl sc n 0 722 [qr 0,qr 1,qj x2,qn,qi x4,qi x5,qi x6,qi x7,qi x8,qn,qn,qn,qn,qn,qn,qn,qn,qn,qn,qn] [] [(42,m0)]) (fun _=>rfl) (Sim.ite (fun _=>Sim.shift 3 (G:=fun n=>if 0≤x8∧x8<sl then RL sl sc n 0 42 [qr 0,qr 1,qj x2,qn,qi x4,qi x5,qi x6,qi x7,qi x8,qn,qn,qn,qn,qn,qn,qn,qn,qn,qn,qn] [vi (sc x8)] [(42,m0)] else none) (fun _=>rfl) (Sim.grd fun _=>Sim.shift 5 (G:=fun n=>RL sl sc n 0 50 [qr 0,qr 1,qj x2,qn,qi x4,qi x5,qi x6,qi x7,qi x8,qi (and32 (sc x8) 7),qn,qn,qn,qn,qn,qn,qn,qn,qn,qn] [vi x8,vr 0] [(42,m0)]) (fun _=>rfl) (Sim.shift 3 (G:=fun n=>if 0≤w32 (x8+1)∧w32 (x8+1)<sl then RL sl sc n 0 53 [qr 0,qr 1,qj x2,qn,qi x4,qi x5,qi x6,qi x7,qi x8,qi (and32 (sc x8) 7),qn,qn,qn,qn,qn,qn,qn,qn,qn,qn] [vi (sc (w32 (x8+1)))] [(42,m0)] else none) (fun _=>rfl) (Sim.grd fun _=>Sim.shift 5 (G:=fun n=>RL sl sc n 0 60 [qr 0,qr 1,qj x2,qn,qi x4,qi x5,qi x6,qi x7,qi x8,qi (and32 (sc x8) 7),qi (sc (w32 (x8+1))),qn,qn,qn,qn,qn,qn,qn,qn,qn] [vi (w32 (x8+2)),vr 0] [(42,m0)]) (fun _=>rfl) (Sim.shift 1 (G:=fun n=>if 0≤w32 (x8+2)∧w32 (x8+2)<sl then RL sl sc n 0 61 [qr 0,qr 1,qj x2,qn,qi x4,qi x5,qi x6,qi x7,qi x8,qi (and32 (sc x8) 7),qi (sc (w32 (x8+1))),qn,qn,qn,qn,qn,qn,qn,qn,qn] [vi (sc (w32 (x8+2)))] [(42,m0)] else none) (fun _=>rfl) (Sim.grd fun _=>Sim.shift 5 (G:=fun n=>RL sl sc n 0 68 [qr 0,qr 1,qj x2,qn,qi x4,qi x5,qi x6,qi x7,qi x8,qi (and32 (sc x8) 7),qi (sc (w32 (x8+1))),qi (sc (w32 (x8+2))),qn,qn,qn,qn,qn,qn,qn,qn] [vi (w32 (x8+3)),vr 0] [(42,m0)]) (fun _=>rfl) (Sim.shift 1 (G:=fun n=>if 0≤w32 (x8+3)∧w32 (x8+3)<sl then RL sl sc n 0 69 [qr 0,qr 1,qj x2,qn,qi x4,qi x5,qi x6,qi x7,qi x8,qi (and32 (sc x8) 7),qi (sc (w32 (x8+1))),qi (sc (w32 (x8+2))),qn,qn,qn,qn,qn,qn,qn,qn] [vi (sc (w32 (x8+3)))] [(42,m0)] else none) (fun _=>rfl) (Sim.grd fun _=>Sim.shift 5 (G:=fun n=>RL sl sc n 0 78 [qr 0,qr 1,qj x2,qn,qi x4,qi x5,qi x6,qi x7,qi x8,qi (and32 (sc x8) 7),qi (sc (w32 (x8+1))),qi (sc (w32 (x8+2))),qi (sc (w32 (x8+3))),qn,qn,qn,qn,qn,qn,qn] [vi 5,vi (and32 (sc (w32 (x8+1))) 255)] [(42,m0)]) (fun _=>rfl) (Sim.shift 2 (G:=fun n=>RL sl sc n 0 81 [qr 0,qr 1,qj x2,qn,qi x4,qi x5,qi x6,qi x7,qi x8,qi (and32 (sc x8) 7),qi (sc (w32 (x8+1))),qi (sc (w32 (x8+2))),qi (sc (w32 (x8+3))),qi (rem32 (and32 (sc (w32 (x8+1))) 255) 5),qn,qn,qn,qn,qn,qn] [] [(42,m0)]) (fun _=>rfl) (Sim.shift 2 (G:=fun n=>if and32 (sc x8) 7=0 then RL sl sc n 0 93 [qr 0,qr 1,qj x2,qn,qi x4,qi x5,qi x6,qi x7,qi x8,qi (and32 (sc x8) 7),qi (sc (w32 (x8+1))),qi (sc (w32 (x8+2))),qi (sc (w32 (x8+3))),qi (rem32 (and32 (sc (w32 (x8+1))) 255) 5),qn,qn,qn,qn,qn,qn] [] [(42,m0)] else RL sl sc n 0 86 [qr 0,qr 1,qj x2,qn,qi x4,qi x5,qi x6,qi x7,qi x8,qi (and32 (sc x8) 7),qi (sc (w32 (x8+1))),qi (sc (w32 (x8+2))),qi (sc (w32 (x8+3))),qi (rem32 (and32 (sc (w32 (x8+1))) 255) 5),qn,qn,qn,qn,qn,qn] [] [(42,m0)]) (fun _=>rfl) (Sim.ite (fun _=>Sim.jmp (l_law_b93_ok sl sc x2 x4 x5 x6 x7 x8 (and32 (sc x8) 7) (sc (w32 (x8+2))) (sc (w32 (x8+3))) (rem32 (and32 (sc (w32 (x8+1))) 255) 5) m0) rfl (fun _=>rfl)) (fun _=>Sim.shift 3 (G:=fun n=>if and32 (sc x8) 7=7 then RL sl sc n 0 93 [qr 0,qr 1,qj x2,qn,qi x4,qi x5,qi x6,qi x7,qi x8,qi (and32 (sc x8) 7),qi (sc (w32 (x8+1))),qi (sc (w32 (x8+2))),qi (sc (w32 (x8+3))),qi (rem32 (and32 (sc (w32 (x8+1))) 255) 5),qn,qn,qn,qn,qn,qn] [] [(42,m0)] else RL sl sc n 0 230 [qr 0,qr 1,qj x2,qn,qi x4,qi x5,qi x6,qi x7,qi x8,qi (and32 (sc x8) 7),qi (sc (w32 (x8+1))),qi (sc (w32 (x8+2))),qi (sc (w32 (x8+3))),qi (rem32 (and32 (sc (w32 (x8+1))) 255) 5),qn,qn,qn,qn,qn,qn] [] [(42,m0)]) (fun _=>rfl) (Sim.ite (fun _=>Sim.jmp (l_law_b93_ok sl sc x2 x4 x5 x6 x7 x8 (and32 (sc x8) 7) (sc (w32 (x8+2))) (sc (w32 (x8+3))) (rem32 (and32 (sc (w32 (x8+1))) 255) 5) m0) rfl (fun _=>rfl)) (fun _=>Sim.shift 3 (G:=fun n=>if and32 (sc x8) 7=1 then RL sl sc n 0 242 [qr 0,qr 1,qj x2,qn,qi x4,qi x5,qi x6,qi x7,qi x8,qi (and32 (sc x8) 7),qi (sc (w32 (x8+1))),qi (sc (w32 (x8+2))),qi (sc (w32 (x8+3))),qi (rem32 (and32 (sc (w32 (x8+1))) 255) 5),qn,qn,qn,qn,qn,qn] [] [(42,m0)] else RL sl sc n 0 236 [qr 0,qr 1,qj x2,qn,qi x4,qi x5,qi x6,qi x7,qi x8,qi (and32 (sc x8) 7),qi (sc (w32 (x8+1))),qi (sc (w32 (x8+2))),qi (sc (w32 (x8+3))),qi (rem32 (and32 (sc (w32 (x8+1))) 255) 5),qn,qn,qn,qn,qn,qn] [] [(42,m0)]) (fun _=>rfl) (Sim.ite (fun _=>Sim.jmp (l_law_b242_ok sl sc x2 x4 x5 x6 x7 x8 (and32 (sc x8) 7) (sc (w32 (x8+2))) (sc (w32 (x8+3))) m0) rfl (fun _=>rfl)) (fun _=>Sim.shift 3 (G:=fun n=>if and32 (sc x8) 7=2 then RL sl sc n 0 242 [qr 0,qr 1,qj x2,qn,qi x4,qi x5,qi x6,qi x7,qi x8,qi (and32 (sc x8) 7),qi (sc (w32 (x8+1))),qi (sc (w32 (x8+2))),qi (sc (w32 (x8+3))),qi (rem32 (and32 (sc (w32 (x8+1))) 255) 5),qn,qn,qn,qn,qn,qn] [] [(42,m0)] else RL sl sc n 0 383 [qr 0,qr 1,qj x2,qn,qi x4,qi x5,qi x6,qi x7,qi x8,qi (and32 (sc x8) 7),qi (sc (w32 (x8+1))),qi (sc (w32 (x8+2))),qi (sc (w32 (x8+3))),qi (rem32 (and32 (sc (w32 (x8+1))) 255) 5),qn,qn,qn,qn,qn,qn] [] [(42,m0)]) (fun _=>rfl) (Sim.ite (fun _=>Sim.jmp (l_law_b242_ok sl sc x2 x4 x5 x6 x7 x8 (and32 (sc x8) 7) (sc (w32 (x8+2))) (sc (w32 (x8+3))) m0) rfl (fun _=>rfl)) (fun _=>Sim.shift 3 (G:=fun n=>if and32 (sc x8) 7=3 then RL sl sc n 0 389 [qr 0,qr 1,qj x2,qn,qi x4,qi x5,qi x6,qi x7,qi x8,qi (and32 (sc x8) 7),qi (sc (w32 (x8+1))),qn,qn,qi (rem32 (and32 (sc (w32 (x8+1))) 255) 5),qn,qn,qn,qn,qn,qn] [] [(42,m0)] else RL sl sc n 0 519 [qr 0,qr 1,qj x2,qn,qi x4,qi x5,qi x6,qi x7,qi x8,qi (and32 (sc x8) 7),qi (sc (w32 (x8+1))),qn,qn,qi (rem32 (and32 (sc (w32 (x8+1))) 255) 5),qn,qn,qn,qn,qn,qn] [] [(42,m0)]) (fun _=>rfl) (Sim.ite (fun _=>Sim.shift 5 (G:=fun n=>RL sl sc n 0 396 [qr 0,qr 1,qj x2,qn,qi x4,qi x5,qi x6,qn,qi x8,qn,qi (sc (w32 (x8+1))),qn,qn,qn,qn,qn,qn,qn,qn,qn] [vi (w32 ((and32 (sc (w32 (x8+1))) 7) - 2))] [(42,m0)]) (fun _=>rfl) (Sim.shift 3 (G:=fun n=>if w32 ((and32 (sc (w32 (x8+1))) 7) - 2)<0 then RL sl sc n 0 403 [qr 0,qr 1,qj x2,qn,qi x4,qi x5,qi x6,qn,qi x8,qn,qi (sc (w32 (x8+1))),qn,qn,qn,qi (w32 ((and32 (sc (w32 (x8+1))) 7) - 2)),qn,qn,qn,qn,qn] [] [(42,m0)] else RL sl sc n 0 407 [qr 0,qr 1,qj x2,qn,qi x4,qi x5,qi x6,qn,qi x8,qn,qi (sc (w32 (x8+1))),qn,qn,qn,qi (w32 ((and32 (sc (w32 (x8+1))) 7) - 2)),qn,qn,qn,qn,qn] [] [(42,m0)]) (fun _=>rfl) (Sim.ite (fun _=>Sim.shift 2 (G:=fun n=>RL sl sc n 0 419 [qr 0,qr 1,qj x2,qn,qi x4,qi x5,qi x6,qn,qi x8,qn,qn,qn,qn,qn,qi (w32 ((and32 (sc (w32 (x8+1))) 7) - 2)),qn,qn,qn,qn,qn] [vi 0] [(42,m0)]) (fun _=>rfl) (l_law_b419_ok sl sc x2 x4 x5 x6 x8 (w32 ((and32 (sc (w32 (x8+1))) 7) - 2)) 0 m0)) (fun _=>Sim.shift 3 (G:=fun n=>if 3<w32 ((and32 (sc (w32 (x8+1))) 7) - 2) then RL sl sc n 0 413 [qr 0,qr 1,qj x2,qn,qi x4,qi x5,qi x6,qn,qi x8,qn,qn,qn,qn,qn,qi (w32 ((and32 (sc (w32 (x8+1))) 7) - 2)),qn,qn,qn,qn,qn] [] [(42,m0)] else RL sl sc n 0 417 [qr 0,qr 1,qj x2,qn,qi x4,qi x5,qi x6,qn,qi x8,qn,qn,qn,qn,qn,qi (w32 ((and32 (sc (w32 (x8+1))) 7) - 2)),qn,qn,qn,qn,qn] [] [(42,m0)]) (fun _=>rfl) (Sim.ite (fun _=>Sim.shift 2 (G:=fun n=>RL sl sc n 0 419 [qr 0,qr 1,qj x2,qn,qi x4,qi x5,qi x6,qn,qi x8,qn,qn,qn,qn,qn,qi (w32 ((and32 (sc (w32 (x8+1))) 7) - 2)),qn,qn,qn,qn,qn] [vi 3] [(42,m0)]) (fun _=>rfl) (l_law_b419_ok sl sc x2 x4 x5 x6 x8 (w32 ((and32 (sc (w32 (x8+1))) 7) - 2)) 3 m0)) (fun _=>Sim.shift 1 (G:=fun n=>RL sl sc n 0 419 [qr 0,qr 1,qj x2,qn,qi x4,qi x5,qi x6,qn,qi x8,qn,qn,qn,qn,qn,qi (w32 ((and32 (sc (w32 (x8+1))) 7) - 2)),qn,qn,qn,qn,qn] [vi (w32 ((and32 (sc (w32 (x8+1))) 7) - 2))] [(42,m0)]) (fun _=>rfl) (l_law_b419_ok sl sc x2 x4 x5 x6 x8 (w32 ((and32 (sc (w32 (x8+1))) 7) - 2)) (w32 ((and32 (sc (w32 (x8+1))) 7) - 2)) m0))))))) (fun _=>Sim.shift 3 (G:=fun n=>if and32 (sc x8) 7=4 then RL sl sc n 0 525 [qr 0,qr 1,qj x2,qn,qi x4,qi x5,qi x6,qi x7,qi x8,qi (and32 (sc x8) 7),qi (sc (w32 (x8+1))),qn,qn,qi (rem32 (and32 (sc (w32 (x8+1))) 255) 5),qn,qn,qn,qn,qn,qn] [] [(42,m0)] else RL sl sc n 0 536 [qr 0,qr 1,qj x2,qn,qi x4,qi x5,qi x6,qi x7,qi x8,qi (and32 (sc x8) 7),qi (sc (w32 (x8+1))),qn,qn,qi (rem32 (and32 (sc (w32 (x8+1))) 255) 5),qn,qn,qn,qn,qn,qn] [] [(42,m0)]) (fun _=>rfl) (Sim.ite (fun _=>Sim.shift 2 (G:=fun n=>(R n 44 0 [qr 0] [] 42 m0).bind fun y=>RLv sl sc n 0 529 [qr 0,qr 1,qj x2,qn,qi x4,qi x5,qn,qi x7,qi x8,qn,qn,qn,qn,qn,qn,qn,qn,qn,qn,qn] [] [(42,m0)] 0 y) (fun _=>rfl) (Sim.call (f_resetRun_ok 42 m0) (fun _ _=>rfl) (runP_mono _ _ _ _ _ _) (fun _=>runL_mono _ _ _ _ _) (fun m_149=>Sim.shift 0 (G:=fun n=>RL sl sc n 0 529 [qr 0,qr 1,qj x2,qn,qi x4,qi x5,qn,qi x7,qi x8,qn,qn,qn,qn,qn,qn,qn,qn,qn,qn,qn] [] [(42,m_149)]) (fun _=>rfl) (Sim.shift 3 (G:=fun n=>RL sl sc n 0 698 [qr 0,qr 1,qj x2,qn,qi x4,qi x5,qi x4,qi x7,qi x8,qn,qn,qn,qn,qn,qn,qn,qn,qn,qn,qn] [] [(42,m_149)]) (fun _=>rfl) (l_law_b698_ok sl sc x2 x4 x5 x4 x7 x8 m_149))))) (fun _=>Sim.shift 3 (G:=fun n=>if and32 (sc x8) 7=5 then RL sl sc n 0 542 [qr 0,qr 1,qj x2,qn,qi x4,qi x5,qi x6,qi x7,qi x8,qi (and32 (sc x8) 7),qi (sc (w32 (x8+1))),qn,qn,qi (rem32 (and32 (sc (w32 (x8+1))) 255) 5),qn,qn,qn,qn,qn,qn] [] [(42,m0)] else RL sl sc n 0 613 [qr 0,qr 1,qj x2,qn,qi x4,qi x5,qi x6,qi x7,qi x8,qi (and32 (sc x8) 7),qi (sc (w32 (x8+1))),qn,qn,qi (rem32 (and32 (sc (w32 (x8+1))) 255) 5),qn,qn,qn,qn,qn,qn] [] [(42,m0)]) (fun _=>rfl) (Sim.ite (fun _=>Sim.shift 3 (G:=fun n=>if rem32 (and32 (sc (w32 (x8+1))) 255) 5<4 then RL sl sc n 0 548 [qr 0,qr 1,qj x2,qn,qi x4,qi x5,qi x6,qi x7,qi x8,qn,qn,qn,qn,qi (rem32 (and32 (sc (w32 (x8+1))) 255) 5),qn,qn,qn,qn,qn,qn] [] [(42,m0)] else RL sl sc n 0 567 [qr 0,qr 1,qj x2,qn,qi x4,qi x5,qi x6,qi x7,qi x8,qn,qn,qn,qn,qi (rem32 (and32 (sc (w32 (x8+1))) 255) 5),qn,qn,qn,qn,qn,qn] [] [(42,m0)]) (fun _=>rfl) (Sim.ite (fun _=>Sim.shift 4 (G:=fun n=>(RL sl sc n 3 0 [qj x2,qn,qi (rem32 (and32 (sc (w32 (x8+1))) 255) 5),qi 0] [] [(42,m0)]).bind fun y=>RLr sl sc n 0 555 [qr 0,qr 1,qj x2,qn,qi x4,qi x5,qi x6,qi x7,qi x8,qn,qn,qn,qn,qi (rem32 (and32 (sc (w32 (x8+1))) 255) 5),qn,qn,qn,qn,qn,qn] [] y) (fun _=>rfl) (Sim.call (l_m_ok sl sc x2 (rem32 (and32 (sc (w32 (x8+1))) 255) 5) 0 m0) (fun _ _=>rfl) (runL_mono _ _ _ _ _) (fun _=>runL_mono _ _ _ _ _) (fun r_150=>Sim.shift 0 (G:=fun n=>RL sl sc n 0 555 [qr 0,qr 1,qj x2,qn,qi x4,qi x5,qi x6,qi x7,qi x8,qn,qn,qn,qn,qi (rem32 (and32 (sc (w32 (x8+1))) 255) 5),qn,qn,qn,qn,qn,qn] [vi r_150] [(42,m0)]) (fun _=>rfl) (Sim.shift 3 (G:=fun n=>RL sl sc n 0 559 [qr 0,qr 1,qj x2,qn,qi x4,qi x5,qi x6,qi x7,qi x8,qn,qn,qn,qn,qi (rem32 (and32 (sc (w32 (x8+1))) 255) 5),qn,qn,qn,qn,qn,qn] [vi (xor32 x6 (-1)),vi r_150] [(42,m0)]) (fun _=>rfl) (Sim.shift 2 (G:=fun n=>if and32 r_150 (xor32 x6 (-1))=0 then RL sl sc n 0 563 [qr 0,qr 1,qj x2,qn,qi x4,qi x5,qi x6,qi x7,qi x8,qn,qn,qn,qn,qi (rem32 (and32 (sc (w32 (x8+1))) 255) 5),qn,qn,qn,qn,qn,qn] [] [(42,m0)] else RL sl sc n 0 567 [qr 0,qr 1,qj x2,qn,qi x4,qi x5,qi x6,qi x7,qi x8,qn,qn,qn,qn,qi (rem32 (and32 (sc (w32 (x8+1))) 255) 5),qn,qn,qn,qn,qn,qn] [] [(42,m0)]) (fun _=>rfl) (Sim.ite (fun _=>Sim.shift 2 (G:=fun n=>RL sl sc n 0 568 [qr 0,qr 1,qj x2,qn,qi x4,qi x5,qi x6,qi x7,qi x8,qn,qn,qn,qn,qi (rem32 (and32 (sc (w32 (x8+1))) 255) 5),qn,qn,qn,qn,qn,qn] [vi 1] [(42,m0)]) (fun _=>rfl) (l_law_b568_ok sl sc x2 x4 x5 x6 x7 x8 (rem32 (and32 (sc (w32 (x8+1))) 255) 5) 1 m0)) (fun _=>l_law_b567_ok sl sc x2 x4 x5 x6 x7 x8 (rem32 (and32 (sc (w32 (x8+1))) 255) 5) m0))))))) (fun _=>l_law_b567_ok sl sc x2 x4 x5 x6 x7 x8 (rem32 (and32 (sc (w32 (x8+1))) 255) 5) m0))) (fun _=>Sim.shift 5 (G:=fun n=>RL sl sc n 0 620 [qr 0,qr 1,qj x2,qn,qi x4,qi x5,qi x6,qi x7,qi x8,qn,qi (sc (w32 (x8+1))),qn,qn,qn,qn,qn,qn,qn,qn,qn] [vi (w32 ((and32 (sc (w32 (x8+1))) 7) - 2))] [(42,m0)]) (fun _=>rfl) (Sim.shift 4 (G:=fun n=>(R n 42 0 [qr 0,qi (w32 ((and32 (sc (w32 (x8+1))) 7) - 2)),qn,qn,qn] [] 42 m0).bind fun y=>RLv sl sc n 0 628 [qr 0,qr 1,qj x2,qn,qi x4,qi x5,qi x6,qi x7,qi x8,qn,qi (sc (w32 (x8+1))),qn,qn,qn,qi (w32 ((and32 (sc (w32 (x8+1))) 7) - 2)),qn,qn,qn,qn,qn] [] [(42,m0)] 0 y) (fun _=>rfl) (Sim.call (f_runPlan_ok (w32 ((and32 (sc (w32 (x8+1))) 7) - 2)) m0) (fun _ _=>rfl) (runP_mono _ _ _ _ _ _) (fun _=>runL_mono _ _ _ _ _) (fun ⟨r_155,m_156⟩=>Sim.shift 0 (G:=fun n=>RL sl sc n 0 628 [qr 0,qr 1,qj x2,qn,qi x4,qi x5,qi x6,qi x7,qi x8,qn,qi (sc (w32 (x8+1))),qn,qn,qn,qi (w32 ((and32 (sc (w32 (x8+1))) 7) - 2)),qn,qn,qn,qn,qn] [vi r_155] [(42,m_156)]) (fun _=>rfl) (Sim.shift 3 (G:=fun n=>if x7<0 then RL sl sc n 0 635 [qr 0,qr 1,qj x2,qn,qi x4,qi x5,qi x6,qi x7,qi x8,qn,qi (sc (w32 (x8+1))),qn,qn,qn,qi (w32 ((and32 (sc (w32 (x8+1))) 7) - 2)),qi r_155,qn,qn,qn,qn] [] [(42,m_156)] else RL sl sc n 0 643 [qr 0,qr 1,qj x2,qn,qi x4,qi x5,qi x6,qi x7,qi x8,qn,qi (sc (w32 (x8+1))),qn,qn,qn,qi (w32 ((and32 (sc (w32 (x8+1))) 7) - 2)),qi r_155,qn,qn,qn,qn] [] [(42,m_156)]) (fun _=>rfl) (Sim.ite (fun _=>Sim.shift 3 (G:=fun n=>if r_155=(-1) then RL sl sc n 0 698 [qr 0,qr 1,qj x2,qn,qi x4,qi x5,qi x6,qi x7,qi x8,qn,qn,qn,qn,qn,qn,qi r_155,qn,qn,qn,qn] [] [(42,m_156)] else RL sl sc n 0 641 [qr 0,qr 1,qj x2,qn,qi x4,qi x5,qi x6,qi x7,qi x8,qn,qn,qn,qn,qn,qn,qi r_155,qn,qn,qn,qn] [] [(42,m_156)]) (fun _=>rfl) (Sim.ite (fun _=>Sim.jmp (l_law_b698_ok sl sc x2 x4 x5 x6 x7 x8 m_156) rfl (fun _=>rfl)) (fun _=>Sim.leaf rfl (fun _=>rfl)))) (fun _=>Sim.shift 2 (G:=fun n=>if w32 ((and32 (sc (w32 (x8+1))) 7) - 2)<0 then RL sl sc n 0 648 [qr 0,qr 1,qj x2,qn,qi x4,qi x5,qn,qi x7,qi x8,qn,qn,qn,qn,qn,qi (w32 ((and32 (sc (w32 (x8+1))) 7) - 2)),qi r_155,qn,qn,qn,qn] [] [(42,m_156)] else RL sl sc n 0 652 [qr 0,qr 1,qj x2,qn,qi x4,qi x5,qn,qi x7,qi x8,qn,qn,qn,qn,qn,qi (w32 ((and32 (sc (w32 (x8+1))) 7) - 2)),qi r_155,qn,qn,qn,qn] [] [(42,m_156)]) (fun _=>rfl) (Sim.ite (fun _=>Sim.shift 2 (G:=fun n=>RL sl sc n 0 666 [qr 0,qr 1,qj x2,qn,qi x4,qi x5,qn,qi x7,qi x8,qn,qn,qn,qn,qn,qn,qi r_155,qn,qn,qn,qn] [vi 0] [(42,m_156)]) (fun _=>rfl) (l_law_b666_ok sl sc x2 x4 x5 x7 x8 r_155 0 m_156)) (fun _=>Sim.shift 3 (G:=fun n=>if x7<w32 ((and32 (sc (w32 (x8+1))) 7) - 2) then RL sl sc n 0 659 [qr 0,qr 1,qj x2,qn,qi x4,qi x5,qn,qi x7,qi x8,qn,qn,qn,qn,qn,qi (w32 ((and32 (sc (w32 (x8+1))) 7) - 2)),qi r_155,qn,qn,qn,qn] [] [(42,m_156)] else RL sl sc n 0 664 [qr 0,qr 1,qj x2,qn,qi x4,qi x5,qn,qi x7,qi x8,qn,qn,qn,qn,qn,qi (w32 ((and32 (sc (w32 (x8+1))) 7) - 2)),qi r_155,qn,qn,qn,qn] [] [(42,m_156)]) (fun _=>rfl) (Sim.ite (fun _=>Sim.shift 2 (G:=fun n=>RL sl sc n 0 666 [qr 0,qr 1,qj x2,qn,qi x4,qi x5,qn,qi x7,qi x8,qn,qn,qn,qn,qn,qn,qi r_155,qn,qn,qn,qn] [vi x7] [(42,m_156)]) (fun _=>rfl) (l_law_b666_ok sl sc x2 x4 x5 x7 x8 r_155 x7 m_156)) (fun _=>Sim.shift 1 (G:=fun n=>RL sl sc n 0 666 [qr 0,qr 1,qj x2,qn,qi x4,qi x5,qn,qi x7,qi x8,qn,qn,qn,qn,qn,qi (w32 ((and32 (sc (w32 (x8+1))) 7) - 2)),qi r_155,qn,qn,qn,qn] [vi (w32 ((and32 (sc (w32 (x8+1))) 7) - 2))] [(42,m_156)]) (fun _=>rfl) (Sim.jmp (l_law_b666_ok sl sc x2 x4 x5 x7 x8 r_155 (w32 ((and32 (sc (w32 (x8+1))) 7) - 2)) m_156) rfl (fun _=>rfl)))))))))))))))))))))))))))))))))))) (fun _=>Sim.leaf rfl (fun _=>rfl)))
def l_law_b442 (sl:Int) (sc:Int→Int) (m0:OMem):Option (Int×OWd):=some (0,[(42,m0)])
theorem l_law_b442_ok (sl:Int) (sc:Int→Int) (m0:OMem):Sim (l_law_b442 sl sc m0) (fun (r,w) _=>some (some (vi r),w)) (fun n=>RL sl sc n 0 442 [qn,qn,qn,qn,qn,qn,qn,qn,qn,qn,qn,qn,qn,qn,qn,qn,qn,qn,qn,qn] [] [(42,m0)]) :=
  Sim.shift 2 (G:=(fun _=>some (some (vi 0),[(42,m0)]))) (fun _=>rfl) (Sim.pur _ _)
def l_law (sl:Int) (sc:Int→Int):Option (Int×OWd):=(f_init 4 4 3 z0).bind fun m_124=>((lp (l_law_l29 sl sc) NN (0,0,0,0,(-2),0,m_124)).bind fun e=>match e with | (.inl m_164)=>(some (0,[(42,m_164)])) | (.inr (.inl m_165))=>(some (0,[(42,m_165)])) | (.inr (.inr (.inl m_166)))=>(l_law_b442 sl sc m_166) | (.inr (.inr (.inr (.inl m_167))))=>(some (0,[(42,m_167)])) | (.inr (.inr (.inr (.inr (.inl m_168)))))=>(some (0,[(42,m_168)])) | (.inr (.inr (.inr (.inr (.inr (.inl m_169))))))=>(some (0,[(42,m_169)])) | (.inr (.inr (.inr (.inr (.inr (.inr (.inl m_170)))))))=>(some (0,[(42,m_170)])) | (.inr (.inr (.inr (.inr (.inr (.inr (.inr (.inl m_171))))))))=>(some (0,[(42,m_171)])) | (.inr (.inr (.inr (.inr (.inr (.inr (.inr (.inr (.inl m_172)))))))))=>(some (0,[(42,m_172)])) | (.inr (.inr (.inr (.inr (.inr (.inr (.inr (.inr (.inr (.inl m_173))))))))))=>(some (0,[(42,m_173)])) | (.inr (.inr (.inr (.inr (.inr (.inr (.inr (.inr (.inr (.inr m_174))))))))))=>(some (1,[(42,m_174)])))
theorem l_law_ok (sl:Int) (sc:Int→Int):Sim (l_law sl sc ) (fun (r,w) _=>some (some (vi r),w)) (fun n=>RL sl sc n 0 0 [qr 0,qn,qn,qn,qn,qn,qn,qn,qn,qn,qn,qn,qn,qn,qn,qn,qn,qn,qn,qn] [] []) :=
  Sim.shift 6 (G:=fun n=>(R n 0 0 [qr 0,qi 4,qi 4,qi 3] [] 0 z0).bind fun y=>RLi sl sc n 0 10 [qr 0,qn,qn,qn,qn,qn,qn,qn,qn,qn,qn,qn,qn,qn,qn,qn,qn,qn,qn,qn] [vr 1] [(0,z0)] 0 y) (fun _=>rfl) (Sim.call (f_init_ok 4 4 3 z0) (fun _ _=>rfl) (runP_mono _ _ _ _ _ _) (fun _=>cond_Mono (runL_mono _ _ _ _ _)) (fun m_124=>Sim.shift 0 (G:=fun n=>RL sl sc n 0 10 [qr 0,qn,qn,qn,qn,qn,qn,qn,qn,qn,qn,qn,qn,qn,qn,qn,qn,qn,qn,qn] [vr 1] [(42,m_124)]) (fun _=>rfl) (Sim.shift 3 (G:=fun n=>RL sl sc n 0 13 [qr 0,qr 1,qj 0,qn,qn,qn,qn,qn,qn,qn,qn,qn,qn,qn,qn,qn,qn,qn,qn,qn] [] [(42,m_124)]) (fun _=>rfl) (Sim.shift 6 (G:=fun n=>RL sl sc n 0 22 [qr 0,qr 1,qj 0,qn,qi 0,qi 0,qi 0,qn,qn,qn,qn,qn,qn,qn,qn,qn,qn,qn,qn,qn] [] [(42,m_124)]) (fun _=>rfl) (Sim.shift 4 (G:=fun n=>RL sl sc n 0 29 [qr 0,qr 1,qj 0,qn,qi 0,qi 0,qi 0,qi (-2),qi 0,qn,qn,qn,qn,qn,qn,qn,qn,qn,qn,qn] [] [(42,m_124)]) (fun _=>rfl) (Sim.bind (Sim.lp (σ:=Int×Int×Int×Int×Int×Int×OMem) (fun ⟨x2L,x4L,x5L,x6L,x7L,x8L,m0L⟩=>l_law_l29_ok sl sc x2L x4L x5L x6L x7L x8L m0L) NN (0,0,0,0,(-2),0,m_124)) (fun e=>match e with | (.inl m_164)=>Sim.shift 2 (G:=(fun _=>some (some (vi 0),[(42,m_164)]))) (fun _=>rfl) (Sim.pur _ _) | (.inr (.inl m_165))=>Sim.shift 2 (G:=(fun _=>some (some (vi 0),[(42,m_165)]))) (fun _=>rfl) (Sim.pur _ _) | (.inr (.inr (.inl m_166)))=>l_law_b442_ok sl sc m_166 | (.inr (.inr (.inr (.inl m_167))))=>Sim.shift 2 (G:=(fun _=>some (some (vi 0),[(42,m_167)]))) (fun _=>rfl) (Sim.pur _ _) | (.inr (.inr (.inr (.inr (.inl m_168)))))=>Sim.shift 2 (G:=(fun _=>some (some (vi 0),[(42,m_168)]))) (fun _=>rfl) (Sim.pur _ _) | (.inr (.inr (.inr (.inr (.inr (.inl m_169))))))=>Sim.shift 2 (G:=(fun _=>some (some (vi 0),[(42,m_169)]))) (fun _=>rfl) (Sim.pur _ _) | (.inr (.inr (.inr (.inr (.inr (.inr (.inl m_170)))))))=>Sim.shift 2 (G:=(fun _=>some (some (vi 0),[(42,m_170)]))) (fun _=>rfl) (Sim.pur _ _) | (.inr (.inr (.inr (.inr (.inr (.inr (.inr (.inl m_171))))))))=>Sim.shift 2 (G:=(fun _=>some (some (vi 0),[(42,m_171)]))) (fun _=>rfl) (Sim.pur _ _) | (.inr (.inr (.inr (.inr (.inr (.inr (.inr (.inr (.inl m_172)))))))))=>Sim.shift 2 (G:=(fun _=>some (some (vi 0),[(42,m_172)]))) (fun _=>rfl) (Sim.pur _ _) | (.inr (.inr (.inr (.inr (.inr (.inr (.inr (.inr (.inr (.inl m_173))))))))))=>Sim.shift 2 (G:=(fun _=>some (some (vi 0),[(42,m_173)]))) (fun _=>rfl) (Sim.pur _ _) | (.inr (.inr (.inr (.inr (.inr (.inr (.inr (.inr (.inr (.inr m_174))))))))))=>Sim.shift 2 (G:=(fun _=>some (some (vi 1),[(42,m_174)]))) (fun _=>rfl) (Sim.pur _ _))))))))
abbrev zb {α:Type} (x k:Nat) (a b:α):α:=cond (Nat.blt x k) a b
theorem mg {a0:Array Value} {Z:State} {d:Cond} (hw:∀ d∈tables_1,d.before a0 Z=true) (i:Nat) (h:tables_1[i]?=some d):d.before a0 Z=true:=hw _ (List.mem_of_getElem? h)
abbrev mN (a b:String):MethodName:=⟨"GraphPlanner",a,b⟩
def nmT:Nat→MethodName:=fun q=>zb q 25 (zb q 12 (zb q 6 (zb q 3 (zb q 1 (mN "<init>" "(III)V") (zb q 2 (mN "clamp" "(III)I") (mN "solve" "(I)I"))) (zb q 4 (mN "prepareSearch" "(I)V") (zb q 5 (mN "buildConflicts" "()V") (mN "conflictRow" "(I)I")))) (zb q 9 (zb q 7 (mN "rawInterfere" "(II)Z") (zb q 8 (mN "buildUnions" "()V") (mN "lowestBit" "(I)I"))) (zb q 10 (mN "buildGraph" "(I)V") (zb q 11 (mN "buildCandidates" "(I)V") (mN "clearMemo" "()V"))))) (zb q 18 (zb q 15 (zb q 13 (mN "solvable" "(II)Z") (zb q 14 (mN "quickStatus" "(II)I") (mN "statusIndex" "(II)I"))) (zb q 16 (mN "extractPlan" "(I)V") (zb q 17 (mN "clearPlan" "()V") (mN "layerMask" "(I)I")))) (zb q 21 (zb q 19 (mN "listMask" "(II)I") (zb q 20 (mN "isAction" "(I)Z") (mN "isKind" "(I)Z"))) (zb q 23 (zb q 22 (mN "problemMask" "(I)I") (mN "planLength" "()I")) (zb q 24 (mN "setInit" "(IZ)Z") (mN "isFact" "(I)Z")))))) (zb q 38 (zb q 31 (zb q 28 (zb q 26 (mN "withBit" "(IIZ)I") (zb q 27 (mN "markStale" "()V") (mN "buildActionLevel" "(I)V"))) (zb q 29 (mN "actionPresent" "(II)Z") (zb q 30 (mN "hasMutexPair" "(II)Z") (mN "meetsMutex" "(III)Z")))) (zb q 34 (zb q 32 (mN "hasBit" "(II)Z") (zb q 33 (mN "actionMutexRow" "(II)I") (mN "noopMutexRow" "(II)I"))) (zb q 36 (zb q 35 (mN "buildFactLevel" "(I)V") (mN "factMutexRow" "(II)I")) (zb q 37 (mN "factsMutex" "(III)Z") (mN "achievers" "(II)I"))))) (zb q 44 (zb q 41 (zb q 39 (mN "layerCandidate" "(II)Z") (zb q 40 (mN "setFact" "(IIIZ)Z") (mN "setGoal" "(IZ)Z"))) (zb q 42 (mN "goalPossible" "(II)Z") (zb q 43 (mN "runPlan" "(I)I") (mN "apply" "(I)Z")))) (zb q 47 (zb q 45 (mN "resetRun" "()V") (zb q 46 (mN "push" "(II)Z") (mN "searchStep" "(I)V"))) (zb q 49 (zb q 48 (mN "regressOk" "(II)Z") (mN "regress" "(II)I")) (zb q 50 (mN "record" "(IIII)V") (mN "replayLayer" "(I)I"))))))
def byT:Nat→ByteArray:=fun q=>zb q 25 (zb q 12 (zb q 6 (zb q 3 (zb q 1 (prog_1_method_1_code) (zb q 2 (prog_1_method_17_code) (prog_1_method_10_code))) (zb q 4 (prog_1_method_28_code) (zb q 5 (prog_1_method_29_code) (prog_1_method_30_code)))) (zb q 9 (zb q 7 (prog_1_method_25_code) (zb q 8 (prog_1_method_31_code) (prog_1_method_32_code))) (zb q 10 (prog_1_method_34_code) (zb q 11 (prog_1_method_45_code) (prog_1_method_33_code))))) (zb q 18 (zb q 15 (zb q 13 (prog_1_method_54_code) (zb q 14 (prog_1_method_50_code) (prog_1_method_49_code))) (zb q 16 (prog_1_method_56_code) (zb q 17 (prog_1_method_24_code) (prog_1_method_12_code)))) (zb q 21 (zb q 19 (prog_1_method_5_code) (zb q 20 (prog_1_method_19_code) (prog_1_method_20_code))) (zb q 23 (zb q 22 (prog_1_method_6_code) (prog_1_method_11_code)) (zb q 24 (prog_1_method_3_code) (prog_1_method_18_code)))))) (zb q 38 (zb q 31 (zb q 28 (zb q 26 (prog_1_method_21_code) (zb q 27 (prog_1_method_23_code) (prog_1_method_35_code))) (zb q 29 (prog_1_method_36_code) (zb q 30 (prog_1_method_44_code) (prog_1_method_43_code)))) (zb q 34 (zb q 32 (prog_1_method_22_code) (zb q 33 (prog_1_method_37_code) (prog_1_method_38_code))) (zb q 36 (zb q 35 (prog_1_method_39_code) (prog_1_method_40_code)) (zb q 37 (prog_1_method_41_code) (prog_1_method_42_code))))) (zb q 44 (zb q 41 (zb q 39 (prog_1_method_46_code) (zb q 40 (prog_1_method_2_code) (prog_1_method_4_code))) (zb q 42 (prog_1_method_51_code) (zb q 43 (prog_1_method_15_code) (prog_1_method_14_code)))) (zb q 47 (zb q 45 (prog_1_method_13_code) (zb q 46 (prog_1_method_53_code) (prog_1_method_55_code))) (zb q 49 (zb q 48 (prog_1_method_47_code) (prog_1_method_48_code)) (zb q 50 (prog_1_method_52_code) (prog_1_method_16_code))))))
def fnmN:Nat→String×String:=fun n=>cond (Nat.blt n 16) (cond (Nat.blt n 8) (cond (Nat.blt n 4) (cond (Nat.blt n 2) (cond (Nat.blt n 1) (cond (Nat.beq n 0) (("markUnknown","I")) ("","")) (cond (Nat.beq n 1) (("markSolved","I")) ("",""))) (cond (Nat.blt n 3) (cond (Nat.beq n 2) (("markFailed","I")) ("","")) (cond (Nat.beq n 3) (("plan","[I")) ("","")))) (cond (Nat.blt n 6) (cond (Nat.blt n 5) (cond (Nat.beq n 4) (("preList","[I")) ("","")) (cond (Nat.beq n 5) (("addList","[I")) ("",""))) (cond (Nat.blt n 7) (cond (Nat.beq n 6) (("delList","[I")) ("","")) (cond (Nat.beq n 7) (("relax","[I")) ("",""))))) (cond (Nat.blt n 12) (cond (Nat.blt n 10) (cond (Nat.blt n 9) (cond (Nat.beq n 8) (("conflict","[I")) ("","")) (cond (Nat.beq n 9) (("uPre","[I")) ("",""))) (cond (Nat.blt n 11) (cond (Nat.beq n 10) (("uAdd","[I")) ("","")) (cond (Nat.beq n 11) (("uDel","[I")) ("","")))) (cond (Nat.blt n 14) (cond (Nat.blt n 13) (cond (Nat.beq n 12) (("uOk","[Z")) ("","")) (cond (Nat.beq n 13) (("gFacts","[I")) ("",""))) (cond (Nat.blt n 15) (cond (Nat.beq n 14) (("gActs","[I")) ("","")) (cond (Nat.beq n 15) (("gFMutex","[I")) ("","")))))) (cond (Nat.blt n 24) (cond (Nat.blt n 20) (cond (Nat.blt n 18) (cond (Nat.blt n 17) (cond (Nat.beq n 16) (("gAMutex","[I")) ("","")) (cond (Nat.beq n 17) (("gNoopMutex","[I")) ("",""))) (cond (Nat.blt n 19) (cond (Nat.beq n 18) (("cand","[Z")) ("","")) (cond (Nat.beq n 19) (("memo","[I")) ("","")))) (cond (Nat.blt n 22) (cond (Nat.blt n 21) (cond (Nat.beq n 20) (("choice","[I")) ("","")) (cond (Nat.beq n 21) (("stK","[I")) ("",""))) (cond (Nat.blt n 23) (cond (Nat.beq n 22) (("stG","[I")) ("","")) (cond (Nat.beq n 23) (("stX","[I")) ("",""))))) (cond (Nat.blt n 28) (cond (Nat.blt n 26) (cond (Nat.blt n 25) (cond (Nat.beq n 24) (("nF","I")) ("","")) (cond (Nat.beq n 25) (("nA","I")) ("",""))) (cond (Nat.blt n 27) (cond (Nat.beq n 26) (("maxL","I")) ("","")) (cond (Nat.beq n 27) (("initMask","I")) ("","")))) (cond (Nat.blt n 30) (cond (Nat.blt n 29) (cond (Nat.beq n 28) (("goalMask","I")) ("","")) (cond (Nat.beq n 29) (("runMask","I")) ("",""))) (cond (Nat.blt n 31) (cond (Nat.beq n 30) (("planLen","I")) ("","")) (cond (Nat.blt n 32) (cond (Nat.beq n 31) (("sp","I")) ("","")) (cond (Nat.beq n 32) (("graphLevels","I")) ("","")))))))
def fkdN:Nat→Option (Nat×Nat×Bool):=fun n=>cond (Nat.blt n 33) (cond (Nat.blt n 16) (cond (Nat.blt n 8) (cond (Nat.blt n 4) (cond (Nat.blt n 2) (cond (Nat.blt n 1) (cond (Nat.beq n 0) (some (1,0,true)) none) (cond (Nat.beq n 1) (some (1,0,true)) none)) (cond (Nat.blt n 3) (cond (Nat.beq n 2) (some (1,0,true)) none) (cond (Nat.beq n 3) (some (0,1,false)) none))) (cond (Nat.blt n 6) (cond (Nat.blt n 5) (cond (Nat.beq n 4) (some (0,2,false)) none) (cond (Nat.beq n 5) (some (0,3,false)) none)) (cond (Nat.blt n 7) (cond (Nat.beq n 6) (some (0,4,false)) none) (cond (Nat.beq n 7) (some (0,5,false)) none)))) (cond (Nat.blt n 12) (cond (Nat.blt n 10) (cond (Nat.blt n 9) (cond (Nat.beq n 8) (some (0,6,false)) none) (cond (Nat.beq n 9) (some (0,7,false)) none)) (cond (Nat.blt n 11) (cond (Nat.beq n 10) (some (0,8,false)) none) (cond (Nat.beq n 11) (some (0,9,false)) none))) (cond (Nat.blt n 14) (cond (Nat.blt n 13) (cond (Nat.beq n 12) (some (0,10,false)) none) (cond (Nat.beq n 13) (some (0,11,false)) none)) (cond (Nat.blt n 15) (cond (Nat.beq n 14) (some (0,12,false)) none) (cond (Nat.beq n 15) (some (0,13,false)) none))))) (cond (Nat.blt n 24) (cond (Nat.blt n 20) (cond (Nat.blt n 18) (cond (Nat.blt n 17) (cond (Nat.beq n 16) (some (0,14,false)) none) (cond (Nat.beq n 17) (some (0,15,false)) none)) (cond (Nat.blt n 19) (cond (Nat.beq n 18) (some (0,16,false)) none) (cond (Nat.beq n 19) (some (0,17,false)) none))) (cond (Nat.blt n 22) (cond (Nat.blt n 21) (cond (Nat.beq n 20) (some (0,18,false)) none) (cond (Nat.beq n 21) (some (0,19,false)) none)) (cond (Nat.blt n 23) (cond (Nat.beq n 22) (some (0,20,false)) none) (cond (Nat.beq n 23) (some (0,21,false)) none)))) (cond (Nat.blt n 28) (cond (Nat.blt n 26) (cond (Nat.blt n 25) (cond (Nat.beq n 24) (some (1,0,false)) none) (cond (Nat.beq n 25) (some (1,0,false)) none)) (cond (Nat.blt n 27) (cond (Nat.beq n 26) (some (1,0,false)) none) (cond (Nat.beq n 27) (some (1,0,false)) none))) (cond (Nat.blt n 30) (cond (Nat.blt n 29) (cond (Nat.beq n 28) (some (1,0,false)) none) (cond (Nat.beq n 29) (some (1,0,false)) none)) (cond (Nat.blt n 31) (cond (Nat.beq n 30) (some (1,0,false)) none) (cond (Nat.blt n 32) (cond (Nat.beq n 31) (some (1,0,false)) none) (cond (Nat.beq n 32) (some (1,0,false)) none))))))) none
def fnmT:FN:=fnmOf fnmN
def fkdT:FK:=fkdOf fkdN
theorem cdk_0:∀ pc i len,cd_0 pc=some (i,len)→decode prog_1_method_1_code pc=.ok (i,len)∧chk pc i len=true:=code_all 262 (fun _ h=>cond_ge h) (by decide +kernel)
theorem cdk_1:∀ pc i len,cd_1 pc=some (i,len)→decode prog_1_method_17_code pc=.ok (i,len)∧chk pc i len=true:=code_all 16 (fun _ h=>cond_ge h) (by decide +kernel)
theorem cdk_2:∀ pc i len,cd_2 pc=some (i,len)→decode prog_1_method_10_code pc=.ok (i,len)∧chk pc i len=true:=code_all 64 (fun _ h=>cond_ge h) (by decide +kernel)
theorem cdk_3:∀ pc i len,cd_3 pc=some (i,len)→decode prog_1_method_28_code pc=.ok (i,len)∧chk pc i len=true:=code_all 28 (fun _ h=>cond_ge h) (by decide +kernel)
theorem cdk_4:∀ pc i len,cd_4 pc=some (i,len)→decode prog_1_method_29_code pc=.ok (i,len)∧chk pc i len=true:=code_all 49 (fun _ h=>cond_ge h) (by decide +kernel)
theorem cdk_5:∀ pc i len,cd_5 pc=some (i,len)→decode prog_1_method_30_code pc=.ok (i,len)∧chk pc i len=true:=code_all 40 (fun _ h=>cond_ge h) (by decide +kernel)
theorem cdk_6:∀ pc i len,cd_6 pc=some (i,len)→decode prog_1_method_25_code pc=.ok (i,len)∧chk pc i len=true:=code_all 54 (fun _ h=>cond_ge h) (by decide +kernel)
theorem cdk_7:∀ pc i len,cd_7 pc=some (i,len)→decode prog_1_method_31_code pc=.ok (i,len)∧chk pc i len=true:=code_all 155 (fun _ h=>cond_ge h) (by decide +kernel)
theorem cdk_8:∀ pc i len,cd_8 pc=some (i,len)→decode prog_1_method_32_code pc=.ok (i,len)∧chk pc i len=true:=code_all 26 (fun _ h=>cond_ge h) (by decide +kernel)
theorem cdk_9:∀ pc i len,cd_9 pc=some (i,len)→decode prog_1_method_34_code pc=.ok (i,len)∧chk pc i len=true:=code_all 91 (fun _ h=>cond_ge h) (by decide +kernel)
theorem cdk_10:∀ pc i len,cd_10 pc=some (i,len)→decode prog_1_method_45_code pc=.ok (i,len)∧chk pc i len=true:=code_all 62 (fun _ h=>cond_ge h) (by decide +kernel)
theorem cdk_11:∀ pc i len,cd_11 pc=some (i,len)→decode prog_1_method_33_code pc=.ok (i,len)∧chk pc i len=true:=code_all 30 (fun _ h=>cond_ge h) (by decide +kernel)
theorem cdk_12:∀ pc i len,cd_12 pc=some (i,len)→decode prog_1_method_54_code pc=.ok (i,len)∧chk pc i len=true:=code_all 97 (fun _ h=>cond_ge h) (by decide +kernel)
theorem cdk_13:∀ pc i len,cd_13 pc=some (i,len)→decode prog_1_method_50_code pc=.ok (i,len)∧chk pc i len=true:=code_all 75 (fun _ h=>cond_ge h) (by decide +kernel)
theorem cdk_14:∀ pc i len,cd_14 pc=some (i,len)→decode prog_1_method_49_code pc=.ok (i,len)∧chk pc i len=true:=code_all 21 (fun _ h=>cond_ge h) (by decide +kernel)
theorem cdk_15:∀ pc i len,cd_15 pc=some (i,len)→decode prog_1_method_56_code pc=.ok (i,len)∧chk pc i len=true:=code_all 59 (fun _ h=>cond_ge h) (by decide +kernel)
theorem cdk_16:∀ pc i len,cd_16 pc=some (i,len)→decode prog_1_method_24_code pc=.ok (i,len)∧chk pc i len=true:=code_all 22 (fun _ h=>cond_ge h) (by decide +kernel)
theorem cdk_17:∀ pc i len,cd_17 pc=some (i,len)→decode prog_1_method_12_code pc=.ok (i,len)∧chk pc i len=true:=code_all 31 (fun _ h=>cond_ge h) (by decide +kernel)
theorem cdk_18:∀ pc i len,cd_18 pc=some (i,len)→decode prog_1_method_5_code pc=.ok (i,len)∧chk pc i len=true:=code_all 50 (fun _ h=>cond_ge h) (by decide +kernel)
theorem cdk_19:∀ pc i len,cd_19 pc=some (i,len)→decode prog_1_method_19_code pc=.ok (i,len)∧chk pc i len=true:=code_all 18 (fun _ h=>cond_ge h) (by decide +kernel)
theorem cdk_20:∀ pc i len,cd_20 pc=some (i,len)→decode prog_1_method_20_code pc=.ok (i,len)∧chk pc i len=true:=code_all 20 (fun _ h=>cond_ge h) (by decide +kernel)
theorem cdk_21:∀ pc i len,cd_21 pc=some (i,len)→decode prog_1_method_6_code pc=.ok (i,len)∧chk pc i len=true:=code_all 31 (fun _ h=>cond_ge h) (by decide +kernel)
theorem cdk_22:∀ pc i len,cd_22 pc=some (i,len)→decode prog_1_method_11_code pc=.ok (i,len)∧chk pc i len=true:=code_all 5 (fun _ h=>cond_ge h) (by decide +kernel)
theorem cdk_23:∀ pc i len,cd_23 pc=some (i,len)→decode prog_1_method_3_code pc=.ok (i,len)∧chk pc i len=true:=code_all 32 (fun _ h=>cond_ge h) (by decide +kernel)
theorem cdk_24:∀ pc i len,cd_24 pc=some (i,len)→decode prog_1_method_18_code pc=.ok (i,len)∧chk pc i len=true:=code_all 18 (fun _ h=>cond_ge h) (by decide +kernel)
theorem cdk_25:∀ pc i len,cd_25 pc=some (i,len)→decode prog_1_method_21_code pc=.ok (i,len)∧chk pc i len=true:=code_all 14 (fun _ h=>cond_ge h) (by decide +kernel)
theorem cdk_26:∀ pc i len,cd_26 pc=some (i,len)→decode prog_1_method_23_code pc=.ok (i,len)∧chk pc i len=true:=code_all 11 (fun _ h=>cond_ge h) (by decide +kernel)
theorem cdk_27:∀ pc i len,cd_27 pc=some (i,len)→decode prog_1_method_35_code pc=.ok (i,len)∧chk pc i len=true:=code_all 105 (fun _ h=>cond_ge h) (by decide +kernel)
theorem cdk_28:∀ pc i len,cd_28 pc=some (i,len)→decode prog_1_method_36_code pc=.ok (i,len)∧chk pc i len=true:=code_all 40 (fun _ h=>cond_ge h) (by decide +kernel)
theorem cdk_29:∀ pc i len,cd_29 pc=some (i,len)→decode prog_1_method_44_code pc=.ok (i,len)∧chk pc i len=true:=code_all 8 (fun _ h=>cond_ge h) (by decide +kernel)
theorem cdk_30:∀ pc i len,cd_30 pc=some (i,len)→decode prog_1_method_43_code pc=.ok (i,len)∧chk pc i len=true:=code_all 61 (fun _ h=>cond_ge h) (by decide +kernel)
theorem cdk_31:∀ pc i len,cd_31 pc=some (i,len)→decode prog_1_method_22_code pc=.ok (i,len)∧chk pc i len=true:=code_all 26 (fun _ h=>cond_ge h) (by decide +kernel)
theorem cdk_32:∀ pc i len,cd_32 pc=some (i,len)→decode prog_1_method_37_code pc=.ok (i,len)∧chk pc i len=true:=code_all 115 (fun _ h=>cond_ge h) (by decide +kernel)
theorem cdk_33:∀ pc i len,cd_33 pc=some (i,len)→decode prog_1_method_38_code pc=.ok (i,len)∧chk pc i len=true:=code_all 118 (fun _ h=>cond_ge h) (by decide +kernel)
theorem cdk_34:∀ pc i len,cd_34 pc=some (i,len)→decode prog_1_method_39_code pc=.ok (i,len)∧chk pc i len=true:=code_all 87 (fun _ h=>cond_ge h) (by decide +kernel)
theorem cdk_35:∀ pc i len,cd_35 pc=some (i,len)→decode prog_1_method_40_code pc=.ok (i,len)∧chk pc i len=true:=code_all 85 (fun _ h=>cond_ge h) (by decide +kernel)
theorem cdk_36:∀ pc i len,cd_36 pc=some (i,len)→decode prog_1_method_41_code pc=.ok (i,len)∧chk pc i len=true:=code_all 184 (fun _ h=>cond_ge h) (by decide +kernel)
theorem cdk_37:∀ pc i len,cd_37 pc=some (i,len)→decode prog_1_method_42_code pc=.ok (i,len)∧chk pc i len=true:=code_all 59 (fun _ h=>cond_ge h) (by decide +kernel)
theorem cdk_38:∀ pc i len,cd_38 pc=some (i,len)→decode prog_1_method_46_code pc=.ok (i,len)∧chk pc i len=true:=code_all 71 (fun _ h=>cond_ge h) (by decide +kernel)
theorem cdk_39:∀ pc i len,cd_39 pc=some (i,len)→decode prog_1_method_2_code pc=.ok (i,len)∧chk pc i len=true:=code_all 116 (fun _ h=>cond_ge h) (by decide +kernel)
theorem cdk_40:∀ pc i len,cd_40 pc=some (i,len)→decode prog_1_method_4_code pc=.ok (i,len)∧chk pc i len=true:=code_all 32 (fun _ h=>cond_ge h) (by decide +kernel)
theorem cdk_41:∀ pc i len,cd_41 pc=some (i,len)→decode prog_1_method_51_code pc=.ok (i,len)∧chk pc i len=true:=code_all 40 (fun _ h=>cond_ge h) (by decide +kernel)
theorem cdk_42:∀ pc i len,cd_42 pc=some (i,len)→decode prog_1_method_15_code pc=.ok (i,len)∧chk pc i len=true:=code_all 56 (fun _ h=>cond_ge h) (by decide +kernel)
theorem cdk_43:∀ pc i len,cd_43 pc=some (i,len)→decode prog_1_method_14_code pc=.ok (i,len)∧chk pc i len=true:=code_all 54 (fun _ h=>cond_ge h) (by decide +kernel)
theorem cdk_44:∀ pc i len,cd_44 pc=some (i,len)→decode prog_1_method_13_code pc=.ok (i,len)∧chk pc i len=true:=code_all 9 (fun _ h=>cond_ge h) (by decide +kernel)
theorem cdk_45:∀ pc i len,cd_45 pc=some (i,len)→decode prog_1_method_53_code pc=.ok (i,len)∧chk pc i len=true:=code_all 60 (fun _ h=>cond_ge h) (by decide +kernel)
theorem cdk_46:∀ pc i len,cd_46 pc=some (i,len)→decode prog_1_method_55_code pc=.ok (i,len)∧chk pc i len=true:=code_all 187 (fun _ h=>cond_ge h) (by decide +kernel)
theorem cdk_47:∀ pc i len,cd_47 pc=some (i,len)→decode prog_1_method_47_code pc=.ok (i,len)∧chk pc i len=true:=code_all 26 (fun _ h=>cond_ge h) (by decide +kernel)
theorem cdk_48:∀ pc i len,cd_48 pc=some (i,len)→decode prog_1_method_48_code pc=.ok (i,len)∧chk pc i len=true:=code_all 18 (fun _ h=>cond_ge h) (by decide +kernel)
theorem cdk_49:∀ pc i len,cd_49 pc=some (i,len)→decode prog_1_method_52_code pc=.ok (i,len)∧chk pc i len=true:=code_all 26 (fun _ h=>cond_ge h) (by decide +kernel)
theorem cdk_50:∀ pc i len,cd_50 pc=some (i,len)→decode prog_1_method_16_code pc=.ok (i,len)∧chk pc i len=true:=code_all 63 (fun _ h=>cond_ge h) (by decide +kernel)
theorem t_code:∀ q pc i len,pcode PP q pc=some (i,len)→decode (byT q) pc=.ok (i,len)∧chk pc i len=true:=by
  intro q
  by_cases hq:q<51
  · exact allN (Q:=fun q=>∀ pc i len,pcode PP q pc=some (i,len)→decode (byT q) pc=.ok (i,len)∧chk pc i len=true) (N:=51) (⟨⟨⟨⟨⟨⟨⟨⟨⟨⟨⟨⟨⟨⟨⟨⟨⟨⟨⟨⟨⟨⟨⟨⟨⟨⟨⟨⟨⟨⟨⟨⟨⟨⟨⟨⟨⟨⟨⟨⟨⟨⟨⟨⟨⟨⟨⟨⟨⟨⟨⟨trivial,cdk_0⟩,cdk_1⟩,cdk_2⟩,cdk_3⟩,cdk_4⟩,cdk_5⟩,cdk_6⟩,cdk_7⟩,cdk_8⟩,cdk_9⟩,cdk_10⟩,cdk_11⟩,cdk_12⟩,cdk_13⟩,cdk_14⟩,cdk_15⟩,cdk_16⟩,cdk_17⟩,cdk_18⟩,cdk_19⟩,cdk_20⟩,cdk_21⟩,cdk_22⟩,cdk_23⟩,cdk_24⟩,cdk_25⟩,cdk_26⟩,cdk_27⟩,cdk_28⟩,cdk_29⟩,cdk_30⟩,cdk_31⟩,cdk_32⟩,cdk_33⟩,cdk_34⟩,cdk_35⟩,cdk_36⟩,cdk_37⟩,cdk_38⟩,cdk_39⟩,cdk_40⟩,cdk_41⟩,cdk_42⟩,cdk_43⟩,cdk_44⟩,cdk_45⟩,cdk_46⟩,cdk_47⟩,cdk_48⟩,cdk_49⟩,cdk_50⟩) q hq
  · intro pc i len h
    have h0:PPcode q pc=none:=cond_ge (by omega)
    have h1:PPcode q pc=some (i,len):=h
    rw [h0] at h1; cases h1
theorem t_fld0 {a0:Array Value} {Z:State} (hw:∀ d∈tables_1,d.before a0 Z=true):∀ x e,PPfld x=some e→(Jvm.Cond.fieldLink "GraphPlanner" x "GraphPlanner" (fnmT e.1).1 (fnmT e.1).2).before a0 Z=true∧fkdT e.1=some (e.2.1,e.2.2.1,e.2.2.2) :=
  tab_all (f:=PPfld) 113 [(7,(0,1,0,true)),(13,(1,1,0,true)),(16,(2,1,0,true)),(19,(3,0,1,false)),(23,(4,0,2,false)),(26,(5,0,3,false)),(29,(6,0,4,false)),(32,(7,0,5,false)),(35,(8,0,6,false)),(38,(9,0,7,false)),(41,(10,0,8,false)),(44,(11,0,9,false)),(47,(12,0,10,false)),(51,(13,0,11,false)),(54,(14,0,12,false)),(57,(15,0,13,false)),(60,(16,0,14,false)),(63,(17,0,15,false)),(66,(18,0,16,false)),(69,(19,0,17,false)),(72,(20,0,18,false)),(75,(21,0,19,false)),(78,(22,0,20,false)),(81,(23,0,21,false)),(88,(24,1,0,false)),(91,(25,1,0,false)),(94,(26,1,0,false)),(97,(27,1,0,false)),(100,(28,1,0,false)),(103,(29,1,0,false)),(106,(30,1,0,false)),(109,(31,1,0,false)),(112,(32,1,0,false))] (fun _ h=>cond_ge h) (by decide +kernel) (Q:=fun x e=>(Jvm.Cond.fieldLink "GraphPlanner" x "GraphPlanner" (fnmT e.1).1 (fnmT e.1).2).before a0 Z=true∧fkdT e.1=some (e.2.1,e.2.2.1,e.2.2.2)) ⟨⟨mg hw 9 rfl,rfl⟩,⟨mg hw 11 rfl,rfl⟩,⟨mg hw 13 rfl,rfl⟩,⟨mg hw 16 rfl,rfl⟩,⟨mg hw 18 rfl,rfl⟩,⟨mg hw 20 rfl,rfl⟩,⟨mg hw 22 rfl,rfl⟩,⟨mg hw 24 rfl,rfl⟩,⟨mg hw 26 rfl,rfl⟩,⟨mg hw 28 rfl,rfl⟩,⟨mg hw 30 rfl,rfl⟩,⟨mg hw 32 rfl,rfl⟩,⟨mg hw 35 rfl,rfl⟩,⟨mg hw 37 rfl,rfl⟩,⟨mg hw 39 rfl,rfl⟩,⟨mg hw 41 rfl,rfl⟩,⟨mg hw 43 rfl,rfl⟩,⟨mg hw 45 rfl,rfl⟩,⟨mg hw 47 rfl,rfl⟩,⟨mg hw 49 rfl,rfl⟩,⟨mg hw 51 rfl,rfl⟩,⟨mg hw 53 rfl,rfl⟩,⟨mg hw 55 rfl,rfl⟩,⟨mg hw 57 rfl,rfl⟩,⟨mg hw 63 rfl,rfl⟩,⟨mg hw 65 rfl,rfl⟩,⟨mg hw 67 rfl,rfl⟩,⟨mg hw 69 rfl,rfl⟩,⟨mg hw 71 rfl,rfl⟩,⟨mg hw 73 rfl,rfl⟩,⟨mg hw 75 rfl,rfl⟩,⟨mg hw 77 rfl,rfl⟩,⟨mg hw 79 rfl,rfl⟩,trivial⟩
theorem t_fld {a0:Array Value} {Z:State} (hw:∀ d∈tables_1,d.before a0 Z=true):∀ x f kd j fin,pfld PP x=some (f,kd,j,fin)→(Jvm.Cond.fieldLink "GraphPlanner" x "GraphPlanner" (fnmT f).1 (fnmT f).2).before a0 Z=true∧fkdT f=some (kd,j,fin):=fun x f kd j fin h =>
  t_fld0 hw x (f,kd,j,fin) h
theorem t_fkd {a0:Array Value} {Z:State} (hw:∀ d∈tables_1,d.before a0 Z=true):∀ f kd j fin,fkdT f=some (kd,j,fin)→((fin=false∧(Jvm.Cond.lays "GraphPlanner" "GraphPlanner" (fnmT f).1 (fnmT f).2).before a0 Z=true)∨(fin=true∧(Jvm.Cond.laysFinal "GraphPlanner" "GraphPlanner" (fnmT f).1 (fnmT f).2).before a0 Z=true))∧parseFieldDescriptor (fnmT f).2=some (fty PP kd j)∧(kd=0→1≤j)∧kd≤4 :=
  fkd_all (f:=fkdN) (tab_all 33 [(0,(1,0,true)),(1,(1,0,true)),(2,(1,0,true)),(3,(0,1,false)),(4,(0,2,false)),(5,(0,3,false)),(6,(0,4,false)),(7,(0,5,false)),(8,(0,6,false)),(9,(0,7,false)),(10,(0,8,false)),(11,(0,9,false)),(12,(0,10,false)),(13,(0,11,false)),(14,(0,12,false)),(15,(0,13,false)),(16,(0,14,false)),(17,(0,15,false)),(18,(0,16,false)),(19,(0,17,false)),(20,(0,18,false)),(21,(0,19,false)),(22,(0,20,false)),(23,(0,21,false)),(24,(1,0,false)),(25,(1,0,false)),(26,(1,0,false)),(27,(1,0,false)),(28,(1,0,false)),(29,(1,0,false)),(30,(1,0,false)),(31,(1,0,false)),(32,(1,0,false))] (fun _ h=>cond_ge h) (by decide +kernel) ⟨⟨Or.inr ⟨rfl,mg hw 10 rfl⟩,by decide +kernel,by decide,by decide⟩,⟨Or.inr ⟨rfl,mg hw 12 rfl⟩,by decide +kernel,by decide,by decide⟩,⟨Or.inr ⟨rfl,mg hw 14 rfl⟩,by decide +kernel,by decide,by decide⟩,⟨Or.inl ⟨rfl,mg hw 17 rfl⟩,by decide +kernel,by decide,by decide⟩,⟨Or.inl ⟨rfl,mg hw 19 rfl⟩,by decide +kernel,by decide,by decide⟩,⟨Or.inl ⟨rfl,mg hw 21 rfl⟩,by decide +kernel,by decide,by decide⟩,⟨Or.inl ⟨rfl,mg hw 23 rfl⟩,by decide +kernel,by decide,by decide⟩,⟨Or.inl ⟨rfl,mg hw 25 rfl⟩,by decide +kernel,by decide,by decide⟩,⟨Or.inl ⟨rfl,mg hw 27 rfl⟩,by decide +kernel,by decide,by decide⟩,⟨Or.inl ⟨rfl,mg hw 29 rfl⟩,by decide +kernel,by decide,by decide⟩,⟨Or.inl ⟨rfl,mg hw 31 rfl⟩,by decide +kernel,by decide,by decide⟩,⟨Or.inl ⟨rfl,mg hw 33 rfl⟩,by decide +kernel,by decide,by decide⟩,⟨Or.inl ⟨rfl,mg hw 36 rfl⟩,by decide +kernel,by decide,by decide⟩,⟨Or.inl ⟨rfl,mg hw 38 rfl⟩,by decide +kernel,by decide,by decide⟩,⟨Or.inl ⟨rfl,mg hw 40 rfl⟩,by decide +kernel,by decide,by decide⟩,⟨Or.inl ⟨rfl,mg hw 42 rfl⟩,by decide +kernel,by decide,by decide⟩,⟨Or.inl ⟨rfl,mg hw 44 rfl⟩,by decide +kernel,by decide,by decide⟩,⟨Or.inl ⟨rfl,mg hw 46 rfl⟩,by decide +kernel,by decide,by decide⟩,⟨Or.inl ⟨rfl,mg hw 48 rfl⟩,by decide +kernel,by decide,by decide⟩,⟨Or.inl ⟨rfl,mg hw 50 rfl⟩,by decide +kernel,by decide,by decide⟩,⟨Or.inl ⟨rfl,mg hw 52 rfl⟩,by decide +kernel,by decide,by decide⟩,⟨Or.inl ⟨rfl,mg hw 54 rfl⟩,by decide +kernel,by decide,by decide⟩,⟨Or.inl ⟨rfl,mg hw 56 rfl⟩,by decide +kernel,by decide,by decide⟩,⟨Or.inl ⟨rfl,mg hw 58 rfl⟩,by decide +kernel,by decide,by decide⟩,⟨Or.inl ⟨rfl,mg hw 64 rfl⟩,by decide +kernel,by decide,by decide⟩,⟨Or.inl ⟨rfl,mg hw 66 rfl⟩,by decide +kernel,by decide,by decide⟩,⟨Or.inl ⟨rfl,mg hw 68 rfl⟩,by decide +kernel,by decide,by decide⟩,⟨Or.inl ⟨rfl,mg hw 70 rfl⟩,by decide +kernel,by decide,by decide⟩,⟨Or.inl ⟨rfl,mg hw 72 rfl⟩,by decide +kernel,by decide,by decide⟩,⟨Or.inl ⟨rfl,mg hw 74 rfl⟩,by decide +kernel,by decide,by decide⟩,⟨Or.inl ⟨rfl,mg hw 76 rfl⟩,by decide +kernel,by decide,by decide⟩,⟨Or.inl ⟨rfl,mg hw 78 rfl⟩,by decide +kernel,by decide,by decide⟩,⟨Or.inl ⟨rfl,mg hw 80 rfl⟩,by decide +kernel,by decide,by decide⟩,trivial⟩)
theorem t_lay0 {a0:Array Value} {Z:State} (hw:∀ d∈tables_1,d.before a0 Z=true):∀ j e,PPlay j=some e→1≤j∧j≤21∧0≤e.2∧e.2≤60000000∧(e.1=1∨e.1=2∨e.1=3∨e.1=4)∧(Jvm.Cond.arrayClass (kty e.1)).before a0 Z=true :=
  tab_all (f:=PPlay) 22 [(1,(1,9)),(2,(1,10)),(3,(1,10)),(4,(1,10)),(5,(1,12)),(6,(1,10)),(7,(1,1024)),(8,(1,1024)),(9,(1,1024)),(10,(2,1024)),(11,(1,9)),(12,(1,9)),(13,(1,90)),(14,(1,90)),(15,(1,90)),(16,(2,9216)),(17,(1,9216)),(18,(1,9216)),(19,(1,10)),(20,(1,10)),(21,(1,10))] (fun _ h=>cond_ge h) (by decide +kernel) (Q:=fun j e=>1≤j∧j≤21∧0≤e.2∧e.2≤60000000∧(e.1=1∨e.1=2∨e.1=3∨e.1=4)∧(Jvm.Cond.arrayClass (kty e.1)).before a0 Z=true) ⟨⟨by decide,by decide,by decide,by decide,by decide,mg hw 15 rfl⟩,⟨by decide,by decide,by decide,by decide,by decide,mg hw 15 rfl⟩,⟨by decide,by decide,by decide,by decide,by decide,mg hw 15 rfl⟩,⟨by decide,by decide,by decide,by decide,by decide,mg hw 15 rfl⟩,⟨by decide,by decide,by decide,by decide,by decide,mg hw 15 rfl⟩,⟨by decide,by decide,by decide,by decide,by decide,mg hw 15 rfl⟩,⟨by decide,by decide,by decide,by decide,by decide,mg hw 15 rfl⟩,⟨by decide,by decide,by decide,by decide,by decide,mg hw 15 rfl⟩,⟨by decide,by decide,by decide,by decide,by decide,mg hw 15 rfl⟩,⟨by decide,by decide,by decide,by decide,by decide,mg hw 34 rfl⟩,⟨by decide,by decide,by decide,by decide,by decide,mg hw 15 rfl⟩,⟨by decide,by decide,by decide,by decide,by decide,mg hw 15 rfl⟩,⟨by decide,by decide,by decide,by decide,by decide,mg hw 15 rfl⟩,⟨by decide,by decide,by decide,by decide,by decide,mg hw 15 rfl⟩,⟨by decide,by decide,by decide,by decide,by decide,mg hw 15 rfl⟩,⟨by decide,by decide,by decide,by decide,by decide,mg hw 34 rfl⟩,⟨by decide,by decide,by decide,by decide,by decide,mg hw 15 rfl⟩,⟨by decide,by decide,by decide,by decide,by decide,mg hw 15 rfl⟩,⟨by decide,by decide,by decide,by decide,by decide,mg hw 15 rfl⟩,⟨by decide,by decide,by decide,by decide,by decide,mg hw 15 rfl⟩,⟨by decide,by decide,by decide,by decide,by decide,mg hw 15 rfl⟩,trivial⟩
theorem t_lay {a0:Array Value} {Z:State} (hw:∀ d∈tables_1,d.before a0 Z=true):∀ j kd n,play PP j=some (kd,n)→1≤j∧j≤21∧0≤n∧n≤60000000∧(kd=1∨kd=2∨kd=3∨kd=4)∧(Jvm.Cond.arrayClass (kty kd)).before a0 Z=true:=fun j kd n h =>
  t_lay0 hw j (kd,n) h
theorem t_cst0 {a0:Array Value} {Z:State} (hw:∀ d∈tables_1,d.before a0 Z=true):∀ x e,PPcst x=some e→(∀ z,e=.inl z→∃ v:Int32,(Jvm.Cond.constant "GraphPlanner" x v).before a0 Z=true∧v.toInt=z)∧(∀ z,e=.inr (.inl z)→∃ v:Int64,(Jvm.Cond.constantLong "GraphPlanner" x v).before a0 Z=true∧v.toInt=z) :=
  tab_all (f:=PPcst) 234 [(233,(vi 40000000))] (fun _ h=>cond_ge h) (by decide +kernel) ⟨⟨fun z h=>(by cases h; exact ⟨40000000,mg hw 284 rfl,by decide⟩),fun z h=>(by cases h)⟩,trivial⟩
theorem t_cst {a0:Array Value} {Z:State} (hw:∀ d∈tables_1,d.before a0 Z=true):((∀ x z,pcst PP x=some (.inl z)→∃ v:Int32,(Jvm.Cond.constant "GraphPlanner" x v).before a0 Z=true∧v.toInt=z)∧(∀ x z,pcst PP x=some (.inr (.inl z))→∃ v:Int64,(Jvm.Cond.constantLong "GraphPlanner" x v).before a0 Z=true∧v.toInt=z)):=⟨fun x z h=>(t_cst0 hw x _ h).1 z rfl,fun x z h=>(t_cst0 hw x _ h).2 z rfl⟩
theorem t_mth {a0:Array Value} {Z:State} (hw:∀ d∈tables_1,d.before a0 Z=true):∀ x q,pmth PP x=some q→(Jvm.Cond.methodLink "GraphPlanner" x (nmT q)).before a0 Z=true :=
  tab_all (f:=PPmth) 245 [(84,1),(115,19),(119,20),(122,24),(125,25),(129,26),(132,6),(139,3),(143,12),(146,15),(149,16),(152,50),(156,43),(162,4),(165,7),(168,9),(171,10),(174,11),(177,5),(180,8),(183,27),(186,34),(189,28),(192,32),(196,33),(199,29),(202,31),(205,30),(209,35),(212,36),(215,37),(218,38),(221,14),(224,41),(227,13),(230,45),(234,46),(237,49),(241,47),(244,48)] (fun _ h=>cond_ge h) (by decide +kernel) ⟨mg hw 59 rfl,mg hw 159 rfl,mg hw 163 rfl,mg hw 186 rfl,mg hw 190 rfl,mg hw 194 rfl,mg hw 98 rfl,mg hw 86 rfl,mg hw 122 rfl,mg hw 134 rfl,mg hw 138 rfl,mg hw 301 rfl,mg hw 305 rfl,mg hw 90 rfl,mg hw 102 rfl,mg hw 110 rfl,mg hw 114 rfl,mg hw 118 rfl,mg hw 94 rfl,mg hw 106 rfl,mg hw 198 rfl,mg hw 226 rfl,mg hw 202 rfl,mg hw 218 rfl,mg hw 222 rfl,mg hw 206 rfl,mg hw 214 rfl,mg hw 210 rfl,mg hw 230 rfl,mg hw 234 rfl,mg hw 238 rfl,mg hw 242 rfl,mg hw 130 rfl,mg hw 257 rfl,mg hw 126 rfl,mg hw 280 rfl,mg hw 285 rfl,mg hw 297 rfl,mg hw 289 rfl,mg hw 293 rfl,trivial⟩
theorem t_inf0 {a0:Array Value} {Z:State} (hw:∀ d∈tables_1,d.before a0 Z=true):∀ q e,PPinf q=some e→(nmT q).cls = "GraphPlanner"∧(Jvm.Cond.instanceMethod (nmT q)).before a0 Z=true∧(Jvm.Cond.code (nmT q) (byT q) e.2.1 (rty e.2.2.1)).before a0 Z=true∧(q≠0→(Jvm.Cond.privateMethod (nmT q)).before a0 Z=true∨((Jvm.Cond.declares (nmT q)).before a0 Z=true∧(Jvm.Cond.selects "GraphPlanner" (nmT q) (nmT q)).before a0 Z=true))∧∃ params,parseMethodDescriptor (nmT q).desc=some ⟨params,rty e.2.2.1⟩∧params.length=e.1.length :=
  tab_all (f:=PPinf) 51 [(0,([false,false,false],4,0,1,16)),(1,([false,false,false],4,1,0,0)),(2,([false],4,1,7,110)),(3,([false],2,0,6,97)),(4,([],2,0,2,31)),(5,([false],4,1,1,14)),(6,([false,false],3,2,0,0)),(7,([],5,0,1,14)),(8,([false],3,1,0,0)),(9,([false],3,0,5,83)),(10,([false],5,0,2,31)),(11,([],2,0,0,0)),(12,([false,false],6,2,6,92)),(13,([false,false],4,1,4,58)),(14,([false,false],4,1,1,15)),(15,([false],5,0,2,31)),(16,([],2,0,0,0)),(17,([false],2,1,0,0)),(18,([false,false],3,1,1,13)),(19,([false],2,2,0,0)),(20,([false],2,2,0,0)),(21,([false],2,1,0,0)),(22,([],1,1,0,0)),(23,([false,false],3,2,2,25)),(24,([false],2,2,0,0)),(25,([false,false,false],4,1,0,0)),(26,([],1,0,1,13)),(27,([false],4,0,4,58)),(28,([false,false],3,2,3,44)),(29,([false,false],3,2,2,30)),(30,([false,false,false],5,2,1,14)),(31,([false,false],3,2,0,0)),(32,([false,false],5,1,2,30)),(33,([false,false],6,1,1,14)),(34,([false],4,0,4,68)),(35,([false,false],5,1,3,50)),(36,([false,false,false],9,2,2,30)),(37,([false,false],5,1,1,14)),(38,([false,false],4,2,1,14)),(39,([false,false,false,false],6,2,2,25)),(40,([false,false],3,2,2,25)),(41,([false,false],3,2,3,44)),(42,([false],5,1,3,43)),(43,([false],2,2,1,13)),(44,([],1,0,0,0)),(45,([false,false],3,2,0,0)),(46,([false],8,0,5,73)),(47,([false,false],3,2,0,0)),(48,([false,false],3,1,0,0)),(49,([false,false,false,false],6,0,2,30)),(50,([false],5,1,2,26))] (fun _ h=>cond_ge h) (by decide +kernel) (Q:=fun q e=>(nmT q).cls = "GraphPlanner"∧(Jvm.Cond.instanceMethod (nmT q)).before a0 Z=true∧(Jvm.Cond.code (nmT q) (byT q) e.2.1 (rty e.2.2.1)).before a0 Z=true∧(q≠0→(Jvm.Cond.privateMethod (nmT q)).before a0 Z=true∨((Jvm.Cond.declares (nmT q)).before a0 Z=true∧(Jvm.Cond.selects "GraphPlanner" (nmT q) (nmT q)).before a0 Z=true))∧∃ params,parseMethodDescriptor (nmT q).desc=some ⟨params,rty e.2.2.1⟩∧params.length=e.1.length) ⟨⟨rfl,mg hw 4 rfl,mg hw 5 rfl,fun h=>absurd rfl h,[.int,.int,.int],by decide +kernel,rfl⟩,⟨rfl,mg hw 60 rfl,mg hw 62 rfl,fun _=>Or.inl (mg hw 61 rfl),[.int,.int,.int],by decide +kernel,rfl⟩,⟨rfl,mg hw 83 rfl,mg hw 85 rfl,fun _=>Or.inr ⟨mg hw 82 rfl,mg hw 84 rfl⟩,[.int],by decide +kernel,rfl⟩,⟨rfl,mg hw 87 rfl,mg hw 89 rfl,fun _=>Or.inl (mg hw 88 rfl),[.int],by decide +kernel,rfl⟩,⟨rfl,mg hw 91 rfl,mg hw 93 rfl,fun _=>Or.inl (mg hw 92 rfl),[],by decide +kernel,rfl⟩,⟨rfl,mg hw 95 rfl,mg hw 97 rfl,fun _=>Or.inl (mg hw 96 rfl),[.int],by decide +kernel,rfl⟩,⟨rfl,mg hw 99 rfl,mg hw 101 rfl,fun _=>Or.inl (mg hw 100 rfl),[.int,.int],by decide +kernel,rfl⟩,⟨rfl,mg hw 103 rfl,mg hw 105 rfl,fun _=>Or.inl (mg hw 104 rfl),[],by decide +kernel,rfl⟩,⟨rfl,mg hw 107 rfl,mg hw 109 rfl,fun _=>Or.inl (mg hw 108 rfl),[.int],by decide +kernel,rfl⟩,⟨rfl,mg hw 111 rfl,mg hw 113 rfl,fun _=>Or.inl (mg hw 112 rfl),[.int],by decide +kernel,rfl⟩,⟨rfl,mg hw 115 rfl,mg hw 117 rfl,fun _=>Or.inl (mg hw 116 rfl),[.int],by decide +kernel,rfl⟩,⟨rfl,mg hw 119 rfl,mg hw 121 rfl,fun _=>Or.inl (mg hw 120 rfl),[],by decide +kernel,rfl⟩,⟨rfl,mg hw 123 rfl,mg hw 125 rfl,fun _=>Or.inl (mg hw 124 rfl),[.int,.int],by decide +kernel,rfl⟩,⟨rfl,mg hw 127 rfl,mg hw 129 rfl,fun _=>Or.inl (mg hw 128 rfl),[.int,.int],by decide +kernel,rfl⟩,⟨rfl,mg hw 131 rfl,mg hw 133 rfl,fun _=>Or.inl (mg hw 132 rfl),[.int,.int],by decide +kernel,rfl⟩,⟨rfl,mg hw 135 rfl,mg hw 137 rfl,fun _=>Or.inl (mg hw 136 rfl),[.int],by decide +kernel,rfl⟩,⟨rfl,mg hw 139 rfl,mg hw 141 rfl,fun _=>Or.inl (mg hw 140 rfl),[],by decide +kernel,rfl⟩,⟨rfl,mg hw 148 rfl,mg hw 150 rfl,fun _=>Or.inr ⟨mg hw 147 rfl,mg hw 149 rfl⟩,[.int],by decide +kernel,rfl⟩,⟨rfl,mg hw 156 rfl,mg hw 158 rfl,fun _=>Or.inr ⟨mg hw 155 rfl,mg hw 157 rfl⟩,[.int,.int],by decide +kernel,rfl⟩,⟨rfl,mg hw 160 rfl,mg hw 162 rfl,fun _=>Or.inl (mg hw 161 rfl),[.int],by decide +kernel,rfl⟩,⟨rfl,mg hw 164 rfl,mg hw 166 rfl,fun _=>Or.inl (mg hw 165 rfl),[.int],by decide +kernel,rfl⟩,⟨rfl,mg hw 173 rfl,mg hw 175 rfl,fun _=>Or.inr ⟨mg hw 172 rfl,mg hw 174 rfl⟩,[.int],by decide +kernel,rfl⟩,⟨rfl,mg hw 178 rfl,mg hw 180 rfl,fun _=>Or.inr ⟨mg hw 177 rfl,mg hw 179 rfl⟩,[],by decide +kernel,rfl⟩,⟨rfl,mg hw 183 rfl,mg hw 185 rfl,fun _=>Or.inr ⟨mg hw 182 rfl,mg hw 184 rfl⟩,[.int,.boolean],by decide +kernel,rfl⟩,⟨rfl,mg hw 187 rfl,mg hw 189 rfl,fun _=>Or.inl (mg hw 188 rfl),[.int],by decide +kernel,rfl⟩,⟨rfl,mg hw 191 rfl,mg hw 193 rfl,fun _=>Or.inl (mg hw 192 rfl),[.int,.int,.boolean],by decide +kernel,rfl⟩,⟨rfl,mg hw 195 rfl,mg hw 197 rfl,fun _=>Or.inl (mg hw 196 rfl),[],by decide +kernel,rfl⟩,⟨rfl,mg hw 199 rfl,mg hw 201 rfl,fun _=>Or.inl (mg hw 200 rfl),[.int],by decide +kernel,rfl⟩,⟨rfl,mg hw 203 rfl,mg hw 205 rfl,fun _=>Or.inl (mg hw 204 rfl),[.int,.int],by decide +kernel,rfl⟩,⟨rfl,mg hw 207 rfl,mg hw 209 rfl,fun _=>Or.inl (mg hw 208 rfl),[.int,.int],by decide +kernel,rfl⟩,⟨rfl,mg hw 211 rfl,mg hw 213 rfl,fun _=>Or.inl (mg hw 212 rfl),[.int,.int,.int],by decide +kernel,rfl⟩,⟨rfl,mg hw 215 rfl,mg hw 217 rfl,fun _=>Or.inl (mg hw 216 rfl),[.int,.int],by decide +kernel,rfl⟩,⟨rfl,mg hw 219 rfl,mg hw 221 rfl,fun _=>Or.inl (mg hw 220 rfl),[.int,.int],by decide +kernel,rfl⟩,⟨rfl,mg hw 223 rfl,mg hw 225 rfl,fun _=>Or.inl (mg hw 224 rfl),[.int,.int],by decide +kernel,rfl⟩,⟨rfl,mg hw 227 rfl,mg hw 229 rfl,fun _=>Or.inl (mg hw 228 rfl),[.int],by decide +kernel,rfl⟩,⟨rfl,mg hw 231 rfl,mg hw 233 rfl,fun _=>Or.inl (mg hw 232 rfl),[.int,.int],by decide +kernel,rfl⟩,⟨rfl,mg hw 235 rfl,mg hw 237 rfl,fun _=>Or.inl (mg hw 236 rfl),[.int,.int,.int],by decide +kernel,rfl⟩,⟨rfl,mg hw 239 rfl,mg hw 241 rfl,fun _=>Or.inl (mg hw 240 rfl),[.int,.int],by decide +kernel,rfl⟩,⟨rfl,mg hw 243 rfl,mg hw 245 rfl,fun _=>Or.inl (mg hw 244 rfl),[.int,.int],by decide +kernel,rfl⟩,⟨rfl,mg hw 248 rfl,mg hw 250 rfl,fun _=>Or.inr ⟨mg hw 247 rfl,mg hw 249 rfl⟩,[.int,.int,.int,.boolean],by decide +kernel,rfl⟩,⟨rfl,mg hw 254 rfl,mg hw 256 rfl,fun _=>Or.inr ⟨mg hw 253 rfl,mg hw 255 rfl⟩,[.int,.boolean],by decide +kernel,rfl⟩,⟨rfl,mg hw 258 rfl,mg hw 260 rfl,fun _=>Or.inl (mg hw 259 rfl),[.int,.int],by decide +kernel,rfl⟩,⟨rfl,mg hw 263 rfl,mg hw 265 rfl,fun _=>Or.inr ⟨mg hw 262 rfl,mg hw 264 rfl⟩,[.int],by decide +kernel,rfl⟩,⟨rfl,mg hw 268 rfl,mg hw 270 rfl,fun _=>Or.inr ⟨mg hw 267 rfl,mg hw 269 rfl⟩,[.int],by decide +kernel,rfl⟩,⟨rfl,mg hw 273 rfl,mg hw 275 rfl,fun _=>Or.inr ⟨mg hw 272 rfl,mg hw 274 rfl⟩,[],by decide +kernel,rfl⟩,⟨rfl,mg hw 281 rfl,mg hw 283 rfl,fun _=>Or.inl (mg hw 282 rfl),[.int,.int],by decide +kernel,rfl⟩,⟨rfl,mg hw 286 rfl,mg hw 288 rfl,fun _=>Or.inl (mg hw 287 rfl),[.int],by decide +kernel,rfl⟩,⟨rfl,mg hw 290 rfl,mg hw 292 rfl,fun _=>Or.inl (mg hw 291 rfl),[.int,.int],by decide +kernel,rfl⟩,⟨rfl,mg hw 294 rfl,mg hw 296 rfl,fun _=>Or.inl (mg hw 295 rfl),[.int,.int],by decide +kernel,rfl⟩,⟨rfl,mg hw 298 rfl,mg hw 300 rfl,fun _=>Or.inl (mg hw 299 rfl),[.int,.int,.int,.int],by decide +kernel,rfl⟩,⟨rfl,mg hw 302 rfl,mg hw 304 rfl,fun _=>Or.inl (mg hw 303 rfl),[.int],by decide +kernel,rfl⟩,trivial⟩
theorem t_inf {a0:Array Value} {Z:State} (hw:∀ d∈tables_1,d.before a0 Z=true):∀ q ps ml rk fr lc,pinf PP q=some (ps,ml,rk,fr,lc)→(nmT q).cls = "GraphPlanner"∧(Jvm.Cond.instanceMethod (nmT q)).before a0 Z=true∧(Jvm.Cond.code (nmT q) (byT q) ml (rty rk)).before a0 Z=true∧(q≠0→(Jvm.Cond.privateMethod (nmT q)).before a0 Z=true∨((Jvm.Cond.declares (nmT q)).before a0 Z=true∧(Jvm.Cond.selects "GraphPlanner" (nmT q) (nmT q)).before a0 Z=true))∧∃ params,parseMethodDescriptor (nmT q).desc=some ⟨params,rty rk⟩∧params.length=ps.length:=fun q ps ml rk fr lc h =>
  t_inf0 hw q (ps,ml,rk,fr,lc) h
theorem tabP {a0:Array Value} {Z:State} (hw:∀ d∈tables_1,d.before a0 Z=true):TabP PP "GraphPlanner" fnmT fkdT nmT byT 21 33 a0 Z :=
  ⟨t_code,t_fld hw,t_fkd hw,names_all 33 (fun _ h=>cond_ge h) (by decide +kernel),ptrs_all 33 (fun _ h=>cond_ge h) (by decide +kernel),t_lay hw,t_cst hw,t_mth hw,t_inf hw,fun x h=>by cases Nat.eq_of_beq_eq_true h; exact mg hw 6 rfl,⟨mg hw 7 rfl,mg hw 8 rfl⟩,mg hw 1 rfl,mg hw 2 rfl,by first | (simp [plainName,overriddenIn]; done) | decide +kernel,by decide,rfl,fun ps ml rk fr lc h=>by cases h; rfl⟩
abbrev lN (a b:String):MethodName:=⟨"GraphPlannerL6",a,b⟩
def lnmT:Nat→MethodName:=fun q=>zb q 2 (zb q 1 (lN "law" "([I)Z") (lN "valid" "(LGraphPlanner;IJII)Z")) (zb q 3 (lN "agree" "(LGraphPlanner;JIIII)Z") (zb q 4 (lN "m" "(JII)I") (lN "replay" "(LGraphPlanner;IJI)I")))
def lbyT:Nat→ByteArray:=fun q=>zb q 2 (zb q 1 (code) (method_4_code)) (zb q 3 (method_3_code) (zb q 4 (method_2_code) (method_5_code)))
theorem lcdk_0:∀ pc i len,lcd_0 pc=some (i,len)→decode code pc=.ok (i,len)∧chk pc i len=true:=code_all 724 (fun _ h=>cond_ge h) (by decide +kernel)
theorem lcdk_1:∀ pc i len,lcd_1 pc=some (i,len)→decode method_4_code pc=.ok (i,len)∧chk pc i len=true:=code_all 178 (fun _ h=>cond_ge h) (by decide +kernel)
theorem lcdk_2:∀ pc i len,lcd_2 pc=some (i,len)→decode method_3_code pc=.ok (i,len)∧chk pc i len=true:=code_all 93 (fun _ h=>cond_ge h) (by decide +kernel)
theorem lcdk_3:∀ pc i len,lcd_3 pc=some (i,len)→decode method_2_code pc=.ok (i,len)∧chk pc i len=true:=code_all 16 (fun _ h=>cond_ge h) (by decide +kernel)
theorem lcdk_4:∀ pc i len,lcd_4 pc=some (i,len)→decode method_5_code pc=.ok (i,len)∧chk pc i len=true:=code_all 109 (fun _ h=>cond_ge h) (by decide +kernel)
theorem tl_code:∀ q pc i len,lcode LL q pc=some (i,len)→decode (lbyT q) pc=.ok (i,len)∧chk pc i len=true:=by
  intro q
  by_cases hq:q<5
  · exact allN (Q:=fun q=>∀ pc i len,lcode LL q pc=some (i,len)→decode (lbyT q) pc=.ok (i,len)∧chk pc i len=true) (N:=5) (⟨⟨⟨⟨⟨trivial,lcdk_0⟩,lcdk_1⟩,lcdk_2⟩,lcdk_3⟩,lcdk_4⟩) q hq
  · intro pc i len h
    have h0:LLcode q pc=none:=cond_ge (by omega)
    have h1:LLcode q pc=some (i,len):=h
    rw [h0] at h1; cases h1
theorem tl_cst0 {a0:Array Value} {Z:State} (hw:∀ d∈tables_1,d.before a0 Z=true):∀ x e,LLcst x=some e→(∀ z,e=.inl z→∃ v:Int32,(Jvm.Cond.constant "GraphPlannerL6" x v).before a0 Z=true∧v.toInt=z)∧(∀ z,e=.inr (.inl z)→∃ v:Int64,(Jvm.Cond.constantLong "GraphPlannerL6" x v).before a0 Z=true∧v.toInt=z) :=
  tab_all (f:=LLcst) 41 [(7,(vl 15)),(32,(vi 65536)),(40,(vl (-1)))] (fun _ h=>cond_ge h) (by decide +kernel) ⟨⟨fun z h=>(by cases h),fun z h=>by cases h; exact ⟨15,mg hw 170 rfl,by decide⟩⟩,⟨fun z h=>(by cases h; exact ⟨65536,mg hw 279 rfl,by decide⟩),fun z h=>(by cases h)⟩,⟨fun z h=>(by cases h),fun z h=>by cases h; exact ⟨(-1),mg hw 251 rfl,by decide⟩⟩,trivial⟩
theorem tl_cst {a0:Array Value} {Z:State} (hw:∀ d∈tables_1,d.before a0 Z=true):((∀ x z,lcst LL x=some (.inl z)→∃ v:Int32,(Jvm.Cond.constant "GraphPlannerL6" x v).before a0 Z=true∧v.toInt=z)∧(∀ x z,lcst LL x=some (.inr (.inl z))→∃ v:Int64,(Jvm.Cond.constantLong "GraphPlannerL6" x v).before a0 Z=true∧v.toInt=z)):=⟨fun x z h=>(tl_cst0 hw x _ h).1 z rfl,fun x z h=>(tl_cst0 hw x _ h).2 z rfl⟩
theorem tl_vm {a0:Array Value} {Z:State} (hw:∀ d∈tables_1,d.before a0 Z=true):∀ x q,lvm LL x=some q→(Jvm.Cond.methodLink "GraphPlannerL6" x (nmT q)).before a0 Z=true∧(Jvm.Cond.declares (nmT q)).before a0 Z=true∧(Jvm.Cond.selects "GraphPlanner" (nmT q) (nmT q)).before a0 Z=true :=
  tab_all (f:=LLvm) 64 [(9,18),(21,21),(25,22),(29,17),(36,39),(42,23),(46,40),(49,2),(56,44),(59,43),(63,42)] (fun _ h=>cond_ge h) (by decide +kernel) ⟨⟨mg hw 154 rfl,mg hw 155 rfl,mg hw 157 rfl⟩,⟨mg hw 171 rfl,mg hw 172 rfl,mg hw 174 rfl⟩,⟨mg hw 176 rfl,mg hw 177 rfl,mg hw 179 rfl⟩,⟨mg hw 146 rfl,mg hw 147 rfl,mg hw 149 rfl⟩,⟨mg hw 246 rfl,mg hw 247 rfl,mg hw 249 rfl⟩,⟨mg hw 181 rfl,mg hw 182 rfl,mg hw 184 rfl⟩,⟨mg hw 252 rfl,mg hw 253 rfl,mg hw 255 rfl⟩,⟨mg hw 81 rfl,mg hw 82 rfl,mg hw 84 rfl⟩,⟨mg hw 271 rfl,mg hw 272 rfl,mg hw 274 rfl⟩,⟨mg hw 266 rfl,mg hw 267 rfl,mg hw 269 rfl⟩,⟨mg hw 261 rfl,mg hw 262 rfl,mg hw 264 rfl⟩,trivial⟩
theorem tl_sm {a0:Array Value} {Z:State} (hw:∀ d∈tables_1,d.before a0 Z=true):∀ x q,lsm LL x=some q→(Jvm.Cond.methodLink "GraphPlannerL6" x (lnmT q)).before a0 Z=true :=
  tab_all (f:=LLsm) 71 [(15,3),(52,1),(66,4),(70,2)] (fun _ h=>cond_ge h) (by decide +kernel) ⟨mg hw 167 rfl,mg hw 142 rfl,mg hw 276 rfl,mg hw 151 rfl,trivial⟩
theorem tl_inf {a0:Array Value} {Z:State} (hw:∀ d∈tables_1,d.before a0 Z=true):∀ q ps ml rk fr lc,linf LL q=some (ps,ml,rk,fr,lc)→q≠0→(lnmT q).cls = "GraphPlannerL6"∧(Jvm.Cond.static (lnmT q)).before a0 Z=true∧(Jvm.Cond.initialized "GraphPlannerL6").before a0 Z=true∧(Jvm.Cond.code (lnmT q) (lbyT q) ml (rty rk)).before a0 Z=true∧∃ params,parseMethodDescriptor (lnmT q).desc=some ⟨params,rty rk⟩∧params.length=ps.length:=fun q ps ml rk fr lc h =>
  tab_all (f:=LLinf) 5 [(0,([2],20,2,8,125)),(1,([0,0,1,0,2],12,2,1,16)),(2,([0,0,0,0,1,2],9,2,2,27)),(3,([0,0,1],4,1,0,0)),(4,([0,1,0,2],10,1,1,16))] (fun _ h=>cond_ge h) (by decide +kernel) (Q:=fun q e=>q≠0→(lnmT q).cls = "GraphPlannerL6"∧(Jvm.Cond.static (lnmT q)).before a0 Z=true∧(Jvm.Cond.initialized "GraphPlannerL6").before a0 Z=true∧(Jvm.Cond.code (lnmT q) (lbyT q) e.2.1 (rty e.2.2.1)).before a0 Z=true∧∃ params,parseMethodDescriptor (lnmT q).desc=some ⟨params,rty e.2.2.1⟩∧params.length=e.1.length) ⟨fun h=>absurd rfl h,fun _=>⟨rfl,mg hw 143 rfl,mg hw 144 rfl,mg hw 145 rfl,[.object "GraphPlanner",.int,.long,.int,.int],by decide +kernel,rfl⟩,fun _=>⟨rfl,mg hw 152 rfl,mg hw 144 rfl,mg hw 153 rfl,[.object "GraphPlanner",.long,.int,.int,.int,.int],by decide +kernel,rfl⟩,fun _=>⟨rfl,mg hw 168 rfl,mg hw 144 rfl,mg hw 169 rfl,[.long,.int,.int],by decide +kernel,rfl⟩,fun _=>⟨rfl,mg hw 277 rfl,mg hw 144 rfl,mg hw 278 rfl,[.object "GraphPlanner",.int,.long,.int],by decide +kernel,rfl⟩,trivial⟩ q _ h
theorem tabL {a0:Array Value} {Z:State} (hw:∀ d∈tables_1,d.before a0 Z=true):TabL PP LL "GraphPlanner" "GraphPlannerL6" nmT lnmT lbyT a0 Z :=
  ⟨tl_code,tl_cst hw,tl_vm hw,fun x h=>by cases Nat.eq_of_beq_eq_true h; exact mg hw 3 rfl,tl_sm hw,fun x h=>by cases Nat.eq_of_beq_eq_true h; exact mg hw 0 rfl,tl_inf hw,by first | (simp [plainName,overriddenIn]; done) | decide +kernel,by decide⟩
theorem u_f_clamp {x1 x2 x3:Int} {m:OMem} {Q:(Int)→Prop} (h:Ok ((if x1<x2 then (some x2) else (if x3<x1 then (some x3) else (some x1))):Option (Int)) Q):Ok (f_clamp x1 x2 x3 m) Q:=h
theorem u_f_rawInterfere_b53 {s0:Int} {m:OMem} {Q:(Int)→Prop} (h:Ok ((some (s0 % 2)):Option (Int)) Q):Ok (f_rawInterfere_b53 s0 m) Q:=h
theorem u_f_rawInterfere {x1 x2:Int} {m:OMem} {Q:(Int)→Prop} (h:Ok ((if 0≤x1∧x1<10 then (if 0≤x2∧x2<10 then (if 0≤x2∧x2<10 then (if and32 (m 4 x1) (or32 (m 2 x2) (m 3 x2))=0 then (if 0≤x2∧x2<10 then (if 0≤x1∧x1<10 then (if 0≤x1∧x1<10 then (if and32 (m 4 x2) (or32 (m 2 x1) (m 3 x1))=0 then (f_rawInterfere_b53 0 m) else (f_rawInterfere_b53 1 m)) else none) else none) else none) else (some 1)) else none) else none) else none):Option (Int)) Q):Ok (f_rawInterfere x1 x2 m) Q:=h
theorem u_f_conflictRow_b32 {x1 x2 x3:Int} {m:OMem} {Q:((Int×Int)⊕((Int)))→Prop} (h:Ok ((some (.inl (x2,w32 (x3+1)))):Option ((Int×Int)⊕((Int)))) Q):Ok (f_conflictRow_b32 x1 x2 x3 m) Q:=h
theorem u_f_conflictRow_l4 {m:OMem} {x1:Int} {x2:Int} {x3:Int} {Q:((Int×Int)⊕((Int)))→Prop} (h:Ok ((if x3<m 0 25 then (if x3=x1 then (f_conflictRow_b32 x1 x2 x3 m) else ((f_rawInterfere x1 x3 m).bind fun r_6=>(if r_6=0 then (f_conflictRow_b32 x1 x2 x3 m) else (f_conflictRow_b32 x1 (or32 x2 (shl32 1 x3)) x3 m)))) else (some (.inr x2))):Option ((Int×Int)⊕((Int)))) Q):Ok (f_conflictRow_l4 m x1 (x2,x3)) Q:=h
theorem u_f_buildConflicts_l2  {x1:Int} {m:OMem} {Q:((Int×OMem)⊕((OMem)))→Prop} (h:Ok ((if x1<10 then (if 0≤x1∧x1<10 then (some (.inl (w32 (x1+1),sto m 6 x1 0))) else none) else (some (.inr m))):Option ((Int×OMem)⊕((OMem)))) Q):Ok (f_buildConflicts_l2 (x1,m)) Q:=h
theorem u_f_buildConflicts_l23  {x1:Int} {m:OMem} {Q:((Int×OMem)⊕((OMem)))→Prop} (h:Ok ((if x1<m 0 25 then ((f_conflictRow x1 m).bind fun r_8=>(if 0≤x1∧x1<10 then (some (.inl (w32 (x1+1),sto m 6 x1 r_8))) else none)) else (some (.inr m))):Option ((Int×OMem)⊕((OMem)))) Q):Ok (f_buildConflicts_l23 (x1,m)) Q:=h
theorem u_f_hasBit_b10 {m:OMem} {Q:(Int)→Prop} (h:Ok ((some 0):Option (Int)) Q):Ok (f_hasBit_b10 m) Q:=h
theorem u_f_hasBit_b25 {s0:Int} {m:OMem} {Q:(Int)→Prop} (h:Ok ((some (s0 % 2)):Option (Int)) Q):Ok (f_hasBit_b25 s0 m) Q:=h
theorem u_f_hasBit {x1 x2:Int} {m:OMem} {Q:(Int)→Prop} (h:Ok ((if x2<0 then (f_hasBit_b10 m) else (if 30<x2 then (f_hasBit_b10 m) else (if and32 x1 (shl32 1 x2)=0 then (f_hasBit_b25 0 m) else (f_hasBit_b25 1 m)))):Option (Int)) Q):Ok (f_hasBit x1 x2 m) Q:=h
theorem u_f_meetsMutex_b53 {x1 x2 x3 x4:Int} {m:OMem} {Q:((Int)⊕((Unit)⊕(Unit)))→Prop} (h:Ok ((some (.inl (w32 (x4+1)))):Option ((Int)⊕((Unit)⊕(Unit)))) Q):Ok (f_meetsMutex_b53 x1 x2 x3 x4 m) Q:=h
theorem u_f_meetsMutex_l15 {m:OMem} {x1 x2 x3:Int} {x4:Int} {Q:((Int)⊕((Unit)⊕(Unit)))→Prop} (h:Ok ((if x4<m 0 24 then ((f_hasBit x2 x4 m).bind fun r_17=>(if r_17=0 then (f_meetsMutex_b53 x1 x2 x3 x4 m) else (if 0≤w32 ((w32 (x1*10))+x4)∧w32 ((w32 (x1*10))+x4)<90 then (if and32 (m 13 (w32 ((w32 (x1*10))+x4))) x3=0 then (f_meetsMutex_b53 x1 x2 x3 x4 m) else (some (.inr (.inl ())))) else none))) else (some (.inr (.inr ())))):Option ((Int)⊕((Unit)⊕(Unit)))) Q):Ok (f_meetsMutex_l15 m x1 x2 x3 x4) Q:=h
theorem u_f_hasMutexPair {x1 x2:Int} {m:OMem} {Q:(Int)→Prop} (h:Ok (((f_meetsMutex x1 x2 x2 m).bind fun r_18=>(some (r_18 % 2))):Option (Int)) Q):Ok (f_hasMutexPair x1 x2 m) Q:=h
theorem u_f_actionPresent_b39 {s0:Int} {m:OMem} {Q:(Int)→Prop} (h:Ok ((some (s0 % 2)):Option (Int)) Q):Ok (f_actionPresent_b39 s0 m) Q:=h
theorem u_f_actionPresent {x1 x2:Int} {m:OMem} {Q:(Int)→Prop} (h:Ok ((if 0≤x2∧x2<10 then (if 0≤x1∧x1<9 then (if and32 (m 2 x2) (xor32 (m 11 x1) (-1))=0 then (if 0≤x2∧x2<10 then ((f_hasMutexPair x1 (m 2 x2) m).bind fun r_19=>(if r_19=0 then (f_actionPresent_b39 1 m) else (f_actionPresent_b39 0 m))) else none) else (some 0)) else none) else none):Option (Int)) Q):Ok (f_actionPresent x1 x2 m) Q:=h
theorem u_f_actionMutexRow_b107 {x1 x2 x3 x4:Int} {m:OMem} {Q:((Int×Int)⊕((Int)))→Prop} (h:Ok ((some (.inl (x3,w32 (x4+1)))):Option ((Int×Int)⊕((Int)))) Q):Ok (f_actionMutexRow_b107 x1 x2 x3 x4 m) Q:=h
theorem u_f_actionMutexRow_b100 {x1 x2 x3 x4:Int} {m:OMem} {Q:((Int×Int)⊕((Int)))→Prop} (h:Ok ((f_actionMutexRow_b107 x1 x2 (or32 x3 (shl32 1 x4)) x4 m):Option ((Int×Int)⊕((Int)))) Q):Ok (f_actionMutexRow_b100 x1 x2 x3 x4 m) Q:=h
theorem u_f_actionMutexRow_l29 {m:OMem} {x1 x2:Int} {x3:Int} {x4:Int} {Q:((Int×Int)⊕((Int)))→Prop} (h:Ok ((if x4<m 0 25 then (if x4=x2 then (f_actionMutexRow_b107 x1 x2 x3 x4 m) else (if 0≤x1∧x1<9 then ((f_hasBit (m 12 x1) x4 m).bind fun r_23=>(if r_23=0 then (f_actionMutexRow_b107 x1 x2 x3 x4 m) else (if 0≤x2∧x2<10 then ((f_hasBit (m 6 x2) x4 m).bind fun r_24=>(if r_24=0 then (if 0≤x2∧x2<10 then (if 0≤x4∧x4<10 then ((f_meetsMutex (w32 (x1 - 1)) (m 2 x2) (m 2 x4) m).bind fun r_25=>(if r_25=0 then (f_actionMutexRow_b107 x1 x2 x3 x4 m) else (f_actionMutexRow_b100 x1 x2 x3 x4 m))) else none) else none) else (f_actionMutexRow_b100 x1 x2 x3 x4 m))) else none))) else none)) else (some (.inr x3))):Option ((Int×Int)⊕((Int)))) Q):Ok (f_actionMutexRow_l29 m x1 x2 (x3,x4)) Q:=h
theorem u_f_noopMutexRow_b24 {m:OMem} {Q:(Int)→Prop} (h:Ok ((some 0):Option (Int)) Q):Ok (f_noopMutexRow_b24 m) Q:=h
theorem u_f_noopMutexRow_b109 {x1 x2 x3 x4 x5:Int} {m:OMem} {Q:((Int×Int)⊕((Int)))→Prop} (h:Ok ((some (.inl (x4,w32 (x5+1)))):Option ((Int×Int)⊕((Int)))) Q):Ok (f_noopMutexRow_b109 x1 x2 x3 x4 x5 m) Q:=h
theorem u_f_noopMutexRow_b100 {x1 x2 x3 x4 x5:Int} {m:OMem} {Q:((Int×Int)⊕((Int)))→Prop} (h:Ok ((f_noopMutexRow_b109 x1 x2 x3 (or32 x4 (shl32 1 x5)) x5 m):Option ((Int×Int)⊕((Int)))) Q):Ok (f_noopMutexRow_b100 x1 x2 x3 x4 x5 m) Q:=h
theorem u_f_noopMutexRow_l46 {m:OMem} {x1 x2 x3:Int} {x4:Int} {x5:Int} {Q:((Int×Int)⊕((Int)))→Prop} (h:Ok ((if x5<m 0 25 then (if 0≤x1∧x1<9 then ((f_hasBit (m 12 x1) x5 m).bind fun r_30=>(if r_30=0 then (f_noopMutexRow_b109 x1 x2 x3 x4 x5 m) else (if 0≤x5∧x5<10 then ((f_hasBit (m 4 x5) x2 m).bind fun r_31=>(if r_31=0 then (if 0≤x5∧x5<10 then (if and32 x3 (m 2 x5)=0 then (f_noopMutexRow_b109 x1 x2 x3 x4 x5 m) else (f_noopMutexRow_b100 x1 x2 x3 x4 x5 m)) else none) else (f_noopMutexRow_b100 x1 x2 x3 x4 x5 m))) else none))) else none) else (some (.inr x4))):Option ((Int×Int)⊕((Int)))) Q):Ok (f_noopMutexRow_l46 m x1 x2 x3 (x4,x5)) Q:=h
theorem u_f_noopMutexRow {x1 x2:Int} {m:OMem} {Q:(Int)→Prop} (h:Ok ((if x2<m 0 24 then (if 0≤w32 (x1 - 1)∧w32 (x1 - 1)<9 then ((f_hasBit (m 11 (w32 (x1 - 1))) x2 m).bind fun r_29=>(if r_29=0 then (f_noopMutexRow_b24 m) else (if 0≤w32 ((w32 ((w32 (x1 - 1))*10))+x2)∧w32 ((w32 ((w32 (x1 - 1))*10))+x2)<90 then ((lp (f_noopMutexRow_l46 m x1 x2 (m 13 (w32 ((w32 ((w32 (x1 - 1))*10))+x2)))) NN (0,0)).bind fun x4_32=>(some x4_32)) else none))) else none) else (f_noopMutexRow_b24 m)):Option (Int)) Q):Ok (f_noopMutexRow x1 x2 m) Q:=h
theorem u_f_buildActionLevel_b29 {x1 x2 x3:Int} {m:OMem} {Q:((Int×Int)⊕((Int)))→Prop} (h:Ok ((some (.inl (x2,w32 (x3+1)))):Option ((Int×Int)⊕((Int)))) Q):Ok (f_buildActionLevel_b29 x1 x2 x3 m) Q:=h
theorem u_f_buildActionLevel_l4 {m:OMem} {x1:Int} {x2:Int} {x3:Int} {Q:((Int×Int)⊕((Int)))→Prop} (h:Ok ((if x3<m 0 25 then ((f_actionPresent (w32 (x1 - 1)) x3 m).bind fun r_20=>(if r_20=0 then (f_buildActionLevel_b29 x1 x2 x3 m) else (f_buildActionLevel_b29 x1 (or32 x2 (shl32 1 x3)) x3 m))) else (some (.inr x2))):Option ((Int×Int)⊕((Int)))) Q):Ok (f_buildActionLevel_l4 m x1 (x2,x3)) Q:=h
theorem u_f_buildActionLevel_l44 {x1:Int} {x3:Int} {m:OMem} {Q:((Int×OMem)⊕((OMem)))→Prop} (h:Ok ((if x3<10 then ((f_actionMutexRow x1 x3 m).bind fun r_27=>(if 0≤w32 ((w32 (x1*10))+x3)∧w32 ((w32 (x1*10))+x3)<90 then (some (.inl (w32 (x3+1),sto m 14 (w32 ((w32 (x1*10))+x3)) r_27))) else none)) else (some (.inr m))):Option ((Int×OMem)⊕((OMem)))) Q):Ok (f_buildActionLevel_l44 x1 (x3,m)) Q:=h
theorem u_f_buildActionLevel_l75 {x1:Int} {x3:Int} {m:OMem} {Q:((Int×OMem)⊕((OMem)))→Prop} (h:Ok ((if x3<10 then ((f_noopMutexRow x1 x3 m).bind fun r_33=>(if 0≤w32 ((w32 (x1*10))+x3)∧w32 ((w32 (x1*10))+x3)<90 then (some (.inl (w32 (x3+1),sto m 15 (w32 ((w32 (x1*10))+x3)) r_33))) else none)) else (some (.inr m))):Option ((Int×OMem)⊕((OMem)))) Q):Ok (f_buildActionLevel_l75 x1 (x3,m)) Q:=h
theorem u_f_achievers_b51 {x1 x2 x3 x4:Int} {m:OMem} {Q:((Int×Int)⊕((Int)))→Prop} (h:Ok ((some (.inl (x3,w32 (x4+1)))):Option ((Int×Int)⊕((Int)))) Q):Ok (f_achievers_b51 x1 x2 x3 x4 m) Q:=h
theorem u_f_achievers_l5 {m:OMem} {x1 x2:Int} {x3:Int} {x4:Int} {Q:((Int×Int)⊕((Int)))→Prop} (h:Ok ((if x4<m 0 25 then (if 0≤x1∧x1<9 then ((f_hasBit (m 12 x1) x4 m).bind fun r_40=>(if r_40=0 then (f_achievers_b51 x1 x2 x3 x4 m) else (if 0≤x4∧x4<10 then ((f_hasBit (m 3 x4) x2 m).bind fun r_41=>(if r_41=0 then (f_achievers_b51 x1 x2 x3 x4 m) else (f_achievers_b51 x1 x2 (or32 x3 (shl32 1 x4)) x4 m))) else none))) else none) else (some (.inr x3))):Option ((Int×Int)⊕((Int)))) Q):Ok (f_achievers_l5 m x1 x2 (x3,x4)) Q:=h
theorem u_f_factsMutex_b91 {x1 x2 x3 x4 x5 x6 x7 x8:Int} {m:OMem} {Q:((Int)⊕((Unit)⊕(Unit)))→Prop} (h:Ok ((some (.inl (w32 (x8+1)))):Option ((Int)⊕((Unit)⊕(Unit)))) Q):Ok (f_factsMutex_b91 x1 x2 x3 x4 x5 x6 x7 x8 m) Q:=h
theorem u_f_factsMutex_l49 {m:OMem} {x1 x2 x3 x4 x5 x6 x7:Int} {x8:Int} {Q:((Int)⊕((Unit)⊕(Unit)))→Prop} (h:Ok ((if x8<m 0 25 then ((f_hasBit x4 x8 m).bind fun r_47=>(if r_47=0 then (f_factsMutex_b91 x1 x2 x3 x4 x5 x6 x7 x8 m) else (if 0≤w32 ((w32 (x1*10))+x8)∧w32 ((w32 (x1*10))+x8)<90 then (if and32 x5 (xor32 (m 14 (w32 ((w32 (x1*10))+x8))) (-1))=0 then (f_factsMutex_b91 x1 x2 x3 x4 x5 x6 x7 x8 m) else (some (.inr (.inl ())))) else none))) else (some (.inr (.inr ())))):Option ((Int)⊕((Unit)⊕(Unit)))) Q):Ok (f_factsMutex_l49 m x1 x2 x3 x4 x5 x6 x7 x8) Q:=h
theorem u_f_factsMutex_b182 {m:OMem} {Q:(Int)→Prop} (h:Ok ((some 1):Option (Int)) Q):Ok (f_factsMutex_b182 m) Q:=h
theorem u_f_factsMutex_b149 {x1 x2 x3 x6 x7:Int} {m:OMem} {Q:(Int)→Prop} (h:Ok ((if x6=0 then (f_factsMutex_b182 m) else (if x7=0 then (f_factsMutex_b182 m) else (if 0≤w32 ((w32 ((w32 (x1 - 1))*10))+x2)∧w32 ((w32 ((w32 (x1 - 1))*10))+x2)<90 then ((f_hasBit (m 13 (w32 ((w32 ((w32 (x1 - 1))*10))+x2))) x3 m).bind fun r_48=>(if r_48=0 then (some 0) else (f_factsMutex_b182 m))) else none))):Option (Int)) Q):Ok (f_factsMutex_b149 x1 x2 x3 x6 x7 m) Q:=h
theorem u_f_factsMutex_b123 {x1 x2 x3 x4 x6 x7:Int} {m:OMem} {Q:(Int)→Prop} (h:Ok ((if x7=0 then (f_factsMutex_b149 x1 x2 x3 x6 x7 m) else (if 0≤w32 ((w32 (x1*10))+x3)∧w32 ((w32 (x1*10))+x3)<90 then (if and32 x4 (xor32 (m 15 (w32 ((w32 (x1*10))+x3))) (-1))=0 then (f_factsMutex_b149 x1 x2 x3 x6 x7 m) else (some 0)) else none)):Option (Int)) Q):Ok (f_factsMutex_b123 x1 x2 x3 x4 x6 x7 m) Q:=h
theorem u_f_factsMutex {x1 x2 x3:Int} {m:OMem} {Q:(Int)→Prop} (h:Ok (((f_achievers x1 x2 m).bind fun r_43=>((f_achievers x1 x3 m).bind fun r_44=>(if 0≤w32 (x1 - 1)∧w32 (x1 - 1)<9 then ((f_hasBit (m 11 (w32 (x1 - 1))) x2 m).bind fun r_45=>(if 0≤w32 (x1 - 1)∧w32 (x1 - 1)<9 then ((f_hasBit (m 11 (w32 (x1 - 1))) x3 m).bind fun r_46=>((lp (f_factsMutex_l49 m x1 x2 x3 r_43 r_44 r_45 r_46) NN 0).bind fun e=>match e with | (.inl _)=>(some 0) | (.inr _)=>(if r_45=0 then (f_factsMutex_b123 x1 x2 x3 r_43 r_45 r_46 m) else (if 0≤w32 ((w32 (x1*10))+x2)∧w32 ((w32 (x1*10))+x2)<90 then (if and32 r_44 (xor32 (m 15 (w32 ((w32 (x1*10))+x2))) (-1))=0 then (f_factsMutex_b123 x1 x2 x3 r_43 r_45 r_46 m) else (some 0)) else none)))) else none)) else none))):Option (Int)) Q):Ok (f_factsMutex x1 x2 x3 m) Q:=h
theorem u_f_factMutexRow_b77 {x1 x2 x3 x4:Int} {m:OMem} {Q:((Int×Int)⊕((Int)))→Prop} (h:Ok ((some (.inl (x3,w32 (x4+1)))):Option ((Int×Int)⊕((Int)))) Q):Ok (f_factMutexRow_b77 x1 x2 x3 x4 m) Q:=h
theorem u_f_factMutexRow_l29 {m:OMem} {x1 x2:Int} {x3:Int} {x4:Int} {Q:((Int×Int)⊕((Int)))→Prop} (h:Ok ((if x4<m 0 24 then (if x4=x2 then (f_factMutexRow_b77 x1 x2 x3 x4 m) else (if 0≤x1∧x1<9 then ((f_hasBit (m 11 x1) x4 m).bind fun r_39=>(if r_39=0 then (f_factMutexRow_b77 x1 x2 x3 x4 m) else ((f_factsMutex x1 x2 x4 m).bind fun r_49=>(if r_49=0 then (f_factMutexRow_b77 x1 x2 x3 x4 m) else (f_factMutexRow_b77 x1 x2 (or32 x3 (shl32 1 x4)) x4 m))))) else none)) else (some (.inr x3))):Option ((Int×Int)⊕((Int)))) Q):Ok (f_factMutexRow_l29 m x1 x2 (x3,x4)) Q:=h
theorem u_f_buildFactLevel_b42 {x1 x2 x3:Int} {m:OMem} {Q:((Int×Int)⊕((Int)))→Prop} (h:Ok ((some (.inl (x2,w32 (x3+1)))):Option ((Int×Int)⊕((Int)))) Q):Ok (f_buildFactLevel_b42 x1 x2 x3 m) Q:=h
theorem u_f_buildFactLevel_l11 {m:OMem} {x1:Int} {x2:Int} {x3:Int} {Q:((Int×Int)⊕((Int)))→Prop} (h:Ok ((if x3<m 0 25 then (if 0≤x1∧x1<9 then ((f_hasBit (m 12 x1) x3 m).bind fun r_36=>(if r_36=0 then (f_buildFactLevel_b42 x1 x2 x3 m) else (if 0≤x3∧x3<10 then (f_buildFactLevel_b42 x1 (or32 x2 (m 3 x3)) x3 m) else none))) else none) else (some (.inr x2))):Option ((Int×Int)⊕((Int)))) Q):Ok (f_buildFactLevel_l11 m x1 (x2,x3)) Q:=h
theorem u_f_buildFactLevel_l57 {x1:Int} {x3:Int} {m:OMem} {Q:((Int×OMem)⊕((OMem)))→Prop} (h:Ok ((if x3<10 then ((f_factMutexRow x1 x3 m).bind fun r_51=>(if 0≤w32 ((w32 (x1*10))+x3)∧w32 ((w32 (x1*10))+x3)<90 then (some (.inl (w32 (x3+1),sto m 13 (w32 ((w32 (x1*10))+x3)) r_51))) else none)) else (some (.inr m))):Option ((Int×OMem)⊕((OMem)))) Q):Ok (f_buildFactLevel_l57 x1 (x3,m)) Q:=h
theorem u_f_buildGraph_l31  {x2:Int} {m:OMem} {Q:((Int×OMem)⊕((OMem)))→Prop} (h:Ok ((if x2<10 then (if 0≤x2∧x2<90 then (if 0≤x2∧x2<90 then (if 0≤x2∧x2<90 then (some (.inl (w32 (x2+1),sto (sto (sto m 13 x2 0) 14 x2 0) 15 x2 0))) else none) else none) else none) else (some (.inr m))):Option ((Int×OMem)⊕((OMem)))) Q):Ok (f_buildGraph_l31 (x2,m)) Q:=h
theorem u_f_layerCandidate_b63 {x1 x2 x3:Int} {m:OMem} {Q:((Int)⊕((Unit)⊕(Unit)))→Prop} (h:Ok ((some (.inl (w32 (x3+1)))):Option ((Int)⊕((Unit)⊕(Unit)))) Q):Ok (f_layerCandidate_b63 x1 x2 x3 m) Q:=h
theorem u_f_layerCandidate_l28 {m:OMem} {x1 x2:Int} {x3:Int} {Q:((Int)⊕((Unit)⊕(Unit)))→Prop} (h:Ok ((if x3<m 0 25 then ((f_hasBit x2 x3 m).bind fun r_56=>(if r_56=0 then (f_layerCandidate_b63 x1 x2 x3 m) else (if 0≤w32 ((w32 (x1*10))+x3)∧w32 ((w32 (x1*10))+x3)<90 then (if and32 (m 14 (w32 ((w32 (x1*10))+x3))) x2=0 then (f_layerCandidate_b63 x1 x2 x3 m) else (some (.inr (.inl ())))) else none))) else (some (.inr (.inr ())))):Option ((Int)⊕((Unit)⊕(Unit)))) Q):Ok (f_layerCandidate_l28 m x1 x2 x3) Q:=h
theorem u_f_layerCandidate {x1 x2:Int} {m:OMem} {Q:(Int)→Prop} (h:Ok ((if 0≤x2∧x2<1024 then (if m 10 x2=0 then (some 0) else (if 0≤x1∧x1<9 then (if and32 x2 (xor32 (m 12 x1) (-1))=0 then ((lp (f_layerCandidate_l28 m x1 x2) NN 0).bind fun e=>match e with | (.inl _)=>(some 0) | (.inr _)=>(some 1)) else (some 0)) else none)) else none):Option (Int)) Q):Ok (f_layerCandidate x1 x2 m) Q:=h
theorem u_f_buildCandidates_l23 {x1 x2 x3:Int} {x4:Int} {m:OMem} {Q:((Int×OMem)⊕((OMem)))→Prop} (h:Ok ((if x4<x2 then ((f_layerCandidate x3 x4 m).bind fun r_57=>(if 0≤w32 ((w32 (x3*1024))+x4)∧w32 ((w32 (x3*1024))+x4)<9216 then (some (.inl (w32 (x4+1),sto m 16 (w32 ((w32 (x3*1024))+x4)) (r_57 % 2)))) else none)) else (some (.inr m))):Option ((Int×OMem)⊕((OMem)))) Q):Ok (f_buildCandidates_l23 x1 x2 x3 (x4,m)) Q:=h
theorem u_f_clearMemo_l2  {x1:Int} {m:OMem} {Q:((Int×OMem)⊕((OMem)))→Prop} (h:Ok ((if x1<9216 then (if 0≤x1∧x1<9216 then (if 0≤x1∧x1<9216 then (some (.inl (w32 (x1+1),sto (sto m 17 x1 0) 18 x1 0))) else none) else none) else (some (.inr m))):Option ((Int×OMem)⊕((OMem)))) Q):Ok (f_clearMemo_l2 (x1,m)) Q:=h
theorem u_f_clearPlan_l2  {x1:Int} {m:OMem} {Q:((Int×OMem)⊕((OMem)))→Prop} (h:Ok ((if x1<9 then (if 0≤x1∧x1<9 then (some (.inl (w32 (x1+1),sto m 1 x1 0))) else none) else (some (.inr m))):Option ((Int×OMem)⊕((OMem)))) Q):Ok (f_clearPlan_l2 (x1,m)) Q:=h
theorem u_f_isAction_b17 {s0:Int} {m:OMem} {Q:(Int)→Prop} (h:Ok ((some (s0 % 2)):Option (Int)) Q):Ok (f_isAction_b17 s0 m) Q:=h
theorem u_f_isAction_b16 {m:OMem} {Q:(Int)→Prop} (h:Ok ((f_isAction_b17 0 m):Option (Int)) Q):Ok (f_isAction_b16 m) Q:=h
theorem u_f_isAction {x1:Int} {m:OMem} {Q:(Int)→Prop} (h:Ok ((if x1<0 then (f_isAction_b16 m) else (if x1<m 0 25 then (f_isAction_b17 1 m) else (f_isAction_b16 m))):Option (Int)) Q):Ok (f_isAction x1 m) Q:=h
theorem u_f_isKind_b19 {s0:Int} {m:OMem} {Q:(Int)→Prop} (h:Ok ((some (s0 % 2)):Option (Int)) Q):Ok (f_isKind_b19 s0 m) Q:=h
theorem u_f_isKind_b14 {m:OMem} {Q:(Int)→Prop} (h:Ok ((f_isKind_b19 1 m):Option (Int)) Q):Ok (f_isKind_b14 m) Q:=h
theorem u_f_isKind {x1:Int} {m:OMem} {Q:(Int)→Prop} (h:Ok ((if x1=0 then (f_isKind_b14 m) else (if x1=1 then (f_isKind_b14 m) else (if x1=2 then (f_isKind_b14 m) else (f_isKind_b19 0 m)))):Option (Int)) Q):Ok (f_isKind x1 m) Q:=h
theorem u_f_isFact_b17 {s0:Int} {m:OMem} {Q:(Int)→Prop} (h:Ok ((some (s0 % 2)):Option (Int)) Q):Ok (f_isFact_b17 s0 m) Q:=h
theorem u_f_isFact_b16 {m:OMem} {Q:(Int)→Prop} (h:Ok ((f_isFact_b17 0 m):Option (Int)) Q):Ok (f_isFact_b16 m) Q:=h
theorem u_f_isFact {x1:Int} {m:OMem} {Q:(Int)→Prop} (h:Ok ((if x1<0 then (f_isFact_b16 m) else (if x1<m 0 24 then (f_isFact_b17 1 m) else (f_isFact_b16 m))):Option (Int)) Q):Ok (f_isFact x1 m) Q:=h
theorem u_f_withBit {x1 x2 x3:Int} {m:OMem} {Q:(Int)→Prop} (h:Ok ((if x3=0 then (some (and32 x1 (xor32 x2 (-1)))) else (some (or32 x1 x2))):Option (Int)) Q):Ok (f_withBit x1 x2 x3 m) Q:=h
theorem u_f_setFact_b110 {m:OMem} {Q:(Int×OMem)→Prop} (h:Ok (((f_markStale m).bind fun m_108=>(some (1,m_108))):Option (Int×OMem)) Q):Ok (f_setFact_b110 m) Q:=h
theorem u_f_setFact {x1 x2 x3 x4:Int} {m:OMem} {Q:(Int×OMem)→Prop} (h:Ok (((f_isAction x1 m).bind fun r_104=>(if r_104=0 then (some (0,m)) else ((f_isKind x2 m).bind fun r_105=>(if r_105=0 then (some (0,m)) else ((f_isFact x3 m).bind fun r_106=>(if r_106=0 then (some (0,m)) else (if x2=0 then (if 0≤x1∧x1<10 then ((f_withBit (m 2 x1) (shl32 1 x3) x4 m).bind fun r_107=>(if 0≤x1∧x1<10 then (f_setFact_b110 (sto m 2 x1 r_107)) else none)) else none) else (if x2=1 then (if 0≤x1∧x1<10 then ((f_withBit (m 3 x1) (shl32 1 x3) x4 m).bind fun r_109=>(if 0≤x1∧x1<10 then (f_setFact_b110 (sto m 3 x1 r_109)) else none)) else none) else (if 0≤x1∧x1<10 then ((f_withBit (m 4 x1) (shl32 1 x3) x4 m).bind fun r_110=>(if 0≤x1∧x1<10 then (f_setFact_b110 (sto m 4 x1 r_110)) else none)) else none))))))))):Option (Int×OMem)) Q):Ok (f_setFact x1 x2 x3 x4 m) Q:=h
/-! GraphPlanner: what the making of the search leaves alone (own_E: all of it,own_F: behind the unions) -/
abbrev own_J (m:OMem):Prop:=1≤m 0 24∧m 0 24≤10∧1≤m 0 25∧m 0 25≤10∧1≤m 0 26∧m 0 26≤8
/- what the search's making leaves alone -/
def own_F (m m':OMem):Prop:=∀ k i,k≤10→(k=0→i≠31∧i≠32)→m' k i=m k i
theorem own_Fs {m m':OMem} {k:Nat} {i z:Int} (hk:11≤k) (h:own_F m m'):own_F m (sto m' k i z):=fun k' j a b=>by
  rw [← h k' j a b]; exact sto_k _ _ _ _ (by omega)
theorem own_F0 {m m':OMem} {i z:Int} (hi:i=31∨i=32) (h:own_F m m'):own_F m (sto m' 0 i z):=fun k' j a b=>by
  rw [← h k' j a b]
  by_cases e:k'=0
  · exact sto_i _ _ _ _ (by have:=b e; omega)
  · exact sto_k _ _ _ _ e
theorem own_Ft {m m' m'':OMem} (h:own_F m m') (h':own_F m' m''):own_F m m'':=fun k i a b=>(h' k i a b).trans (h k i a b)
theorem own_FJ {m m':OMem} (h:own_F m m') (J:own_J m):own_J m':=by
  have e4:=h 0 24 (by decide) (by decide)
  have e5:=h 0 25 (by decide) (by decide)
  have e6:=h 0 26 (by decide) (by decide)
  simp only [own_J,e4,e5,e6]
  exact J
/- what the search's making leaves alone -/
def own_E (m m':OMem):Prop:=∀ k i,k≤5→(k=0→i≠31∧i≠32)→m' k i=m k i
theorem own_Es {m m':OMem} {k:Nat} {i z:Int} (hk:6≤k) (h:own_E m m'):own_E m (sto m' k i z):=fun k' j a b=>by
  rw [← h k' j a b]; exact sto_k _ _ _ _ (by omega)
theorem own_Et {m m' m'':OMem} (h:own_E m m') (h':own_E m' m''):own_E m m'':=fun k i a b=>(h' k i a b).trans (h k i a b)
theorem own_EJ {m m':OMem} (h:own_E m m') (J:own_J m):own_J m':=by
  have e4:=h 0 24 (by decide) (by decide)
  have e5:=h 0 25 (by decide) (by decide)
  have e6:=h 0 26 (by decide) (by decide)
  simp only [own_J,e4,e5,e6]
  exact J
theorem own_FE {m m':OMem} (h:own_F m m'):own_E m m':=fun k i a b=>h k i (by omega) b
theorem own_cl1 (x a b:Int) (m:OMem) (h:a≤b):Ok (f_clamp x a b m) (fun r=>a≤r∧r≤b∧(a≤x→x≤b→r=x)):=by
  repeat' (first | ((with_reducible refine Ok.grd ?_ ?_); (focus (first | omega | ((try simp only [w32_al,w32_ar,w32_sl,w32_sr,w32_m4,w32_m6,w32_m10,w32_m16,w32_m24]); (repeat rw [w32_id (by omega)]); omega) | ((try simp only [w32_al,w32_ar,w32_sl,w32_sr,w32_m4,w32_m6,w32_m10,w32_m16,w32_m24]); unfold w32; omega) | (simp [sto,z0_at,w32]; done) | (simp [sto,z0_at,w32]; omega)))) | ((with_reducible refine Ok.ite (fun h=>?_) (fun h=>?_)) <;> (try simp [sto,z0_at,w32] at h) <;> (try (exfalso; omega))) | (with_reducible refine Ok.bind' ?_) | ((with_reducible refine Ok.ret ?_); (try dsimp only)) | (with_reducible refine Ok.lpNN ?_) | (with_reducible refine Ok.lp1 ?_) | (with_reducible refine u_f_clamp ?_))
  all_goals (first | trivial | omega | ((try simp only [w32_al,w32_ar,w32_sl,w32_sr,w32_m4,w32_m6,w32_m10,w32_m16,w32_m24]); (repeat rw [w32_id (by omega)]); omega) | ((try simp only [w32_al,w32_ar,w32_sl,w32_sr,w32_m4,w32_m6,w32_m10,w32_m16,w32_m24]); unfold w32; omega) | (simp [sto,z0_at,w32]; done) | (simp [sto,z0_at,w32]; omega))
theorem own_ri (x y:Int) (m:OMem) (hx:0≤x∧x<10) (hy:0≤y∧y<10):Ok (f_rawInterfere x y m) (fun _=>True):=by
  repeat' (first | ((with_reducible refine Ok.grd ?_ ?_); (focus (first | omega | ((try simp only [w32_al,w32_ar,w32_sl,w32_sr,w32_m4,w32_m6,w32_m10,w32_m16,w32_m24]); (repeat rw [w32_id (by omega)]); omega) | ((try simp only [w32_al,w32_ar,w32_sl,w32_sr,w32_m4,w32_m6,w32_m10,w32_m16,w32_m24]); unfold w32; omega) | (simp [sto,z0_at,w32]; done) | (simp [sto,z0_at,w32]; omega)))) | ((with_reducible refine Ok.ite (fun h=>?_) (fun h=>?_)) <;> (try simp [sto,z0_at,w32] at h) <;> (try (exfalso; omega))) | (with_reducible refine Ok.bind' ?_) | ((with_reducible refine Ok.ret ?_); (try dsimp only)) | (with_reducible refine Ok.lpNN ?_) | (with_reducible refine Ok.lp1 ?_) | (with_reducible refine u_f_rawInterfere ?_) | (with_reducible refine u_f_rawInterfere_b53 ?_))
  all_goals (first | trivial | omega | ((try simp only [w32_al,w32_ar,w32_sl,w32_sr,w32_m4,w32_m6,w32_m10,w32_m16,w32_m24]); (repeat rw [w32_id (by omega)]); omega) | ((try simp only [w32_al,w32_ar,w32_sl,w32_sr,w32_m4,w32_m6,w32_m10,w32_m16,w32_m24]); unfold w32; omega) | (simp [sto,z0_at,w32]; done) | (simp [sto,z0_at,w32]; omega))
theorem own_cr (x:Int) (m:OMem) (J:own_J m) (hx:0≤x∧x<10):Ok (f_conflictRow x m) (fun _=>True):=by
  unfold f_conflictRow
  refine Ok.bind (P:=fun _=>True) ?_ fun _ _=>Ok.ret trivial
  refine Ok.loop (fun s=>0≤s.2) (fun s=>(10 - s.2).toNat) (by simp) (by simp) ?_
  rintro ⟨x,y⟩ h1
  dsimp only at h1
  repeat' (first | (with_reducible refine Ok.bind (own_ri _ _ _ hx (by omega)) fun r hr=>?_) | ((with_reducible refine Ok.grd ?_ ?_); (focus (first | omega | ((try simp only [w32_al,w32_ar,w32_sl,w32_sr,w32_m4,w32_m6,w32_m10,w32_m16,w32_m24]); (repeat rw [w32_id (by omega)]); omega) | ((try simp only [w32_al,w32_ar,w32_sl,w32_sr,w32_m4,w32_m6,w32_m10,w32_m16,w32_m24]); unfold w32; omega) | (simp [sto,z0_at,w32]; done) | (simp [sto,z0_at,w32]; omega)))) | ((with_reducible refine Ok.ite (fun h=>?_) (fun h=>?_)) <;> (try simp [sto,z0_at,w32] at h) <;> (try (exfalso; omega))) | (with_reducible refine Ok.bind' ?_) | ((with_reducible refine Ok.ret ?_); (try dsimp only)) | (with_reducible refine Ok.lpNN ?_) | (with_reducible refine Ok.lp1 ?_) | (with_reducible refine u_f_conflictRow_l4 ?_) | (with_reducible refine u_f_conflictRow_b32 ?_))
  all_goals (first | trivial | omega | ((try simp only [w32_al,w32_ar,w32_sl,w32_sr,w32_m4,w32_m6,w32_m10,w32_m16,w32_m24]); (repeat rw [w32_id (by omega)]); omega) | ((try simp only [w32_al,w32_ar,w32_sl,w32_sr,w32_m4,w32_m6,w32_m10,w32_m16,w32_m24]); unfold w32; omega) | (simp [sto,z0_at,w32]; done) | (simp [sto,z0_at,w32]; omega))
theorem own_bc (m:OMem) (J:own_J m):Ok (f_buildConflicts m) (own_E m):=by
  unfold f_buildConflicts
  refine Ok.bind (P:=own_E m) ?_ fun m1 hm1=>?_
  · refine Ok.loop (fun s=>0≤s.1∧own_E m s.2) (fun s=>(10 - s.1).toNat) ⟨by simp,?_⟩ (by simp) ?_
    · first | assumption | (exact fun _ _ _ _=>rfl) | exact own_Es (by decide) h2
    rintro ⟨x,m1⟩ ⟨h1,h2⟩
    dsimp only at h1 h2
    repeat' (first | ((with_reducible refine Ok.grd ?_ ?_); (focus (first | omega | ((try simp only [w32_al,w32_ar,w32_sl,w32_sr,w32_m4,w32_m6,w32_m10,w32_m16,w32_m24]); (repeat rw [w32_id (by omega)]); omega) | ((try simp only [w32_al,w32_ar,w32_sl,w32_sr,w32_m4,w32_m6,w32_m10,w32_m16,w32_m24]); unfold w32; omega) | (simp [sto,z0_at,w32]; done) | (simp [sto,z0_at,w32]; omega)))) | ((with_reducible refine Ok.ite (fun h=>?_) (fun h=>?_)) <;> (try simp [sto,z0_at,w32] at h) <;> (try (exfalso; omega))) | (with_reducible refine Ok.bind' ?_) | ((with_reducible refine Ok.ret ?_); (try dsimp only)) | (with_reducible refine Ok.lpNN ?_) | (with_reducible refine Ok.lp1 ?_) | (with_reducible refine u_f_buildConflicts_l2 ?_))
    all_goals (first | assumption | (rw [w32_id (by omega)]; exact ⟨⟨by omega,by first | assumption | exact own_Es (by decide) h2⟩,by omega⟩) | omega)
  refine Ok.bind (P:=own_E m) ?_ fun m2 hm2=>Ok.ret hm2
  refine Ok.loop (fun s=>0≤s.1∧own_E m s.2) (fun s=>(10 - s.1).toNat) ⟨by simp,?_⟩ (by simp) ?_
  · first | assumption | (exact fun _ _ _ _=>rfl) | exact own_Es (by decide) h2
  rintro ⟨x,m1⟩ ⟨h1,h2⟩
  dsimp only at h1 h2
  have J1:=own_EJ h2 J
  repeat' (first | (with_reducible refine Ok.bind (own_cr _ _ J1 (by omega)) fun r hr=>?_) | ((with_reducible refine Ok.grd ?_ ?_); (focus (first | omega | ((try simp only [w32_al,w32_ar,w32_sl,w32_sr,w32_m4,w32_m6,w32_m10,w32_m16,w32_m24]); (repeat rw [w32_id (by omega)]); omega) | ((try simp only [w32_al,w32_ar,w32_sl,w32_sr,w32_m4,w32_m6,w32_m10,w32_m16,w32_m24]); unfold w32; omega) | (simp [sto,z0_at,w32]; done) | (simp [sto,z0_at,w32]; omega)))) | ((with_reducible refine Ok.ite (fun h=>?_) (fun h=>?_)) <;> (try simp [sto,z0_at,w32] at h) <;> (try (exfalso; omega))) | (with_reducible refine Ok.bind' ?_) | ((with_reducible refine Ok.ret ?_); (try dsimp only)) | (with_reducible refine Ok.lpNN ?_) | (with_reducible refine Ok.lp1 ?_) | (with_reducible refine u_f_buildConflicts_l23 ?_))
  all_goals (first | assumption | (rw [w32_id (by omega)]; exact ⟨⟨by omega,by first | assumption | exact own_Es (by decide) h2⟩,by omega⟩) | omega)
theorem own_cm (m:OMem):Ok (f_clearMemo m) (fun m'=>own_F m m'∧∀ i,0≤i→i<9216→m' 17 i=0):=by
  unfold f_clearMemo
  refine Ok.bind (P:=fun m'=>own_F m m'∧∀ i,0≤i→i<9216→m' 17 i=0) ?_ fun m2 hm2=>Ok.ret hm2
  refine Ok.loop (fun s=>0≤s.1∧s.1≤9216∧own_F m s.2∧∀ i,0≤i→i<s.1→s.2 17 i=0) (fun s=>(9216 - s.1).toNat) ⟨by simp,by simp,fun _ _ _ _=>rfl,fun i a b=>by simp at b; omega⟩ (by simp) ?_
  rintro ⟨x,m1⟩ ⟨h1,h2,h3,h4⟩
  dsimp only at h1 h2 h3 h4
  repeat' (first | ((with_reducible refine Ok.grd ?_ ?_); (focus (first | omega | ((try simp only [w32_al,w32_ar,w32_sl,w32_sr,w32_m4,w32_m6,w32_m10,w32_m16,w32_m24]); (repeat rw [w32_id (by omega)]); omega) | ((try simp only [w32_al,w32_ar,w32_sl,w32_sr,w32_m4,w32_m6,w32_m10,w32_m16,w32_m24]); unfold w32; omega) | (simp [sto,z0_at,w32]; done) | (simp [sto,z0_at,w32]; omega)))) | ((with_reducible refine Ok.ite (fun h=>?_) (fun h=>?_)) <;> (try simp [sto,z0_at,w32] at h) <;> (try (exfalso; omega))) | (with_reducible refine Ok.bind' ?_) | ((with_reducible refine Ok.ret ?_); (try dsimp only)) | (with_reducible refine Ok.lpNN ?_) | (with_reducible refine Ok.lp1 ?_) | (with_reducible refine u_f_clearMemo_l2 ?_))
  · rw [w32_id (by omega)]
    refine ⟨⟨by omega,by omega,own_Fs (by decide) (own_Fs (by decide) h3),fun i a b=>?_⟩,by omega⟩
    by_cases e:i=x
    · subst e; simp [sto]
    · simp [sto,e]; exact h4 i a (by omega)
  · exact ⟨h3,fun i a b=>h4 i a (by omega)⟩
theorem own_cp (m:OMem):Ok (f_clearPlan m) (fun m'=>∀ k i,k≠1→m' k i=m k i):=by
  unfold f_clearPlan
  refine Ok.bind (P:=fun m'=>∀ k i,k≠1→m' k i=m k i) ?_ fun m2 hm2=>Ok.ret hm2
  refine Ok.loop (fun s=>0≤s.1∧∀ k i,k≠1→s.2 k i=m k i) (fun s=>(9 - s.1).toNat) ⟨by simp,fun _ _ _=>rfl⟩ (by simp) ?_
  rintro ⟨x,m1⟩ ⟨h1,h2⟩
  dsimp only at h1 h2
  repeat' (first | ((with_reducible refine Ok.grd ?_ ?_); (focus (first | omega | ((try simp only [w32_al,w32_ar,w32_sl,w32_sr,w32_m4,w32_m6,w32_m10,w32_m16,w32_m24]); (repeat rw [w32_id (by omega)]); omega) | ((try simp only [w32_al,w32_ar,w32_sl,w32_sr,w32_m4,w32_m6,w32_m10,w32_m16,w32_m24]); unfold w32; omega) | (simp [sto,z0_at,w32]; done) | (simp [sto,z0_at,w32]; omega)))) | ((with_reducible refine Ok.ite (fun h=>?_) (fun h=>?_)) <;> (try simp [sto,z0_at,w32] at h) <;> (try (exfalso; omega))) | (with_reducible refine Ok.bind' ?_) | ((with_reducible refine Ok.ret ?_); (try dsimp only)) | (with_reducible refine Ok.lpNN ?_) | (with_reducible refine Ok.lp1 ?_) | (with_reducible refine u_f_clearPlan_l2 ?_))
  · rw [w32_id (by omega)]
    refine ⟨⟨by omega,fun k i a=>?_⟩,by omega⟩
    rw [← h2 k i a]; exact sto_k _ _ _ _ a
  · exact h2
theorem own_ms (m:OMem):Ok (f_markStale m) (fun m'=>m' 0 30=-2∧∀ k i,k≠1→(k=0→i≠30)→m' k i=m k i):=by
  unfold f_markStale
  refine Ok.bind (own_cp _) fun m1 h1=>Ok.ret ⟨by rw [h1 0 30 (by decide)]; simp [sto],fun k i a b=>?_⟩
  rw [h1 k i a]
  by_cases e:k=0
  · exact sto_i _ _ _ _ (b e)
  · exact sto_k _ _ _ _ e
theorem own_sf0 (x1 x3 x4:Int) (m:OMem) (J:own_J m) (ha:0≤x1∧x1<m 0 25) (hb:0≤x3∧x3<m 0 24):Ok (f_setFact x1 0 x3 x4 m) (fun r=>r.1=1∧r.2 0 30=-2∧∀ k i,k≠1→(k=0→i≠30)→r.2 k i=sto m 2 x1 (if x4=0 then and32 (m 2 x1) (xor32 (shl32 1 x3) (-1)) else or32 (m 2 x1) (shl32 1 x3)) k i):=by
  repeat' (first | (with_reducible refine Ok.bind (own_ms _) fun m' hm=>?_) | ((with_reducible refine Ok.grd ?_ ?_); (focus (first | omega | ((try simp only [w32_al,w32_ar,w32_sl,w32_sr,w32_m4,w32_m6,w32_m10,w32_m16,w32_m24]); (repeat rw [w32_id (by omega)]); omega) | ((try simp only [w32_al,w32_ar,w32_sl,w32_sr,w32_m4,w32_m6,w32_m10,w32_m16,w32_m24]); unfold w32; omega) | (simp [sto,z0_at,w32]; done) | (simp [sto,z0_at,w32]; omega)))) | ((with_reducible refine Ok.ite (fun h=>?_) (fun h=>?_)) <;> (try simp [sto,z0_at,w32] at h) <;> (try (exfalso; omega))) | (with_reducible refine Ok.bind' ?_) | ((with_reducible refine Ok.ret ?_); (try dsimp only)) | (with_reducible refine Ok.lpNN ?_) | (with_reducible refine Ok.lp1 ?_) | (with_reducible refine u_f_setFact ?_) | (with_reducible refine u_f_setFact_b110 ?_) | (with_reducible refine u_f_isAction ?_) | (with_reducible refine u_f_isAction_b17 ?_) | (with_reducible refine u_f_isAction_b16 ?_) | (with_reducible refine u_f_isKind ?_) | (with_reducible refine u_f_isKind_b19 ?_) | (with_reducible refine u_f_isKind_b14 ?_) | (with_reducible refine u_f_isFact ?_) | (with_reducible refine u_f_isFact_b17 ?_) | (with_reducible refine u_f_isFact_b16 ?_) | (with_reducible refine u_f_withBit ?_))
  all_goals (refine ⟨rfl,hm.1,fun k i a b=>?_⟩; rw [hm.2 k i a b]; simp [*])
theorem own_sf1 (x1 x3 x4:Int) (m:OMem) (J:own_J m) (ha:0≤x1∧x1<m 0 25) (hb:0≤x3∧x3<m 0 24):Ok (f_setFact x1 1 x3 x4 m) (fun r=>r.1=1∧r.2 0 30=-2∧∀ k i,k≠1→(k=0→i≠30)→r.2 k i=sto m 3 x1 (if x4=0 then and32 (m 3 x1) (xor32 (shl32 1 x3) (-1)) else or32 (m 3 x1) (shl32 1 x3)) k i):=by
  repeat' (first | (with_reducible refine Ok.bind (own_ms _) fun m' hm=>?_) | ((with_reducible refine Ok.grd ?_ ?_); (focus (first | omega | ((try simp only [w32_al,w32_ar,w32_sl,w32_sr,w32_m4,w32_m6,w32_m10,w32_m16,w32_m24]); (repeat rw [w32_id (by omega)]); omega) | ((try simp only [w32_al,w32_ar,w32_sl,w32_sr,w32_m4,w32_m6,w32_m10,w32_m16,w32_m24]); unfold w32; omega) | (simp [sto,z0_at,w32]; done) | (simp [sto,z0_at,w32]; omega)))) | ((with_reducible refine Ok.ite (fun h=>?_) (fun h=>?_)) <;> (try simp [sto,z0_at,w32] at h) <;> (try (exfalso; omega))) | (with_reducible refine Ok.bind' ?_) | ((with_reducible refine Ok.ret ?_); (try dsimp only)) | (with_reducible refine Ok.lpNN ?_) | (with_reducible refine Ok.lp1 ?_) | (with_reducible refine u_f_setFact ?_) | (with_reducible refine u_f_setFact_b110 ?_) | (with_reducible refine u_f_isAction ?_) | (with_reducible refine u_f_isAction_b17 ?_) | (with_reducible refine u_f_isAction_b16 ?_) | (with_reducible refine u_f_isKind ?_) | (with_reducible refine u_f_isKind_b19 ?_) | (with_reducible refine u_f_isKind_b14 ?_) | (with_reducible refine u_f_isFact ?_) | (with_reducible refine u_f_isFact_b17 ?_) | (with_reducible refine u_f_isFact_b16 ?_) | (with_reducible refine u_f_withBit ?_))
  all_goals (refine ⟨rfl,hm.1,fun k i a b=>?_⟩; rw [hm.2 k i a b]; simp [*])
theorem own_sf2 (x1 x3 x4:Int) (m:OMem) (J:own_J m) (ha:0≤x1∧x1<m 0 25) (hb:0≤x3∧x3<m 0 24):Ok (f_setFact x1 2 x3 x4 m) (fun r=>r.1=1∧r.2 0 30=-2∧∀ k i,k≠1→(k=0→i≠30)→r.2 k i=sto m 4 x1 (if x4=0 then and32 (m 4 x1) (xor32 (shl32 1 x3) (-1)) else or32 (m 4 x1) (shl32 1 x3)) k i):=by
  repeat' (first | (with_reducible refine Ok.bind (own_ms _) fun m' hm=>?_) | ((with_reducible refine Ok.grd ?_ ?_); (focus (first | omega | ((try simp only [w32_al,w32_ar,w32_sl,w32_sr,w32_m4,w32_m6,w32_m10,w32_m16,w32_m24]); (repeat rw [w32_id (by omega)]); omega) | ((try simp only [w32_al,w32_ar,w32_sl,w32_sr,w32_m4,w32_m6,w32_m10,w32_m16,w32_m24]); unfold w32; omega) | (simp [sto,z0_at,w32]; done) | (simp [sto,z0_at,w32]; omega)))) | ((with_reducible refine Ok.ite (fun h=>?_) (fun h=>?_)) <;> (try simp [sto,z0_at,w32] at h) <;> (try (exfalso; omega))) | (with_reducible refine Ok.bind' ?_) | ((with_reducible refine Ok.ret ?_); (try dsimp only)) | (with_reducible refine Ok.lpNN ?_) | (with_reducible refine Ok.lp1 ?_) | (with_reducible refine u_f_setFact ?_) | (with_reducible refine u_f_setFact_b110 ?_) | (with_reducible refine u_f_isAction ?_) | (with_reducible refine u_f_isAction_b17 ?_) | (with_reducible refine u_f_isAction_b16 ?_) | (with_reducible refine u_f_isKind ?_) | (with_reducible refine u_f_isKind_b19 ?_) | (with_reducible refine u_f_isKind_b14 ?_) | (with_reducible refine u_f_isFact ?_) | (with_reducible refine u_f_isFact_b17 ?_) | (with_reducible refine u_f_isFact_b16 ?_) | (with_reducible refine u_f_withBit ?_))
  all_goals (refine ⟨rfl,hm.1,fun k i a b=>?_⟩; rw [hm.2 k i a b]; simp [*])
theorem own_sfN (x1 x2 x3 x4:Int) (m:OMem) (h:¬ ((0≤x1∧x1<m 0 25)∧(0≤x2∧x2≤2)∧(0≤x3∧x3<m 0 24))):f_setFact x1 x2 x3 x4 m=some (0,m):=by
  have:Ok (f_setFact x1 x2 x3 x4 m) (fun r=>r=(0,m)):=by
    repeat' (first | ((with_reducible refine Ok.grd ?_ ?_); (focus (first | omega | ((try simp only [w32_al,w32_ar,w32_sl,w32_sr,w32_m4,w32_m6,w32_m10,w32_m16,w32_m24]); (repeat rw [w32_id (by omega)]); omega) | ((try simp only [w32_al,w32_ar,w32_sl,w32_sr,w32_m4,w32_m6,w32_m10,w32_m16,w32_m24]); unfold w32; omega) | (simp [sto,z0_at,w32]; done) | (simp [sto,z0_at,w32]; omega)))) | ((with_reducible refine Ok.ite (fun h=>?_) (fun h=>?_)) <;> (try simp [sto,z0_at,w32] at h) <;> (try (exfalso; omega))) | (with_reducible refine Ok.bind' ?_) | ((with_reducible refine Ok.ret ?_); (try dsimp only)) | (with_reducible refine Ok.lpNN ?_) | (with_reducible refine Ok.lp1 ?_) | (with_reducible refine u_f_setFact ?_) | (with_reducible refine u_f_isAction ?_) | (with_reducible refine u_f_isAction_b17 ?_) | (with_reducible refine u_f_isAction_b16 ?_) | (with_reducible refine u_f_isKind ?_) | (with_reducible refine u_f_isKind_b19 ?_) | (with_reducible refine u_f_isKind_b14 ?_) | (with_reducible refine u_f_isFact ?_) | (with_reducible refine u_f_isFact_b17 ?_) | (with_reducible refine u_f_isFact_b16 ?_))
    all_goals (first | rfl | (exfalso; omega))
  obtain ⟨r,e,rfl⟩:=this
  exact e
/- the levels: the fields stand too -/
def own_G (m m':OMem):Prop:=∀ k i,k≤10→m' k i=m k i
theorem own_Gs {m m':OMem} {k:Nat} {i z:Int} (hk:11≤k) (h:own_G m m'):own_G m (sto m' k i z):=fun k' j a=>by
  rw [← h k' j a]; exact sto_k _ _ _ _ (by omega)
theorem own_Gt {m m' m'':OMem} (h:own_G m m') (h':own_G m' m''):own_G m m'':=fun k i a=>(h' k i a).trans (h k i a)
theorem own_GJ {m m':OMem} (h:own_G m m') (J:own_J m):own_J m':=own_FJ (fun k i a _=>h k i a) J
theorem own_hb (x y:Int) (m:OMem):Ok (f_hasBit x y m) (fun _=>True):=by
  repeat' (first | ((with_reducible refine Ok.grd ?_ ?_); (focus (first | omega | ((try simp only [w32_al,w32_ar,w32_sl,w32_sr,w32_m4,w32_m6,w32_m10,w32_m16,w32_m24]); (repeat rw [w32_id (by omega)]); omega) | ((try simp only [w32_al,w32_ar,w32_sl,w32_sr,w32_m4,w32_m6,w32_m10,w32_m16,w32_m24]); unfold w32; omega) | (simp [sto,z0_at,w32]; done) | (simp [sto,z0_at,w32]; omega)))) | ((with_reducible refine Ok.ite (fun h=>?_) (fun h=>?_)) <;> (try simp [sto,z0_at,w32] at h) <;> (try (exfalso; omega))) | (with_reducible refine Ok.bind' ?_) | ((with_reducible refine Ok.ret ?_); (try dsimp only)) | (with_reducible refine Ok.lpNN ?_) | (with_reducible refine Ok.lp1 ?_) | (with_reducible refine u_f_hasBit ?_) | (with_reducible refine u_f_hasBit_b10 ?_) | (with_reducible refine u_f_hasBit_b25 ?_))
  all_goals (first | trivial | omega | ((try simp only [w32_al,w32_ar,w32_sl,w32_sr,w32_m4,w32_m6,w32_m10,w32_m16,w32_m24]); (repeat rw [w32_id (by omega)]); omega) | ((try simp only [w32_al,w32_ar,w32_sl,w32_sr,w32_m4,w32_m6,w32_m10,w32_m16,w32_m24]); unfold w32; omega) | (simp [sto,z0_at,w32]; done) | (simp [sto,z0_at,w32]; omega))
theorem own_mm (x1 x2 x3:Int) (m:OMem) (J:own_J m):Ok (f_meetsMutex x1 x2 x3 m) (fun _=>True):=by
  unfold f_meetsMutex f_meetsMutex_b10
  refine Ok.ite (fun _=>Ok.ret trivial) (fun a=>Ok.ite (fun _=>Ok.ret trivial) (fun b=>?_))
  refine Ok.bind (P:=fun _=>True) ?_ fun e _=>?_
  · refine Ok.loop (fun s=>0≤s) (fun s=>(10 - s).toNat) (by simp) (by simp) ?_
    intro x h1
    repeat' (first | (with_reducible refine Ok.bind (own_hb _ _ _) fun r hr=>?_) | ((with_reducible refine Ok.grd ?_ ?_); (focus (first | omega | ((try simp only [w32_al,w32_ar,w32_sl,w32_sr,w32_m4,w32_m6,w32_m10,w32_m16,w32_m24]); (repeat rw [w32_id (by omega)]); omega) | ((try simp only [w32_al,w32_ar,w32_sl,w32_sr,w32_m4,w32_m6,w32_m10,w32_m16,w32_m24]); unfold w32; omega) | (simp [sto,z0_at,w32]; done) | (simp [sto,z0_at,w32]; omega)))) | ((with_reducible refine Ok.ite (fun h=>?_) (fun h=>?_)) <;> (try simp [sto,z0_at,w32] at h) <;> (try (exfalso; omega))) | (with_reducible refine Ok.bind' ?_) | ((with_reducible refine Ok.ret ?_); (try dsimp only)) | (with_reducible refine Ok.lpNN ?_) | (with_reducible refine Ok.lp1 ?_) | (with_reducible refine u_f_meetsMutex_l15 ?_) | (with_reducible refine u_f_meetsMutex_b53 ?_))
    all_goals (first | trivial | omega | ((try simp only [w32_al,w32_ar,w32_sl,w32_sr,w32_m4,w32_m6,w32_m10,w32_m16,w32_m24]); (repeat rw [w32_id (by omega)]); omega) | ((try simp only [w32_al,w32_ar,w32_sl,w32_sr,w32_m4,w32_m6,w32_m10,w32_m16,w32_m24]); unfold w32; omega) | (simp [sto,z0_at,w32]; done) | (simp [sto,z0_at,w32]; omega))
  · cases e with
    | inl _=>exact Ok.ret trivial
    | inr _=>exact Ok.ret trivial
theorem own_ap (x1 x2:Int) (m:OMem) (J:own_J m) (h1:0≤x1∧x1<9) (h2:0≤x2∧x2<10):Ok (f_actionPresent x1 x2 m) (fun _=>True):=by
  repeat' (first | (with_reducible refine Ok.bind (own_mm _ _ _ _ J) fun r hr=>?_) | ((with_reducible refine Ok.grd ?_ ?_); (focus (first | omega | ((try simp only [w32_al,w32_ar,w32_sl,w32_sr,w32_m4,w32_m6,w32_m10,w32_m16,w32_m24]); (repeat rw [w32_id (by omega)]); omega) | ((try simp only [w32_al,w32_ar,w32_sl,w32_sr,w32_m4,w32_m6,w32_m10,w32_m16,w32_m24]); unfold w32; omega) | (simp [sto,z0_at,w32]; done) | (simp [sto,z0_at,w32]; omega)))) | ((with_reducible refine Ok.ite (fun h=>?_) (fun h=>?_)) <;> (try simp [sto,z0_at,w32] at h) <;> (try (exfalso; omega))) | (with_reducible refine Ok.bind' ?_) | ((with_reducible refine Ok.ret ?_); (try dsimp only)) | (with_reducible refine Ok.lpNN ?_) | (with_reducible refine Ok.lp1 ?_) | (with_reducible refine u_f_actionPresent ?_) | (with_reducible refine u_f_actionPresent_b39 ?_) | (with_reducible refine u_f_hasMutexPair ?_))
  all_goals (first | trivial | omega | ((try simp only [w32_al,w32_ar,w32_sl,w32_sr,w32_m4,w32_m6,w32_m10,w32_m16,w32_m24]); (repeat rw [w32_id (by omega)]); omega) | ((try simp only [w32_al,w32_ar,w32_sl,w32_sr,w32_m4,w32_m6,w32_m10,w32_m16,w32_m24]); unfold w32; omega) | (simp [sto,z0_at,w32]; done) | (simp [sto,z0_at,w32]; omega))
theorem own_amr (x1 x2:Int) (m:OMem) (J:own_J m) (ha:0≤x1∧x1<9) (hb:0≤x2):Ok (f_actionMutexRow x1 x2 m) (fun _=>True):=by
  unfold f_actionMutexRow f_actionMutexRow_b22
  refine Ok.ite (fun hx=>?_) (fun _=>Ok.ret trivial)
  refine Ok.grd ha (Ok.bind (own_hb _ _ _) fun r _=>Ok.ite (fun _=>Ok.ret trivial) (fun _=>?_))
  refine Ok.bind (P:=fun _=>True) ?_ fun e _=>Ok.ret trivial
  refine Ok.loop (fun s=>0≤s.2) (fun s=>(10 - s.2).toNat) (by simp) (by simp) ?_
  rintro ⟨x,y⟩ h1
  dsimp only at h1
  repeat' (first | (with_reducible refine Ok.bind (own_hb _ _ _) fun r hr=>?_) | (with_reducible refine Ok.bind (own_mm _ _ _ _ J) fun r hr=>?_) | ((with_reducible refine Ok.grd ?_ ?_); (focus (first | omega | ((try simp only [w32_al,w32_ar,w32_sl,w32_sr,w32_m4,w32_m6,w32_m10,w32_m16,w32_m24]); (repeat rw [w32_id (by omega)]); omega) | ((try simp only [w32_al,w32_ar,w32_sl,w32_sr,w32_m4,w32_m6,w32_m10,w32_m16,w32_m24]); unfold w32; omega) | (simp [sto,z0_at,w32]; done) | (simp [sto,z0_at,w32]; omega)))) | ((with_reducible refine Ok.ite (fun h=>?_) (fun h=>?_)) <;> (try simp [sto,z0_at,w32] at h) <;> (try (exfalso; omega))) | (with_reducible refine Ok.bind' ?_) | ((with_reducible refine Ok.ret ?_); (try dsimp only)) | (with_reducible refine Ok.lpNN ?_) | (with_reducible refine Ok.lp1 ?_) | (with_reducible refine u_f_actionMutexRow_l29 ?_) | (with_reducible refine u_f_actionMutexRow_b107 ?_) | (with_reducible refine u_f_actionMutexRow_b100 ?_))
  all_goals (first | trivial | omega | ((try simp only [w32_al,w32_ar,w32_sl,w32_sr,w32_m4,w32_m6,w32_m10,w32_m16,w32_m24]); (repeat rw [w32_id (by omega)]); omega) | ((try simp only [w32_al,w32_ar,w32_sl,w32_sr,w32_m4,w32_m6,w32_m10,w32_m16,w32_m24]); unfold w32; omega) | (simp [sto,z0_at,w32]; done) | (simp [sto,z0_at,w32]; omega))
theorem own_nmr (x1 x2:Int) (m:OMem) (J:own_J m) (ha:1≤x1∧x1<9) (hb:0≤x2):Ok (f_noopMutexRow x1 x2 m) (fun _=>True):=by
  have L:∀ a,Ok (lp (f_noopMutexRow_l46 m x1 x2 a) NN (0,0)) (fun _=>True):=by
    intro a
    refine Ok.loop (fun s=>0≤s.2) (fun s=>(10 - s.2).toNat) (by simp) (by simp) ?_
    rintro ⟨x,y⟩ h1
    dsimp only at h1
    repeat' (first | (with_reducible refine Ok.bind (own_hb _ _ _) fun r hr=>?_) | ((with_reducible refine Ok.grd ?_ ?_); (focus (first | omega | ((try simp only [w32_al,w32_ar,w32_sl,w32_sr,w32_m4,w32_m6,w32_m10,w32_m16,w32_m24]); (repeat rw [w32_id (by omega)]); omega) | ((try simp only [w32_al,w32_ar,w32_sl,w32_sr,w32_m4,w32_m6,w32_m10,w32_m16,w32_m24]); unfold w32; omega) | (simp [sto,z0_at,w32]; done) | (simp [sto,z0_at,w32]; omega)))) | ((with_reducible refine Ok.ite (fun h=>?_) (fun h=>?_)) <;> (try simp [sto,z0_at,w32] at h) <;> (try (exfalso; omega))) | (with_reducible refine Ok.bind' ?_) | ((with_reducible refine Ok.ret ?_); (try dsimp only)) | (with_reducible refine Ok.lpNN ?_) | (with_reducible refine Ok.lp1 ?_) | (with_reducible refine u_f_noopMutexRow_l46 ?_) | (with_reducible refine u_f_noopMutexRow_b109 ?_) | (with_reducible refine u_f_noopMutexRow_b100 ?_))
    all_goals (first | trivial | omega | ((try simp only [w32_al,w32_ar,w32_sl,w32_sr,w32_m4,w32_m6,w32_m10,w32_m16,w32_m24]); (repeat rw [w32_id (by omega)]); omega) | ((try simp only [w32_al,w32_ar,w32_sl,w32_sr,w32_m4,w32_m6,w32_m10,w32_m16,w32_m24]); unfold w32; omega) | (simp [sto,z0_at,w32]; done) | (simp [sto,z0_at,w32]; omega))
  repeat' (first | (with_reducible refine Ok.bind (own_hb _ _ _) fun r hr=>?_) | (with_reducible refine Ok.bind (L _) fun r hr=>?_) | ((with_reducible refine Ok.grd ?_ ?_); (focus (first | omega | ((try simp only [w32_al,w32_ar,w32_sl,w32_sr,w32_m4,w32_m6,w32_m10,w32_m16,w32_m24]); (repeat rw [w32_id (by omega)]); omega) | ((try simp only [w32_al,w32_ar,w32_sl,w32_sr,w32_m4,w32_m6,w32_m10,w32_m16,w32_m24]); unfold w32; omega) | (simp [sto,z0_at,w32]; done) | (simp [sto,z0_at,w32]; omega)))) | ((with_reducible refine Ok.ite (fun h=>?_) (fun h=>?_)) <;> (try simp [sto,z0_at,w32] at h) <;> (try (exfalso; omega))) | (with_reducible refine Ok.bind' ?_) | ((with_reducible refine Ok.ret ?_); (try dsimp only)) | (with_reducible refine Ok.lpNN ?_) | (with_reducible refine Ok.lp1 ?_) | (with_reducible refine u_f_noopMutexRow ?_) | (with_reducible refine u_f_noopMutexRow_b24 ?_))
  all_goals (first | trivial | omega | ((try simp only [w32_al,w32_ar,w32_sl,w32_sr,w32_m4,w32_m6,w32_m10,w32_m16,w32_m24]); (repeat rw [w32_id (by omega)]); omega) | ((try simp only [w32_al,w32_ar,w32_sl,w32_sr,w32_m4,w32_m6,w32_m10,w32_m16,w32_m24]); unfold w32; omega) | (simp [sto,z0_at,w32]; done) | (simp [sto,z0_at,w32]; omega))
theorem own_bal (x1:Int) (m:OMem) (J:own_J m) (ha:1≤x1∧x1<9):Ok (f_buildActionLevel x1 m) (own_G m):=by
  unfold f_buildActionLevel
  refine Ok.bind (P:=fun _=>True) ?_ fun r _=>?_
  · have e1:w32 (x1 - 1)=x1 - 1:=w32_id (by omega)
    refine Ok.loop (fun s=>0≤s.2) (fun s=>(10 - s.2).toNat) (by simp) (by simp) ?_
    rintro ⟨x,y⟩ h1
    dsimp only at h1
    repeat' (first | (with_reducible refine Ok.bind (own_ap _ _ _ J (by omega) (by omega)) fun r hr=>?_) | ((with_reducible refine Ok.grd ?_ ?_); (focus (first | omega | ((try simp only [w32_al,w32_ar,w32_sl,w32_sr,w32_m4,w32_m6,w32_m10,w32_m16,w32_m24]); (repeat rw [w32_id (by omega)]); omega) | ((try simp only [w32_al,w32_ar,w32_sl,w32_sr,w32_m4,w32_m6,w32_m10,w32_m16,w32_m24]); unfold w32; omega) | (simp [sto,z0_at,w32]; done) | (simp [sto,z0_at,w32]; omega)))) | ((with_reducible refine Ok.ite (fun h=>?_) (fun h=>?_)) <;> (try simp [sto,z0_at,w32] at h) <;> (try (exfalso; omega))) | (with_reducible refine Ok.bind' ?_) | ((with_reducible refine Ok.ret ?_); (try dsimp only)) | (with_reducible refine Ok.lpNN ?_) | (with_reducible refine Ok.lp1 ?_) | (with_reducible refine u_f_buildActionLevel_l4 ?_) | (with_reducible refine u_f_buildActionLevel_b29 ?_))
    all_goals (first | trivial | omega | ((try simp only [w32_al,w32_ar,w32_sl,w32_sr,w32_m4,w32_m6,w32_m10,w32_m16,w32_m24]); (repeat rw [w32_id (by omega)]); omega) | ((try simp only [w32_al,w32_ar,w32_sl,w32_sr,w32_m4,w32_m6,w32_m10,w32_m16,w32_m24]); unfold w32; omega) | (simp [sto,z0_at,w32]; done) | (simp [sto,z0_at,w32]; omega))
  refine Ok.grd (by omega) ?_
  refine Ok.bind (P:=own_G m) ?_ fun m1 hm1=>?_
  · refine Ok.loop (fun s=>0≤s.1∧own_G m s.2) (fun s=>(10 - s.1).toNat) ⟨by simp,own_Gs (by decide) fun _ _ _=>rfl⟩ (by simp) ?_
    rintro ⟨x,m1⟩ ⟨h1,h2⟩
    dsimp only at h1 h2
    have J1:=own_GJ h2 J
    repeat' (first | (with_reducible refine Ok.bind (own_amr _ _ _ J1 (by omega) h1) fun r hr=>?_) | ((with_reducible refine Ok.grd ?_ ?_); (focus (first | omega | ((try simp only [w32_al,w32_ar,w32_sl,w32_sr,w32_m4,w32_m6,w32_m10,w32_m16,w32_m24]); (repeat rw [w32_id (by omega)]); omega) | ((try simp only [w32_al,w32_ar,w32_sl,w32_sr,w32_m4,w32_m6,w32_m10,w32_m16,w32_m24]); unfold w32; omega) | (simp [sto,z0_at,w32]; done) | (simp [sto,z0_at,w32]; omega)))) | ((with_reducible refine Ok.ite (fun h=>?_) (fun h=>?_)) <;> (try simp [sto,z0_at,w32] at h) <;> (try (exfalso; omega))) | (with_reducible refine Ok.bind' ?_) | ((with_reducible refine Ok.ret ?_); (try dsimp only)) | (with_reducible refine Ok.lpNN ?_) | (with_reducible refine Ok.lp1 ?_) | (with_reducible refine u_f_buildActionLevel_l44 ?_))
    · rw [w32_id (by omega)]
      exact ⟨⟨by omega,own_Gs (by decide) h2⟩,by omega⟩
    · exact h2
  refine Ok.bind (P:=own_G m) ?_ fun m2 hm2=>Ok.ret hm2
  refine Ok.loop (fun s=>0≤s.1∧own_G m s.2) (fun s=>(10 - s.1).toNat) ⟨by simp,hm1⟩ (by simp) ?_
  rintro ⟨x,m1⟩ ⟨h1,h2⟩
  dsimp only at h1 h2
  have J1:=own_GJ h2 J
  repeat' (first | (with_reducible refine Ok.bind (own_nmr _ _ _ J1 ha h1) fun r hr=>?_) | ((with_reducible refine Ok.grd ?_ ?_); (focus (first | omega | ((try simp only [w32_al,w32_ar,w32_sl,w32_sr,w32_m4,w32_m6,w32_m10,w32_m16,w32_m24]); (repeat rw [w32_id (by omega)]); omega) | ((try simp only [w32_al,w32_ar,w32_sl,w32_sr,w32_m4,w32_m6,w32_m10,w32_m16,w32_m24]); unfold w32; omega) | (simp [sto,z0_at,w32]; done) | (simp [sto,z0_at,w32]; omega)))) | ((with_reducible refine Ok.ite (fun h=>?_) (fun h=>?_)) <;> (try simp [sto,z0_at,w32] at h) <;> (try (exfalso; omega))) | (with_reducible refine Ok.bind' ?_) | ((with_reducible refine Ok.ret ?_); (try dsimp only)) | (with_reducible refine Ok.lpNN ?_) | (with_reducible refine Ok.lp1 ?_) | (with_reducible refine u_f_buildActionLevel_l75 ?_))
  · rw [w32_id (by omega)]
    exact ⟨⟨by omega,own_Gs (by decide) h2⟩,by omega⟩
  · exact h2
theorem own_ach (x1 x2:Int) (m:OMem) (J:own_J m) (ha:0≤x1∧x1<9):Ok (f_achievers x1 x2 m) (fun _=>True):=by
  unfold f_achievers
  refine Ok.bind (P:=fun _=>True) ?_ fun r _=>Ok.ret trivial
  refine Ok.loop (fun s=>0≤s.2) (fun s=>(10 - s.2).toNat) (by simp) (by simp) ?_
  rintro ⟨x,y⟩ h1
  dsimp only at h1
  repeat' (first | (with_reducible refine Ok.bind (own_hb _ _ _) fun r hr=>?_) | ((with_reducible refine Ok.grd ?_ ?_); (focus (first | omega | ((try simp only [w32_al,w32_ar,w32_sl,w32_sr,w32_m4,w32_m6,w32_m10,w32_m16,w32_m24]); (repeat rw [w32_id (by omega)]); omega) | ((try simp only [w32_al,w32_ar,w32_sl,w32_sr,w32_m4,w32_m6,w32_m10,w32_m16,w32_m24]); unfold w32; omega) | (simp [sto,z0_at,w32]; done) | (simp [sto,z0_at,w32]; omega)))) | ((with_reducible refine Ok.ite (fun h=>?_) (fun h=>?_)) <;> (try simp [sto,z0_at,w32] at h) <;> (try (exfalso; omega))) | (with_reducible refine Ok.bind' ?_) | ((with_reducible refine Ok.ret ?_); (try dsimp only)) | (with_reducible refine Ok.lpNN ?_) | (with_reducible refine Ok.lp1 ?_) | (with_reducible refine u_f_achievers_l5 ?_) | (with_reducible refine u_f_achievers_b51 ?_))
  all_goals (first | trivial | omega | ((try simp only [w32_al,w32_ar,w32_sl,w32_sr,w32_m4,w32_m6,w32_m10,w32_m16,w32_m24]); (repeat rw [w32_id (by omega)]); omega) | ((try simp only [w32_al,w32_ar,w32_sl,w32_sr,w32_m4,w32_m6,w32_m10,w32_m16,w32_m24]); unfold w32; omega) | (simp [sto,z0_at,w32]; done) | (simp [sto,z0_at,w32]; omega))
theorem own_fm (x1 x2 x3:Int) (m:OMem) (J:own_J m) (ha:1≤x1∧x1<9) (hb:0≤x2∧x2<10) (hc:0≤x3∧x3<10):Ok (f_factsMutex x1 x2 x3 m) (fun _=>True):=by
  have L:∀ a b c d,Ok (lp (f_factsMutex_l49 m x1 x2 x3 a b c d) NN 0) (fun _=>True):=by
    intro a b c d
    refine Ok.loop (fun s=>0≤s) (fun s=>(10 - s).toNat) (by simp) (by simp) ?_
    intro x h1
    repeat' (first | (with_reducible refine Ok.bind (own_hb _ _ _) fun r hr=>?_) | ((with_reducible refine Ok.grd ?_ ?_); (focus (first | omega | ((try simp only [w32_al,w32_ar,w32_sl,w32_sr,w32_m4,w32_m6,w32_m10,w32_m16,w32_m24]); (repeat rw [w32_id (by omega)]); omega) | ((try simp only [w32_al,w32_ar,w32_sl,w32_sr,w32_m4,w32_m6,w32_m10,w32_m16,w32_m24]); unfold w32; omega) | (simp [sto,z0_at,w32]; done) | (simp [sto,z0_at,w32]; omega)))) | ((with_reducible refine Ok.ite (fun h=>?_) (fun h=>?_)) <;> (try simp [sto,z0_at,w32] at h) <;> (try (exfalso; omega))) | (with_reducible refine Ok.bind' ?_) | ((with_reducible refine Ok.ret ?_); (try dsimp only)) | (with_reducible refine Ok.lpNN ?_) | (with_reducible refine Ok.lp1 ?_) | (with_reducible refine u_f_factsMutex_l49 ?_) | (with_reducible refine u_f_factsMutex_b91 ?_))
    all_goals (first | trivial | omega | ((try simp only [w32_al,w32_ar,w32_sl,w32_sr,w32_m4,w32_m6,w32_m10,w32_m16,w32_m24]); (repeat rw [w32_id (by omega)]); omega) | ((try simp only [w32_al,w32_ar,w32_sl,w32_sr,w32_m4,w32_m6,w32_m10,w32_m16,w32_m24]); unfold w32; omega) | (simp [sto,z0_at,w32]; done) | (simp [sto,z0_at,w32]; omega))
  repeat' (first | (with_reducible refine Ok.bind (own_hb _ _ _) fun r hr=>?_) | (with_reducible refine Ok.bind (own_ach _ _ _ J (by omega)) fun r hr=>?_) | ((with_reducible refine Ok.bind (L _ _ _ _) fun e he=>?_); (cases e) <;> (try dsimp only)) | ((with_reducible refine Ok.grd ?_ ?_); (focus (first | omega | ((try simp only [w32_al,w32_ar,w32_sl,w32_sr,w32_m4,w32_m6,w32_m10,w32_m16,w32_m24]); (repeat rw [w32_id (by omega)]); omega) | ((try simp only [w32_al,w32_ar,w32_sl,w32_sr,w32_m4,w32_m6,w32_m10,w32_m16,w32_m24]); unfold w32; omega) | (simp [sto,z0_at,w32]; done) | (simp [sto,z0_at,w32]; omega)))) | ((with_reducible refine Ok.ite (fun h=>?_) (fun h=>?_)) <;> (try simp [sto,z0_at,w32] at h) <;> (try (exfalso; omega))) | (with_reducible refine Ok.bind' ?_) | ((with_reducible refine Ok.ret ?_); (try dsimp only)) | (with_reducible refine Ok.lpNN ?_) | (with_reducible refine Ok.lp1 ?_) | (with_reducible refine u_f_factsMutex ?_) | (with_reducible refine u_f_factsMutex_b182 ?_) | (with_reducible refine u_f_factsMutex_b149 ?_) | (with_reducible refine u_f_factsMutex_b123 ?_))
  all_goals (first | trivial | omega | ((try simp only [w32_al,w32_ar,w32_sl,w32_sr,w32_m4,w32_m6,w32_m10,w32_m16,w32_m24]); (repeat rw [w32_id (by omega)]); omega) | ((try simp only [w32_al,w32_ar,w32_sl,w32_sr,w32_m4,w32_m6,w32_m10,w32_m16,w32_m24]); unfold w32; omega) | (simp [sto,z0_at,w32]; done) | (simp [sto,z0_at,w32]; omega))
theorem own_fmr (x1 x2:Int) (m:OMem) (J:own_J m) (ha:1≤x1∧x1<9) (hb:0≤x2):Ok (f_factMutexRow x1 x2 m) (fun _=>True):=by
  unfold f_factMutexRow f_factMutexRow_b22
  refine Ok.ite (fun hx=>?_) (fun _=>Ok.ret trivial)
  refine Ok.grd (by omega) (Ok.bind (own_hb _ _ _) fun r _=>Ok.ite (fun _=>Ok.ret trivial) (fun _=>?_))
  refine Ok.bind (P:=fun _=>True) ?_ fun e _=>Ok.ret trivial
  refine Ok.loop (fun s=>0≤s.2) (fun s=>(10 - s.2).toNat) (by simp) (by simp) ?_
  rintro ⟨x,y⟩ h1
  dsimp only at h1
  repeat' (first | (with_reducible refine Ok.bind (own_hb _ _ _) fun r hr=>?_) | (with_reducible refine Ok.bind (own_fm _ _ _ _ J ha (by omega) (by omega)) fun r hr=>?_) | ((with_reducible refine Ok.grd ?_ ?_); (focus (first | omega | ((try simp only [w32_al,w32_ar,w32_sl,w32_sr,w32_m4,w32_m6,w32_m10,w32_m16,w32_m24]); (repeat rw [w32_id (by omega)]); omega) | ((try simp only [w32_al,w32_ar,w32_sl,w32_sr,w32_m4,w32_m6,w32_m10,w32_m16,w32_m24]); unfold w32; omega) | (simp [sto,z0_at,w32]; done) | (simp [sto,z0_at,w32]; omega)))) | ((with_reducible refine Ok.ite (fun h=>?_) (fun h=>?_)) <;> (try simp [sto,z0_at,w32] at h) <;> (try (exfalso; omega))) | (with_reducible refine Ok.bind' ?_) | ((with_reducible refine Ok.ret ?_); (try dsimp only)) | (with_reducible refine Ok.lpNN ?_) | (with_reducible refine Ok.lp1 ?_) | (with_reducible refine u_f_factMutexRow_l29 ?_) | (with_reducible refine u_f_factMutexRow_b77 ?_))
  all_goals (first | trivial | omega | ((try simp only [w32_al,w32_ar,w32_sl,w32_sr,w32_m4,w32_m6,w32_m10,w32_m16,w32_m24]); (repeat rw [w32_id (by omega)]); omega) | ((try simp only [w32_al,w32_ar,w32_sl,w32_sr,w32_m4,w32_m6,w32_m10,w32_m16,w32_m24]); unfold w32; omega) | (simp [sto,z0_at,w32]; done) | (simp [sto,z0_at,w32]; omega))
theorem own_bfl (x1:Int) (m:OMem) (J:own_J m) (ha:1≤x1∧x1<9):Ok (f_buildFactLevel x1 m) (own_G m):=by
  unfold f_buildFactLevel
  refine Ok.grd (by unfold w32; omega) ?_
  refine Ok.bind (P:=fun _=>True) ?_ fun r _=>?_
  · refine Ok.loop (fun s=>0≤s.2) (fun s=>(10 - s.2).toNat) (by simp) (by simp) ?_
    rintro ⟨x,y⟩ h1
    dsimp only at h1
    repeat' (first | (with_reducible refine Ok.bind (own_hb _ _ _) fun r hr=>?_) | ((with_reducible refine Ok.grd ?_ ?_); (focus (first | omega | ((try simp only [w32_al,w32_ar,w32_sl,w32_sr,w32_m4,w32_m6,w32_m10,w32_m16,w32_m24]); (repeat rw [w32_id (by omega)]); omega) | ((try simp only [w32_al,w32_ar,w32_sl,w32_sr,w32_m4,w32_m6,w32_m10,w32_m16,w32_m24]); unfold w32; omega) | (simp [sto,z0_at,w32]; done) | (simp [sto,z0_at,w32]; omega)))) | ((with_reducible refine Ok.ite (fun h=>?_) (fun h=>?_)) <;> (try simp [sto,z0_at,w32] at h) <;> (try (exfalso; omega))) | (with_reducible refine Ok.bind' ?_) | ((with_reducible refine Ok.ret ?_); (try dsimp only)) | (with_reducible refine Ok.lpNN ?_) | (with_reducible refine Ok.lp1 ?_) | (with_reducible refine u_f_buildFactLevel_l11 ?_) | (with_reducible refine u_f_buildFactLevel_b42 ?_))
    all_goals (first | trivial | omega | ((try simp only [w32_al,w32_ar,w32_sl,w32_sr,w32_m4,w32_m6,w32_m10,w32_m16,w32_m24]); (repeat rw [w32_id (by omega)]); omega) | ((try simp only [w32_al,w32_ar,w32_sl,w32_sr,w32_m4,w32_m6,w32_m10,w32_m16,w32_m24]); unfold w32; omega) | (simp [sto,z0_at,w32]; done) | (simp [sto,z0_at,w32]; omega))
  refine Ok.grd (by omega) ?_
  refine Ok.bind (P:=own_G m) ?_ fun m2 hm2=>Ok.ret hm2
  refine Ok.loop (fun s=>0≤s.1∧own_G m s.2) (fun s=>(10 - s.1).toNat) ⟨by simp,own_Gs (by decide) fun _ _ _=>rfl⟩ (by simp) ?_
  rintro ⟨x,m1⟩ ⟨h1,h2⟩
  dsimp only at h1 h2
  have J1:=own_GJ h2 J
  repeat' (first | (with_reducible refine Ok.bind (own_fmr _ _ _ J1 ha h1) fun r hr=>?_) | ((with_reducible refine Ok.grd ?_ ?_); (focus (first | omega | ((try simp only [w32_al,w32_ar,w32_sl,w32_sr,w32_m4,w32_m6,w32_m10,w32_m16,w32_m24]); (repeat rw [w32_id (by omega)]); omega) | ((try simp only [w32_al,w32_ar,w32_sl,w32_sr,w32_m4,w32_m6,w32_m10,w32_m16,w32_m24]); unfold w32; omega) | (simp [sto,z0_at,w32]; done) | (simp [sto,z0_at,w32]; omega)))) | ((with_reducible refine Ok.ite (fun h=>?_) (fun h=>?_)) <;> (try simp [sto,z0_at,w32] at h) <;> (try (exfalso; omega))) | (with_reducible refine Ok.bind' ?_) | ((with_reducible refine Ok.ret ?_); (try dsimp only)) | (with_reducible refine Ok.lpNN ?_) | (with_reducible refine Ok.lp1 ?_) | (with_reducible refine u_f_buildFactLevel_l57 ?_))
  · rw [w32_id (by omega)]
    exact ⟨⟨by omega,own_Gs (by decide) h2⟩,by omega⟩
  · exact h2
theorem own_bg (x1:Int) (m:OMem) (J:own_J m):Ok (f_buildGraph x1 m) (own_F m):=by
  unfold f_buildGraph
  refine Ok.bind (own_cl1 x1 0 8 m (by decide)) fun r hr=>?_
  refine Ok.bind (P:=fun m'=>own_F m m'∧m' 0 32=r) ?_ fun m3 h3=>?_
  · refine Ok.loop (fun s=>0≤s.1∧own_F m s.2∧s.2 0 32=r) (fun s=>(10 - s.1).toNat) ⟨by simp,own_Fs (by decide) (own_Fs (by decide) (own_F0 (by decide) fun _ _ _ _=>rfl)),by simp [sto]⟩ (by simp) ?_
    rintro ⟨x,m3⟩ ⟨a,b,c⟩
    dsimp only at a b c
    repeat' (first | ((with_reducible refine Ok.grd ?_ ?_); (focus (first | omega | ((try simp only [w32_al,w32_ar,w32_sl,w32_sr,w32_m4,w32_m6,w32_m10,w32_m16,w32_m24]); (repeat rw [w32_id (by omega)]); omega) | ((try simp only [w32_al,w32_ar,w32_sl,w32_sr,w32_m4,w32_m6,w32_m10,w32_m16,w32_m24]); unfold w32; omega) | (simp [sto,z0_at,w32]; done) | (simp [sto,z0_at,w32]; omega)))) | ((with_reducible refine Ok.ite (fun h=>?_) (fun h=>?_)) <;> (try simp [sto,z0_at,w32] at h) <;> (try (exfalso; omega))) | (with_reducible refine Ok.bind' ?_) | ((with_reducible refine Ok.ret ?_); (try dsimp only)) | (with_reducible refine Ok.lpNN ?_) | (with_reducible refine Ok.lp1 ?_) | (with_reducible refine u_f_buildGraph_l31 ?_))
    · rw [w32_id (by omega)]
      exact ⟨⟨by omega,own_Fs (by decide) (own_Fs (by decide) (own_Fs (by decide) b)),by simp [sto,c]⟩,by omega⟩
    · exact ⟨b,c⟩
  refine Ok.bind (P:=own_F m) ?_ fun m4 h4=>Ok.ret h4
  refine Ok.loop (fun s=>1≤s.1∧own_F m s.2∧s.2 0 32=r) (fun s=>(9 - s.1).toNat) ⟨by simp,h3.1,h3.2⟩ (by simp) ?_
  rintro ⟨x,m1⟩ ⟨a,b,c⟩
  dsimp only at a b c
  have J1:=own_FJ b J
  unfold f_buildGraph_l66
  dsimp only
  refine Ok.ite (fun _=>Ok.ret b) (fun hx=>?_)
  refine Ok.bind (own_bal x m1 J1 (by omega)) fun m2 h2=>?_
  refine Ok.bind (own_bfl x m2 (own_GJ h2 J1) (by omega)) fun m3 h3'=>Ok.ret ?_
  dsimp only
  rw [w32_id (by omega)]
  have g:=own_Gt h2 h3'
  exact ⟨⟨by omega,own_Ft b (fun k i p _=>g k i p),by rw [g 0 32 (by decide),c]⟩,by omega⟩
theorem own_lc (x1 x2:Int) (m:OMem) (J:own_J m) (ha:0≤x1∧x1<9) (hb:0≤x2∧x2<1024):Ok (f_layerCandidate x1 x2 m) (fun _=>True):=by
  have L:Ok (lp (f_layerCandidate_l28 m x1 x2) NN 0) (fun _=>True):=by
    refine Ok.loop (fun s=>0≤s) (fun s=>(10 - s).toNat) (by simp) (by simp) ?_
    intro x h1
    repeat' (first | (with_reducible refine Ok.bind (own_hb _ _ _) fun r hr=>?_) | ((with_reducible refine Ok.grd ?_ ?_); (focus (first | omega | ((try simp only [w32_al,w32_ar,w32_sl,w32_sr,w32_m4,w32_m6,w32_m10,w32_m16,w32_m24]); (repeat rw [w32_id (by omega)]); omega) | ((try simp only [w32_al,w32_ar,w32_sl,w32_sr,w32_m4,w32_m6,w32_m10,w32_m16,w32_m24]); unfold w32; omega) | (simp [sto,z0_at,w32]; done) | (simp [sto,z0_at,w32]; omega)))) | ((with_reducible refine Ok.ite (fun h=>?_) (fun h=>?_)) <;> (try simp [sto,z0_at,w32] at h) <;> (try (exfalso; omega))) | (with_reducible refine Ok.bind' ?_) | ((with_reducible refine Ok.ret ?_); (try dsimp only)) | (with_reducible refine Ok.lpNN ?_) | (with_reducible refine Ok.lp1 ?_) | (with_reducible refine u_f_layerCandidate_l28 ?_) | (with_reducible refine u_f_layerCandidate_b63 ?_))
    all_goals (first | trivial | omega | ((try simp only [w32_al,w32_ar,w32_sl,w32_sr,w32_m4,w32_m6,w32_m10,w32_m16,w32_m24]); (repeat rw [w32_id (by omega)]); omega) | ((try simp only [w32_al,w32_ar,w32_sl,w32_sr,w32_m4,w32_m6,w32_m10,w32_m16,w32_m24]); unfold w32; omega) | (simp [sto,z0_at,w32]; done) | (simp [sto,z0_at,w32]; omega))
  repeat' (first | ((with_reducible refine Ok.bind L fun e he=>?_); (cases e) <;> (try dsimp only)) | ((with_reducible refine Ok.grd ?_ ?_); (focus (first | omega | ((try simp only [w32_al,w32_ar,w32_sl,w32_sr,w32_m4,w32_m6,w32_m10,w32_m16,w32_m24]); (repeat rw [w32_id (by omega)]); omega) | ((try simp only [w32_al,w32_ar,w32_sl,w32_sr,w32_m4,w32_m6,w32_m10,w32_m16,w32_m24]); unfold w32; omega) | (simp [sto,z0_at,w32]; done) | (simp [sto,z0_at,w32]; omega)))) | ((with_reducible refine Ok.ite (fun h=>?_) (fun h=>?_)) <;> (try simp [sto,z0_at,w32] at h) <;> (try (exfalso; omega))) | (with_reducible refine Ok.bind' ?_) | ((with_reducible refine Ok.ret ?_); (try dsimp only)) | (with_reducible refine Ok.lpNN ?_) | (with_reducible refine Ok.lp1 ?_) | (with_reducible refine u_f_layerCandidate ?_))
  all_goals (first | trivial | omega | ((try simp only [w32_al,w32_ar,w32_sl,w32_sr,w32_m4,w32_m6,w32_m10,w32_m16,w32_m24]); (repeat rw [w32_id (by omega)]); omega) | ((try simp only [w32_al,w32_ar,w32_sl,w32_sr,w32_m4,w32_m6,w32_m10,w32_m16,w32_m24]); unfold w32; omega) | (simp [sto,z0_at,w32]; done) | (simp [sto,z0_at,w32]; omega))
theorem own_bcd (x1:Int) (m:OMem) (J:own_J m):Ok (f_buildCandidates x1 m) (own_F m):=by
  have hr:=shl1_rng (m 0 25) (by omega)
  unfold f_buildCandidates f_buildCandidates_b61
  generalize shl32 1 (m 0 25)=B at hr ⊢
  refine Ok.bind (P:=own_F m) ?_ fun m4 h4=>Ok.ret h4
  refine Ok.loop (fun s=>1≤s.1∧own_F m s.2) (fun s=>(9 - s.1).toNat) ⟨by simp,fun _ _ _ _=>rfl⟩ (by simp) ?_
  rintro ⟨x,m1⟩ ⟨a,b⟩
  dsimp only at a b
  unfold f_buildCandidates_l9
  dsimp only
  refine Ok.ite (fun _=>Ok.ret b) (fun hx=>Ok.ite (fun _=>Ok.ret b) (fun hy=>?_))
  refine Ok.bind (P:=own_F m) ?_ fun m4 h4=>Ok.ret ?_
  · refine Ok.loop (fun s=>0≤s.1∧own_F m s.2) (fun s=>(1024 - s.1).toNat) ⟨by simp,b⟩ (by simp) ?_
    rintro ⟨y,m2⟩ ⟨h1,h2⟩
    dsimp only at h1 h2
    have J2:=own_FJ h2 J
    repeat' (first | (with_reducible refine Ok.bind (own_lc _ _ _ J2 (by omega) (by omega)) fun r hr=>?_) | ((with_reducible refine Ok.grd ?_ ?_); (focus (first | omega | ((try simp only [w32_al,w32_ar,w32_sl,w32_sr,w32_m4,w32_m6,w32_m10,w32_m16,w32_m24]); (repeat rw [w32_id (by omega)]); omega) | ((try simp only [w32_al,w32_ar,w32_sl,w32_sr,w32_m4,w32_m6,w32_m10,w32_m16,w32_m24]); unfold w32; omega) | (simp [sto,z0_at,w32]; done) | (simp [sto,z0_at,w32]; omega)))) | ((with_reducible refine Ok.ite (fun h=>?_) (fun h=>?_)) <;> (try simp [sto,z0_at,w32] at h) <;> (try (exfalso; omega))) | (with_reducible refine Ok.bind' ?_) | ((with_reducible refine Ok.ret ?_); (try dsimp only)) | (with_reducible refine Ok.lpNN ?_) | (with_reducible refine Ok.lp1 ?_) | (with_reducible refine u_f_buildCandidates_l23 ?_))
    · rw [w32_id (by omega)]
      exact ⟨⟨by omega,own_Fs (by decide) h2⟩,by omega⟩
    · exact h2
  · dsimp only
    rw [w32_id (by omega)]
    exact ⟨⟨by omega,h4⟩,by omega⟩
abbrev own_bt (x i:Int):Int:=and32 (ushr32 x i) 1
theorem own_bt01 (x i:Int):own_bt x i=0∨own_bt x i=1:=by
  unfold own_bt
  rw [and32_1]
  omega
/-! bits of ints -/
def own_B (x:Int):BitVec 32:=(Int32.ofInt x).toBitVec
theorem own_B_and (a b:Int):own_B (and32 a b)=own_B a &&& own_B b:=by
  unfold own_B and32
  rw [Int32.ofInt_toInt]; rfl
theorem own_B_or (a b:Int):own_B (or32 a b)=own_B a ||| own_B b:=by
  unfold own_B or32
  rw [Int32.ofInt_toInt]; rfl
theorem own_B_not (a:Int):own_B (xor32 a (-1)) = ~~~ own_B a:=by
  unfold own_B xor32
  rw [Int32.ofInt_toInt,Int32.toBitVec_xor,show (Int32.ofInt (-1)).toBitVec=BitVec.allOnes 32 from by decide,BitVec.xor_allOnes]
theorem own_u5:∀ i:Fin 32,((Int32.ofInt (i.val:Int)).toUInt32 &&& Int32.toUInt32 31).toBitVec.toNat % 32=i.val:=by decide +kernel
theorem own_btB (x i:Int) (h:0≤i∧i<32):own_bt x i=if (own_B x).getLsbD i.toNat then 1 else 0:=by
  obtain ⟨k,hk,rfl⟩:∃ k:Nat,k<32∧i=(k:Int):=⟨i.toNat,by omega,by omega⟩
  have e:own_B (ushr32 x (k:Int))=own_B x >>> k:=by
    unfold own_B ushr32
    rw [Int32.ofInt_toInt]
    have g:(Jvm.Free.XT.ushr (Int32.ofInt x) (Int32.ofInt (k:Int))).toBitVec=(Int32.ofInt x).toBitVec >>> (((Int32.ofInt (k:Int)).toUInt32 &&& Int32.toUInt32 31).toBitVec.toNat % 32):=rfl
    rw [g,own_u5 ⟨k,hk⟩]
  have e2:own_B (own_bt x (k:Int))=(own_B x >>> k) &&& 1#32:=by
    unfold own_bt
    rw [own_B_and,e]; rfl
  rw [Int.toNat_natCast]
  have e3:(own_B x).getLsbD k=((own_B x >>> k) &&& 1#32).getLsbD 0:=by
    rw [BitVec.getLsbD_and,BitVec.getLsbD_ushiftRight]
    simp
  rw [e3,← e2]
  rcases own_bt01 x (k:Int) with z | z
  · rw [z]; decide
  · rw [z]; decide
theorem own_btT {x i:Int} (h:0≤i∧i<32):own_bt x i=1↔(own_B x).getLsbD i.toNat=true:=by
  rw [own_btB x i h]
  cases (own_B x).getLsbD i.toNat <;> simp
theorem own_btF {x i:Int} (h:0≤i∧i<32):own_bt x i=0↔(own_B x).getLsbD i.toNat=false:=by
  rw [own_btB x i h]
  cases (own_B x).getLsbD i.toNat <;> simp
theorem own_s5:∀ k:Fin 32,own_B (shl32 1 (k.val:Int))=BitVec.twoPow 32 k.val:=by decide +kernel
theorem own_bt_or (a b i:Int) (h:0≤i∧i<32):own_bt (or32 a b) i=if own_bt a i=1∨own_bt b i=1 then 1 else 0:=by
  rw [own_btB _ i h,own_btB a i h,own_btB b i h,own_B_or,BitVec.getLsbD_or]
  cases (own_B a).getLsbD i.toNat <;> cases (own_B b).getLsbD i.toNat <;> decide
theorem own_bt_and (a b i:Int) (h:0≤i∧i<32):own_bt (and32 a b) i=if own_bt a i=1∧own_bt b i=1 then 1 else 0:=by
  rw [own_btB _ i h,own_btB a i h,own_btB b i h,own_B_and,BitVec.getLsbD_and]
  cases (own_B a).getLsbD i.toNat <;> cases (own_B b).getLsbD i.toNat <;> decide
theorem own_bt_not (a i:Int) (h:0≤i∧i<32):own_bt (xor32 a (-1)) i=1 - own_bt a i:=by
  rw [own_btB _ i h,own_btB a i h,own_B_not,BitVec.getLsbD_not,decide_eq_true (show i.toNat<32 by omega)]
  cases (own_B a).getLsbD i.toNat <;> decide
theorem own_bt_sh (j i:Int) (hj:0≤j∧j<32) (h:0≤i∧i<32):own_bt (shl32 1 j) i=if i=j then 1 else 0:=by
  obtain ⟨k,hk,rfl⟩:∃ k:Nat,k<32∧j=(k:Int):=⟨j.toNat,by omega,by omega⟩
  rw [own_btB _ i h,own_s5 ⟨k,hk⟩,BitVec.getLsbD_twoPow]
  by_cases q:i=(k:Int)
  · rw [if_pos q,if_pos (by simp; omega)]
  · rw [if_neg q,if_neg (by simp; omega)]
theorem own_bt_0 (i:Int) (h:0≤i∧i<32):own_bt 0 i=0:=by
  rw [own_btF h,show own_B 0=0#32 from by decide]; simp
theorem own_ext {a b:Int} (ha:-2147483648≤a∧a<2147483648) (hb:-2147483648≤b∧b<2147483648) (h:∀ i,0≤i→i<32→own_bt a i=own_bt b i):a=b:=by
  have e:own_B a=own_B b:=by
    apply BitVec.eq_of_getLsbD_eq
    intro i hi
    have g:=h (i:Int) (by omega) (by omega)
    rw [own_btB a _ (by omega),own_btB b _ (by omega),Int.toNat_natCast] at g
    revert g
    cases (own_B a).getLsbD i <;> cases (own_B b).getLsbD i <;> simp
  have e2:Int32.ofInt a=Int32.ofInt b:=Int32.toBitVec_inj.mp e
  have e3:=congrArg Int32.toInt e2
  rw [ofInt32_toInt,ofInt32_toInt,w32_id ha,w32_id hb] at e3
  exact e3
theorem own_and_rng (a b:Int):-2147483648≤and32 a b∧and32 a b<2147483648:=by
  unfold and32
  exact ⟨Int32.le_toInt _,Int32.toInt_lt _⟩
theorem own_b0 (x i:Int):own_bt x i=0↔¬ own_bt x i=1:=by
  rcases own_bt01 x i with h | h <;> rw [h] <;> decide
theorem own_or1 {a b i:Int} (i0:0≤i) (i1:i<32):own_bt (or32 a b) i=1↔own_bt a i=1∨own_bt b i=1:=by
  rw [own_bt_or _ _ _ ⟨i0,i1⟩]
  by_cases q:own_bt a i=1∨own_bt b i=1
  · rw [if_pos q]; exact ⟨fun _=>q,fun _=>rfl⟩
  · rw [if_neg q]; exact ⟨fun w=>absurd w (by decide),fun w=>absurd w q⟩
theorem own_andn {a b i:Int} (i0:0≤i) (i1:i<32):own_bt (and32 a (xor32 b (-1))) i=1↔own_bt a i=1∧¬ own_bt b i=1:=by
  rw [own_bt_and _ _ _ ⟨i0,i1⟩,own_bt_not _ _ ⟨i0,i1⟩]
  have:=own_bt01 b i
  by_cases q:own_bt a i=1∧¬ own_bt b i=1
  · rw [if_pos ⟨q.1,by omega⟩]; exact ⟨fun _=>q,fun _=>rfl⟩
  · rw [if_neg (fun z=>q ⟨z.1,by omega⟩)]; exact ⟨fun w=>absurd w (by decide),fun w=>absurd w q⟩
theorem own_16:∀ v:Fin 16,∀ i:Fin 32,(4≤i.val→own_bt (v.val:Int) (i.val:Int)=0)∧shr32 (v.val:Int) (i.val:Int)=ushr32 (v.val:Int) (i.val:Int):=by decide +kernel
theorem own_hi (v i:Int) (hv:0≤v∧v<16) (hi:4≤i∧i<32):own_bt v i=0:=by
  have:=(own_16 ⟨v.toNat,by omega⟩ ⟨i.toNat,by omega⟩).1 (by dsimp only; omega)
  simp only [Int.toNat_of_nonneg hv.1,Int.toNat_of_nonneg (show 0≤i by omega)] at this
  exact this
theorem own_sr (v i:Int) (hv:0≤v∧v<16) (hi:0≤i∧i<32):shr32 v i=ushr32 v i:=by
  have:=(own_16 ⟨v.toNat,by omega⟩ ⟨i.toNat,by omega⟩).2
  simp only [Int.toNat_of_nonneg hv.1,Int.toNat_of_nonneg (show 0≤i by omega)] at this
  exact this
theorem own_or16':∀ a b:Fin 16,0≤or32 (a.val:Int) (b.val:Int)∧or32 (a.val:Int) (b.val:Int)<16:=by decide +kernel
theorem own_or16 (a b:Int) (ha:0≤a∧a<16) (hb:0≤b∧b<16):0≤or32 a b∧or32 a b<16:=by
  have:=own_or16' ⟨a.toNat,by omega⟩ ⟨b.toNat,by omega⟩
  simp only [Int.toNat_of_nonneg ha.1,Int.toNat_of_nonneg hb.1] at this
  exact this
theorem own_and16 (a b:Int) (ha:0≤a∧a<16):0≤and32 a b∧and32 a b<16:=by
  have:=and32_nn (a:=a) b ha.1 (by omega)
  omega
/- inclusion -/
def own_sub (g s:Int):Prop:=∀ f,0≤f→f<32→own_bt g f=1→own_bt s f=1
theorem own_subI {g s:Int}:and32 g (xor32 s (-1))=0↔own_sub g s:=by
  constructor
  · intro h f f0 f1 h1
    have e:=own_andn (a:=g) (b:=s) f0 f1
    rw [h,own_bt_0 f ⟨f0,f1⟩] at e
    refine Classical.byContradiction fun z=>?_
    exact absurd (e.mpr ⟨h1,z⟩) (by decide)
  · intro h
    refine own_ext (own_and_rng _ _) (by decide) fun f f0 f1=>?_
    rw [own_bt_0 f ⟨f0,f1⟩,own_b0,own_andn f0 f1]
    exact fun z=>z.2 (h f f0 f1 z.1)
/-! the unions -/
def own_U (m:OMem) (k:Nat) (x f:Int):Prop:=∃ a,0≤a∧a<4∧own_bt x a=1∧own_bt (m k a) f=1
def own_UnN (m:OMem) (n:Int):Prop:=∀ x,0≤x→x<n→(0≤m 7 x∧m 7 x<16)∧(0≤m 8 x∧m 8 x<16)∧(0≤m 9 x∧m 9 x<16)∧∀ f,0≤f→f<32→(own_bt (m 7 x) f=1↔own_U m 2 x f)∧(own_bt (m 8 x) f=1↔own_U m 3 x f)∧(own_bt (m 9 x) f=1↔own_U m 4 x f)
def own_L4 (m:OMem):Prop:=∀ a,0≤a→a<4→(0≤m 2 a∧m 2 a<16)∧(0≤m 3 a∧m 3 a<16)∧(0≤m 4 a∧m 4 a<16)
theorem own_lbX (x:Int) (m:OMem):Ok (f_lowestBit x m) (fun r=>(0≤r∧r<10∧and32 x (shl32 1 r)≠0∧∀ j,0≤j→j<r→and32 x (shl32 1 j)=0)∨(r=0∧∀ j,0≤j→j<10→and32 x (shl32 1 j)=0)):=by
  unfold f_lowestBit
  refine Ok.bind (P:=fun e=>match e with | .inl r=>0≤r∧r<10∧and32 x (shl32 1 r)≠0∧∀ j,0≤j→j<r→and32 x (shl32 1 j)=0 | .inr _=>∀ j,0≤j→j<10→and32 x (shl32 1 j)=0) ?_ ?_
  · refine Ok.loop (fun z=>0≤z∧z≤10∧∀ j,0≤j→j<z→and32 x (shl32 1 j)=0) (fun z=>(10 - z).toNat) ⟨by decide,by decide,fun p a b=>by omega⟩ (by decide) ?_
    rintro z ⟨a,b,c⟩
    unfold f_lowestBit_l2
    refine Ok.ite (fun h=>Ok.ite (fun h1=>Ok.ret ?_) (fun h1=>Ok.ret ?_)) (fun h=>Ok.ret fun j j0 j1=>c j j0 (by omega))
    · dsimp only
      rw [w32_id (by omega)]
      refine ⟨⟨by omega,by omega,fun j j0 j1=>?_⟩,by omega⟩
      by_cases q:j=z
      · rw [q]; exact h1
      · exact c j j0 (by omega)
    · exact ⟨a,h,h1,c⟩
  · intro e he
    cases e with
    | inl r=>exact Ok.ret (Or.inl he)
    | inr u=>exact Ok.ret (Or.inr ⟨rfl,he⟩)
theorem own_lowT:∀ x:Fin 16,∀ r:Fin 10,x.val≠0→and32 (x.val:Int) (shl32 1 (r.val:Int))≠0→(∀ j:Fin 10,j.val<r.val→and32 (x.val:Int) (shl32 1 (j.val:Int))=0)→(0≤and32 (x.val:Int) (w32 ((x.val:Int) - 1))∧and32 (x.val:Int) (w32 ((x.val:Int) - 1))<(x.val:Int)∧r.val<4)∧∀ a:Fin 4,(own_bt (and32 (x.val:Int) (w32 ((x.val:Int) - 1))) (a.val:Int)=1↔own_bt (x.val:Int) (a.val:Int)=1∧a.val≠r.val)∧(a.val=r.val→own_bt (x.val:Int) (a.val:Int)=1):=by decide +kernel
theorem own_lowZ:∀ x:Fin 16,x.val≠0→∃ j:Fin 10,and32 (x.val:Int) (shl32 1 (j.val:Int))≠0:=by decide +kernel
theorem own_low (x:Int) (m:OMem) (hx:1≤x∧x<16):Ok (f_lowestBit x m) (fun r=>(0≤r∧r<4)∧(0≤and32 x (w32 (x - 1))∧and32 x (w32 (x - 1))<x)∧own_bt x r=1∧∀ a,0≤a→a<4→(own_bt (and32 x (w32 (x - 1))) a=1↔own_bt x a=1∧a≠r)):=by
  refine Ok.mono (own_lbX x m) ?_
  rintro r (⟨r0,r1,r2,r3⟩ | ⟨-,r3⟩)
  · have t:=own_lowT ⟨x.toNat,by omega⟩ ⟨r.toNat,by omega⟩ (by dsimp only; omega)
    simp only [Int.toNat_of_nonneg (show 0≤x by omega),Int.toNat_of_nonneg r0] at t
    obtain ⟨⟨a,b,c⟩,d⟩:=t r2 (fun j hj=>r3 _ (by omega) (by omega))
    refine ⟨⟨r0,by omega⟩,⟨a,b⟩,?_,fun i i0 i1=>?_⟩
    · have:=(d ⟨r.toNat,by omega⟩).2 rfl
      simp only [Int.toNat_of_nonneg r0] at this
      exact this
    · have:=(d ⟨i.toNat,by omega⟩).1
      simp only [Int.toNat_of_nonneg i0] at this
      rw [this]
      have:i.toNat≠r.toNat↔i≠r:=by omega
      rw [this]
  · obtain ⟨j,hj⟩:=own_lowZ ⟨x.toNat,by omega⟩ (by dsimp only; omega)
    simp only [Int.toNat_of_nonneg (show 0≤x by omega)] at hj
    exact absurd (r3 _ (by omega) (by omega)) hj
/- one union more -/
theorem own_unS {m m':OMem} {x r A:Int} (hx:1≤x∧x<16) (L:own_L4 m) (hr:0≤r∧r<4) (hA:0≤A∧A<x) (hb:own_bt x r=1) (ha:∀ a,0≤a→a<4→(own_bt A a=1↔own_bt x a=1∧a≠r)) (h5:∀ (k:Nat) i,k≤5→m' k i=m k i) (h7:∀ i,m' 7 i=if i=x then or32 (m 7 A) (m 2 r) else m 7 i) (h8:∀ i,m' 8 i=if i=x then or32 (m 8 A) (m 3 r) else m 8 i) (h9:∀ i,m' 9 i=if i=x then or32 (m 9 A) (m 4 r) else m 9 i) (H:own_UnN m x):own_UnN m' (x+1):=by
  have e:∀ k,k≤5→m' k=m k:=fun k hk=>funext fun i=>h5 k i hk
  have u:∀ k y f,k≤5→(own_U m' k y f↔own_U m k y f):=fun k y f hk=>by unfold own_U; rw [e k hk]
  intro y y0 y1
  by_cases q:y=x
  · have ux:∀ k f,(own_U m k x f↔own_U m k A f∨own_bt (m k r) f=1):=fun k f=>by
      constructor
      · rintro ⟨a,a0,a1,a2,a3⟩
        by_cases w:a=r
        · rw [w] at a3; exact Or.inr a3
        · exact Or.inl ⟨a,a0,a1,(ha a a0 a1).mpr ⟨a2,w⟩,a3⟩
      · rintro (⟨a,a0,a1,a2,a3⟩ | h)
        · exact ⟨a,a0,a1,((ha a a0 a1).mp a2).1,a3⟩
        · exact ⟨r,hr.1,hr.2,hb,h⟩
    obtain ⟨p7,p8,p9,pf⟩:=H A hA.1 hA.2
    obtain ⟨l2,l3,l4⟩:=L r hr.1 hr.2
    rw [q,h7,h8,h9,if_pos rfl,if_pos rfl,if_pos rfl]
    refine ⟨own_or16 _ _ p7 l2,own_or16 _ _ p8 l3,own_or16 _ _ p9 l4,fun f f0 f1=>?_⟩
    obtain ⟨f7,f8,f9⟩:=pf f f0 f1
    rw [u 2 x f (by decide),u 3 x f (by decide),u 4 x f (by decide),own_or1 f0 f1,own_or1 f0 f1,own_or1 f0 f1,ux 2,ux 3,ux 4,f7,f8,f9]
    exact ⟨Iff.rfl,Iff.rfl,Iff.rfl⟩
  · obtain ⟨p7,p8,p9,pf⟩:=H y y0 (by omega)
    rw [h7,h8,h9,if_neg q,if_neg q,if_neg q]
    refine ⟨p7,p8,p9,fun f f0 f1=>?_⟩
    rw [u 2 y f (by decide),u 3 y f (by decide),u 4 y f (by decide)]
    exact pf f f0 f1
theorem own_bu8 (m:OMem) (h25:m 0 25=4) (L:own_L4 m):Ok (f_buildUnions m) (fun m'=>own_E m m'∧own_UnN m' 16):=by
  unfold f_buildUnions
  rw [h25,show shl32 1 4=16 from by decide +kernel]
  refine Ok.bind (P:=fun m'=>own_E m m'∧own_UnN m' 16) ?_ fun m2 hm2=>Ok.ret hm2
  refine Ok.loop (fun s=>(1≤s.1∧s.1≤16)∧own_E m s.2∧own_UnN s.2 s.1) (fun s=>(16 - s.1).toNat) ⟨by simp,own_Es (by decide) (own_Es (by decide) (own_Es (by decide) (own_Es (by decide) fun _ _ _ _=>rfl))),fun x x0 x1=>?_⟩ (by simp) ?_
  · dsimp only at x1 ⊢
    obtain rfl:x=0:=by omega
    have u:∀ k f (m':OMem),own_U m' k 0 f↔False:=fun k f m'=>⟨fun ⟨a,a0,a1,a2,_⟩=>by rw [own_bt_0 a ⟨a0,by omega⟩] at a2; exact absurd a2 (by decide),False.elim⟩
    have b:∀ f,0≤f→f<32→(own_bt 0 f=1↔False):=fun f f0 f1=>⟨fun z=>by rw [own_bt_0 f ⟨f0,f1⟩] at z; exact absurd z (by decide),False.elim⟩
    have e7:sto (sto (sto (sto m 7 0 0) 8 0 0) 9 0 0) 10 0 1 7 0=0:=by simp [sto]
    have e8:sto (sto (sto (sto m 7 0 0) 8 0 0) 9 0 0) 10 0 1 8 0=0:=by simp [sto]
    have e9:sto (sto (sto (sto m 7 0 0) 8 0 0) 9 0 0) 10 0 1 9 0=0:=by simp [sto]
    rw [e7,e8,e9]
    refine ⟨by decide,by decide,by decide,fun f f0 f1=>?_⟩
    rw [u,u,u,b f f0 f1]
    exact ⟨Iff.rfl,Iff.rfl,Iff.rfl⟩
  · rintro ⟨x,m1⟩ ⟨⟨h1,h2⟩,h3,h4⟩
    dsimp only at h1 h2 h3 h4 ⊢
    unfold f_buildUnions_l37 f_buildUnions_b146 f_buildUnions_b147
    dsimp only
    have L1:own_L4 m1:=fun a a0 a1=>by
      rw [h3 2 a (by decide) (by omega),h3 3 a (by decide) (by omega),h3 4 a (by decide) (by omega)]
      exact L a a0 a1
    refine Ok.ite (fun hx=>Ok.bind (own_low x m1 ⟨h1,hx⟩) ?_) (fun hx=>Ok.ret ⟨h3,by rw [show (16:Int)=x by omega]; exact h4⟩)
    rintro r ⟨hr,hA,hb,ha⟩
    generalize and32 x (w32 (x - 1))=A at hA ha ⊢
    rw [w32_id (z:=x+1) (by omega)]
    have fin:∀ v:Int,(1≤x+1∧x+1≤16)∧own_E m (sto (sto (sto (sto m1 7 x (or32 (m1 7 A) (m1 2 r))) 8 x (or32 (m1 8 A) (m1 3 r))) 9 x (or32 (m1 9 A) (m1 4 r))) 10 x v)∧own_UnN (sto (sto (sto (sto m1 7 x (or32 (m1 7 A) (m1 2 r))) 8 x (or32 (m1 8 A) (m1 3 r))) 9 x (or32 (m1 9 A) (m1 4 r))) 10 x v) (x+1):=fun v=>⟨by omega,own_Es (by decide) (own_Es (by decide) (own_Es (by decide) (own_Es (by decide) h3))),own_unS ⟨h1,hx⟩ L1 hr hA hb ha (fun k i hk=>by
      rw [sto_k _ _ _ _ (by omega),sto_k _ _ _ _ (by omega),sto_k _ _ _ _ (by omega),sto_k _ _ _ _ (by omega)]) (fun i=>by simp [sto]) (fun i=>by simp [sto]) (fun i=>by simp [sto]) h4⟩
    iterate 10 (refine Ok.grd (by omega) ?_)
    refine Ok.ite (fun _=>Ok.grd (by omega) (Ok.ret ?_)) (fun _=>Ok.grd (by omega) (Ok.ite (fun _=>Ok.grd (by omega) (Ok.ret ?_)) (fun _=>Ok.grd (by omega) (Ok.ret ?_))))
    · exact ⟨fin _,by dsimp only; omega⟩
    · exact ⟨fin _,by dsimp only; omega⟩
    · exact ⟨fin _,by dsimp only; omega⟩
/- the search's making -/
theorem own_ps8 (r:Int) (m:OMem) (J:own_J m) (h25:m 0 25=4) (L:own_L4 m):Ok (f_prepareSearch r m) (fun m'=>own_E m m'∧own_UnN m' 16∧∀ i,0≤i→i<9216→m' 17 i=0):=by
  unfold f_prepareSearch
  refine Ok.bind (own_bc m J) fun m1 h1=>?_
  have J1:=own_EJ h1 J
  have L1:own_L4 m1:=fun a a0 a1=>by
    rw [h1 2 a (by decide) (by omega),h1 3 a (by decide) (by omega),h1 4 a (by decide) (by omega)]
    exact L a a0 a1
  refine Ok.bind (own_bu8 m1 ((h1 0 25 (by decide) (by decide)).trans h25) L1) fun m2 h2=>?_
  have J2:=own_EJ h2.1 J1
  refine Ok.bind (own_bg r m2 J2) fun m3 h3=>?_
  have J3:=own_FJ h3 J2
  refine Ok.bind (own_bcd r m3 J3) fun m4 h4=>?_
  refine Ok.bind (own_cm m4) fun m5 h5=>Ok.ret ?_
  have hF:=own_F0 (i:=31) (z:=0) (by decide) (own_Ft (own_Ft h3 h4) h5.1)
  refine ⟨own_Et (own_Et h1 h2.1) (own_FE hF),?_,fun i a b=>?_⟩
  · have e:∀ k,1≤k→k≤10→sto m5 0 31 0 k=m2 k:=fun k k0 k1=>funext fun i=>hF k i k1 (by omega)
    unfold own_UnN own_U
    rw [e 7 (by decide) (by decide),e 8 (by decide) (by decide),e 9 (by decide) (by decide),e 2 (by decide) (by decide),e 3 (by decide) (by decide),e 4 (by decide) (by decide)]
    exact h2.2
  · rw [sto_k _ _ _ _ (by decide)]
    exact h5.2 i a b
/-! the search: what is marked as solved is solved -/
theorem own_six (k g:Int) (m:OMem) (hk:0≤k∧k≤8) (hg:0≤g∧g<1024):f_statusIndex k g m=some (1024*k+g):=by
  obtain ⟨r,e,h⟩:=own_cl1 k 0 8 m (by decide)
  unfold f_statusIndex
  rw [e]
  obtain rfl:r=k:=h.2.2 hk.1 hk.2
  show some _=_
  rw [and32_1023,w32_id (z:=r*1024) (by omega),w32_id (by omega)]
  congr 1
  omega
/- the search leaves all this alone -/
def own_Z (m m':OMem):Prop:=∀ (k:Nat) i,k≤16→¬ (k=0∧i=31)→m' k i=m k i
theorem own_Zt {m m1 m2:OMem} (h:own_Z m m1) (h':own_Z m1 m2):own_Z m m2:=fun k i a b=>(h' k i a b).trans (h k i a b)
def own_Q (m:OMem):Prop:=own_J m∧m 0 25=4∧own_UnN m 16
theorem own_QZ {m m':OMem} (h:own_Z m m') (Q:own_Q m):own_Q m':=by
  obtain ⟨J,e,U⟩:=Q
  have k:∀ k,1≤k→k≤16→m' k=m k:=fun k a b=>funext fun i=>h k i b (by omega)
  refine ⟨?_,(h 0 25 (by decide) (by decide)).trans e,?_⟩
  · unfold own_J
    rw [h 0 24 (by decide) (by decide),h 0 25 (by decide) (by decide),h 0 26 (by decide) (by decide)]
    exact J
  · unfold own_UnN own_U
    rw [k 7 (by decide) (by decide),k 8 (by decide) (by decide),k 9 (by decide) (by decide),k 2 (by decide) (by decide),k 3 (by decide) (by decide),k 4 (by decide) (by decide)]
    exact U
def own_rg (m:OMem) (g x:Int):Int:=or32 (m 7 x) (and32 g (xor32 (m 8 x) (-1)))
def own_okx (m:OMem) (g x:Int):Prop:=and32 (and32 g (xor32 (m 8 x) (-1))) (m 9 x)=0
theorem own_rgZ {m m':OMem} (h:own_Z m m') (g x:Int):own_rg m' g x=own_rg m g x∧(own_okx m' g x↔own_okx m g x):=by
  unfold own_rg own_okx
  rw [h 7 x (by decide) (by omega),h 8 x (by decide) (by omega),h 9 x (by decide) (by omega)]
  exact ⟨rfl,Iff.rfl⟩
theorem own_rgr {m:OMem} (U:own_UnN m 16) {g x:Int} (hg:0≤g∧g<16) (hx:0≤x∧x<16):0≤own_rg m g x∧own_rg m g x<16 :=
  own_or16 _ _ (U x hx.1 hx.2).1 (own_and16 _ _ hg)
def own_Ms (m:OMem):Prop:=(∀ i,0≤i→i<9216→m 17 i=0∨m 17 i=1∨m 17 i=2)∧∀ k g,0≤k→k≤3→0≤g→g<16→m 17 (1024*k+g)=1→(k=0∧own_sub g (m 0 27))∨(1≤k∧(0≤m 18 (1024*k+g)∧m 18 (1024*k+g)<16)∧own_okx m g (m 18 (1024*k+g))∧m 17 (1024*(k - 1)+own_rg m g (m 18 (1024*k+g)))=1)
def own_Sk (K:Int) (m:OMem):Prop:=(0≤m 0 31∧m 0 31≤K)∧∀ j,0≤j→j<m 0 31→m 19 j=K - j∧(0≤m 20 j∧m 20 j<16)∧(0≤m 21 j∧m 21 j≤16)∧m 17 (1024*(K - j)+m 20 j)=0
/- one mark more -/
theorem own_Ms1 {m m':OMem} (U:own_UnN m 16) (M:own_Ms m) {k g:Int} (hk:0≤k∧k≤3) (hg:0≤g∧g<16) (f:∀ (q:Nat) i,¬ ((q=17∨q=18)∧i=1024*k+g)→m' q i=m q i) (h0:m 17 (1024*k+g)=0) (h3:m' 17 (1024*k+g)=0∨m' 17 (1024*k+g)=1∨m' 17 (1024*k+g)=2) (hv:m' 17 (1024*k+g)=1→(k=0∧own_sub g (m 0 27))∨(1≤k∧(0≤m' 18 (1024*k+g)∧m' 18 (1024*k+g)<16)∧own_okx m g (m' 18 (1024*k+g))∧m 17 (1024*(k - 1)+own_rg m g (m' 18 (1024*k+g)))=1)):own_Ms m':=by
  have z:own_Z m m':=fun k' i a b=>f k' i (by omega)
  have z27:=z 0 27 (by decide) (by decide)
  refine ⟨fun i i0 i1=>?_,fun k' g' a b c d e=>?_⟩
  · by_cases q:i=1024*k+g
    · rw [q]; exact h3
    · rw [f 17 i (by omega)]; exact M.1 i i0 i1
  · by_cases q:1024*k'+g'=1024*k+g
    · obtain ⟨rfl,rfl⟩:k'=k∧g'=g:=by omega
      rcases hv e with ⟨x,y⟩ | ⟨x,y1,y2,y3⟩
      · exact Or.inl ⟨x,by rw [z27]; exact y⟩
      · refine Or.inr ⟨x,y1,(own_rgZ z _ _).2.mpr y2,?_⟩
        have:=own_rgr U hg y1
        rw [(own_rgZ z _ _).1,f 17 _ (by omega)]
        exact y3
    · rw [f 17 _ (by omega)] at e
      rcases M.2 k' g' a b c d e with ⟨x,y⟩ | ⟨x,y1,y2,y3⟩
      · exact Or.inl ⟨x,by rw [z27]; exact y⟩
      · rw [f 18 _ (by omega)]
        refine Or.inr ⟨x,y1,(own_rgZ z _ _).2.mpr y2,?_⟩
        rw [(own_rgZ z _ _).1]
        by_cases w:1024*(k' - 1)+own_rg m g' (m 18 (1024*k'+g'))=1024*k+g
        · rw [w] at y3; omega
        · rw [f 17 _ (by omega)]; exact y3
/- the marks don't rest on the stack -/
theorem own_MsS {m m':OMem} (f:∀ (q:Nat) i,q≤18→¬ (q=0∧i=31)→m' q i=m q i) (M:own_Ms m):own_Ms m':=by
  have z:own_Z m m':=fun k' i a b=>f k' i (by omega) b
  have e17:m' 17=m 17:=funext fun i=>f 17 i (by decide) (by omega)
  have e18:m' 18=m 18:=funext fun i=>f 18 i (by decide) (by omega)
  refine ⟨by rw [e17]; exact M.1,fun k g a b c d e=>?_⟩
  rw [e17] at e
  rw [e17,e18,z 0 27 (by decide) (by decide),(own_rgZ z _ _).1,(own_rgZ z _ _).2]
  exact M.2 k g a b c d e
theorem own_gp (k g:Int) (m:OMem) (J:own_J m) (hk:0≤k∧k<9):Ok (f_goalPossible k g m) (fun r=>r=0∨r=1):=by
  unfold f_goalPossible f_goalPossible_b39 f_hasMutexPair
  refine Ok.ite (fun _=>Ok.ret (Or.inl rfl)) (fun _=>Ok.grd hk (Ok.ite (fun _=>Ok.bind (P:=fun _=>True) (Ok.bind (own_mm _ _ _ _ J) fun r _=>Ok.ret trivial) fun r _=>Ok.ite (fun _=>Ok.ret (Or.inr rfl)) (fun _=>Ok.ret (Or.inl rfl))) (fun _=>Ok.ret (Or.inl rfl))))
theorem own_qs {m:OMem} (Q:own_Q m) (M:own_Ms m) (k g:Int) (hk:0≤k∧k≤3) (hg:0≤g∧g<16):Ok (f_quickStatus k g m) (fun r=>own_Ms r.2∧(∀ (q:Nat) i,¬ (q=17∧i=1024*k+g)→r.2 q i=m q i)∧r.1=r.2 17 (1024*k+g)∧(m 17 (1024*k+g)≠0→r.2 17 (1024*k+g)=m 17 (1024*k+g))∧(r.1=0→1≤k)∧(m 17 (1024*k+g)=0→k=0→(r.1=1↔own_sub g (m 0 27)))):=by
  unfold f_quickStatus f_quickStatus_b48 f_quickStatus_b68
  refine Ok.bindE (own_six k g m (by omega) (by omega)) (Ok.grd (by omega) (Ok.ite (fun h0=>?_) (fun h0=>Ok.grd (by omega) (Ok.ret ⟨M,fun _ _ _=>rfl,rfl,fun _=>rfl,fun z=>absurd z h0,fun z=>absurd z h0⟩))))
  have same:∀ v (q:Nat) i,¬ (q=17∧i=1024*k+g)→sto m 17 (1024*k+g) v q i=m q i:=fun v q i h=>by
    simp only [sto]
    rw [if_neg h]
  have at':∀ v,sto m 17 (1024*k+g) v 17 (1024*k+g)=v:=fun v=>by simp [sto]
  refine Ok.ite (fun h1=>Ok.bind (own_gp k g m Q.1 (by omega)) fun r _=>Ok.ite (fun _=>Ok.grd (by omega) (Ok.grd (by omega) (Ok.ret ?_))) (fun _=>Ok.grd (by omega) (Ok.ret ?_))) (fun h1=>Ok.ite (fun h2=>Ok.grd (by omega) (Ok.grd (by omega) (Ok.ret ?_))) (fun h2=>Ok.grd (by omega) (Ok.grd (by omega) (Ok.ret ?_))))
  · dsimp only
    rw [at']
    exact ⟨own_Ms1 Q.2.2 M hk hg (fun q i h=>same 2 q i (by omega)) h0 (by rw [at']; omega) (by rw [at']; exact fun z=>absurd z (by decide)),same 2,rfl,fun z=>absurd h0 z,fun z=>absurd z (by decide),fun _ z=>by omega⟩
  · exact ⟨M,fun _ _ _=>rfl,rfl,fun z=>absurd h0 z,fun _=>by omega,fun _ z=>by omega⟩
  · dsimp only
    rw [at']
    have hk0:k=0:=by omega
    exact ⟨own_Ms1 Q.2.2 M hk hg (fun q i h=>same 1 q i (by omega)) h0 (by rw [at']; omega) (fun _=>Or.inl ⟨hk0,own_subI.mp h2⟩),same 1,rfl,fun z=>absurd h0 z,fun z=>absurd z (by decide),fun _ _=>⟨fun _=>own_subI.mp h2,fun _=>rfl⟩⟩
  · dsimp only
    rw [at']
    exact ⟨own_Ms1 Q.2.2 M hk hg (fun q i h=>same 2 q i (by omega)) h0 (by rw [at']; omega) (by rw [at']; exact fun z=>absurd z (by decide)),same 2,rfl,fun z=>absurd h0 z,fun z=>absurd z (by decide),fun _ _=>⟨fun z=>absurd z (by decide),fun z=>absurd (own_subI.mpr z) h2⟩⟩
theorem own_rec (k g v x:Int) (m:OMem) (hk:0≤k∧k≤8) (hg:0≤g∧g<1024):f_record k g v x m=some (sto (sto m 17 (1024*k+g) v) 18 (1024*k+g) x):=by
  unfold f_record
  rw [own_six k g m hk hg]
  show (if _ then _ else _)=_
  rw [if_pos (by omega),if_pos (by omega)]
/- the next candidate -/
theorem own_bump {m:OMem} {K x:Int} (M:own_Ms m) (S:own_Sk K m) (h:0<m 0 31) (hx:0≤x∧x<16):own_Z m (sto m 21 (m 0 31 - 1) (w32 (x+1)))∧own_Ms (sto m 21 (m 0 31 - 1) (w32 (x+1)))∧own_Sk K (sto m 21 (m 0 31 - 1) (w32 (x+1))):=by
  rw [w32_id (by omega)]
  have f:∀ (q:Nat) i,q≠21→sto m 21 (m 0 31 - 1) (x+1) q i=m q i:=fun q i hq=>sto_k _ _ _ _ hq
  have e21:∀ i,sto m 21 (m 0 31 - 1) (x+1) 21 i=if i=m 0 31 - 1 then x+1 else m 21 i:=fun i=>by simp [sto]
  refine ⟨fun k i a _=>f k i (by omega),own_MsS (fun q i a _=>f q i (by omega)) M,?_⟩
  unfold own_Sk
  rw [f 0 31 (by decide)]
  refine ⟨S.1,fun j j0 j1=>?_⟩
  rw [f 19 j (by decide),f 20 j (by decide),f 17 _ (by decide),e21]
  obtain ⟨a,b,c,d⟩:=S.2 j j0 j1
  refine ⟨a,b,?_,d⟩
  by_cases q:j=m 0 31 - 1
  · rw [if_pos q]; omega
  · rw [if_neg q]; exact c
/- the top is done with -/
theorem own_popx {m:OMem} {K v x:Int} (hK:K≤3) (U:own_UnN m 16) (M:own_Ms m) (S:own_Sk K m) (h:0<m 0 31) (hv:v=2∨(v=1∧(0≤x∧x<16)∧own_okx m (m 20 (m 0 31 - 1)) x∧m 17 (1024*(K - (m 0 31 - 1) - 1)+own_rg m (m 20 (m 0 31 - 1)) x)=1)):own_Z m (sto (sto (sto m 17 (1024*(K - (m 0 31 - 1))+m 20 (m 0 31 - 1)) v) 18 (1024*(K - (m 0 31 - 1))+m 20 (m 0 31 - 1)) x) 0 31 (m 0 31 - 1))∧own_Ms (sto (sto (sto m 17 (1024*(K - (m 0 31 - 1))+m 20 (m 0 31 - 1)) v) 18 (1024*(K - (m 0 31 - 1))+m 20 (m 0 31 - 1)) x) 0 31 (m 0 31 - 1))∧own_Sk K (sto (sto (sto m 17 (1024*(K - (m 0 31 - 1))+m 20 (m 0 31 - 1)) v) 18 (1024*(K - (m 0 31 - 1))+m 20 (m 0 31 - 1)) x) 0 31 (m 0 31 - 1)):=by
  obtain ⟨t1,t2,t3,t4⟩:=S.2 (m 0 31 - 1) (by omega) (by omega)
  have s1:=S.1
  generalize hk:K - (m 0 31 - 1)=k at *
  generalize hg:m 20 (m 0 31 - 1)=g at *
  generalize hm:sto (sto m 17 (1024*k+g) v) 18 (1024*k+g) x=m1
  have f:∀ (q:Nat) i,¬ ((q=17∨q=18)∧i=1024*k+g)→m1 q i=m q i:=fun q i hq=>by
    rw [← hm]
    simp only [sto]
    rw [if_neg (by omega),if_neg (by omega)]
  have a17:m1 17 (1024*k+g)=v:=by rw [← hm]; simp [sto]
  have a18:m1 18 (1024*k+g)=x:=by rw [← hm]; simp [sto]
  have M1:own_Ms m1:=own_Ms1 U M (by omega) t2 f t4 (by rw [a17]; omega) (fun e=>by
    rw [a17] at e
    rw [a18]
    rcases hv with hv | ⟨_,b,c,d⟩
    · omega
    · exact Or.inr ⟨by omega,b,c,d⟩)
  have g1:∀ (q:Nat) i,¬ (q=0∧i=31)→sto m1 0 31 (m 0 31 - 1) q i=m1 q i:=fun q i hq=>by
    simp only [sto]
    rw [if_neg hq]
  refine ⟨fun q i a b=>(g1 q i b).trans (f q i (by omega)),own_MsS (fun q i a b=>g1 q i b) M1,?_⟩
  have e31:sto m1 0 31 (m 0 31 - 1) 0 31=m 0 31 - 1:=by simp [sto]
  unfold own_Sk
  rw [e31]
  refine ⟨by omega,fun j j0 j1=>?_⟩
  obtain ⟨p1,p2,p3,p4⟩:=S.2 j j0 (by omega)
  rw [g1 19 j (by omega),g1 20 j (by omega),g1 21 j (by omega),g1 17 _ (by omega),f 19 j (by omega),f 20 j (by omega),f 21 j (by omega),f 17 _ (by omega)]
  exact ⟨p1,p2,p3,p4⟩
theorem own_step {m:OMem} {K:Int} (hK:K≤3) (Q:own_Q m) (M:own_Ms m) (S:own_Sk K m) (h:0<m 0 31):Ok (f_searchStep 16 m) (fun m'=>own_Z m m'∧own_Ms m'∧own_Sk K m'):=by
  have s1:=S.1
  obtain ⟨e19,g20,x21,z17⟩:=S.2 (m 0 31 - 1) (by omega) (by omega)
  unfold f_searchStep f_searchStep_b17 f_searchStep_b93 f_searchStep_b186
  rw [w32_id (z:=m 0 31 - 1) (by omega)]
  refine Ok.neg (by omega) (Ok.pos (by omega) (Ok.grd (by omega) (Ok.grd (by omega) (Ok.grd (by omega) (Ok.ite (fun hx=>?_) (fun hx=>?_))))))
  · rw [e19]
    have bmp:=own_bump M S h ⟨x21.1,hx⟩
    refine Ok.bindE (own_six _ _ m (by omega) (by omega)) (Ok.grd (by omega) (Ok.ite (fun _=>Ok.grd (by omega) (Ok.ret bmp)) (fun _=>?_)))
    unfold f_regressOk f_regressOk_b25 f_regress
    rw [if_pos (by omega),if_pos (by omega)]
    by_cases hok:and32 (and32 (m 20 (m 0 31 - 1)) (xor32 (m 8 (m 21 (m 0 31 - 1))) (-1))) (m 9 (m 21 (m 0 31 - 1)))=0
    · rw [if_pos hok]
      refine Ok.bindE rfl (Ok.neg (by decide) ?_)
      rw [if_pos (by omega),if_pos (by omega)]
      refine Ok.bindE rfl ?_
      have rr:=own_rgr Q.2.2 g20 ⟨x21.1,hx⟩
      rw [show or32 (m 7 (m 21 (m 0 31 - 1))) (and32 (m 20 (m 0 31 - 1)) (xor32 (m 8 (m 21 (m 0 31 - 1))) (-1)))=own_rg m (m 20 (m 0 31 - 1)) (m 21 (m 0 31 - 1)) from rfl,w32_id (z:=K - (m 0 31 - 1) - 1) (by omega)]
      generalize hr:own_rg m (m 20 (m 0 31 - 1)) (m 21 (m 0 31 - 1))=r at rr ⊢
      refine Ok.bind (own_qs Q M (K - (m 0 31 - 1) - 1) r (by omega) rr) ?_
      rintro ⟨c,m1⟩ ⟨M1,f,ec,hn,h0,-⟩
      dsimp only at M1 f ec hn h0 ⊢
      have Z1:own_Z m m1:=fun q i a b=>f q i (by omega)
      have e31:m1 0 31=m 0 31:=f 0 31 (by omega)
      have S1:own_Sk K m1:=by
        unfold own_Sk
        rw [e31]
        refine ⟨s1,fun j j0 j1=>?_⟩
        obtain ⟨p1,p2,p3,p4⟩:=S.2 j j0 j1
        rw [f 19 j (by omega),f 20 j (by omega),f 21 j (by omega),f 17 _ (by omega)]
        exact ⟨p1,p2,p3,p4⟩
      have Q1:=own_QZ Z1 Q
      refine Ok.ite (fun hc=>?_) (fun hc=>Ok.ite (fun hc2=>Ok.grd (by omega) (Ok.ret ?_)) (fun hc2=>?_))
      · refine Ok.bindE (own_rec _ _ _ _ m1 (by omega) (by omega)) (Ok.ret ?_)
        have pp:=own_popx (v:=1) (x:=m 21 (m 0 31 - 1)) hK Q1.2.2 M1 S1 (by omega) (Or.inr ⟨rfl,⟨x21.1,hx⟩,by rw [f 20 _ (by omega),e31,(own_rgZ Z1 _ _).2]; exact hok,by rw [f 20 _ (by omega),e31,(own_rgZ Z1 _ _).1,hr,← ec]; exact hc⟩)
        rw [e31,f 20 _ (by omega)] at pp
        exact ⟨own_Zt Z1 pp.1,pp.2⟩
      · have b1:=own_bump (x:=m 21 (m 0 31 - 1)) M1 S1 (by omega) ⟨x21.1,hx⟩
        rw [e31] at b1
        exact ⟨own_Zt Z1 b1.1,b1.2⟩
      · have c3:=M1.1 (1024*(K - (m 0 31 - 1) - 1)+r) (by omega) (by omega)
        have c0:c=0:=by omega
        have k1:=h0 c0
        unfold f_push f_push_b16
        rw [e31]
        rw [if_neg (show ¬ m 0 31<0 by omega),if_pos (show m 0 31<10 by omega),if_pos (show 0≤m 0 31∧m 0 31<10 by omega),if_pos (show 0≤m 0 31∧m 0 31<10 by omega),if_pos (show 0≤m 0 31∧m 0 31<10 by omega),w32_id (z:=m 0 31+1) (by omega)]
        refine Ok.bindE rfl (Ok.neg (by dsimp only; decide) (Ok.ret ?_))
        dsimp only
        generalize hm:sto (sto (sto (sto m1 19 (m 0 31) (K - (m 0 31 - 1) - 1)) 20 (m 0 31) r) 21 (m 0 31) 0) 0 31 (m 0 31+1)=m2
        have q:∀ (q:Nat) i,¬ (q=0∧i=31)→¬ ((q=19∨q=20∨q=21)∧i=m 0 31)→m2 q i=m1 q i:=fun q i u w=>by
          rw [← hm]
          simp only [sto]
          rw [if_neg u,if_neg (by omega),if_neg (by omega),if_neg (by omega)]
        have a31:m2 0 31=m 0 31+1:=by rw [← hm]; simp [sto]
        have a19:m2 19 (m 0 31)=K - (m 0 31 - 1) - 1:=by rw [← hm]; simp [sto]
        have a20:m2 20 (m 0 31)=r:=by rw [← hm]; simp [sto]
        have a21:m2 21 (m 0 31)=0:=by rw [← hm]; simp [sto]
        refine ⟨own_Zt Z1 fun k i a b=>q k i b (by omega),own_MsS (fun k i a b=>q k i b (by omega)) M1,?_⟩
        unfold own_Sk
        rw [a31]
        refine ⟨by omega,fun j j0 j1=>?_⟩
        by_cases w:j=m 0 31
        · rw [w,a19,a20,a21,q 17 _ (by omega) (by omega),show K - m 0 31=K - (m 0 31 - 1) - 1 by omega,← ec]
          exact ⟨rfl,rr,by decide,c0⟩
        · obtain ⟨p1,p2,p3,p4⟩:=S1.2 j j0 (by omega)
          rw [q 19 j (by omega) (by omega),q 20 j (by omega) (by omega),q 21 j (by omega) (by omega),q 17 _ (by omega) (by omega)]
          exact ⟨p1,p2,p3,p4⟩
    · rw [if_neg hok]
      exact Ok.bindE rfl (Ok.pos rfl (Ok.grd (by omega) (Ok.ret bmp)))
  · rw [e19]
    exact Ok.bindE (own_rec _ _ _ _ m (by omega) (by omega)) (Ok.ret (own_popx hK Q.2.2 M S h (Or.inl rfl)))
theorem own_sv8 {m:OMem} (Q:own_Q m) (M:own_Ms m) (k g:Int) (hk:0≤k∧k≤3) (hg:0≤g∧g<16):Ok (f_solvable k g m) (fun r=>own_Z m r.2∧own_Ms r.2∧(r.1=0∨(r.1=1∧r.2 17 (1024*k+g)=1))∧(m 17 (1024*k+g)=0→k=0→(r.1=1↔own_sub g (m 0 27)))):=by
  unfold f_solvable f_solvable_b21
  refine Ok.bind (own_qs Q M k g hk hg) ?_
  rintro ⟨c,m1⟩ ⟨M1,f,ec,hn,h0,hs⟩
  dsimp only at M1 f ec hn h0 hs ⊢
  have Z1:own_Z m m1:=fun q i a b=>f q i (by omega)
  have Q1:=own_QZ Z1 Q
  refine Ok.ite (fun hc=>?_) (fun hc=>Ok.ite (fun hc1=>Ok.ret ⟨Z1,M1,Or.inr ⟨rfl,by dsimp only; rw [← ec]; exact hc1⟩,fun a b=>⟨fun _=>(hs a b).mp hc1,fun _=>rfl⟩⟩) (fun hc1=>Ok.ret ⟨Z1,M1,Or.inl rfl,fun a b=>⟨fun z=>absurd z (by dsimp only; decide),fun z=>absurd ((hs a b).mpr z) hc1⟩⟩))
  have k1:=h0 hc
  have e31:sto m1 0 31 0 0 31=0:=by simp [sto]
  have p:f_push k g (sto m1 0 31 0)=some (1,sto (sto (sto (sto (sto m1 0 31 0) 19 0 k) 20 0 g) 21 0 0) 0 31 1):=by
    unfold f_push
    rw [e31]
    rfl
  refine Ok.bindE p ?_
  dsimp only
  generalize hm:sto (sto (sto (sto (sto m1 0 31 0) 19 0 k) 20 0 g) 21 0 0) 0 31 1=m2
  have q:∀ (q:Nat) i,¬ (q=0∧i=31)→¬ ((q=19∨q=20∨q=21)∧i=0)→m2 q i=m1 q i:=fun q i u w=>by
    rw [← hm]
    simp only [sto]
    rw [if_neg u,if_neg (by omega),if_neg (by omega),if_neg (by omega),if_neg u]
  have a31:m2 0 31=1:=by rw [← hm]; simp [sto]
  have a19:m2 19 0=k:=by rw [← hm]; simp [sto]
  have a20:m2 20 0=g:=by rw [← hm]; simp [sto]
  have a21:m2 21 0=0:=by rw [← hm]; simp [sto]
  have Z2:own_Z m m2:=own_Zt Z1 fun k i a b=>q k i b (by omega)
  have M2:own_Ms m2:=own_MsS (fun k i a b=>q k i b (by omega)) M1
  have S2:own_Sk k m2:=by
    unfold own_Sk
    rw [a31]
    refine ⟨by omega,fun j j0 j1=>?_⟩
    obtain rfl:j=0:=by omega
    rw [a19,a20,a21,q 17 _ (by omega) (by omega),Int.sub_zero,← ec]
    exact ⟨rfl,hg,by decide,hc⟩
  rw [(own_QZ Z2 Q).2.1,show shl32 1 4=16 from by decide +kernel]
  refine Ok.bind (P:=fun m'=>own_Z m m'∧own_Ms m') ?_ ?_
  · refine Ok.loop (fun s=>0≤s.1∧own_Z m s.2∧own_Ms s.2∧own_Sk k s.2) (fun s=>(40000000 - s.1).toNat) ⟨by simp,Z2,M2,S2⟩ (by simp) ?_
    rintro ⟨x,m3⟩ ⟨x0,Z3,M3,S3⟩
    dsimp only at x0 Z3 M3 S3 ⊢
    unfold f_solvable_l45
    dsimp only
    refine Ok.ite (fun hx=>Ok.ite (fun h=>Ok.bind (own_step hk.2 (own_QZ Z3 Q) M3 S3 h) ?_) (fun h=>Ok.ret ⟨Z3,M3⟩)) (fun hx=>Ok.ret ⟨Z3,M3⟩)
    rintro m4 ⟨Z4,M4,S4⟩
    rw [w32_id (by omega)]
    exact Ok.ret ⟨⟨by dsimp only; omega,own_Zt Z3 Z4,M4,S4⟩,by dsimp only; omega⟩
  · rintro m3 ⟨Z3,M3⟩
    unfold f_solvable_b71 f_solvable_b96
    refine Ok.bindE (own_six k g _ (by omega) (by omega)) (Ok.grd (by omega) ?_)
    have g1:∀ (q:Nat) i,¬ (q=0∧i=31)→sto m3 0 31 0 q i=m3 q i:=fun q i hq=>by
      simp only [sto]
      rw [if_neg hq]
    have Z4:own_Z m (sto m3 0 31 0):=own_Zt Z3 fun q i a b=>g1 q i b
    have M4:own_Ms (sto m3 0 31 0):=own_MsS (fun q i a b=>g1 q i b) M3
    refine Ok.ite (fun h=>Ok.ret ⟨Z4,M4,Or.inr ⟨rfl,by dsimp only; rw [g1 17 _ (by omega)]; exact h⟩,fun _ z=>by omega⟩) (fun h=>Ok.ret ⟨Z4,M4,Or.inl rfl,fun _ z=>by omega⟩)
/-! the plan -/
def own_PL (m:OMem) (t:Int):Prop:=∃ G:Int→Int,G t=m 0 28∧own_sub (G 0) (m 0 27)∧∀ j,1≤j→j≤t→(0≤m 1 j∧m 1 j<16)∧(∀ f,0≤f→f<32→own_U m 2 (m 1 j) f→own_bt (G (j - 1)) f=1)∧(∀ f,0≤f→f<32→own_bt (G j) f=1→own_U m 3 (m 1 j) f∨(own_bt (G (j - 1)) f=1∧¬ own_U m 4 (m 1 j) f))
/- regression,by facts -/
theorem own_rgb {m:OMem} (U:own_UnN m 16) {g x:Int} (hx:0≤x∧x<16) (hok:own_okx m g x):(∀ f,0≤f→f<32→own_U m 2 x f→own_bt (own_rg m g x) f=1)∧(∀ f,0≤f→f<32→own_bt g f=1→own_U m 3 x f∨(own_bt (own_rg m g x) f=1∧¬ own_U m 4 x f)):=by
  obtain ⟨-,-,-,u⟩:=U x hx.1 hx.2
  refine ⟨fun f f0 f1 h=>?_,fun f f0 f1 h=>?_⟩
  · unfold own_rg
    rw [own_or1 f0 f1]
    exact Or.inl ((u f f0 f1).1.mpr h)
  · by_cases q:own_U m 3 x f
    · exact Or.inl q
    · have n8:¬ own_bt (m 8 x) f=1:=fun z=>q ((u f f0 f1).2.1.mp z)
      have a:=(own_andn (a:=g) (b:=m 8 x) f0 f1).mpr ⟨h,n8⟩
      refine Or.inr ⟨?_,fun z=>?_⟩
      · unfold own_rg
        rw [own_or1 f0 f1]
        exact Or.inr a
      · have e:=own_bt_and (and32 g (xor32 (m 8 x) (-1))) (m 9 x) f ⟨f0,f1⟩
        unfold own_okx at hok
        rw [hok,own_bt_0 f ⟨f0,f1⟩,if_pos ⟨a,(u f f0 f1).2.2.mpr z⟩] at e
        exact absurd e (by decide)
theorem own_xp {m:OMem} (Q:own_Q m) (M:own_Ms m) (t:Int) (ht:0≤t∧t≤3) (hg:0≤m 0 28∧m 0 28<16) (h1:m 17 (1024*t+m 0 28)=1):Ok (f_extractPlan t m) (fun m'=>(∀ (k:Nat) i,k≠1→m' k i=m k i)∧own_PL m' t):=by
  unfold f_extractPlan
  refine Ok.bind (own_cp m) fun m1 e1=>?_
  refine Ok.bind (own_cl1 t 0 8 m1 (by decide)) fun r hr=>?_
  obtain rfl:r=t:=hr.2.2 (by omega) (by omega)
  rw [e1 0 28 (by decide)]
  refine Ok.bind (P:=fun m'=>(∀ (k:Nat) i,k≠1→m' k i=m k i)∧own_PL m' r) ?_ fun m2 h2=>Ok.ret h2
  refine Ok.loop (fun s=>(0≤s.2.1∧s.2.1≤r)∧(0≤s.1∧s.1<16)∧(∀ (k:Nat) i,k≠1→s.2.2 k i=m k i)∧m 17 (1024*s.2.1+s.1)=1∧∃ G:Int→Int,G r=m 0 28∧G s.2.1=s.1∧∀ j,s.2.1<j→j≤r→(0≤s.2.2 1 j∧s.2.2 1 j<16)∧own_okx m (G j) (s.2.2 1 j)∧G (j - 1)=own_rg m (G j) (s.2.2 1 j)) (fun s=>s.2.1.toNat) ⟨by dsimp only; omega,hg,e1,h1,fun _=>m 0 28,rfl,rfl,fun j a b=>by dsimp only at a; omega⟩ (by dsimp only; omega) ?_
  rintro ⟨g,k,m2⟩ ⟨k01,g01,e2,hm,G,G1,G2,G3⟩
  dsimp only at k01 g01 e2 hm G2 G3 ⊢
  unfold f_extractPlan_l18
  dsimp only
  refine Ok.ite (fun h=>Ok.ret ?_) (fun h=>?_)
  · obtain rfl:k=0:=by omega
    rcases M.2 0 g (by decide) (by decide) g01.1 g01.2 hm with ⟨-,s⟩ | ⟨z,-⟩
    · refine ⟨e2,G,by rw [e2 0 28 (by decide)]; exact G1,by rw [e2 0 27 (by decide),G2]; exact s,fun j j0 j1=>?_⟩
      obtain ⟨a,b,c⟩:=G3 j (by omega) j1
      obtain ⟨u,v⟩:=own_rgb Q.2.2 a b
      have ek:∀ k,k≠1→m2 k=m k:=fun k hk=>funext fun i=>e2 k i hk
      unfold own_U at u v ⊢
      rw [ek 2 (by decide),ek 3 (by decide),ek 4 (by decide),c]
      exact ⟨a,u,v⟩
    · omega
  · refine Ok.bindE (own_six k g m2 (by omega) (by omega)) (Ok.grd (by omega) (Ok.grd (by omega) ?_))
    rw [e2 18 _ (by decide)]
    rcases M.2 k g (by omega) (by omega) g01.1 g01.2 hm with ⟨z,-⟩ | ⟨-,x01,hok,hc⟩
    · omega
    generalize m 18 (1024*k+g)=x at x01 hok hc ⊢
    have rr:=own_rgr Q.2.2 g01 x01
    unfold f_regress
    rw [if_pos (by omega),if_pos (by omega),sto_k _ _ _ _ (show (7:Nat)≠1 by decide),sto_k _ _ _ _ (show (8:Nat)≠1 by decide),e2 7 x (by decide),e2 8 x (by decide),w32_id (z:=k+-1) (by omega)]
    refine Ok.bindE rfl (Ok.ret ?_)
    dsimp only
    rw [show or32 (m 7 x) (and32 g (xor32 (m 8 x) (-1)))=own_rg m g x from rfl,show k+-1=k - 1 by omega]
    refine ⟨⟨by omega,rr,fun q i hq=>by rw [sto_k _ _ _ _ hq]; exact e2 q i hq,hc,fun j=>if j=k - 1 then own_rg m g x else G j,?_,if_pos rfl,fun j j0 j1=>?_⟩,by omega⟩
    · dsimp only
      rw [if_neg (by omega)]; exact G1
    · have e1j:sto m2 1 k x 1 j=if j=k then x else m2 1 j:=by simp [sto]
      dsimp only
      rw [e1j,if_neg (show ¬ j=k - 1 by omega)]
      by_cases w:j=k
      · rw [if_pos w,w,if_pos rfl,G2]
        exact ⟨x01,hok,rfl⟩
      · rw [if_neg w,if_neg (by omega)]
        exact G3 j (by omega) j1
/- what solve answers -/
theorem own_solve8 {m:OMem} (x:Int) (J:own_J m) (h25:m 0 25=4) (h26:m 0 26=3) (L:own_L4 m) (hg:0≤m 0 28∧m 0 28<16):Ok (f_solve x m) (fun r=>(∀ (k:Nat) i,((k=0∧i≠30∧i≠31∧i≠32)∨(2≤k∧k≤4))→r.2 k i=m k i)∧r.2 0 30=r.1∧((r.1=-1∧¬ own_sub (m 0 28) (m 0 27))∨(0≤r.1∧r.1≤3∧(r.1=0∨r.1≤x)∧(r.1=0↔own_sub (m 0 28) (m 0 27))∧own_PL r.2 r.1))):=by
  unfold f_solve
  refine Ok.bind (P:=fun r=>0≤r∧r≤3∧(r=0∨r≤x)) (by
    unfold f_clamp
    rw [h26]
    exact Ok.ite (fun _=>Ok.ret (by omega)) (fun _=>Ok.ite (fun _=>Ok.ret (by omega)) (fun _=>Ok.ret (by omega)))) ?_
  rintro lim ⟨l0,l1,l2⟩
  refine Ok.bind (own_ps8 lim m J h25 L) ?_
  rintro m1 ⟨E1,U1,Z1⟩
  have Q1:own_Q m1:=⟨own_EJ E1 J,(E1 0 25 (by decide) (by decide)).trans h25,U1⟩
  have e27:=E1 0 27 (by decide) (by decide)
  have e28:=E1 0 28 (by decide) (by decide)
  have M1:own_Ms m1:=⟨fun i a b=>Or.inl (Z1 i a b),fun k g a b c d e=>by rw [Z1 _ (by omega) (by omega)] at e; exact absurd e (by decide)⟩
  refine Ok.bind (P:=fun e=>match e with | .inl (t,m2)=>(0≤t∧t≤lim)∧own_Z m1 m2∧own_Ms m2∧m2 17 (1024*t+m 0 28)=1∧(t=0↔own_sub (m 0 28) (m 0 27)) | .inr m2=>own_Z m1 m2∧¬ own_sub (m 0 28) (m 0 27)) ?_ ?_
  · refine Ok.loop (fun s=>(0≤s.1∧s.1≤lim+1)∧own_Z m1 s.2∧own_Ms s.2∧(s.1=0→s.2 17 (m 0 28)=0)∧(1≤s.1→¬ own_sub (m 0 28) (m 0 27))) (fun s=>(lim+1 - s.1).toNat) ⟨by dsimp only; omega,fun _ _ _ _=>rfl,M1,fun _=>Z1 _ (by omega) (by omega),fun z=>by dsimp only at z; omega⟩ (by dsimp only; omega) ?_
    rintro ⟨t,m2⟩ ⟨t01,Z2,M2,z0,z1⟩
    dsimp only at t01 Z2 M2 z0 z1 ⊢
    unfold f_solve_l18
    dsimp only
    have f28:m2 0 28=m 0 28:=(Z2 0 28 (by decide) (by decide)).trans e28
    have f27:m2 0 27=m 0 27:=(Z2 0 27 (by decide) (by decide)).trans e27
    rw [f28]
    refine Ok.ite (fun h=>Ok.ret ⟨Z2,z1 (by omega)⟩) (fun h=>Ok.bind (own_sv8 (own_QZ Z2 Q1) M2 t (m 0 28) (by omega) hg) ?_)
    rintro ⟨r,m3⟩ ⟨Z3,M3,hr,hs⟩
    dsimp only at Z3 M3 hr hs ⊢
    rw [f27] at hs
    refine Ok.ite (fun hr0=>Ok.ret ?_) (fun hr0=>Ok.ret ?_)
    · dsimp only
      rw [w32_id (by omega)]
      refine ⟨⟨by omega,own_Zt Z2 Z3,M3,fun z=>by omega,fun _=>?_⟩,by omega⟩
      by_cases q:t=0
      · intro z
        have:=(hs (by rw [q]; simpa using z0 q) q).mpr z
        omega
      · exact z1 (by omega)
    · rcases hr with hr | ⟨hr,hm⟩
      · exact absurd hr hr0
      · refine ⟨⟨by omega,by omega⟩,own_Zt Z2 Z3,M3,hm,?_⟩
        by_cases q:t=0
        · have:=hs (by rw [q]; simpa using z0 q) q
          exact ⟨fun _=>this.mp hr,fun _=>q⟩
        · exact ⟨fun z=>absurd z q,fun z=>absurd z (z1 (by omega))⟩
  · intro e he
    cases e with
    | inl z =>
      obtain ⟨t,m2⟩:=z
      obtain ⟨t01,Z2,M2,hm,ht⟩:=he
      dsimp only
      have f28:m2 0 28=m 0 28:=(Z2 0 28 (by decide) (by decide)).trans e28
      have f27:m2 0 27=m 0 27:=(Z2 0 27 (by decide) (by decide)).trans e27
      refine Ok.bind (own_xp (own_QZ Z2 Q1) M2 t (by omega) (by rw [f28]; exact hg) (by rw [f28]; exact hm)) ?_
      rintro m3 ⟨e3,P3⟩
      have g:∀ (k:Nat) i,¬ (k=0∧i=30)→sto m3 0 30 t k i=m3 k i:=fun k i hk=>by
        simp only [sto]
        rw [if_neg hk]
      refine Ok.ret ⟨fun k i hk=>?_,by simp [sto],Or.inr ⟨t01.1,by omega,by omega,ht,?_⟩⟩
      · dsimp only
        rw [g k i (by omega),e3 k i (by omega),Z2 k i (by omega) (by omega)]
        exact E1 k i (by omega) (by omega)
      · dsimp only
        have gk:∀ k,k≠0→sto m3 0 30 t k=m3 k:=fun k hk=>funext fun i=>g k i (by omega)
        unfold own_PL own_U at P3 ⊢
        rw [g 0 28 (by decide),g 0 27 (by decide),gk 1 (by decide),gk 2 (by decide),gk 3 (by decide),gk 4 (by decide)]
        exact P3
    | inr m2 =>
      obtain ⟨Z2,hn⟩:=he
      dsimp only
      refine Ok.bind (own_cp m2) fun m3 e3=>Ok.ret ⟨fun k i hk=>?_,by simp [sto],Or.inl ⟨rfl,hn⟩⟩
      dsimp only
      have g:sto m3 0 30 (-1) k i=m3 k i:=by
        simp only [sto]
        rw [if_neg (by omega)]
      rw [g,e3 k i (by omega),Z2 k i (by omega) (by omega)]
      exact E1 k i (by omega) (by omega)
/-! bits of longs -/
def own_L (x:Int):BitVec 64:=(Int64.ofInt x).toBitVec
theorem own_L_or (a b:Int):own_L (or64 a b)=own_L a ||| own_L b:=by
  unfold own_L or64; rw [Int64.ofInt_toInt]; rfl
theorem own_L_and (a b:Int):own_L (and64 a b)=own_L a &&& own_L b:=by
  unfold own_L and64; rw [Int64.ofInt_toInt]; rfl
theorem own_L_not (a:Int):own_L (xor64 a (-1)) = ~~~ own_L a:=by
  unfold own_L xor64
  rw [Int64.ofInt_toInt,Int64.toBitVec_xor,show (Int64.ofInt (-1)).toBitVec=BitVec.allOnes 64 from by decide,BitVec.xor_allOnes]
theorem own_L_sh:∀ k:Fin 64,own_L (shl64 1 (k.val:Int))=BitVec.twoPow 64 k.val:=by decide +kernel
def own_lb (x j:Int):Prop:=(own_L x).getLsbD j.toNat=true
theorem own_L_s (k:Int) (h:0≤k∧k<64):own_L (shl64 1 k)=BitVec.twoPow 64 k.toNat:=by
  have:=own_L_sh ⟨k.toNat,by omega⟩
  simp only [Int.toNat_of_nonneg h.1] at this
  exact this
theorem own_lb_or (x k j:Int) (hk:0≤k∧k<64) (hj:0≤j∧j<64):own_lb (or64 x (shl64 1 k)) j↔own_lb x j∨j=k:=by
  unfold own_lb
  have h1:k.toNat<64:=by omega
  have h2:k.toNat=j.toNat↔j=k:=by omega
  rw [own_L_or,own_L_s k hk,BitVec.getLsbD_or,BitVec.getLsbD_twoPow]
  simp only [Bool.or_eq_true,Bool.and_eq_true,decide_eq_true_eq,h1,true_and,h2]
theorem own_lb_cl (x k j:Int) (hk:0≤k∧k<64) (hj:0≤j∧j<64):own_lb (and64 x (xor64 (shl64 1 k) (-1))) j↔own_lb x j∧j≠k:=by
  unfold own_lb
  have h1:k.toNat<64:=by omega
  have h3:j.toNat<64:=by omega
  have h2:k.toNat=j.toNat↔j=k:=by omega
  rw [own_L_and,own_L_not,own_L_s k hk,BitVec.getLsbD_and,BitVec.getLsbD_not,BitVec.getLsbD_twoPow]
  simp only [Bool.and_eq_true,Bool.not_eq_true',Bool.and_eq_false_imp,decide_eq_true_eq,decide_eq_false_iff_not,h1,h3,true_and,h2,true_implies,ne_eq]
theorem own_sdec:∀ i:Fin 57,(((Int32.ofInt (i.val:Int)).toInt64.toUInt64 &&& Int64.toUInt64 63).toBitVec % 64).toNat=i.val:=by decide +kernel
/-! the law's own lists -/
theorem own_m31 (x s i:Int) (hs:0≤s∧s≤56) (hi:0≤i∧i<32):(own_bt (w32 (and64 (ushr64 x s) 15)) i=1↔i<4∧own_lb x (s+i))∧0≤w32 (and64 (ushr64 x s) 15)∧w32 (and64 (ushr64 x s) 15)<16:=by
  rw [show s=((s.toNat:Nat):Int) by omega]
  generalize hs':s.toNat=z
  have e:and64 (ushr64 x (z:Int)) 15=(((own_L x >>> z) &&& 15#64)).toInt:=by
    have h:=own_sdec ⟨z,by omega⟩
    dsimp only at h
    have e:and64 (ushr64 x (z:Int)) 15=(Int64.ofInt (ushr64 x (z:Int)) &&& Int64.ofInt 15).toInt:=rfl
    rw [e]
    unfold ushr64
    rw [Int64.ofInt_toInt]
    have g:(Jvm.Free.XT.ushrL (Int64.ofInt x) (Int32.ofInt (z:Int)) &&& Int64.ofInt 15).toInt=(((Int64.ofInt x).toBitVec >>> (((Int32.ofInt (z:Int)).toInt64.toUInt64 &&& Int64.toUInt64 63).toBitVec % 64).toNat) &&& (Int64.ofInt 15).toBitVec).toInt:=rfl
    rw [g,h]
    rfl
  rw [e]
  have gb:((own_L x >>> z) &&& 15#64).getLsbD i.toNat=((own_L x).getLsbD (z+i.toNat) && decide (i.toNat<4)):=by
    rw [BitVec.getLsbD_and,BitVec.getLsbD_ushiftRight,show (15#64)=BitVec.ofNat 64 (2 ^ 4 - 1) from rfl,BitVec.getLsbD_ofNat,Nat.testBit_two_pow_sub_one]
    congr 1
    have h64:i.toNat<64:=by omega
    rw [decide_eq_true h64,Bool.true_and]
  have lt:((own_L x >>> z) &&& 15#64).toNat≤15:=by
    rw [BitVec.toNat_and]
    exact Nat.and_le_right
  generalize (own_L x >>> z) &&& 15#64=y at gb lt
  have ti:y.toInt=(y.toNat:Int):=BitVec.toInt_eq_toNat_of_lt (by omega)
  rw [ti,w32_id (by omega)]
  refine ⟨?_,by omega,by omega⟩
  rw [own_btT hi]
  have eb:own_B (y.toNat:Int)=BitVec.ofNat 32 y.toNat:=by
    unfold own_B
    rw [show (Int32.ofInt (y.toNat:Int)).toBitVec=BitVec.ofInt 32 (y.toNat:Int) from rfl,BitVec.ofInt_natCast]
  rw [eb,BitVec.getLsbD_ofNat,show y.toNat.testBit i.toNat=y.getLsbD i.toNat from rfl,gb]
  unfold own_lb
  have h32:i.toNat<32:=by omega
  have h8:i.toNat<4↔i<4:=by omega
  rw [show ((z:Int)+i).toNat=z+i.toNat by omega]
  simp only [Bool.and_eq_true,decide_eq_true_eq,h32,true_and,h8]
  exact And.comm
def own_ls (y:Int) (m:OMem):Prop:=∀ (q:Nat) a f,2≤q→q≤4→0≤a→a<4→0≤f→f<4→(own_lb y (12*a+4*((q:Int) - 2)+f)↔own_bt (m q a) f=1)
theorem own_lm (sl:Int) (sc:Int→Int) {y:Int} {m:OMem} (L:own_L4 m) (H:own_ls y m) (m':OMem) (a:Int) (ha:0≤a∧a<4) (q:Nat) (hq:2≤q∧q≤4):l_m sl sc y a ((q:Int) - 2) m'=some (m q a):=by
  unfold l_m
  rw [w32_id (z:=a*12) (by omega),w32_id (z:=((q:Int) - 2)*4) (by omega),w32_id (z:=a*12+((q:Int) - 2)*4) (by omega)]
  congr 1
  have r:0≤m q a∧m q a<16:=by
    obtain ⟨l2,l3,l4⟩:=L a ha.1 ha.2
    have:q=2∨q=3∨q=4:=by omega
    rcases this with rfl | rfl | rfl
    · exact l2
    · exact l3
    · exact l4
  have z:=(own_m31 y (a*12+((q:Int) - 2)*4) 0 (by omega) (by decide)).2
  refine own_ext (by omega) (by omega) fun i i0 i1=>?_
  have e:=(own_m31 y (a*12+((q:Int) - 2)*4) i (by omega) ⟨i0,i1⟩).1
  by_cases w:i<4
  · have h:=H q a i hq.1 hq.2 ha.1 ha.2 i0 w
    rw [show 12*a+4*((q:Int) - 2)+i=a*12+((q:Int) - 2)*4+i by omega] at h
    have:=own_bt01 (m q a) i
    have:=own_bt01 (w32 (and64 (ushr64 y (a*12+((q:Int) - 2)*4)) 15)) i
    by_cases c:own_lb y (a*12+((q:Int) - 2)*4+i)
    · rw [h.mp c,e.mpr ⟨w,c⟩]
    · have c1:¬ own_bt (m q a) i=1:=fun z=>c (h.mpr z)
      have c2:¬ own_bt (w32 (and64 (ushr64 y (a*12+((q:Int) - 2)*4)) 15)) i=1:=fun z=>c (e.mp z).2
      omega
  · rw [own_hi (m q a) i r (by omega)]
    exact (own_b0 _ _).mpr fun z=>w (e.mp z).1
/- the law's state -/
def own_W (m:OMem) (x2 x4 x5 x6 x7:Int):Prop:=(m 0 24=4∧m 0 25=4∧m 0 26=3)∧own_L4 m∧own_ls x2 m∧(m 0 27=x4∧m 0 28=x5∧m 0 29=x6∧m 0 30=x7)∧((0≤x4∧x4<16)∧(0≤x5∧x5<16)∧(0≤x6∧x6<16))∧(-2≤x7∧x7≤3)∧∀ j,1≤j→j≤x7→0≤m 1 j∧m 1 j<16
theorem own_WJ {m:OMem} {x2 x4 x5 x6 x7:Int} (W:own_W m x2 x4 x5 x6 x7):own_J m:=by
  obtain ⟨⟨a,b,c⟩,-⟩:=W
  unfold own_J
  omega
abbrev own_O31:Type:=OMem⊕OMem⊕OMem⊕OMem⊕OMem⊕OMem⊕OMem⊕OMem⊕OMem⊕OMem⊕OMem
abbrev own_T31:Type:=Int×Int×Int×Int×Int×Int×OMem
def own_E31 (x8:Int) (e:own_T31⊕own_O31):Prop:=∃ x2 x4 x5 x6 x7 m,e=.inl (x2,x4,x5,x6,x7,w32 (x8+4),m)∧own_W m x2 x4 x5 x6 x7
theorem own_ag (sl:Int) (sc:Int→Int) {m:OMem} {x2 x4 x5 x6 x7:Int} (W:own_W m x2 x4 x5 x6 x7):l_agree sl sc x2 x4 x5 x6 x7 m=some 1:=by
  obtain ⟨⟨e24,e25,e26⟩,L,H,⟨e27,e28,e29,e30⟩,-⟩:=W
  have lp1:lp (l_agree_l3 sl sc m x2 x4 x5 x6 x7) NN 0=some (.inr ()):=by
    obtain ⟨z,ez,hz⟩:=Ok.loop (body:=l_agree_l3 sl sc m x2 x4 x5 x6 x7) (s:=0) (Q:=fun e=>e=.inr ()) (fun x=>0≤x∧x≤12) (fun x=>(12 - x).toNat) (by decide) (by decide) (by
      rintro x ⟨x0,x1⟩
      unfold l_agree_l3
      rw [w32_id (z:=x+1) (by omega)]
      refine Ok.ite (fun h=>?_) (fun h=>Ok.ret rfl)
      rw [div32_nn x0 (by omega) (by decide),rem32_nn x0]
      have la:f_listMask (x / 3) (x % 3) m=some (m (2+(x % 3).toNat) (x / 3)):=by
        have:Ok (f_listMask (x / 3) (x % 3) m) (fun r=>r=m (2+(x % 3).toNat) (x / 3)):=by
          unfold f_listMask f_isAction f_isAction_b17 f_isAction_b16 f_isKind f_isKind_b14 f_isKind_b19
          rw [e25,if_neg (show ¬ x / 3<0 by omega),if_pos (show x / 3<4 by omega)]
          refine Ok.bindE rfl (Ok.neg (by decide) ?_)
          have:x % 3=0∨x % 3=1∨x % 3=2:=by omega
          rcases this with q | q | q
          · rw [q]
            exact Ok.bindE rfl (Ok.neg (by decide) (Ok.pos rfl (Ok.grd (by omega) (Ok.ret rfl))))
          · rw [q]
            exact Ok.bindE rfl (Ok.neg (by decide) (Ok.neg (by decide) (Ok.pos rfl (Ok.grd (by omega) (Ok.ret rfl)))))
          · rw [q]
            exact Ok.bindE rfl (Ok.neg (by decide) (Ok.neg (by decide) (Ok.neg (by decide) (Ok.grd (by omega) (Ok.ret rfl)))))
        obtain ⟨r,e,hr⟩:=this
        rw [e,hr]
      have lb:=own_lm sl sc L H m (x / 3) (by omega) (2+(x % 3).toNat) (by omega)
      rw [show ((2+(x % 3).toNat:Nat):Int) - 2=x % 3 by omega] at lb
      exact Ok.bindE la (Ok.bindE lb (Ok.pos rfl (Ok.ret ⟨⟨by omega,by omega⟩,by omega⟩))))
    rw [ez,hz]
  obtain ⟨r,e,hr⟩:Ok (l_agree sl sc x2 x4 x5 x6 x7 m) (fun r=>r=1):=by
    unfold l_agree l_agree_b92
    exact Ok.bindE lp1 (Ok.bindE (show f_problemMask 0 m=some (m 0 27) from rfl) (Ok.pos e27 (Ok.bindE (show f_problemMask 1 m=some (m 0 28) from rfl) (Ok.pos e28 (Ok.bindE (show f_problemMask 2 m=some (m 0 29) from rfl) (Ok.pos e29 (Ok.bindE (show f_planLength m=some (m 0 30) from rfl) (Ok.pos e30 (Ok.ret rfl)))))))))
  rw [e,hr]
theorem own_698 (sl:Int) (sc:Int→Int) {m:OMem} {x2 x4 x5 x6 x7:Int} (W:own_W m x2 x4 x5 x6 x7) (x8:Int):Ok (l_law_b698 sl sc x2 x4 x5 x6 x7 x8 m) (own_E31 x8):=by
  unfold l_law_b698
  exact Ok.bindE (own_ag sl sc W) (Ok.neg (by decide) (Ok.ret ⟨x2,x4,x5,x6,x7,m,rfl,W⟩))
/-! setting bits -/
theorem own_sh4:∀ f:Fin 4,0≤shl32 1 (f.val:Int)∧shl32 1 (f.val:Int)<16:=by decide +kernel
def own_wb (v f on:Int):Int:=if on=0 then and32 v (xor32 (shl32 1 f) (-1)) else or32 v (shl32 1 f)
theorem own_wbr (v f on:Int) (hv:0≤v∧v<16) (hf:0≤f∧f<4):(0≤own_wb v f on∧own_wb v f on<16)∧∀ i,0≤i→i<4→(own_bt (own_wb v f on) i=1↔(own_bt v i=1∧i≠f)∨(on≠0∧i=f)):=by
  have s:=own_sh4 ⟨f.toNat,by omega⟩
  simp only [Int.toNat_of_nonneg hf.1] at s
  have b:∀ i,0≤i→i<4→(own_bt (shl32 1 f) i=1↔i=f):=fun i i0 i1=>by
    rw [own_bt_sh f i (by omega) (by omega)]
    by_cases q:i=f
    · rw [if_pos q]; exact ⟨fun _=>q,fun _=>rfl⟩
    · rw [if_neg q]; exact ⟨fun z=>absurd z (by decide),fun z=>absurd z q⟩
  unfold own_wb
  by_cases h:on=0
  · rw [if_pos h]
    refine ⟨own_and16 _ _ hv,fun i i0 i1=>?_⟩
    rw [own_andn i0 (by omega),b i i0 i1]
    exact ⟨Or.inl,fun z=>z.resolve_right fun w=>w.1 h⟩
  · rw [if_neg h]
    refine ⟨own_or16 _ _ hv s,fun i i0 i1=>?_⟩
    rw [own_or1 i0 (by omega),b i i0 i1]
    by_cases q:i=f
    · exact ⟨fun _=>Or.inr ⟨h,q⟩,fun _=>Or.inr q⟩
    · exact ⟨fun z=>Or.inl ⟨z.resolve_right q,q⟩,fun z=>z.elim (fun w=>Or.inl w.1) fun w=>absurd w.2 q⟩
def own_yb (y j on:Int):Int:=if on=0 then and64 y (xor64 (shl64 1 j) (-1)) else or64 y (shl64 1 j)
theorem own_ybb (y j on i:Int) (hj:0≤j∧j<64) (hi:0≤i∧i<64):own_lb (own_yb y j on) i↔(own_lb y i∧i≠j)∨(on≠0∧i=j):=by
  unfold own_yb
  by_cases h:on=0
  · rw [if_pos h,own_lb_cl y j i hj hi]
    exact ⟨Or.inl,fun z=>z.resolve_right fun w=>w.1 h⟩
  · rw [if_neg h,own_lb_or y j i hj hi]
    by_cases q:i=j
    · exact ⟨fun _=>Or.inr ⟨h,q⟩,fun _=>Or.inr q⟩
    · exact ⟨fun z=>Or.inl ⟨z.resolve_right q,q⟩,fun z=>z.elim (fun w=>Or.inl w.1) fun w=>absurd w.2 q⟩
theorem own_lsU {y:Int} {m m':OMem} (k:Nat) (a f on:Int) (hk:2≤k∧k≤4) (ha:0≤a∧a<4) (hf:0≤f∧f<4) (L:own_L4 m) (H:own_ls y m) (hm:∀ (q:Nat) i,2≤q→q≤4→m' q i=if q=k∧i=a then own_wb (m k a) f on else m q i):own_L4 m'∧own_ls (own_yb y (12*a+4*((k:Int) - 2)+f) on) m':=by
  have rk:0≤m k a∧m k a<16:=by
    obtain ⟨l2,l3,l4⟩:=L a ha.1 ha.2
    have:k=2∨k=3∨k=4:=by omega
    rcases this with rfl | rfl | rfl
    · exact l2
    · exact l3
    · exact l4
  obtain ⟨wr,wb⟩:=own_wbr (m k a) f on rk hf
  have r:∀ (q:Nat) b,2≤q→q≤4→(0≤m q b∧m q b<16)→0≤m' q b∧m' q b<16:=fun q b q0 q1 hb=>by
    rw [hm q b q0 q1]
    by_cases c:q=k∧b=a
    · rw [if_pos c]; exact wr
    · rw [if_neg c]; exact hb
  refine ⟨fun b b0 b1=>?_,fun q b i q0 q1 b0 b1 i0 i1=>?_⟩
  · obtain ⟨l2,l3,l4⟩:=L b b0 b1
    exact ⟨r 2 b (by decide) (by decide) l2,r 3 b (by decide) (by decide) l3,r 4 b (by decide) (by decide) l4⟩
  · have base:=H q b i q0 q1 b0 b1 i0 i1
    rw [own_ybb _ _ _ _ (by omega) (by omega),hm q b q0 q1]
    by_cases c:q=k∧b=a
    · obtain ⟨rfl,rfl⟩:=c
      rw [if_pos ⟨rfl,rfl⟩,wb i i0 i1,base]
      have:(12*b+4*((q:Int) - 2)+i=12*b+4*((q:Int) - 2)+f)↔i=f:=by omega
      rw [ne_eq,this]
    · rw [if_neg c,base]
      have:¬ (12*b+4*((q:Int) - 2)+i=12*a+4*((k:Int) - 2)+f):=by omega
      exact ⟨fun z=>z.elim (fun w=>w.1) fun w=>absurd w.2 this,fun z=>Or.inl ⟨z,this⟩⟩
theorem own_sf (a k f on:Int) {m:OMem} (J:own_J m) (h24:m 0 24=4) (h25:m 0 25=4) (ha:0≤a∧a<4) (hk:0≤k∧k<3) (hf:0≤f∧f<4):Ok (f_setFact a k f on m) (fun r=>r.1=1∧r.2 0 30=-2∧(∀ i,i≠30→r.2 0 i=m 0 i)∧∀ (q:Nat) i,2≤q→q≤4→r.2 q i=if q=k.toNat+2∧i=a then own_wb (m (k.toNat+2) a) f on else m q i):=by
  have:k=0∨k=1∨k=2:=by omega
  rcases this with rfl | rfl | rfl
  · refine Ok.mono (own_sf0 a f on m J (by omega) (by omega)) fun r hr=>⟨hr.1,hr.2.1,fun i hi=>?_,fun q i q0 q1=>?_⟩
    · rw [hr.2.2 0 i (by decide) (fun _=>hi)]; exact sto_k _ _ _ _ (by decide)
    · rw [hr.2.2 q i (by omega) (by omega)]; rfl
  · refine Ok.mono (own_sf1 a f on m J (by omega) (by omega)) fun r hr=>⟨hr.1,hr.2.1,fun i hi=>?_,fun q i q0 q1=>?_⟩
    · rw [hr.2.2 0 i (by decide) (fun _=>hi)]; exact sto_k _ _ _ _ (by decide)
    · rw [hr.2.2 q i (by omega) (by omega)]; rfl
  · refine Ok.mono (own_sf2 a f on m J (by omega) (by omega)) fun r hr=>⟨hr.1,hr.2.1,fun i hi=>?_,fun q i q0 q1=>?_⟩
    · rw [hr.2.2 0 i (by decide) (fun _=>hi)]; exact sto_k _ _ _ _ (by decide)
    · rw [hr.2.2 q i (by omega) (by omega)]; rfl
theorem own_31f (sl:Int) (sc:Int→Int) {m:OMem} {x2 x4 x5 x6 x7:Int} (W:own_W m x2 x4 x5 x6 x7) (x8 a k f on:Int) (ha:0≤a) (hk:0≤k) (hf:0≤f):Ok (l_law_b134 sl sc x2 x4 x5 x6 x7 x8 a k f on m) (own_E31 x8):=by
  have W0:=W
  have J:=own_WJ W
  obtain ⟨⟨e24,e25,e26⟩,L,H,⟨e27,e28,e29,e30⟩,rg,-,-⟩:=W
  unfold l_law_b134 l_law_b158
  have no:¬ (a<4∧k<3∧f<4)→Ok (l_law_b159 sl sc x2 x4 x5 x6 x7 x8 a k f on 0 m) (own_E31 x8):=fun hn=>by
    unfold l_law_b159 l_law_b227
    refine Ok.bindE (own_sfN a k f on m (by omega)) (Ok.pos rfl (Ok.pos rfl (own_698 sl sc W0 x8)))
  refine Ok.ite (fun h1=>Ok.ite (fun h2=>Ok.ite (fun h3=>?_) (fun h3=>no (by omega))) (fun h2=>no (by omega))) (fun h1=>no (by omega))
  unfold l_law_b159 l_law_b222 l_law_b227
  refine Ok.bind (own_sf a k f on J e24 e25 ⟨ha,h1⟩ ⟨hk,h2⟩ ⟨hf,h3⟩) ?_
  rintro ⟨r,m'⟩ ⟨hr,h30,hz,hm⟩
  dsimp only at hr h30 hz hm ⊢
  obtain ⟨L',H'⟩:=own_lsU (k.toNat+2) a f on (by omega) ⟨ha,h1⟩ ⟨hf,h3⟩ L H hm
  rw [w32_id (z:=a*12) (by omega),w32_id (z:=k*4) (by omega),w32_id (z:=a*12+k*4) (by omega),w32_id (z:=a*12+k*4+f) (by omega)]
  rw [show 12*a+4*(((k.toNat+2:Nat):Int) - 2)+f=a*12+k*4+f by omega] at H'
  have W':own_W m' (own_yb x2 (a*12+k*4+f) on) x4 x5 x6 (-2):=⟨by rw [hz 24 (by decide),hz 25 (by decide),hz 26 (by decide)]; exact ⟨e24,e25,e26⟩,L',H',by rw [hz 27 (by decide),hz 28 (by decide),hz 29 (by decide)]; exact ⟨e27,e28,e29,h30⟩,rg,by decide,fun j a b=>by omega⟩
  unfold own_yb at W'
  refine Ok.pos hr (Ok.neg (by decide) (Ok.ite (fun q=>?_) (fun q=>?_)))
  · rw [if_pos q] at W'
    exact own_698 sl sc W' x8
  · rw [if_neg q] at W'
    exact own_698 sl sc W' x8
theorem own_si (f on:Int) {m:OMem} (h24:m 0 24=4) (hf:0≤f∧f<4):Ok (f_setInit f on m) (fun r=>r.1=1∧r.2 0 30=-2∧r.2 0 27=own_wb (m 0 27) f on∧∀ (k:Nat) i,k≠1→¬ (k=0∧(i=30∨i=27))→r.2 k i=m k i):=by
  unfold f_setInit f_isFact f_isFact_b16 f_isFact_b17 f_withBit
  rw [h24,if_neg (by omega),if_pos hf.2]
  refine Ok.bindE rfl (Ok.neg (by decide) (Ok.bindE (b:=own_wb (m 0 27) f on) ?_ (Ok.bind (own_ms _) ?_)))
  · unfold own_wb
    by_cases h:on=0
    · rw [if_pos h,if_pos h]
    · rw [if_neg h,if_neg h]
  · rintro m1 ⟨h1,h2⟩
    refine Ok.ret ⟨rfl,h1,by dsimp only; rw [h2 0 27 (by decide) (by decide)]; simp [sto],fun k i a b=>?_⟩
    dsimp only
    rw [h2 k i a (by omega)]
    simp only [sto]
    rw [if_neg (by omega)]
theorem own_sgo (f on:Int) {m:OMem} (h24:m 0 24=4) (hf:0≤f∧f<4):Ok (f_setGoal f on m) (fun r=>r.1=1∧r.2 0 30=-2∧r.2 0 28=own_wb (m 0 28) f on∧∀ (k:Nat) i,k≠1→¬ (k=0∧(i=30∨i=28))→r.2 k i=m k i):=by
  unfold f_setGoal f_isFact f_isFact_b16 f_isFact_b17 f_withBit
  rw [h24,if_neg (by omega),if_pos hf.2]
  refine Ok.bindE rfl (Ok.neg (by decide) (Ok.bindE (b:=own_wb (m 0 28) f on) ?_ (Ok.bind (own_ms _) ?_)))
  · unfold own_wb
    by_cases h:on=0
    · rw [if_pos h,if_pos h]
    · rw [if_neg h,if_neg h]
  · rintro m1 ⟨h1,h2⟩
    refine Ok.ret ⟨rfl,h1,by dsimp only; rw [h2 0 28 (by decide) (by decide)]; simp [sto],fun k i a b=>?_⟩
    dsimp only
    rw [h2 k i a (by omega)]
    simp only [sto]
    rw [if_neg (by omega)]
theorem own_siN (f on:Int) {m:OMem} (h24:m 0 24=4) (hf:4≤f):f_setInit f on m=some (0,m)∧f_setGoal f on m=some (0,m):=by
  unfold f_setInit f_setGoal f_isFact f_isFact_b16 f_isFact_b17
  rw [h24,if_neg (by omega),if_neg (by omega)]
  exact ⟨rfl,rfl⟩
theorem own_31i (sl:Int) (sc:Int→Int) {m:OMem} {x2 x4 x5 x6 x7:Int} (W:own_W m x2 x4 x5 x6 x7) (x8 x9 f on:Int) (hf:0≤f):Ok (l_law_b264 sl sc x2 x4 x5 x6 x7 x8 x9 f on m) (own_E31 x8):=by
  have W0:=W
  obtain ⟨⟨e24,e25,e26⟩,L,H,⟨e27,e28,e29,e30⟩,⟨r4,r5,r6⟩,-,-⟩:=W
  unfold l_law_b264 l_law_b291 l_law_b306 l_law_b349 l_law_b374 l_law_b376 l_law_b380
  by_cases h:f<4
  · refine Ok.ite (fun h9=>Ok.bind (own_si f on e24 ⟨hf,h⟩) ?_) (fun h9=>Ok.bind (own_sgo f on e24 ⟨hf,h⟩) ?_)
    · rintro ⟨r,m'⟩ ⟨hr,h30,h27,hm⟩
      dsimp only at hr h30 h27 hm ⊢
      have ek:∀ k,2≤k→m' k=m k:=fun k hk=>funext fun i=>hm k i (by omega) (by omega)
      have W':own_W m' x2 (own_wb x4 f on) x5 x6 (-2):=⟨by rw [hm 0 24 (by decide) (by decide),hm 0 25 (by decide) (by decide),hm 0 26 (by decide) (by decide)]; exact ⟨e24,e25,e26⟩,by unfold own_L4; rw [ek 2 (by decide),ek 3 (by decide),ek 4 (by decide)]; exact L,fun q a i q0 q1=>by rw [ek q q0]; exact H q a i q0 q1,by rw [h27,e27,hm 0 28 (by decide) (by decide),hm 0 29 (by decide) (by decide)]; exact ⟨rfl,e28,e29,h30⟩,⟨(own_wbr x4 f on r4 ⟨hf,h⟩).1,r5,r6⟩,by decide,fun j a b=>by omega⟩
      unfold own_wb at W'
      refine Ok.pos h (Ok.pos hr (Ok.pos h (Ok.pos h9 (Ok.ite (fun q=>?_) (fun q=>?_)))))
      · rw [if_pos q] at W'
        exact own_698 sl sc W' x8
      · rw [if_neg q] at W'
        exact own_698 sl sc W' x8
    · rintro ⟨r,m'⟩ ⟨hr,h30,h28,hm⟩
      dsimp only at hr h30 h28 hm ⊢
      have ek:∀ k,2≤k→m' k=m k:=fun k hk=>funext fun i=>hm k i (by omega) (by omega)
      have W':own_W m' x2 x4 (own_wb x5 f on) x6 (-2):=⟨by rw [hm 0 24 (by decide) (by decide),hm 0 25 (by decide) (by decide),hm 0 26 (by decide) (by decide)]; exact ⟨e24,e25,e26⟩,by unfold own_L4; rw [ek 2 (by decide),ek 3 (by decide),ek 4 (by decide)]; exact L,fun q a i q0 q1=>by rw [ek q q0]; exact H q a i q0 q1,by rw [h28,e28,hm 0 27 (by decide) (by decide),hm 0 29 (by decide) (by decide)]; exact ⟨e27,rfl,e29,h30⟩,⟨r4,(own_wbr x5 f on r5 ⟨hf,h⟩).1,r6⟩,by decide,fun j a b=>by omega⟩
      unfold own_wb at W'
      refine Ok.pos h (Ok.pos hr (Ok.pos h (Ok.neg h9 (Ok.ite (fun q=>?_) (fun q=>?_)))))
      · rw [if_pos q] at W'
        exact own_698 sl sc W' x8
      · rw [if_neg q] at W'
        exact own_698 sl sc W' x8
  · obtain ⟨a,b⟩:=own_siN f on e24 (show 4≤f by omega)
    exact Ok.ite (fun _=>Ok.bindE a (Ok.neg h (Ok.pos rfl (Ok.neg h (own_698 sl sc W0 x8))))) (fun _=>Ok.bindE b (Ok.neg h (Ok.pos rfl (Ok.neg h (own_698 sl sc W0 x8)))))
/-! a plan that holds -/
theorem own_lay {m:OMem} {t j:Int} (h30:m 0 30=t) (ht:0≤t∧t≤3):(1≤j∧j≤t→f_layerMask j m=some (m 1 j))∧(j<1∨t<j→f_layerMask j m=some (-1)):=by
  unfold f_layerMask f_layerMask_b22
  rw [h30,if_neg (show ¬ t<0 by omega)]
  refine ⟨fun h=>?_,fun h=>?_⟩
  · rw [if_neg (show ¬ j<1 by omega),if_neg (show ¬ t<j by omega),if_pos (by omega)]
  · rcases h with h | h
    · rw [if_pos h]
    · by_cases q:j<1
      · rw [if_pos q]
      · rw [if_neg q,if_pos h]
/- the unions of the first n actions of x -/
def own_V (m:OMem) (k:Nat) (x d n:Int):Prop:=∀ f,0≤f→f<32→(own_bt d f=1↔∃ a,0≤a∧a<n∧own_bt x a=1∧own_bt (m k a) f=1)
theorem own_V0 (m:OMem) (k:Nat) (x:Int):own_V m k x 0 0:=fun f f0 f1=>by
  rw [own_bt_0 f ⟨f0,f1⟩]
  exact ⟨fun h=>absurd h (by decide),fun ⟨a,a0,a1,_⟩=>by omega⟩
theorem own_Vn {m:OMem} {k:Nat} {x d n:Int} (h:own_V m k x d n) (hb:¬ own_bt x n=1):own_V m k x d (n+1):=fun f f0 f1=>by
  rw [h f f0 f1]
  refine ⟨fun ⟨a,a0,a1,a2⟩=>⟨a,a0,by omega,a2⟩,fun ⟨a,a0,a1,a2⟩=>⟨a,a0,?_,a2⟩⟩
  have:a≠n:=fun e=>hb (e ▸ a2.1)
  omega
theorem own_Vs {m:OMem} {k:Nat} {x d n:Int} (hn:0≤n) (h:own_V m k x d n) (hb:own_bt x n=1):own_V m k x (or32 d (m k n)) (n+1):=fun f f0 f1=>by
  rw [own_or1 f0 f1,h f f0 f1]
  constructor
  · rintro (⟨a,a0,a1,a2⟩ | h)
    · exact ⟨a,a0,by omega,a2⟩
    · exact ⟨n,hn,by omega,hb,h⟩
  · rintro ⟨a,a0,a1,a2,a3⟩
    by_cases q:a=n
    · rw [q] at a3; exact Or.inr a3
    · exact Or.inl ⟨a,a0,by omega,a2,a3⟩
theorem own_val (sl:Int) (sc:Int→Int) {m:OMem} {y t:Int} (L:own_L4 m) (H:own_ls y m) (h30:m 0 30=t) (ht:0≤t∧t≤3) (P:own_PL m t):l_valid sl sc t y (m 0 27) (m 0 28) m=some 1:=by
  obtain ⟨G,G1,G2,G3⟩:=P
  have lay:=fun j=>own_lay (j:=j) h30 ht
  have loop:Ok (lp (l_valid_l16 sl sc m t y (m 0 28)) NN (m 0 27,0,0,0,0)) (fun e=>∃ s,e=.inr (.inr s)∧own_sub (m 0 28) s):=by
    refine Ok.loop (fun z=>(0≤z.2.2.2.2∧z.2.2.2.2≤4*t)∧own_sub (G (z.2.2.2.2 / 4)) z.1∧(z.2.2.2.2 % 4≠0→z.2.1=m 1 (z.2.2.2.2 / 4+1)∧own_V m 4 z.2.1 z.2.2.1 (z.2.2.2.2 % 4)∧own_V m 3 z.2.1 z.2.2.2.1 (z.2.2.2.2 % 4))) (fun z=>(4*t - z.2.2.2.2).toNat) ⟨by dsimp only; omega,G2,fun z=>absurd rfl z⟩ (by dsimp only; omega) ?_
    rintro ⟨s,x,d,ad,i⟩ ⟨i01,hs,hx⟩
    dsimp only at i01 hs hx ⊢
    unfold l_valid_l16
    dsimp only
    rw [w32_id (z:=t*4) (by omega)]
    refine Ok.ite (fun h=>?_) (fun h=>Ok.ret ?_)
    · rw [rem32_nn i01.1,div32_nn i01.1 (by omega) (by decide),w32_id (z:=i / 4+1) (by omega)]
      obtain ⟨g1,g2,g3⟩:=G3 (i / 4+1) (by omega) (by omega)
      rw [show i / 4+1 - 1=i / 4 by omega] at g2 g3
      have step:∀ x d ad,x=m 1 (i / 4+1)→own_V m 4 x d (i % 4)→own_V m 3 x ad (i % 4)→Ok (l_valid_b67 sl sc t y (m 0 28) s x d ad i (i % 4) m) (fun e=>∃ s' x' d' ad',e=.inl (s',x',d',ad',i+1)∧own_sub (G ((i+1) / 4)) s'∧((i+1) % 4≠0→x'=m 1 ((i+1) / 4+1)∧own_V m 4 x' d' ((i+1) % 4)∧own_V m 3 x' ad' ((i+1) % 4))):=by
        intro x d ad ex hd had
        have x16:0≤x∧x<16:=by rw [ex]; exact g1
        have fin:∀ d' ad',own_V m 4 x d' (i % 4+1)→own_V m 3 x ad' (i % 4+1)→Ok (l_valid_b118 sl sc t y (m 0 28) s x d' ad' i (i % 4) m) (fun e=>∃ s' x' d' ad',e=.inl (s',x',d',ad',i+1)∧own_sub (G ((i+1) / 4)) s'∧((i+1) % 4≠0→x'=m 1 ((i+1) / 4+1)∧own_V m 4 x' d' ((i+1) % 4)∧own_V m 3 x' ad' ((i+1) % 4))):=by
          intro d' ad' hd' had'
          unfold l_valid_b118 l_valid_b136
          rw [w32_id (z:=i+1) (by omega)]
          refine Ok.ite (fun q=>Ok.ret ⟨_,x,d',ad',rfl,?_,fun z=>by omega⟩) (fun q=>Ok.ret ⟨s,x,d',ad',rfl,?_,fun _=>⟨?_,?_,?_⟩⟩)
          · rw [show (i+1) / 4=i / 4+1 by omega]
            rw [show i % 4+1=4 by omega] at hd' had'
            intro f f0 f1 hf
            rw [own_or1 f0 f1,own_andn f0 f1,hd' f f0 f1,had' f f0 f1]
            rcases g3 f f0 f1 hf with u | ⟨u,v⟩
            · rw [ex]; exact Or.inr u
            · refine Or.inl ⟨hs f f0 f1 u,?_⟩
              rw [ex]; exact v
          · rw [show (i+1) / 4=i / 4 by omega]
            exact hs
          · rw [show (i+1) / 4=i / 4 by omega]
            exact ex
          · rw [show (i+1) % 4=i % 4+1 by omega]
            exact hd'
          · rw [show (i+1) % 4=i % 4+1 by omega]
            exact had'
        unfold l_valid_b67
        rw [own_sr x (i % 4) x16 (by omega)]
        refine Ok.ite (fun q=>?_) (fun q=>?_)
        · have q':¬ own_bt x (i % 4)=1:=(own_b0 _ _).mp q
          exact fin d ad (own_Vn hd q') (own_Vn had q')
        · have q':own_bt x (i % 4)=1:=(own_bt01 _ _).resolve_left q
          have m0:=own_lm sl sc L H m (i % 4) (by omega) 2 (by decide)
          have m1:=own_lm sl sc L H m (i % 4) (by omega) 3 (by decide)
          have m2:=own_lm sl sc L H m (i % 4) (by omega) 4 (by decide)
          refine Ok.bindE m0 (Ok.pos (own_subI.mpr fun f f0 f1 hf=>?_) (Ok.bindE m2 (Ok.bindE m1 (fin _ _ (own_Vs (by omega) hd q') (own_Vs (by omega) had q')))))
          exact hs f f0 f1 (g2 f f0 f1 (by rw [← ex]; exact ⟨i % 4,by omega,by omega,q',hf⟩))
      have done:∀ o:Option ((Int×Int×Int×Int×Int)⊕(Unit⊕Unit⊕Int)),Ok o (fun e=>∃ s' x' d' ad',e=.inl (s',x',d',ad',i+1)∧own_sub (G ((i+1) / 4)) s'∧((i+1) % 4≠0→x'=m 1 ((i+1) / 4+1)∧own_V m 4 x' d' ((i+1) % 4)∧own_V m 3 x' ad' ((i+1) % 4)))→Ok o (fun e=>∃ s' x' d' ad',e=.inl (s',x',d',ad',i+1)∧own_sub (G ((i+1) / 4)) s'∧((i+1) % 4≠0→x'=m 1 ((i+1) / 4+1)∧own_V m 4 x' d' ((i+1) % 4)∧own_V m 3 x' ad' ((i+1) % 4))):=fun o h=>h
      refine Ok.mono (P:=fun e=>∃ s' x' d' ad',e=.inl (s',x',d',ad',i+1)∧own_sub (G ((i+1) / 4)) s'∧((i+1) % 4≠0→x'=m 1 ((i+1) / 4+1)∧own_V m 4 x' d' ((i+1) % 4)∧own_V m 3 x' ad' ((i+1) % 4))) ?_ ?_
      rotate_left
      · rintro e ⟨s',x',d',ad',rfl,u,v⟩
        exact ⟨⟨⟨by dsimp only; omega,by dsimp only; omega⟩,u,v⟩,by dsimp only; omega⟩
      refine Ok.ite (fun q=>Ok.bindE ((lay _).1 (by omega)) (Ok.neg (by omega) (Ok.neg (by omega) ?_))) (fun q=>?_)
      · rw [q]
        have:=step (m 1 (i / 4+1)) 0 0 rfl
        rw [q] at this
        exact this (own_V0 _ _ _) (own_V0 _ _ _)
      · obtain ⟨a,b,c⟩:=hx q
        exact step x d ad a b c
    · obtain rfl:i=4*t:=by omega
      rw [show 4*t / 4=t by omega,G1] at hs
      exact ⟨s,rfl,hs⟩
  obtain ⟨r,e,hr⟩:Ok (l_valid sl sc t y (m 0 27) (m 0 28) m) (fun r=>r=1):=by
    unfold l_valid l_valid_b177
    refine Ok.bind loop ?_
    rintro e ⟨s,rfl,hs⟩
    dsimp only
    rw [w32_id (z:=t+1) (by omega)]
    exact Ok.pos (own_subI.mpr hs) (Ok.bindE ((lay 0).2 (by omega)) (Ok.pos rfl (Ok.bindE ((lay (t+1)).2 (by omega)) (Ok.pos rfl (Ok.ret rfl)))))
  rw [e,hr]
theorem own_31s (sl:Int) (sc:Int→Int) {m:OMem} {x2 x4 x5 x6 x7:Int} (W:own_W m x2 x4 x5 x6 x7) (x8 x s0:Int) (hs:s0=if x<0 then 0 else if 3<x then 3 else x):Ok (l_law_b419 sl sc x2 x4 x5 x6 x8 x s0 m) (own_E31 x8):=by
  have J:=own_WJ W
  obtain ⟨⟨e24,e25,e26⟩,L,H,⟨e27,e28,e29,e30⟩,⟨r4,r5,r6⟩,-,-⟩:=W
  unfold l_law_b419
  refine Ok.bind (own_solve8 x J e25 e26 L (by rw [e28]; exact r5)) ?_
  rintro ⟨r,m'⟩ ⟨f,h30,hr⟩
  dsimp only at f h30 hr ⊢
  rw [e27,e28] at hr
  have f0:∀ i,i≠30→i≠31→i≠32→m' 0 i=m 0 i:=fun i a b c=>f 0 i (Or.inl ⟨rfl,a,b,c⟩)
  have ek:∀ k,2≤k→k≤4→m' k=m k:=fun k a b=>funext fun i=>f k i (Or.inr ⟨a,b⟩)
  have L':own_L4 m':=by unfold own_L4; rw [ek 2 (by decide) (by decide),ek 3 (by decide) (by decide),ek 4 (by decide) (by decide)]; exact L
  have H':own_ls x2 m':=fun q a i q0 q1=>by rw [ek q q0 q1]; exact H q a i q0 q1
  have g27:m' 0 27=x4:=(f0 27 (by decide) (by decide) (by decide)).trans e27
  have g28:m' 0 28=x5:=(f0 28 (by decide) (by decide) (by decide)).trans e28
  have W':(∀ j,1≤j→j≤r→0≤m' 1 j∧m' 1 j<16)→-2≤r∧r≤3→own_W m' x2 x4 x5 x6 r:=fun hp hr=>⟨by rw [f0 24 (by decide) (by decide) (by decide),f0 25 (by decide) (by decide) (by decide),f0 26 (by decide) (by decide) (by decide)]; exact ⟨e24,e25,e26⟩,L',H',⟨g27,g28,(f0 29 (by decide) (by decide) (by decide)).trans e29,h30⟩,⟨r4,r5,r6⟩,hr,hp⟩
  unfold l_law_b459 l_law_b469 l_law_b495 l_law_b512
  rcases hr with ⟨hr,hn⟩ | ⟨r0,r1,r2,r3,P⟩
  · have hl:f_layerMask 1 m'=some (-1):=by
      unfold f_layerMask
      rw [if_pos (by omega)]
    refine Ok.neg (by omega) (Ok.neg (by rw [hs]; split <;> (try split) <;> omega) (Ok.neg (fun z=>hn (own_subI.mp z)) (Ok.neg (by omega) (Ok.pos rfl (Ok.pos (by omega) (Ok.pos hr (Ok.bindE hl (Ok.pos rfl (own_698 sl sc (W' (fun j a b=>by omega) (by omega)) x8)))))))))
  · have v:=own_val sl sc L' H' h30 ⟨r0,r1⟩ P
    rw [g27,g28] at v
    have hp:∀ j,1≤j→j≤r→0≤m' 1 j∧m' 1 j<16:=by
      obtain ⟨G,-,-,G3⟩:=P
      exact fun j a b=>(G3 j a b).1
    have last:=own_698 sl sc (W' hp (by omega)) x8
    refine Ok.neg (by omega) (Ok.neg (by rw [hs]; split <;> (try split) <;> omega) ?_)
    by_cases q:r=0
    · rw [if_pos (own_subI.mpr (r3.mp q)),if_pos q,if_pos rfl,if_neg (show ¬ r<0 by omega)]
      exact Ok.bindE v (Ok.neg (by decide) (Ok.neg (by omega) last))
    · rw [if_neg (fun z=>q (r3.mpr (own_subI.mp z))),if_neg q,if_pos rfl,if_neg (show ¬ r<0 by omega)]
      exact Ok.bindE v (Ok.neg (by decide) (Ok.neg (by omega) last))
/-! the run -/
def own_sq (m:OMem):Nat→Int×Int
  | 0=>(m 0 27,0)
  | n+1=>if own_bt (m 1 (((n / 4:Nat):Int)+1)) ((n % 4:Nat):Int)=1∧and32 (m 2 ((n % 4:Nat):Int)) (xor32 (own_sq m n).1 (-1))=0 then (or32 (and32 (own_sq m n).1 (xor32 (m 4 ((n % 4:Nat):Int)) (-1))) (m 3 ((n % 4:Nat):Int)),(own_sq m n).2+1) else own_sq m n
theorem own_sqr {m:OMem} (L:own_L4 m) (h27:0≤m 0 27∧m 0 27<16):∀ n:Nat,(0≤(own_sq m n).1∧(own_sq m n).1<16)∧(0≤(own_sq m n).2∧(own_sq m n).2≤(n:Int))
  | 0=>⟨h27,by simp [own_sq],by simp [own_sq]⟩
  | n+1=>by
    obtain ⟨a,b⟩:=own_sqr L h27 n
    unfold own_sq
    by_cases h:own_bt (m 1 (((n / 4:Nat):Int)+1)) ((n % 4:Nat):Int)=1∧and32 (m 2 ((n % 4:Nat):Int)) (xor32 (own_sq m n).1 (-1))=0
    · rw [if_pos h]
      refine ⟨own_or16 _ _ (own_and16 _ _ a) (L _ (by omega) (by omega)).2.1,by dsimp only; omega,by dsimp only; omega⟩
    · rw [if_neg h]
      exact ⟨a,by omega,by omega⟩
/- a step of the run,by whole numbers -/
theorem own_sq1 (m:OMem) (i:Int) (hi:0≤i):own_sq m (i+1).toNat=if own_bt (m 1 (i / 4+1)) (i % 4)=1∧and32 (m 2 (i % 4)) (xor32 (own_sq m i.toNat).1 (-1))=0 then (or32 (and32 (own_sq m i.toNat).1 (xor32 (m 4 (i % 4)) (-1))) (m 3 (i % 4)),(own_sq m i.toNat).2+1) else own_sq m i.toNat:=by
  rw [show (i+1).toNat=i.toNat+1 by omega]
  have e1:((i.toNat / 4:Nat):Int)=i / 4:=by omega
  have e2:((i.toNat % 4:Nat):Int)=i % 4:=by omega
  conv=>lhs; unfold own_sq
  rw [e1,e2]
theorem own_bt16':∀ x:Fin 16,∀ a:Fin 4,and32 (x.val:Int) (shl32 1 (a.val:Int))=0↔own_bt (x.val:Int) (a.val:Int)=0:=by decide +kernel
theorem own_bt16 (x a:Int) (hx:0≤x∧x<16) (ha:0≤a∧a<4):and32 x (shl32 1 a)=0↔own_bt x a=0:=by
  have:=own_bt16' ⟨x.toNat,by omega⟩ ⟨a.toNat,by omega⟩
  simp only [Int.toNat_of_nonneg hx.1,Int.toNat_of_nonneg ha.1] at this
  exact this
theorem own_app {m:OMem} (h25:m 0 25=4) (a:Int) (ha:0≤a):f_apply a m=some (if a<4∧and32 (m 2 a) (xor32 (m 0 29) (-1))=0 then (1,sto m 0 29 (or32 (and32 (m 0 29) (xor32 (m 4 a) (-1))) (m 3 a))) else (0,m)):=by
  have:Ok (f_apply a m) (fun r=>r=if a<4∧and32 (m 2 a) (xor32 (m 0 29) (-1))=0 then (1,sto m 0 29 (or32 (and32 (m 0 29) (xor32 (m 4 a) (-1))) (m 3 a))) else (0,m)):=by
    unfold f_apply f_isAction f_isAction_b16 f_isAction_b17
    rw [h25,if_neg (by omega)]
    by_cases h:a<4
    · rw [if_pos h]
      refine Ok.bindE rfl (Ok.neg (by decide) (Ok.grd (by omega) (Ok.ite (fun q=>Ok.grd (by omega) (Ok.grd (by omega) (Ok.ret ?_))) (fun q=>Ok.ret ?_))))
      · rw [if_pos ⟨h,q⟩]
      · rw [if_neg (fun z=>q z.2)]
    · rw [if_neg h]
      refine Ok.bindE rfl (Ok.pos rfl (Ok.ret ?_))
      rw [if_neg (fun z=>h z.1)]
  obtain ⟨r,e,hr⟩:=this
  rw [e,hr]
/- memory that differs from m in the run alone -/
def own_R (m:OMem) (v:Int) (m':OMem):Prop:=m' 0 29=v∧∀ (k:Nat) i,¬ (k=0∧i=29)→m' k i=m k i
theorem own_rl {m:OMem} (L:own_L4 m) (h25:m 0 25=4) (h27:0≤m 0 27∧m 0 27<16) (k:Int) (hk:1≤k∧k≤3) (hx:0≤m 1 k∧m 1 k<16) {m1:OMem} (R:own_R m (own_sq m (4*(k - 1)).toNat).1 m1):Ok (f_replayLayer k m1) (fun r=>r.1=(own_sq m (4*k).toNat).2 - (own_sq m (4*(k - 1)).toNat).2∧own_R m (own_sq m (4*k).toNat).1 r.2):=by
  unfold f_replayLayer f_replayLayer_b11
  rw [R.2 1 k (by omega)]
  refine Ok.neg (by omega) (Ok.neg (by omega) (Ok.grd (by omega) (Ok.bind (P:=fun r=>r.1=(own_sq m (4*k).toNat).2 - (own_sq m (4*(k - 1)).toNat).2∧own_R m (own_sq m (4*k).toNat).1 r.2) ?_ fun r h=>Ok.ret h)))
  refine Ok.loop (fun z=>(0≤z.2.1∧z.2.1≤4)∧z.1=(own_sq m (4*(k - 1)+z.2.1).toNat).2 - (own_sq m (4*(k - 1)).toNat).2∧own_R m (own_sq m (4*(k - 1)+z.2.1).toNat).1 z.2.2) (fun z=>(4 - z.2.1).toNat) ⟨by simp,by simp,by simpa using R⟩ (by simp) ?_
  rintro ⟨c,a,m2⟩ ⟨a01,hc,R2⟩
  dsimp only at a01 hc R2 ⊢
  unfold f_replayLayer_l25 f_replayLayer_b55
  dsimp only
  rw [R2.2 0 25 (by decide),h25]
  have s1:=own_sq1 m (4*(k - 1)+a) (by omega)
  have q1:=(own_sqr L h27 (4*(k - 1)+a).toNat).2
  have q2:=(own_sqr L h27 (4*(k - 1)).toNat).2
  refine Ok.ite (fun h=>?_) (fun h=>Ok.ret ?_)
  · rw [show (4*(k - 1)+a) / 4+1=k by omega,show (4*(k - 1)+a) % 4=a by omega,show 4*(k - 1)+a+1=4*(k - 1)+(a+1) by omega] at s1
    rw [w32_id (z:=a+1) (by omega),w32_id (z:=c+1) (by omega)]
    have skip:¬ (own_bt (m 1 k) a=1∧and32 (m 2 a) (xor32 (own_sq m (4*(k - 1)+a).toNat).1 (-1))=0)→c=(own_sq m (4*(k - 1)+(a+1)).toNat).2 - (own_sq m (4*(k - 1)).toNat).2∧own_R m (own_sq m (4*(k - 1)+(a+1)).toNat).1 m2:=fun hn=>by
      rw [s1,if_neg hn]
      exact ⟨hc,R2⟩
    have ap:=own_app ((R2.2 0 25 (by decide)).trans h25) a a01.1
    rw [R2.2 2 a (by omega),R2.2 3 a (by omega),R2.2 4 a (by omega),R2.1] at ap
    refine Ok.ite (fun q=>Ok.ret ?_) (fun q=>?_)
    · have:=(own_bt16 (m 1 k) a hx ⟨a01.1,h⟩).mp q
      exact ⟨⟨by dsimp only; omega,skip fun z=>by omega⟩,by dsimp only; omega⟩
    · have q':own_bt (m 1 k) a=1:=(own_bt01 _ _).resolve_left fun z=>q ((own_bt16 (m 1 k) a hx ⟨a01.1,h⟩).mpr z)
      by_cases w:and32 (m 2 a) (xor32 (own_sq m (4*(k - 1)+a).toNat).1 (-1))=0
      · rw [if_pos ⟨h,w⟩] at ap
        rw [if_pos ⟨q',w⟩] at s1
        refine Ok.bindE ap ?_
        dsimp only
        refine Ok.neg (by decide) (Ok.ret ⟨⟨by dsimp only; omega,?_,?_,fun k' i hk'=>?_⟩,by dsimp only; omega⟩)
        · dsimp only
          rw [s1]
          dsimp only
          omega
        · dsimp only
          rw [s1]
          simp [sto]
        · dsimp only
          simp only [sto]
          rw [if_neg hk']
          exact R2.2 k' i hk'
      · rw [if_neg (fun z=>w z.2)] at ap
        refine Ok.bindE ap ?_
        dsimp only
        exact Ok.pos rfl (Ok.ret ⟨⟨by dsimp only; omega,skip fun z=>w z.2⟩,by dsimp only; omega⟩)
  · rw [show 4*(k - 1)+a=4*k by omega] at hc R2
    exact ⟨hc,R2⟩
theorem own_rp {m:OMem} (L:own_L4 m) (h25:m 0 25=4) (h27:0≤m 0 27∧m 0 27<16) (x p:Int) (h30:m 0 30=p) (hp:0≤p∧p≤3) (hx:∀ j,1≤j→j≤p→0≤m 1 j∧m 1 j<16) (n:Int) (hn:n=if x<0 then 0 else if p<x then p else x):Ok (f_runPlan x m) (fun r=>r.1=(own_sq m (4*n).toNat).2∧own_R m (own_sq m (4*n).toNat).1 r.2):=by
  have cl:f_clamp x 0 p m=some n:=by
    unfold f_clamp
    rw [hn]
    by_cases a:x<0
    · rw [if_pos a,if_pos a]
    · rw [if_neg a,if_neg a]
      by_cases b:p<x
      · rw [if_pos b,if_pos b]
      · rw [if_neg b,if_neg b]
  have n01:0≤n∧n≤p:=by rw [hn]; split <;> (try split) <;> omega
  unfold f_runPlan
  rw [h30]
  refine Ok.neg (by omega) (Ok.bindE cl (Ok.bind (P:=fun r=>r.1=(own_sq m (4*n).toNat).2∧own_R m (own_sq m (4*n).toNat).1 r.2) ?_ fun r h=>Ok.ret h))
  refine Ok.loop (fun z=>(1≤z.2.1∧z.2.1≤n+1)∧z.1=(own_sq m (4*(z.2.1 - 1)).toNat).2∧own_R m (own_sq m (4*(z.2.1 - 1)).toNat).1 z.2.2) (fun z=>(n+1 - z.2.1).toNat) ⟨by dsimp only; omega,rfl,by simp [sto,own_sq],fun k i hk=>by simp only [sto]; rw [if_neg hk]⟩ (by dsimp only; omega) ?_
  rintro ⟨c,k,m1⟩ ⟨k01,hc,R⟩
  dsimp only at k01 hc R ⊢
  unfold f_runPlan_l33
  dsimp only
  refine Ok.ite (fun h=>Ok.ret ?_) (fun h=>Ok.bind (own_rl L h25 h27 k (by omega) (hx k (by omega) (by omega)) R) ?_)
  · rw [show 4*(k - 1)=4*n by omega] at hc R
    exact ⟨hc,R⟩
  · rintro ⟨r,m2⟩ ⟨hr,R2⟩
    dsimp only at hr R2 ⊢
    have q1:=(own_sqr L h27 (4*(k - 1)).toNat).2
    have q2:=(own_sqr L h27 (4*k).toNat).2
    rw [w32_id (z:=k+1) (by omega),w32_id (z:=c+r) (by omega)]
    refine Ok.ret ⟨⟨by dsimp only; omega,?_,?_⟩,by dsimp only; omega⟩
    · dsimp only
      rw [show 4*(k+1 - 1)=4*k by omega]
      omega
    · dsimp only
      rw [show 4*(k+1 - 1)=4*k by omega]
      exact R2
/- the law's replay -/
theorem own_re (sl:Int) (sc:Int→Int) {m m':OMem} {y p n:Int} (L:own_L4 m) (H:own_ls y m) (h27:0≤m 0 27∧m 0 27<16) (h30:m' 0 30=p) (hp:0≤p∧p≤3) (hx:∀ j,1≤j→j≤p→0≤m 1 j∧m 1 j<16) (e1:m' 1=m 1) (hn:0≤n∧n≤p):l_replay sl sc n y (m 0 27) m'=some ((own_sq m (4*n).toNat).2*65536+(own_sq m (4*n).toNat).1):=by
  have loop:Ok (lp (l_replay_l13 sl sc m' n y) NN (m 0 27,0,0,0)) (fun e=>e=own_sq m (4*n).toNat):=by
    refine Ok.loop (fun z=>(0≤z.2.2.2∧z.2.2.2≤4*n)∧(z.1,z.2.2.1)=own_sq m z.2.2.2.toNat∧(z.2.2.2 % 4≠0→z.2.1=m 1 (z.2.2.2 / 4+1))) (fun z=>(4*n - z.2.2.2).toNat) ⟨by dsimp only; omega,rfl,fun z=>absurd rfl z⟩ (by dsimp only; omega) ?_
    rintro ⟨s,x,c,i⟩ ⟨i01,hs,hxx⟩
    dsimp only at i01 hs hxx ⊢
    unfold l_replay_l13
    dsimp only
    rw [w32_id (z:=n*4) (by omega)]
    refine Ok.ite (fun h=>?_) (fun h=>Ok.ret ?_)
    · rw [rem32_nn i01.1,div32_nn i01.1 (by omega) (by decide),w32_id (z:=i / 4+1) (by omega)]
      have s1:=own_sq1 m i i01.1
      rw [← hs] at s1
      have qr:=own_sqr L h27 i.toNat
      rw [← hs] at qr
      dsimp only at s1 qr
      have step:∀ x,x=m 1 (i / 4+1)→Ok (l_replay_b44 sl sc n y s x c i (i % 4) m') (fun e=>∃ s' x' c',e=.inl (s',x',c',i+1)∧(s',c')=own_sq m (i+1).toNat∧((i+1) % 4≠0→x'=m 1 ((i+1) / 4+1))):=by
        intro x ex
        have x16:0≤x∧x<16:=by rw [ex]; exact hx _ (by omega) (by omega)
        have nx:(i+1) % 4≠0→x=m 1 ((i+1) / 4+1):=fun z=>by rw [show (i+1) / 4=i / 4 by omega]; exact ex
        unfold l_replay_b44 l_replay_b94
        rw [own_sr x (i % 4) x16 (by omega),w32_id (z:=i+1) (by omega),w32_id (z:=c+1) (by omega)]
        rw [← ex] at s1
        refine Ok.ite (fun q=>Ok.ret ⟨s,x,c,rfl,?_,nx⟩) (fun q=>?_)
        · rw [s1,if_neg]
          intro z
          have:own_bt x (i % 4)=0:=q
          omega
        · have q':own_bt x (i % 4)=1:=(own_bt01 _ _).resolve_left q
          have m0:=own_lm sl sc L H m' (i % 4) (by omega) 2 (by decide)
          have m1:=own_lm sl sc L H m' (i % 4) (by omega) 3 (by decide)
          have m2:=own_lm sl sc L H m' (i % 4) (by omega) 4 (by decide)
          refine Ok.bindE m0 (Ok.ite (fun w=>Ok.bindE m2 (Ok.bindE m1 (Ok.ret ⟨_,x,_,rfl,?_,nx⟩))) (fun w=>Ok.ret ⟨s,x,c,rfl,?_,nx⟩))
          · rw [s1,if_pos ⟨q',w⟩]
          · rw [s1,if_neg (fun z=>w z.2)]
      refine Ok.mono (P:=fun e=>∃ s' x' c',e=.inl (s',x',c',i+1)∧(s',c')=own_sq m (i+1).toNat∧((i+1) % 4≠0→x'=m 1 ((i+1) / 4+1))) ?_ ?_
      rotate_left
      · rintro e ⟨s',x',c',rfl,u,v⟩
        exact ⟨⟨⟨by dsimp only; omega,by dsimp only; omega⟩,u,v⟩,by dsimp only; omega⟩
      refine Ok.ite (fun q=>Ok.bindE ((own_lay h30 hp).1 (by omega)) ?_) (fun q=>step x (hxx q))
      exact step _ (by rw [e1])
    · obtain rfl:i=4*n:=by omega
      exact hs
  obtain ⟨r,e,hr⟩:=loop
  have qr:=own_sqr L h27 (4*n).toNat
  unfold l_replay
  rw [e,hr]
  show some _=_
  rw [w32_id (z:=(own_sq m (4*n).toNat).2*65536) (by omega),w32_id (by omega)]
theorem own_31r (sl:Int) (sc:Int→Int) {m:OMem} {x2 x4 x5 x6 x7:Int} (W:own_W m x2 x4 x5 x6 x7) (x8 x:Int):Ok ((f_runPlan x m).bind fun (r_155,m_156)=>(if x7<0 then (if r_155=(-1) then (l_law_b698 sl sc x2 x4 x5 x6 x7 x8 m_156) else (some (.inr (.inr (.inr (.inr (.inr (.inr (.inr (.inr (.inl m_156))))))))))) else (if x<0 then (l_law_b666 sl sc x2 x4 x5 x7 x8 r_155 0 m_156) else (if x7<x then (l_law_b666 sl sc x2 x4 x5 x7 x8 r_155 x7 m_156) else (l_law_b666 sl sc x2 x4 x5 x7 x8 r_155 x m_156))))) (own_E31 x8):=by
  have W0:=W
  obtain ⟨⟨e24,e25,e26⟩,L,H,⟨e27,e28,e29,e30⟩,⟨r4,r5,r6⟩,p7,hx⟩:=W
  by_cases h7:x7<0
  · have e:f_runPlan x m=some (-1,m):=by
      unfold f_runPlan
      rw [if_pos (by omega)]
    refine Ok.bindE e ?_
    dsimp only
    exact Ok.pos h7 (Ok.pos rfl (own_698 sl sc W0 x8))
  · have h27:0≤m 0 27∧m 0 27<16:=by rw [e27]; exact r4
    have nn:∃ n,n=if x<0 then 0 else if x7<x then x7 else x:=⟨_,rfl⟩
    obtain ⟨n,hn⟩:=nn
    have n01:0≤n∧n≤x7:=by rw [hn]; split <;> (try split) <;> omega
    refine Ok.bind (own_rp L e25 h27 x x7 e30 (by omega) hx n hn) ?_
    rintro ⟨r,m'⟩ ⟨hr,R⟩
    dsimp only at hr R ⊢
    have ek:∀ k,k≠0→m' k=m k:=fun k hk=>funext fun i=>R.2 k i (by omega)
    have rep:=own_re sl sc (m':=m') (n:=n) L H h27 ((R.2 0 30 (by decide)).trans e30) (by omega) hx (ek 1 (by decide)) n01
    have qr:=own_sqr L h27 (4*n).toNat
    have W':own_W m' x2 x4 x5 (own_sq m (4*n).toNat).1 x7:=⟨by rw [R.2 0 24 (by decide),R.2 0 25 (by decide),R.2 0 26 (by decide)]; exact ⟨e24,e25,e26⟩,by unfold own_L4; rw [ek 2 (by decide),ek 3 (by decide),ek 4 (by decide)]; exact L,fun q a i q0 q1=>by rw [ek q (by omega)]; exact H q a i q0 q1,by rw [R.2 0 27 (by decide),R.2 0 28 (by decide),R.2 0 30 (by decide)]; exact ⟨e27,e28,R.1,e30⟩,⟨r4,r5,qr.1⟩,p7,by rw [ek 1 (by decide)]; exact hx⟩
    have last:Ok (l_law_b666 sl sc x2 x4 x5 x7 x8 r n m') (own_E31 x8):=by
      unfold l_law_b666
      rw [← e27]
      refine Ok.bindE rep ?_
      rw [div32_nn (by omega) (by omega) (by decide),rem32_nn (by omega),e27]
      refine Ok.pos (by omega) ?_
      rw [show ((own_sq m (4*n).toNat).2*65536+(own_sq m (4*n).toNat).1) % 65536=(own_sq m (4*n).toNat).1 by omega]
      exact own_698 sl sc W' x8
    refine Ok.neg h7 (Ok.ite (fun a=>?_) (fun a=>Ok.ite (fun b=>?_) (fun b=>?_)))
    · rw [if_pos a] at hn
      rw [← hn]; exact last
    · rw [if_neg a,if_pos b] at hn
      rw [hn] at last; exact last
    · rw [if_neg a,if_neg b] at hn
      rw [hn] at last; exact last
theorem own_31a (sl:Int) (sc:Int→Int) {m:OMem} {x2 x4 x5 x6 x7:Int} (W:own_W m x2 x4 x5 x6 x7) (x8 a s:Int) (ha:0≤a) (hs:s=if a<4∧and32 (m 2 a) (xor32 x6 (-1))=0 then 1 else 0):Ok (l_law_b568 sl sc x2 x4 x5 x6 x7 x8 a s m) (own_E31 x8):=by
  have W0:=W
  obtain ⟨⟨e24,e25,e26⟩,L,H,⟨e27,e28,e29,e30⟩,⟨r4,r5,r6⟩,p7,hx⟩:=W
  unfold l_law_b568 l_law_b610
  refine Ok.bindE (own_app e25 a ha) ?_
  rw [e29]
  by_cases h:a<4∧and32 (m 2 a) (xor32 x6 (-1))=0
  · rw [if_pos h] at hs ⊢
    dsimp only
    generalize hm:sto m 0 29 (or32 (and32 x6 (xor32 (m 4 a) (-1))) (m 3 a))=m'
    have f:∀ (k:Nat) i,¬ (k=0∧i=29)→m' k i=m k i:=fun k i hk=>by
      rw [← hm]
      simp only [sto]
      rw [if_neg hk]
    have v:m' 0 29=or32 (and32 x6 (xor32 (m 4 a) (-1))) (m 3 a):=by rw [← hm]; simp [sto]
    have ek:∀ k,k≠0→m' k=m k:=fun k hk=>funext fun i=>f k i (by omega)
    have m1:=own_lm sl sc L H m' a ⟨ha,h.1⟩ 3 (by decide)
    have m2:=own_lm sl sc L H m' a ⟨ha,h.1⟩ 4 (by decide)
    have W':own_W m' x2 x4 x5 (or32 (and32 x6 (xor32 (m 4 a) (-1))) (m 3 a)) x7:=⟨by rw [f 0 24 (by decide),f 0 25 (by decide),f 0 26 (by decide)]; exact ⟨e24,e25,e26⟩,by unfold own_L4; rw [ek 2 (by decide),ek 3 (by decide),ek 4 (by decide)]; exact L,fun q a i q0 q1=>by rw [ek q (by omega)]; exact H q a i q0 q1,by rw [f 0 27 (by decide),f 0 28 (by decide),f 0 30 (by decide)]; exact ⟨e27,e28,v,e30⟩,⟨r4,r5,own_or16 _ _ (own_and16 _ _ r6) (L a ha h.1).2.1⟩,p7,by rw [ek 1 (by decide)]; exact hx⟩
    exact Ok.pos hs.symm (Ok.neg (by omega) (Ok.bindE m2 (Ok.bindE m1 (own_698 sl sc W' x8))))
  · rw [if_neg h] at hs ⊢
    dsimp only
    exact Ok.pos hs.symm (Ok.pos hs (own_698 sl sc W0 x8))
theorem own_init8:Ok (f_init 4 4 3 z0) (fun m=>own_W m 0 0 0 0 (-2)):=by
  unfold f_init
  have cl:∀ x a b (m:OMem),a≤x∧x≤b→f_clamp x a b m=some x:=fun x a b m h=>by
    unfold f_clamp
    rw [if_neg (by omega),if_neg (by omega)]
  refine Ok.bindE (cl _ _ _ _ (by decide)) (Ok.bindE (cl _ _ _ _ (by decide)) (Ok.bindE (cl _ _ _ _ (by decide)) (Ok.ret ?_)))
  refine ⟨by simp [sto],fun a _ _=>by simp [sto,z0_at],fun q a f q0 q1 a0 a1 f0 f1=>?_,by simp [sto,z0_at],by decide,by decide,fun j a b=>by omega⟩
  have e:own_lb 0 (12*a+4*((q:Int) - 2)+f)↔False:=by
    unfold own_lb own_L
    simp
  rw [e]
  refine ⟨False.elim,fun z=>?_⟩
  have z0:∀ m:OMem,m q a=0→¬ own_bt (m q a) f=1:=fun m h w=>by
    rw [h,own_bt_0 f ⟨f0,by omega⟩] at w
    exact absurd w (by decide)
  refine absurd z (z0 _ ?_)
  have:q≠0:=by omega
  simp [sto,this,z0_at]
theorem law_true (sl:Int) (sc:Int→Int) (hl:0≤sl∧sl≤260) (hr:∀ i,-2147483648≤sc i∧sc i<2147483648):∃ W,l_law sl sc=some (1,W):=by
  refine Ok.law ?_
  unfold l_law
  refine Ok.bind own_init8 fun m0 W0=>Ok.bind (P:=fun e=>∃ m,e=.inr (.inr (.inr (.inr (.inr (.inr (.inr (.inr (.inr (.inr m)))))))))) ?_ ?_
  · refine Ok.loop (fun s=>(0≤s.2.2.2.2.2.1∧s.2.2.2.2.2.1≤sl)∧own_W s.2.2.2.2.2.2 s.1 s.2.1 s.2.2.1 s.2.2.2.1 s.2.2.2.2.1) (fun s=>(sl - s.2.2.2.2.2.1).toNat) ⟨by dsimp only; omega,W0⟩ (by dsimp only; omega) ?_
    rintro ⟨x2,x4,x5,x6,x7,x8,m⟩ ⟨h1,W⟩
    dsimp only at h1 W ⊢
    unfold l_law_l29
    dsimp only
    rw [w32_id (z:=x8+1) (by omega),w32_id (z:=x8+2) (by omega),w32_id (z:=x8+3) (by omega)]
    refine Ok.ite (fun hx=>Ok.grd (by omega) (Ok.grd (by omega) (Ok.grd (by omega) (Ok.grd (by omega) ?_)))) (fun hx=>Ok.ret ⟨m,rfl⟩)
    refine Ok.mono (P:=own_E31 x8) ?_ ?_
    rotate_left
    · rintro e ⟨y2,y4,y5,y6,y7,m',rfl,W'⟩
      dsimp only
      rw [w32_id (z:=x8+4) (by omega)]
      exact ⟨⟨by omega,W'⟩,by omega⟩
    have ra:∀ z,0≤rem32 (and32 z 255) 5:=fun z=>by rw [and32_255,rem32_nn (by omega)]; omega
    have rk:∀ z,0≤rem32 (and32 z 255) 4:=fun z=>by rw [and32_255,rem32_nn (by omega)]; omega
    have sf:Ok (l_law_b93 sl sc x2 x4 x5 x6 x7 x8 (and32 (sc x8) 7) (sc (x8+2)) (sc (x8+3)) (rem32 (and32 (sc (x8+1)) 255) 5) m) (own_E31 x8):=by
      unfold l_law_b93 l_law_b129
      exact Ok.ite (fun _=>own_31f sl sc W x8 _ _ _ 1 (ra _) (rk _) (ra _)) (fun _=>Ok.ite (fun _=>own_31f sl sc W x8 _ _ _ 0 (ra _) (rk _) (ra _)) (fun _=>own_31f sl sc W x8 _ _ _ 1 (ra _) (rk _) (ra _)))
    have si:Ok (l_law_b242 sl sc x2 x4 x5 x6 x7 x8 (and32 (sc x8) 7) (sc (x8+2)) (sc (x8+3)) m) (own_E31 x8):=by
      unfold l_law_b242
      exact Ok.ite (fun _=>own_31i sl sc W x8 _ _ 0 (ra _)) (fun _=>own_31i sl sc W x8 _ _ 1 (ra _))
    refine Ok.ite (fun _=>sf) (fun _=>Ok.ite (fun _=>sf) (fun _=>Ok.ite (fun _=>si) (fun _=>Ok.ite (fun _=>si) (fun _=>Ok.ite (fun _=>?_) (fun _=>Ok.ite (fun _=>?_) (fun _=>Ok.ite (fun _=>?_) (fun _=>own_31r sl sc W x8 _)))))))
    · refine Ok.ite (fun a=>own_31s sl sc W x8 _ _ (by rw [if_pos a])) (fun a=>Ok.ite (fun b=>own_31s sl sc W x8 _ _ (by rw [if_neg a,if_pos b])) (fun b=>own_31s sl sc W x8 _ _ (by rw [if_neg a,if_neg b])))
    · obtain ⟨⟨e24,e25,e26⟩,L,H,⟨e27,e28,e29,e30⟩,⟨r4,r5,r6⟩,p7,hx⟩:=W
      unfold f_resetRun
      refine Ok.bindE rfl ?_
      generalize hm:sto m 0 29 (m 0 27)=m'
      have f:∀ (k:Nat) i,¬ (k=0∧i=29)→m' k i=m k i:=fun k i hk=>by
        rw [← hm]
        simp only [sto]
        rw [if_neg hk]
      have v:m' 0 29=m 0 27:=by rw [← hm]; simp [sto]
      have ek:∀ k,k≠0→m' k=m k:=fun k hk=>funext fun i=>f k i (by omega)
      exact own_698 sl sc ⟨by rw [f 0 24 (by decide),f 0 25 (by decide),f 0 26 (by decide)]; exact ⟨e24,e25,e26⟩,by unfold own_L4; rw [ek 2 (by decide),ek 3 (by decide),ek 4 (by decide)]; exact L,fun q a i q0 q1=>by rw [ek q (by omega)]; exact H q a i q0 q1,by rw [f 0 27 (by decide),f 0 28 (by decide),f 0 30 (by decide)]; exact ⟨e27,e28,v.trans e27,e30⟩,⟨r4,r5,r4⟩,p7,by rw [ek 1 (by decide)]; exact hx⟩ x8
    · have a0:=ra (sc (x8+1))
      generalize rem32 (and32 (sc (x8+1)) 255) 5=a at a0 ⊢
      have L:=W.2.1
      have H:=W.2.2.1
      unfold l_law_b567
      refine Ok.ite (fun h=>Ok.bindE (own_lm sl sc L H m a ⟨a0,h⟩ 2 (by decide)) (Ok.ite (fun q=>own_31a sl sc W x8 a 1 a0 (by rw [if_pos ⟨h,q⟩])) (fun q=>own_31a sl sc W x8 a 0 a0 (by rw [if_neg (fun z=>q z.2)])))) (fun h=>own_31a sl sc W x8 a 0 a0 (by rw [if_neg (fun z=>h z.1)]))
  · rintro e ⟨m,rfl⟩
    exact Ok.ret rfl
theorem comes_1 {Post:Tables→Env→Array Value→State→Outcome→State→Prop} (hpost:∀ tb e args s v u,(limb_1_1.after args s (.returned v) u=true∧limb_1_2.after args s (.returned v) u=true∧True)→FrameEnd s (.returned v) u (Jvm.fieldLocs frame_1_writes args s ++ Jvm.arrayLocs frame_1_arrays args s ++ Jvm.staticLocs frame_1_statics s) 56 64384→Post tb e args s (.returned v) u) :
    ArmFor flags0 classFile x code maxLocals ret World_1 tables_1 room_1 Calls_1 rest_1 Pre_1 Post:=by
  intro l hfl _ _ p e ha hc hk s m args below hf hA hF happ hP
  obtain ⟨hcalls,hrest,hpre⟩:=hP
  obtain ⟨-,-,-,hnamed,-,-,-,hat⟩:=(Spec.applies_iff hf).mp happ
  obtain ⟨hg,hn⟩:=and_e (Cond.before_iff.mp (show (Jvm.Cond.and given_1 narrow_1).before args s=true from hpre))
  have hw:=fun d (hd:d∈tables_1)=>atoms_spec (ws:=Jvm.Cond.code x code maxLocals ret :: tables_1) hat d (List.mem_cons_of_mem _ hd)
  have hfit:Fit s:=fun {y c} hc i hi=>by
    obtain ⟨ha,rfl⟩:=Array.getElem?_eq_some_iff.mp hc
    have q:=List.all_eq_true.mp ((Array.all_eq_true_iff_forall_mem.mp hF) _ (Array.getElem_mem ha)) i (List.mem_range.mpr hi)
    simpa [Array.getElem?_eq_getElem hi] using q
  obtain ⟨hcnt,g0⟩:=and_e hg
  obtain ⟨w0,rfl⟩:∃ w0:Value,args=#[w0]:=by
    have hs:args.size=1:=by simpa [Cond.value,given_1] using hcnt
    obtain ⟨L⟩:=args
    match L,hs with
    | [w0],_=>exact ⟨w0,rfl⟩
  obtain ⟨hn1,hn2⟩:=and_e hn
  obtain ⟨a,ea⟩:=arr_v hn1
  obtain rfl:w0=.ref a:=Option.some.inj ea
  obtain ⟨cl,hAr⟩:=Arr.start ea hn1
  obtain ⟨hlen0,hlen⟩:=own_len hn2 ea hAr
  have hel:∀ i:Nat,i<cl.slots.size→∃ x:Int32,cl.slots[i]?=some (.int x):=fun i hi=>own_elem hfit hAr hi hlen0
  obtain ⟨W,hlaw⟩:=law_true (cl.slots.size:Int) (own_sc cl) ⟨by omega,hlen⟩ (own_sc_rng cl)
  obtain ⟨N,hN⟩:=l_law_ok (cl.slots.size:Int) (own_sc cl) _ hlaw _ ⟨0,rfl⟩
  have hM:=lawMet (sc:=(true,(cl.slots.size:Int),own_sc cl)) (mo:=1) (as:=[vr 0]) (vals:=[.ref a]) (A:=(fun _=>a)) (rm:=room_1) (n0:=s.heap.size) (h:=s.heap) (tabP hw) (tabL hw) (by decide) l (x:=x) rfl (ps:=[2]) (ml:=20) (fr:=8) (lc:=125) rfl hN (Nat.le_of_eq rfl) tables_1 (by decide) (by decide) (by decide) (by decide +kernel) (Nat.le_refl _) (fun _=>⟨(Array.getElem?_eq_some_iff.mp hAr.1).1,cl,hAr,rfl,by show (cl.slots.size:Int)<2147483648; omega,fun i hi=>by obtain ⟨x,hx⟩:=hel i hi; exact ⟨x,hx,(own_sc_at hx).symm⟩⟩) ⟨⟨Nat.le_refl _,rfl⟩,trivial⟩
  obtain ⟨n,o,h1,h2,h3,L,rfl,N,hq⟩:=hM p e ha hc hk s m _ below hf ((Spec.applies_iff_loose hf).mp happ).1 ⟨rfl,State.Warmed39.refl s,rfl⟩ trivial
  exact ⟨n,_,h1,h2,h3,hpost _ _ _ _ _ _ ⟨Cond.after_iff.mpr rfl,Cond.after_iff.mpr (eq_i res_at (Term.int_eval (1)) rfl),trivial⟩ ⟨hq.1,hq.2.1,(hq.2.2.sift fun y hy=>Or.inr (N y hy)).mono (by decide) (by decide)⟩⟩
theorem main_1_1 : Claimed_1_1 := comes_1 fun _ _ _ _ _ _ h hF => ⟨h.1, hF⟩
theorem main_1_2 : Claimed_1_2 := comes_1 fun _ _ _ _ _ _ h hF => ⟨h.2.1, hF⟩
end Jvm.Pilot.@@N@@
namespace Jvm.Pilot.@@N@@
open Jvm Jvm.ClassFile Sem Op Lib Jvm.Free Jvm.Stand Jvm.Pilot.@@N@@.Jvm.D
/-! MADE BY PROGRAM (witnessworld.py) out of the Statement's table words and the real class files: 11 classes; the members and pool entries that the words name. The judged class is class 1, her method 5. -/
namespace start1
open Jvm.ClassFile
def u (s : String) : CpInfo := .utf8 (stringToUtf16 s)
/-- a pool by its gaps: so many unusable entries, then the entry; so many at the end -/
def gap : Nat → List CpInfo → List CpInfo
  | 0, r => r
  | n + 1, r => .unusable :: gap n r
def poolList (es : List (Nat × CpInfo)) (last : Nat) : List CpInfo := es.foldr (fun e r => gap e.1 (e.2 :: r)) (gap last [])
def pool (es : List (Nat × CpInfo)) (last : Nat) : Array CpInfo := ⟨poolList es last⟩
def fileOf (pool : Array CpInfo) (this : Nat) (attrs : Array Attribute := #[]) (ms : Array MethodInfo := #[]) (fl : Nat := 33) (sup : Nat := 0) (ifs : Array Nat := #[]) (fds : Array FieldInfo := #[]) : ClassFile where
  minorVersion := 0
  majorVersion := 65
  constantPool := pool
  accessFlags := fl
  thisClass := this
  superClass := sup
  interfaces := ifs
  fields := fds
  methods := ms
  attributes := attrs
def plain (name : String) (sup : Option ClassId) : Class where
  name := name
  kind := .ordinary
  loader := none
  accessFlags := 33
  super := sup
  interfaces := #[]
  cf := none
  fields := #[]
  methods := #[]
  instanceTypes := #[]
  staticTypes := #[]
  resolved := #[]
  callSites := []
  init := .initialized
  statics := none
  mirror := none

def pool0 : Array CpInfo := pool [(5, u "<init>"), (0, u "()V"), (1, .class_ 10), (1, u "java/lang/Object")] 113

def k0c0 : Code := { maxStack := 0, maxLocals := 1, code := object_method_1_code, exceptionTable := #[], attributes := #[] }
def k0m0 : Method := { name := "<init>", desc := "()V", sig := { parameters := [], returnType := none }, accessFlags := 1, code := some k0c0 }
/-- java/lang/Object -/
def k0 : Class := { plain "java/lang/Object" none with
  accessFlags := 33
  interfaces := #[]
  cf := some (fileOf pool0 8 #[] #[{ accessFlags := 1, nameIndex := 5, descriptorIndex := 6, attributes := #[] }] 33 0 #[] #[])
  fields := #[]
  methods := #[k0m0]
  instanceTypes := #[]
  staticTypes := #[]
  resolved := Array.replicate 124 none
  statics := none }

def pool1 : Array CpInfo := pool [(2, .class_ 4), (1, u "java/lang/Object"), (0, u "<init>"), (0, u "()V"), (0, .long 15), (1, .methodref 10 11), (0, .class_ 12), (0, .nameAndType 13 14), (0, u "GraphPlanner"), (0, u "listMask"), (0, u "(II)I"), (0, .methodref 16 17), (0, .class_ 18), (0, .nameAndType 19 20), (0, u "GraphPlannerL6"), (0, u "m"), (0, u "(JII)I"), (0, .methodref 10 22), (0, .nameAndType 23 24), (0, u "problemMask"), (0, u "(I)I"), (0, .methodref 10 26), (0, .nameAndType 27 28), (0, u "planLength"), (0, u "()I"), (0, .methodref 10 30), (0, .nameAndType 31 24), (0, u "layerMask"), (0, .integer 65536), (0, .methodref 10 34), (0, .nameAndType 5 35), (0, u "(III)V"), (0, .methodref 10 37), (0, .nameAndType 38 39), (0, u "setFact"), (0, u "(IIIZ)Z"), (0, .long 18446744073709551615), (1, .methodref 10 43), (0, .nameAndType 44 45), (0, u "setInit"), (0, u "(IZ)Z"), (0, .methodref 10 47), (0, .nameAndType 48 45), (0, u "setGoal"), (0, .methodref 10 50), (0, .nameAndType 51 24), (0, u "solve"), (0, .methodref 16 53), (0, .nameAndType 54 55), (0, u "valid"), (0, u "(LGraphPlanner;IJII)Z"), (0, .methodref 10 57), (0, .nameAndType 58 6), (0, u "resetRun"), (0, .methodref 10 60), (0, .nameAndType 61 62), (0, u "apply"), (0, u "(I)Z"), (0, .methodref 10 64), (0, .nameAndType 65 24), (0, u "runPlan"), (0, .methodref 16 67), (0, .nameAndType 68 69), (0, u "replay"), (0, u "(LGraphPlanner;IJI)I"), (0, .methodref 16 71), (0, .nameAndType 72 73), (0, u "agree"), (0, u "(LGraphPlanner;JIIII)Z"), (3, u "law"), (0, u "([I)Z")] 4

def k1m0 : Method := { name := "<init>", desc := "()V", sig := { parameters := [], returnType := none }, accessFlags := 1, code := none }
def k1c1 : Code := { maxStack := 5, maxLocals := 4, code := method_2_code, exceptionTable := #[], attributes := #[] }
def k1m1 : Method := { name := "m", desc := "(JII)I", sig := { parameters := [.long, .int, .int], returnType := some .int }, accessFlags := 10, code := some k1c1 }
def k1c2 : Code := { maxStack := 6, maxLocals := 9, code := method_3_code, exceptionTable := #[], attributes := #[] }
def k1m2 : Method := { name := "agree", desc := "(LGraphPlanner;JIIII)Z", sig := { parameters := [(.object "GraphPlanner"), .long, .int, .int, .int, .int], returnType := some .boolean }, accessFlags := 10, code := some k1c2 }
def k1c3 : Code := { maxStack := 5, maxLocals := 12, code := method_4_code, exceptionTable := #[], attributes := #[] }
def k1m3 : Method := { name := "valid", desc := "(LGraphPlanner;IJII)Z", sig := { parameters := [(.object "GraphPlanner"), .int, .long, .int, .int], returnType := some .boolean }, accessFlags := 10, code := some k1c3 }
def k1c4 : Code := { maxStack := 5, maxLocals := 10, code := method_5_code, exceptionTable := #[], attributes := #[] }
def k1m4 : Method := { name := "replay", desc := "(LGraphPlanner;IJI)I", sig := { parameters := [(.object "GraphPlanner"), .int, .long, .int], returnType := some .int }, accessFlags := 10, code := some k1c4 }
def k1c5 : Code := { maxStack := 7, maxLocals := 20, code := code, exceptionTable := #[], attributes := #[] }
def k1m5 : Method := { name := "law", desc := "([I)Z", sig := { parameters := [(.array .int)], returnType := some .boolean }, accessFlags := 9, code := some k1c5 }
/-- GraphPlannerL6 -/
def k1 : Class := { plain "GraphPlannerL6" (some 0) with
  accessFlags := 33
  interfaces := #[]
  cf := some (fileOf pool1 16 #[] #[{ accessFlags := 1, nameIndex := 5, descriptorIndex := 6, attributes := #[] }, { accessFlags := 10, nameIndex := 19, descriptorIndex := 20, attributes := #[] }, { accessFlags := 10, nameIndex := 72, descriptorIndex := 73, attributes := #[] }, { accessFlags := 10, nameIndex := 54, descriptorIndex := 55, attributes := #[] }, { accessFlags := 10, nameIndex := 68, descriptorIndex := 69, attributes := #[] }, { accessFlags := 9, nameIndex := 77, descriptorIndex := 78, attributes := #[] }] 33 2 #[] #[])
  fields := #[]
  methods := #[k1m0, k1m1, k1m2, k1m3, k1m4, k1m5]
  instanceTypes := #[]
  staticTypes := #[]
  resolved := Array.replicate 83 none
  statics := none }

def pool2 : Array CpInfo := pool [(1, .methodref 2 3), (0, .class_ 4), (0, .nameAndType 5 6), (0, u "java/lang/Object"), (0, u "<init>"), (0, u "()V"), (0, .fieldref 8 9), (0, .class_ 10), (0, .nameAndType 11 12), (0, u "GraphPlanner"), (0, u "markUnknown"), (0, u "I"), (0, .fieldref 8 14), (0, .nameAndType 15 12), (0, u "markSolved"), (0, .fieldref 8 17), (0, .nameAndType 18 12), (0, u "markFailed"), (0, .fieldref 8 20), (0, .nameAndType 21 22), (0, u "plan"), (0, u "[I"), (0, .fieldref 8 24), (0, .nameAndType 25 22), (0, u "preList"), (0, .fieldref 8 27), (0, .nameAndType 28 22), (0, u "addList"), (0, .fieldref 8 30), (0, .nameAndType 31 22), (0, u "delList"), (0, .fieldref 8 33), (0, .nameAndType 34 22), (0, u "relax"), (0, .fieldref 8 36), (0, .nameAndType 37 22), (0, u "conflict"), (0, .fieldref 8 39), (0, .nameAndType 40 22), (0, u "uPre"), (0, .fieldref 8 42), (0, .nameAndType 43 22), (0, u "uAdd"), (0, .fieldref 8 45), (0, .nameAndType 46 22), (0, u "uDel"), (0, .fieldref 8 48), (0, .nameAndType 49 50), (0, u "uOk"), (0, u "[Z"), (0, .fieldref 8 52), (0, .nameAndType 53 22), (0, u "gFacts"), (0, .fieldref 8 55), (0, .nameAndType 56 22), (0, u "gActs"), (0, .fieldref 8 58), (0, .nameAndType 59 22), (0, u "gFMutex"), (0, .fieldref 8 61), (0, .nameAndType 62 22), (0, u "gAMutex"), (0, .fieldref 8 64), (0, .nameAndType 65 22), (0, u "gNoopMutex"), (0, .fieldref 8 67), (0, .nameAndType 68 50), (0, u "cand"), (0, .fieldref 8 70), (0, .nameAndType 71 22), (0, u "memo"), (0, .fieldref 8 73), (0, .nameAndType 74 22), (0, u "choice"), (0, .fieldref 8 76), (0, .nameAndType 77 22), (0, u "stK"), (0, .fieldref 8 79), (0, .nameAndType 80 22), (0, u "stG"), (0, .fieldref 8 82), (0, .nameAndType 83 22), (0, u "stX"), (0, .methodref 8 85), (0, .nameAndType 86 87), (0, u "clamp"), (0, u "(III)I"), (0, .fieldref 8 89), (0, .nameAndType 90 12), (0, u "nF"), (0, .fieldref 8 92), (0, .nameAndType 93 12), (0, u "nA"), (0, .fieldref 8 95), (0, .nameAndType 96 12), (0, u "maxL"), (0, .fieldref 8 98), (0, .nameAndType 99 12), (0, u "initMask"), (0, .fieldref 8 101), (0, .nameAndType 102 12), (0, u "goalMask"), (0, .fieldref 8 104), (0, .nameAndType 105 12), (0, u "runMask"), (0, .fieldref 8 107), (0, .nameAndType 108 12), (0, u "planLen"), (0, .fieldref 8 110), (0, .nameAndType 111 12), (0, u "sp"), (0, .fieldref 8 113), (0, .nameAndType 114 12), (0, u "graphLevels"), (0, .methodref 8 116), (0, .nameAndType 117 118), (0, u "isAction"), (0, u "(I)Z"), (0, .methodref 8 120), (0, .nameAndType 121 118), (0, u "isKind"), (0, .methodref 8 123), (0, .nameAndType 124 118), (0, u "isFact"), (0, .methodref 8 126), (0, .nameAndType 127 128), (0, u "withBit"), (0, u "(IIZ)I"), (0, .methodref 8 130), (0, .nameAndType 131 6), (0, u "markStale"), (0, .methodref 8 133), (0, .nameAndType 134 135), (0, u "rawInterfere"), (0, u "(II)Z"), (3, .methodref 8 140), (0, .nameAndType 141 142), (0, u "prepareSearch"), (0, u "(I)V"), (0, .methodref 8 144), (0, .nameAndType 145 135), (0, u "solvable"), (0, .methodref 8 147), (0, .nameAndType 148 142), (0, u "extractPlan"), (0, .methodref 8 150), (0, .nameAndType 151 6), (0, u "clearPlan"), (0, .methodref 8 153), (0, .nameAndType 154 155), (0, u "replayLayer"), (0, u "(I)I"), (0, .methodref 8 157), (0, .nameAndType 158 118), (0, u "apply"), (3, .methodref 8 163), (0, .nameAndType 164 6), (0, u "buildConflicts"), (0, .methodref 8 166), (0, .nameAndType 167 6), (0, u "buildUnions"), (0, .methodref 8 169), (0, .nameAndType 170 142), (0, u "buildGraph"), (0, .methodref 8 172), (0, .nameAndType 173 142), (0, u "buildCandidates"), (0, .methodref 8 175), (0, .nameAndType 176 6), (0, u "clearMemo"), (0, .methodref 8 178), (0, .nameAndType 179 155), (0, u "conflictRow"), (0, .methodref 8 181), (0, .nameAndType 182 155), (0, u "lowestBit"), (0, .methodref 8 184), (0, .nameAndType 185 142), (0, u "buildActionLevel"), (0, .methodref 8 187), (0, .nameAndType 188 142), (0, u "buildFactLevel"), (0, .methodref 8 190), (0, .nameAndType 191 135), (0, u "actionPresent"), (0, .methodref 8 193), (0, .nameAndType 194 195), (0, u "actionMutexRow"), (0, u "(II)I"), (0, .methodref 8 197), (0, .nameAndType 198 195), (0, u "noopMutexRow"), (0, .methodref 8 200), (0, .nameAndType 201 135), (0, u "hasMutexPair"), (0, .methodref 8 203), (0, .nameAndType 204 135), (0, u "hasBit"), (0, .methodref 8 206), (0, .nameAndType 207 208), (0, u "meetsMutex"), (0, u "(III)Z"), (0, .methodref 8 210), (0, .nameAndType 211 195), (0, u "factMutexRow"), (0, .methodref 8 213), (0, .nameAndType 214 208), (0, u "factsMutex"), (0, .methodref 8 216), (0, .nameAndType 217 195), (0, u "achievers"), (0, .methodref 8 219), (0, .nameAndType 220 135), (0, u "layerCandidate"), (0, .methodref 8 222), (0, .nameAndType 223 195), (0, u "statusIndex"), (0, .methodref 8 225), (0, .nameAndType 226 135), (0, u "goalPossible"), (0, .methodref 8 228), (0, .nameAndType 229 195), (0, u "quickStatus"), (0, .methodref 8 231), (0, .nameAndType 232 135), (0, u "push"), (0, .integer 40000000), (0, .methodref 8 235), (0, .nameAndType 236 142), (0, u "searchStep"), (0, .methodref 8 238), (0, .nameAndType 239 240), (0, u "record"), (0, u "(IIII)V"), (0, .methodref 8 242), (0, .nameAndType 243 135), (0, u "regressOk"), (0, .methodref 8 245), (0, .nameAndType 246 195), (0, u "regress"), (0, u "PRE"), (2, u "ADD"), (1, u "DEL"), (1, u "INIT"), (0, u "GOAL"), (0, u "RUN"), (0, u "NO_PLAN"), (1, u "STALE"), (1, u "(III)V"), (2, u "setFact"), (0, u "(IIIZ)Z"), (1, u "setInit"), (0, u "(IZ)Z"), (0, u "setGoal"), (0, u "listMask"), (0, u "problemMask"), (3, u "()I"), (0, u "solve"), (0, u "planLength"), (0, u "layerMask"), (0, u "resetRun"), (0, u "runPlan")] 4

def k2c0 : Code := { maxStack := 5, maxLocals := 4, code := prog_1_method_1_code, exceptionTable := #[], attributes := #[] }
def k2m0 : Method := { name := "<init>", desc := "(III)V", sig := { parameters := [.int, .int, .int], returnType := none }, accessFlags := 1, code := some k2c0 }
def k2c1 : Code := { maxStack := 6, maxLocals := 6, code := prog_1_method_2_code, exceptionTable := #[], attributes := #[] }
def k2m1 : Method := { name := "setFact", desc := "(IIIZ)Z", sig := { parameters := [.int, .int, .int, .boolean], returnType := some .boolean }, accessFlags := 1, code := some k2c1 }
def k2c2 : Code := { maxStack := 5, maxLocals := 3, code := prog_1_method_3_code, exceptionTable := #[], attributes := #[] }
def k2m2 : Method := { name := "setInit", desc := "(IZ)Z", sig := { parameters := [.int, .boolean], returnType := some .boolean }, accessFlags := 1, code := some k2c2 }
def k2c3 : Code := { maxStack := 5, maxLocals := 3, code := prog_1_method_4_code, exceptionTable := #[], attributes := #[] }
def k2m3 : Method := { name := "setGoal", desc := "(IZ)Z", sig := { parameters := [.int, .boolean], returnType := some .boolean }, accessFlags := 1, code := some k2c3 }
def k2c4 : Code := { maxStack := 2, maxLocals := 3, code := prog_1_method_5_code, exceptionTable := #[], attributes := #[] }
def k2m4 : Method := { name := "listMask", desc := "(II)I", sig := { parameters := [.int, .int], returnType := some .int }, accessFlags := 1, code := some k2c4 }
def k2c5 : Code := { maxStack := 2, maxLocals := 2, code := prog_1_method_6_code, exceptionTable := #[], attributes := #[] }
def k2m5 : Method := { name := "problemMask", desc := "(I)I", sig := { parameters := [.int], returnType := some .int }, accessFlags := 1, code := some k2c5 }
def k2c6 : Code := { maxStack := 4, maxLocals := 4, code := prog_1_method_10_code, exceptionTable := #[], attributes := #[] }
def k2m6 : Method := { name := "solve", desc := "(I)I", sig := { parameters := [.int], returnType := some .int }, accessFlags := 1, code := some k2c6 }
def k2c7 : Code := { maxStack := 1, maxLocals := 1, code := prog_1_method_11_code, exceptionTable := #[], attributes := #[] }
def k2m7 : Method := { name := "planLength", desc := "()I", sig := { parameters := [], returnType := some .int }, accessFlags := 1, code := some k2c7 }
def k2c8 : Code := { maxStack := 2, maxLocals := 2, code := prog_1_method_12_code, exceptionTable := #[], attributes := #[] }
def k2m8 : Method := { name := "layerMask", desc := "(I)I", sig := { parameters := [.int], returnType := some .int }, accessFlags := 1, code := some k2c8 }
def k2c9 : Code := { maxStack := 2, maxLocals := 1, code := prog_1_method_13_code, exceptionTable := #[], attributes := #[] }
def k2m9 : Method := { name := "resetRun", desc := "()V", sig := { parameters := [], returnType := none }, accessFlags := 1, code := some k2c9 }
def k2c10 : Code := { maxStack := 4, maxLocals := 2, code := prog_1_method_14_code, exceptionTable := #[], attributes := #[] }
def k2m10 : Method := { name := "apply", desc := "(I)Z", sig := { parameters := [.int], returnType := some .boolean }, accessFlags := 1, code := some k2c10 }
def k2c11 : Code := { maxStack := 4, maxLocals := 5, code := prog_1_method_15_code, exceptionTable := #[], attributes := #[] }
def k2m11 : Method := { name := "runPlan", desc := "(I)I", sig := { parameters := [.int], returnType := some .int }, accessFlags := 1, code := some k2c11 }
def k2c12 : Code := { maxStack := 3, maxLocals := 5, code := prog_1_method_16_code, exceptionTable := #[], attributes := #[] }
def k2m12 : Method := { name := "replayLayer", desc := "(I)I", sig := { parameters := [.int], returnType := some .int }, accessFlags := 2, code := some k2c12 }
def k2c13 : Code := { maxStack := 2, maxLocals := 4, code := prog_1_method_17_code, exceptionTable := #[], attributes := #[] }
def k2m13 : Method := { name := "clamp", desc := "(III)I", sig := { parameters := [.int, .int, .int], returnType := some .int }, accessFlags := 2, code := some k2c13 }
def k2c14 : Code := { maxStack := 2, maxLocals := 2, code := prog_1_method_18_code, exceptionTable := #[], attributes := #[] }
def k2m14 : Method := { name := "isFact", desc := "(I)Z", sig := { parameters := [.int], returnType := some .boolean }, accessFlags := 2, code := some k2c14 }
def k2c15 : Code := { maxStack := 2, maxLocals := 2, code := prog_1_method_19_code, exceptionTable := #[], attributes := #[] }
def k2m15 : Method := { name := "isAction", desc := "(I)Z", sig := { parameters := [.int], returnType := some .boolean }, accessFlags := 2, code := some k2c15 }
def k2c16 : Code := { maxStack := 2, maxLocals := 2, code := prog_1_method_20_code, exceptionTable := #[], attributes := #[] }
def k2m16 : Method := { name := "isKind", desc := "(I)Z", sig := { parameters := [.int], returnType := some .boolean }, accessFlags := 2, code := some k2c16 }
def k2c17 : Code := { maxStack := 3, maxLocals := 4, code := prog_1_method_21_code, exceptionTable := #[], attributes := #[] }
def k2m17 : Method := { name := "withBit", desc := "(IIZ)I", sig := { parameters := [.int, .int, .boolean], returnType := some .int }, accessFlags := 2, code := some k2c17 }
def k2c18 : Code := { maxStack := 3, maxLocals := 3, code := prog_1_method_22_code, exceptionTable := #[], attributes := #[] }
def k2m18 : Method := { name := "hasBit", desc := "(II)Z", sig := { parameters := [.int, .int], returnType := some .boolean }, accessFlags := 2, code := some k2c18 }
def k2c19 : Code := { maxStack := 2, maxLocals := 1, code := prog_1_method_23_code, exceptionTable := #[], attributes := #[] }
def k2m19 : Method := { name := "markStale", desc := "()V", sig := { parameters := [], returnType := none }, accessFlags := 2, code := some k2c19 }
def k2c20 : Code := { maxStack := 3, maxLocals := 2, code := prog_1_method_24_code, exceptionTable := #[], attributes := #[] }
def k2m20 : Method := { name := "clearPlan", desc := "()V", sig := { parameters := [], returnType := none }, accessFlags := 2, code := some k2c20 }
def k2c21 : Code := { maxStack := 4, maxLocals := 3, code := prog_1_method_25_code, exceptionTable := #[], attributes := #[] }
def k2m21 : Method := { name := "rawInterfere", desc := "(II)Z", sig := { parameters := [.int, .int], returnType := some .boolean }, accessFlags := 2, code := some k2c21 }
def k2c22 : Code := { maxStack := 2, maxLocals := 2, code := prog_1_method_28_code, exceptionTable := #[], attributes := #[] }
def k2m22 : Method := { name := "prepareSearch", desc := "(I)V", sig := { parameters := [.int], returnType := none }, accessFlags := 2, code := some k2c22 }
def k2c23 : Code := { maxStack := 4, maxLocals := 2, code := prog_1_method_29_code, exceptionTable := #[], attributes := #[] }
def k2m23 : Method := { name := "buildConflicts", desc := "()V", sig := { parameters := [], returnType := none }, accessFlags := 2, code := some k2c23 }
def k2c24 : Code := { maxStack := 3, maxLocals := 4, code := prog_1_method_30_code, exceptionTable := #[], attributes := #[] }
def k2m24 : Method := { name := "conflictRow", desc := "(I)I", sig := { parameters := [.int], returnType := some .int }, accessFlags := 2, code := some k2c24 }
def k2c25 : Code := { maxStack := 5, maxLocals := 5, code := prog_1_method_31_code, exceptionTable := #[], attributes := #[] }
def k2m25 : Method := { name := "buildUnions", desc := "()V", sig := { parameters := [], returnType := none }, accessFlags := 2, code := some k2c25 }
def k2c26 : Code := { maxStack := 3, maxLocals := 3, code := prog_1_method_32_code, exceptionTable := #[], attributes := #[] }
def k2m26 : Method := { name := "lowestBit", desc := "(I)I", sig := { parameters := [.int], returnType := some .int }, accessFlags := 2, code := some k2c26 }
def k2c27 : Code := { maxStack := 3, maxLocals := 2, code := prog_1_method_33_code, exceptionTable := #[], attributes := #[] }
def k2m27 : Method := { name := "clearMemo", desc := "()V", sig := { parameters := [], returnType := none }, accessFlags := 2, code := some k2c27 }
def k2c28 : Code := { maxStack := 5, maxLocals := 3, code := prog_1_method_34_code, exceptionTable := #[], attributes := #[] }
def k2m28 : Method := { name := "buildGraph", desc := "(I)V", sig := { parameters := [.int], returnType := none }, accessFlags := 2, code := some k2c28 }
def k2c29 : Code := { maxStack := 5, maxLocals := 4, code := prog_1_method_35_code, exceptionTable := #[], attributes := #[] }
def k2m29 : Method := { name := "buildActionLevel", desc := "(I)V", sig := { parameters := [.int], returnType := none }, accessFlags := 2, code := some k2c29 }
def k2c30 : Code := { maxStack := 4, maxLocals := 3, code := prog_1_method_36_code, exceptionTable := #[], attributes := #[] }
def k2m30 : Method := { name := "actionPresent", desc := "(II)Z", sig := { parameters := [.int, .int], returnType := some .boolean }, accessFlags := 2, code := some k2c30 }
def k2c31 : Code := { maxStack := 5, maxLocals := 5, code := prog_1_method_37_code, exceptionTable := #[], attributes := #[] }
def k2m31 : Method := { name := "actionMutexRow", desc := "(II)I", sig := { parameters := [.int, .int], returnType := some .int }, accessFlags := 2, code := some k2c31 }
def k2c32 : Code := { maxStack := 4, maxLocals := 6, code := prog_1_method_38_code, exceptionTable := #[], attributes := #[] }
def k2m32 : Method := { name := "noopMutexRow", desc := "(II)I", sig := { parameters := [.int, .int], returnType := some .int }, accessFlags := 2, code := some k2c32 }
def k2c33 : Code := { maxStack := 5, maxLocals := 4, code := prog_1_method_39_code, exceptionTable := #[], attributes := #[] }
def k2m33 : Method := { name := "buildFactLevel", desc := "(I)V", sig := { parameters := [.int], returnType := none }, accessFlags := 2, code := some k2c33 }
def k2c34 : Code := { maxStack := 4, maxLocals := 5, code := prog_1_method_40_code, exceptionTable := #[], attributes := #[] }
def k2m34 : Method := { name := "factMutexRow", desc := "(II)I", sig := { parameters := [.int, .int], returnType := some .int }, accessFlags := 2, code := some k2c34 }
def k2c35 : Code := { maxStack := 4, maxLocals := 9, code := prog_1_method_41_code, exceptionTable := #[], attributes := #[] }
def k2m35 : Method := { name := "factsMutex", desc := "(III)Z", sig := { parameters := [.int, .int, .int], returnType := some .boolean }, accessFlags := 2, code := some k2c35 }
def k2c36 : Code := { maxStack := 3, maxLocals := 5, code := prog_1_method_42_code, exceptionTable := #[], attributes := #[] }
def k2m36 : Method := { name := "achievers", desc := "(II)I", sig := { parameters := [.int, .int], returnType := some .int }, accessFlags := 2, code := some k2c36 }
def k2c37 : Code := { maxStack := 3, maxLocals := 5, code := prog_1_method_43_code, exceptionTable := #[], attributes := #[] }
def k2m37 : Method := { name := "meetsMutex", desc := "(III)Z", sig := { parameters := [.int, .int, .int], returnType := some .boolean }, accessFlags := 2, code := some k2c37 }
def k2c38 : Code := { maxStack := 4, maxLocals := 3, code := prog_1_method_44_code, exceptionTable := #[], attributes := #[] }
def k2m38 : Method := { name := "hasMutexPair", desc := "(II)Z", sig := { parameters := [.int, .int], returnType := some .boolean }, accessFlags := 2, code := some k2c38 }
def k2c39 : Code := { maxStack := 5, maxLocals := 5, code := prog_1_method_45_code, exceptionTable := #[], attributes := #[] }
def k2m39 : Method := { name := "buildCandidates", desc := "(I)V", sig := { parameters := [.int], returnType := none }, accessFlags := 2, code := some k2c39 }
def k2c40 : Code := { maxStack := 3, maxLocals := 4, code := prog_1_method_46_code, exceptionTable := #[], attributes := #[] }
def k2m40 : Method := { name := "layerCandidate", desc := "(II)Z", sig := { parameters := [.int, .int], returnType := some .boolean }, accessFlags := 2, code := some k2c40 }
def k2c41 : Code := { maxStack := 3, maxLocals := 3, code := prog_1_method_47_code, exceptionTable := #[], attributes := #[] }
def k2m41 : Method := { name := "regressOk", desc := "(II)Z", sig := { parameters := [.int, .int], returnType := some .boolean }, accessFlags := 2, code := some k2c41 }
def k2c42 : Code := { maxStack := 4, maxLocals := 3, code := prog_1_method_48_code, exceptionTable := #[], attributes := #[] }
def k2m42 : Method := { name := "regress", desc := "(II)I", sig := { parameters := [.int, .int], returnType := some .int }, accessFlags := 2, code := some k2c42 }
def k2c43 : Code := { maxStack := 4, maxLocals := 4, code := prog_1_method_49_code, exceptionTable := #[], attributes := #[] }
def k2m43 : Method := { name := "statusIndex", desc := "(II)I", sig := { parameters := [.int, .int], returnType := some .int }, accessFlags := 2, code := some k2c43 }
def k2c44 : Code := { maxStack := 5, maxLocals := 4, code := prog_1_method_50_code, exceptionTable := #[], attributes := #[] }
def k2m44 : Method := { name := "quickStatus", desc := "(II)I", sig := { parameters := [.int, .int], returnType := some .int }, accessFlags := 2, code := some k2c44 }
def k2c45 : Code := { maxStack := 3, maxLocals := 3, code := prog_1_method_51_code, exceptionTable := #[], attributes := #[] }
def k2m45 : Method := { name := "goalPossible", desc := "(II)Z", sig := { parameters := [.int, .int], returnType := some .boolean }, accessFlags := 2, code := some k2c45 }
def k2c46 : Code := { maxStack := 3, maxLocals := 6, code := prog_1_method_52_code, exceptionTable := #[], attributes := #[] }
def k2m46 : Method := { name := "record", desc := "(IIII)V", sig := { parameters := [.int, .int, .int, .int], returnType := none }, accessFlags := 2, code := some k2c46 }
def k2c47 : Code := { maxStack := 3, maxLocals := 3, code := prog_1_method_53_code, exceptionTable := #[], attributes := #[] }
def k2m47 : Method := { name := "push", desc := "(II)Z", sig := { parameters := [.int, .int], returnType := some .boolean }, accessFlags := 2, code := some k2c47 }
def k2c48 : Code := { maxStack := 4, maxLocals := 6, code := prog_1_method_54_code, exceptionTable := #[], attributes := #[] }
def k2m48 : Method := { name := "solvable", desc := "(II)Z", sig := { parameters := [.int, .int], returnType := some .boolean }, accessFlags := 2, code := some k2c48 }
def k2c49 : Code := { maxStack := 5, maxLocals := 8, code := prog_1_method_55_code, exceptionTable := #[], attributes := #[] }
def k2m49 : Method := { name := "searchStep", desc := "(I)V", sig := { parameters := [.int], returnType := none }, accessFlags := 2, code := some k2c49 }
def k2c50 : Code := { maxStack := 4, maxLocals := 5, code := prog_1_method_56_code, exceptionTable := #[], attributes := #[] }
def k2m50 : Method := { name := "extractPlan", desc := "(I)V", sig := { parameters := [.int], returnType := none }, accessFlags := 2, code := some k2c50 }
/-- GraphPlanner -/
def k2 : Class := { plain "GraphPlanner" (some 0) with
  accessFlags := 49
  interfaces := #[]
  cf := some (fileOf pool2 8 #[] #[{ accessFlags := 1, nameIndex := 5, descriptorIndex := 261, attributes := #[] }, { accessFlags := 1, nameIndex := 264, descriptorIndex := 265, attributes := #[] }, { accessFlags := 1, nameIndex := 267, descriptorIndex := 268, attributes := #[] }, { accessFlags := 1, nameIndex := 269, descriptorIndex := 268, attributes := #[] }, { accessFlags := 1, nameIndex := 270, descriptorIndex := 195, attributes := #[] }, { accessFlags := 1, nameIndex := 271, descriptorIndex := 155, attributes := #[] }, { accessFlags := 1, nameIndex := 276, descriptorIndex := 155, attributes := #[] }, { accessFlags := 1, nameIndex := 277, descriptorIndex := 275, attributes := #[] }, { accessFlags := 1, nameIndex := 278, descriptorIndex := 155, attributes := #[] }, { accessFlags := 1, nameIndex := 279, descriptorIndex := 6, attributes := #[] }, { accessFlags := 1, nameIndex := 158, descriptorIndex := 118, attributes := #[] }, { accessFlags := 1, nameIndex := 280, descriptorIndex := 155, attributes := #[] }, { accessFlags := 2, nameIndex := 154, descriptorIndex := 155, attributes := #[] }, { accessFlags := 2, nameIndex := 86, descriptorIndex := 87, attributes := #[] }, { accessFlags := 2, nameIndex := 124, descriptorIndex := 118, attributes := #[] }, { accessFlags := 2, nameIndex := 117, descriptorIndex := 118, attributes := #[] }, { accessFlags := 2, nameIndex := 121, descriptorIndex := 118, attributes := #[] }, { accessFlags := 2, nameIndex := 127, descriptorIndex := 128, attributes := #[] }, { accessFlags := 2, nameIndex := 204, descriptorIndex := 135, attributes := #[] }, { accessFlags := 2, nameIndex := 131, descriptorIndex := 6, attributes := #[] }, { accessFlags := 2, nameIndex := 151, descriptorIndex := 6, attributes := #[] }, { accessFlags := 2, nameIndex := 134, descriptorIndex := 135, attributes := #[] }, { accessFlags := 2, nameIndex := 141, descriptorIndex := 142, attributes := #[] }, { accessFlags := 2, nameIndex := 164, descriptorIndex := 6, attributes := #[] }, { accessFlags := 2, nameIndex := 179, descriptorIndex := 155, attributes := #[] }, { accessFlags := 2, nameIndex := 167, descriptorIndex := 6, attributes := #[] }, { accessFlags := 2, nameIndex := 182, descriptorIndex := 155, attributes := #[] }, { accessFlags := 2, nameIndex := 176, descriptorIndex := 6, attributes := #[] }, { accessFlags := 2, nameIndex := 170, descriptorIndex := 142, attributes := #[] }, { accessFlags := 2, nameIndex := 185, descriptorIndex := 142, attributes := #[] }, { accessFlags := 2, nameIndex := 191, descriptorIndex := 135, attributes := #[] }, { accessFlags := 2, nameIndex := 194, descriptorIndex := 195, attributes := #[] }, { accessFlags := 2, nameIndex := 198, descriptorIndex := 195, attributes := #[] }, { accessFlags := 2, nameIndex := 188, descriptorIndex := 142, attributes := #[] }, { accessFlags := 2, nameIndex := 211, descriptorIndex := 195, attributes := #[] }, { accessFlags := 2, nameIndex := 214, descriptorIndex := 208, attributes := #[] }, { accessFlags := 2, nameIndex := 217, descriptorIndex := 195, attributes := #[] }, { accessFlags := 2, nameIndex := 207, descriptorIndex := 208, attributes := #[] }, { accessFlags := 2, nameIndex := 201, descriptorIndex := 135, attributes := #[] }, { accessFlags := 2, nameIndex := 173, descriptorIndex := 142, attributes := #[] }, { accessFlags := 2, nameIndex := 220, descriptorIndex := 135, attributes := #[] }, { accessFlags := 2, nameIndex := 243, descriptorIndex := 135, attributes := #[] }, { accessFlags := 2, nameIndex := 246, descriptorIndex := 195, attributes := #[] }, { accessFlags := 2, nameIndex := 223, descriptorIndex := 195, attributes := #[] }, { accessFlags := 2, nameIndex := 229, descriptorIndex := 195, attributes := #[] }, { accessFlags := 2, nameIndex := 226, descriptorIndex := 135, attributes := #[] }, { accessFlags := 2, nameIndex := 239, descriptorIndex := 240, attributes := #[] }, { accessFlags := 2, nameIndex := 232, descriptorIndex := 135, attributes := #[] }, { accessFlags := 2, nameIndex := 145, descriptorIndex := 135, attributes := #[] }, { accessFlags := 2, nameIndex := 236, descriptorIndex := 142, attributes := #[] }, { accessFlags := 2, nameIndex := 148, descriptorIndex := 142, attributes := #[] }] 49 2 #[] #[{ accessFlags := 25, nameIndex := 247, descriptorIndex := 12, attributes := #[] }, { accessFlags := 25, nameIndex := 250, descriptorIndex := 12, attributes := #[] }, { accessFlags := 25, nameIndex := 252, descriptorIndex := 12, attributes := #[] }, { accessFlags := 25, nameIndex := 254, descriptorIndex := 12, attributes := #[] }, { accessFlags := 25, nameIndex := 255, descriptorIndex := 12, attributes := #[] }, { accessFlags := 25, nameIndex := 256, descriptorIndex := 12, attributes := #[] }, { accessFlags := 25, nameIndex := 257, descriptorIndex := 12, attributes := #[] }, { accessFlags := 25, nameIndex := 259, descriptorIndex := 12, attributes := #[] }, { accessFlags := 18, nameIndex := 11, descriptorIndex := 12, attributes := #[] }, { accessFlags := 18, nameIndex := 15, descriptorIndex := 12, attributes := #[] }, { accessFlags := 18, nameIndex := 18, descriptorIndex := 12, attributes := #[] }, { accessFlags := 2, nameIndex := 90, descriptorIndex := 12, attributes := #[] }, { accessFlags := 2, nameIndex := 93, descriptorIndex := 12, attributes := #[] }, { accessFlags := 2, nameIndex := 96, descriptorIndex := 12, attributes := #[] }, { accessFlags := 2, nameIndex := 99, descriptorIndex := 12, attributes := #[] }, { accessFlags := 2, nameIndex := 102, descriptorIndex := 12, attributes := #[] }, { accessFlags := 2, nameIndex := 105, descriptorIndex := 12, attributes := #[] }, { accessFlags := 2, nameIndex := 108, descriptorIndex := 12, attributes := #[] }, { accessFlags := 2, nameIndex := 21, descriptorIndex := 22, attributes := #[] }, { accessFlags := 2, nameIndex := 25, descriptorIndex := 22, attributes := #[] }, { accessFlags := 2, nameIndex := 28, descriptorIndex := 22, attributes := #[] }, { accessFlags := 2, nameIndex := 31, descriptorIndex := 22, attributes := #[] }, { accessFlags := 2, nameIndex := 34, descriptorIndex := 22, attributes := #[] }, { accessFlags := 2, nameIndex := 37, descriptorIndex := 22, attributes := #[] }, { accessFlags := 2, nameIndex := 40, descriptorIndex := 22, attributes := #[] }, { accessFlags := 2, nameIndex := 43, descriptorIndex := 22, attributes := #[] }, { accessFlags := 2, nameIndex := 46, descriptorIndex := 22, attributes := #[] }, { accessFlags := 2, nameIndex := 49, descriptorIndex := 50, attributes := #[] }, { accessFlags := 2, nameIndex := 53, descriptorIndex := 22, attributes := #[] }, { accessFlags := 2, nameIndex := 56, descriptorIndex := 22, attributes := #[] }, { accessFlags := 2, nameIndex := 59, descriptorIndex := 22, attributes := #[] }, { accessFlags := 2, nameIndex := 62, descriptorIndex := 22, attributes := #[] }, { accessFlags := 2, nameIndex := 65, descriptorIndex := 22, attributes := #[] }, { accessFlags := 2, nameIndex := 114, descriptorIndex := 12, attributes := #[] }, { accessFlags := 2, nameIndex := 68, descriptorIndex := 50, attributes := #[] }, { accessFlags := 2, nameIndex := 71, descriptorIndex := 22, attributes := #[] }, { accessFlags := 2, nameIndex := 74, descriptorIndex := 22, attributes := #[] }, { accessFlags := 2, nameIndex := 77, descriptorIndex := 22, attributes := #[] }, { accessFlags := 2, nameIndex := 80, descriptorIndex := 22, attributes := #[] }, { accessFlags := 2, nameIndex := 83, descriptorIndex := 22, attributes := #[] }, { accessFlags := 2, nameIndex := 111, descriptorIndex := 12, attributes := #[] }])
  fields := #[{ name := "PRE", type := .int, accessFlags := 25, slot := 0, constantValue := 0 }, { name := "ADD", type := .int, accessFlags := 25, slot := 1, constantValue := 0 }, { name := "DEL", type := .int, accessFlags := 25, slot := 2, constantValue := 0 }, { name := "INIT", type := .int, accessFlags := 25, slot := 3, constantValue := 0 }, { name := "GOAL", type := .int, accessFlags := 25, slot := 4, constantValue := 0 }, { name := "RUN", type := .int, accessFlags := 25, slot := 5, constantValue := 0 }, { name := "NO_PLAN", type := .int, accessFlags := 25, slot := 6, constantValue := 0 }, { name := "STALE", type := .int, accessFlags := 25, slot := 7, constantValue := 0 }, { name := "markUnknown", type := .int, accessFlags := 18, slot := 0, constantValue := 0 }, { name := "markSolved", type := .int, accessFlags := 18, slot := 1, constantValue := 0 }, { name := "markFailed", type := .int, accessFlags := 18, slot := 2, constantValue := 0 }, { name := "nF", type := .int, accessFlags := 2, slot := 3, constantValue := 0 }, { name := "nA", type := .int, accessFlags := 2, slot := 4, constantValue := 0 }, { name := "maxL", type := .int, accessFlags := 2, slot := 5, constantValue := 0 }, { name := "initMask", type := .int, accessFlags := 2, slot := 6, constantValue := 0 }, { name := "goalMask", type := .int, accessFlags := 2, slot := 7, constantValue := 0 }, { name := "runMask", type := .int, accessFlags := 2, slot := 8, constantValue := 0 }, { name := "planLen", type := .int, accessFlags := 2, slot := 9, constantValue := 0 }, { name := "plan", type := (.array .int), accessFlags := 2, slot := 10, constantValue := 0 }, { name := "preList", type := (.array .int), accessFlags := 2, slot := 11, constantValue := 0 }, { name := "addList", type := (.array .int), accessFlags := 2, slot := 12, constantValue := 0 }, { name := "delList", type := (.array .int), accessFlags := 2, slot := 13, constantValue := 0 }, { name := "relax", type := (.array .int), accessFlags := 2, slot := 14, constantValue := 0 }, { name := "conflict", type := (.array .int), accessFlags := 2, slot := 15, constantValue := 0 }, { name := "uPre", type := (.array .int), accessFlags := 2, slot := 16, constantValue := 0 }, { name := "uAdd", type := (.array .int), accessFlags := 2, slot := 17, constantValue := 0 }, { name := "uDel", type := (.array .int), accessFlags := 2, slot := 18, constantValue := 0 }, { name := "uOk", type := (.array .boolean), accessFlags := 2, slot := 19, constantValue := 0 }, { name := "gFacts", type := (.array .int), accessFlags := 2, slot := 20, constantValue := 0 }, { name := "gActs", type := (.array .int), accessFlags := 2, slot := 21, constantValue := 0 }, { name := "gFMutex", type := (.array .int), accessFlags := 2, slot := 22, constantValue := 0 }, { name := "gAMutex", type := (.array .int), accessFlags := 2, slot := 23, constantValue := 0 }, { name := "gNoopMutex", type := (.array .int), accessFlags := 2, slot := 24, constantValue := 0 }, { name := "graphLevels", type := .int, accessFlags := 2, slot := 25, constantValue := 0 }, { name := "cand", type := (.array .boolean), accessFlags := 2, slot := 26, constantValue := 0 }, { name := "memo", type := (.array .int), accessFlags := 2, slot := 27, constantValue := 0 }, { name := "choice", type := (.array .int), accessFlags := 2, slot := 28, constantValue := 0 }, { name := "stK", type := (.array .int), accessFlags := 2, slot := 29, constantValue := 0 }, { name := "stG", type := (.array .int), accessFlags := 2, slot := 30, constantValue := 0 }, { name := "stX", type := (.array .int), accessFlags := 2, slot := 31, constantValue := 0 }, { name := "sp", type := .int, accessFlags := 2, slot := 32, constantValue := 0 }]
  methods := #[k2m0, k2m1, k2m2, k2m3, k2m4, k2m5, k2m6, k2m7, k2m8, k2m9, k2m10, k2m11, k2m12, k2m13, k2m14, k2m15, k2m16, k2m17, k2m18, k2m19, k2m20, k2m21, k2m22, k2m23, k2m24, k2m25, k2m26, k2m27, k2m28, k2m29, k2m30, k2m31, k2m32, k2m33, k2m34, k2m35, k2m36, k2m37, k2m38, k2m39, k2m40, k2m41, k2m42, k2m43, k2m44, k2m45, k2m46, k2m47, k2m48, k2m49, k2m50]
  instanceTypes := #[.int, .int, .int, .int, .int, .int, .int, .int, .int, .int, (.array .int), (.array .int), (.array .int), (.array .int), (.array .int), (.array .int), (.array .int), (.array .int), (.array .int), (.array .boolean), (.array .int), (.array .int), (.array .int), (.array .int), (.array .int), .int, (.array .boolean), (.array .int), (.array .int), (.array .int), (.array .int), (.array .int), .int]
  staticTypes := #[.int, .int, .int, .int, .int, .int, .int, .int]
  resolved := Array.replicate 285 none
  statics := none }

def pool3 : Array CpInfo := pool [(1, u "java/lang/Cloneable"), (0, .class_ 1), (0, u "java/lang/Object"), (0, .class_ 3)] 3

/-- java/lang/Cloneable -/
def k3 : Class := { plain "java/lang/Cloneable" (some 0) with
  accessFlags := 1537
  interfaces := #[]
  cf := some (fileOf pool3 2 #[] #[] 1537 4 #[] #[])
  fields := #[]
  methods := #[]
  instanceTypes := #[]
  staticTypes := #[]
  resolved := Array.replicate 8 none
  statics := none }

def pool4 : Array CpInfo := pool [(1, u "java/io/Serializable"), (0, .class_ 1), (0, u "java/lang/Object"), (0, .class_ 3)] 3

/-- java/io/Serializable -/
def k4 : Class := { plain "java/io/Serializable" (some 0) with
  accessFlags := 1537
  interfaces := #[]
  cf := some (fileOf pool4 2 #[] #[] 1537 4 #[] #[])
  fields := #[]
  methods := #[]
  instanceTypes := #[]
  staticTypes := #[]
  resolved := Array.replicate 8 none
  statics := none }

/-- the primitive boolean -/
def k5 : Class := { plain "boolean" none with kind := .primitive 'Z', accessFlags := 0x411 }
/-- [Z -/
def k6 : Class := { plain "[Z" (some 0) with kind := .array 5 .boolean, interfaces := #[3, 4], accessFlags := 1041 }

/-- the primitive byte -/
def k7 : Class := { plain "byte" none with kind := .primitive 'B', accessFlags := 0x411 }
/-- [B -/
def k8 : Class := { plain "[B" (some 0) with kind := .array 7 .byte, interfaces := #[3, 4], accessFlags := 1041 }

/-- the primitive int -/
def k9 : Class := { plain "int" none with kind := .primitive 'I', accessFlags := 0x411 }
/-- [I -/
def k10 : Class := { plain "[I" (some 0) with kind := .array 9 .int, interfaces := #[3, 4], accessFlags := 1041 }

def heap : Heap := #[{ cls := 10, slots := #[.int 0, .int 3], vm := .none }]
def classes : Array Class := #[k0, k1, k2, k3, k4, k5, k6, k7, k8, k9, k10]
def interned : List (Array UInt16 × Addr) := []
def slotsUsed : Nat := 2
def theMethod : MethodId := ⟨1, 5⟩
def args0 : Array Value := #[.ref 0]
def aboutOver (below : List Frame) : State where
  vm := { classes := classes, interned := interned.toArray }
  heap := heap
  slotsUsed := slotsUsed
  threads := #[{ frames := .invoking theMethod args0 :: below }]
def below0 : List Frame := [.native { method := ⟨0, 0⟩, args := #[] }]
def about1 : State := aboutOver below0
def p0 : Program := .bare "" "" ""
def e0 : Env := launch0.env 0 0 0
theorem w_frames : about1.frames = Frame.invoking theMethod args0 :: below0 := rfl
set_option maxRecDepth 65536 in
theorem w_args : argsFit about1.vm theMethod args0 = true := by decide +kernel
set_option maxRecDepth 65536 in
theorem w_heap : heapFits about1 = true := by decide +kernel
set_option maxRecDepth 65536 in
theorem w_runnable : about1.curStatus? = some .runnable := by decide +kernel
set_option maxRecDepth 65536 in
theorem w_alone : about1.alone = true := by decide +kernel
set_option maxRecDepth 65536 in
theorem w_named : about1.methodNamed? x = some theMethod := by decide +kernel
set_option maxRecDepth 65536 in
theorem w_hears : about1.hears theMethod below0 = true := by decide +kernel
set_option maxRecDepth 65536 in
theorem w_ripe : about1.ripe theMethod args0 below0 = true := by decide +kernel
theorem w_running : about1.status = .running := rfl
set_option maxRecDepth 65536 in
theorem w_room : about1.hasRoom e0.platform room_1 = true :=
  launch0.hasRoom_least _ room_1 (by decide +kernel) (by decide +kernel) (by decide +kernel) (by decide +kernel) (by decide +kernel) (by decide +kernel)
theorem allAtoms_all (ts : List Jvm.Cond) (a : Array Jvm.Value) (st : Jvm.State) : (allAtoms ts).before a st = ts.all (fun c => c.before a st) := by
  induction ts with
  | nil => rfl
  | cons c t ih =>
    show (Jvm.Cond.and c (allAtoms t)).before a st = _
    rw [Jvm.Cond.before_and, ih, List.all_cons]
def words1 : List Jvm.Cond := Jvm.Cond.code x code maxLocals ret :: tables_1
/-- a 'code' word, met by the world's own term for the bytes: nothing is compared byte by byte -/
theorem code_word {y : MethodName} {bytes : ByteArray} {mx : Nat} {rt : Option FieldType} {a : Array Value} {s : State} {m : MethodId} {meth : Method} {c : Code} (h1 : s.methodNamed? y = some m) (h2 : s.vm.method? m = some meth) (h3 : meth.code = some c) (h4 : c.code = bytes)
    (h5 : (c.maxLocals == mx && c.exceptionTable.isEmpty && decide (c.maxStack ≤ mostOperands) && decide (meth.sig.returnType = rt) && !meth.locks && decide (parseMethodDescriptor y.desc = some meth.sig)) = true) : (Jvm.Cond.code y bytes mx rt).before a s = true := by
  simp only [Bool.and_eq_true, beq_iff_eq, Bool.not_eq_true', decide_eq_true_eq] at h5
  obtain ⟨⟨⟨⟨⟨g1, g2⟩, g3⟩, g4⟩, g5⟩, g6⟩ := h5
  simp [Cond.before, Cond.holds, Cond.value, h1, h2, h3, h4, g1, g2, g3, g4, g5, g6]
def isCode : Jvm.Cond → Bool
  | .code _ _ _ _ => true
  | _ => false
theorem all_split {L : List Jvm.Cond} {P : Jvm.Cond → Bool} (h1 : L.all (fun c => isCode c || P c) = true) (h2 : ∀ c ∈ L.filter isCode, P c = true) : L.all P = true := by
  refine List.all_eq_true.mpr fun c hc => ?_
  have h := List.all_eq_true.mp h1 c hc
  rcases Bool.eq_false_or_eq_true (isCode c) with hi | hi
  · exact h2 c (List.mem_filter.mpr ⟨hc, hi⟩)
  · simpa [hi] using h
set_option maxRecDepth 65536 in
theorem w_c0 : (Jvm.Cond.code x code maxLocals ret).before args0 about1 = true := code_word (m := ⟨1, 5⟩) (meth := k1m5) (c := k1c5) (by decide +kernel) rfl rfl rfl (by decide +kernel)
set_option maxRecDepth 65536 in
theorem w_c1 : (Jvm.Cond.code ({ cls := "GraphPlanner", name := "<init>", desc := "(III)V" } : Jvm.MethodName) prog_1_method_1_code (4 : Nat) (Option.none : Option Jvm.ClassFile.FieldType)).before args0 about1 = true := code_word (m := ⟨2, 0⟩) (meth := k2m0) (c := k2c0) (by decide +kernel) rfl rfl rfl (by decide +kernel)
set_option maxRecDepth 65536 in
theorem w_c2 : (Jvm.Cond.code ({ cls := "java/lang/Object", name := "<init>", desc := "()V" } : Jvm.MethodName) object_method_1_code (1 : Nat) (Option.none : Option Jvm.ClassFile.FieldType)).before args0 about1 = true := code_word (m := ⟨0, 0⟩) (meth := k0m0) (c := k0c0) (by decide +kernel) rfl rfl rfl (by decide +kernel)
set_option maxRecDepth 65536 in
theorem w_c3 : (Jvm.Cond.code ({ cls := "GraphPlanner", name := "clamp", desc := "(III)I" } : Jvm.MethodName) prog_1_method_17_code (4 : Nat) (Option.some Jvm.ClassFile.FieldType.int)).before args0 about1 = true := code_word (m := ⟨2, 13⟩) (meth := k2m13) (c := k2c13) (by decide +kernel) rfl rfl rfl (by decide +kernel)
set_option maxRecDepth 65536 in
theorem w_c4 : (Jvm.Cond.code ({ cls := "GraphPlanner", name := "solve", desc := "(I)I" } : Jvm.MethodName) prog_1_method_10_code (4 : Nat) (Option.some Jvm.ClassFile.FieldType.int)).before args0 about1 = true := code_word (m := ⟨2, 6⟩) (meth := k2m6) (c := k2c6) (by decide +kernel) rfl rfl rfl (by decide +kernel)
set_option maxRecDepth 65536 in
theorem w_c5 : (Jvm.Cond.code ({ cls := "GraphPlanner", name := "prepareSearch", desc := "(I)V" } : Jvm.MethodName) prog_1_method_28_code (2 : Nat) (Option.none : Option Jvm.ClassFile.FieldType)).before args0 about1 = true := code_word (m := ⟨2, 22⟩) (meth := k2m22) (c := k2c22) (by decide +kernel) rfl rfl rfl (by decide +kernel)
set_option maxRecDepth 65536 in
theorem w_c6 : (Jvm.Cond.code ({ cls := "GraphPlanner", name := "buildConflicts", desc := "()V" } : Jvm.MethodName) prog_1_method_29_code (2 : Nat) (Option.none : Option Jvm.ClassFile.FieldType)).before args0 about1 = true := code_word (m := ⟨2, 23⟩) (meth := k2m23) (c := k2c23) (by decide +kernel) rfl rfl rfl (by decide +kernel)
set_option maxRecDepth 65536 in
theorem w_c7 : (Jvm.Cond.code ({ cls := "GraphPlanner", name := "conflictRow", desc := "(I)I" } : Jvm.MethodName) prog_1_method_30_code (4 : Nat) (Option.some Jvm.ClassFile.FieldType.int)).before args0 about1 = true := code_word (m := ⟨2, 24⟩) (meth := k2m24) (c := k2c24) (by decide +kernel) rfl rfl rfl (by decide +kernel)
set_option maxRecDepth 65536 in
theorem w_c8 : (Jvm.Cond.code ({ cls := "GraphPlanner", name := "rawInterfere", desc := "(II)Z" } : Jvm.MethodName) prog_1_method_25_code (3 : Nat) (Option.some Jvm.ClassFile.FieldType.boolean)).before args0 about1 = true := code_word (m := ⟨2, 21⟩) (meth := k2m21) (c := k2c21) (by decide +kernel) rfl rfl rfl (by decide +kernel)
set_option maxRecDepth 65536 in
theorem w_c9 : (Jvm.Cond.code ({ cls := "GraphPlanner", name := "buildUnions", desc := "()V" } : Jvm.MethodName) prog_1_method_31_code (5 : Nat) (Option.none : Option Jvm.ClassFile.FieldType)).before args0 about1 = true := code_word (m := ⟨2, 25⟩) (meth := k2m25) (c := k2c25) (by decide +kernel) rfl rfl rfl (by decide +kernel)
set_option maxRecDepth 65536 in
theorem w_c10 : (Jvm.Cond.code ({ cls := "GraphPlanner", name := "lowestBit", desc := "(I)I" } : Jvm.MethodName) prog_1_method_32_code (3 : Nat) (Option.some Jvm.ClassFile.FieldType.int)).before args0 about1 = true := code_word (m := ⟨2, 26⟩) (meth := k2m26) (c := k2c26) (by decide +kernel) rfl rfl rfl (by decide +kernel)
set_option maxRecDepth 65536 in
theorem w_c11 : (Jvm.Cond.code ({ cls := "GraphPlanner", name := "buildGraph", desc := "(I)V" } : Jvm.MethodName) prog_1_method_34_code (3 : Nat) (Option.none : Option Jvm.ClassFile.FieldType)).before args0 about1 = true := code_word (m := ⟨2, 28⟩) (meth := k2m28) (c := k2c28) (by decide +kernel) rfl rfl rfl (by decide +kernel)
set_option maxRecDepth 65536 in
theorem w_c12 : (Jvm.Cond.code ({ cls := "GraphPlanner", name := "buildCandidates", desc := "(I)V" } : Jvm.MethodName) prog_1_method_45_code (5 : Nat) (Option.none : Option Jvm.ClassFile.FieldType)).before args0 about1 = true := code_word (m := ⟨2, 39⟩) (meth := k2m39) (c := k2c39) (by decide +kernel) rfl rfl rfl (by decide +kernel)
set_option maxRecDepth 65536 in
theorem w_c13 : (Jvm.Cond.code ({ cls := "GraphPlanner", name := "clearMemo", desc := "()V" } : Jvm.MethodName) prog_1_method_33_code (2 : Nat) (Option.none : Option Jvm.ClassFile.FieldType)).before args0 about1 = true := code_word (m := ⟨2, 27⟩) (meth := k2m27) (c := k2c27) (by decide +kernel) rfl rfl rfl (by decide +kernel)
set_option maxRecDepth 65536 in
theorem w_c14 : (Jvm.Cond.code ({ cls := "GraphPlanner", name := "solvable", desc := "(II)Z" } : Jvm.MethodName) prog_1_method_54_code (6 : Nat) (Option.some Jvm.ClassFile.FieldType.boolean)).before args0 about1 = true := code_word (m := ⟨2, 48⟩) (meth := k2m48) (c := k2c48) (by decide +kernel) rfl rfl rfl (by decide +kernel)
set_option maxRecDepth 65536 in
theorem w_c15 : (Jvm.Cond.code ({ cls := "GraphPlanner", name := "quickStatus", desc := "(II)I" } : Jvm.MethodName) prog_1_method_50_code (4 : Nat) (Option.some Jvm.ClassFile.FieldType.int)).before args0 about1 = true := code_word (m := ⟨2, 44⟩) (meth := k2m44) (c := k2c44) (by decide +kernel) rfl rfl rfl (by decide +kernel)
set_option maxRecDepth 65536 in
theorem w_c16 : (Jvm.Cond.code ({ cls := "GraphPlanner", name := "statusIndex", desc := "(II)I" } : Jvm.MethodName) prog_1_method_49_code (4 : Nat) (Option.some Jvm.ClassFile.FieldType.int)).before args0 about1 = true := code_word (m := ⟨2, 43⟩) (meth := k2m43) (c := k2c43) (by decide +kernel) rfl rfl rfl (by decide +kernel)
set_option maxRecDepth 65536 in
theorem w_c17 : (Jvm.Cond.code ({ cls := "GraphPlanner", name := "extractPlan", desc := "(I)V" } : Jvm.MethodName) prog_1_method_56_code (5 : Nat) (Option.none : Option Jvm.ClassFile.FieldType)).before args0 about1 = true := code_word (m := ⟨2, 50⟩) (meth := k2m50) (c := k2c50) (by decide +kernel) rfl rfl rfl (by decide +kernel)
set_option maxRecDepth 65536 in
theorem w_c18 : (Jvm.Cond.code ({ cls := "GraphPlanner", name := "clearPlan", desc := "()V" } : Jvm.MethodName) prog_1_method_24_code (2 : Nat) (Option.none : Option Jvm.ClassFile.FieldType)).before args0 about1 = true := code_word (m := ⟨2, 20⟩) (meth := k2m20) (c := k2c20) (by decide +kernel) rfl rfl rfl (by decide +kernel)
set_option maxRecDepth 65536 in
theorem w_c19 : (Jvm.Cond.code ({ cls := "GraphPlannerL6", name := "valid", desc := "(LGraphPlanner;IJII)Z" } : Jvm.MethodName) method_4_code (12 : Nat) (Option.some Jvm.ClassFile.FieldType.boolean)).before args0 about1 = true := code_word (m := ⟨1, 3⟩) (meth := k1m3) (c := k1c3) (by decide +kernel) rfl rfl rfl (by decide +kernel)
set_option maxRecDepth 65536 in
theorem w_c20 : (Jvm.Cond.code ({ cls := "GraphPlanner", name := "layerMask", desc := "(I)I" } : Jvm.MethodName) prog_1_method_12_code (2 : Nat) (Option.some Jvm.ClassFile.FieldType.int)).before args0 about1 = true := code_word (m := ⟨2, 8⟩) (meth := k2m8) (c := k2c8) (by decide +kernel) rfl rfl rfl (by decide +kernel)
set_option maxRecDepth 65536 in
theorem w_c21 : (Jvm.Cond.code ({ cls := "GraphPlannerL6", name := "agree", desc := "(LGraphPlanner;JIIII)Z" } : Jvm.MethodName) method_3_code (9 : Nat) (Option.some Jvm.ClassFile.FieldType.boolean)).before args0 about1 = true := code_word (m := ⟨1, 2⟩) (meth := k1m2) (c := k1c2) (by decide +kernel) rfl rfl rfl (by decide +kernel)
set_option maxRecDepth 65536 in
theorem w_c22 : (Jvm.Cond.code ({ cls := "GraphPlanner", name := "listMask", desc := "(II)I" } : Jvm.MethodName) prog_1_method_5_code (3 : Nat) (Option.some Jvm.ClassFile.FieldType.int)).before args0 about1 = true := code_word (m := ⟨2, 4⟩) (meth := k2m4) (c := k2c4) (by decide +kernel) rfl rfl rfl (by decide +kernel)
set_option maxRecDepth 65536 in
theorem w_c23 : (Jvm.Cond.code ({ cls := "GraphPlanner", name := "isAction", desc := "(I)Z" } : Jvm.MethodName) prog_1_method_19_code (2 : Nat) (Option.some Jvm.ClassFile.FieldType.boolean)).before args0 about1 = true := code_word (m := ⟨2, 15⟩) (meth := k2m15) (c := k2c15) (by decide +kernel) rfl rfl rfl (by decide +kernel)
set_option maxRecDepth 65536 in
theorem w_c24 : (Jvm.Cond.code ({ cls := "GraphPlanner", name := "isKind", desc := "(I)Z" } : Jvm.MethodName) prog_1_method_20_code (2 : Nat) (Option.some Jvm.ClassFile.FieldType.boolean)).before args0 about1 = true := code_word (m := ⟨2, 16⟩) (meth := k2m16) (c := k2c16) (by decide +kernel) rfl rfl rfl (by decide +kernel)
set_option maxRecDepth 65536 in
theorem w_c25 : (Jvm.Cond.code ({ cls := "GraphPlannerL6", name := "m", desc := "(JII)I" } : Jvm.MethodName) method_2_code (4 : Nat) (Option.some Jvm.ClassFile.FieldType.int)).before args0 about1 = true := code_word (m := ⟨1, 1⟩) (meth := k1m1) (c := k1c1) (by decide +kernel) rfl rfl rfl (by decide +kernel)
set_option maxRecDepth 65536 in
theorem w_c26 : (Jvm.Cond.code ({ cls := "GraphPlanner", name := "problemMask", desc := "(I)I" } : Jvm.MethodName) prog_1_method_6_code (2 : Nat) (Option.some Jvm.ClassFile.FieldType.int)).before args0 about1 = true := code_word (m := ⟨2, 5⟩) (meth := k2m5) (c := k2c5) (by decide +kernel) rfl rfl rfl (by decide +kernel)
set_option maxRecDepth 65536 in
theorem w_c27 : (Jvm.Cond.code ({ cls := "GraphPlanner", name := "planLength", desc := "()I" } : Jvm.MethodName) prog_1_method_11_code (1 : Nat) (Option.some Jvm.ClassFile.FieldType.int)).before args0 about1 = true := code_word (m := ⟨2, 7⟩) (meth := k2m7) (c := k2c7) (by decide +kernel) rfl rfl rfl (by decide +kernel)
set_option maxRecDepth 65536 in
theorem w_c28 : (Jvm.Cond.code ({ cls := "GraphPlanner", name := "setInit", desc := "(IZ)Z" } : Jvm.MethodName) prog_1_method_3_code (3 : Nat) (Option.some Jvm.ClassFile.FieldType.boolean)).before args0 about1 = true := code_word (m := ⟨2, 2⟩) (meth := k2m2) (c := k2c2) (by decide +kernel) rfl rfl rfl (by decide +kernel)
set_option maxRecDepth 65536 in
theorem w_c29 : (Jvm.Cond.code ({ cls := "GraphPlanner", name := "isFact", desc := "(I)Z" } : Jvm.MethodName) prog_1_method_18_code (2 : Nat) (Option.some Jvm.ClassFile.FieldType.boolean)).before args0 about1 = true := code_word (m := ⟨2, 14⟩) (meth := k2m14) (c := k2c14) (by decide +kernel) rfl rfl rfl (by decide +kernel)
set_option maxRecDepth 65536 in
theorem w_c30 : (Jvm.Cond.code ({ cls := "GraphPlanner", name := "withBit", desc := "(IIZ)I" } : Jvm.MethodName) prog_1_method_21_code (4 : Nat) (Option.some Jvm.ClassFile.FieldType.int)).before args0 about1 = true := code_word (m := ⟨2, 17⟩) (meth := k2m17) (c := k2c17) (by decide +kernel) rfl rfl rfl (by decide +kernel)
set_option maxRecDepth 65536 in
theorem w_c31 : (Jvm.Cond.code ({ cls := "GraphPlanner", name := "markStale", desc := "()V" } : Jvm.MethodName) prog_1_method_23_code (1 : Nat) (Option.none : Option Jvm.ClassFile.FieldType)).before args0 about1 = true := code_word (m := ⟨2, 19⟩) (meth := k2m19) (c := k2c19) (by decide +kernel) rfl rfl rfl (by decide +kernel)
set_option maxRecDepth 65536 in
theorem w_c32 : (Jvm.Cond.code ({ cls := "GraphPlanner", name := "buildActionLevel", desc := "(I)V" } : Jvm.MethodName) prog_1_method_35_code (4 : Nat) (Option.none : Option Jvm.ClassFile.FieldType)).before args0 about1 = true := code_word (m := ⟨2, 29⟩) (meth := k2m29) (c := k2c29) (by decide +kernel) rfl rfl rfl (by decide +kernel)
set_option maxRecDepth 65536 in
theorem w_c33 : (Jvm.Cond.code ({ cls := "GraphPlanner", name := "actionPresent", desc := "(II)Z" } : Jvm.MethodName) prog_1_method_36_code (3 : Nat) (Option.some Jvm.ClassFile.FieldType.boolean)).before args0 about1 = true := code_word (m := ⟨2, 30⟩) (meth := k2m30) (c := k2c30) (by decide +kernel) rfl rfl rfl (by decide +kernel)
set_option maxRecDepth 65536 in
theorem w_c34 : (Jvm.Cond.code ({ cls := "GraphPlanner", name := "hasMutexPair", desc := "(II)Z" } : Jvm.MethodName) prog_1_method_44_code (3 : Nat) (Option.some Jvm.ClassFile.FieldType.boolean)).before args0 about1 = true := code_word (m := ⟨2, 38⟩) (meth := k2m38) (c := k2c38) (by decide +kernel) rfl rfl rfl (by decide +kernel)
set_option maxRecDepth 65536 in
theorem w_c35 : (Jvm.Cond.code ({ cls := "GraphPlanner", name := "meetsMutex", desc := "(III)Z" } : Jvm.MethodName) prog_1_method_43_code (5 : Nat) (Option.some Jvm.ClassFile.FieldType.boolean)).before args0 about1 = true := code_word (m := ⟨2, 37⟩) (meth := k2m37) (c := k2c37) (by decide +kernel) rfl rfl rfl (by decide +kernel)
set_option maxRecDepth 65536 in
theorem w_c36 : (Jvm.Cond.code ({ cls := "GraphPlanner", name := "hasBit", desc := "(II)Z" } : Jvm.MethodName) prog_1_method_22_code (3 : Nat) (Option.some Jvm.ClassFile.FieldType.boolean)).before args0 about1 = true := code_word (m := ⟨2, 18⟩) (meth := k2m18) (c := k2c18) (by decide +kernel) rfl rfl rfl (by decide +kernel)
set_option maxRecDepth 65536 in
theorem w_c37 : (Jvm.Cond.code ({ cls := "GraphPlanner", name := "actionMutexRow", desc := "(II)I" } : Jvm.MethodName) prog_1_method_37_code (5 : Nat) (Option.some Jvm.ClassFile.FieldType.int)).before args0 about1 = true := code_word (m := ⟨2, 31⟩) (meth := k2m31) (c := k2c31) (by decide +kernel) rfl rfl rfl (by decide +kernel)
set_option maxRecDepth 65536 in
theorem w_c38 : (Jvm.Cond.code ({ cls := "GraphPlanner", name := "noopMutexRow", desc := "(II)I" } : Jvm.MethodName) prog_1_method_38_code (6 : Nat) (Option.some Jvm.ClassFile.FieldType.int)).before args0 about1 = true := code_word (m := ⟨2, 32⟩) (meth := k2m32) (c := k2c32) (by decide +kernel) rfl rfl rfl (by decide +kernel)
set_option maxRecDepth 65536 in
theorem w_c39 : (Jvm.Cond.code ({ cls := "GraphPlanner", name := "buildFactLevel", desc := "(I)V" } : Jvm.MethodName) prog_1_method_39_code (4 : Nat) (Option.none : Option Jvm.ClassFile.FieldType)).before args0 about1 = true := code_word (m := ⟨2, 33⟩) (meth := k2m33) (c := k2c33) (by decide +kernel) rfl rfl rfl (by decide +kernel)
set_option maxRecDepth 65536 in
theorem w_c40 : (Jvm.Cond.code ({ cls := "GraphPlanner", name := "factMutexRow", desc := "(II)I" } : Jvm.MethodName) prog_1_method_40_code (5 : Nat) (Option.some Jvm.ClassFile.FieldType.int)).before args0 about1 = true := code_word (m := ⟨2, 34⟩) (meth := k2m34) (c := k2c34) (by decide +kernel) rfl rfl rfl (by decide +kernel)
set_option maxRecDepth 65536 in
theorem w_c41 : (Jvm.Cond.code ({ cls := "GraphPlanner", name := "factsMutex", desc := "(III)Z" } : Jvm.MethodName) prog_1_method_41_code (9 : Nat) (Option.some Jvm.ClassFile.FieldType.boolean)).before args0 about1 = true := code_word (m := ⟨2, 35⟩) (meth := k2m35) (c := k2c35) (by decide +kernel) rfl rfl rfl (by decide +kernel)
set_option maxRecDepth 65536 in
theorem w_c42 : (Jvm.Cond.code ({ cls := "GraphPlanner", name := "achievers", desc := "(II)I" } : Jvm.MethodName) prog_1_method_42_code (5 : Nat) (Option.some Jvm.ClassFile.FieldType.int)).before args0 about1 = true := code_word (m := ⟨2, 36⟩) (meth := k2m36) (c := k2c36) (by decide +kernel) rfl rfl rfl (by decide +kernel)
set_option maxRecDepth 65536 in
theorem w_c43 : (Jvm.Cond.code ({ cls := "GraphPlanner", name := "layerCandidate", desc := "(II)Z" } : Jvm.MethodName) prog_1_method_46_code (4 : Nat) (Option.some Jvm.ClassFile.FieldType.boolean)).before args0 about1 = true := code_word (m := ⟨2, 40⟩) (meth := k2m40) (c := k2c40) (by decide +kernel) rfl rfl rfl (by decide +kernel)
set_option maxRecDepth 65536 in
theorem w_c44 : (Jvm.Cond.code ({ cls := "GraphPlanner", name := "setFact", desc := "(IIIZ)Z" } : Jvm.MethodName) prog_1_method_2_code (6 : Nat) (Option.some Jvm.ClassFile.FieldType.boolean)).before args0 about1 = true := code_word (m := ⟨2, 1⟩) (meth := k2m1) (c := k2c1) (by decide +kernel) rfl rfl rfl (by decide +kernel)
set_option maxRecDepth 65536 in
theorem w_c45 : (Jvm.Cond.code ({ cls := "GraphPlanner", name := "setGoal", desc := "(IZ)Z" } : Jvm.MethodName) prog_1_method_4_code (3 : Nat) (Option.some Jvm.ClassFile.FieldType.boolean)).before args0 about1 = true := code_word (m := ⟨2, 3⟩) (meth := k2m3) (c := k2c3) (by decide +kernel) rfl rfl rfl (by decide +kernel)
set_option maxRecDepth 65536 in
theorem w_c46 : (Jvm.Cond.code ({ cls := "GraphPlanner", name := "goalPossible", desc := "(II)Z" } : Jvm.MethodName) prog_1_method_51_code (3 : Nat) (Option.some Jvm.ClassFile.FieldType.boolean)).before args0 about1 = true := code_word (m := ⟨2, 45⟩) (meth := k2m45) (c := k2c45) (by decide +kernel) rfl rfl rfl (by decide +kernel)
set_option maxRecDepth 65536 in
theorem w_c47 : (Jvm.Cond.code ({ cls := "GraphPlanner", name := "runPlan", desc := "(I)I" } : Jvm.MethodName) prog_1_method_15_code (5 : Nat) (Option.some Jvm.ClassFile.FieldType.int)).before args0 about1 = true := code_word (m := ⟨2, 11⟩) (meth := k2m11) (c := k2c11) (by decide +kernel) rfl rfl rfl (by decide +kernel)
set_option maxRecDepth 65536 in
theorem w_c48 : (Jvm.Cond.code ({ cls := "GraphPlanner", name := "apply", desc := "(I)Z" } : Jvm.MethodName) prog_1_method_14_code (2 : Nat) (Option.some Jvm.ClassFile.FieldType.boolean)).before args0 about1 = true := code_word (m := ⟨2, 10⟩) (meth := k2m10) (c := k2c10) (by decide +kernel) rfl rfl rfl (by decide +kernel)
set_option maxRecDepth 65536 in
theorem w_c49 : (Jvm.Cond.code ({ cls := "GraphPlanner", name := "resetRun", desc := "()V" } : Jvm.MethodName) prog_1_method_13_code (1 : Nat) (Option.none : Option Jvm.ClassFile.FieldType)).before args0 about1 = true := code_word (m := ⟨2, 9⟩) (meth := k2m9) (c := k2c9) (by decide +kernel) rfl rfl rfl (by decide +kernel)
set_option maxRecDepth 65536 in
theorem w_c50 : (Jvm.Cond.code ({ cls := "GraphPlannerL6", name := "replay", desc := "(LGraphPlanner;IJI)I" } : Jvm.MethodName) method_5_code (10 : Nat) (Option.some Jvm.ClassFile.FieldType.int)).before args0 about1 = true := code_word (m := ⟨1, 4⟩) (meth := k1m4) (c := k1c4) (by decide +kernel) rfl rfl rfl (by decide +kernel)
set_option maxRecDepth 65536 in
theorem w_c51 : (Jvm.Cond.code ({ cls := "GraphPlanner", name := "push", desc := "(II)Z" } : Jvm.MethodName) prog_1_method_53_code (3 : Nat) (Option.some Jvm.ClassFile.FieldType.boolean)).before args0 about1 = true := code_word (m := ⟨2, 47⟩) (meth := k2m47) (c := k2c47) (by decide +kernel) rfl rfl rfl (by decide +kernel)
set_option maxRecDepth 65536 in
theorem w_c52 : (Jvm.Cond.code ({ cls := "GraphPlanner", name := "searchStep", desc := "(I)V" } : Jvm.MethodName) prog_1_method_55_code (8 : Nat) (Option.none : Option Jvm.ClassFile.FieldType)).before args0 about1 = true := code_word (m := ⟨2, 49⟩) (meth := k2m49) (c := k2c49) (by decide +kernel) rfl rfl rfl (by decide +kernel)
set_option maxRecDepth 65536 in
theorem w_c53 : (Jvm.Cond.code ({ cls := "GraphPlanner", name := "regressOk", desc := "(II)Z" } : Jvm.MethodName) prog_1_method_47_code (3 : Nat) (Option.some Jvm.ClassFile.FieldType.boolean)).before args0 about1 = true := code_word (m := ⟨2, 41⟩) (meth := k2m41) (c := k2c41) (by decide +kernel) rfl rfl rfl (by decide +kernel)
set_option maxRecDepth 65536 in
theorem w_c54 : (Jvm.Cond.code ({ cls := "GraphPlanner", name := "regress", desc := "(II)I" } : Jvm.MethodName) prog_1_method_48_code (3 : Nat) (Option.some Jvm.ClassFile.FieldType.int)).before args0 about1 = true := code_word (m := ⟨2, 42⟩) (meth := k2m42) (c := k2c42) (by decide +kernel) rfl rfl rfl (by decide +kernel)
set_option maxRecDepth 65536 in
theorem w_c55 : (Jvm.Cond.code ({ cls := "GraphPlanner", name := "record", desc := "(IIII)V" } : Jvm.MethodName) prog_1_method_52_code (6 : Nat) (Option.none : Option Jvm.ClassFile.FieldType)).before args0 about1 = true := code_word (m := ⟨2, 46⟩) (meth := k2m46) (c := k2c46) (by decide +kernel) rfl rfl rfl (by decide +kernel)
set_option maxRecDepth 65536 in
theorem w_c56 : (Jvm.Cond.code ({ cls := "GraphPlanner", name := "replayLayer", desc := "(I)I" } : Jvm.MethodName) prog_1_method_16_code (5 : Nat) (Option.some Jvm.ClassFile.FieldType.int)).before args0 about1 = true := code_word (m := ⟨2, 12⟩) (meth := k2m12) (c := k2c12) (by decide +kernel) rfl rfl rfl (by decide +kernel)
def codes1 : List Jvm.Cond := [Jvm.Cond.code x code maxLocals ret, Jvm.Cond.code ({ cls := "GraphPlanner", name := "<init>", desc := "(III)V" } : Jvm.MethodName) prog_1_method_1_code (4 : Nat) (Option.none : Option Jvm.ClassFile.FieldType), Jvm.Cond.code ({ cls := "java/lang/Object", name := "<init>", desc := "()V" } : Jvm.MethodName) object_method_1_code (1 : Nat) (Option.none : Option Jvm.ClassFile.FieldType), Jvm.Cond.code ({ cls := "GraphPlanner", name := "clamp", desc := "(III)I" } : Jvm.MethodName) prog_1_method_17_code (4 : Nat) (Option.some Jvm.ClassFile.FieldType.int), Jvm.Cond.code ({ cls := "GraphPlanner", name := "solve", desc := "(I)I" } : Jvm.MethodName) prog_1_method_10_code (4 : Nat) (Option.some Jvm.ClassFile.FieldType.int), Jvm.Cond.code ({ cls := "GraphPlanner", name := "prepareSearch", desc := "(I)V" } : Jvm.MethodName) prog_1_method_28_code (2 : Nat) (Option.none : Option Jvm.ClassFile.FieldType), Jvm.Cond.code ({ cls := "GraphPlanner", name := "buildConflicts", desc := "()V" } : Jvm.MethodName) prog_1_method_29_code (2 : Nat) (Option.none : Option Jvm.ClassFile.FieldType), Jvm.Cond.code ({ cls := "GraphPlanner", name := "conflictRow", desc := "(I)I" } : Jvm.MethodName) prog_1_method_30_code (4 : Nat) (Option.some Jvm.ClassFile.FieldType.int), Jvm.Cond.code ({ cls := "GraphPlanner", name := "rawInterfere", desc := "(II)Z" } : Jvm.MethodName) prog_1_method_25_code (3 : Nat) (Option.some Jvm.ClassFile.FieldType.boolean), Jvm.Cond.code ({ cls := "GraphPlanner", name := "buildUnions", desc := "()V" } : Jvm.MethodName) prog_1_method_31_code (5 : Nat) (Option.none : Option Jvm.ClassFile.FieldType), Jvm.Cond.code ({ cls := "GraphPlanner", name := "lowestBit", desc := "(I)I" } : Jvm.MethodName) prog_1_method_32_code (3 : Nat) (Option.some Jvm.ClassFile.FieldType.int), Jvm.Cond.code ({ cls := "GraphPlanner", name := "buildGraph", desc := "(I)V" } : Jvm.MethodName) prog_1_method_34_code (3 : Nat) (Option.none : Option Jvm.ClassFile.FieldType), Jvm.Cond.code ({ cls := "GraphPlanner", name := "buildCandidates", desc := "(I)V" } : Jvm.MethodName) prog_1_method_45_code (5 : Nat) (Option.none : Option Jvm.ClassFile.FieldType), Jvm.Cond.code ({ cls := "GraphPlanner", name := "clearMemo", desc := "()V" } : Jvm.MethodName) prog_1_method_33_code (2 : Nat) (Option.none : Option Jvm.ClassFile.FieldType), Jvm.Cond.code ({ cls := "GraphPlanner", name := "solvable", desc := "(II)Z" } : Jvm.MethodName) prog_1_method_54_code (6 : Nat) (Option.some Jvm.ClassFile.FieldType.boolean), Jvm.Cond.code ({ cls := "GraphPlanner", name := "quickStatus", desc := "(II)I" } : Jvm.MethodName) prog_1_method_50_code (4 : Nat) (Option.some Jvm.ClassFile.FieldType.int), Jvm.Cond.code ({ cls := "GraphPlanner", name := "statusIndex", desc := "(II)I" } : Jvm.MethodName) prog_1_method_49_code (4 : Nat) (Option.some Jvm.ClassFile.FieldType.int), Jvm.Cond.code ({ cls := "GraphPlanner", name := "extractPlan", desc := "(I)V" } : Jvm.MethodName) prog_1_method_56_code (5 : Nat) (Option.none : Option Jvm.ClassFile.FieldType), Jvm.Cond.code ({ cls := "GraphPlanner", name := "clearPlan", desc := "()V" } : Jvm.MethodName) prog_1_method_24_code (2 : Nat) (Option.none : Option Jvm.ClassFile.FieldType), Jvm.Cond.code ({ cls := "GraphPlannerL6", name := "valid", desc := "(LGraphPlanner;IJII)Z" } : Jvm.MethodName) method_4_code (12 : Nat) (Option.some Jvm.ClassFile.FieldType.boolean), Jvm.Cond.code ({ cls := "GraphPlanner", name := "layerMask", desc := "(I)I" } : Jvm.MethodName) prog_1_method_12_code (2 : Nat) (Option.some Jvm.ClassFile.FieldType.int), Jvm.Cond.code ({ cls := "GraphPlannerL6", name := "agree", desc := "(LGraphPlanner;JIIII)Z" } : Jvm.MethodName) method_3_code (9 : Nat) (Option.some Jvm.ClassFile.FieldType.boolean), Jvm.Cond.code ({ cls := "GraphPlanner", name := "listMask", desc := "(II)I" } : Jvm.MethodName) prog_1_method_5_code (3 : Nat) (Option.some Jvm.ClassFile.FieldType.int), Jvm.Cond.code ({ cls := "GraphPlanner", name := "isAction", desc := "(I)Z" } : Jvm.MethodName) prog_1_method_19_code (2 : Nat) (Option.some Jvm.ClassFile.FieldType.boolean), Jvm.Cond.code ({ cls := "GraphPlanner", name := "isKind", desc := "(I)Z" } : Jvm.MethodName) prog_1_method_20_code (2 : Nat) (Option.some Jvm.ClassFile.FieldType.boolean), Jvm.Cond.code ({ cls := "GraphPlannerL6", name := "m", desc := "(JII)I" } : Jvm.MethodName) method_2_code (4 : Nat) (Option.some Jvm.ClassFile.FieldType.int), Jvm.Cond.code ({ cls := "GraphPlanner", name := "problemMask", desc := "(I)I" } : Jvm.MethodName) prog_1_method_6_code (2 : Nat) (Option.some Jvm.ClassFile.FieldType.int), Jvm.Cond.code ({ cls := "GraphPlanner", name := "planLength", desc := "()I" } : Jvm.MethodName) prog_1_method_11_code (1 : Nat) (Option.some Jvm.ClassFile.FieldType.int), Jvm.Cond.code ({ cls := "GraphPlanner", name := "setInit", desc := "(IZ)Z" } : Jvm.MethodName) prog_1_method_3_code (3 : Nat) (Option.some Jvm.ClassFile.FieldType.boolean), Jvm.Cond.code ({ cls := "GraphPlanner", name := "isFact", desc := "(I)Z" } : Jvm.MethodName) prog_1_method_18_code (2 : Nat) (Option.some Jvm.ClassFile.FieldType.boolean), Jvm.Cond.code ({ cls := "GraphPlanner", name := "withBit", desc := "(IIZ)I" } : Jvm.MethodName) prog_1_method_21_code (4 : Nat) (Option.some Jvm.ClassFile.FieldType.int), Jvm.Cond.code ({ cls := "GraphPlanner", name := "markStale", desc := "()V" } : Jvm.MethodName) prog_1_method_23_code (1 : Nat) (Option.none : Option Jvm.ClassFile.FieldType), Jvm.Cond.code ({ cls := "GraphPlanner", name := "buildActionLevel", desc := "(I)V" } : Jvm.MethodName) prog_1_method_35_code (4 : Nat) (Option.none : Option Jvm.ClassFile.FieldType), Jvm.Cond.code ({ cls := "GraphPlanner", name := "actionPresent", desc := "(II)Z" } : Jvm.MethodName) prog_1_method_36_code (3 : Nat) (Option.some Jvm.ClassFile.FieldType.boolean), Jvm.Cond.code ({ cls := "GraphPlanner", name := "hasMutexPair", desc := "(II)Z" } : Jvm.MethodName) prog_1_method_44_code (3 : Nat) (Option.some Jvm.ClassFile.FieldType.boolean), Jvm.Cond.code ({ cls := "GraphPlanner", name := "meetsMutex", desc := "(III)Z" } : Jvm.MethodName) prog_1_method_43_code (5 : Nat) (Option.some Jvm.ClassFile.FieldType.boolean), Jvm.Cond.code ({ cls := "GraphPlanner", name := "hasBit", desc := "(II)Z" } : Jvm.MethodName) prog_1_method_22_code (3 : Nat) (Option.some Jvm.ClassFile.FieldType.boolean), Jvm.Cond.code ({ cls := "GraphPlanner", name := "actionMutexRow", desc := "(II)I" } : Jvm.MethodName) prog_1_method_37_code (5 : Nat) (Option.some Jvm.ClassFile.FieldType.int), Jvm.Cond.code ({ cls := "GraphPlanner", name := "noopMutexRow", desc := "(II)I" } : Jvm.MethodName) prog_1_method_38_code (6 : Nat) (Option.some Jvm.ClassFile.FieldType.int), Jvm.Cond.code ({ cls := "GraphPlanner", name := "buildFactLevel", desc := "(I)V" } : Jvm.MethodName) prog_1_method_39_code (4 : Nat) (Option.none : Option Jvm.ClassFile.FieldType), Jvm.Cond.code ({ cls := "GraphPlanner", name := "factMutexRow", desc := "(II)I" } : Jvm.MethodName) prog_1_method_40_code (5 : Nat) (Option.some Jvm.ClassFile.FieldType.int), Jvm.Cond.code ({ cls := "GraphPlanner", name := "factsMutex", desc := "(III)Z" } : Jvm.MethodName) prog_1_method_41_code (9 : Nat) (Option.some Jvm.ClassFile.FieldType.boolean), Jvm.Cond.code ({ cls := "GraphPlanner", name := "achievers", desc := "(II)I" } : Jvm.MethodName) prog_1_method_42_code (5 : Nat) (Option.some Jvm.ClassFile.FieldType.int), Jvm.Cond.code ({ cls := "GraphPlanner", name := "layerCandidate", desc := "(II)Z" } : Jvm.MethodName) prog_1_method_46_code (4 : Nat) (Option.some Jvm.ClassFile.FieldType.boolean), Jvm.Cond.code ({ cls := "GraphPlanner", name := "setFact", desc := "(IIIZ)Z" } : Jvm.MethodName) prog_1_method_2_code (6 : Nat) (Option.some Jvm.ClassFile.FieldType.boolean), Jvm.Cond.code ({ cls := "GraphPlanner", name := "setGoal", desc := "(IZ)Z" } : Jvm.MethodName) prog_1_method_4_code (3 : Nat) (Option.some Jvm.ClassFile.FieldType.boolean), Jvm.Cond.code ({ cls := "GraphPlanner", name := "goalPossible", desc := "(II)Z" } : Jvm.MethodName) prog_1_method_51_code (3 : Nat) (Option.some Jvm.ClassFile.FieldType.boolean), Jvm.Cond.code ({ cls := "GraphPlanner", name := "runPlan", desc := "(I)I" } : Jvm.MethodName) prog_1_method_15_code (5 : Nat) (Option.some Jvm.ClassFile.FieldType.int), Jvm.Cond.code ({ cls := "GraphPlanner", name := "apply", desc := "(I)Z" } : Jvm.MethodName) prog_1_method_14_code (2 : Nat) (Option.some Jvm.ClassFile.FieldType.boolean), Jvm.Cond.code ({ cls := "GraphPlanner", name := "resetRun", desc := "()V" } : Jvm.MethodName) prog_1_method_13_code (1 : Nat) (Option.none : Option Jvm.ClassFile.FieldType), Jvm.Cond.code ({ cls := "GraphPlannerL6", name := "replay", desc := "(LGraphPlanner;IJI)I" } : Jvm.MethodName) method_5_code (10 : Nat) (Option.some Jvm.ClassFile.FieldType.int), Jvm.Cond.code ({ cls := "GraphPlanner", name := "push", desc := "(II)Z" } : Jvm.MethodName) prog_1_method_53_code (3 : Nat) (Option.some Jvm.ClassFile.FieldType.boolean), Jvm.Cond.code ({ cls := "GraphPlanner", name := "searchStep", desc := "(I)V" } : Jvm.MethodName) prog_1_method_55_code (8 : Nat) (Option.none : Option Jvm.ClassFile.FieldType), Jvm.Cond.code ({ cls := "GraphPlanner", name := "regressOk", desc := "(II)Z" } : Jvm.MethodName) prog_1_method_47_code (3 : Nat) (Option.some Jvm.ClassFile.FieldType.boolean), Jvm.Cond.code ({ cls := "GraphPlanner", name := "regress", desc := "(II)I" } : Jvm.MethodName) prog_1_method_48_code (3 : Nat) (Option.some Jvm.ClassFile.FieldType.int), Jvm.Cond.code ({ cls := "GraphPlanner", name := "record", desc := "(IIII)V" } : Jvm.MethodName) prog_1_method_52_code (6 : Nat) (Option.none : Option Jvm.ClassFile.FieldType), Jvm.Cond.code ({ cls := "GraphPlanner", name := "replayLayer", desc := "(I)I" } : Jvm.MethodName) prog_1_method_16_code (5 : Nat) (Option.some Jvm.ClassFile.FieldType.int)]
set_option maxRecDepth 65536 in
theorem codes_eq : words1.filter isCode = codes1 := rfl
theorem w_codes : ∀ c ∈ words1.filter isCode, c.before args0 about1 = true := by
  rw [codes_eq]
  intro c hc
  simp only [codes1, List.mem_cons, List.not_mem_nil, or_false] at hc
  rcases hc with rfl | rfl | rfl | rfl | rfl | rfl | rfl | rfl | rfl | rfl | rfl | rfl | rfl | rfl | rfl | rfl | rfl | rfl | rfl | rfl | rfl | rfl | rfl | rfl | rfl | rfl | rfl | rfl | rfl | rfl | rfl | rfl | rfl | rfl | rfl | rfl | rfl | rfl | rfl | rfl | rfl | rfl | rfl | rfl | rfl | rfl | rfl | rfl | rfl | rfl | rfl | rfl | rfl | rfl | rfl | rfl | rfl
  · exact w_c0
  · exact w_c1
  · exact w_c2
  · exact w_c3
  · exact w_c4
  · exact w_c5
  · exact w_c6
  · exact w_c7
  · exact w_c8
  · exact w_c9
  · exact w_c10
  · exact w_c11
  · exact w_c12
  · exact w_c13
  · exact w_c14
  · exact w_c15
  · exact w_c16
  · exact w_c17
  · exact w_c18
  · exact w_c19
  · exact w_c20
  · exact w_c21
  · exact w_c22
  · exact w_c23
  · exact w_c24
  · exact w_c25
  · exact w_c26
  · exact w_c27
  · exact w_c28
  · exact w_c29
  · exact w_c30
  · exact w_c31
  · exact w_c32
  · exact w_c33
  · exact w_c34
  · exact w_c35
  · exact w_c36
  · exact w_c37
  · exact w_c38
  · exact w_c39
  · exact w_c40
  · exact w_c41
  · exact w_c42
  · exact w_c43
  · exact w_c44
  · exact w_c45
  · exact w_c46
  · exact w_c47
  · exact w_c48
  · exact w_c49
  · exact w_c50
  · exact w_c51
  · exact w_c52
  · exact w_c53
  · exact w_c54
  · exact w_c55
  · exact w_c56
set_option maxRecDepth 65536 in
theorem w_t1 : (words1.take 24).all (fun c => isCode c || c.before args0 about1) = true := by decide +kernel
set_option maxRecDepth 65536 in
theorem w_t2 : ((words1.drop 24).take 24).all (fun c => isCode c || c.before args0 about1) = true := by decide +kernel
set_option maxRecDepth 65536 in
theorem w_t3 : (((words1.drop 24).drop 24).take 24).all (fun c => isCode c || c.before args0 about1) = true := by decide +kernel
set_option maxRecDepth 65536 in
theorem w_t4 : ((((words1.drop 24).drop 24).drop 24).take 24).all (fun c => isCode c || c.before args0 about1) = true := by decide +kernel
set_option maxRecDepth 65536 in
theorem w_t5 : (((((words1.drop 24).drop 24).drop 24).drop 24).take 24).all (fun c => isCode c || c.before args0 about1) = true := by decide +kernel
set_option maxRecDepth 65536 in
theorem w_t6 : ((((((words1.drop 24).drop 24).drop 24).drop 24).drop 24).take 24).all (fun c => isCode c || c.before args0 about1) = true := by decide +kernel
set_option maxRecDepth 65536 in
theorem w_t7 : (((((((words1.drop 24).drop 24).drop 24).drop 24).drop 24).drop 24).take 24).all (fun c => isCode c || c.before args0 about1) = true := by decide +kernel
set_option maxRecDepth 65536 in
theorem w_t8 : ((((((((words1.drop 24).drop 24).drop 24).drop 24).drop 24).drop 24).drop 24).take 24).all (fun c => isCode c || c.before args0 about1) = true := by decide +kernel
set_option maxRecDepth 65536 in
theorem w_t9 : (((((((((words1.drop 24).drop 24).drop 24).drop 24).drop 24).drop 24).drop 24).drop 24).take 24).all (fun c => isCode c || c.before args0 about1) = true := by decide +kernel
set_option maxRecDepth 65536 in
theorem w_t10 : ((((((((((words1.drop 24).drop 24).drop 24).drop 24).drop 24).drop 24).drop 24).drop 24).drop 24).take 24).all (fun c => isCode c || c.before args0 about1) = true := by decide +kernel
set_option maxRecDepth 65536 in
theorem w_t11 : (((((((((((words1.drop 24).drop 24).drop 24).drop 24).drop 24).drop 24).drop 24).drop 24).drop 24).drop 24).take 24).all (fun c => isCode c || c.before args0 about1) = true := by decide +kernel
set_option maxRecDepth 65536 in
theorem w_t12 : ((((((((((((words1.drop 24).drop 24).drop 24).drop 24).drop 24).drop 24).drop 24).drop 24).drop 24).drop 24).drop 24).take 24).all (fun c => isCode c || c.before args0 about1) = true := by decide +kernel
set_option maxRecDepth 65536 in
theorem w_t13 : ((((((((((((words1.drop 24).drop 24).drop 24).drop 24).drop 24).drop 24).drop 24).drop 24).drop 24).drop 24).drop 24).drop 24).all (fun c => isCode c || c.before args0 about1) = true := by decide +kernel
theorem w_tables : (allAtoms (Jvm.Cond.code x code maxLocals ret :: tables_1)).before args0 about1 = true := by
  rw [allAtoms_all]
  show words1.all (fun c => c.before args0 about1) = true
  refine all_split ?_ w_codes
  rw [← List.take_append_drop 24 words1, List.all_append, w_t1, ← List.take_append_drop 24 (words1.drop 24), List.all_append, w_t2, ← List.take_append_drop 24 ((words1.drop 24).drop 24), List.all_append, w_t3, ← List.take_append_drop 24 (((words1.drop 24).drop 24).drop 24), List.all_append, w_t4, ← List.take_append_drop 24 ((((words1.drop 24).drop 24).drop 24).drop 24), List.all_append, w_t5, ← List.take_append_drop 24 (((((words1.drop 24).drop 24).drop 24).drop 24).drop 24), List.all_append, w_t6, ← List.take_append_drop 24 ((((((words1.drop 24).drop 24).drop 24).drop 24).drop 24).drop 24), List.all_append, w_t7, ← List.take_append_drop 24 (((((((words1.drop 24).drop 24).drop 24).drop 24).drop 24).drop 24).drop 24), List.all_append, w_t8, ← List.take_append_drop 24 ((((((((words1.drop 24).drop 24).drop 24).drop 24).drop 24).drop 24).drop 24).drop 24), List.all_append, w_t9, ← List.take_append_drop 24 (((((((((words1.drop 24).drop 24).drop 24).drop 24).drop 24).drop 24).drop 24).drop 24).drop 24), List.all_append, w_t10, ← List.take_append_drop 24 ((((((((((words1.drop 24).drop 24).drop 24).drop 24).drop 24).drop 24).drop 24).drop 24).drop 24).drop 24), List.all_append, w_t11, ← List.take_append_drop 24 (((((((((((words1.drop 24).drop 24).drop 24).drop 24).drop 24).drop 24).drop 24).drop 24).drop 24).drop 24).drop 24), List.all_append, w_t12, w_t13]
  rfl
set_option maxRecDepth 65536 in
theorem w_rest : rest_1_c.before args0 about1 = true := by decide +kernel
set_option maxRecDepth 65536 in
theorem w_case : (Jvm.Cond.and given_1 narrow_1).before args0 about1 = true := by decide +kernel
theorem w_applies : (headSpec (Jvm.Cond.code x code maxLocals ret :: tables_1) room_1).applies x e0.platform about1 = true :=
  (Spec.applies_iff w_frames).mpr ⟨w_running, w_runnable, w_alone, w_named, w_hears, w_ripe, w_room, w_tables⟩
theorem atStart : AtStart classFile x code maxLocals ret World_1 tables_1 room_1 Calls_1 rest_1 Pre_1 launch0 p0 e0 about1 theMethod args0 below0 :=
  ⟨lists_1, trivial, launch0.admits_env _ _ _, launch0.least_env, fairChoices_fair.cas, fairChoices_fair.clock, w_frames, w_args, w_heap, w_applies, trivial, w_rest, w_case⟩
end start1
theorem witness_1 : WitnessClaimed_1 := ⟨start1.p0, start1.e0, start1.about1, start1.theMethod, start1.args0, start1.below0, start1.atStart⟩
end Jvm.Pilot.@@N@@
