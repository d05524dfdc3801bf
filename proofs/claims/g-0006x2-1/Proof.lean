import JvmDerived
import JvmDerived.Pilot.@@N@@Statement
import JvmDerived.Pilot.@@N@@Code
set_option linter.unusedVariables false
set_option linter.unusedSimpArgs false
set_option maxRecDepth 65536
set_option maxHeartbeats 16000000
@@BLOCK:NumsL.lean.txt@@
@@BLOCK:Masks.lean.txt@@
namespace Jvm.OwnMini
open Jvm Jvm.ClassFile Sem Op Lib Jvm.Free Jvm.Stand Jvm.LawKit Jvm.RoadKit
abbrev OV:=Sum Int (Sum Int Nat)
abbrev vi (z:Int):OV:=.inl z
abbrev vl (z:Int):OV:=.inr (.inl z)
abbrev vr (k:Nat):OV:=.inr (.inr k)
abbrev OMem:=Nat→Int→Int
abbrev OLs:=List (Option OV)
def w32 (z:Int):Int:=(z+2147483648) % 4294967296 - 2147483648
def w64 (z:Int):Int:=(z+9223372036854775808) % 18446744073709551616 - 9223372036854775808
def and32 (a b:Int):Int:=(Int32.ofInt a &&& Int32.ofInt b).toInt
def or32 (a b:Int):Int:=(Int32.ofInt a ||| Int32.ofInt b).toInt
def xor32 (a b:Int):Int:=(Int32.ofInt a ^^^ Int32.ofInt b).toInt
def shl32 (a b:Int):Int:=(Int32.ofInt a <<< (Int32.ofInt b &&& 31)).toInt
def shr32 (a b:Int):Int:=(Int32.ofInt a >>> (Int32.ofInt b &&& 31)).toInt
def ushr32 (a b:Int):Int:=(XT.ushr (Int32.ofInt a) (Int32.ofInt b)).toInt
def and64 (a b:Int):Int:=(Int64.ofInt a &&& Int64.ofInt b).toInt
def or64 (a b:Int):Int:=(Int64.ofInt a ||| Int64.ofInt b).toInt
def xor64 (a b:Int):Int:=(Int64.ofInt a ^^^ Int64.ofInt b).toInt
def shl64 (a b:Int):Int:=(Int64.ofInt a <<< ((Int32.ofInt b).toInt64 &&& 63)).toInt
def shr64 (a b:Int):Int:=(Int64.ofInt a >>> ((Int32.ofInt b).toInt64 &&& 63)).toInt
def ushr64 (a b:Int):Int:=(XT.ushrL (Int64.ofInt a) (Int32.ofInt b)).toInt
def div32 (a b:Int):Int:=w32 (Int.tdiv a b)
def rem32 (a b:Int):Int:=Int.tmod a b
def div64 (a b:Int):Int:=w64 (Int.tdiv a b)
def rem64 (a b:Int):Int:=Int.tmod a b
def b8 (a:Int):Int:=(a+128) % 256 - 128
def lcm (a b:Int):Int:=if b<a then 1 else if a=b then 0 else -1
def sto (m:OMem) (k:Nat) (i z:Int):OMem:=fun k' i'=>if k'=k∧i'=i then z else m k' i'
def lget:OLs→Nat→Option OV
 | [],_=>none
 | x :: _,0=>x
 | _ :: xs,n+1=>lget xs n
def lput:OLs→Nat→Option OV→OLs
 | [],_,_=>[]
 | _ :: xs,0,v=>v :: xs
 | x :: xs,n+1,v=>x :: lput xs n v
def killPrev (L:OLs):Nat→OLs
 | 0=>L
 | j+1=>match lget L j with
  | some (.inr (.inl _))=>lput L j none
  | _=>L
def lst1 (L:OLs) (k:Nat) (v:OV):OLs:=lput (killPrev L k) k (some v)
def lst2 (L:OLs) (k:Nat) (v:OV):OLs:=lput (lput (killPrev L k) k (some v)) (k+1) none
def mask:Option (List Bool)→OLs→OLs
 | some (true :: bs),x :: xs=>x :: mask (some bs) xs
 | some (false :: bs),_ :: xs=>none :: mask (some bs) xs
 | _,xs=>xs
section Pop
variable {β:Type}
def pi1 (S:List OV) (f:Int→List OV→Option β):Option β:=match S with | .inl a :: S'=>f a S' | _=>none
def pi2 (S:List OV) (f:Int→Int→List OV→Option β):Option β:=match S with | .inl b :: .inl a :: S'=>f a b S' | _=>none
def pl1 (S:List OV) (f:Int→List OV→Option β):Option β:=match S with | .inr (.inl a) :: S'=>f a S' | _=>none
def pl2 (S:List OV) (f:Int→Int→List OV→Option β):Option β:=match S with | .inr (.inl b) :: .inr (.inl a) :: S'=>f a b S' | _=>none
def pli (S:List OV) (f:Int→Int→List OV→Option β):Option β:=match S with | .inl b :: .inr (.inl a) :: S'=>f a b S' | _=>none
def pr1 (S:List OV) (f:Nat→List OV→Option β):Option β:=match S with | .inr (.inr a) :: S'=>f a S' | _=>none
def gi (L:OLs) (k:Nat) (f:Int→Option β):Option β:=match lget L k with | some (.inl a)=>f a | _=>none
def gl (L:OLs) (k:Nat) (f:Int→Option β):Option β:=match lget L k with | some (.inr (.inl a))=>f a | _=>none
def gr (L:OLs) (k:Nat) (f:Nat→Option β):Option β:=match lget L k with | some (.inr (.inr a))=>f a | _=>none
def inL (L:OLs) (k:Nat) (x:Option β):Option β:=if k<L.length then x else none
def br (c:ClassFile.Cond) (a b:Int) (x y:Option β):Option β:=match c with
 | .eq=>if a=b then x else y
 | .ne=>if a=b then y else x
 | .lt=>if a<b then x else y
 | .ge=>if a<b then y else x
 | .gt=>if b<a then x else y
 | .le=>if b<a then y else x
def tsw (a:Int):Int→List Int→(Int→Option β)→Option β→Option β
 | _,[],_,d=>d
 | lo,o :: os,f,d=>if a=lo then f o else tsw a (lo+1) os f d
end Pop
def tgt (pc:Nat) (o:Int):Nat:=((pc:Int)+o).toNat
def mcat:OV→Nat
 | .inr (.inl _)=>2
 | _=>1
def pstep {β:Type} (cst:Nat→Option OV) (i:Instr) (pc len:Nat) (L:OLs) (S:List OV) (k:Nat→OLs→List OV→Option β):Option β :=
 match i with
 | .iconst z=>k (pc+len) L (vi z :: S)
 | .bipush z=>k (pc+len) L (vi z :: S)
 | .sipush z=>k (pc+len) L (vi z :: S)
 | .lconst z=>k (pc+len) L (vl (Int.ofNat z.val) :: S)
 | .ldc x=>match cst x with | some (.inl z)=>k (pc+len) L (vi z :: S) | _=>none
 | .ldc_w x=>match cst x with | some (.inl z)=>k (pc+len) L (vi z :: S) | _=>none
 | .ldc2_w x=>match cst x with | some (.inr (.inl z))=>k (pc+len) L (vl z :: S) | _=>none
 | .iload x=>gi L x fun z=>k (pc+len) L (vi z :: S)
 | .iload_n x=>gi L x.val fun z=>k (pc+len) L (vi z :: S)
 | .lload x=>gl L x fun z=>k (pc+len) L (vl z :: S)
 | .lload_n x=>gl L x.val fun z=>k (pc+len) L (vl z :: S)
 | .aload x=>gr L x fun z=>k (pc+len) L (vr z :: S)
 | .aload_n x=>gr L x.val fun z=>k (pc+len) L (vr z :: S)
 | .istore x=>pi1 S fun z S=>inL L x (k (pc+len) (lst1 L x (vi z)) S)
 | .istore_n x=>pi1 S fun z S=>inL L x.val (k (pc+len) (lst1 L x.val (vi z)) S)
 | .lstore x=>pl1 S fun z S=>inL L (x+1) (k (pc+len) (lst2 L x (vl z)) S)
 | .lstore_n x=>pl1 S fun z S=>inL L (x.val+1) (k (pc+len) (lst2 L x.val (vl z)) S)
 | .astore x=>pr1 S fun z S=>inL L x (k (pc+len) (lst1 L x (vr z)) S)
 | .astore_n x=>pr1 S fun z S=>inL L x.val (k (pc+len) (lst1 L x.val (vr z)) S)
 | .iinc x c=>gi L x fun z=>inL L x (k (pc+len) (lst1 L x (vi (w32 (z+c)))) S)
 | .iadd=>pi2 S fun a b S=>k (pc+len) L (vi (w32 (a+b)) :: S)
 | .isub=>pi2 S fun a b S=>k (pc+len) L (vi (w32 (a - b)) :: S)
 | .imul=>pi2 S fun a b S=>k (pc+len) L (vi (w32 (a*b)) :: S)
 | .idiv=>pi2 S fun a b S=>if b=0 then none else k (pc+len) L (vi (div32 a b) :: S)
 | .irem=>pi2 S fun a b S=>if b=0 then none else k (pc+len) L (vi (rem32 a b) :: S)
 | .ineg=>pi1 S fun a S=>k (pc+len) L (vi (w32 (-a)) :: S)
 | .iand=>pi2 S fun a b S=>k (pc+len) L (vi (and32 a b) :: S)
 | .ior=>pi2 S fun a b S=>k (pc+len) L (vi (or32 a b) :: S)
 | .ixor=>pi2 S fun a b S=>k (pc+len) L (vi (xor32 a b) :: S)
 | .ishl=>pi2 S fun a b S=>k (pc+len) L (vi (shl32 a b) :: S)
 | .ishr=>pi2 S fun a b S=>k (pc+len) L (vi (shr32 a b) :: S)
 | .iushr=>pi2 S fun a b S=>k (pc+len) L (vi (ushr32 a b) :: S)
 | .ladd=>pl2 S fun a b S=>k (pc+len) L (vl (w64 (a+b)) :: S)
 | .lsub=>pl2 S fun a b S=>k (pc+len) L (vl (w64 (a - b)) :: S)
 | .lmul=>pl2 S fun a b S=>k (pc+len) L (vl (w64 (a*b)) :: S)
 | .ldiv=>pl2 S fun a b S=>if b=0 then none else k (pc+len) L (vl (div64 a b) :: S)
 | .lrem=>pl2 S fun a b S=>if b=0 then none else k (pc+len) L (vl (rem64 a b) :: S)
 | .lneg=>pl1 S fun a S=>k (pc+len) L (vl (w64 (-a)) :: S)
 | .land=>pl2 S fun a b S=>k (pc+len) L (vl (and64 a b) :: S)
 | .lor=>pl2 S fun a b S=>k (pc+len) L (vl (or64 a b) :: S)
 | .lxor=>pl2 S fun a b S=>k (pc+len) L (vl (xor64 a b) :: S)
 | .lshl=>pli S fun a b S=>k (pc+len) L (vl (shl64 a b) :: S)
 | .lshr=>pli S fun a b S=>k (pc+len) L (vl (shr64 a b) :: S)
 | .lushr=>pli S fun a b S=>k (pc+len) L (vl (ushr64 a b) :: S)
 | .lcmp=>pl2 S fun a b S=>k (pc+len) L (vi (lcm a b) :: S)
 | .i2l=>pi1 S fun a S=>k (pc+len) L (vl a :: S)
 | .l2i=>pl1 S fun a S=>k (pc+len) L (vi (w32 a) :: S)
 | .i2b=>pi1 S fun a S=>k (pc+len) L (vi (b8 a) :: S)
 | .goto o=>k (tgt pc o) L S
 | .if_icmp c o=>pi2 S fun a b S=>br c a b (k (tgt pc o) L S) (k (pc+len) L S)
 | .ifCond c o=>pi1 S fun a S=>br c a 0 (k (tgt pc o) L S) (k (pc+len) L S)
 | .tableswitch d lo _ os=>pi1 S fun a S=>tsw a lo os.toList (fun o=>k (tgt pc o) L S) (k (tgt pc d) L S)
 | .dup=>match S with
  | .inr (.inl _) :: _=>none
  | v :: S'=>k (pc+len) L (v :: v :: S')
  | _=>none
 | .dup2=>match S with
  | .inr (.inl z) :: S'=>k (pc+len) L (vl z :: vl z :: S')
  | _ :: .inr (.inl _) :: _=>none
  | u :: v :: S'=>k (pc+len) L (u :: v :: u :: v :: S')
  | _=>none
 | .pop=>match S with
  | .inr (.inl _) :: _=>none
  | _ :: S'=>k (pc+len) L S'
  | _=>none
 | _=>none
def ilen:Instr→Nat
 | .bipush _ | .iload _ | .lload _ | .aload _ | .istore _ | .lstore _ | .astore _ | .ldc _ | .newarray _=>2
 | .sipush _ | .iinc _ _ | .goto _ | .if_icmp _ _ | .ifCond _ _ | .ldc_w _ | .ldc2_w _ | .getfield _ | .putfield _ | .invokevirtual _ | .invokespecial _ | .invokestatic _ | .new _=>3
 | _=>1
def chk (pc:Nat) (i:Instr) (len:Nat):Bool :=
 match i with
 | .iconst z=>len == 1 && decide (-32768≤z) && decide (z≤32767)
 | .bipush z=>len == 2 && decide (-128≤z) && decide (z≤127)
 | .sipush z=>len == 3 && decide (-32768≤z) && decide (z≤32767)
 | .iinc _ z=>len == 3 && decide (-32768≤z) && decide (z≤32767)
 | .goto o=>len == 3 && decide (0≤(pc:Int)+o)
 | .if_icmp _ o=>len == 3 && decide (0≤(pc:Int)+o)
 | .ifCond _ o=>len == 3 && decide (0≤(pc:Int)+o)
 | .tableswitch d lo hi os=>decide (0≤(pc:Int)+d) && os.toList.all (fun o=>decide (0≤(pc:Int)+o)) && decide (hi=lo+os.toList.length - 1) && decide (-2147483648≤lo) && decide (hi≤2147483647)
 | i=>len == ilen i
end Jvm.OwnMini
namespace Jvm.OwnMini
open Jvm Jvm.ClassFile Sem Op Lib Jvm.Free Jvm.Stand Jvm.LawKit Jvm.RoadKit
abbrev CodeT:=Nat→Nat→Option (Instr×Nat)
abbrev FldT:=Nat→Option (Int×Nat×Nat×Bool)
abbrev LayT:=Nat→Option (Nat×Int)
abbrev InfT:=Nat→Option (List Bool×Nat×Nat×Nat×Nat)
abbrev LivT:=Nat→Nat→Option (List Bool)
abbrev PT:=CodeT×FldT×LayT×(Nat→Option OV)×(Nat→Option Nat)×InfT×(Nat→Bool)×LivT
abbrev pcode (P:PT):CodeT:=P.1
abbrev pfld (P:PT):FldT:=P.2.1
abbrev play (P:PT):LayT:=P.2.2.1
abbrev pcst (P:PT):Nat→Option OV:=P.2.2.2.1
abbrev pmth (P:PT):Nat→Option Nat:=P.2.2.2.2.1
abbrev pinf (P:PT):InfT:=P.2.2.2.2.2.1
abbrev pobi (P:PT):Nat→Bool:=P.2.2.2.2.2.2.1
abbrev pliv (P:PT):LivT:=P.2.2.2.2.2.2.2
abbrev RT:=Option (Option OV×Nat×OMem)
def akind:ArrayType→Nat
 | .int=>1
 | .boolean=>2
 | .byte=>3
 | .long=>4
 | _=>0
def popA:List Bool→List OV→List OV→Option (List OV×List OV)
 | [],S,acc=>some (acc,S)
 | false :: ts,.inl z :: S,acc=>popA ts S (vi z :: acc)
 | true :: ts,.inr (.inl z) :: S,acc=>popA ts S (vl z :: acc)
 | _,_,_=>none
def laid:List OV→OLs
 | []=>[]
 | .inr (.inl z) :: as=>some (vl z) :: none :: laid as
 | .inl z :: as=>some (vi z) :: laid as
 | .inr (.inr z) :: as=>some (vr z) :: laid as
def initL (as:List OV) (n:Nat):OLs:=laid as ++ List.replicate (n - (laid as).length) none
def cats:List OV→Nat
 | []=>0
 | v :: S=>mcat v+cats S
def pushR:Option OV→List OV→List OV
 | none,S=>S
 | some v,S=>v :: S
def ald (P:PT) (kd:Nat→Bool) (S:List OV) (t:Nat) (f:Nat→Int→List OV→RT):RT :=
 match S with
 | .inl i :: .inr (.inr j) :: S' =>
  match play P j with
  | some (k,n)=>cond (kd k && Nat.ble j (t / 2)) (if 0≤i∧i<n then f j i S' else none) none
  | none=>none
 | _=>none
def asi (P:PT) (kd:Nat→Bool) (S:List OV) (t:Nat) (f:Nat→Nat→Int→Int→List OV→RT):RT :=
 match S with
 | .inl z :: .inl i :: .inr (.inr j) :: S' =>
  match play P j with
  | some (k,n)=>cond (kd k && Nat.ble j (t / 2)) (if 0≤i∧i<n then f k j i z S' else none) none
  | none=>none
 | _=>none
def asl (P:PT) (kd:Nat→Bool) (S:List OV) (t:Nat) (f:Nat→Int→Int→List OV→RT):RT :=
 match S with
 | .inr (.inl z) :: .inl i :: .inr (.inr j) :: S' =>
  match play P j with
  | some (k,n)=>cond (kd k && Nat.ble j (t / 2)) (if 0≤i∧i<n then f j i z S' else none) none
  | none=>none
 | _=>none
def isSpec:Instr→Bool
 | .getfield _ | .putfield _ | .iaload | .baload | .laload | .iastore | .bastore | .lastore | .arraylength | .newarray _ | .invokespecial _ | .invokevirtual _ | .ireturn | .lreturn | .return_=>true
 | _=>false
def stepS (P:PT) (k:Nat→Nat→OLs→List OV→Nat→OMem→RT) (q pc:Nat) (L:OLs) (S:List OV) (t:Nat) (m:OMem) (i:Instr) (len:Nat):RT :=
 match i with
 | .getfield x =>
  match S with
  | .inr (.inr 0) :: S' =>
   match pfld P x with
   | some (_,0,j,_)=>cond (Nat.ble j (t / 2)) (k q (pc+len) L (vr j :: S') t m) none
   | some (f,1,_,_)=>k q (pc+len) L (vi (m 0 f) :: S') t m
   | some (f,2,_,_)=>k q (pc+len) L (vi (m 0 f) :: S') t m
   | some (f,4,_,_)=>k q (pc+len) L (vl (m 0 f) :: S') t m
   | _=>none
  | _=>none
 | .putfield x =>
  match pfld P x with
  | some (_,0,j,fin) =>
   match S with
   | .inr (.inr j') :: .inr (.inr 0) :: S'=>cond (Nat.beq j' j && Nat.beq (t+1) (2*j) && Nat.beq q 0) (k q (pc+len) L S' (t+1) m) none
   | _=>none
  | some (f,1,_,fin) =>
   match S with
   | .inl z :: .inr (.inr 0) :: S'=>cond (!fin || Nat.beq q 0) (k q (pc+len) L S' t (sto m 0 f z)) none
   | _=>none
  | some (f,2,_,fin) =>
   match S with
   | .inl z :: .inr (.inr 0) :: S'=>cond (!fin || Nat.beq q 0) (k q (pc+len) L S' t (sto m 0 f (z % 2))) none
   | _=>none
  | some (f,4,_,fin) =>
   match S with
   | .inr (.inl z) :: .inr (.inr 0) :: S'=>cond (!fin || Nat.beq q 0) (k q (pc+len) L S' t (sto m 0 f z)) none
   | _=>none
  | _=>none
 | .iaload=>ald P (fun kd=>Nat.beq kd 1) S t fun j i S'=>k q (pc+len) L (vi (m j i) :: S') t m
 | .baload=>ald P (fun kd=>Nat.beq kd 2 || Nat.beq kd 3) S t fun j i S'=>k q (pc+len) L (vi (m j i) :: S') t m
 | .laload=>ald P (fun kd=>Nat.beq kd 4) S t fun j i S'=>k q (pc+len) L (vl (m j i) :: S') t m
 | .iastore=>asi P (fun kd=>Nat.beq kd 1) S t fun _ j i z S'=>k q (pc+len) L S' t (sto m j i z)
 | .bastore=>asi P (fun kd=>Nat.beq kd 2 || Nat.beq kd 3) S t fun kd j i z S'=>k q (pc+len) L S' t (sto m j i (cond (Nat.beq kd 2) (z % 2) (b8 z)))
 | .lastore=>asl P (fun kd=>Nat.beq kd 4) S t fun j i z S'=>k q (pc+len) L S' t (sto m j i z)
 | .arraylength =>
  match S with
  | .inr (.inr j) :: S' =>
   match play P j with
   | some (_,n)=>cond (Nat.ble j (t / 2)) (k q (pc+len) L (vi n :: S') t m) none
   | none=>none
  | _=>none
 | .newarray a =>
  match S with
  | .inl z :: S' =>
   match play P (t / 2+1) with
   | some (kd,n)=>cond (Nat.beq (t % 2) 0 && Nat.beq kd (akind a) && Nat.beq q 0) (if z=n then k q (pc+len) L (vr (t / 2+1) :: S') (t+1) m else none) none
   | none=>none
  | _=>none
 | .invokespecial x =>
  match S with
  | .inr (.inr 0) :: S' =>
   match pinf P q with
   | some (_,_,_,fr,lc)=>cond (pobi P x && Nat.ble 1 fr && Nat.ble (cats S'+12) lc) (k q (pc+len) L S' t m) none
   | none=>none
  | _=>none
 | .invokevirtual x =>
  match pmth P x with
  | some q' =>
   match pinf P q',pinf P q with
   | some (ps,ml,_,fr',lc'),some (_,_,_,fr,lc) =>
    match popA ps S [] with
    | some (as,.inr (.inr 0) :: S') =>
     cond (Nat.ble (fr'+1) fr && Nat.ble (cats S'+(ml+11)+lc') lc && !(Nat.beq q' 0) && Nat.ble (initL (vr 0 :: as) ml).length ml)
      ((k q' 0 (initL (vr 0 :: as) ml) [] t m).bind fun y=>k q (pc+len) L (pushR y.1 S') y.2.1 y.2.2) none
    | _=>none
   | _,_=>none
  | none=>none
 | .ireturn =>
  match S with
  | .inl z :: _ =>
   match pinf P q with
   | some (_,_,1,_)=>some (some (vi z),t,m)
   | some (_,_,2,_)=>some (some (vi (z % 2)),t,m)
   | _=>none
  | _=>none
 | .lreturn =>
  match S with
  | .inr (.inl z) :: _ =>
   match pinf P q with
   | some (_,_,4,_)=>some (some (vl z),t,m)
   | _=>none
  | _=>none
 | .return_ =>
  match S with
  | [] =>
   match pinf P q with
   | some (_,_,0,_)=>some (none,t,m)
   | _=>none
  | _=>none
 | _=>none
def stepI (P:PT) (k:Nat→Nat→OLs→List OV→Nat→OMem→RT) (q pc:Nat) (L:OLs) (S:List OV) (t:Nat) (m:OMem) (i:Instr) (len:Nat):RT :=
 cond (isSpec i) (stepS P k q pc L S t m i len) (pstep (pcst P) i pc len L S fun pc' L' S'=>k q pc' L' S' t m)
def stepP (P:PT) (k:Nat→Nat→OLs→List OV→Nat→OMem→RT) (q pc:Nat) (L:OLs) (S:List OV) (t:Nat) (m:OMem):RT :=
 match pcode P q pc with
 | some (i,len)=>stepI P k q pc (mask (pliv P q pc) L) S t m i len
 | none=>none
def runP (P:PT):Nat→Nat→Nat→OLs→List OV→Nat→OMem→RT
 | 0=>fun _ _ _ _ _ _=>none
 | n+1=>stepP P (runP P n)
end Jvm.OwnMini
namespace Jvm.OwnMini
abbrev qi (z:Int):Option OV:=some (vi z)
abbrev qj (z:Int):Option OV:=some (vl z)
abbrev qr (k:Nat):Option OV:=some (vr k)
abbrev qn:Option OV:=none
end Jvm.OwnMini
namespace Jvm.OwnMini
open Jvm Jvm.ClassFile Sem Op Lib Jvm.Free Jvm.Stand Jvm.LawKit Jvm.RoadKit
def VR (A:Nat→Addr) (b:Nat):OV→Value→Prop
 | .inl z,v=>∃ x:Int32,v=.int x∧x.toInt=z
 | .inr (.inl z),v=>∃ x:Int64,v=.long x∧x.toInt=z
 | .inr (.inr k),v=>k≤b∧v=.ref (A k)
def SR (A:Nat→Addr) (b:Nat):List OV→List Value→Prop
 | [],[]=>True
 | v :: S,x :: X=>VR A b v x∧SR A b S X
 | _,_=>False
def WF (l:Array Slot):Prop:=(∀ k,l[k]?=some .second→∃ j v,k=j+1∧l[j]?=some (.val v)∧v.category=2)∧(∀ k v,l[k]?=some (.val v)→v.category=2→l[k+1]?=some .second)
def LR (A:Nat→Addr) (b:Nat) (L:OLs) (Ls:Array Slot):Prop:=L.length=Ls.size∧(∀ k v,lget L k=some v→∃ x,Ls[k]?=some (.val x)∧VR A b v x)∧WF Ls
section Rel
variable {A A':Nat→Addr} {b b':Nat}
theorem VR.mono {v:OV} {x:Value} (h:VR A b v x) (hA:∀ j,j≤b→A' j=A j) (hb:b≤b'):VR A' b' v x:=by
 rcases v with z | z | k
 ·exact h
 ·exact h
 ·obtain ⟨h1,h2⟩:=h
  exact ⟨Nat.le_trans h1 hb,by rw [h2,hA k h1]⟩
theorem SR.mono (hA:∀ j,j≤b→A' j=A j) (hb:b≤b'):∀ {S:List OV} {X:List Value},SR A b S X→SR A' b' S X
 | [],[],_=>trivial
 | _ :: _,_ :: _,⟨h1,h2⟩=>⟨h1.mono hA hb,SR.mono hA hb h2⟩
theorem LR.mono {L:OLs} {Ls:Array Slot} (h:LR A b L Ls) (hA:∀ j,j≤b→A' j=A j) (hb:b≤b'):LR A' b' L Ls :=
 ⟨h.1,fun k v hk=>by obtain ⟨x,h1,h2⟩:=h.2.1 k v hk; exact ⟨x,h1,h2.mono hA hb⟩,h.2.2⟩
theorem VR.cat {v:OV} {x:Value} (h:VR A b v x) (hv:mcat v=1):x.category=1:=by
 rcases v with z | z | k
 ·obtain ⟨y,rfl,-⟩:=h; rfl
 ·cases hv
 ·obtain ⟨-,rfl⟩:=h; rfl
theorem VR.cats {v:OV} {x:Value} (h:VR A b v x):x.category=mcat v:=by
 rcases v with z | z | k
 ·obtain ⟨y,rfl,-⟩:=h; rfl
 ·obtain ⟨y,rfl,-⟩:=h; rfl
 ·obtain ⟨-,rfl⟩:=h; rfl
theorem SR.catsum:∀ {S:List OV} {X:List Value},SR A b S X→(X.map fun v=>v.category).sum=cats S
 | [],[],_=>rfl
 | v :: S,x :: X,⟨h1,h2⟩=>by
  show ((x.category :: X.map fun v=>v.category)).sum=mcat v+cats S
  rw [List.sum_cons,h1.cats,SR.catsum h2]
theorem SR.i1 {z:Int} {S:List OV} {X:List Value} (h:SR A b (.inl z :: S) X):∃ y X',X=.int y :: X'∧y.toInt=z∧SR A b S X':=by
 cases X with
 | nil=>exact h.elim
 | cons x X'=>obtain ⟨⟨y,rfl,e⟩,h2⟩:=h; exact ⟨y,X',rfl,e,h2⟩
theorem SR.l1 {z:Int} {S:List OV} {X:List Value} (h:SR A b (.inr (.inl z) :: S) X):∃ y X',X=.long y :: X'∧y.toInt=z∧SR A b S X':=by
 cases X with
 | nil=>exact h.elim
 | cons x X'=>obtain ⟨⟨y,rfl,e⟩,h2⟩:=h; exact ⟨y,X',rfl,e,h2⟩
theorem SR.r1 {k:Nat} {S:List OV} {X:List Value} (h:SR A b (.inr (.inr k) :: S) X):k≤b∧∃ X',X=.ref (A k) :: X'∧SR A b S X':=by
 cases X with
 | nil=>exact h.elim
 | cons x X'=>obtain ⟨⟨hb,rfl⟩,h2⟩:=h; exact ⟨hb,X',rfl,h2⟩
theorem SR.i2 {z w:Int} {S:List OV} {X:List Value} (h:SR A b (.inl w :: .inl z :: S) X):∃ y x X',X=.int y :: .int x :: X'∧y.toInt=w∧x.toInt=z∧SR A b S X':=by
 obtain ⟨y,X',rfl,e,h⟩:=SR.i1 h
 obtain ⟨x,X',rfl,e',h⟩:=SR.i1 h
 exact ⟨y,x,X',rfl,e,e',h⟩
theorem SR.l2 {z w:Int} {S:List OV} {X:List Value} (h:SR A b (.inr (.inl w) :: .inr (.inl z) :: S) X):∃ y x X',X=.long y :: .long x :: X'∧y.toInt=w∧x.toInt=z∧SR A b S X':=by
 obtain ⟨y,X',rfl,e,h⟩:=SR.l1 h
 obtain ⟨x,X',rfl,e',h⟩:=SR.l1 h
 exact ⟨y,x,X',rfl,e,e',h⟩
theorem SR.li {z w:Int} {S:List OV} {X:List Value} (h:SR A b (.inl w :: .inr (.inl z) :: S) X):∃ y x X',X=.int y :: .long x :: X'∧y.toInt=w∧x.toInt=z∧SR A b S X':=by
 obtain ⟨y,X',rfl,e,h⟩:=SR.i1 h
 obtain ⟨x,X',rfl,e',h⟩:=SR.l1 h
 exact ⟨y,x,X',rfl,e,e',h⟩
theorem SR.ci {z:Int} {y:Int32} {S:List OV} {X:List Value} (hy:y.toInt=z) (h:SR A b S X):SR A b (vi z :: S) (.int y :: X):=⟨⟨y,rfl,hy⟩,h⟩
theorem SR.cj {z:Int} {y:Int64} {S:List OV} {X:List Value} (hy:y.toInt=z) (h:SR A b S X):SR A b (vl z :: S) (.long y :: X):=⟨⟨y,rfl,hy⟩,h⟩
theorem SR.cr {k:Nat} {S:List OV} {X:List Value} (hb:k≤b) (h:SR A b S X):SR A b (vr k :: S) (.ref (A k) :: X):=⟨⟨hb,rfl⟩,h⟩
theorem SR.cv {v:OV} {x:Value} {S:List OV} {X:List Value} (h1:VR A b v x) (h:SR A b S X):SR A b (v :: S) (x :: X):=⟨h1,h⟩
end Rel
section Pops
variable {β:Type} {S:List OV} {L:OLs} {b:β}
theorem pi1_some {f:Int→List OV→Option β} (h:pi1 S f=some b):∃ a S',S=.inl a :: S'∧f a S'=some b:=by
 match S,h with
 | .inl a :: S',h=>exact ⟨a,S',rfl,h⟩
theorem pl1_some {f:Int→List OV→Option β} (h:pl1 S f=some b):∃ a S',S=.inr (.inl a) :: S'∧f a S'=some b:=by
 match S,h with
 | .inr (.inl a) :: S',h=>exact ⟨a,S',rfl,h⟩
theorem pr1_some {f:Nat→List OV→Option β} (h:pr1 S f=some b):∃ a S',S=.inr (.inr a) :: S'∧f a S'=some b:=by
 match S,h with
 | .inr (.inr a) :: S',h=>exact ⟨a,S',rfl,h⟩
theorem pi2_some {f:Int→Int→List OV→Option β} (h:pi2 S f=some b):∃ x y S',S=.inl y :: .inl x :: S'∧f x y S'=some b:=by
 match S,h with
 | .inl y :: .inl x :: S',h=>exact ⟨x,y,S',rfl,h⟩
theorem pl2_some {f:Int→Int→List OV→Option β} (h:pl2 S f=some b):∃ x y S',S=.inr (.inl y) :: .inr (.inl x) :: S'∧f x y S'=some b:=by
 match S,h with
 | .inr (.inl y) :: .inr (.inl x) :: S',h=>exact ⟨x,y,S',rfl,h⟩
theorem pli_some {f:Int→Int→List OV→Option β} (h:pli S f=some b):∃ x y S',S=.inl y :: .inr (.inl x) :: S'∧f x y S'=some b:=by
 match S,h with
 | .inl y :: .inr (.inl x) :: S',h=>exact ⟨x,y,S',rfl,h⟩
theorem gi_some {k:Nat} {f:Int→Option β} (h:gi L k f=some b):∃ z,lget L k=some (.inl z)∧f z=some b:=by
 unfold gi at h
 split at h
 ·exact ⟨_,by assumption,h⟩
 ·cases h
theorem gl_some {k:Nat} {f:Int→Option β} (h:gl L k f=some b):∃ z,lget L k=some (.inr (.inl z))∧f z=some b:=by
 unfold gl at h
 split at h
 ·exact ⟨_,by assumption,h⟩
 ·cases h
theorem gr_some {k:Nat} {f:Nat→Option β} (h:gr L k f=some b):∃ z,lget L k=some (.inr (.inr z))∧f z=some b:=by
 unfold gr at h
 split at h
 ·exact ⟨_,by assumption,h⟩
 ·cases h
theorem inL_some {k:Nat} {x:Option β} (h:inL L k x=some b):k<L.length∧x=some b:=by
 unfold inL at h
 split at h
 ·exact ⟨by assumption,h⟩
 ·cases h
def brP (c:ClassFile.Cond) (x y:Int):Prop:=match c with
 | .eq=>x=y
 | .ne=>¬ x=y
 | .lt=>x<y
 | .ge=>¬ x<y
 | .gt=>y<x
 | .le=>¬ y<x
theorem br_some {c:ClassFile.Cond} {x y:Int} {u v:Option β} (h:br c x y u v=some b):(brP c x y∧u=some b)∨(¬ brP c x y∧v=some b):=by
 cases c <;> simp only [br] at h <;> split at h <;> rename_i q <;> simp only [brP] <;> first | exact Or.inl ⟨q,h⟩ | exact Or.inr ⟨q,h⟩ | exact Or.inr ⟨fun r=>r q,h⟩
theorem icmp_holds {c:ClassFile.Cond} {x y:Int32} (h:brP c x.toInt y.toInt):if_icmp.holds c x y=true:=by
 cases c <;> simp only [brP] at h
 ·exact (teq (Int32.toInt_inj.mp h)).1
 ·exact (feq (fun q=>h (by rw [q]))).2
 ·exact (tlt (Int32.lt_iff_toInt_lt.mpr h)).1
 ·exact (flt (fun q=>h (Int32.lt_iff_toInt_lt.mp q))).2.1
 ·exact (tlt (Int32.lt_iff_toInt_lt.mpr h)).2.2.1
 ·exact (flt (fun q=>h (Int32.lt_iff_toInt_lt.mp q))).2.2.2
theorem icmp_fails {c:ClassFile.Cond} {x y:Int32} (h:¬ brP c x.toInt y.toInt):if_icmp.holds c x y=false:=by
 cases c <;> simp only [brP] at h
 ·exact (feq (fun q=>h (by rw [q]))).1
 ·exact (teq (Int32.toInt_inj.mp (Classical.not_not.mp h))).2
 ·exact (flt (fun q=>h (Int32.lt_iff_toInt_lt.mp q))).1
 ·exact (tlt (Int32.lt_iff_toInt_lt.mpr (Classical.not_not.mp h))).2.1
 ·exact (flt (fun q=>h (Int32.lt_iff_toInt_lt.mp q))).2.2.1
 ·exact (tlt (Int32.lt_iff_toInt_lt.mpr (Classical.not_not.mp h))).2.2.2
theorem tsw_some (a:Int):∀ (lo:Int) (os:List Int) {f:Int→Option β} {d:Option β},tsw a lo os f d=some b→(∃ o n,a=lo+(n:Nat)∧os[n]?=some o∧f o=some b)∨((a<lo∨lo+os.length - 1<a)∧d=some b)
 | lo,[],f,d,h=>by
  refine Or.inr ⟨?_,h⟩
  simp only [List.length_nil]; omega
 | lo,o :: os,f,d,h=>by
  unfold tsw at h
  split at h
  ·rename_i q
   exact Or.inl ⟨o,0,by simpa using q,rfl,h⟩
  ·rename_i q
   rcases tsw_some a (lo+1) os h with ⟨o',n,h1,h2,h3⟩ | ⟨h1,h2⟩
   ·exact Or.inl ⟨o',n+1,by rw [h1]; simp only [Int.natCast_add]; omega,by simpa using h2,h3⟩
   ·refine Or.inr ⟨?_,h2⟩
    simp only [List.length_cons]; omega
theorem dup_some {cst:Nat→Option OV} {pc len:Nat} {k:Nat→OLs→List OV→Option β} (h:pstep cst .dup pc len L S k=some b):∃ v S',S=v :: S'∧mcat v=1∧k (pc+len) L (v :: v :: S')=some b:=by
 match S,h with
 | .inl z :: S',h=>exact ⟨_,S',rfl,rfl,h⟩
 | .inr (.inr z) :: S',h=>exact ⟨_,S',rfl,rfl,h⟩
theorem pop_some {cst:Nat→Option OV} {pc len:Nat} {k:Nat→OLs→List OV→Option β} (h:pstep cst .pop pc len L S k=some b):∃ v S',S=v :: S'∧mcat v=1∧k (pc+len) L S'=some b:=by
 match S,h with
 | .inl z :: S',h=>exact ⟨_,S',rfl,rfl,h⟩
 | .inr (.inr z) :: S',h=>exact ⟨_,S',rfl,rfl,h⟩
theorem dup2_some {cst:Nat→Option OV} {pc len:Nat} {k:Nat→OLs→List OV→Option β} (h:pstep cst .dup2 pc len L S k=some b):(∃ z S',S=.inr (.inl z) :: S'∧k (pc+len) L (vl z :: vl z :: S')=some b)∨∃ u v S',S=u :: v :: S'∧mcat u=1∧mcat v=1∧k (pc+len) L (u :: v :: u :: v :: S')=some b:=by
 match S,h with
 | .inr (.inl z) :: S',h=>exact Or.inl ⟨z,S',rfl,h⟩
 | .inl y :: .inl z :: S',h=>exact Or.inr ⟨_,_,S',rfl,rfl,rfl,h⟩
 | .inl y :: .inr (.inr z) :: S',h=>exact Or.inr ⟨_,_,S',rfl,rfl,rfl,h⟩
 | .inr (.inr y) :: .inl z :: S',h=>exact Or.inr ⟨_,_,S',rfl,rfl,rfl,h⟩
 | .inr (.inr y) :: .inr (.inr z) :: S',h=>exact Or.inr ⟨_,_,S',rfl,rfl,rfl,h⟩
end Pops
theorem w32_eq (z:Int):w32 z=z.bmod (2 ^ 32):=by
 unfold w32
 rw [Int.bmod_def]
 split <;> omega
theorem w64_eq (z:Int):w64 z=z.bmod (2 ^ 64):=by
 unfold w64
 rw [Int.bmod_def]
 split <;> omega
theorem b8_eq (x:Int32):(x.toInt8.toInt32).toInt=b8 x.toInt:=by
 obtain ⟨h1,h2,h3⟩:=c_i2b x
 unfold b8
 omega
theorem cmpL_toInt (x y:Int64):(XT.cmpL x y).toInt=lcm x.toInt y.toInt:=by
 unfold XT.cmpL lcm
 by_cases h:y<x
 ·rw [if_pos h,if_pos (Int64.lt_iff_toInt_lt.mp h)]; rfl
 ·rw [if_neg h,if_neg (fun q=>h (Int64.lt_iff_toInt_lt.mpr q))]
  by_cases h2:x=y
  ·rw [if_pos h2,if_pos (by rw [h2])]; rfl
  ·rw [if_neg h2,if_neg (fun q=>h2 (Int64.toInt_inj.mp q))]; rfl
theorem and1_eq (x:Int32):(x &&& 1).toInt=x.toInt % 2:=c_mask x 1 1 (by decide) (by decide)
theorem lget_lput:∀ (L:OLs) (k j:Nat) (v:Option OV),lget (lput L k v) j=if j=k∧k<L.length then v else lget L j
 | [],k,j,v=>by simp [lput,lget]
 | x :: xs,0,0,v=>by simp [lput,lget]
 | x :: xs,0,j+1,v=>by simp [lput,lget]
 | x :: xs,k+1,0,v=>by simp [lput,lget]
 | x :: xs,k+1,j+1,v=>by
  have:=lget_lput xs k j v
  simp only [lput,lget,this,List.length_cons]
  by_cases h:j=k∧k<xs.length
  ·rw [if_pos h,if_pos (by omega)]
  ·rw [if_neg h,if_neg (by omega)]
theorem length_lput:∀ (L:OLs) (k:Nat) (v:Option OV),(lput L k v).length=L.length
 | [],_,_=>rfl
 | _ :: _,0,_=>rfl
 | x :: xs,k+1,v=>by simp [lput,length_lput xs k v]
theorem length_killPrev (L:OLs) (k:Nat):(killPrev L k).length=L.length:=by
 cases k with
 | zero=>rfl
 | succ j =>
  simp only [killPrev]
  split
  ·exact length_lput _ _ _
  ·rfl
theorem lget_killPrev {L:OLs} {k j:Nat} {v:OV} (h:lget (killPrev L k) j=some v):lget L j=some v∧(j+1=k→mcat v=1):=by
 cases k with
 | zero=>exact ⟨h,fun q=>by omega⟩
 | succ i =>
  simp only [killPrev] at h
  split at h
  ·rename_i z hz
   rw [lget_lput] at h
   split at h
   ·cases h
   ·rename_i hn
    refine ⟨h,fun q=>?_⟩
    have e:j=i:=by omega
    subst e
    rw [hz] at h
    by_cases hl:j<L.length
    ·exact absurd ⟨rfl,hl⟩ hn
    ·exfalso
     have:lget L j=none:=by
      clear h hz hn
      induction L generalizing j with
      | nil=>rfl
      | cons x xs ih =>
       cases j with
       | zero=>simp at hl
       | succ j=>exact ih (by omega) (by simpa using hl)
     rw [this] at hz; cases hz
  ·rename_i hn
   refine ⟨h,fun q=>?_⟩
   have e:j=i:=by omega
   subst e
   rcases v with z | z | z
   ·rfl
   ·exact absurd h (hn z)
   ·rfl
theorem lget_mask:∀ (bs:Option (List Bool)) (L:OLs) (k:Nat) {v:OV},lget (mask bs L) k=some v→lget L k=some v
 | none,L,k,v,h=>by simpa [mask] using h
 | some [],L,k,v,h=>by simpa [mask] using h
 | some (true :: bs),[],k,v,h=>by simpa [mask] using h
 | some (false :: bs),[],k,v,h=>by simpa [mask] using h
 | some (true :: bs),x :: xs,0,v,h=>h
 | some (true :: bs),x :: xs,k+1,v,h=>lget_mask (some bs) xs k h
 | some (false :: bs),x :: xs,0,v,h=>by cases h
 | some (false :: bs),x :: xs,k+1,v,h=>lget_mask (some bs) xs k h
theorem length_mask:∀ (bs:Option (List Bool)) (L:OLs),(mask bs L).length=L.length
 | none,L=>by simp [mask]
 | some [],L=>by simp [mask]
 | some (true :: bs),[]=>by simp [mask]
 | some (false :: bs),[]=>by simp [mask]
 | some (true :: bs),x :: xs=>by simp [mask,length_mask (some bs) xs]
 | some (false :: bs),x :: xs=>by simp [mask,length_mask (some bs) xs]
theorem LR.mask {A:Nat→Addr} {b:Nat} {L:OLs} {Ls:Array Slot} (h:LR A b L Ls) (bs:Option (List Bool)):LR A b (mask bs L) Ls :=
 ⟨by rw [length_mask]; exact h.1,fun k v hk=>h.2.1 k v (lget_mask bs L k hk),h.2.2⟩
theorem store1_at {l:Array Slot} (hw:WF l) {k:Nat} (hk:k<l.size) {x:Value} (hc:x.category=1) :
  ∃ l',storeLocals l k x=some l'∧l'.size=l.size∧l'[k]?=some (.val x) ∧
   (∀ j,j≠k→l'[j]?=l[j]?∨(l'[j]?=some .unset∧((j+1=k∧l[k]?=some .second)∨(j=k+1∧l[j]?=some .second∧∃ v,l[k]?=some (.val v)∧v.category=2)))) ∧
   (l[k]?=some .second→∀ j,j+1=k→l'[j]?=some .unset)∧(∀ v,l[k]?=some (.val v)→v.category=2→l'[k+1]?=some .unset):=by
 have hx:l[k]?=some l[k]:=Array.getElem?_eq_getElem hk
 have hc2:¬ x.category=2:=by omega
 cases ho:l[k] with
 | unset =>
  rw [ho] at hx
  refine ⟨l.setIfInBounds k (.val x),by simp [storeLocals,storeSelf,setAt,ho,hk,hc2],by simp,by simp [hk],fun j hj=>Or.inl (Array.getElem?_setIfInBounds_ne (Ne.symm hj)),(fun q=>by rw [hx] at q; cases q),(fun v q=>by rw [hx] at q; cases q)⟩
 | second =>
  rw [ho] at hx
  obtain ⟨j,v,rfl,hj,-⟩:=hw.1 k hx
  have hj':j<l.size:=by omega
  refine ⟨(l.setIfInBounds j .unset).setIfInBounds (j+1) (.val x),by simp [storeLocals,storeSelf,setAt,ho,hk,hj',hc2],by simp,by simp [hk],fun i hi=>?_,fun _ i hi=>?_,(fun v q=>by rw [hx] at q; cases q)⟩
  ·rw [Array.getElem?_setIfInBounds_ne (Ne.symm hi)]
   by_cases e:i=j
   ·subst e
    exact Or.inr ⟨by simp [hj'],Or.inl ⟨rfl,hx⟩⟩
   ·exact Or.inl (Array.getElem?_setIfInBounds_ne (Ne.symm e))
  ·have e:i=j:=by omega
   subst e
   rw [Array.getElem?_setIfInBounds_ne (by omega)]
   simp [hj']
 | val old =>
  rw [ho] at hx
  by_cases h2:old.category=2
  ·have hs:=hw.2 k old hx h2
   have hk1:k+1<l.size:=(Array.getElem?_eq_some_iff.mp hs).1
   refine ⟨(l.setIfInBounds (k+1) .unset).setIfInBounds k (.val x),by simp [storeLocals,storeSelf,setAt,ho,hk,hk1,hc2,h2],by simp,by simp [hk],fun i hi=>?_,(fun q=>by rw [hx] at q; cases q),fun v _ _=>?_⟩
   ·rw [Array.getElem?_setIfInBounds_ne (Ne.symm hi)]
    by_cases e:i=k+1
    ·subst e
     exact Or.inr ⟨by simp [hk1],Or.inr ⟨rfl,hs,old,hx,h2⟩⟩
    ·exact Or.inl (Array.getElem?_setIfInBounds_ne (Ne.symm e))
   ·rw [Array.getElem?_setIfInBounds_ne (by omega)]
    simp [hk1]
  ·refine ⟨l.setIfInBounds k (.val x),by simp [storeLocals,storeSelf,setAt,ho,hk,hc2,h2],by simp,by simp [hk],fun j hj=>Or.inl (Array.getElem?_setIfInBounds_ne (Ne.symm hj)),(fun q=>by rw [hx] at q; cases q),(fun v q qq=>by rw [hx] at q; cases q; exact absurd qq h2)⟩
theorem LR.st1 {A:Nat→Addr} {b:Nat} {L:OLs} {Ls:Array Slot} (h:LR A b L Ls) {k:Nat} (hk:k<L.length) {v:OV} {x:Value} (hv:VR A b v x) (hc:x.category=1) :
  ∃ Ls',storeLocals Ls k x=some Ls'∧LR A b (lst1 L k v) Ls'∧Ls'.size=Ls.size:=by
 obtain ⟨l',h1,h2,h3,h4,h5,h6⟩:=store1_at h.2.2 (by rw [← h.1]; exact hk) hc
 refine ⟨l',h1,⟨?_,?_,?_,?_⟩,h2⟩
 ·rw [lst1,length_lput,length_killPrev,h.1,h2]
 ·intro j w hj
  rw [lst1,lget_lput,length_killPrev] at hj
  by_cases e:j=k∧k<L.length
  ·rw [if_pos e] at hj
   cases hj
   obtain ⟨rfl,-⟩:=e
   exact ⟨x,h3,hv⟩
  ·rw [if_neg e] at hj
   have hne:j≠k:=fun q=>e ⟨q,hk⟩
   obtain ⟨g1,g2⟩:=lget_killPrev hj
   obtain ⟨y,g3,g4⟩:=h.2.1 j w g1
   rcases h4 j hne with q | ⟨-,q | q⟩
   ·exact ⟨y,q.trans g3,g4⟩
   ·exfalso
    obtain ⟨i,u,q1,q2,q3⟩:=h.2.2.1 k q.2
    have:i=j:=by omega
    subst this
    cases g3.symm.trans q2
    rw [g4.cat (g2 q.1)] at q3; cases q3
   ·exfalso
    cases g3.symm.trans q.2.1
 ·intro j hj
  by_cases e:j=k
  ·subst e; rw [h3] at hj; cases hj
  ·have hj0:Ls[j]?=some .second:=by
    rcases h4 j e with q | ⟨q,-⟩
    ·exact q ▸ hj
    ·rw [q] at hj; cases hj
   obtain ⟨i,u,rfl,q2,q3⟩:=h.2.2.1 j hj0
   refine ⟨i,u,rfl,?_,q3⟩
   have hi:i≠k:=fun q=>by
    subst q
    rw [h6 u q2 q3] at hj; cases hj
   rcases h4 i hi with q | ⟨-,q | q⟩
   ·rw [q]; exact q2
   ·exact absurd q.1 e
   ·rw [q2] at q; cases q.2.1
 ·intro j u hj hu
  by_cases e:j=k
  ·subst e; rw [h3] at hj; cases hj; omega
  ·have hj0:Ls[j]?=some (.val u):=by
    rcases h4 j e with q | ⟨q,-⟩
    ·exact q ▸ hj
    ·rw [q] at hj; cases hj
   have q2:=h.2.2.2 j u hj0 hu
   have hi:j+1≠k:=fun q=>by
    subst q
    rw [h5 q2 j rfl] at hj; cases hj
   rcases h4 (j+1) hi with q | ⟨-,q | q⟩
   ·rw [q]; exact q2
   ·exfalso
    obtain ⟨i,w,r1,r2,r3⟩:=h.2.2.1 k q.2
    have:i=j+1:=by omega
    subst this
    rw [q2] at r2; cases r2
   ·exact absurd (by omega:j=k) e
theorem store2_at {l:Array Slot} (hw:WF l) {k:Nat} (hk:k+1<l.size) {x:Value} (hc:x.category=2) :
  ∃ l',storeLocals l k x=some l'∧l'.size=l.size∧l'[k]?=some (.val x)∧l'[k+1]?=some .second ∧
   (∀ j,j≠k→j≠k+1→l'[j]?=l[j]?∨(l'[j]?=some .unset∧((j+1=k∧l[k]?=some .second)∨(j=k+2∧l[j]?=some .second∧∃ v,l[k+1]?=some (.val v)∧v.category=2)))) ∧
   (l[k]?=some .second→∀ j,j+1=k→l'[j]?=some .unset)∧(∀ v,l[k+1]?=some (.val v)→v.category=2→l'[k+2]?=some .unset):=by
 have hk0:k<l.size:=by omega
 have hx:l[k]?=some l[k]:=Array.getElem?_eq_getElem hk0
 have hy:l[k+1]?=some l[k+1]:=Array.getElem?_eq_getElem hk
 have key:∀ l1:Array Slot,l1.size=l.size→∀ s1,l1[k+1]?=some s1→(∀ v,s1=.val v→v.category=2→k+2<l.size)→∃ l',storeSelf l1 k x=some l'∧l'.size=l.size∧l'[k]?=some (.val x)∧l'[k+1]?=some .second∧(∀ j,j≠k→j≠k+1→l'[j]?=l1[j]?∨(j=k+2∧l'[j]?=some .unset∧∃ v,s1=.val v∧v.category=2))∧(∀ v,s1=.val v→v.category=2→l'[k+2]?=some .unset):=by
  intro l1 hs1 s1 hl1 h2
  have a1:k<l1.size:=by omega
  have a2:k+1<l1.size:=by omega
  have hg:(l1.setIfInBounds k (.val x))[k+1]?=some s1:=by rw [Array.getElem?_setIfInBounds_ne (by omega)]; exact hl1
  have plain:(∀ v,s1=.val v→v.category≠2)→storeSelf l1 k x=some ((l1.setIfInBounds k (.val x)).setIfInBounds (k+1) .second):=by
   intro q
   simp only [storeSelf,setAt,a1,if_true,Option.bind_eq_bind,Option.bind_some,hc]
   rw [hg]
   cases s1 with
   | unset=>simp [a2]
   | second=>simp [a2]
   | val v=>simp [a2,q v rfl]
  have done:(∀ v,s1=.val v→v.category≠2)→∃ l',storeSelf l1 k x=some l'∧l'.size=l.size∧l'[k]?=some (.val x)∧l'[k+1]?=some .second∧(∀ j,j≠k→j≠k+1→l'[j]?=l1[j]?∨(j=k+2∧l'[j]?=some .unset∧∃ v,s1=.val v∧v.category=2))∧(∀ v,s1=.val v→v.category=2→l'[k+2]?=some .unset):=by
   intro q
   refine ⟨_,plain q,by simp [hs1],?_,by simp [a2],fun j h1 h2=>Or.inl ?_,fun v e1 e2=>absurd e2 (q v e1)⟩
   ·rw [Array.getElem?_setIfInBounds_ne (by omega)]; simp [a1]
   ·rw [Array.getElem?_setIfInBounds_ne (Ne.symm h2),Array.getElem?_setIfInBounds_ne (Ne.symm h1)]
  cases s1 with
  | unset=>exact done (fun v q=>by cases q)
  | second=>exact done (fun v q=>by cases q)
  | val v =>
   by_cases hv:v.category=2
   ·have a3:k+2<l1.size:=by rw [hs1]; exact h2 v rfl hv
    refine ⟨((l1.setIfInBounds k (.val x)).setIfInBounds (k+2) .unset).setIfInBounds (k+1) .second,?_,by simp [hs1],?_,by simp [a2],fun j q1 q2=>?_,fun _ _ _=>?_⟩
    ·simp only [storeSelf,setAt,a1,if_true,Option.bind_eq_bind,Option.bind_some,hc]
     rw [hg]
     simp [hv,a2,a3]
    ·rw [Array.getElem?_setIfInBounds_ne (by omega),Array.getElem?_setIfInBounds_ne (by omega)]; simp [a1]
    ·rw [Array.getElem?_setIfInBounds_ne (Ne.symm q2)]
     by_cases e:j=k+2
     ·subst e
      exact Or.inr ⟨rfl,by simp [a3],v,rfl,hv⟩
     ·rw [Array.getElem?_setIfInBounds_ne (Ne.symm e),Array.getElem?_setIfInBounds_ne (Ne.symm q1)]
      exact Or.inl rfl
    ·rw [Array.getElem?_setIfInBounds_ne (by omega)]; simp [a3]
   ·exact done (fun v' q=>by cases q; exact hv)
 have room2:∀ v,l[k+1]?=some (.val v)→v.category=2→k+2<l.size:=fun v q1 q2=>(Array.getElem?_eq_some_iff.mp (hw.2 (k+1) v q1 q2)).1
 cases ho:l[k] with
 | unset =>
  rw [ho] at hx
  obtain ⟨l',g1,g2,g3,g4,g5,g6⟩:=key l rfl _ hy (fun v q1 q2=>room2 v (by rw [hy,q1]) q2)
  refine ⟨l',by simp [storeLocals,ho,hk0,g1],g2,g3,g4,fun j q1 q2=>?_,(fun q=>by rw [hx] at q; cases q),fun v q1 q2=>g6 v (by rw [hy] at q1; exact Option.some.inj q1) q2⟩
  rcases g5 j q1 q2 with q | ⟨rfl,q,v,r1,r2⟩
  ·exact Or.inl q
  ·exact Or.inr ⟨q,Or.inr ⟨rfl,hw.2 (k+1) v (by rw [hy,r1]) r2,v,by rw [hy,r1],r2⟩⟩
 | second =>
  rw [ho] at hx
  obtain ⟨i,u,rfl,hi,-⟩:=hw.1 k hx
  have hi':i<l.size:=by omega
  obtain ⟨l',g1,g2,g3,g4,g5,g6⟩:=key (l.setIfInBounds i .unset) (by simp) _ (by rw [Array.getElem?_setIfInBounds_ne (by omega)]; exact hy) (fun v q1 q2=>room2 v (by rw [hy,q1]) q2)
  refine ⟨l',by simp [storeLocals,setAt,ho,hk0,hi',g1],g2,g3,g4,fun j q1 q2=>?_,fun _ j hj=>?_,fun v q1 q2=>g6 v (by rw [hy] at q1; exact Option.some.inj q1) q2⟩
  ·rcases g5 j q1 q2 with q | ⟨rfl,q,v,r1,r2⟩
   ·by_cases e:j=i
    ·subst e
     exact Or.inr ⟨by rw [q]; simp [hi'],Or.inl ⟨rfl,hx⟩⟩
    ·exact Or.inl (by rw [q,Array.getElem?_setIfInBounds_ne (Ne.symm e)])
   ·exact Or.inr ⟨q,Or.inr ⟨rfl,hw.2 (i+1+1) v (by rw [hy,r1]) r2,v,by rw [hy,r1],r2⟩⟩
  ·have e:j=i:=by omega
   subst e
   rcases g5 j (by omega) (by omega) with q | ⟨q,-⟩
   ·rw [q]; simp [hi']
   ·omega
 | val old =>
  rw [ho] at hx
  by_cases h2:old.category=2
  ·have hs:=hw.2 k old hx h2
   have hy2:l[k+1]=.second:=by rw [hy] at hs; exact Option.some.inj hs
   obtain ⟨l',g1,g2,g3,g4,g5,g6⟩:=key (l.setIfInBounds (k+1) .unset) (by simp) .unset (by simp [hk]) (fun v q1=>by cases q1)
   refine ⟨l',by simp [storeLocals,setAt,ho,hk0,hk,h2,g1],g2,g3,g4,fun j q1 q2=>?_,(fun q=>by rw [hx] at q; cases q),fun v q1 q2=>by rw [hs] at q1; cases q1⟩
   rcases g5 j q1 q2 with q | ⟨_,_,v,r1,_⟩
   ·exact Or.inl (by rw [q,Array.getElem?_setIfInBounds_ne (Ne.symm q2)])
   ·cases r1
  ·obtain ⟨l',g1,g2,g3,g4,g5,g6⟩:=key l rfl _ hy (fun v q1 q2=>room2 v (by rw [hy,q1]) q2)
   refine ⟨l',by simp [storeLocals,ho,hk0,h2,g1],g2,g3,g4,fun j q1 q2=>?_,(fun q=>by rw [hx] at q; cases q),fun v q1 q2=>g6 v (by rw [hy] at q1; exact Option.some.inj q1) q2⟩
   rcases g5 j q1 q2 with q | ⟨rfl,q,v,r1,r2⟩
   ·exact Or.inl q
   ·exact Or.inr ⟨q,Or.inr ⟨rfl,hw.2 (k+1) v (by rw [hy,r1]) r2,v,by rw [hy,r1],r2⟩⟩
theorem LR.st2 {A:Nat→Addr} {b:Nat} {L:OLs} {Ls:Array Slot} (h:LR A b L Ls) {k:Nat} (hk:k+1<L.length) {v:OV} {x:Value} (hv:VR A b v x) (hc:x.category=2) :
  ∃ Ls',storeLocals Ls k x=some Ls'∧LR A b (lst2 L k v) Ls'∧Ls'.size=Ls.size:=by
 obtain ⟨l',h1,h2,h3,h3',h4,h5,h6⟩:=store2_at h.2.2 (by rw [← h.1]; exact hk) hc
 refine ⟨l',h1,⟨?_,?_,?_,?_⟩,h2⟩
 ·rw [lst2,length_lput,length_lput,length_killPrev,h.1,h2]
 ·intro j w hj
  rw [lst2,lget_lput,length_lput,length_killPrev,lget_lput,length_killPrev] at hj
  by_cases e1:j=k+1∧k+1<L.length
  ·rw [if_pos e1] at hj; cases hj
  rw [if_neg e1] at hj
  have hne1:j≠k+1:=fun q=>e1 ⟨q,hk⟩
  by_cases e:j=k∧k<L.length
  ·rw [if_pos e] at hj
   cases hj
   obtain ⟨rfl,-⟩:=e
   exact ⟨x,h3,hv⟩
  ·rw [if_neg e] at hj
   have hne:j≠k:=fun q=>e ⟨q,by omega⟩
   obtain ⟨g1,g2⟩:=lget_killPrev hj
   obtain ⟨y,g3,g4⟩:=h.2.1 j w g1
   rcases h4 j hne hne1 with q | ⟨-,q | q⟩
   ·exact ⟨y,q.trans g3,g4⟩
   ·exfalso
    obtain ⟨i,u,q1,q2,q3⟩:=h.2.2.1 k q.2
    have:i=j:=by omega
    subst this
    cases g3.symm.trans q2
    rw [g4.cat (g2 q.1)] at q3; cases q3
   ·exfalso
    cases g3.symm.trans q.2.1
 ·intro j hj
  by_cases e:j=k
  ·subst e; rw [h3] at hj; cases hj
  by_cases e':j=k+1
  ·exact ⟨k,x,e',h3,hc⟩
  ·have hj0:Ls[j]?=some .second:=by
    rcases h4 j e e' with q | ⟨q,-⟩
    ·exact q ▸ hj
    ·rw [q] at hj; cases hj
   obtain ⟨i,u,rfl,q2,q3⟩:=h.2.2.1 j hj0
   refine ⟨i,u,rfl,?_,q3⟩
   have hi:i≠k:=fun q=>e' (by omega)
   have hi':i≠k+1:=fun q=>by
    subst q
    rw [h6 u q2 q3] at hj; cases hj
   rcases h4 i hi hi' with q | ⟨-,q | q⟩
   ·rw [q]; exact q2
   ·exact absurd q.1 e
   ·rw [q2] at q; cases q.2.1
 ·intro j u hj hu
  by_cases e:j=k
  ·subst e; exact h3'
  by_cases e':j=k+1
  ·subst e'; rw [h3'] at hj; cases hj
  ·have hj0:Ls[j]?=some (.val u):=by
    rcases h4 j e e' with q | ⟨q,-⟩
    ·exact q ▸ hj
    ·rw [q] at hj; cases hj
   have q2:=h.2.2.2 j u hj0 hu
   have hi:j+1≠k:=fun q=>by
    subst q
    rw [h5 q2 j rfl] at hj; cases hj
   rcases h4 (j+1) hi (by omega) with q | ⟨-,q | q⟩
   ·rw [q]; exact q2
   ·exfalso
    obtain ⟨i,w,r1,r2,r3⟩:=h.2.2.1 k q.2
    have:i=j+1:=by omega
    subst this
    rw [q2] at r2; cases r2
   ·exact absurd (by omega:j=k+1) e'
end Jvm.OwnMini
namespace Jvm.OwnMini
open Jvm Jvm.ClassFile Sem Op Lib Jvm.Free Jvm.Stand Jvm.LawKit Jvm.RoadKit
theorem pstep_sound {p:Program} {l:Launch} {e:Env} {R:Room} {s:State} {m:MethodId} {args:Array Value} {below:List Frame} {meth:Method} {c:Code} {T:State} {locs:List Loc} {cells slots:Nat}
  (X:Stand p l e R s m args below meth c T locs cells slots) (hx:p.tables.exec=Jvm.exec) {own:String} (hown:s.vm.findClass own=some m.cls) {cst:Nat→Option OV}
  (hcst:(∀ x z,cst x=some (.inl z)→∃ v:Int32,(Jvm.Cond.constant own x v).before args s=true∧v.toInt=z)∧(∀ x z,cst x=some (.inr (.inl z))→∃ v:Int64,(Jvm.Cond.constantLong own x v).before args s=true∧v.toInt=z))
  {A:Nat→Addr} {b:Nat} {L:OLs} {Ls:Array Slot} {S:List OV} {St:List Value} (hL:LR A b L Ls) (hS:SR A b S St) {i:Instr} {pc len:Nat} (hd:decode c.code pc=.ok (i,len)) (hchk:chk pc i len=true)
  {β:Type} {k:Nat→OLs→List OV→Option β} {r:β} (h:pstep cst i pc len L S k=some r) :
  ∃ pc' L' S' Ls' St',k pc' L' S'=some r∧LR A b L' Ls'∧SR A b S' St'∧Ls'.size=Ls.size∧∀ target,Steps p.tables e below (T.setTop (mkF m pc' Ls' St')) target→Steps p.tables e below (T.setTop (mkF m pc Ls St)) target:=by
 cases i
 case iconst z =>
  have hc:(len=1∧-32768≤z)∧z≤32767:=by simpa [chk] using hchk
  obtain ⟨⟨rfl,h1⟩,h2⟩:=hc
  exact ⟨_,_,_,_,_,h,hL,SR.ci (Int32.toInt_ofInt_of_le (by omega) (by omega)) hS,rfl,fun target hr=>XS.iconst X.here hx rfl hd hr⟩
 case bipush z =>
  have hc:(len=2∧-128≤z)∧z≤127:=by simpa [chk] using hchk
  obtain ⟨⟨rfl,h1⟩,h2⟩:=hc
  exact ⟨_,_,_,_,_,h,hL,SR.ci (by rw [Int8.toInt_toInt32,Int8.toInt_ofInt_of_le (by omega) (by omega)]) hS,rfl,fun target hr=>XS.bipush X.here hx rfl hd hr⟩
 case sipush z =>
  have hc:(len=3∧-32768≤z)∧z≤32767:=by simpa [chk] using hchk
  obtain ⟨⟨rfl,h1⟩,h2⟩:=hc
  exact ⟨_,_,_,_,_,h,hL,SR.ci (by rw [Int16.toInt_toInt32,Int16.toInt_ofInt_of_le (by omega) (by omega)]) hS,rfl,fun target hr=>XS.sipush X.here hx rfl hd hr⟩
 case lconst z =>
  obtain rfl:len=1:=by simpa [chk,ilen] using hchk
  refine ⟨_,_,_,_,_,h,hL,SR.cj (y:=Int64.ofNat z.val) ?_ hS,rfl,fun target hr=>XT.lconst X.here hx rfl hd hr⟩
  match z with
  | ⟨0,_⟩=>rfl
  | ⟨1,_⟩=>rfl
 case ldc x =>
  obtain rfl:len=2:=by simpa [chk,ilen] using hchk
  simp only [pstep] at h
  cases hq:cst x with
  | none=>simp [hq] at h
  | some v =>
   cases v with
   | inr v=>simp [hq] at h
   | inl z =>
    simp only [hq] at h
    obtain ⟨cv,hcv,rfl⟩:=hcst.1 x z hq
    exact ⟨_,_,_,_,_,h,hL,SR.ci rfl hS,rfl,fun target hr=>X.ldcI hx hown hcv rfl hd hr⟩
 case ldc_w x =>
  obtain rfl:len=3:=by simpa [chk,ilen] using hchk
  simp only [pstep] at h
  cases hq:cst x with
  | none=>simp [hq] at h
  | some v =>
   cases v with
   | inr v=>simp [hq] at h
   | inl z =>
    simp only [hq] at h
    obtain ⟨cv,hcv,rfl⟩:=hcst.1 x z hq
    exact ⟨_,_,_,_,_,h,hL,SR.ci rfl hS,rfl,fun target hr=>X.ldcWI hx hown hcv rfl hd hr⟩
 case ldc2_w x =>
  obtain rfl:len=3:=by simpa [chk,ilen] using hchk
  simp only [pstep] at h
  cases hq:cst x with
  | none=>simp [hq] at h
  | some v =>
   cases v with
   | inl z=>simp [hq] at h
   | inr v =>
    cases v with
    | inr z=>simp [hq] at h
    | inl z =>
     simp only [hq] at h
     obtain ⟨cv,hcv,rfl⟩:=hcst.2 x z hq
     exact ⟨_,_,_,_,_,h,hL,SR.cj rfl hS,rfl,fun target hr=>X.ldc2J hx hown hcv rfl hd hr⟩
 case iload x =>
  obtain rfl:len=2:=by simpa [chk,ilen] using hchk
  obtain ⟨z,hg,h⟩:=gi_some h
  obtain ⟨w,hw,hv⟩:=hL.2.1 _ _ hg
  obtain ⟨y,rfl,rfl⟩:=hv
  exact ⟨_,_,_,_,_,h,hL,SR.ci rfl hS,rfl,fun target hr=>XS.iload X.here hx rfl hd hw hr⟩
 case iload_n x =>
  obtain rfl:len=1:=by simpa [chk,ilen] using hchk
  obtain ⟨z,hg,h⟩:=gi_some h
  obtain ⟨w,hw,hv⟩:=hL.2.1 _ _ hg
  obtain ⟨y,rfl,rfl⟩:=hv
  exact ⟨_,_,_,_,_,h,hL,SR.ci rfl hS,rfl,fun target hr=>XS.iloadN X.here hx rfl hd hw hr⟩
 case lload x =>
  obtain rfl:len=2:=by simpa [chk,ilen] using hchk
  obtain ⟨z,hg,h⟩:=gl_some h
  obtain ⟨w,hw,hv⟩:=hL.2.1 _ _ hg
  obtain ⟨y,rfl,rfl⟩:=hv
  exact ⟨_,_,_,_,_,h,hL,SR.cj rfl hS,rfl,fun target hr=>XT.lload X.here hx rfl hd hw hr⟩
 case lload_n x =>
  obtain rfl:len=1:=by simpa [chk,ilen] using hchk
  obtain ⟨z,hg,h⟩:=gl_some h
  obtain ⟨w,hw,hv⟩:=hL.2.1 _ _ hg
  obtain ⟨y,rfl,rfl⟩:=hv
  exact ⟨_,_,_,_,_,h,hL,SR.cj rfl hS,rfl,fun target hr=>XT.lloadN X.here hx rfl hd hw hr⟩
 case aload x =>
  obtain rfl:len=2:=by simpa [chk,ilen] using hchk
  obtain ⟨z,hg,h⟩:=gr_some h
  obtain ⟨w,hw,hv⟩:=hL.2.1 _ _ hg
  obtain ⟨hb,rfl⟩:=hv
  exact ⟨_,_,_,_,_,h,hL,SR.cr hb hS,rfl,fun target hr=>XS.aload X.here hx rfl hd hw rfl hr⟩
 case aload_n x =>
  obtain rfl:len=1:=by simpa [chk,ilen] using hchk
  obtain ⟨z,hg,h⟩:=gr_some h
  obtain ⟨w,hw,hv⟩:=hL.2.1 _ _ hg
  obtain ⟨hb,rfl⟩:=hv
  exact ⟨_,_,_,_,_,h,hL,SR.cr hb hS,rfl,fun target hr=>XS.aloadN X.here hx rfl hd hw rfl hr⟩
 case istore x =>
  obtain rfl:len=2:=by simpa [chk,ilen] using hchk
  obtain ⟨z,S',rfl,h⟩:=pi1_some h
  obtain ⟨hk,h⟩:=inL_some h
  obtain ⟨y,St',rfl,hy,hS'⟩:=SR.i1 hS
  obtain ⟨Ls',hst,hL',hsz⟩:=hL.st1 hk (v:=vi z) (x:=.int y) ⟨y,rfl,hy⟩ rfl
  exact ⟨_,_,_,_,_,h,hL',hS',hsz,fun target hr=>XS.istore X.here hx rfl hd rfl hst hr⟩
 case istore_n x =>
  obtain rfl:len=1:=by simpa [chk,ilen] using hchk
  obtain ⟨z,S',rfl,h⟩:=pi1_some h
  obtain ⟨hk,h⟩:=inL_some h
  obtain ⟨y,St',rfl,hy,hS'⟩:=SR.i1 hS
  obtain ⟨Ls',hst,hL',hsz⟩:=hL.st1 hk (v:=vi z) (x:=.int y) ⟨y,rfl,hy⟩ rfl
  exact ⟨_,_,_,_,_,h,hL',hS',hsz,fun target hr=>XS.istoreN X.here hx rfl hd rfl hst hr⟩
 case lstore x =>
  obtain rfl:len=2:=by simpa [chk,ilen] using hchk
  obtain ⟨z,S',rfl,h⟩:=pl1_some h
  obtain ⟨hk,h⟩:=inL_some h
  obtain ⟨y,St',rfl,hy,hS'⟩:=SR.l1 hS
  obtain ⟨Ls',hst,hL',hsz⟩:=hL.st2 hk (v:=vl z) (x:=.long y) ⟨y,rfl,hy⟩ rfl
  exact ⟨_,_,_,_,_,h,hL',hS',hsz,fun target hr=>XT.lstore X.here hx rfl hd rfl hst hr⟩
 case lstore_n x =>
  obtain rfl:len=1:=by simpa [chk,ilen] using hchk
  obtain ⟨z,S',rfl,h⟩:=pl1_some h
  obtain ⟨hk,h⟩:=inL_some h
  obtain ⟨y,St',rfl,hy,hS'⟩:=SR.l1 hS
  obtain ⟨Ls',hst,hL',hsz⟩:=hL.st2 hk (v:=vl z) (x:=.long y) ⟨y,rfl,hy⟩ rfl
  exact ⟨_,_,_,_,_,h,hL',hS',hsz,fun target hr=>XT.lstoreN X.here hx rfl hd rfl hst hr⟩
 case astore x =>
  obtain rfl:len=2:=by simpa [chk,ilen] using hchk
  obtain ⟨z,S',rfl,h⟩:=pr1_some h
  obtain ⟨hk,h⟩:=inL_some h
  obtain ⟨hb,St',rfl,hS'⟩:=SR.r1 hS
  obtain ⟨Ls',hst,hL',hsz⟩:=hL.st1 hk (v:=vr z) (x:=.ref (A z)) ⟨hb,rfl⟩ rfl
  exact ⟨_,_,_,_,_,h,hL',hS',hsz,fun target hr=>XS.astore X.here hx rfl hd rfl rfl hst hr⟩
 case astore_n x =>
  obtain rfl:len=1:=by simpa [chk,ilen] using hchk
  obtain ⟨z,S',rfl,h⟩:=pr1_some h
  obtain ⟨hk,h⟩:=inL_some h
  obtain ⟨hb,St',rfl,hS'⟩:=SR.r1 hS
  obtain ⟨Ls',hst,hL',hsz⟩:=hL.st1 hk (v:=vr z) (x:=.ref (A z)) ⟨hb,rfl⟩ rfl
  exact ⟨_,_,_,_,_,h,hL',hS',hsz,fun target hr=>XS.astoreN X.here hx rfl hd rfl rfl hst hr⟩
 case iinc x z =>
  have hc:(len=3∧-32768≤z)∧z≤32767:=by simpa [chk] using hchk
  obtain ⟨⟨rfl,h1⟩,h2⟩:=hc
  obtain ⟨a,hg,h⟩:=gi_some h
  obtain ⟨hk,h⟩:=inL_some h
  obtain ⟨w,hw,y,rfl,rfl⟩:=hL.2.1 _ _ hg
  obtain ⟨Ls',hst,hL',hsz⟩:=hL.st1 hk (v:=vi (w32 (y.toInt+z))) (x:=.int (y+Int32.ofInt z)) ⟨_,rfl,by rw [Int32.toInt_add,Int32.toInt_ofInt_of_le (by omega) (by omega),w32_eq]⟩ rfl
  exact ⟨_,_,_,_,_,h,hL',hS,hsz,fun target hr=>XS.iinc X.here hx rfl hd hw hst hr⟩
 case iadd =>
  obtain rfl:len=1:=by simpa [chk,ilen] using hchk
  obtain ⟨a,b',S',rfl,h⟩:=pi2_some h
  obtain ⟨y,x,St',rfl,rfl,rfl,hS'⟩:=SR.i2 hS
  exact ⟨_,_,_,_,_,h,hL,SR.ci (by rw [Int32.toInt_add,w32_eq]) hS',rfl,fun target hr=>XS.iadd X.here hx rfl hd rfl hr⟩
 case isub =>
  obtain rfl:len=1:=by simpa [chk,ilen] using hchk
  obtain ⟨a,b',S',rfl,h⟩:=pi2_some h
  obtain ⟨y,x,St',rfl,rfl,rfl,hS'⟩:=SR.i2 hS
  exact ⟨_,_,_,_,_,h,hL,SR.ci (by rw [Int32.toInt_sub,w32_eq]) hS',rfl,fun target hr=>XS.isub X.here hx rfl hd rfl hr⟩
 case imul =>
  obtain rfl:len=1:=by simpa [chk,ilen] using hchk
  obtain ⟨a,b',S',rfl,h⟩:=pi2_some h
  obtain ⟨y,x,St',rfl,rfl,rfl,hS'⟩:=SR.i2 hS
  exact ⟨_,_,_,_,_,h,hL,SR.ci (by rw [Int32.toInt_mul,w32_eq]) hS',rfl,fun target hr=>XS.imul X.here hx rfl hd rfl hr⟩
 case idiv =>
  obtain rfl:len=1:=by simpa [chk,ilen] using hchk
  obtain ⟨a,b',S',rfl,h⟩:=pi2_some h
  obtain ⟨y,x,St',rfl,rfl,rfl,hS'⟩:=SR.i2 hS
  simp only [pstep,pi2] at h
  by_cases hz:y.toInt=0
  ·simp [hz] at h
  rw [if_neg hz] at h
  have hy:y≠0:=fun q=>hz (by rw [q]; rfl)
  exact ⟨_,_,_,_,_,h,hL,SR.ci (by rw [Int32.toInt_div,div32,w32_eq]) hS',rfl,fun target hr=>XS.idiv X.here hx rfl hd rfl hy hr⟩
 case irem =>
  obtain rfl:len=1:=by simpa [chk,ilen] using hchk
  obtain ⟨a,b',S',rfl,h⟩:=pi2_some h
  obtain ⟨y,x,St',rfl,rfl,rfl,hS'⟩:=SR.i2 hS
  simp only [pstep,pi2] at h
  by_cases hz:y.toInt=0
  ·simp [hz] at h
  rw [if_neg hz] at h
  have hy:y≠0:=fun q=>hz (by rw [q]; rfl)
  exact ⟨_,_,_,_,_,h,hL,SR.ci (by rw [Int32.toInt_mod,rem32]) hS',rfl,fun target hr=>iremM X hx rfl hd rfl hy hr⟩
 case iand =>
  obtain rfl:len=1:=by simpa [chk,ilen] using hchk
  obtain ⟨a,b',S',rfl,h⟩:=pi2_some h
  obtain ⟨y,x,St',rfl,rfl,rfl,hS'⟩:=SR.i2 hS
  exact ⟨_,_,_,_,_,h,hL,SR.ci (by simp only [and32,Int32.ofInt_toInt]) hS',rfl,fun target hr=>XS.iand X.here hx rfl hd rfl hr⟩
 case ior =>
  obtain rfl:len=1:=by simpa [chk,ilen] using hchk
  obtain ⟨a,b',S',rfl,h⟩:=pi2_some h
  obtain ⟨y,x,St',rfl,rfl,rfl,hS'⟩:=SR.i2 hS
  exact ⟨_,_,_,_,_,h,hL,SR.ci (by simp only [or32,Int32.ofInt_toInt]) hS',rfl,fun target hr=>XT.ior X.here hx rfl hd rfl hr⟩
 case ixor =>
  obtain rfl:len=1:=by simpa [chk,ilen] using hchk
  obtain ⟨a,b',S',rfl,h⟩:=pi2_some h
  obtain ⟨y,x,St',rfl,rfl,rfl,hS'⟩:=SR.i2 hS
  exact ⟨_,_,_,_,_,h,hL,SR.ci (by simp only [xor32,Int32.ofInt_toInt]) hS',rfl,fun target hr=>XT.ixor X.here hx rfl hd rfl hr⟩
 case ishl =>
  obtain rfl:len=1:=by simpa [chk,ilen] using hchk
  obtain ⟨a,b',S',rfl,h⟩:=pi2_some h
  obtain ⟨y,x,St',rfl,rfl,rfl,hS'⟩:=SR.i2 hS
  exact ⟨_,_,_,_,_,h,hL,SR.ci (by simp only [shl32,Int32.ofInt_toInt]) hS',rfl,fun target hr=>XT.ishl X.here hx rfl hd rfl hr⟩
 case ishr =>
  obtain rfl:len=1:=by simpa [chk,ilen] using hchk
  obtain ⟨a,b',S',rfl,h⟩:=pi2_some h
  obtain ⟨y,x,St',rfl,rfl,rfl,hS'⟩:=SR.i2 hS
  exact ⟨_,_,_,_,_,h,hL,SR.ci (by simp only [shr32,Int32.ofInt_toInt]) hS',rfl,fun target hr=>XT.ishr X.here hx rfl hd rfl hr⟩
 case iushr =>
  obtain rfl:len=1:=by simpa [chk,ilen] using hchk
  obtain ⟨a,b',S',rfl,h⟩:=pi2_some h
  obtain ⟨y,x,St',rfl,rfl,rfl,hS'⟩:=SR.i2 hS
  exact ⟨_,_,_,_,_,h,hL,SR.ci (by simp only [ushr32,Int32.ofInt_toInt]) hS',rfl,fun target hr=>XT.iushr X.here hx rfl hd rfl hr⟩
 case ladd =>
  obtain rfl:len=1:=by simpa [chk,ilen] using hchk
  obtain ⟨a,b',S',rfl,h⟩:=pl2_some h
  obtain ⟨y,x,St',rfl,rfl,rfl,hS'⟩:=SR.l2 hS
  exact ⟨_,_,_,_,_,h,hL,SR.cj (by rw [Int64.toInt_add,w64_eq]) hS',rfl,fun target hr=>XT.ladd X.here hx rfl hd rfl hr⟩
 case lsub =>
  obtain rfl:len=1:=by simpa [chk,ilen] using hchk
  obtain ⟨a,b',S',rfl,h⟩:=pl2_some h
  obtain ⟨y,x,St',rfl,rfl,rfl,hS'⟩:=SR.l2 hS
  exact ⟨_,_,_,_,_,h,hL,SR.cj (by rw [Int64.toInt_sub,w64_eq]) hS',rfl,fun target hr=>XT.lsub X.here hx rfl hd rfl hr⟩
 case lmul =>
  obtain rfl:len=1:=by simpa [chk,ilen] using hchk
  obtain ⟨a,b',S',rfl,h⟩:=pl2_some h
  obtain ⟨y,x,St',rfl,rfl,rfl,hS'⟩:=SR.l2 hS
  exact ⟨_,_,_,_,_,h,hL,SR.cj (by rw [Int64.toInt_mul,w64_eq]) hS',rfl,fun target hr=>XT.lmul X.here hx rfl hd rfl hr⟩
 case ldiv =>
  obtain rfl:len=1:=by simpa [chk,ilen] using hchk
  obtain ⟨a,b',S',rfl,h⟩:=pl2_some h
  obtain ⟨y,x,St',rfl,rfl,rfl,hS'⟩:=SR.l2 hS
  simp only [pstep,pl2] at h
  by_cases hz:y.toInt=0
  ·simp [hz] at h
  rw [if_neg hz] at h
  have hy:y≠0:=fun q=>hz (by rw [q]; rfl)
  exact ⟨_,_,_,_,_,h,hL,SR.cj (by rw [Int64.toInt_div,div64,w64_eq]) hS',rfl,fun target hr=>XT.ldiv X.here hx rfl hd rfl hy hr⟩
 case lrem =>
  obtain rfl:len=1:=by simpa [chk,ilen] using hchk
  obtain ⟨a,b',S',rfl,h⟩:=pl2_some h
  obtain ⟨y,x,St',rfl,rfl,rfl,hS'⟩:=SR.l2 hS
  simp only [pstep,pl2] at h
  by_cases hz:y.toInt=0
  ·simp [hz] at h
  rw [if_neg hz] at h
  have hy:y≠0:=fun q=>hz (by rw [q]; rfl)
  exact ⟨_,_,_,_,_,h,hL,SR.cj (by rw [lrem_mod,Int64.toInt_mod,rem64]) hS',rfl,fun target hr=>XT.lrem X.here hx rfl hd rfl hy hr⟩
 case land =>
  obtain rfl:len=1:=by simpa [chk,ilen] using hchk
  obtain ⟨a,b',S',rfl,h⟩:=pl2_some h
  obtain ⟨y,x,St',rfl,rfl,rfl,hS'⟩:=SR.l2 hS
  exact ⟨_,_,_,_,_,h,hL,SR.cj (by simp only [and64,Int64.ofInt_toInt]) hS',rfl,fun target hr=>XT.land X.here hx rfl hd rfl hr⟩
 case lor =>
  obtain rfl:len=1:=by simpa [chk,ilen] using hchk
  obtain ⟨a,b',S',rfl,h⟩:=pl2_some h
  obtain ⟨y,x,St',rfl,rfl,rfl,hS'⟩:=SR.l2 hS
  exact ⟨_,_,_,_,_,h,hL,SR.cj (by simp only [or64,Int64.ofInt_toInt]) hS',rfl,fun target hr=>XT.lor X.here hx rfl hd rfl hr⟩
 case lxor =>
  obtain rfl:len=1:=by simpa [chk,ilen] using hchk
  obtain ⟨a,b',S',rfl,h⟩:=pl2_some h
  obtain ⟨y,x,St',rfl,rfl,rfl,hS'⟩:=SR.l2 hS
  exact ⟨_,_,_,_,_,h,hL,SR.cj (by simp only [xor64,Int64.ofInt_toInt]) hS',rfl,fun target hr=>XT.lxor X.here hx rfl hd rfl hr⟩
 case lshl =>
  obtain rfl:len=1:=by simpa [chk,ilen] using hchk
  obtain ⟨a,b',S',rfl,h⟩:=pli_some h
  obtain ⟨y,x,St',rfl,rfl,rfl,hS'⟩:=SR.li hS
  exact ⟨_,_,_,_,_,h,hL,SR.cj (by simp only [shl64,Int64.ofInt_toInt,Int32.ofInt_toInt]) hS',rfl,fun target hr=>XT.lshl X.here hx rfl hd rfl hr⟩
 case lshr =>
  obtain rfl:len=1:=by simpa [chk,ilen] using hchk
  obtain ⟨a,b',S',rfl,h⟩:=pli_some h
  obtain ⟨y,x,St',rfl,rfl,rfl,hS'⟩:=SR.li hS
  exact ⟨_,_,_,_,_,h,hL,SR.cj (by simp only [shr64,Int64.ofInt_toInt,Int32.ofInt_toInt]) hS',rfl,fun target hr=>XT.lshr X.here hx rfl hd rfl hr⟩
 case lushr =>
  obtain rfl:len=1:=by simpa [chk,ilen] using hchk
  obtain ⟨a,b',S',rfl,h⟩:=pli_some h
  obtain ⟨y,x,St',rfl,rfl,rfl,hS'⟩:=SR.li hS
  exact ⟨_,_,_,_,_,h,hL,SR.cj (by simp only [ushr64,Int64.ofInt_toInt,Int32.ofInt_toInt]) hS',rfl,fun target hr=>XT.lushr X.here hx rfl hd rfl hr⟩
 case lcmp =>
  obtain rfl:len=1:=by simpa [chk,ilen] using hchk
  obtain ⟨a,b',S',rfl,h⟩:=pl2_some h
  obtain ⟨y,x,St',rfl,rfl,rfl,hS'⟩:=SR.l2 hS
  exact ⟨_,_,_,_,_,h,hL,SR.ci (cmpL_toInt _ _) hS',rfl,fun target hr=>XT.lcmp X.here hx rfl hd rfl hr⟩
 case ineg =>
  obtain rfl:len=1:=by simpa [chk,ilen] using hchk
  obtain ⟨a,S',rfl,h⟩:=pi1_some h
  obtain ⟨y,St',rfl,rfl,hS'⟩:=SR.i1 hS
  exact ⟨_,_,_,_,_,h,hL,SR.ci (by rw [Int32.toInt_neg,w32_eq]) hS',rfl,fun target hr=>XS.ineg X.here hx rfl hd rfl hr⟩
 case lneg =>
  obtain rfl:len=1:=by simpa [chk,ilen] using hchk
  obtain ⟨a,S',rfl,h⟩:=pl1_some h
  obtain ⟨y,St',rfl,rfl,hS'⟩:=SR.l1 hS
  exact ⟨_,_,_,_,_,h,hL,SR.cj (by rw [Int64.toInt_neg,w64_eq]) hS',rfl,fun target hr=>XT.lneg X.here hx rfl hd rfl hr⟩
 case i2l =>
  obtain rfl:len=1:=by simpa [chk,ilen] using hchk
  obtain ⟨a,S',rfl,h⟩:=pi1_some h
  obtain ⟨y,St',rfl,rfl,hS'⟩:=SR.i1 hS
  exact ⟨_,_,_,_,_,h,hL,SR.cj (Int32.toInt_toInt64 _) hS',rfl,fun target hr=>XT.i2l X.here hx rfl hd rfl hr⟩
 case l2i =>
  obtain rfl:len=1:=by simpa [chk,ilen] using hchk
  obtain ⟨a,S',rfl,h⟩:=pl1_some h
  obtain ⟨y,St',rfl,rfl,hS'⟩:=SR.l1 hS
  exact ⟨_,_,_,_,_,h,hL,SR.ci (by rw [Int64.toInt_toInt32,w32_eq]) hS',rfl,fun target hr=>XT.l2i X.here hx rfl hd rfl hr⟩
 case i2b =>
  obtain rfl:len=1:=by simpa [chk,ilen] using hchk
  obtain ⟨a,S',rfl,h⟩:=pi1_some h
  obtain ⟨y,St',rfl,rfl,hS'⟩:=SR.i1 hS
  exact ⟨_,_,_,_,_,h,hL,SR.ci (b8_eq _) hS',rfl,fun target hr=>XT.i2b X.here hx rfl hd rfl hr⟩
 case goto o =>
  have hc:len=3∧0≤(pc:Int)+o:=by simpa [chk] using hchk
  obtain ⟨rfl,h1⟩:=hc
  exact ⟨_,_,_,_,_,h,hL,hS,rfl,fun target hr=>XS.goto X.here hx rfl rfl hd h1 rfl hr⟩
 case if_icmp c o =>
  have hc:len=3∧0≤(pc:Int)+o:=by simpa [chk] using hchk
  obtain ⟨rfl,h1⟩:=hc
  obtain ⟨a,b',S',rfl,h⟩:=pi2_some h
  obtain ⟨y,x,St',rfl,rfl,rfl,hS'⟩:=SR.i2 hS
  rcases br_some h with ⟨hq,h⟩ | ⟨hq,h⟩
  ·exact ⟨_,_,_,_,_,h,hL,hS',rfl,fun target hr=>XS.icmpYes X.here hx rfl rfl hd rfl (icmp_holds hq) h1 rfl hr⟩
  ·exact ⟨_,_,_,_,_,h,hL,hS',rfl,fun target hr=>XS.icmpNo X.here hx rfl hd rfl (icmp_fails hq) hr⟩
 case ifCond c o =>
  have hc:len=3∧0≤(pc:Int)+o:=by simpa [chk] using hchk
  obtain ⟨rfl,h1⟩:=hc
  obtain ⟨a,S',rfl,h⟩:=pi1_some h
  obtain ⟨x,St',rfl,rfl,hS'⟩:=SR.i1 hS
  rcases br_some h with ⟨hq,h⟩ | ⟨hq,h⟩
  ·exact ⟨_,_,_,_,_,h,hL,hS',rfl,fun target hr=>XS.ifYes X.here hx rfl rfl hd rfl (by rw [if0]; exact icmp_holds (y:=0) hq) h1 rfl hr⟩
  ·exact ⟨_,_,_,_,_,h,hL,hS',rfl,fun target hr=>XS.ifNo X.here hx rfl hd rfl (by rw [if0]; exact icmp_fails (y:=0) hq) hr⟩
 case tableswitch d lo hi os =>
  have hc:(((0≤(pc:Int)+d∧∀ o∈os.toList,0≤(pc:Int)+o)∧hi=lo+os.toList.length - 1)∧-2147483648≤lo)∧hi≤2147483647:=by simpa only [chk,Bool.and_eq_true,decide_eq_true_eq,List.all_eq_true] using hchk
  obtain ⟨⟨⟨⟨h1,h2⟩,h3⟩,h4⟩,h5⟩:=hc
  obtain ⟨a,S',rfl,h⟩:=pi1_some h
  obtain ⟨x,St',rfl,rfl,hS'⟩:=SR.i1 hS
  rcases tsw_some _ _ _ h with ⟨o,n,hn,ho,h⟩ | ⟨hout,h⟩
  ·refine ⟨_,_,_,_,_,h,hL,hS',rfl,fun target hr=>XS.tswIn X.here hx rfl rfl hd rfl (o:=o) ?_ ?_ (h2 o (List.mem_of_getElem? ho)) rfl hr⟩
   ·have:=(List.getElem?_eq_some_iff.mp ho).1
    omega
   ·have e:(x.toInt - lo).toNat=n:=by omega
    rw [e,← Array.getElem?_toList]; exact ho
  ·refine ⟨_,_,_,_,_,h,hL,hS',rfl,fun target hr=>XS.tswOut X.here hx rfl rfl hd rfl ?_ h1 rfl hr⟩
   omega
 case dup =>
  obtain rfl:len=1:=by simpa [chk,ilen] using hchk
  obtain ⟨v,S',rfl,hv,h⟩:=dup_some h
  cases St with
  | nil=>exact hS.elim
  | cons x St' =>
   obtain ⟨h1,h2⟩:=hS
   exact ⟨_,_,_,_,_,h,hL,SR.cv h1 (SR.cv h1 h2),rfl,fun target hr=>XS.dup X.here hx rfl hd rfl (h1.cat hv) hr⟩
 case pop =>
  obtain rfl:len=1:=by simpa [chk,ilen] using hchk
  obtain ⟨v,S',rfl,hv,h⟩:=pop_some h
  cases St with
  | nil=>exact hS.elim
  | cons x St' =>
   obtain ⟨h1,h2⟩:=hS
   exact ⟨_,_,_,_,_,h,hL,h2,rfl,fun target hr=>XT.pop X.here hx rfl hd rfl (h1.cat hv) hr⟩
 case dup2 =>
  obtain rfl:len=1:=by simpa [chk,ilen] using hchk
  rcases dup2_some h with ⟨z,S',rfl,h⟩ | ⟨u,v,S',rfl,hu,hv,h⟩
  ·obtain ⟨y,St',rfl,hy,hS'⟩:=SR.l1 hS
   exact ⟨_,_,_,_,_,h,hL,SR.cj hy (SR.cj hy hS'),rfl,fun target hr=>XT.dup2L X.here hx rfl hd rfl hr⟩
  ·match St,hS with
   | x :: y :: St',⟨h1,h2,h3⟩=>exact ⟨_,_,_,_,_,h,hL,SR.cv h1 (SR.cv h2 (SR.cv h1 (SR.cv h2 h3))),rfl,fun target hr=>XT.dup2 X.here hx rfl hd rfl (h1.cat hu) (h2.cat hv) hr⟩
 all_goals cases h
end Jvm.OwnMini
namespace Jvm.OwnMini
open Jvm Jvm.ClassFile Sem Op Lib Jvm.Free Jvm.Stand Jvm.LawKit Jvm.RoadKit
def rty:Nat→Option FieldType
 | 1=>some .int
 | 2=>some .boolean
 | 4=>some .long
 | _=>none
def kty:Nat→FieldType
 | 2=>.boolean
 | 3=>.byte
 | 4=>.long
 | _=>.int
def EV (kd:Nat) (v:Value) (z:Int):Prop:=(kd=4∧∃ x:Int64,v=.long x∧x.toInt=z)∨(kd≠4∧∃ x:Int32,v=.int x∧x.toInt=z)
def AOK (Z:State) (h:Heap) (a:Addr) (kd:Nat) (n:Int) (f:Int→Int):Prop:=∃ c:Cell,Arr Z h a c (kty kd)∧(c.slots.size:Int)=n∧∀ i:Nat,i<c.slots.size→∃ v,c.slots[i]?=some v∧EV kd v (f i)
abbrev FK:=Int→Option (Nat×Nat×Bool)
abbrev FN:=Int→String×String
def RepO (P:PT) (C:String) (fnm:FN) (fkd:FK) (Z:State) (h:Heap) (A:Nat→Addr) (n0 t:Nat) (m:OMem):Prop :=
 Exa Z h (A 0) C∧n0≤A 0 ∧
 (∀ f kd j fin,fkd f=some (kd,j,fin)→∃ v,Fld Z h (A 0) C (fnm f).1 (fnm f).2 v∧(kd=0→j≤t / 2→v=.ref (A j))∧(kd≠0→EV kd v (m 0 f))) ∧
 (∀ j,1≤j→j≤(t+1) / 2→n0≤A j∧∃ kd n,play P j=some (kd,n)∧AOK Z h (A j) kd n (m j)) ∧
 (∀ j j',j≤(t+1) / 2→j'≤(t+1) / 2→A j=A j'→j=j') ∧
 (∀ j,(t+1) / 2<j→∀ i,m j i=0)
def psum (P:PT):Nat→Nat
 | 0=>0
 | j+1=>psum P j+(match play P (j+1) with | some (_,n)=>n.toNat | none=>0)
def fty (P:PT) (kd j:Nat):FieldType:=match kd with
 | 0=>.array (match play P j with | some (k,_)=>kty k | none=>.int)
 | k=>kty k
def TabP (P:PT) (C:String) (fnm:FN) (fkd:FK) (nm:Nat→MethodName) (bys:Nat→ByteArray) (nA nf:Nat) (a0:Array Value) (Z:State):Prop :=
 (∀ q pc i len,pcode P q pc=some (i,len)→decode (bys q) pc=.ok (i,len)∧chk pc i len=true) ∧
 (∀ x f kd j fin,pfld P x=some (f,kd,j,fin)→(Jvm.Cond.fieldLink C x C (fnm f).1 (fnm f).2).before a0 Z=true∧fkd f=some (kd,j,fin)) ∧
 (∀ f kd j fin,fkd f=some (kd,j,fin)→((fin=false∧(Jvm.Cond.lays C C (fnm f).1 (fnm f).2).before a0 Z=true)∨(fin=true∧(Jvm.Cond.laysFinal C C (fnm f).1 (fnm f).2).before a0 Z=true))∧parseFieldDescriptor (fnm f).2=some (fty P kd j)∧(kd=0→1≤j)∧kd≤4) ∧
 (∀ f f' x x',fkd f=some x→fkd f'=some x'→f≠f'→(fnm f).1≠(fnm f').1) ∧
 (∀ f f' j fin fin',fkd f=some (0,j,fin)→fkd f'=some (0,j,fin')→f=f') ∧
 (∀ j kd n,play P j=some (kd,n)→1≤j∧j≤nA∧0≤n∧n≤60000000∧(kd=1∨kd=2∨kd=3∨kd=4)∧(Jvm.Cond.arrayClass (kty kd)).before a0 Z=true) ∧
 ((∀ x z,pcst P x=some (.inl z)→∃ v:Int32,(Jvm.Cond.constant C x v).before a0 Z=true∧v.toInt=z)∧(∀ x z,pcst P x=some (.inr (.inl z))→∃ v:Int64,(Jvm.Cond.constantLong C x v).before a0 Z=true∧v.toInt=z)) ∧
 (∀ x q,pmth P x=some q→(Jvm.Cond.methodLink C x (nm q)).before a0 Z=true) ∧
 (∀ q ps ml rk fr lc,pinf P q=some (ps,ml,rk,fr,lc)→(nm q).cls=C∧(Jvm.Cond.instanceMethod (nm q)).before a0 Z=true∧(Jvm.Cond.code (nm q) (bys q) ml (rty rk)).before a0 Z=true ∧
  (q≠0→(Jvm.Cond.privateMethod (nm q)).before a0 Z=true∨((Jvm.Cond.declares (nm q)).before a0 Z=true∧(Jvm.Cond.selects C (nm q) (nm q)).before a0 Z=true))∧∃ params,parseMethodDescriptor (nm q).desc=some ⟨params,rty rk⟩∧params.length=ps.length) ∧
 (∀ x,pobi P x=true→(Jvm.Cond.methodLink C x Lib.objectInit).before a0 Z=true) ∧
 ((Jvm.Cond.instanceMethod Lib.objectInit).before a0 Z=true∧(Jvm.Cond.code Lib.objectInit ⟨#[0xb1]⟩ 1 none).before a0 Z=true) ∧
 (Jvm.Cond.instantiable C nf).before a0 Z=true∧(Jvm.Cond.initialized C).before a0 Z=true∧plainName C=true∧(C≠"java/lang/invoke/MethodHandle"∧C≠"java/lang/invoke/VarHandle")∧(nm 0).name = "<init>" ∧
 (∀ ps ml rk fr lc,pinf P 0=some (ps,ml,rk,fr,lc)→rk=0)
section Rep
variable {P:PT} {C:String} {fnm:FN} {fkd:FK} {nm:Nat→MethodName} {bys:Nat→ByteArray} {nA nf:Nat} {a0:Array Value} {Z:State} {h h':Heap} {A:Nat→Addr} {n0 t:Nat} {m:OMem}
theorem TabP.laid (HT:TabP P C fnm fkd nm bys nA nf a0 Z) {f:Int} {kd j:Nat} {fin:Bool} (hf:fkd f=some (kd,j,fin)):Laid Z a0 C C (fnm f).1 (fnm f).2:=by
 obtain ⟨-,-,h3,-⟩:=HT
 rcases (h3 f kd j fin hf).1 with q | q
 ·exact Or.inl q.2
 ·exact Or.inr q.2
theorem TabP.slot (HT:TabP P C fnm fkd nm bys nA nf a0 Z) {f f':Int} {x x':Nat×Nat×Bool} (hf:fkd f=some x) (hf':fkd f'=some x') (hne:f≠f'):RoadKit.slotOf Z C (fnm f).1 (fnm f).2≠RoadKit.slotOf Z C (fnm f').1 (fnm f').2:=by
 obtain ⟨kd,j,fin⟩:=x
 obtain ⟨kd',j',fin'⟩:=x'
 have L1:=HT.laid hf
 have L2:=HT.laid hf'
 obtain ⟨-,-,h3,h4,-⟩:=HT
 exact slot_ne L1 L2 (h4 f f' _ _ hf hf' hne) (h3 f _ _ _ hf).2.1 (h3 f' _ _ _ hf').2.1
theorem RepO.ext (hR:RepO P C fnm fkd Z h A n0 t m) (E:Ext h h'):RepO P C fnm fkd Z h' A n0 t m:=by
 obtain ⟨r1,r2,r3,r4,r5,r6⟩:=hR
 refine ⟨r1.ext E,r2,fun f kd j fin hf=>?_,fun j h1 h2=>?_,r5,r6⟩
 ·obtain ⟨v,q1,q2⟩:=r3 f kd j fin hf
  exact ⟨v,q1.ext E,q2⟩
 ·obtain ⟨g1,kd,n,g2,c,g3,g4⟩:=r4 j h1 h2
  exact ⟨g1,kd,n,g2,c,g3.ext E,g4⟩
theorem RepO.keep (hR:RepO P C fnm fkd Z h A n0 t m) (hk:∀ a c,h[a]?=some c→(∃ j,j≤(t+1) / 2∧a=A j)→h'[a]?=some c):RepO P C fnm fkd Z h' A n0 t m:=by
 obtain ⟨r1,r2,r3,r4,r5,r6⟩:=hR
 refine ⟨?_,r2,fun f kd j fin hf=>?_,fun j h1 h2=>?_,r5,r6⟩
 ·obtain ⟨cell,k,q,r⟩:=r1
  exact ⟨cell,k,hk _ _ q ⟨0,by omega,rfl⟩,r⟩
 ·obtain ⟨v,⟨cell,cf,k,i,ff,q,r⟩,q2⟩:=r3 f kd j fin hf
  exact ⟨v,⟨cell,cf,k,i,ff,hk _ _ q ⟨0,by omega,rfl⟩,r⟩,q2⟩
 ·obtain ⟨g1,kd,n,g2,c,g3,g4⟩:=r4 j h1 h2
  exact ⟨g1,kd,n,g2,c,⟨hk _ _ g3.1 ⟨j,h2,rfl⟩,g3.2⟩,g4⟩
theorem sto_ne {k k':Nat} {i z:Int} (hk:k'≠k):sto m k i z k'=m k':=by
 funext i'
 unfold sto
 rw [if_neg (fun q=>hk q.1)]
theorem RepO.wrF (HT:TabP P C fnm fkd nm bys nA nf a0 Z) (hR:RepO P C fnm fkd Z h A n0 t m) {f:Int} {kd j:Nat} {fin:Bool} (hf:fkd f=some (kd,j,fin)) (hkd:kd≠0) {v:Value} {z:Int} (hv:EV kd v z)
  (W:Wr h h' (A 0) (RoadKit.slotOf Z C (fnm f).1 (fnm f).2) v):RepO P C fnm fkd Z h' A n0 t (sto m 0 f z):=by
 obtain ⟨r1,r2,r3,r4,r5,r6⟩:=hR
 refine ⟨r1.wr W,r2,fun f' kd' j' fin' hf'=>?_,fun j' h1 h2=>?_,r5,fun j' hj' i=>?_⟩
 ·obtain ⟨v',q1,q2,q3⟩:=r3 f' kd' j' fin' hf'
  by_cases e:f'=f
  ·subst e
   cases hf.symm.trans hf'
   exact ⟨v,q1.same W,fun q=>absurd q hkd,fun _=>by simpa [sto] using hv⟩
  ·refine ⟨v',q1.other W (Or.inr (HT.slot hf' hf e)),q2,fun q=>?_⟩
   have:sto m 0 f z 0 f'=m 0 f':=by unfold sto; rw [if_neg (fun q=>e q.2)]
   rw [this]; exact q3 q
 ·obtain ⟨g1,kd',n,g2,c,g3,g4⟩:=r4 j' h1 h2
  rw [sto_ne (by omega)]
  exact ⟨g1,kd',n,g2,c,g3.other W (fun q=>by have:=r5 j' 0 h2 (by omega) q; omega),g4⟩
 ·rw [sto_ne (by omega)]; exact r6 j' hj' i
theorem RepO.wrP (HT:TabP P C fnm fkd nm bys nA nf a0 Z) (hR:RepO P C fnm fkd Z h A n0 t m) {f:Int} {j:Nat} {fin:Bool} (hf:fkd f=some (0,j,fin)) (ht:t+1=2*j)
  (W:Wr h h' (A 0) (RoadKit.slotOf Z C (fnm f).1 (fnm f).2) (.ref (A j))):RepO P C fnm fkd Z h' A n0 (t+1) m:=by
 obtain ⟨r1,r2,r3,r4,r5,r6⟩:=hR
 have e1:(t+1+1) / 2=(t+1) / 2:=by omega
 refine ⟨r1.wr W,r2,fun f' kd' j' fin' hf'=>?_,fun j' h1 h2=>?_,by rw [e1]; exact r5,by rw [e1]; exact r6⟩
 ·obtain ⟨v',q1,q2,q3⟩:=r3 f' kd' j' fin' hf'
  by_cases e:f'=f
  ·subst e
   cases hf.symm.trans hf'
   exact ⟨_,q1.same W,fun _ _=>rfl,fun q=>absurd rfl q⟩
  ·refine ⟨v',q1.other W (Or.inr (HT.slot hf' hf e)),fun q1 q2'=>q2 q1 ?_,q3⟩
   have hne:j'≠j:=fun q=>by
    subst q1 q
    obtain ⟨-,-,-,-,h5,-⟩:=HT
    exact e (h5 f' f j' fin' fin hf' hf)
   omega
 ·rw [e1] at h2
  obtain ⟨g1,kd',n,g2,c,g3,g4⟩:=r4 j' h1 h2
  exact ⟨g1,kd',n,g2,c,g3.other W (fun q=>by have:=r5 j' 0 h2 (by omega) q; omega),g4⟩
theorem RepO.wrA (hR:RepO P C fnm fkd Z h A n0 t m) {j:Nat} (h1:1≤j) (h2:j≤(t+1) / 2) {i:Nat} {v:Value} {z:Int} {kd:Nat} {n:Int} (hl:play P j=some (kd,n)) (hv:EV kd v z)
  (W:Wr h h' (A j) i v):RepO P C fnm fkd Z h' A n0 t (sto m j i z):=by
 obtain ⟨r1,r2,r3,r4,r5,r6⟩:=hR
 refine ⟨r1.wr W,r2,fun f' kd' j' fin' hf'=>?_,fun j' g1 g2=>?_,r5,fun j' hj' i'=>?_⟩
 ·obtain ⟨v',q1,q2,q3⟩:=r3 f' kd' j' fin' hf'
  refine ⟨v',q1.other W (Or.inl fun q=>by have:=r5 0 j (by omega) h2 q; omega),q2,fun q=>?_⟩
  rw [sto_ne (by omega)]; exact q3 q
 ·obtain ⟨k1,kd',n',k2,c,k3,k4,k5⟩:=r4 j' g1 g2
  by_cases e:j'=j
  ·subst e
   cases hl.symm.trans k2
   refine ⟨k1,kd,n,hl,c.setSlot i v,k3.same W,by rw [sz_set]; exact k4,fun i' hi'=>?_⟩
   rw [sz_set] at hi'
   by_cases ei:i'=i
   ·subst ei
    exact ⟨v,by simp [Cell.setSlot,hi'],by simpa [sto] using hv⟩
   ·obtain ⟨w,w1,w2⟩:=k5 i' hi'
    refine ⟨w,?_,?_⟩
    ·show (c.slots.setIfInBounds i v)[i']?=_
     rw [Array.getElem?_setIfInBounds_ne (fun q=>ei q.symm)]; exact w1
    ·have:sto m j' i z j' i'=m j' i':=by unfold sto; rw [if_neg (fun q=>ei (by have:=q.2; omega))]
     rw [this]; exact w2
  ·rw [sto_ne e]
   exact ⟨k1,kd',n',k2,c,k3.other W (fun q=>e (r5 j' j g2 h2 q)),k4,k5⟩
 ·rw [sto_ne (by omega)]; exact r6 j' hj' i'
theorem RepO.lt (hR:RepO P C fnm fkd Z h A n0 t m) {j:Nat} (hj:j≤(t+1) / 2):A j<h.size:=by
 obtain ⟨r1,r2,r3,r4,r5,r6⟩:=hR
 by_cases e:j=0
 ·subst e; exact r1.lt
 ·obtain ⟨k1,kd',n',k2,c,k3,-⟩:=r4 j (by omega) hj
  exact k3.lt
def updA (A:Nat→Addr) (j:Nat) (a:Addr):Nat→Addr:=fun i=>if i=j then a else A i
theorem updA_ne {j i:Nat} {a:Addr} (h:i≠j):updA A j a i=A i:=by unfold updA; rw [if_neg h]
theorem updA_eq {j:Nat} {a:Addr}:updA A j a j=a:=by unfold updA; rw [if_pos rfl]
theorem RepO.new (hR:RepO P C fnm fkd Z h A n0 t m) (ht:t % 2=0) (hn:n0≤h.size) {kd:Nat} {n:Int} (hl:play P (t / 2+1)=some (kd,n)) (hkd:kd=1∨kd=2∨kd=3∨kd=4) (E:Ext h h') {x:Int32} (hx:x.toInt=n) (hx0:0≤n) {cA:ClassId}
  (hA:Arr Z h' h.size (newA cA (kty kd) x) (kty kd)):RepO P C fnm fkd Z h' (updA A (t / 2+1) h.size) n0 (t+1) m:=by
 have hlt:=fun j (hj:j≤(t+1) / 2)=>hR.lt hj
 obtain ⟨r1,r2,r3,r4,r5,r6⟩:=hR
 have e0:updA A (t / 2+1) h.size 0=A 0:=updA_ne (by omega)
 refine ⟨by rw [e0]; exact r1.ext E,by rw [e0]; exact r2,fun f kd j fin hf=>?_,fun j h1 h2=>?_,fun j j' h1 h2 hq=>?_,fun j hj=>r6 j (by omega)⟩
 ·rw [e0]
  obtain ⟨v,q1,q2,q3⟩:=r3 f kd j fin hf
  refine ⟨v,q1.ext E,fun q4 q5=>?_,q3⟩
  rw [q2 q4 (by omega),updA_ne (by omega)]
 ·by_cases e:j=t / 2+1
  ·subst e
   rw [updA_eq]
   have sz:(newA cA (kty kd) x).slots.size=x.toNatClampNeg:=sz_new cA (kty kd) x
   have hc:(x.toNatClampNeg:Int)=n:=by simp only [Int32.toNatClampNeg]; omega
   refine ⟨hn,kd,n,hl,_,hA,by rw [sz]; exact hc,fun i hi=>⟨defaultValue (kty kd),?_,?_⟩⟩
   ·rw [sz] at hi
    show (Array.replicate x.toNatClampNeg (defaultValue (kty kd)))[i]?=_
    simp [hi]
   ·rw [r6 (t / 2+1) (by omega)]
    rcases hkd with rfl | rfl | rfl | rfl
    ·exact Or.inr ⟨by decide,0,rfl,rfl⟩
    ·exact Or.inr ⟨by decide,0,rfl,rfl⟩
    ·exact Or.inr ⟨by decide,0,rfl,rfl⟩
    ·exact Or.inl ⟨rfl,0,rfl,rfl⟩
  ·rw [updA_ne e]
   obtain ⟨g1,kd,n,g2,c,g3,g4⟩:=r4 j h1 (by omega)
   exact ⟨g1,kd,n,g2,c,g3.ext E,g4⟩
 ·by_cases e:j=t / 2+1
  ·by_cases e':j'=t / 2+1
   ·omega
   ·subst e
    rw [updA_eq,updA_ne e'] at hq
    exact (Nat.ne_of_gt (hlt j' (by omega)) hq).elim
  ·by_cases e':j'=t / 2+1
   ·subst e'
    rw [updA_eq,updA_ne e] at hq
    exact (Nat.ne_of_lt (hlt j (by omega)) hq).elim
   ·rw [updA_ne e,updA_ne e'] at hq
    exact r5 j j' (by omega) (by omega) hq
def Sam (h h':Heap) (A:Nat→Addr) (b:Nat):Prop:=h.size≤h'.size∧∀ (a:Addr) (c:Cell),h[a]?=some c→(∀ j,j≤b→a≠A j)→h'[a]?=some c
theorem Sam.refl (h:Heap) (A:Nat→Addr) (b:Nat):Sam h h A b:=⟨Nat.le_refl _,fun _ _ q _=>q⟩
theorem Sam.ext (E:Ext h h') (b:Nat):Sam h h' A b:=⟨E.1,fun a c q _=>E.2 a c q⟩
theorem Sam.wr {j i b:Nat} {v:Value} (W:Wr h h' (A j) i v) (hj:j≤b):Sam h h' A b:=by
 refine ⟨by rw [W.size]; exact Nat.le_refl _,fun a c q hq=>?_⟩
 obtain ⟨cell,-,-,-,rfl⟩:=W
 rw [Array.getElem?_setIfInBounds_ne (fun e=>hq j hj e.symm)]; exact q
theorem Sam.trans {h1:Heap} {A1:Nat→Addr} {b b1:Nat} (S1:Sam h h1 A b) (S2:Sam h1 h' A1 b1) (hA:∀ j,j≤b→A1 j=A j) (hn:∀ j,b<j→j≤b1→h.size≤A1 j):Sam h h' A b:=by
 refine ⟨Nat.le_trans S1.1 S2.1,fun a c q hq=>S2.2 a c (S1.2 a c q hq) fun j hj e=>?_⟩
 by_cases hb:j≤b
 ·exact hq j hb (by rw [e,hA j hb])
 ·have h1:=(Array.getElem?_eq_some_iff.mp q).1
  exact Nat.not_lt.mpr (hn j (by omega) hj) (e ▸ h1)
end Rep
theorem lget_append_none:∀ (L:OLs) (n k:Nat) {v:OV},lget (L ++ List.replicate n none) k=some v→lget L k=some v
 | [],n,k,v,h=>by
  exfalso
  simp only [List.nil_append] at h
  induction n generalizing k with
  | zero=>simp [lget] at h
  | succ n ih =>
   cases k with
   | zero=>simp [List.replicate_succ,lget] at h
   | succ k=>exact ih k (by simpa [List.replicate_succ,lget] using h)
 | x :: xs,n,0,v,h=>h
 | x :: xs,n,k+1,v,h=>lget_append_none xs n k h
theorem laid_rel {A:Nat→Addr} {b:Nat}:∀ {as:List OV} {vs:List Value},SR A b as vs→(laid as).length=(Jvm.Sym.laidSlots vs).length∧(∀ k v,lget (laid as) k=some v→∃ x,(Jvm.Sym.laidSlots vs)[k]?=some (.val x)∧VR A b v x) ∧
  (∀ k,(Jvm.Sym.laidSlots vs)[k]?=some .second→∃ j v,k=j+1∧(Jvm.Sym.laidSlots vs)[j]?=some (.val v)∧v.category=2)∧(∀ k v,(Jvm.Sym.laidSlots vs)[k]?=some (.val v)→v.category=2→(Jvm.Sym.laidSlots vs)[k+1]?=some .second)
 | [],[],_=>⟨rfl,fun k v h=>by simp [laid,lget] at h,fun k h=>by simp [Jvm.Sym.laidSlots] at h,fun k v h=>by simp [Jvm.Sym.laidSlots] at h⟩
 | a :: as,x :: xs,⟨h1,h2⟩=>by
  obtain ⟨g1,g2,g3,g4⟩:=laid_rel h2
  by_cases hc:mcat a=2
  ·have hx:x.category=2:=by rw [h1.cats]; exact hc
   have e1:Jvm.Sym.laidSlots (x :: xs)=.val x :: .second :: Jvm.Sym.laidSlots xs:=by simp [Jvm.Sym.laidSlots,hx]
   have e2:laid (a :: as)=some a :: none :: laid as:=by
    rcases a with z | z | z
    ·cases hc
    ·rfl
    ·cases hc
   rw [e1,e2]
   refine ⟨by simp [g1],fun k v hk=>?_,fun k hk=>?_,fun k v hk hv=>?_⟩
   ·match k,hk with
    | 0,hk=>cases hk; exact ⟨x,rfl,h1⟩
    | 1,hk=>cases hk
    | k+2,hk=>exact g2 k v hk
   ·match k,hk with
    | 0,hk=>cases hk
    | 1,hk=>exact ⟨0,x,rfl,rfl,hx⟩
    | k+2,hk =>
     obtain ⟨j,v,rfl,q1,q2⟩:=g3 k hk
     exact ⟨j+2,v,rfl,q1,q2⟩
   ·match k,hk with
    | 0,hk=>rfl
    | 1,hk=>cases hk
    | k+2,hk=>exact g4 k v hk hv
  ·have hx:¬ x.category=2:=by rw [h1.cats]; exact hc
   have e1:Jvm.Sym.laidSlots (x :: xs)=.val x :: Jvm.Sym.laidSlots xs:=by simp [Jvm.Sym.laidSlots,hx]
   have e2:laid (a :: as)=some a :: laid as:=by
    rcases a with z | z | z
    ·rfl
    ·exact absurd rfl hc
    ·rfl
   rw [e1,e2]
   refine ⟨by simp [g1],fun k v hk=>?_,fun k hk=>?_,fun k v hk hv=>?_⟩
   ·match k,hk with
    | 0,hk=>cases hk; exact ⟨x,rfl,h1⟩
    | k+1,hk=>exact g2 k v hk
   ·match k,hk with
    | 0,hk=>cases hk
    | k+1,hk =>
     obtain ⟨j,v,rfl,q1,q2⟩:=g3 k hk
     exact ⟨j+1,v,rfl,q1,q2⟩
   ·match k,hk with
    | 0,hk=>cases hk; exact absurd hv hx
    | k+1,hk=>exact g4 k v hk hv
theorem entry_rel {A:Nat→Addr} {b n:Nat} {as:List OV} {vs:List Value} (h:SR A b as vs):LR A b (initL as n) (argsToLocals vs.toArray n):=by
 obtain ⟨g1,g2,g3,g4⟩:=laid_rel h
 have e:(argsToLocals vs.toArray n).toList=Jvm.Sym.laidSlots vs ++ List.replicate (n - (Jvm.Sym.laidSlots vs).length) Slot.unset:=Jvm.Sym.argsToLocals_toList _ _
 have ge:∀ k,(argsToLocals vs.toArray n)[k]?=(Jvm.Sym.laidSlots vs ++ List.replicate (n - (Jvm.Sym.laidSlots vs).length) Slot.unset)[k]?:=fun k=>by rw [← e,Array.getElem?_toList]
 have up:∀ k s,(Jvm.Sym.laidSlots vs)[k]?=some s→(argsToLocals vs.toArray n)[k]?=some s:=fun k s q=>by
  rw [ge,List.getElem?_append_left (List.getElem?_eq_some_iff.mp q).1]; exact q
 have down:∀ k s,(argsToLocals vs.toArray n)[k]?=some s→s≠Slot.unset→(Jvm.Sym.laidSlots vs)[k]?=some s:=fun k s q hs=>by
  rw [ge,List.getElem?_append] at q
  split at q
  ·exact q
  ·rw [List.getElem?_replicate] at q
   split at q
   ·exact absurd (Option.some.inj q).symm hs
   ·cases q
 refine ⟨?_,fun k v hk=>?_,fun k hk=>?_,fun k v hk hv=>?_⟩
 ·rw [← Array.length_toList,e]
  simp [initL,g1]
 ·obtain ⟨x,q1,q2⟩:=g2 k v (lget_append_none _ _ _ hk)
  exact ⟨x,up _ _ q1,q2⟩
 ·obtain ⟨j,v,q1,q2,q3⟩:=g3 k (down k _ hk (by intro q; cases q))
  exact ⟨j,v,q1,up _ _ q2,q3⟩
 ·exact up _ _ (g4 k v (down k _ hk (by intro q; cases q)) hv)
theorem popA_rel {A:Nat→Addr} {b:Nat}:∀ {ts:List Bool} {S:List OV} {acc as:List OV} {S':List OV} {St:List Value},popA ts S acc=some (as,S')→SR A b S St →
  ∃ B St',(∀ A' b' X,SR A' b' acc X→SR A' b' as (B ++ X))∧SR A b S' St'∧St=B.reverse ++ St'∧B.length=ts.length
 | [],S,acc,as,S',St,h,hS=>by
  cases h
  exact ⟨[],St,fun _ _ _ hX=>hX,hS,rfl,rfl⟩
 | false :: ts,.inl z :: S,acc,as,S',St,h,hS=>by
  obtain ⟨y,St1,rfl,hy,hS1⟩:=SR.i1 hS
  obtain ⟨B,St',q1,q2,q3,q4⟩:=popA_rel (ts:=ts) h hS1
  exact ⟨B ++ [.int y],St',fun A' b' X hX=>by simpa using q1 A' b' (.int y :: X) ⟨⟨y,rfl,hy⟩,hX⟩,q2,by simp [q3],by simp [q4]⟩
 | true :: ts,.inr (.inl z) :: S,acc,as,S',St,h,hS=>by
  obtain ⟨y,St1,rfl,hy,hS1⟩:=SR.l1 hS
  obtain ⟨B,St',q1,q2,q3,q4⟩:=popA_rel (ts:=ts) h hS1
  exact ⟨B ++ [.long y],St',fun A' b' X hX=>by simpa using q1 A' b' (.long y :: X) ⟨⟨y,rfl,hy⟩,hX⟩,q2,by simp [q3],by simp [q4]⟩
end Jvm.OwnMini
namespace Jvm.OwnMini
open Jvm Jvm.ClassFile Sem Op Lib Jvm.Free Jvm.Stand Jvm.LawKit Jvm.RoadKit
theorem retI' {p:Program} {l:Launch} {e:Env} {R:Room} {s:State} {m:MethodId} {args:Array Value} {below:List Frame} {meth:Method} {c:Code} {T:State} {locs:List Loc} {cells slots:Nat} (X:Stand p l e R s m args below meth c T locs cells slots) (hx:p.tables.exec=Jvm.exec) {pc:Nat} {Ls:Array Slot} {z:Int32} {rest:List Value} (hret:meth.sig.returnType=some .int) (hd:decode c.code pc=.ok (.ireturn,1)) {fs:List Frame}
  (hl:∀ (f:JFrame) (acts:List Action),f.method=m→f.locked=none→f.entered=[]→(doReturn e (T.setTop f) acts (some (.int z))).1=T.setFrames fs):Steps p.tables e below (T.setTop (mkF m pc Ls (.int z :: rest))) (T.setFrames fs) :=
 retOut X hx hret rfl (Or.inl ⟨rfl,Or.inl rfl,z,rfl⟩) hd hl
def RVl:Option OV→Option Value→Prop
 | none,v=>v=none
 | some (.inl z),v=>∃ x:Int32,v=some (.int x)∧x.toInt=z
 | some (.inr (.inl z)),v=>∃ x:Int64,v=some (.long x)∧x.toInt=z
 | some (.inr (.inr _)),_=>False
theorem RVl.push {A:Nat→Addr} {b:Nat} {r:Option OV} {v:Option Value} (h:RVl r v) {S:List OV} {St:List Value} (hS:SR A b S St):SR A b (pushR r S) (v.toList ++ St):=by
 rcases r with _ | z | z | z
 ·cases h; exact hS
 ·obtain ⟨x,rfl,e⟩:=h; exact ⟨⟨x,rfl,e⟩,hS⟩
 ·obtain ⟨x,rfl,e⟩:=h; exact ⟨⟨x,rfl,e⟩,hS⟩
 ·exact h.elim
def EndP (P:PT) (C:String) (fnm:FN) (fkd:FK) (Z:State) (nA:Nat) (p:Program) (l:Launch) (e:Env) (R:Room) (s:State) (mi:MethodId) (args:Array Value) (below:List Frame) (meth:Method) (c:Code) (n0 q:Nat)
  (T:State) (A:Nat→Addr) (t:Nat) (locs:List Loc) (cells slots:Nat) (f0:JFrame) (r:Option OV) (t':Nat) (m':OMem):Prop :=
 ∃ (v:Option Value) (T':State) (A':Nat→Addr) (lw:List Loc) (cells' slots':Nat),
  Stand p l e R s mi args below meth c T' (locs ++ lw) cells' slots'∧RepO P C fnm fkd Z T'.heap A' n0 t' m' ∧
  (∀ j,j≤(t+1) / 2→A' j=A j)∧t≤t'∧(∀ j,(t+1) / 2<j→j≤(t'+1) / 2→T.heap.size≤A' j)∧Fr n0 lw ∧
  cells'+(nA - (t'+1) / 2)≤cells+(nA - (t+1) / 2)∧slots'+(psum P nA - psum P ((t'+1) / 2))≤slots+(psum P nA - psum P ((t+1) / 2)) ∧
  (q≠0→t'=t∧cells'=cells∧slots'=slots)∧Sam T.heap T'.heap A ((t+1) / 2)∧RVl r v∧(meth.sig.returnType=none→v=none) ∧
  ∀ fs,(∀ (f:JFrame) (acts:List Action),f.method=mi→f.locked=none→f.entered=[]→(doReturn e (T'.setTop f) acts v).1=T'.setFrames fs)→Steps p.tables e below (T.setTop f0) (T'.setFrames fs)
section Sound
variable {P:PT} {C:String} {fnm:FN} {fkd:FK} {nm:Nat→MethodName} {bys:Nat→ByteArray} {nA nf:Nat} {a0:Array Value} {Z:State}
variable {p:Program} {l:Launch} {e:Env} {R:Room} {s:State} {mi:MethodId} {args:Array Value} {below:List Frame} {meth:Method} {c:Code} {n0 q:Nat}
theorem EndP.trans {T T1:State} {A A1:Nat→Addr} {t t1:Nat} {locs l1:List Loc} {cells slots cells1 slots1:Nat} {f0 f1:JFrame} {r:Option OV} {t':Nat} {m':OMem}
  (E:EndP P C fnm fkd Z nA p l e R s mi args below meth c n0 q T1 A1 t1 (locs ++ l1) cells1 slots1 f1 r t' m') (hA:∀ j,j≤(t+1) / 2→A1 j=A j) (ht:t≤t1) (hn:∀ j,(t+1) / 2<j→j≤(t1+1) / 2→T.heap.size≤A1 j) (hF:Fr n0 l1)
  (hc:cells1+(nA - (t1+1) / 2)≤cells+(nA - (t+1) / 2)) (hs:slots1+(psum P nA - psum P ((t1+1) / 2))≤slots+(psum P nA - psum P ((t+1) / 2))) (hq:q≠0→t1=t∧cells1=cells∧slots1=slots) (hS:Sam T.heap T1.heap A ((t+1) / 2))
  (st:∀ target,Steps p.tables e below (T1.setTop f1) target→Steps p.tables e below (T.setTop f0) target):EndP P C fnm fkd Z nA p l e R s mi args below meth c n0 q T A t locs cells slots f0 r t' m':=by
 obtain ⟨v,T',A',lw,cells',slots',h1,h2,h3,h4,h5,h6,h7,h8,h9,h10,h11,h12,h13⟩:=E
 refine ⟨v,T',A',l1 ++ lw,cells',slots',by rw [← List.append_assoc]; exact h1,h2,fun j hj=>(h3 j (by omega)).trans (hA j hj),by omega,fun j g1 g2=>?_,hF.app h6,by omega,by omega,fun hq'=>?_,hS.trans h10 hA hn,h11,h12,fun fs hfs=>st _ (h13 fs hfs)⟩
 ·by_cases hj:j≤(t1+1) / 2
  ·rw [h3 j hj]; exact hn j g1 hj
  ·exact Nat.le_trans hS.1 (h5 j (by omega) g2)
 ·obtain ⟨a1,a2,a3⟩:=hq hq'
  obtain ⟨b1,b2,b3⟩:=h9 hq'
  exact ⟨b1.trans a1,b2.trans a2,b3.trans a3⟩
theorem EndP.still {T T1:State} {A:Nat→Addr} {t:Nat} {locs:List Loc} {cells slots:Nat} {f0 f1:JFrame} {r:Option OV} {t':Nat} {m':OMem}
  (E:EndP P C fnm fkd Z nA p l e R s mi args below meth c n0 q T1 A t locs cells slots f1 r t' m') (hh:T1.heap=T.heap) (st:∀ target,Steps p.tables e below (T1.setTop f1) target→Steps p.tables e below (T.setTop f0) target) :
  EndP P C fnm fkd Z nA p l e R s mi args below meth c n0 q T A t locs cells slots f0 r t' m' :=
 EndP.trans (l1:=[]) (by rw [List.append_nil]; exact E) (fun _ _=>rfl) (Nat.le_refl _) (fun j h1 h2=>by omega) (Fr.nil _) (Nat.le_refl _) (Nat.le_refl _) (fun _=>⟨rfl,rfl,rfl⟩) (by rw [hh]; exact Sam.refl _ _ _) st
def SoundAt (P:PT) (C:String) (fnm:FN) (fkd:FK) (bys:Nat→ByteArray) (nA:Nat) (Z:State) (l:Launch) (n:Nat):Prop :=
 ∀ q pc L S t m r t' m',runP P n q pc L S t m=some (r,t',m')→∀ ps ml rk fr lc,pinf P q=some (ps,ml,rk,fr,lc) →
 ∀ (p:Program) (e:Env) (R:Room) (s:State) (mi:MethodId) (args:Array Value) (below:List Frame) (meth:Method) (c:Code) (T:State) (locs:List Loc) (cells slots:Nat) (A:Nat→Addr) (Ls:Array Slot) (St:List Value) (n0:Nat),
  Stand p l e R s mi args below meth c T locs cells slots→p.tables.exec=Jvm.exec→Z.Warmed39 s.vm→s.vm.findClass C=some mi.cls→c.code=bys q→c.maxLocals=ml→meth.sig.returnType=rty rk→(q=0→meth.name = "<init>") →
  RepO P C fnm fkd Z T.heap A n0 t m→LR A ((t+1) / 2) L Ls→SR A ((t+1) / 2) S St→Ls.size=ml→n0≤T.heap.size→fr≤R.frames→lc≤R.locals→cells≤R.cells→slots≤R.slots →
  (q=0→cells+(nA - (t+1) / 2)≤R.cells∧slots+(psum P nA - psum P ((t+1) / 2))≤R.slots) →
  EndP P C fnm fkd Z nA p l e R s mi args below meth c n0 q T A t locs cells slots (mkF mi pc Ls St) r t' m'
def QP (P:PT) (C:String) (fnm:FN) (fkd:FK) (Z:State) (n0 q t:Nat) (A:Nat→Addr) (h:Heap) (r:Option OV) (t':Nat) (m':OMem) (v:Option Value) (h':Heap) (L:List Loc):Prop :=
 ∃ A',RepO P C fnm fkd Z h' A' n0 t' m'∧(∀ j,j≤(t+1) / 2→A' j=A j)∧t≤t'∧(∀ j,(t+1) / 2<j→j≤(t'+1) / 2→h.size≤A' j)∧Fr n0 L∧Sam h h' A ((t+1) / 2)∧RVl r v∧(q≠0→t'=t)
theorem metP (HT:TabP P C fnm fkd nm bys nA nf a0 Z) {n:Nat} (hS:SoundAt P C fnm fkd bys nA Z l n) {ps:List Bool} {ml rk fr lc:Nat} (hq:pinf P q=some (ps,ml,rk,fr,lc)) {as:List OV} {t:Nat} {m:OMem} {r:Option OV} {t':Nat} {m':OMem}
  (hrun:runP P n q 0 (initL as ml) [] t m=some (r,t',m')) (hsz:(initL as ml).length≤ml) {A:Nat→Addr} {h:Heap} (hn0:n0≤h.size) (hR:RepO P C fnm fkd Z h A n0 t m) {vals:List Value} (hv:SR A ((t+1) / 2) as vals) {cl sl:Nat}
  (hcl:q=0→nA - (t+1) / 2≤cl∧psum P nA - psum P ((t+1) / 2)≤sl) :
  MetFree l (nm q) (head1 [Jvm.Cond.code (nm q) (bys q) ml (rty rk)] ({ frames:=fr,cells:=cl,slots:=sl,locals:=lc }:Room)) (fun a U=>a=vals.toArray∧Z.Warmed39 U.vm∧U.heap=h) (fun _ _ _ _ _=>True)
   (fun _ U o U'=>∃ v L,o=.returned v∧QP P C fnm fkd Z n0 q t A h r t' m' v U'.heap L∧FrameEnd U o U' L cl sl):=by
 have HT':=HT
 obtain ⟨-,-,-,-,-,-,-,-,hinf,-,-,-,-,hpn,-,hin,-⟩:=HT'
 obtain ⟨hcls,-⟩:=hinf q ps ml rk fr lc hq
 refine MetFree.of_bodySF (plainFor_of_name (by rw [hcls]; exact hpn)) hisR ?_
 intro p e s m' args below meth c s₁ Bd hml0 hP hK
 obtain ⟨rfl,hZ,hh⟩:=hP
 have X0:=Stand.of_body Bd
 have e0:s₁.heap=h:=by rw [← hh,Bd.state]; rfl
 have hown:s.vm.findClass C=some m'.cls:=by rw [← hcls]; exact findClass_of_methodNamed Bd.named
 have hnm:=(name_of_methodNamed Bd.named Bd.method).1
 have hL:=entry_rel (n:=ml) hv
 have hz:(argsToLocals vals.toArray ml).size=ml:=by
  rw [← hL.1]
  refine Nat.le_antisymm hsz ?_
  simp only [initL,List.length_append,List.length_replicate]; omega
 obtain ⟨v,T',A',lw,cells',slots',h1,h2,h3,h4,h5,h6,h7,h8,h9,h10,h11,h12,h13⟩:=hS q 0 _ [] t m r t' _ hrun ps ml rk fr lc hq p e _ s m' _ below meth c s₁ [] 0 0 A (argsToLocals vals.toArray ml) [] n0 X0 Bd.exec hZ hown Bd.bytes hml0 Bd.returns (fun q0=>by subst q0; exact hnm.trans hin)
  (by rw [e0]; exact hR) hL trivial hz (by rw [e0]; exact hn0) (Nat.le_refl _) (Nat.le_refl _) (Nat.zero_le _) (Nat.zero_le _) (fun q0=>by have:=hcl q0; exact ⟨by show 0+_≤cl; omega,by show 0+_≤sl; omega⟩)
 rw [e0] at h5 h10
 obtain ⟨fs,hr,hrun',hended,hW,hsame⟩:=h1.leave (v:=v) h12
 refine ⟨_,_,h13 fs hr,hrun',hended,v,_,rfl,⟨A',h2,h3,h4,h5,h6,h10,h11,fun q0=>(h9 q0).1⟩,⟨_,rfl⟩,hW,hsame.mono ?_ ?_⟩
 ·by_cases q0:q=0
  ·have:=(hcl q0).1; omega
  ·have:=(h9 q0).2.1; omega
 ·by_cases q0:q=0
  ·have:=(hcl q0).2; omega
  ·have:=(h9 q0).2.2; omega
end Sound
end Jvm.OwnMini
namespace Jvm.OwnMini
open Jvm Jvm.ClassFile Sem Op Lib Jvm.Free Jvm.Stand Jvm.LawKit Jvm.RoadKit
section Inv
variable {P:PT} {k:Nat→Nat→OLs→List OV→Nat→OMem→RT} {q pc len t:Nat} {L:OLs} {S:List OV} {m:OMem} {r:Option OV×Nat×OMem}
theorem getfield_some {x:Nat} (h:stepS P k q pc L S t m (.getfield x) len=some r):∃ S',S=.inr (.inr 0) :: S' ∧
  ((∃ f j fin,pfld P x=some (f,0,j,fin)∧j≤t / 2∧k q (pc+len) L (vr j :: S') t m=some r)∨(∃ f kd j fin,pfld P x=some (f,kd,j,fin)∧(kd=1∨kd=2)∧k q (pc+len) L (vi (m 0 f) :: S') t m=some r)∨(∃ f j fin,pfld P x=some (f,4,j,fin)∧k q (pc+len) L (vl (m 0 f) :: S') t m=some r)):=by
 simp only [stepS] at h
 split at h
 ·refine ⟨_,rfl,?_⟩
  split at h
  ·rename_i f j fin hf
   cases hb:Nat.ble j (t / 2) with
   | false=>rw [hb] at h; cases h
   | true=>rw [hb] at h; exact Or.inl ⟨f,j,fin,hf,Nat.le_of_ble_eq_true hb,h⟩
  ·rename_i f j fin hf; exact Or.inr (Or.inl ⟨f,1,j,fin,hf,Or.inl rfl,h⟩)
  ·rename_i f j fin hf; exact Or.inr (Or.inl ⟨f,2,j,fin,hf,Or.inr rfl,h⟩)
  ·rename_i f j fin hf; exact Or.inr (Or.inr ⟨f,j,fin,hf,h⟩)
  ·cases h
 ·cases h
theorem cond_some {α:Type} {b:Bool} {x:Option α} {a:α} (h:cond b x none=some a):b=true∧x=some a:=by
 cases b
 ·cases h
 ·exact ⟨rfl,h⟩
theorem putfield_some {x:Nat} (h:stepS P k q pc L S t m (.putfield x) len=some r) :
  (∃ f j fin S',pfld P x=some (f,0,j,fin)∧S=.inr (.inr j) :: .inr (.inr 0) :: S'∧t+1=2*j∧q=0∧k q (pc+len) L S' (t+1) m=some r) ∨
  (∃ f kd j fin z S',pfld P x=some (f,kd,j,fin)∧(kd=1∨kd=2)∧S=.inl z :: .inr (.inr 0) :: S'∧(fin=false∨q=0)∧k q (pc+len) L S' t (sto m 0 f (if kd=2 then z % 2 else z))=some r) ∨
  (∃ f j fin z S',pfld P x=some (f,4,j,fin)∧S=.inr (.inl z) :: .inr (.inr 0) :: S'∧(fin=false∨q=0)∧k q (pc+len) L S' t (sto m 0 f z)=some r):=by
 have fq:∀ {fin:Bool},(!fin || Nat.beq q 0)=true→fin=false∨q=0:=fun {fin} hh=>by
  cases fin
  ·exact Or.inl rfl
  ·exact Or.inr (Nat.eq_of_beq_eq_true (by simpa using hh))
 simp only [stepS] at h
 split at h
 ·rename_i f j fin hf
  split at h
  ·rename_i j' S'
   obtain ⟨hb,hh⟩:=cond_some h
   simp only [Bool.and_eq_true] at hb
   obtain ⟨⟨h1,h2⟩,h3⟩:=hb
   cases Nat.eq_of_beq_eq_true h1
   exact Or.inl ⟨f,_,fin,S',hf,rfl,Nat.eq_of_beq_eq_true h2,Nat.eq_of_beq_eq_true h3,hh⟩
  ·cases h
 ·rename_i f j fin hf
  split at h
  ·obtain ⟨hb,h⟩:=cond_some h
   exact Or.inr (Or.inl ⟨f,1,j,fin,_,_,hf,Or.inl rfl,rfl,fq hb,h⟩)
  ·cases h
 ·rename_i f j fin hf
  split at h
  ·obtain ⟨hb,h⟩:=cond_some h
   exact Or.inr (Or.inl ⟨f,2,j,fin,_,_,hf,Or.inr rfl,rfl,fq hb,h⟩)
  ·cases h
 ·rename_i f j fin hf
  split at h
  ·obtain ⟨hb,h⟩:=cond_some h
   exact Or.inr (Or.inr ⟨f,j,fin,_,_,hf,rfl,fq hb,h⟩)
  ·cases h
 ·cases h
theorem ald_some {kd:Nat→Bool} {f:Nat→Int→List OV→RT} (h:ald P kd S t f=some r):∃ i j S' k n,S=.inl i :: .inr (.inr j) :: S'∧play P j=some (k,n)∧kd k=true∧j≤t / 2∧0≤i∧i<n∧f j i S'=some r:=by
 simp only [ald] at h
 split at h
 ·split at h
  ·rename_i hl
   obtain ⟨hb,h⟩:=cond_some h
   simp only [Bool.and_eq_true] at hb
   split at h
   ·rename_i hc
    exact ⟨_,_,_,_,_,rfl,hl,hb.1,Nat.le_of_ble_eq_true hb.2,hc.1,hc.2,h⟩
   ·cases h
  ·cases h
 ·cases h
theorem asi_some {kd:Nat→Bool} {f:Nat→Nat→Int→Int→List OV→RT} (h:asi P kd S t f=some r):∃ z i j S' k n,S=.inl z :: .inl i :: .inr (.inr j) :: S'∧play P j=some (k,n)∧kd k=true∧j≤t / 2∧0≤i∧i<n∧f k j i z S'=some r:=by
 simp only [asi] at h
 split at h
 ·split at h
  ·rename_i hl
   obtain ⟨hb,h⟩:=cond_some h
   simp only [Bool.and_eq_true] at hb
   split at h
   ·rename_i hc
    exact ⟨_,_,_,_,_,_,rfl,hl,hb.1,Nat.le_of_ble_eq_true hb.2,hc.1,hc.2,h⟩
   ·cases h
  ·cases h
 ·cases h
theorem asl_some {kd:Nat→Bool} {f:Nat→Int→Int→List OV→RT} (h:asl P kd S t f=some r):∃ z i j S' k n,S=.inr (.inl z) :: .inl i :: .inr (.inr j) :: S'∧play P j=some (k,n)∧kd k=true∧j≤t / 2∧0≤i∧i<n∧f j i z S'=some r:=by
 simp only [asl] at h
 split at h
 ·split at h
  ·rename_i hl
   obtain ⟨hb,h⟩:=cond_some h
   simp only [Bool.and_eq_true] at hb
   split at h
   ·rename_i hc
    exact ⟨_,_,_,_,_,_,rfl,hl,hb.1,Nat.le_of_ble_eq_true hb.2,hc.1,hc.2,h⟩
   ·cases h
  ·cases h
 ·cases h
theorem arraylength_some (h:stepS P k q pc L S t m .arraylength len=some r):∃ j S' kd n,S=.inr (.inr j) :: S'∧play P j=some (kd,n)∧j≤t / 2∧k q (pc+len) L (vi n :: S') t m=some r:=by
 simp only [stepS] at h
 split at h
 ·split at h
  ·rename_i hl
   obtain ⟨hb,h⟩:=cond_some h
   exact ⟨_,_,_,_,rfl,hl,Nat.le_of_ble_eq_true hb,h⟩
  ·cases h
 ·cases h
theorem newarray_some {a:ArrayType} (h:stepS P k q pc L S t m (.newarray a) len=some r):∃ S' kd n,S=.inl n :: S'∧play P (t / 2+1)=some (kd,n)∧t % 2=0∧kd=akind a∧q=0∧k q (pc+len) L (vr (t / 2+1) :: S') (t+1) m=some r:=by
 simp only [stepS] at h
 split at h
 ·split at h
  ·rename_i hl
   obtain ⟨hb,hh⟩:=cond_some h
   simp only [Bool.and_eq_true] at hb
   obtain ⟨⟨h1,h2⟩,h3⟩:=hb
   split at hh
   ·rename_i hz
    subst hz
    exact ⟨_,_,_,rfl,hl,Nat.eq_of_beq_eq_true h1,Nat.eq_of_beq_eq_true h2,Nat.eq_of_beq_eq_true h3,hh⟩
   ·cases hh
  ·cases h
 ·cases h
theorem invokespecial_some {x:Nat} (h:stepS P k q pc L S t m (.invokespecial x) len=some r):∃ S' ps ml rk fr lc,S=.inr (.inr 0) :: S'∧pinf P q=some (ps,ml,rk,fr,lc)∧pobi P x=true∧1≤fr∧cats S'+12≤lc∧k q (pc+len) L S' t m=some r:=by
 simp only [stepS] at h
 split at h
 ·split at h
  ·rename_i hl
   obtain ⟨hb,h⟩:=cond_some h
   simp only [Bool.and_eq_true] at hb
   obtain ⟨⟨h1,h2⟩,h3⟩:=hb
   exact ⟨_,_,_,_,_,_,rfl,hl,h1,Nat.le_of_ble_eq_true h2,Nat.le_of_ble_eq_true h3,h⟩
  ·cases h
 ·cases h
theorem invokevirtual_some {x:Nat} (h:stepS P k q pc L S t m (.invokevirtual x) len=some r):∃ q' ps ml rk fr' lc' ps0 ml0 rk0 fr lc as S' y,pmth P x=some q'∧pinf P q'=some (ps,ml,rk,fr',lc')∧pinf P q=some (ps0,ml0,rk0,fr,lc)∧popA ps S []=some (as,.inr (.inr 0) :: S') ∧
  fr'+1≤fr∧cats S'+(ml+11)+lc'≤lc∧q'≠0∧(initL (vr 0 :: as) ml).length≤ml∧k q' 0 (initL (vr 0 :: as) ml) [] t m=some y∧k q (pc+len) L (pushR y.1 S') y.2.1 y.2.2=some r:=by
 simp only [stepS] at h
 split at h
 ·rename_i q' hq'
  split at h
  ·rename_i ps ml rk fr' lc' ps0 ml0 rk0 fr lc h1 h2
   split at h
   ·rename_i as S' hp
    obtain ⟨hb,h⟩:=cond_some h
    simp only [Bool.and_eq_true] at hb
    obtain ⟨⟨⟨g1,g2⟩,g3⟩,g4⟩:=hb
    obtain ⟨y,h3,h4⟩:=Option.bind_eq_some_iff.mp h
    exact ⟨q',ps,ml,rk,fr',lc',ps0,ml0,rk0,fr,lc,as,S',y,hq',h1,h2,hp,Nat.le_of_ble_eq_true g1,Nat.le_of_ble_eq_true g2,fun e=>by subst e; simp at g3,Nat.le_of_ble_eq_true g4,h3,h4⟩
   ·cases h
  ·cases h
 ·cases h
theorem ireturn_some (h:stepS P k q pc L S t m .ireturn len=some r):∃ z S' ps ml rk fr lc,S=.inl z :: S'∧pinf P q=some (ps,ml,rk,fr,lc)∧((rk=1∧r=(some (vi z),t,m))∨(rk=2∧r=(some (vi (z % 2)),t,m))):=by
 simp only [stepS] at h
 split at h
 ·split at h
  ·rename_i hl; cases h; exact ⟨_,_,_,_,_,_,_,rfl,hl,Or.inl ⟨rfl,rfl⟩⟩
  ·rename_i hl; cases h; exact ⟨_,_,_,_,_,_,_,rfl,hl,Or.inr ⟨rfl,rfl⟩⟩
  ·cases h
 ·cases h
theorem lreturn_some (h:stepS P k q pc L S t m .lreturn len=some r):∃ z S' ps ml fr lc,S=.inr (.inl z) :: S'∧pinf P q=some (ps,ml,4,fr,lc)∧r=(some (vl z),t,m):=by
 simp only [stepS] at h
 split at h
 ·split at h
  ·rename_i hl; cases h; exact ⟨_,_,_,_,_,_,rfl,hl,rfl⟩
  ·cases h
 ·cases h
theorem return_some (h:stepS P k q pc L S t m .return_ len=some r):∃ ps ml fr lc,S=[]∧pinf P q=some (ps,ml,0,fr,lc)∧r=(none,t,m):=by
 simp only [stepS] at h
 split at h
 ·split at h
  ·rename_i hl; cases h; exact ⟨_,_,_,_,rfl,hl,rfl⟩
  ·cases h
 ·cases h
end Inv
end Jvm.OwnMini
namespace Jvm.OwnMini
open Jvm Jvm.ClassFile Sem Op Lib Jvm.Free Jvm.Stand Jvm.LawKit Jvm.RoadKit
theorem kty_akind:∀ {a:ArrayType} {kd:Nat},kd=akind a→(kd=1∨kd=2∨kd=3∨kd=4)→newarray.typeOf a=kty kd:=by
 intro a kd h hk
 cases a <;> simp only [akind] at h <;> subst h <;> first | rfl | (rcases hk with q | q | q | q <;> cases q)
theorem idx32 {j:Int32} {n:Nat} (h0:0≤j.toInt) (h1:j.toInt<n):¬ (j<0∨n≤j.toNatClampNeg):=by
 simp only [Int32.lt_iff_toInt_lt,Int32.toNatClampNeg,Int32.reduceToInt]; omega
theorem clamp32 {j:Int32} (h0:0≤j.toInt):(j.toNatClampNeg:Int)=j.toInt:=by
 simp only [Int32.toNatClampNeg]; omega
theorem EV.int {kd:Nat} {v:Value} {z:Int} (h:EV kd v z) (hk:kd≠4):∃ x:Int32,v=.int x∧x.toInt=z:=by
 rcases h with ⟨q,-⟩ | ⟨-,q⟩
 ·exact absurd q hk
 ·exact q
theorem EV.long {kd:Nat} {v:Value} {z:Int} (h:EV kd v z) (hk:kd=4):∃ x:Int64,v=.long x∧x.toInt=z:=by
 rcases h with ⟨-,q⟩ | ⟨q,-⟩
 ·exact q
 ·exact absurd hk q
theorem psum_mono (P:PT) {a b:Nat} (h:a≤b):psum P a≤psum P b:=by
 induction h with
 | refl=>exact Nat.le_refl _
 | step _ ih=>exact Nat.le_trans ih (Nat.le_add_right _ _)
theorem soundP {P:PT} {C:String} {fnm:FN} {fkd:FK} {nm:Nat→MethodName} {bys:Nat→ByteArray} {nA nf:Nat} {a0:Array Value} {Z:State} (HT:TabP P C fnm fkd nm bys nA nf a0 Z) (l:Launch):∀ n,SoundAt P C fnm fkd bys nA Z l n
 | 0=>fun q pc L S t m r t' m' h=>by cases h
 | n+1=>by
  intro q pc L0 S t m r t' m' h ps ml rk fr lc hq p e R s mi args below meth c T locs cells slots A Ls St n0 X hx hZ hown hby hml hret hini hR hL0 hSt hsz hn0 hfr hlc hce hsl hroom
  have IH:=soundP HT l n
  have HT':=HT
  obtain ⟨tcode,tfld,tfkd,-,-,tlay,tcst,tmth,tinf,tobi,⟨tob1,tob2⟩,tins,tini,tpn,thn,tnm,tall⟩:=HT'
  replace h:stepP P (runP P n) q pc L0 S t m=some (r,t',m'):=h
  unfold stepP at h
  cases hcd:pcode P q pc with
  | none=>rw [hcd] at h; cases h
  | some il =>
   obtain ⟨i,len⟩:=il
   rw [hcd] at h
   replace h:stepI P (runP P n) q pc (mask (pliv P q pc) L0) S t m i len=some (r,t',m'):=h
   have hL:=hL0.mask (pliv P q pc)
   generalize mask (pliv P q pc) L0=L at h hL
   obtain ⟨hdec,hchk⟩:=tcode q pc i len hcd
   have hd:decode c.code pc=.ok (i,len):=by rw [hby]; exact hdec
   have hcst:(∀ x z,pcst P x=some (.inl z)→∃ v:Int32,(Jvm.Cond.constant C x v).before args s=true∧v.toInt=z)∧(∀ x z,pcst P x=some (.inr (.inl z))→∃ v:Int64,(Jvm.Cond.constantLong C x v).before args s=true∧v.toInt=z) :=
    ⟨fun x z hz=>by obtain ⟨v,h1,h2⟩:=tcst.1 x z hz; exact ⟨v,mv hZ h1,h2⟩,fun x z hz=>by obtain ⟨v,h1,h2⟩:=tcst.2 x z hz; exact ⟨v,mv hZ h1,h2⟩⟩
   -- going on from the same heap
   have go:∀ {T1:State} {pc':Nat} {L':OLs} {S':List OV} {Ls':Array Slot} {St':List Value},Stand p l e R s mi args below meth c T1 locs cells slots→T1.heap=T.heap→runP P n q pc' L' S' t m=some (r,t',m')→LR A ((t+1) / 2) L' Ls'→SR A ((t+1) / 2) S' St'→Ls'.size=ml →
     (∀ target,Steps p.tables e below (T1.setTop (mkF mi pc' Ls' St')) target→Steps p.tables e below (T.setTop (mkF mi pc Ls St)) target) →
     EndP P C fnm fkd Z nA p l e R s mi args below meth c n0 q T A t locs cells slots (mkF mi pc Ls St) r t' m':=fun X1 hh hrun hL1 hS1 hz1 st =>
    (IH q _ _ _ t m r t' m' hrun ps ml rk fr lc hq p e R s mi args below meth c _ locs cells slots A _ _ n0 X1 hx hZ hown hby hml hret hini (by rw [hh]; exact hR) hL1 hS1 hz1 (by rw [hh]; exact hn0) hfr hlc hce hsl hroom).still hh st
   -- going on from a heap in which the object's own cells were written
   have gw:∀ {T1:State} {t1:Nat} {m1:OMem} {pc':Nat} {S':List OV} {St':List Value} {j sl:Nat} {v:Value},Stand p l e R s mi args below meth c T1 (locs ++ [⟨A j,sl⟩]) cells slots→j≤(t+1) / 2→Wr T.heap T1.heap (A j) sl v→RepO P C fnm fkd Z T1.heap A n0 t1 m1→t≤t1→(t1+1) / 2=(t+1) / 2→(q≠0→t1=t) →
     runP P n q pc' L S' t1 m1=some (r,t',m')→SR A ((t+1) / 2) S' St' →
     (∀ target,Steps p.tables e below (T1.setTop (mkF mi pc' Ls St')) target→Steps p.tables e below (T.setTop (mkF mi pc Ls St)) target) →
     EndP P C fnm fkd Z nA p l e R s mi args below meth c n0 q T A t locs cells slots (mkF mi pc Ls St) r t' m':=fun {T1 t1 m1 pc' S' St' j sl v} X1 hj W hR1 ht1 et hqt hrun hS1 st=>by
    refine EndP.trans (l1:=[⟨A j,sl⟩]) (IH q _ _ _ t1 m1 r t' m' hrun ps ml rk fr lc hq p e R s mi args below meth c T1 _ cells slots A Ls St' n0 X1 hx hZ hown hby hml hret hini hR1 (by rw [et]; exact hL) (by rw [et]; exact hS1) hsz (by rw [W.size]; exact hn0) hfr hlc hce hsl (fun q0=>by rw [et]; exact hroom q0)) (fun _ _=>rfl) ht1 (fun j h1 h2=>by omega) ?_ (by omega) (by rw [et]; exact Nat.le_refl _) (fun q0=>⟨hqt q0,rfl,rfl⟩) (Sam.wr W hj) st
    intro y hy
    cases List.mem_singleton.mp hy
    by_cases e0:j=0
    ·subst e0; exact hR.2.1
    ·exact (hR.2.2.2.1 j (by omega) hj).1
   cases hsp:isSpec i with
   | false =>
    simp only [stepI,hsp,cond_false] at h
    obtain ⟨pc',L',S',Ls',St',h1,h2,h3,h4,h5⟩:=pstep_sound (cst:=pcst P) (k:=fun pc' L' S'=>runP P n q pc' L' S' t m) X hx hown hcst hL hSt hd hchk h
    exact go X rfl h1 h2 h3 (h4.trans hsz) h5
   | true =>
   simp only [stepI,hsp,cond_true] at h
   clear hcd
   cases i
   case getfield x =>
    obtain rfl:len=3:=by simpa [chk,ilen] using hchk
    obtain ⟨S',rfl,hgf⟩:=getfield_some h
    clear h
    obtain ⟨hb0,St',rfl,hS'⟩:=SR.r1 hSt
    rcases hgf with ⟨f,j,fin,hf,hj,h⟩ | ⟨f,kd,j,fin,hf,hkd,h⟩ | ⟨f,j,fin,hf,h⟩
    ·obtain ⟨w,hk⟩:=tfld x _ _ _ _ hf
     obtain ⟨v,F,hv1,-⟩:=hR.2.2.1 f _ _ _ hk
     obtain ⟨T1,X1,e1,st⟩:=getF X hx hZ hown (host:="") (Or.inl w) Via.refl rfl F (g:=mkF mi pc Ls (.ref (A 0) :: St')) rfl rfl hd
     obtain rfl:=hv1 rfl hj
     exact go X1 e1 h hL (SR.cr (by omega) hS') hsz st
    ·obtain ⟨w,hk⟩:=tfld x _ _ _ _ hf
     obtain ⟨v,F,-,hv⟩:=hR.2.2.1 f _ _ _ hk
     obtain ⟨T1,X1,e1,st⟩:=getF X hx hZ hown (host:="") (Or.inl w) Via.refl rfl F (g:=mkF mi pc Ls (.ref (A 0) :: St')) rfl rfl hd
     obtain ⟨y,rfl,hy⟩:=(hv (by omega)).int (by omega)
     exact go X1 e1 h hL (SR.ci hy hS') hsz st
    ·obtain ⟨w,hk⟩:=tfld x _ _ _ _ hf
     obtain ⟨v,F,-,hv⟩:=hR.2.2.1 f _ _ _ hk
     obtain ⟨T1,X1,e1,st⟩:=getF X hx hZ hown (host:="") (Or.inl w) Via.refl rfl F (g:=mkF mi pc Ls (.ref (A 0) :: St')) rfl rfl hd
     obtain ⟨y,rfl,hy⟩:=(hv (by omega)).long rfl
     exact go X1 e1 h hL (SR.cj hy hS') hsz st
   case putfield x =>
    obtain rfl:len=3:=by simpa [chk,ilen] using hchk
    have lays:∀ {f:Int} {kd j:Nat} {fin:Bool},fkd f=some (kd,j,fin)→(fin=false∨q=0)→(Jvm.Cond.lays C C (fnm f).1 (fnm f).2).before a0 Z=true∨((Jvm.Cond.laysFinal C C (fnm f).1 (fnm f).2).before a0 Z=true∧C=C∧meth.name = "<init>"):=fun hk hfq=>by
     rcases (tfkd _ _ _ _ hk).1 with ⟨-,q1⟩ | ⟨q0,q1⟩
     ·exact Or.inl q1
     ·rcases hfq with hfq | hfq
      ·rw [hfq] at q0; cases q0
      ·exact Or.inr ⟨q1,rfl,hini hfq⟩
    rcases putfield_some h with ⟨f,j,fin,S',hf,rfl,ht,hq0,h⟩ | ⟨f,kd,j,fin,z,S',hf,hkd,rfl,hfq,h⟩ | ⟨f,j,fin,z,S',hf,rfl,hfq,h⟩
    ·obtain ⟨w,hk⟩:=tfld x _ _ _ _ hf
     obtain ⟨hbj,St1,rfl,hS1⟩:=SR.r1 hSt
     obtain ⟨hb0,St',rfl,hS'⟩:=SR.r1 hS1
     obtain ⟨v,F,-⟩:=hR.2.2.1 f _ _ _ hk
     obtain ⟨T1,h1,X1,e1,W,st⟩:=putFN X hx hZ hown w Via.refl rfl F hR.1 (lays hk (Or.inr hq0)) tins (tfkd _ _ _ _ hk).2.1 (v:=.ref (A j)) (v':=.ref (A j)) rfl rfl (g:=mkF mi pc Ls (.ref (A j) :: .ref (A 0) :: St')) rfl rfl hd
     subst e1
     exact gw X1 (by omega) W (hR.wrP HT hk ht W) (by omega) (by omega) (fun q0=>absurd hq0 q0) h hS' st
    ·obtain ⟨w,hk⟩:=tfld x _ _ _ _ hf
     obtain ⟨y,St1,rfl,hy,hS1⟩:=SR.i1 hSt
     obtain ⟨hb0,St',rfl,hS'⟩:=SR.r1 hS1
     obtain ⟨v,F,-⟩:=hR.2.2.1 f _ _ _ hk
     rcases hkd with rfl | rfl
     ·obtain ⟨T1,h1,X1,e1,W,st⟩:=putFN X hx hZ hown w Via.refl rfl F hR.1 (lays hk hfq) tins (tfkd _ _ _ _ hk).2.1 (v:=.int y) (v':=.int y) rfl rfl (g:=mkF mi pc Ls (.int y :: .ref (A 0) :: St')) rfl rfl hd
      subst e1
      exact gw X1 (by omega) W (hR.wrF HT hk (by omega) (Or.inr ⟨by omega,y,rfl,hy⟩) W) (Nat.le_refl _) rfl (fun _=>rfl) h hS' st
     ·obtain ⟨T1,h1,X1,e1,W,st⟩:=putFN X hx hZ hown w Via.refl rfl F hR.1 (lays hk hfq) tins (tfkd _ _ _ _ hk).2.1 (v:=.int y) (v':=.int (y &&& 1)) rfl (fits_nar_bool y) (g:=mkF mi pc Ls (.int y :: .ref (A 0) :: St')) rfl rfl hd
      subst e1
      exact gw X1 (by omega) W (hR.wrF HT hk (by omega) (Or.inr ⟨by omega,y &&& 1,rfl,by rw [and1_eq,hy]; rfl⟩) W) (Nat.le_refl _) rfl (fun _=>rfl) h hS' st
    ·obtain ⟨w,hk⟩:=tfld x _ _ _ _ hf
     obtain ⟨y,St1,rfl,hy,hS1⟩:=SR.l1 hSt
     obtain ⟨hb0,St',rfl,hS'⟩:=SR.r1 hS1
     obtain ⟨v,F,-⟩:=hR.2.2.1 f _ _ _ hk
     obtain ⟨T1,h1,X1,e1,W,st⟩:=putFN X hx hZ hown w Via.refl rfl F hR.1 (lays hk hfq) tins (tfkd _ _ _ _ hk).2.1 (v:=.long y) (v':=.long y) rfl rfl (g:=mkF mi pc Ls (.long y :: .ref (A 0) :: St')) rfl rfl hd
     subst e1
     exact gw X1 (by omega) W (hR.wrF HT hk (by omega) (Or.inl ⟨rfl,y,rfl,hy⟩) W) (Nat.le_refl _) rfl (fun _=>rfl) h hS' st
   case iaload =>
    obtain rfl:len=1:=by simpa [chk,ilen] using hchk
    obtain ⟨i,j,S',kd,nn,rfl,hl,hkd,hj,hi0,hi1,h⟩:=ald_some h
    cases Nat.eq_of_beq_eq_true hkd
    obtain ⟨y,St1,rfl,rfl,hS1⟩:=SR.i1 hSt
    obtain ⟨hbj,St',rfl,hS'⟩:=SR.r1 hS1
    obtain ⟨-,kd',n',hl',cl,hA,hsz',hel⟩:=hR.2.2.2.1 j (tlay j _ _ hl).1 (by omega)
    cases hl.symm.trans hl'
    obtain ⟨v,hv,hev⟩:=hel y.toNatClampNeg (by have:=clamp32 hi0; omega)
    obtain ⟨w,rfl,hw⟩:=hev.int (by omega)
    rw [clamp32 hi0] at hw
    exact go X rfl h hL (SR.ci hw hS') hsz (fun target hr=>X.iaload hx hA.1 (State.isArrayOf_alike hZ.alike hA.2.1) hA.2.2 (idx32 hi0 (by omega)) hv (g:=mkF mi pc Ls (.int y :: .ref (A j) :: St')) rfl rfl hd target hr)
   case laload =>
    obtain rfl:len=1:=by simpa [chk,ilen] using hchk
    obtain ⟨i,j,S',kd,nn,rfl,hl,hkd,hj,hi0,hi1,h⟩:=ald_some h
    cases Nat.eq_of_beq_eq_true hkd
    obtain ⟨y,St1,rfl,rfl,hS1⟩:=SR.i1 hSt
    obtain ⟨hbj,St',rfl,hS'⟩:=SR.r1 hS1
    obtain ⟨-,kd',n',hl',cl,hA,hsz',hel⟩:=hR.2.2.2.1 j (tlay j _ _ hl).1 (by omega)
    cases hl.symm.trans hl'
    obtain ⟨v,hv,hev⟩:=hel y.toNatClampNeg (by have:=clamp32 hi0; omega)
    obtain ⟨w,rfl,hw⟩:=hev.long rfl
    rw [clamp32 hi0] at hw
    exact go X rfl h hL (SR.cj hw hS') hsz (fun target hr=>X.laload hx hA.1 (State.isArrayOf_alike hZ.alike hA.2.1) hA.2.2 (idx32 hi0 (by omega)) hv (g:=mkF mi pc Ls (.int y :: .ref (A j) :: St')) rfl rfl hd target hr)
   case baload =>
    obtain rfl:len=1:=by simpa [chk,ilen] using hchk
    obtain ⟨i,j,S',kd,nn,rfl,hl,hkd,hj,hi0,hi1,h⟩:=ald_some h
    obtain ⟨y,St1,rfl,rfl,hS1⟩:=SR.i1 hSt
    obtain ⟨hbj,St',rfl,hS'⟩:=SR.r1 hS1
    obtain ⟨-,kd',n',hl',cl,hA,hsz',hel⟩:=hR.2.2.2.1 j (tlay j _ _ hl).1 (by omega)
    cases hl.symm.trans hl'
    have hkd:kd=2∨kd=3:=by
     rw [Bool.or_eq_true] at hkd
     exact hkd.imp Nat.eq_of_beq_eq_true Nat.eq_of_beq_eq_true
    obtain ⟨v,hv,hev⟩:=hel y.toNatClampNeg (by have:=clamp32 hi0; omega)
    obtain ⟨w,rfl,hw⟩:=hev.int (by omega)
    rw [clamp32 hi0] at hw
    rcases hkd with rfl | rfl
    ·exact go X rfl h hL (SR.ci hw hS') hsz (fun target hr=>X.baloadBooleans hx hA.1 (State.isArrayOf_alike hZ.alike hA.2.1) hA.2.2 (idx32 hi0 (by omega)) hv (g:=mkF mi pc Ls (.int y :: .ref (A j) :: St')) rfl rfl hd target hr)
    ·exact go X rfl h hL (SR.ci hw hS') hsz (fun target hr=>X.baloadBytes hx hA.1 (State.isArrayOf_alike hZ.alike hA.2.1) hA.2.2 (idx32 hi0 (by omega)) hv (g:=mkF mi pc Ls (.int y :: .ref (A j) :: St')) rfl rfl hd target hr)
   case iastore =>
    obtain rfl:len=1:=by simpa [chk,ilen] using hchk
    obtain ⟨z,i,j,S',kd,nn,rfl,hl,hkd,hj,hi0,hi1,h⟩:=asi_some h
    cases Nat.eq_of_beq_eq_true hkd
    obtain ⟨zz,y,St1,rfl,hzz,rfl,hS1⟩:=SR.i2 hSt
    obtain ⟨hbj,St',rfl,hS'⟩:=SR.r1 hS1
    have h1j:=(tlay j _ _ hl).1
    obtain ⟨-,kd',n',hl',cl,hA,hsz',hel⟩:=hR.2.2.2.1 j h1j (by omega)
    cases hl.symm.trans hl'
    obtain ⟨T1,h1,X1,e1,W,st⟩:=stI X hx hZ rfl hA (idx32 hi0 (by omega)) (x:=zz) (g:=mkF mi pc Ls (.int zz :: .int y :: .ref (A j) :: St')) rfl rfl hd
    subst e1
    have hR1:=hR.wrA h1j (by omega) hl (Or.inr ⟨by omega,zz,rfl,hzz⟩) W
    rw [clamp32 hi0] at hR1
    exact gw X1 (by omega) W hR1 (Nat.le_refl _) rfl (fun _=>rfl) h hS' st
   case lastore =>
    obtain rfl:len=1:=by simpa [chk,ilen] using hchk
    obtain ⟨z,i,j,S',kd,nn,rfl,hl,hkd,hj,hi0,hi1,h⟩:=asl_some h
    cases Nat.eq_of_beq_eq_true hkd
    obtain ⟨zz,St0,rfl,hzz,hS0⟩:=SR.l1 hSt
    obtain ⟨y,St1,rfl,rfl,hS1⟩:=SR.i1 hS0
    obtain ⟨hbj,St',rfl,hS'⟩:=SR.r1 hS1
    have h1j:=(tlay j _ _ hl).1
    obtain ⟨-,kd',n',hl',cl,hA,hsz',hel⟩:=hR.2.2.2.1 j h1j (by omega)
    cases hl.symm.trans hl'
    obtain ⟨T1,h1,X1,e1,W,st⟩:=stJ X hx hZ rfl hA (idx32 hi0 (by omega)) (x:=zz) (g:=mkF mi pc Ls (.long zz :: .int y :: .ref (A j) :: St')) rfl rfl hd
    subst e1
    have hR1:=hR.wrA h1j (by omega) hl (Or.inl ⟨rfl,zz,rfl,hzz⟩) W
    rw [clamp32 hi0] at hR1
    exact gw X1 (by omega) W hR1 (Nat.le_refl _) rfl (fun _=>rfl) h hS' st
   case bastore =>
    obtain rfl:len=1:=by simpa [chk,ilen] using hchk
    obtain ⟨z,i,j,S',kd,nn,rfl,hl,hkd,hj,hi0,hi1,h⟩:=asi_some h
    obtain ⟨zz,y,St1,rfl,hzz,rfl,hS1⟩:=SR.i2 hSt
    obtain ⟨hbj,St',rfl,hS'⟩:=SR.r1 hS1
    have h1j:=(tlay j _ _ hl).1
    obtain ⟨-,kd',n',hl',cl,hA,hsz',hel⟩:=hR.2.2.2.1 j h1j (by omega)
    cases hl.symm.trans hl'
    have hkd:kd=2∨kd=3:=by
     rw [Bool.or_eq_true] at hkd
     exact hkd.imp Nat.eq_of_beq_eq_true Nat.eq_of_beq_eq_true
    rcases hkd with rfl | rfl
    ·obtain ⟨T1,h1,X1,e1,W,st⟩:=stZ X hx hZ rfl hA (idx32 hi0 (by omega)) (x:=zz) (g:=mkF mi pc Ls (.int zz :: .int y :: .ref (A j) :: St')) rfl rfl hd
     subst e1
     have hR1:=hR.wrA (z:=z % 2) h1j (by omega) hl (Or.inr ⟨by omega,zz &&& 1,rfl,by rw [and1_eq,hzz]⟩) W
     rw [clamp32 hi0] at hR1
     exact gw X1 (by omega) W hR1 (Nat.le_refl _) rfl (fun _=>rfl) h hS' st
    ·obtain ⟨T1,h1,X1,e1,W,st⟩:=stB X hx hZ rfl hA (idx32 hi0 (by omega)) (x:=zz) (g:=mkF mi pc Ls (.int zz :: .int y :: .ref (A j) :: St')) rfl rfl hd
     subst e1
     have hR1:=hR.wrA (z:=b8 z) h1j (by omega) hl (Or.inr ⟨by omega,zz.toInt8.toInt32,rfl,by rw [b8_eq,hzz]⟩) W
     rw [clamp32 hi0] at hR1
     exact gw X1 (by omega) W hR1 (Nat.le_refl _) rfl (fun _=>rfl) h hS' st
   case arraylength =>
    obtain rfl:len=1:=by simpa [chk,ilen] using hchk
    obtain ⟨j,S',kd,nn,rfl,hl,hj,h⟩:=arraylength_some h
    obtain ⟨hbj,St',rfl,hS'⟩:=SR.r1 hSt
    obtain ⟨t1,t2,t3,t4,-⟩:=tlay j _ _ hl
    obtain ⟨-,kd',n',hl',cl,hA,hsz',hel⟩:=hR.2.2.2.1 j t1 (by omega)
    cases hl.symm.trans hl'
    exact go X rfl h hL (SR.ci (by rw [len_toInt (by omega)]; exact hsz') hS') hsz (fun target hr=>X.arraylength hx hA.1 (State.isArrayOf_alike hZ.alike hA.2.1) (g:=mkF mi pc Ls (.ref (A j) :: St')) rfl rfl hd target hr)
   case newarray a =>
    obtain rfl:len=2:=by simpa [chk,ilen] using hchk
    obtain ⟨S',kd,nn,rfl,hl,ht,hka,hq0,h⟩:=newarray_some h
    obtain ⟨y,St',rfl,hy,hS'⟩:=SR.i1 hSt
    obtain ⟨t1,t2,t3,t4,t5,t6⟩:=tlay _ _ _ hl
    obtain ⟨r1,r2⟩:=hroom hq0
    have hty:=kty_akind hka t5
    have e1:(t+1) / 2=t / 2:=by omega
    rw [e1] at r1 r2
    have e2:(t+1+1) / 2=t / 2+1:=by omega
    have hcl:(y.toNatClampNeg:Int)=nn:=by rw [clamp32 (by omega)]; exact hy
    have es:psum P (t / 2+1)=psum P (t / 2)+nn.toNat:=by simp only [psum,hl]
    have em:=psum_mono P t2
    obtain ⟨T1,h1,cA,X1,eh,E,hA,st⟩:=newP X hx hZ (aty:=a) (by rw [hty]; exact t6) rfl (g:=mkF mi pc Ls (.int y :: St')) rfl hd rfl (by rw [Int32.lt_iff_toInt_lt]; simp only [Int32.reduceToInt]; omega) (cap:=y.toNatClampNeg) (Nat.le_refl _) (by omega) (by omega) (by omega)
    subst eh
    rw [hty] at hA
    have hR1:=hR.new ht hn0 hl t5 E hy t3 hA
    have hAg:∀ j,j≤(t+1) / 2→updA A (t / 2+1) T.heap.size j=A j:=fun j hj=>updA_ne (by omega)
    refine EndP.trans (l1:=[]) (IH q _ _ _ (t+1) m r t' m' h ps ml rk fr lc hq p e R s mi args below meth c T1 _ (cells+1) (slots+y.toNatClampNeg) (updA A (t / 2+1) T.heap.size) Ls (.ref T.heap.size :: St') n0 (by rw [List.append_nil]; exact X1) hx hZ hown hby hml hret hini hR1 (hL.mono hAg (by omega)) ⟨⟨by omega,by rw [updA_eq]⟩,hS'.mono hAg (by omega)⟩ hsz (Nat.le_trans hn0 E.1) hfr hlc (by omega) (by omega) (fun _=>⟨by rw [e2]; omega,by rw [e2,es]; omega⟩)) hAg (by omega) (fun j h1 h2=>?_) (Fr.nil _) (by omega) (by rw [e2,es,e1]; omega) (fun q0=>absurd hq0 q0) (Sam.ext E _) st
    have:j=t / 2+1:=by omega
    subst this
    rw [updA_eq]; exact Nat.le_refl _
   case invokespecial x =>
    obtain rfl:len=3:=by simpa [chk,ilen] using hchk
    obtain ⟨S',ps',ml',rk',fr',lc',rfl,hq',hob,h1,h2,h⟩:=invokespecial_some h
    cases hq.symm.trans hq'
    obtain ⟨hb0,St',rfl,hS'⟩:=SR.r1 hSt
    obtain ⟨T1,X1,e1,st⟩:=initO X hx hZ hown (tobi x hob) tob1 tob2 rfl (g:=mkF mi pc Ls (.ref (A 0) :: St')) rfl (by rw [hml]; exact hsz) rfl hd (by omega) (W:=cats S') (by show 2*0+_≤_; rw [hS'.catsum]; omega) (by omega)
    exact go X1 e1 h hL hS' hsz st
   case invokevirtual x =>
    obtain rfl:len=3:=by simpa [chk,ilen] using hchk
    obtain ⟨q',ps',ml',rk',fr',lc',ps0,ml0,rk0,fr0,lc0,as,S',y,hm',hi',hq0,hpop,hf1,hl1,hq'0,hlen,hcall,hcont⟩:=invokevirtual_some h
    clear h
    cases hq.symm.trans hq0
    obtain ⟨y1,t1,m1⟩:=y
    obtain ⟨B,St1,hB,hS1,rfl,hBl⟩:=popA_rel hpop hSt
    obtain ⟨hb0,St',rfl,hS'⟩:=SR.r1 hS1
    have hargs:SR A ((t+1) / 2) (vr 0 :: as) (.ref (A 0) :: B):=⟨⟨by omega,rfl⟩,by simpa using hB A ((t+1) / 2) [] trivial⟩
    obtain ⟨icls,iinst,icode,ipv,params,ipd,ipl⟩:=tinf q' _ _ _ _ _ hi'
    have hM:=metP (l:=l) (cl:=0) (sl:=0) HT IH hi' hcall hlen hn0 hR hargs (fun q0=>absurd q0 hq'0)
    have hBk:=backOf (R:=R) (p:=p) (e:=e) (below:=below) (s:=s) (args:=args) (len:=3) (W:=cats S') (rm:={ frames:=fr',cells:=0,slots:=0,locals:=lc' }) (Q:=QP P C fnm fkd Z n0 q' t A T.heap y1 t1 m1) hM hZ icode (by rw [icls]; exact tini) (by show fr'+1≤R.frames; omega) (by show cats S'+(ml'+11)+lc'≤R.locals; omega)
    have hyn:(nm q').cls≠"java/lang/invoke/MethodHandle"∧(nm q').cls≠"java/lang/invoke/VarHandle":=by rw [icls]; exact thn
    have fin:∀ {T1:State} {L1:List Loc} {v:Option Value},Stand p l e R s mi args below meth c T1 (locs ++ L1) cells slots→QP P C fnm fkd Z n0 q' t A T.heap y1 t1 m1 v T1.heap L1 →
      (∀ target,Steps p.tables e below (T1.setTop (mkF mi (pc+3) Ls (v.toList ++ St'))) target→Steps p.tables e below (T.setTop (mkF mi pc Ls (B.reverse ++ .ref (A 0) :: St'))) target) →
      EndP P C fnm fkd Z nA p l e R s mi args below meth c n0 q T A t locs cells slots (mkF mi pc Ls (B.reverse ++ .ref (A 0) :: St')) r t' m':=fun {T1 L1 v} X1 hQ st=>by
     obtain ⟨A',g1,g2,g3,g4,g5,g6,g7,g8⟩:=hQ
     obtain rfl:=g8 hq'0
     exact EndP.trans (IH q _ _ _ t1 m1 r t' m' hcont ps ml rk fr lc hq p e R s mi args below meth c T1 _ cells slots A' Ls _ n0 X1 hx hZ hown hby hml hret hini g1 (hL.mono g2 (Nat.le_refl _)) (g7.push (hS'.mono g2 (Nat.le_refl _))) hsz (Nat.le_trans hn0 g6.1) hfr hlc hce hsl hroom) g2 (Nat.le_refl _) g4 g5 (Nat.le_refl _) (Nat.le_refl _) (fun _=>⟨rfl,rfl,rfl⟩) g6 st
    obtain ⟨cB,kB,i1,i2,i3⟩:=isOf hZ rfl hR.1
    have hlenA:∀ sig,parseMethodDescriptor (nm q').desc=some sig→B.length=sig.parameters.length:=lenOf ipd (by rw [hBl,ipl])
    rcases ipv hq'0 with hpv | ⟨hdc,hsel⟩
    ·obtain ⟨cc,hcc,hcv⟩:=hR.1.cell
     have hPr:s.PrivateAt (nm q'):=Jvm.Cond.privateMethod_at (mvP (args:=args) hZ hpv)
     obtain ⟨c2,k2,j1,j2,j3,j4,-⟩:=Jvm.Cond.instantiable_spec (mv (args:=args) hZ tins)
     have hsel:(Jvm.Cond.selects (nm q').cls (nm q') (nm q')).before args s=true:=Jvm.Stand.selects_self_of_private (by rw [icls]; exact j1) j2 (by simp only [Bool.or_eq_false_iff] at j4; exact j4.1) hPr (mv hZ iinst) hyn
     obtain ⟨v,vm1,⟨T1,L1,k1,n1⟩,-,X1,⟨Lc,hQ,l1,c1,s1⟩,st⟩:=X.privateBack hx hown (mv hZ (tmth x _ hm')) (mv hZ iinst) hsel hPr (mv hZ icode) hyn hBk (g:=mkF mi pc Ls (B.reverse ++ .ref (A 0) :: St')) rfl (by rw [hml]; exact hsz) (Steps.refl _) (a:=A 0) hcc hcv (argsL:=B) (rest:=St') hlenA rfl (by show 2*0+_≤_; rw [hS'.catsum]; omega) hd (fun _ _=>⟨rfl,rfl,hce,hsl⟩)
     dsimp only [Pt.U,Pt.locs,Pt.cells,Pt.slots] at X1 l1 c1 s1 st hQ
     subst l1 c1 s1
     exact fin X1 hQ (fun target hr=>st.trans hr)
    ·obtain ⟨v,vm1,⟨T1,L1,k1,n1⟩,-,X1,⟨Lc,hQ,l1,c1,s1⟩,st⟩:=X.virtualBack hx (C:=C) (y:=nm q') (z:=nm q') hown (mv hZ (tmth x _ hm')) (mv hZ hdc) (notFace_of_selects (args:=args) (mv hZ hsel)) (mv hZ hsel) (mv hZ iinst) hyn hBk i1 i3 (g:=mkF mi pc Ls (B.reverse ++ .ref (A 0) :: St')) rfl (by rw [hml]; exact hsz) (Steps.refl _) (argsL:=B) (rest:=St') hlenA rfl (by show 2*0+_≤_; rw [hS'.catsum]; omega) hd (fun _ _=>⟨rfl,rfl,hce,hsl⟩)
     dsimp only [Pt.U,Pt.locs,Pt.cells,Pt.slots] at X1 l1 c1 s1 st hQ
     subst l1 c1 s1
     exact fin X1 hQ (fun target hr=>st.trans hr)
   case ireturn =>
    obtain rfl:len=1:=by simpa [chk,ilen] using hchk
    obtain ⟨z,S',ps',ml',rk',fr',lc',rfl,hq',hcase⟩:=ireturn_some h
    cases hq.symm.trans hq'
    obtain ⟨y,St',rfl,hy,hS'⟩:=SR.i1 hSt
    rcases hcase with ⟨rfl,hr⟩ | ⟨rfl,hr⟩
    ·cases hr
     exact ⟨some (.int y),T,A,[],cells,slots,by rw [List.append_nil]; exact X,hR,fun _ _=>rfl,Nat.le_refl _,fun j h1 h2=>by omega,Fr.nil _,Nat.le_refl _,Nat.le_refl _,fun _=>⟨rfl,rfl,rfl⟩,Sam.refl _ _ _,⟨y,rfl,hy⟩,(fun q=>by rw [hret] at q; cases q),fun fs hfs=>retI' X hx hret hd hfs⟩
    ·cases hr
     exact ⟨some (.int (y &&& 1)),T,A,[],cells,slots,by rw [List.append_nil]; exact X,hR,fun _ _=>rfl,Nat.le_refl _,fun j h1 h2=>by omega,Fr.nil _,Nat.le_refl _,Nat.le_refl _,fun _=>⟨rfl,rfl,rfl⟩,Sam.refl _ _ _,⟨_,rfl,by rw [and1_eq,hy]⟩,(fun q=>by rw [hret] at q; cases q),fun fs hfs=>retN X hx (t:=.boolean) hret (by simp) hd hfs⟩
   case lreturn =>
    obtain rfl:len=1:=by simpa [chk,ilen] using hchk
    obtain ⟨z,S',ps',ml',fr',lc',rfl,hq',hr⟩:=lreturn_some h
    cases hq.symm.trans hq'
    cases hr
    obtain ⟨y,St',rfl,hy,hS'⟩:=SR.l1 hSt
    exact ⟨some (.long y),T,A,[],cells,slots,by rw [List.append_nil]; exact X,hR,fun _ _=>rfl,Nat.le_refl _,fun j h1 h2=>by omega,Fr.nil _,Nat.le_refl _,Nat.le_refl _,fun _=>⟨rfl,rfl,rfl⟩,Sam.refl _ _ _,⟨y,rfl,hy⟩,(fun q=>by rw [hret] at q; cases q),fun fs hfs=>retOut X hx hret rfl (Or.inr (Or.inl ⟨rfl,rfl,y,rfl⟩)) hd hfs⟩
   case return_ =>
    obtain rfl:len=1:=by simpa [chk,ilen] using hchk
    obtain ⟨ps',ml',fr',lc',rfl,hq',hr⟩:=return_some h
    cases hq.symm.trans hq'
    cases hr
    cases St with
    | cons _ _=>exact hSt.elim
    | nil=>exact ⟨none,T,A,[],cells,slots,by rw [List.append_nil]; exact X,hR,fun _ _=>rfl,Nat.le_refl _,fun j h1 h2=>by omega,Fr.nil _,Nat.le_refl _,Nat.le_refl _,fun _=>⟨rfl,rfl,rfl⟩,Sam.refl _ _ _,rfl,fun _=>rfl,fun fs hfs=>X.returnOut hx hret hd hfs⟩
   all_goals cases hsp
end Jvm.OwnMini
namespace Jvm.OwnMini
open Jvm Jvm.ClassFile Sem Op Lib Jvm.Free Jvm.Stand Jvm.LawKit Jvm.RoadKit
abbrev OWd:=List (Nat×OMem)
abbrev RTL:=Option (Option OV×OWd)
abbrev LT:=CodeT×(Nat→Option OV)×(Nat→Option Nat)×(Nat→Bool)×(Nat→Option Nat)×(Nat→Bool)×(Nat→Option (List Nat×Nat×Nat×Nat×Nat))×LivT
abbrev lcode (Q:LT):CodeT:=Q.1
abbrev lcst (Q:LT):Nat→Option OV:=Q.2.1
abbrev lvm (Q:LT):Nat→Option Nat:=Q.2.2.1
abbrev lmk (Q:LT):Nat→Bool:=Q.2.2.2.1
abbrev lsm (Q:LT):Nat→Option Nat:=Q.2.2.2.2.1
abbrev lcl (Q:LT):Nat→Bool:=Q.2.2.2.2.2.1
abbrev linf (Q:LT):Nat→Option (List Nat×Nat×Nat×Nat×Nat):=Q.2.2.2.2.2.2.1
abbrev lliv (Q:LT):LivT:=Q.2.2.2.2.2.2.2
abbrev ScT:=Bool×Int×(Int→Int)
def wget:OWd→Nat→Option (Nat×OMem)
 | [],_=>none
 | o :: _,0=>some o
 | _ :: W,n+1=>wget W n
def wput:OWd→Nat→Nat×OMem→OWd
 | [],_,_=>[]
 | _ :: W,0,x=>x :: W
 | o :: W,n+1,x=>o :: wput W n x
def z0:OMem:=fun _ _=>0
def popB:List Nat→List OV→List OV→Option (List OV×List OV)
 | [],S,acc=>some (acc,S)
 | 0 :: ts,.inl z :: S,acc=>popB ts S (vi z :: acc)
 | 1 :: ts,.inr (.inl z) :: S,acc=>popB ts S (vl z :: acc)
 | 2 :: ts,.inr (.inr z) :: S,acc=>popB ts S (vr z :: acc)
 | _,_,_=>none
def isSpecL:Instr→Bool
 | .new _ | .arraylength | .iaload | .invokespecial _ | .invokevirtual _ | .invokestatic _ | .ireturn | .lreturn | .return_=>true
 | _=>false
def stepLS (P:PT) (Q:LT) (T mo:Nat) (sc:ScT) (kP:Nat→Nat→OLs→List OV→Nat→OMem→RT) (k:Nat→Nat→OLs→List OV→OWd→RTL) (q pc:Nat) (L:OLs) (S:List OV) (W:OWd) (i:Instr) (len:Nat):RTL :=
 match i with
 | .new x=>cond (lcl Q x && Nat.beq q 0 && Nat.blt W.length mo) (k q (pc+len) L (vr (W.length+1) :: S) (W ++ [(0,z0)])) none
 | .arraylength =>
  match S with
  | .inr (.inr 0) :: S'=>cond sc.1 (k q (pc+len) L (vi sc.2.1 :: S') W) none
  | _=>none
 | .iaload =>
  match S with
  | .inl i :: .inr (.inr 0) :: S'=>cond sc.1 (if 0≤i∧i<sc.2.1 then k q (pc+len) L (vi (sc.2.2 i) :: S') W else none) none
  | _=>none
 | .invokespecial x =>
  match pinf P 0,linf Q q with
  | some (ps,ml,_,fr',lc'),some (_,_,_,fr,lc) =>
   match popA ps S [] with
   | some (as,.inr (.inr (o+1)) :: S') =>
    match wget W o with
    | some (0,m) =>
     cond (lmk Q x && Nat.beq q 0 && Nat.ble (fr'+1) fr && Nat.ble (cats S'+(ml+11)+lc') lc && Nat.ble (initL (vr 0 :: as) ml).length ml)
      ((kP 0 0 (initL (vr 0 :: as) ml) [] 0 m).bind fun y=>cond (Nat.beq y.2.1 T) (k q (pc+len) L (pushR y.1 S') (wput W o y.2)) none) none
    | _=>none
   | _=>none
  | _,_=>none
 | .invokevirtual x =>
  match lvm Q x with
  | some q' =>
   match pinf P q',linf Q q with
   | some (ps,ml,_,fr',lc'),some (_,_,_,fr,lc) =>
    match popA ps S [] with
    | some (as,.inr (.inr (o+1)) :: S') =>
     match wget W o with
     | some (t,m) =>
      cond (Nat.ble (fr'+1) fr && Nat.ble (cats S'+(ml+11)+lc') lc && !(Nat.beq q' 0) && Nat.ble (initL (vr 0 :: as) ml).length ml)
       ((kP q' 0 (initL (vr 0 :: as) ml) [] t m).bind fun y=>k q (pc+len) L (pushR y.1 S') (wput W o y.2)) none
     | none=>none
    | _=>none
   | _,_=>none
  | none=>none
 | .invokestatic x =>
  match lsm Q x with
  | some q' =>
   match linf Q q',linf Q q with
   | some (ps,ml,_,fr',lc'),some (_,_,_,fr,lc) =>
    match popB ps S [] with
    | some (as,S') =>
     cond (Nat.ble (fr'+1) fr && Nat.ble (cats S'+(ml+11)+lc') lc && !(Nat.beq q' 0) && Nat.ble (initL as ml).length ml)
      ((k q' 0 (initL as ml) [] W).bind fun y=>k q (pc+len) L (pushR y.1 S') y.2) none
    | none=>none
   | _,_=>none
  | none=>none
 | .ireturn =>
  match S with
  | .inl z :: _ =>
   match linf Q q with
   | some (_,_,1,_)=>some (some (vi z),W)
   | some (_,_,2,_)=>some (some (vi (z % 2)),W)
   | _=>none
  | _=>none
 | .lreturn =>
  match S with
  | .inr (.inl z) :: _ =>
   match linf Q q with
   | some (_,_,4,_)=>some (some (vl z),W)
   | _=>none
  | _=>none
 | .return_ =>
  match S with
  | [] =>
   match linf Q q with
   | some (_,_,0,_)=>some (none,W)
   | _=>none
  | _=>none
 | _=>none
def stepLI (P:PT) (Q:LT) (T mo:Nat) (sc:ScT) (kP:Nat→Nat→OLs→List OV→Nat→OMem→RT) (k:Nat→Nat→OLs→List OV→OWd→RTL) (q pc:Nat) (L:OLs) (S:List OV) (W:OWd) (i:Instr) (len:Nat):RTL :=
 cond (isSpecL i) (stepLS P Q T mo sc kP k q pc L S W i len) (pstep (lcst Q) i pc len L S fun pc' L' S'=>k q pc' L' S' W)
def stepL (P:PT) (Q:LT) (T mo:Nat) (sc:ScT) (kP:Nat→Nat→OLs→List OV→Nat→OMem→RT) (k:Nat→Nat→OLs→List OV→OWd→RTL) (q pc:Nat) (L:OLs) (S:List OV) (W:OWd):RTL :=
 match lcode Q q pc with
 | some (i,len)=>stepLI P Q T mo sc kP k q pc (mask (lliv Q q pc) L) S W i len
 | none=>none
def runL (P:PT) (Q:LT) (T mo:Nat) (sc:ScT):Nat→Nat→Nat→OLs→List OV→OWd→RTL
 | 0=>fun _ _ _ _ _=>none
 | n+1=>stepL P Q T mo sc (runP P n) (runL P Q T mo sc n)
end Jvm.OwnMini
namespace Jvm.OwnMini
open Jvm Jvm.ClassFile Sem Op Lib Jvm.Free Jvm.Stand Jvm.LawKit Jvm.RoadKit
def ScR (Z:State) (h:Heap) (n0:Nat) (a:Addr) (sc:ScT):Prop:=sc.1=true→a<n0∧∃ c:Cell,Arr Z h a c .int∧(c.slots.size:Int)=sc.2.1∧sc.2.1<2147483648∧∀ i:Nat,i<c.slots.size→∃ x:Int32,c.slots[i]?=some (.int x)∧x.toInt=sc.2.2 i
def RepW (P:PT) (C:String) (fnm:FN) (fkd:FK) (Z:State) (sc:ScT) (h:Heap) (A:Nat→Addr) (AO:Nat→Nat→Addr) (n0:Nat) (W:OWd):Prop :=
 (∀ k t m,wget W k=some (t,m)→RepO P C fnm fkd Z h (AO k) n0 t m∧AO k 0=A (k+1)) ∧
 (∀ k k' t m t' m' j j',wget W k=some (t,m)→wget W k'=some (t',m')→k≠k'→j≤(t+1) / 2→j'≤(t'+1) / 2→AO k j≠AO k' j')∧ScR Z h n0 (A 0) sc
def cW (a b:Nat):OWd→Nat
 | []=>0
 | (0,_) :: W=>a+cW a b W
 | (_+1,_) :: W=>(a+b)+cW a b W
def ts (W:OWd):List Nat:=W.map fun o=>o.1
theorem cW_ts {a b:Nat}:∀ {W W':OWd},ts W=ts W'→cW a b W=cW a b W'
 | [],[],_=>rfl
 | [],_ :: _,h=>by simp [ts] at h
 | _ :: _,[],h=>by simp [ts] at h
 | (t,m) :: W,(t',m') :: W',h=>by
  simp only [ts,List.map_cons,List.cons.injEq] at h
  obtain ⟨rfl,h⟩:=h
  have:=cW_ts (a:=a) (b:=b) (W:=W) (W':=W') h
  cases t <;> simp only [cW,this]
theorem ts_len {W W':OWd} (h:ts W=ts W'):W.length=W'.length:=by
 have:=congrArg List.length h
 simpa [ts] using this
theorem cW_le (a b:Nat):∀ W:OWd,cW a b W≤W.length*(a+b)
 | []=>by simp [cW]
 | (0,_) :: W=>by
  have:=cW_le a b W
  simp only [cW,List.length_cons,Nat.add_mul]; omega
 | (_+1,_) :: W=>by
  have:=cW_le a b W
  simp only [cW,List.length_cons,Nat.add_mul]; omega
theorem cW_append (a b:Nat) (m:OMem):∀ W:OWd,cW a b (W ++ [(0,m)])=cW a b W+a
 | []=>by simp [cW]
 | (0,_) :: W=>by simp only [List.cons_append,cW,cW_append a b m W]; omega
 | (_+1,_) :: W=>by simp only [List.cons_append,cW,cW_append a b m W]; omega
theorem wget_lt:∀ {W:OWd} {k:Nat} {o:Nat×OMem},wget W k=some o→k<W.length
 | [],_,_,h=>by cases h
 | _ :: _,0,_,_=>by simp
 | _ :: W,k+1,_,h=>by
  have:=wget_lt (W:=W) (k:=k) h
  simp only [List.length_cons]; omega
theorem wput_len:∀ (W:OWd) (k:Nat) (x:Nat×OMem),(wput W k x).length=W.length
 | [],_,_=>rfl
 | _ :: _,0,_=>rfl
 | _ :: W,k+1,x=>by simp [wput,wput_len W k x]
theorem wget_wput:∀ {W:OWd} {k j:Nat} {x:Nat×OMem},k<W.length→wget (wput W k x) j=if j=k then some x else wget W j
 | [],k,j,x,h=>by simp at h
 | o :: W,0,0,x,h=>by simp [wput,wget]
 | o :: W,0,j+1,x,h=>by simp [wput,wget]
 | o :: W,k+1,0,x,h=>by simp [wput,wget]
 | o :: W,k+1,j+1,x,h=>by
  have:=wget_wput (W:=W) (k:=k) (j:=j) (x:=x) (by simpa using h)
  simp only [wput,wget,this,Nat.add_right_cancel_iff]
theorem ts_wput:∀ {W:OWd} {k t:Nat} {m m':OMem},wget W k=some (t,m)→ts (wput W k (t,m'))=ts W
 | [],_,_,_,_,h=>by cases h
 | (t,m) :: W,0,_,_,_,h=>by cases h; rfl
 | o :: W,k+1,t,m,m',h=>by
  have:=ts_wput (W:=W) (k:=k) (t:=t) (m:=m) (m':=m') h
  simp only [ts,wput,List.map_cons,List.cons.injEq,true_and]
  exact this
theorem cW_made {a b:Nat}:∀ {W:OWd} {k t:Nat} {m m':OMem},wget W k=some (0,m)→cW a b (wput W k (t+1,m'))=cW a b W+b
 | [],_,_,_,_,h=>by cases h
 | (t0,m) :: W,0,_,_,_,h=>by cases h; simp only [wput,cW]; omega
 | (0,m0) :: W,k+1,t,m,m',h=>by
  have:=cW_made (a:=a) (b:=b) (W:=W) (k:=k) (t:=t) (m:=m) (m':=m') h
  simp only [wput,cW,this]; omega
 | (_+1,m0) :: W,k+1,t,m,m',h=>by
  have:=cW_made (a:=a) (b:=b) (W:=W) (k:=k) (t:=t) (m:=m) (m':=m') h
  simp only [wput,cW,this]; omega
theorem cW_raw {a b:Nat}:∀ {W:OWd} {k:Nat} {m:OMem},wget W k=some (0,m)→cW a b W+b≤W.length*(a+b)
 | [],_,_,h=>by cases h
 | (t0,m) :: W,0,_,h=>by
  cases h
  have:=cW_le a b W
  simp only [cW,List.length_cons,Nat.add_mul]; omega
 | (0,m0) :: W,k+1,m,h=>by
  have:=cW_raw (a:=a) (b:=b) (W:=W) (k:=k) (m:=m) h
  simp only [cW,List.length_cons,Nat.add_mul] at *; omega
 | (_+1,m0) :: W,k+1,m,h=>by
  have:=cW_raw (a:=a) (b:=b) (W:=W) (k:=k) (m:=m) h
  simp only [cW,List.length_cons,Nat.add_mul] at *; omega
theorem wget_append:∀ {W:OWd} {k:Nat} {x o:Nat×OMem},wget (W ++ [x]) k=some o→(wget W k=some o∧k<W.length)∨(k=W.length∧o=x)
 | [],0,x,o,h=>by cases h; exact Or.inr ⟨rfl,rfl⟩
 | [],k+1,x,o,h=>by cases h
 | w :: W,0,x,o,h=>Or.inl ⟨h,by simp⟩
 | w :: W,k+1,x,o,h=>by
  rcases wget_append (W:=W) (k:=k) h with ⟨h1,h2⟩ | ⟨h1,h2⟩
  ·exact Or.inl ⟨h1,by simpa using h2⟩
  ·exact Or.inr ⟨by simpa using h1,h2⟩
section W
variable {P:PT} {C:String} {fnm:FN} {fkd:FK} {Z:State} {sc:ScT} {h h':Heap} {A:Nat→Addr} {AO:Nat→Nat→Addr} {n0:Nat} {W:OWd}
theorem RepW.same (hR:RepW P C fnm fkd Z sc h A AO n0 W) (e:h'=h):RepW P C fnm fkd Z sc h' A AO n0 W:=by rw [e]; exact hR
theorem RepW.ran (hR:RepW P C fnm fkd Z sc h A AO n0 W) {o t t':Nat} {m m':OMem} (ho:wget W o=some (t,m)) {A':Nat→Addr} (hR':RepO P C fnm fkd Z h' A' n0 t' m') (hA:∀ j,j≤(t+1) / 2→A' j=AO o j) (hn:∀ j,(t+1) / 2<j→j≤(t'+1) / 2→h.size≤A' j)
  (hS:Sam h h' (AO o) ((t+1) / 2)):RepW P C fnm fkd Z sc h' A (fun k=>if k=o then A' else AO k) n0 (wput W o (t',m')):=by
 have hlt:=wget_lt ho
 obtain ⟨r1,r2,r3⟩:=hR
 have other:∀ {k tk mk},wget W k=some (tk,mk)→k≠o→∀ j j',j≤(tk+1) / 2→j'≤(t'+1) / 2→AO k j≠A' j':=fun {k tk mk} hk hne j j' hj hj'=>by
  by_cases hb:j'≤(t+1) / 2
  ·rw [hA j' hb]; exact r2 k o _ _ _ _ j j' hk ho hne hj hb
  ·have h1:=hn j' (by omega) hj'
   have h2:=(r1 k _ _ hk).1.lt hj
   exact Nat.ne_of_lt (Nat.lt_of_lt_of_le h2 h1)
 refine ⟨fun k tk mk hk=>?_,fun k k' tk mk tk' mk' j j' hk hk' hne hj hj'=>?_,fun hs=>?_⟩
 ·rw [wget_wput hlt] at hk
  by_cases e:k=o
  ·subst e
   rw [if_pos rfl] at hk
   cases hk
   simp only [if_true]
   exact ⟨hR',by rw [hA 0 (by omega)]; exact (r1 _ _ _ ho).2⟩
  ·rw [if_neg e] at hk
   simp only [if_neg e]
   obtain ⟨q1,q2⟩:=r1 k _ _ hk
   refine ⟨q1.keep fun a c hc ⟨j,hj,ea⟩=>hS.2 a c hc fun j' hj'=>?_,q2⟩
   rw [ea]
   exact r2 k o _ _ _ _ j j' hk ho e hj hj'
 ·rw [wget_wput hlt] at hk hk'
  by_cases e:k=o
  ·by_cases e':k'=o
   ·exact absurd (e.trans e'.symm) hne
   ·subst e
    rw [if_pos rfl] at hk
    cases hk
    rw [if_neg e'] at hk'
    simp only [if_true,if_neg e']
    exact Ne.symm (other hk' e' j' j hj' hj)
  ·rw [if_neg e] at hk
   by_cases e':k'=o
   ·subst e'
    rw [if_pos rfl] at hk'
    cases hk'
    simp only [if_true,if_neg e]
    exact other hk e j j' hj hj'
   ·rw [if_neg e'] at hk'
    simp only [if_neg e,if_neg e']
    exact r2 k k' _ _ _ _ j j' hk hk' hne hj hj'
 ·obtain ⟨g1,c,g2,g3⟩:=r3 hs
  refine ⟨g1,c,⟨hS.2 _ _ g2.1 fun j hj ea=>?_,g2.2⟩,g3⟩
  have:n0≤AO o j:=by
   by_cases e0:j=0
   ·subst e0; exact (r1 _ _ _ ho).1.2.1
   ·exact ((r1 _ _ _ ho).1.2.2.2.1 j (by omega) hj).1
  exact absurd (ea ▸ g1) (Nat.not_lt.mpr this)
theorem RepW.lt (hR:RepW P C fnm fkd Z sc h A AO n0 W) {k:Nat} (hk:1≤k) (hk':k≤W.length):∃ t m,wget W (k - 1)=some (t,m):=by
 clear hR
 induction W generalizing k with
 | nil=>simp at hk'; omega
 | cons o W ih =>
  obtain ⟨t,m⟩:=o
  by_cases e:k=1
  ·subst e; exact ⟨t,m,rfl⟩
  ·obtain ⟨t',m',q⟩:=ih (k:=k - 1) (by omega) (by simp at hk'; omega)
   refine ⟨t',m',?_⟩
   have:k - 1=(k - 1 - 1)+1:=by omega
   rw [this]; exact q
theorem RepW.made {nm:Nat→MethodName} {bys:Nat→ByteArray} {nA nf:Nat} {a0:Array Value} (HT:TabP P C fnm fkd nm bys nA nf a0 Z) (hR:RepW P C fnm fkd Z sc h A AO n0 W) (hn0:n0≤h.size) (E:Ext h h') (X:Exa Z h' h.size C)
  (D:∀ {O nm d:String} {ty:FieldType},Laid Z a0 C O nm d→parseFieldDescriptor d=some ty→Fld Z h' h.size O nm d (defaultValue ty)) :
  RepW P C fnm fkd Z sc h' (updA A (W.length+1) h.size) (fun k=>if k=W.length then (fun _=>h.size) else AO k) n0 (W ++ [(0,z0)]):=by
 have old:∀ {k t m},wget W k=some (t,m)→∀ j,j≤(t+1) / 2→AO k j<h.size:=fun {k t m} hk j hj=>(hR.1 k _ _ hk).1.lt hj
 obtain ⟨r1,r2,r3⟩:=hR
 have HT':=HT
 obtain ⟨-,-,tfkd,-⟩:=HT'
 refine ⟨fun k t m hk=>?_,fun k k' t m t' m' j j' hk hk' hne hj hj'=>?_,fun hs=>?_⟩
 ·rcases wget_append hk with ⟨h1,h2⟩ | ⟨h1,h2⟩
  ·have e:k≠W.length:=by omega
   simp only [if_neg e]
   rw [updA_ne (by omega)]
   exact ⟨(r1 k _ _ h1).1.ext E,(r1 k _ _ h1).2⟩
  ·subst h1
   cases h2
   simp only [if_true]
   refine ⟨⟨X,hn0,fun f kd j fin hf=>?_,fun j h1 h2=>by omega,fun j j' h1 h2 _=>by omega,fun j _ i=>rfl⟩,by rw [updA_eq]⟩
   obtain ⟨t1,t2,t3,t4⟩:=tfkd f _ _ _ hf
   have F:=D (HT.laid hf) t2
   refine ⟨_,F,fun e1 e2=>?_,fun e1=>?_⟩
   ·have:=t3 e1; omega
   ·have:kd=1∨kd=2∨kd=3∨kd=4:=by omega
    rcases this with rfl | rfl | rfl | rfl
    ·exact Or.inr ⟨by decide,0,rfl,rfl⟩
    ·exact Or.inr ⟨by decide,0,rfl,rfl⟩
    ·exact Or.inr ⟨by decide,0,rfl,rfl⟩
    ·exact Or.inl ⟨rfl,0,rfl,rfl⟩
 ·rcases wget_append hk with ⟨h1,h2⟩ | ⟨h1,h2⟩
  ·rcases wget_append hk' with ⟨h3,h4⟩ | ⟨h3,h4⟩
   ·have e:k≠W.length:=by omega
    have e':k'≠W.length:=by omega
    simp only [if_neg e,if_neg e']
    exact r2 k k' _ _ _ _ j j' h1 h3 hne hj hj'
   ·have e:k≠W.length:=by omega
    subst h3
    simp only [if_neg e,if_true]
    exact Nat.ne_of_lt (old h1 j hj)
  ·rcases wget_append hk' with ⟨h3,h4⟩ | ⟨h3,h4⟩
   ·have e':k'≠W.length:=by omega
    subst h1
    simp only [if_neg e',if_true]
    exact Nat.ne_of_gt (old h3 j' hj')
   ·omega
 ·rw [updA_ne (by omega)]
  obtain ⟨g1,c,g2,g3⟩:=r3 hs
  exact ⟨g1,c,g2.ext E,g3⟩
end W
theorem popB_rel {A:Nat→Addr} {b:Nat}:∀ {ks:List Nat} {S:List OV} {acc as:List OV} {S':List OV} {St:List Value} {X:List Value},popB ks S acc=some (as,S')→SR A b S St→SR A b acc X →
  ∃ B St',SR A b as (B ++ X)∧SR A b S' St'∧St=B.reverse ++ St'∧B.length=ks.length
 | [],S,acc,as,S',St,X,h,hS,hX=>by
  cases h
  exact ⟨[],St,hX,hS,rfl,rfl⟩
 | 0 :: ts,.inl z :: S,acc,as,S',St,X,h,hS,hX=>by
  obtain ⟨y,St1,rfl,hy,hS1⟩:=SR.i1 hS
  obtain ⟨B,St',q1,q2,q3,q4⟩:=popB_rel (ks:=ts) (X:=.int y :: X) h hS1 ⟨⟨y,rfl,hy⟩,hX⟩
  exact ⟨B ++ [.int y],St',by simpa using q1,q2,by simp [q3],by simp [q4]⟩
 | 1 :: ts,.inr (.inl z) :: S,acc,as,S',St,X,h,hS,hX=>by
  obtain ⟨y,St1,rfl,hy,hS1⟩:=SR.l1 hS
  obtain ⟨B,St',q1,q2,q3,q4⟩:=popB_rel (ks:=ts) (X:=.long y :: X) h hS1 ⟨⟨y,rfl,hy⟩,hX⟩
  exact ⟨B ++ [.long y],St',by simpa using q1,q2,by simp [q3],by simp [q4]⟩
 | 2 :: ts,.inr (.inr z) :: S,acc,as,S',St,X,h,hS,hX=>by
  obtain ⟨hb,St1,rfl,hS1⟩:=SR.r1 hS
  obtain ⟨B,St',q1,q2,q3,q4⟩:=popB_rel (ks:=ts) (X:=.ref (A z) :: X) h hS1 ⟨⟨hb,rfl⟩,hX⟩
  exact ⟨B ++ [.ref (A z)],St',by simpa using q1,q2,by simp [q3],by simp [q4]⟩
def TabL (P:PT) (Q:LT) (C own:String) (nm lnm:Nat→MethodName) (lbys:Nat→ByteArray) (a0:Array Value) (Z:State):Prop :=
 (∀ q pc i len,lcode Q q pc=some (i,len)→decode (lbys q) pc=.ok (i,len)∧chk pc i len=true) ∧
 ((∀ x z,lcst Q x=some (.inl z)→∃ v:Int32,(Jvm.Cond.constant own x v).before a0 Z=true∧v.toInt=z)∧(∀ x z,lcst Q x=some (.inr (.inl z))→∃ v:Int64,(Jvm.Cond.constantLong own x v).before a0 Z=true∧v.toInt=z)) ∧
 (∀ x q,lvm Q x=some q→(Jvm.Cond.methodLink own x (nm q)).before a0 Z=true∧(Jvm.Cond.declares (nm q)).before a0 Z=true∧(Jvm.Cond.selects C (nm q) (nm q)).before a0 Z=true) ∧
 (∀ x,lmk Q x=true→(Jvm.Cond.methodLink own x (nm 0)).before a0 Z=true) ∧
 (∀ x q,lsm Q x=some q→(Jvm.Cond.methodLink own x (lnm q)).before a0 Z=true) ∧
 (∀ x,lcl Q x=true→(Jvm.Cond.classLink own x C).before a0 Z=true) ∧
 (∀ q ps ml rk fr lc,linf Q q=some (ps,ml,rk,fr,lc)→q≠0→(lnm q).cls=own∧(Jvm.Cond.static (lnm q)).before a0 Z=true∧(Jvm.Cond.initialized own).before a0 Z=true∧(Jvm.Cond.code (lnm q) (lbys q) ml (rty rk)).before a0 Z=true∧∃ params,parseMethodDescriptor (lnm q).desc=some ⟨params,rty rk⟩∧params.length=ps.length) ∧
 plainName own=true∧(own≠"java/lang/invoke/MethodHandle"∧own≠"java/lang/invoke/VarHandle")
end Jvm.OwnMini
namespace Jvm.OwnMini
open Jvm Jvm.ClassFile Sem Op Lib Jvm.Free Jvm.Stand Jvm.LawKit Jvm.RoadKit
section InvL
variable {P:PT} {Q:LT} {TT mo:Nat} {sc:ScT} {kP:Nat→Nat→OLs→List OV→Nat→OMem→RT} {k:Nat→Nat→OLs→List OV→OWd→RTL} {q pc len:Nat} {L:OLs} {S:List OV} {W:OWd} {r:Option OV×OWd}
theorem new_someL {x:Nat} (h:stepLS P Q TT mo sc kP k q pc L S W (.new x) len=some r):lcl Q x=true∧q=0∧W.length<mo∧k q (pc+len) L (vr (W.length+1) :: S) (W ++ [(0,z0)])=some r:=by
 simp only [stepLS] at h
 obtain ⟨hb,h⟩:=cond_some h
 simp only [Bool.and_eq_true] at hb
 exact ⟨hb.1.1,Nat.eq_of_beq_eq_true hb.1.2,by simpa [Nat.blt_eq] using hb.2,h⟩
theorem length_someL (h:stepLS P Q TT mo sc kP k q pc L S W .arraylength len=some r):∃ S',S=.inr (.inr 0) :: S'∧sc.1=true∧k q (pc+len) L (vi sc.2.1 :: S') W=some r:=by
 simp only [stepLS] at h
 split at h
 ·obtain ⟨hb,h⟩:=cond_some h
  exact ⟨_,rfl,hb,h⟩
 ·cases h
theorem iaload_someL (h:stepLS P Q TT mo sc kP k q pc L S W .iaload len=some r):∃ i S',S=.inl i :: .inr (.inr 0) :: S'∧sc.1=true∧0≤i∧i<sc.2.1∧k q (pc+len) L (vi (sc.2.2 i) :: S') W=some r:=by
 simp only [stepLS] at h
 split at h
 ·obtain ⟨hb,h⟩:=cond_some h
  split at h
  ·rename_i hc
   exact ⟨_,_,rfl,hb,hc.1,hc.2,h⟩
  ·cases h
 ·cases h
theorem special_someL {x:Nat} (h:stepLS P Q TT mo sc kP k q pc L S W (.invokespecial x) len=some r):∃ ps ml rk fr' lc' ps0 ml0 rk0 fr lc as o S' m y,pinf P 0=some (ps,ml,rk,fr',lc')∧linf Q q=some (ps0,ml0,rk0,fr,lc)∧popA ps S []=some (as,.inr (.inr (o+1)) :: S')∧wget W o=some (0,m) ∧
  lmk Q x=true∧q=0∧fr'+1≤fr∧cats S'+(ml+11)+lc'≤lc∧(initL (vr 0 :: as) ml).length≤ml∧kP 0 0 (initL (vr 0 :: as) ml) [] 0 m=some y∧y.2.1=TT∧k q (pc+len) L (pushR y.1 S') (wput W o y.2)=some r:=by
 simp only [stepLS] at h
 split at h
 ·rename_i ps ml rk fr' lc' ps0 ml0 rk0 fr lc h1 h2
  split at h
  ·rename_i as o S' hp
   split at h
   ·rename_i m hw
    obtain ⟨hb,h⟩:=cond_some h
    simp only [Bool.and_eq_true] at hb
    obtain ⟨⟨⟨⟨g1,g2⟩,g3⟩,g4⟩,g5⟩:=hb
    obtain ⟨y,h3,h4⟩:=Option.bind_eq_some_iff.mp h
    obtain ⟨hb',h4⟩:=cond_some h4
    exact ⟨ps,ml,rk,fr',lc',ps0,ml0,rk0,fr,lc,as,o,S',m,y,h1,h2,hp,hw,g1,Nat.eq_of_beq_eq_true g2,Nat.le_of_ble_eq_true g3,Nat.le_of_ble_eq_true g4,Nat.le_of_ble_eq_true g5,h3,Nat.eq_of_beq_eq_true hb',h4⟩
   ·cases h
  ·cases h
 ·cases h
theorem virtual_someL {x:Nat} (h:stepLS P Q TT mo sc kP k q pc L S W (.invokevirtual x) len=some r):∃ q' ps ml rk fr' lc' ps0 ml0 rk0 fr lc as o S' t m y,lvm Q x=some q'∧pinf P q'=some (ps,ml,rk,fr',lc')∧linf Q q=some (ps0,ml0,rk0,fr,lc)∧popA ps S []=some (as,.inr (.inr (o+1)) :: S')∧wget W o=some (t,m) ∧
  fr'+1≤fr∧cats S'+(ml+11)+lc'≤lc∧q'≠0∧(initL (vr 0 :: as) ml).length≤ml∧kP q' 0 (initL (vr 0 :: as) ml) [] t m=some y∧k q (pc+len) L (pushR y.1 S') (wput W o y.2)=some r:=by
 simp only [stepLS] at h
 split at h
 ·rename_i q' hq'
  split at h
  ·rename_i ps ml rk fr' lc' ps0 ml0 rk0 fr lc h1 h2
   split at h
   ·rename_i as o S' hp
    split at h
    ·rename_i t m hw
     obtain ⟨hb,h⟩:=cond_some h
     simp only [Bool.and_eq_true] at hb
     obtain ⟨⟨⟨g1,g2⟩,g3⟩,g4⟩:=hb
     obtain ⟨y,h3,h4⟩:=Option.bind_eq_some_iff.mp h
     exact ⟨q',ps,ml,rk,fr',lc',ps0,ml0,rk0,fr,lc,as,o,S',t,m,y,hq',h1,h2,hp,hw,Nat.le_of_ble_eq_true g1,Nat.le_of_ble_eq_true g2,(fun e=>by subst e; simp at g3),Nat.le_of_ble_eq_true g4,h3,h4⟩
    ·cases h
   ·cases h
  ·cases h
 ·cases h
theorem static_someL {x:Nat} (h:stepLS P Q TT mo sc kP k q pc L S W (.invokestatic x) len=some r):∃ q' ps ml rk fr' lc' ps0 ml0 rk0 fr lc as S' y,lsm Q x=some q'∧linf Q q'=some (ps,ml,rk,fr',lc')∧linf Q q=some (ps0,ml0,rk0,fr,lc)∧popB ps S []=some (as,S') ∧
  fr'+1≤fr∧cats S'+(ml+11)+lc'≤lc∧q'≠0∧(initL as ml).length≤ml∧k q' 0 (initL as ml) [] W=some y∧k q (pc+len) L (pushR y.1 S') y.2=some r:=by
 simp only [stepLS] at h
 split at h
 ·rename_i q' hq'
  split at h
  ·rename_i ps ml rk fr' lc' ps0 ml0 rk0 fr lc h1 h2
   split at h
   ·rename_i as S' hp
    obtain ⟨hb,h⟩:=cond_some h
    simp only [Bool.and_eq_true] at hb
    obtain ⟨⟨⟨g1,g2⟩,g3⟩,g4⟩:=hb
    obtain ⟨y,h3,h4⟩:=Option.bind_eq_some_iff.mp h
    exact ⟨q',ps,ml,rk,fr',lc',ps0,ml0,rk0,fr,lc,as,S',y,hq',h1,h2,hp,Nat.le_of_ble_eq_true g1,Nat.le_of_ble_eq_true g2,(fun e=>by subst e; simp at g3),Nat.le_of_ble_eq_true g4,h3,h4⟩
   ·cases h
  ·cases h
 ·cases h
theorem ireturn_someL (h:stepLS P Q TT mo sc kP k q pc L S W .ireturn len=some r):∃ z S' ps ml rk fr lc,S=.inl z :: S'∧linf Q q=some (ps,ml,rk,fr,lc)∧((rk=1∧r=(some (vi z),W))∨(rk=2∧r=(some (vi (z % 2)),W))):=by
 simp only [stepLS] at h
 split at h
 ·split at h
  ·rename_i hl; cases h; exact ⟨_,_,_,_,_,_,_,rfl,hl,Or.inl ⟨rfl,rfl⟩⟩
  ·rename_i hl; cases h; exact ⟨_,_,_,_,_,_,_,rfl,hl,Or.inr ⟨rfl,rfl⟩⟩
  ·cases h
 ·cases h
theorem lreturn_someL (h:stepLS P Q TT mo sc kP k q pc L S W .lreturn len=some r):∃ z S' ps ml fr lc,S=.inr (.inl z) :: S'∧linf Q q=some (ps,ml,4,fr,lc)∧r=(some (vl z),W):=by
 simp only [stepLS] at h
 split at h
 ·split at h
  ·rename_i hl; cases h; exact ⟨_,_,_,_,_,_,rfl,hl,rfl⟩
  ·cases h
 ·cases h
theorem return_someL (h:stepLS P Q TT mo sc kP k q pc L S W .return_ len=some r):∃ ps ml fr lc,S=[]∧linf Q q=some (ps,ml,0,fr,lc)∧r=(none,W):=by
 simp only [stepLS] at h
 split at h
 ·split at h
  ·rename_i hl; cases h; exact ⟨_,_,_,_,rfl,hl,rfl⟩
  ·cases h
 ·cases h
end InvL
def EndL (P:PT) (C:String) (fnm:FN) (fkd:FK) (Z:State) (sc:ScT) (nA nf mo:Nat) (p:Program) (l:Launch) (e:Env) (R:Room) (s:State) (mi:MethodId) (args:Array Value) (below:List Frame) (meth:Method) (c:Code) (n0 q:Nat)
  (T:State) (A:Nat→Addr) (W:OWd) (locs:List Loc) (cells slots:Nat) (f0:JFrame) (r:Option OV) (W':OWd):Prop :=
 ∃ (v:Option Value) (T':State) (A':Nat→Addr) (AO':Nat→Nat→Addr) (lw:List Loc) (cells' slots':Nat),
  Stand p l e R s mi args below meth c T' (locs ++ lw) cells' slots'∧RepW P C fnm fkd Z sc T'.heap A' AO' n0 W'∧(∀ k,k≤W.length→A' k=A k)∧W.length≤W'.length∧T.heap.size≤T'.heap.size∧Fr n0 lw ∧
  (q=0→cells'≤cW 1 nA W'∧slots'≤cW nf (psum P nA) W'∧W'.length≤mo)∧(q≠0→OwnMini.ts W'=OwnMini.ts W∧cells'=cells∧slots'=slots)∧RVl r v∧(meth.sig.returnType=none→v=none) ∧
  ∀ fs,(∀ (f:JFrame) (acts:List Action),f.method=mi→f.locked=none→f.entered=[]→(doReturn e (T'.setTop f) acts v).1=T'.setFrames fs)→Steps p.tables e below (T.setTop f0) (T'.setFrames fs)
section SoundL
variable {P:PT} {Q:LT} {C own:String} {fnm:FN} {fkd:FK} {nm lnm:Nat→MethodName} {bys lbys:Nat→ByteArray} {nA nf mo:Nat} {a0:Array Value} {Z:State} {sc:ScT}
variable {p:Program} {l:Launch} {e:Env} {R:Room} {s:State} {mi:MethodId} {args:Array Value} {below:List Frame} {meth:Method} {c:Code} {n0 q:Nat}
theorem EndL.trans {T T1:State} {A A1:Nat→Addr} {W W1:OWd} {locs l1:List Loc} {cells slots cells1 slots1:Nat} {f0 f1:JFrame} {r:Option OV} {W':OWd}
  (E:EndL P C fnm fkd Z sc nA nf mo p l e R s mi args below meth c n0 q T1 A1 W1 (locs ++ l1) cells1 slots1 f1 r W') (hA:∀ k,k≤W.length→A1 k=A k) (hW:W.length≤W1.length) (hh:T.heap.size≤T1.heap.size) (hF:Fr n0 l1) (hq:q≠0→OwnMini.ts W1=OwnMini.ts W∧cells1=cells∧slots1=slots)
  (st:∀ target,Steps p.tables e below (T1.setTop f1) target→Steps p.tables e below (T.setTop f0) target):EndL P C fnm fkd Z sc nA nf mo p l e R s mi args below meth c n0 q T A W locs cells slots f0 r W':=by
 obtain ⟨v,T',A',AO',lw,cells',slots',h1,h2,h3,h4,h5,h6,h7,h8,h9,h10,h11⟩:=E
 refine ⟨v,T',A',AO',l1 ++ lw,cells',slots',by rw [← List.append_assoc]; exact h1,h2,fun k hk=>(h3 k (by omega)).trans (hA k hk),by omega,by omega,hF.app h6,h7,fun hq'=>?_,h9,h10,fun fs hfs=>st _ (h11 fs hfs)⟩
 obtain ⟨a1,a2,a3⟩:=hq hq'
 obtain ⟨b1,b2,b3⟩:=h8 hq'
 exact ⟨b1.trans a1,b2.trans a2,b3.trans a3⟩
def SoundAtL (P:PT) (Q:LT) (C own:String) (fnm:FN) (fkd:FK) (lbys:Nat→ByteArray) (nA nf mo:Nat) (Z:State) (sc:ScT) (l:Launch) (n:Nat):Prop :=
 ∀ q pc L S W r W',runL P Q (2*nA) mo sc n q pc L S W=some (r,W')→∀ ps ml rk fr lc,linf Q q=some (ps,ml,rk,fr,lc) →
 ∀ (p:Program) (e:Env) (R:Room) (s:State) (mi:MethodId) (args:Array Value) (below:List Frame) (meth:Method) (c:Code) (T:State) (locs:List Loc) (cells slots:Nat) (A:Nat→Addr) (AO:Nat→Nat→Addr) (Ls:Array Slot) (St:List Value) (n0:Nat),
  Stand p l e R s mi args below meth c T locs cells slots→p.tables.exec=Jvm.exec→Z.Warmed39 s.vm→s.vm.findClass own=some mi.cls→c.code=lbys q→c.maxLocals=ml→meth.sig.returnType=rty rk →
  RepW P C fnm fkd Z sc T.heap A AO n0 W→LR A W.length L Ls→SR A W.length S St→Ls.size=ml→n0≤T.heap.size→fr≤R.frames→lc≤R.locals→cells≤R.cells→slots≤R.slots→W.length≤mo →
  (q=0→cells≤cW 1 nA W∧slots≤cW nf (psum P nA) W∧mo*(1+nA)≤R.cells∧mo*(nf+psum P nA)≤R.slots) →
  EndL P C fnm fkd Z sc nA nf mo p l e R s mi args below meth c n0 q T A W locs cells slots (mkF mi pc Ls St) r W'
def QL (P:PT) (C:String) (fnm:FN) (fkd:FK) (Z:State) (sc:ScT) (n0:Nat) (W:OWd) (A:Nat→Addr) (h:Heap) (r:Option OV) (W':OWd) (v:Option Value) (h':Heap) (L:List Loc):Prop :=
 ∃ A' AO',RepW P C fnm fkd Z sc h' A' AO' n0 W'∧(∀ k,k≤W.length→A' k=A k)∧h.size≤h'.size∧Fr n0 L∧OwnMini.ts W'=OwnMini.ts W∧RVl r v
theorem metL (HL:TabL P Q C own nm lnm lbys a0 Z) {n:Nat} (hS:SoundAtL P Q C own fnm fkd lbys nA nf mo Z sc l n) {ps:List Nat} {ml rk fr lc:Nat} (hq:linf Q q=some (ps,ml,rk,fr,lc)) (hq0:q≠0) {as:List OV} {W:OWd} {r:Option OV} {W':OWd}
  (hrun:runL P Q (2*nA) mo sc n q 0 (initL as ml) [] W=some (r,W')) (hsz:(initL as ml).length≤ml) {A:Nat→Addr} {AO:Nat→Nat→Addr} {h:Heap} (hn0:n0≤h.size) (hR:RepW P C fnm fkd Z sc h A AO n0 W) (hmo:W.length≤mo) {vals:List Value} (hv:SR A W.length as vals) :
  MetFree l (lnm q) (head1 [Jvm.Cond.code (lnm q) (lbys q) ml (rty rk)] ({ frames:=fr,cells:=0,slots:=0,locals:=lc }:Room)) (fun a U=>a=vals.toArray∧Z.Warmed39 U.vm∧U.heap=h) (fun _ _ _ _ _=>True)
   (fun _ U o U'=>∃ v L,o=.returned v∧QL P C fnm fkd Z sc n0 W A h r W' v U'.heap L∧FrameEnd U o U' L 0 0):=by
 have HL':=HL
 obtain ⟨-,-,-,-,-,-,hinf,hpn,-⟩:=HL'
 obtain ⟨hcls,-⟩:=hinf q ps ml rk fr lc hq hq0
 refine MetFree.of_bodySF (plainFor_of_name (by rw [hcls]; exact hpn)) hisR ?_
 intro p e s m' args below meth c s₁ Bd hml0 hP hK
 obtain ⟨rfl,hZ,hh⟩:=hP
 have X0:=Stand.of_body Bd
 have e0:s₁.heap=h:=by rw [← hh,Bd.state]; rfl
 have hown:s.vm.findClass own=some m'.cls:=by rw [← hcls]; exact findClass_of_methodNamed Bd.named
 have hL:=entry_rel (n:=ml) hv
 have hz:(argsToLocals vals.toArray ml).size=ml:=by
  rw [← hL.1]
  refine Nat.le_antisymm hsz ?_
  simp only [initL,List.length_append,List.length_replicate]; omega
 obtain ⟨v,T',A',AO',lw,cells',slots',h1,h2,h3,h4,h5,h6,h7,h8,h9,h10,h11⟩:=hS q 0 _ [] W r W' hrun ps ml rk fr lc hq p e _ s m' _ below meth c s₁ [] 0 0 A AO (argsToLocals vals.toArray ml) [] n0 X0 Bd.exec hZ hown Bd.bytes hml0 Bd.returns
  (by rw [e0]; exact hR) hL trivial hz (by rw [e0]; exact hn0) (Nat.le_refl _) (Nat.le_refl _) (Nat.zero_le _) (Nat.zero_le _) hmo (fun q0=>absurd q0 hq0)
 rw [e0] at h5
 obtain ⟨b1,b2,b3⟩:=h8 hq0
 obtain ⟨fs,hr,hrun',hended,hW,hsame⟩:=h1.leave (v:=v) h10
 exact ⟨_,_,h11 fs hr,hrun',hended,v,_,rfl,⟨A',AO',h2,h3,h5,h6,b1,h9⟩,⟨_,rfl⟩,hW,hsame.mono (by omega) (by omega)⟩
end SoundL
theorem soundL {P:PT} {Q:LT} {C own:String} {fnm:FN} {fkd:FK} {nm lnm:Nat→MethodName} {bys lbys:Nat→ByteArray} {nA nf mo:Nat} {a0:Array Value} {Z:State} {sc:ScT} (HT:TabP P C fnm fkd nm bys nA nf a0 Z) (HL:TabL P Q C own nm lnm lbys a0 Z) (hA1:1≤nA) (l:Launch):∀ n,SoundAtL P Q C own fnm fkd lbys nA nf mo Z sc l n
 | 0=>fun q pc L S W r W' h=>by cases h
 | n+1=>by
  intro q pc L0 S W r W' h ps ml rk fr lc hq p e R s mi args below meth c T locs cells slots A AO Ls St n0 X hx hZ hown hby hml hret hR hL0 hSt hsz hn0 hfr hlc hce hsl hmo hroom
  have IH:=soundL (mo:=mo) (sc:=sc) HT HL hA1 l n
  have IP:=soundP HT l n
  have HT':=HT
  obtain ⟨-,-,-,-,-,-,-,-,tinf,-,-,tins,tini,-,thn,tnm,trk⟩:=HT'
  have HL':=HL
  obtain ⟨lcod,lcs,lv,lm,ls,lc',lin,lpn,lhn⟩:=HL'
  replace h:stepL P Q (2*nA) mo sc (runP P n) (runL P Q (2*nA) mo sc n) q pc L0 S W=some (r,W'):=h
  unfold stepL at h
  cases hcd:lcode Q q pc with
  | none=>rw [hcd] at h; cases h
  | some il =>
   obtain ⟨i,len⟩:=il
   rw [hcd] at h
   replace h:stepLI P Q (2*nA) mo sc (runP P n) (runL P Q (2*nA) mo sc n) q pc (mask (lliv Q q pc) L0) S W i len=some (r,W'):=h
   have hL:=hL0.mask (lliv Q q pc)
   generalize mask (lliv Q q pc) L0=L at h hL
   obtain ⟨hdec,hchk⟩:=lcod q pc i len hcd
   have hd:decode c.code pc=.ok (i,len):=by rw [hby]; exact hdec
   have hcst:(∀ x z,lcst Q x=some (.inl z)→∃ v:Int32,(Jvm.Cond.constant own x v).before args s=true∧v.toInt=z)∧(∀ x z,lcst Q x=some (.inr (.inl z))→∃ v:Int64,(Jvm.Cond.constantLong own x v).before args s=true∧v.toInt=z) :=
    ⟨fun x z hz=>by obtain ⟨v,h1,h2⟩:=lcs.1 x z hz; exact ⟨v,mv hZ h1,h2⟩,fun x z hz=>by obtain ⟨v,h1,h2⟩:=lcs.2 x z hz; exact ⟨v,mv hZ h1,h2⟩⟩
   have go:∀ {pc':Nat} {L':OLs} {S':List OV} {Ls':Array Slot} {St':List Value},runL P Q (2*nA) mo sc n q pc' L' S' W=some (r,W')→LR A W.length L' Ls'→SR A W.length S' St'→Ls'.size=ml →
     (∀ target,Steps p.tables e below (T.setTop (mkF mi pc' Ls' St')) target→Steps p.tables e below (T.setTop (mkF mi pc Ls St)) target) →
     EndL P C fnm fkd Z sc nA nf mo p l e R s mi args below meth c n0 q T A W locs cells slots (mkF mi pc Ls St) r W':=fun hrun hL1 hS1 hz1 st =>
    EndL.trans (l1:=[]) (IH q _ _ _ W r W' hrun ps ml rk fr lc hq p e R s mi args below meth c T _ cells slots A AO _ _ n0 (by rw [List.append_nil]; exact X) hx hZ hown hby hml hret hR hL1 hS1 hz1 hn0 hfr hlc hce hsl hmo hroom) (fun _ _=>rfl) (Nat.le_refl _) (Nat.le_refl _) (Fr.nil _) (fun _=>⟨rfl,rfl,rfl⟩) st
   -- going on behind an object's method
   have gv:∀ {T1:State} {L1:List Loc} {v:Option Value} {y1:Option OV} {o t t1:Nat} {m m1:OMem} {S':List OV} {St':List Value} {cells1 slots1:Nat},wget W o=some (t,m)→Stand p l e R s mi args below meth c T1 (locs ++ L1) cells1 slots1 →
     (∃ A',RepO P C fnm fkd Z T1.heap A' n0 t1 m1∧(∀ j,j≤(t+1) / 2→A' j=AO o j)∧t≤t1∧(∀ j,(t+1) / 2<j→j≤(t1+1) / 2→T.heap.size≤A' j)∧Fr n0 L1∧Sam T.heap T1.heap (AO o) ((t+1) / 2)∧RVl y1 v)→SR A W.length S' St'→runL P Q (2*nA) mo sc n q (pc+3) L (pushR y1 S') (wput W o (t1,m1))=some (r,W') →
     cells1≤R.cells→slots1≤R.slots→(q=0→cells1≤cW 1 nA (wput W o (t1,m1))∧slots1≤cW nf (psum P nA) (wput W o (t1,m1)))→(q≠0→t1=t∧cells1=cells∧slots1=slots) →
     (∀ target,Steps p.tables e below (T1.setTop (mkF mi (pc+3) Ls (v.toList ++ St'))) target→Steps p.tables e below (T.setTop (mkF mi pc Ls St)) target) →
     EndL P C fnm fkd Z sc nA nf mo p l e R s mi args below meth c n0 q T A W locs cells slots (mkF mi pc Ls St) r W':=fun {T1 L1 v y1 o t t1 m m1 S' St' cells1 slots1} ho X1 hQ hS1 hrun hc1 hs1 h0 h1 st=>by
    obtain ⟨A',g1,g2,g3,g4,g5,g6,g7⟩:=hQ
    have hR1:=hR.ran ho g1 g2 g4 g6
    have hlen:=wput_len W o (t1,m1)
    refine EndL.trans (l1:=L1) (IH q _ _ _ _ r W' hrun ps ml rk fr lc hq p e R s mi args below meth c T1 _ cells1 slots1 A _ Ls _ n0 X1 hx hZ hown hby hml hret hR1 (by rw [hlen]; exact hL) (by rw [hlen]; exact g7.push hS1) hsz (Nat.le_trans hn0 g6.1) hfr hlc hc1 hs1 (by rw [hlen]; exact hmo) (fun q0=>⟨(h0 q0).1,(h0 q0).2,(hroom q0).2.2.1,(hroom q0).2.2.2⟩)) (fun _ _=>rfl) (by rw [hlen]; exact Nat.le_refl _) g6.1 g5 (fun q0=>?_) st
    obtain ⟨e1,e2,e3⟩:=h1 q0
    subst e1
    exact ⟨ts_wput ho,e2,e3⟩
   cases hsp:isSpecL i with
   | false =>
    simp only [stepLI,hsp,cond_false] at h
    obtain ⟨pc',L',S',Ls',St',h1,h2,h3,h4,h5⟩:=pstep_sound (cst:=lcst Q) (k:=fun pc' L' S'=>runL P Q (2*nA) mo sc n q pc' L' S' W) X hx hown hcst hL hSt hd hchk h
    exact go h1 h2 h3 (h4.trans hsz) h5
   | true =>
   simp only [stepLI,hsp,cond_true] at h
   clear hcd
   cases i
   case new x =>
    obtain rfl:len=3:=by simpa [chk,ilen] using hchk
    obtain ⟨hcl,hq0,hlt,h⟩:=new_someL h
    obtain ⟨b1,b2,b3,b4⟩:=hroom hq0
    have d1:=cW_le 1 nA W
    have d2:=cW_le nf (psum P nA) W
    have d3:(W.length+1)*(1+nA)≤mo*(1+nA):=Nat.mul_le_mul_right _ hlt
    have d4:(W.length+1)*(nf+psum P nA)≤mo*(nf+psum P nA):=Nat.mul_le_mul_right _ hlt
    rw [Nat.add_mul] at d3 d4
    obtain ⟨T1,h1,X1,e1,E,Ex,D,-,st⟩:=newO X hx hZ hown (lc' x hcl) tins tini rfl (g:=mkF mi pc Ls St) rfl hd (by omega) (by omega)
    subst e1
    have hR1:=hR.made HT hn0 E Ex D
    have hAg:∀ k,k≤W.length→updA A (W.length+1) T.heap.size k=A k:=fun k hk=>updA_ne (by omega)
    have hln:(W ++ [((0:Nat),z0)]).length=W.length+1:=by simp
    refine EndL.trans (l1:=[]) (IH q _ _ _ _ r W' h ps ml rk fr lc hq p e R s mi args below meth c T1 _ (cells+1) (slots+nf) _ _ Ls (.ref T.heap.size :: St) n0 (by rw [List.append_nil]; exact X1) hx hZ hown hby hml hret hR1 (by rw [hln]; exact hL.mono hAg (by omega)) (by rw [hln]; exact ⟨⟨Nat.le_refl _,by rw [updA_eq]⟩,hSt.mono hAg (by omega)⟩) hsz (Nat.le_trans hn0 E.1) hfr hlc (by omega) (by omega) (by rw [hln]; omega) (fun _=>⟨by rw [cW_append]; omega,by rw [cW_append]; omega,b3,b4⟩)) hAg (by rw [hln]; omega) E.1 (Fr.nil _) (fun q0=>absurd hq0 q0) st
   case arraylength =>
    obtain rfl:len=1:=by simpa [chk,ilen] using hchk
    obtain ⟨S',rfl,hs,h⟩:=length_someL h
    obtain ⟨hb0,St',rfl,hS'⟩:=SR.r1 hSt
    obtain ⟨g1,cl,g2,g3,g4,g5⟩:=hR.2.2 hs
    exact go h hL (SR.ci (by rw [len_toInt (by omega)]; exact g3) hS') hsz (fun target hr=>X.arraylength hx g2.1 (State.isArrayOf_alike hZ.alike g2.2.1) (g:=mkF mi pc Ls (.ref (A 0) :: St')) rfl rfl hd target hr)
   case iaload =>
    obtain rfl:len=1:=by simpa [chk,ilen] using hchk
    obtain ⟨i,S',rfl,hs,hi0,hi1,h⟩:=iaload_someL h
    obtain ⟨y,St1,rfl,rfl,hS1⟩:=SR.i1 hSt
    obtain ⟨hb0,St',rfl,hS'⟩:=SR.r1 hS1
    obtain ⟨g1,cl,g2,g3,g4,g5⟩:=hR.2.2 hs
    obtain ⟨w,hv,hw⟩:=g5 y.toNatClampNeg (by have:=clamp32 hi0; omega)
    rw [clamp32 hi0] at hw
    exact go h hL (SR.ci hw hS') hsz (fun target hr=>X.iaload hx g2.1 (State.isArrayOf_alike hZ.alike g2.2.1) g2.2.2 (idx32 hi0 (by omega)) hv (g:=mkF mi pc Ls (.int y :: .ref (A 0) :: St')) rfl rfl hd target hr)
   case invokespecial x =>
    obtain rfl:len=3:=by simpa [chk,ilen] using hchk
    obtain ⟨ps',ml',rk',fr',lc'',ps0,ml0,rk0,fr0,lc0,as,o,S',m,y,hi',hq1,hpop,ho,hmk,hq0,hf1,hl1,hlen,hcall,hyT,hcont⟩:=special_someL h
    clear h
    cases hq.symm.trans hq1
    obtain ⟨y1,t1,m1⟩:=y
    have hyT:t1=2*nA:=hyT
    obtain ⟨B,St1,hB,hS1,rfl,hBl⟩:=popA_rel hpop hSt
    obtain ⟨hb0,St',rfl,hS'⟩:=SR.r1 hS1
    obtain ⟨hRo,hA0⟩:=hR.1 o _ _ ho
    obtain ⟨b1,b2,b3,b4⟩:=hroom hq0
    have d1:=cW_raw (a:=1) (b:=nA) ho
    have d2:=cW_raw (a:=nf) (b:=psum P nA) ho
    have d3:W.length*(1+nA)≤mo*(1+nA):=Nat.mul_le_mul_right _ hmo
    have d4:W.length*(nf+psum P nA)≤mo*(nf+psum P nA):=Nat.mul_le_mul_right _ hmo
    have hargs:SR (AO o) ((0+1) / 2) (vr 0 :: as) (.ref (A (o+1)) :: B):=⟨⟨by omega,by rw [hA0]⟩,by simpa using hB (AO o) ((0+1) / 2) [] trivial⟩
    obtain ⟨icls,iinst,icode,-,params,ipd,ipl⟩:=tinf 0 _ _ _ _ _ hi'
    have hM:=metP (l:=l) (cl:=nA) (sl:=psum P nA) HT IP hi' hcall hlen hn0 hRo hargs (fun _=>⟨by omega,by omega⟩)
    have hBk:=backOf (R:=R) (p:=p) (e:=e) (below:=below) (s:=s) (args:=args) (len:=3) (W:=cats S') (rm:={ frames:=fr',cells:=nA,slots:=psum P nA,locals:=lc'' }) (Q:=QP P C fnm fkd Z n0 0 0 (AO o) T.heap y1 t1 m1) hM hZ icode (by rw [icls]; exact tini) (by show fr'+1≤R.frames; omega) (by show cats S'+(ml'+11)+lc''≤R.locals; omega)
    have hyn:(nm 0).cls≠"java/lang/invoke/MethodHandle"∧(nm 0).cls≠"java/lang/invoke/VarHandle":=by rw [icls]; exact thn
    have hlenA:∀ sig,parseMethodDescriptor (nm 0).desc=some sig→B.length=sig.parameters.length:=lenOf ipd (by rw [hBl,ipl])
    have hrk:rty rk'=none:=by rw [trk _ _ _ _ _ hi']; rfl
    rw [hrk] at icode
    obtain ⟨v,vm1,⟨T1,L1,k1,n1⟩,-,X1,⟨Lc,hQ,l1,c1,s1⟩,st⟩:=X.specialBack hx tnm hown (mv hZ (lm x hmk)) (mv hZ iinst) (mv hZ icode) hyn hBk (g:=mkF mi pc Ls (B.reverse ++ .ref (A (o+1)) :: St')) rfl (by rw [hml]; exact hsz) (Steps.refl _) (a:=A (o+1)) (argsL:=B) (rest:=St') hlenA rfl (by show 2*0+_≤_; rw [hS'.catsum]; omega) hd (fun _ _=>⟨rfl,rfl,by show cells+nA≤_; omega,by show slots+psum P nA≤_; omega⟩)
    dsimp only [Pt.U,Pt.locs,Pt.cells,Pt.slots] at X1 l1 c1 s1 st hQ
    subst l1 c1 s1
    obtain ⟨A',g1,g2,g3,g4,g5,g6,g7,g8⟩:=hQ
    subst hyT
    have e2:2*nA=(2*nA - 1)+1:=by omega
    have w1:cW 1 nA (wput W o (2*nA,m1))=cW 1 nA W+nA:=by rw [e2]; exact cW_made ho
    have w2:cW nf (psum P nA) (wput W o (2*nA,m1))=cW nf (psum P nA) W+psum P nA:=by rw [e2]; exact cW_made ho
    exact gv ho X1 ⟨A',g1,g2,g3,g4,g5,g6,g7⟩ hS' hcont (by omega) (by omega) (fun _=>⟨by omega,by omega⟩) (fun q0=>absurd hq0 q0) (fun target hr=>st.trans hr)
   case invokevirtual x =>
    obtain rfl:len=3:=by simpa [chk,ilen] using hchk
    obtain ⟨q',ps',ml',rk',fr',lc'',ps0,ml0,rk0,fr0,lc0,as,o,S',t,m,y,hx',hi',hq1,hpop,ho,hf1,hl1,hq'0,hlen,hcall,hcont⟩:=virtual_someL h
    clear h
    cases hq.symm.trans hq1
    obtain ⟨y1,t1,m1⟩:=y
    obtain ⟨B,St1,hB,hS1,rfl,hBl⟩:=popA_rel hpop hSt
    obtain ⟨hb0,St',rfl,hS'⟩:=SR.r1 hS1
    obtain ⟨hRo,hA0⟩:=hR.1 o _ _ ho
    have hargs:SR (AO o) ((t+1) / 2) (vr 0 :: as) (.ref (A (o+1)) :: B):=⟨⟨by omega,by rw [hA0]⟩,by simpa using hB (AO o) ((t+1) / 2) [] trivial⟩
    obtain ⟨icls,iinst,icode,-,params,ipd,ipl⟩:=tinf q' _ _ _ _ _ hi'
    obtain ⟨vl1,vl2,vl3⟩:=lv x _ hx'
    have hM:=metP (l:=l) (cl:=0) (sl:=0) HT IP hi' hcall hlen hn0 hRo hargs (fun q0=>absurd q0 hq'0)
    have hBk:=backOf (R:=R) (p:=p) (e:=e) (below:=below) (s:=s) (args:=args) (len:=3) (W:=cats S') (rm:={ frames:=fr',cells:=0,slots:=0,locals:=lc'' }) (Q:=QP P C fnm fkd Z n0 q' t (AO o) T.heap y1 t1 m1) hM hZ icode (by rw [icls]; exact tini) (by show fr'+1≤R.frames; omega) (by show cats S'+(ml'+11)+lc''≤R.locals; omega)
    have hyn:(nm q').cls≠"java/lang/invoke/MethodHandle"∧(nm q').cls≠"java/lang/invoke/VarHandle":=by rw [icls]; exact thn
    have hlenA:∀ sig,parseMethodDescriptor (nm q').desc=some sig→B.length=sig.parameters.length:=lenOf ipd (by rw [hBl,ipl])
    obtain ⟨cB,kB,i1,i2,i3⟩:=isOf (T:=T) hZ rfl hRo.1
    rw [hA0] at i3
    obtain ⟨v,vm1,⟨T1,L1,k1,n1⟩,-,X1,⟨Lc,hQ,l1,c1,s1⟩,st⟩:=X.virtualBack hx (C:=C) (y:=nm q') (z:=nm q') hown (mv hZ vl1) (mv hZ vl2) (notFace_of_selects (args:=args) (mv hZ vl3)) (mv hZ vl3) (mv hZ iinst) hyn hBk i1 i3 (g:=mkF mi pc Ls (B.reverse ++ .ref (A (o+1)) :: St')) rfl (by rw [hml]; exact hsz) (Steps.refl _) (argsL:=B) (rest:=St') hlenA rfl (by show 2*0+_≤_; rw [hS'.catsum]; omega) hd (fun _ _=>⟨rfl,rfl,hce,hsl⟩)
    dsimp only [Pt.U,Pt.locs,Pt.cells,Pt.slots] at X1 l1 c1 s1 st hQ
    subst l1 c1 s1
    obtain ⟨A',g1,g2,g3,g4,g5,g6,g7,g8⟩:=hQ
    obtain rfl:=g8 hq'0
    have w1:=cW_ts (a:=1) (b:=nA) (ts_wput (m':=m1) ho)
    have w2:=cW_ts (a:=nf) (b:=psum P nA) (ts_wput (m':=m1) ho)
    exact gv ho X1 ⟨A',g1,g2,g3,g4,g5,g6,g7⟩ hS' hcont hce hsl (fun q0=>⟨by rw [w1]; exact (hroom q0).1,by rw [w2]; exact (hroom q0).2.1⟩) (fun _=>⟨rfl,rfl,rfl⟩) (fun target hr=>st.trans hr)
   case invokestatic x =>
    obtain rfl:len=3:=by simpa [chk,ilen] using hchk
    obtain ⟨q',ps',ml',rk',fr',lc'',ps0,ml0,rk0,fr0,lc0,as,S',y,hx',hi',hq1,hpop,hf1,hl1,hq'0,hlen,hcall,hcont⟩:=static_someL h
    clear h
    cases hq.symm.trans hq1
    obtain ⟨y1,W1⟩:=y
    obtain ⟨B,St',hB,hS',rfl,hBl⟩:=popB_rel (X:=[]) hpop hSt trivial
    rw [List.append_nil] at hB
    obtain ⟨icls,istat,iini,icode,params,ipd,ipl⟩:=lin q' _ _ _ _ _ hi' hq'0
    have hM:=metL (l:=l) HL IH hi' hq'0 hcall hlen hn0 hR hmo hB
    have hBk:=backOf (R:=R) (p:=p) (e:=e) (below:=below) (s:=s) (args:=args) (len:=3) (W:=cats S') (rm:={ frames:=fr',cells:=0,slots:=0,locals:=lc'' }) (Q:=QL P C fnm fkd Z sc n0 W A T.heap y1 W1) hM hZ icode (by rw [icls]; exact iini) (by show fr'+1≤R.frames; omega) (by show cats S'+(ml'+11)+lc''≤R.locals; omega)
    have hyn:(lnm q').cls≠"java/lang/invoke/MethodHandle"∧(lnm q').cls≠"java/lang/invoke/VarHandle":=by rw [icls]; exact lhn
    have hlenA:∀ sig,parseMethodDescriptor (lnm q').desc=some sig→B.length=sig.parameters.length:=lenOf ipd (by rw [hBl,ipl])
    obtain ⟨v,vm1,⟨T1,L1,k1,n1⟩,-,X1,⟨Lc,hQ,l1,c1,s1⟩,st⟩:=Jvm.LawKit.callS X hx hown (mv hZ (ls x _ hx')) (mv hZ istat) (mv hZ (by rw [icls]; exact iini)) (mv hZ icode) hyn hBk (g:=mkF mi pc Ls (B.reverse ++ St')) rfl (by rw [hml]; exact hsz) (argsL:=B) (rest:=St') hlenA rfl (by show 2*0+_≤_; rw [hS'.catsum]; omega) hd (fun _ _=>⟨rfl,rfl,hce,hsl⟩)
    dsimp only [Pt.U,Pt.locs,Pt.cells,Pt.slots] at X1 l1 c1 s1 st hQ
    subst l1 c1 s1
    obtain ⟨A',AO',g1,g2,g3,g4,g5,g6⟩:=hQ
    have w1:=cW_ts (a:=1) (b:=nA) g5
    have w2:=cW_ts (a:=nf) (b:=psum P nA) g5
    have wl:=ts_len g5
    exact EndL.trans (l1:=Lc) (IH q _ _ _ W1 r W' hcont ps ml rk fr lc hq p e R s mi args below meth c T1 _ _ _ A' AO' Ls _ n0 X1 hx hZ hown hby hml hret g1 (by rw [wl]; exact hL.mono g2 (Nat.le_refl _)) (by rw [wl]; exact g6.push (hS'.mono g2 (Nat.le_refl _))) hsz (Nat.le_trans hn0 g3) hfr hlc hce hsl (by rw [wl]; exact hmo) (fun q0=>⟨by rw [w1]; exact (hroom q0).1,by rw [w2]; exact (hroom q0).2.1,(hroom q0).2.2.1,(hroom q0).2.2.2⟩)) g2 (by rw [wl]; exact Nat.le_refl _) g3 g4 (fun _=>⟨g5,rfl,rfl⟩) st
   case ireturn =>
    obtain rfl:len=1:=by simpa [chk,ilen] using hchk
    obtain ⟨z,S',ps',ml',rk',fr',lc'',rfl,hq',hcase⟩:=ireturn_someL h
    cases hq.symm.trans hq'
    obtain ⟨y,St',rfl,hy,hS'⟩:=SR.i1 hSt
    rcases hcase with ⟨rfl,hr⟩ | ⟨rfl,hr⟩
    ·cases hr
     exact ⟨some (.int y),T,A,AO,[],cells,slots,by rw [List.append_nil]; exact X,hR,fun _ _=>rfl,Nat.le_refl _,Nat.le_refl _,Fr.nil _,fun q0=>⟨(hroom q0).1,(hroom q0).2.1,hmo⟩,fun _=>⟨rfl,rfl,rfl⟩,⟨y,rfl,hy⟩,(fun q=>by rw [hret] at q; cases q),fun fs hfs=>retI' X hx hret hd hfs⟩
    ·cases hr
     exact ⟨some (.int (y &&& 1)),T,A,AO,[],cells,slots,by rw [List.append_nil]; exact X,hR,fun _ _=>rfl,Nat.le_refl _,Nat.le_refl _,Fr.nil _,fun q0=>⟨(hroom q0).1,(hroom q0).2.1,hmo⟩,fun _=>⟨rfl,rfl,rfl⟩,⟨_,rfl,by rw [and1_eq,hy]⟩,(fun q=>by rw [hret] at q; cases q),fun fs hfs=>retN X hx (t:=.boolean) hret (by simp) hd hfs⟩
   case lreturn =>
    obtain rfl:len=1:=by simpa [chk,ilen] using hchk
    obtain ⟨z,S',ps',ml',fr',lc'',rfl,hq',hr⟩:=lreturn_someL h
    cases hq.symm.trans hq'
    cases hr
    obtain ⟨y,St',rfl,hy,hS'⟩:=SR.l1 hSt
    exact ⟨some (.long y),T,A,AO,[],cells,slots,by rw [List.append_nil]; exact X,hR,fun _ _=>rfl,Nat.le_refl _,Nat.le_refl _,Fr.nil _,fun q0=>⟨(hroom q0).1,(hroom q0).2.1,hmo⟩,fun _=>⟨rfl,rfl,rfl⟩,⟨y,rfl,hy⟩,(fun q=>by rw [hret] at q; cases q),fun fs hfs=>retOut X hx hret rfl (Or.inr (Or.inl ⟨rfl,rfl,y,rfl⟩)) hd hfs⟩
   case return_ =>
    obtain rfl:len=1:=by simpa [chk,ilen] using hchk
    obtain ⟨ps',ml',fr',lc'',rfl,hq',hr⟩:=return_someL h
    cases hq.symm.trans hq'
    cases hr
    cases St with
    | cons _ _=>exact hSt.elim
    | nil=>exact ⟨none,T,A,AO,[],cells,slots,by rw [List.append_nil]; exact X,hR,fun _ _=>rfl,Nat.le_refl _,Nat.le_refl _,Fr.nil _,fun q0=>⟨(hroom q0).1,(hroom q0).2.1,hmo⟩,fun _=>⟨rfl,rfl,rfl⟩,rfl,fun _=>rfl,fun fs hfs=>X.returnOut hx hret hd hfs⟩
   all_goals cases hsp
end Jvm.OwnMini
namespace Jvm.OwnMini
def Sim {α ρ:Type} (o:Option α) (K:α→Nat→Option ρ) (F:Nat→Option ρ):Prop:=∀ a,o=some a→∀ r,(∃ n,K a n=some r)→∃ n,F n=some r
def Mono {ρ:Type} (F:Nat→Option ρ):Prop:=∀ n r,F n=some r→F (n+1)=some r
theorem Mono.le {ρ:Type} {F:Nat→Option ρ} (h:Mono F) {n k:Nat} (hk:n≤k) {r:ρ} (hn:F n=some r):F k=some r:=by
 induction hk with
 | refl=>exact hn
 | step _ ih=>exact h _ _ ih
section
variable {α β ρ ρ1 σ ε:Type} {K:α→Nat→Option ρ} {F:Nat→Option ρ}
theorem Sim.pur (a:α) (K:α→Nat→Option ρ):Sim (some a) K (K a):=fun b h r hr=>by cases h; exact hr
theorem Sim.non:Sim none K F:=fun b h=>by cases h
theorem Sim.shift (k:Nat) {o:Option α} {G:Nat→Option ρ} (h:∀ n,F (n+k)=G n) (s:Sim o K G):Sim o K F:=fun a ha r hr=>by
 obtain ⟨n,hn⟩:=s a ha r hr
 exact ⟨n+k,(h n).trans hn⟩
theorem Sim.ite {c:Prop} [Decidable c] {x y:Option α} {F G:Nat→Option ρ} (h1:c→Sim x K F) (h2:¬ c→Sim y K G):Sim (if c then x else y) K (fun n=>if c then F n else G n):=by
 by_cases h:c
 ·simp only [if_pos h]; exact h1 h
 ·simp only [if_neg h]; exact h2 h
theorem Sim.grd {c:Prop} [Decidable c] {x:Option α} {F:Nat→Option ρ} (h1:c→Sim x K F):Sim (if c then x else none) K (fun n=>if c then F n else none):=Sim.ite h1 (fun _=>Sim.non)
theorem Sim.dv {c:Prop} [Decidable c] {x:Option α} {F:Nat→Option ρ} (h1:¬ c→Sim x K F):Sim (if c then none else x) K (fun n=>if c then none else F n):=Sim.ite (fun _=>Sim.non) h1
theorem Sim.bind {f:Option β} {g:β→Option α} {K1:β→Nat→Option ρ} (h1:Sim f K1 F) (h2:∀ b,Sim (g b) K (K1 b)):Sim (f.bind g) K F:=fun a ha r hr=>by
 cases f with
 | none=>cases ha
 | some b=>exact h1 b rfl r (h2 b a ha r hr)
theorem Sim.jmp {o:Option α} {G:Nat→Option ρ} (s:Sim o K G) (h0:G 0=none) (h:∀ n,F (n+1)=G (n+1)):Sim o K F:=fun a ha r hr=>by
 obtain ⟨n,hn⟩:=s a ha r hr
 cases n with
 | zero=>rw [h0] at hn; cases hn
 | succ n=>exact ⟨n+1,(h n).trans hn⟩
theorem Sim.leaf {a:α} (h0:K a 0=none) (h:∀ n,F (n+1)=K a (n+1)):Sim (some a) K F:=Sim.jmp (Sim.pur a K) h0 h
theorem Sim.call {f:Option β} {g:β→Option α} {K1:β→Nat→Option ρ1} {F1:Nat→Option ρ1} {F2:ρ1→Nat→Option ρ} {v:β→ρ1} (h1:Sim f K1 F1) (hK:∀ b n,K1 b n=some (v b)) (m1:Mono F1) (m2:∀ y,Mono (F2 y)) (h2:∀ b,Sim (g b) K (F2 (v b))) :
  Sim (f.bind g) K (fun n=>(F1 n).bind fun y=>F2 y n):=fun a ha r hr=>by
 cases f with
 | none=>cases ha
 | some b =>
  obtain ⟨n1,hn1⟩:=h1 b rfl (v b) ⟨0,hK b 0⟩
  obtain ⟨n2,hn2⟩:=h2 b a ha r hr
  refine ⟨max n1 n2,?_⟩
  show (F1 (max n1 n2)).bind _=_
  rw [m1.le (Nat.le_max_left _ _) hn1]
  exact (m2 _).le (Nat.le_max_right _ _) hn2
section
variable {α ρ:Type} {K:α→Nat→Option ρ} {F:Nat→Option ρ}
theorem Sh (k:Nat) {o:Option α} (G:Nat→Option ρ) (h:(fun n=>F (n+k))=G) (s:Sim o K G):Sim o K F:=Sim.shift k (fun n=>congrFun h n) s
theorem Si {c:Prop} [Decidable c] {x y:Option α} {F G:Nat→Option ρ} (h1:Sim x K F) (h2:Sim y K G):Sim (if c then x else y) K (fun n=>if c then F n else G n):=Sim.ite (fun _=>h1) (fun _=>h2)
theorem Sg {c:Prop} [Decidable c] {x:Option α} {F:Nat→Option ρ} (h1:Sim x K F):Sim (if c then x else none) K (fun n=>if c then F n else none):=Sim.grd fun _=>h1
theorem Sv {a:α} (h0:K a 0=none) (h:(fun n=>F (n+1))=fun n=>K a (n+1)):Sim (some a) K F:=Sim.leaf h0 fun n=>congrFun h n
theorem Sp {a:α} {K:α→Nat→Option ρ}:Sim (some a) K (K a):=Sim.pur a K
end
def lp (body:σ→Option (σ⊕ε)):Nat→σ→Option ε
 | 0,_=>none
 | n+1,s=>match body s with
  | none=>none
  | some (.inl s')=>lp body n s'
  | some (.inr e)=>some e
theorem Sim.lp {body:σ→Option (σ⊕ε)} {H:σ→Nat→Option ρ} {X:ε→Nat→Option ρ} (hb:∀ s,Sim (body s) (Sum.elim H X) (H s)):∀ N s,Sim (OwnMini.lp body N s) X (H s)
 | 0,s=>Sim.non
 | N+1,s=>fun a ha r hr=>by
  unfold OwnMini.lp at ha
  cases hbs:body s with
  | none=>rw [hbs] at ha; cases ha
  | some x =>
   rw [hbs] at ha
   cases x with
   | inl s'=>exact hb s _ hbs r (Sim.lp hb N s' a ha r hr)
   | inr e=>cases ha; exact hb s _ hbs r hr
end
def NN:Nat:=4611686018427387904
end Jvm.OwnMini
namespace Jvm.OwnMini
open Jvm Jvm.ClassFile Sem Op Lib Jvm.Free Jvm.Stand Jvm.LawKit Jvm.RoadKit
theorem br_mono {β:Type} {c:ClassFile.Cond} {a b:Int} {x y x' y':Option β} {r:β} (h1:x=some r→x'=some r) (h2:y=some r→y'=some r) (h:br c a b x y=some r):br c a b x' y'=some r:=by
 cases c <;> simp only [br] at h ⊢ <;> split at h <;> rename_i q <;> first | (rw [if_pos q]; first | exact h1 h | exact h2 h) | (rw [if_neg q]; first | exact h1 h | exact h2 h)
theorem tsw_mono {β:Type} (a:Int):∀ (lo:Int) (os:List Int) {f f':Int→Option β} {d d':Option β} {r:β},(∀ o,f o=some r→f' o=some r)→(d=some r→d'=some r)→tsw a lo os f d=some r→tsw a lo os f' d'=some r
 | lo,[],f,f',d,d',r,h1,h2,h=>h2 h
 | lo,o :: os,f,f',d,d',r,h1,h2,h=>by
  unfold tsw at h ⊢
  split at h
  ·rename_i q; rw [if_pos q]; exact h1 o h
  ·rename_i q; rw [if_neg q]; exact tsw_mono a _ os h1 h2 h
theorem pstep_mono {β:Type} {cst:Nat→Option OV} {i:Instr} {pc len:Nat} {L:OLs} {S:List OV} {k k':Nat→OLs→List OV→Option β} (hk:∀ a b c r,k a b c=some r→k' a b c=some r) {r:β} (h:pstep cst i pc len L S k=some r):pstep cst i pc len L S k'=some r:=by
 cases i
 case iconst z =>
  exact hk _ _ _ _ h
 case bipush z =>
  exact hk _ _ _ _ h
 case sipush z =>
  exact hk _ _ _ _ h
 case lconst z =>
  exact hk _ _ _ _ h
 case ldc x =>
  simp only [pstep] at h ⊢
  cases hq:cst x with
  | none=>rw [hq] at h; cases h
  | some v =>
   rw [hq] at h
   rcases v with z | z | z
   ·exact hk _ _ _ _ h
   ·cases h
   ·cases h
 case ldc_w x =>
  simp only [pstep] at h ⊢
  cases hq:cst x with
  | none=>rw [hq] at h; cases h
  | some v =>
   rw [hq] at h
   rcases v with z | z | z
   ·exact hk _ _ _ _ h
   ·cases h
   ·cases h
 case ldc2_w x =>
  simp only [pstep] at h ⊢
  cases hq:cst x with
  | none=>rw [hq] at h; cases h
  | some v =>
   rw [hq] at h
   rcases v with z | z | z
   ·cases h
   ·exact hk _ _ _ _ h
   ·cases h
 case iload x =>
  obtain ⟨z,hg,h⟩:=gi_some h
  simp only [pstep,gi,hg]
  exact hk _ _ _ _ h
 case iload_n x =>
  obtain ⟨z,hg,h⟩:=gi_some h
  simp only [pstep,gi,hg]
  exact hk _ _ _ _ h
 case lload x =>
  obtain ⟨z,hg,h⟩:=gl_some h
  simp only [pstep,gl,hg]
  exact hk _ _ _ _ h
 case lload_n x =>
  obtain ⟨z,hg,h⟩:=gl_some h
  simp only [pstep,gl,hg]
  exact hk _ _ _ _ h
 case aload x =>
  obtain ⟨z,hg,h⟩:=gr_some h
  simp only [pstep,gr,hg]
  exact hk _ _ _ _ h
 case aload_n x =>
  obtain ⟨z,hg,h⟩:=gr_some h
  simp only [pstep,gr,hg]
  exact hk _ _ _ _ h
 case istore x =>
  obtain ⟨z,S',rfl,h⟩:=pi1_some h
  obtain ⟨h0,h⟩:=inL_some h
  simp only [pstep,pi1,inL,if_pos h0]
  exact hk _ _ _ _ h
 case istore_n x =>
  obtain ⟨z,S',rfl,h⟩:=pi1_some h
  obtain ⟨h0,h⟩:=inL_some h
  simp only [pstep,pi1,inL,if_pos h0]
  exact hk _ _ _ _ h
 case lstore x =>
  obtain ⟨z,S',rfl,h⟩:=pl1_some h
  obtain ⟨h0,h⟩:=inL_some h
  simp only [pstep,pl1,inL,if_pos h0]
  exact hk _ _ _ _ h
 case lstore_n x =>
  obtain ⟨z,S',rfl,h⟩:=pl1_some h
  obtain ⟨h0,h⟩:=inL_some h
  simp only [pstep,pl1,inL,if_pos h0]
  exact hk _ _ _ _ h
 case astore x =>
  obtain ⟨z,S',rfl,h⟩:=pr1_some h
  obtain ⟨h0,h⟩:=inL_some h
  simp only [pstep,pr1,inL,if_pos h0]
  exact hk _ _ _ _ h
 case astore_n x =>
  obtain ⟨z,S',rfl,h⟩:=pr1_some h
  obtain ⟨h0,h⟩:=inL_some h
  simp only [pstep,pr1,inL,if_pos h0]
  exact hk _ _ _ _ h
 case iinc x z =>
  obtain ⟨a,hg,h⟩:=gi_some h
  obtain ⟨h0,h⟩:=inL_some h
  simp only [pstep,gi,hg,inL,if_pos h0]
  exact hk _ _ _ _ h
 case iadd =>
  obtain ⟨a,b',S',rfl,h⟩:=pi2_some h
  exact hk _ _ _ _ h
 case isub =>
  obtain ⟨a,b',S',rfl,h⟩:=pi2_some h
  exact hk _ _ _ _ h
 case imul =>
  obtain ⟨a,b',S',rfl,h⟩:=pi2_some h
  exact hk _ _ _ _ h
 case iand =>
  obtain ⟨a,b',S',rfl,h⟩:=pi2_some h
  exact hk _ _ _ _ h
 case ior =>
  obtain ⟨a,b',S',rfl,h⟩:=pi2_some h
  exact hk _ _ _ _ h
 case ixor =>
  obtain ⟨a,b',S',rfl,h⟩:=pi2_some h
  exact hk _ _ _ _ h
 case ishl =>
  obtain ⟨a,b',S',rfl,h⟩:=pi2_some h
  exact hk _ _ _ _ h
 case ishr =>
  obtain ⟨a,b',S',rfl,h⟩:=pi2_some h
  exact hk _ _ _ _ h
 case iushr =>
  obtain ⟨a,b',S',rfl,h⟩:=pi2_some h
  exact hk _ _ _ _ h
 case ladd =>
  obtain ⟨a,b',S',rfl,h⟩:=pl2_some h
  exact hk _ _ _ _ h
 case lsub =>
  obtain ⟨a,b',S',rfl,h⟩:=pl2_some h
  exact hk _ _ _ _ h
 case lmul =>
  obtain ⟨a,b',S',rfl,h⟩:=pl2_some h
  exact hk _ _ _ _ h
 case land =>
  obtain ⟨a,b',S',rfl,h⟩:=pl2_some h
  exact hk _ _ _ _ h
 case lor =>
  obtain ⟨a,b',S',rfl,h⟩:=pl2_some h
  exact hk _ _ _ _ h
 case lxor =>
  obtain ⟨a,b',S',rfl,h⟩:=pl2_some h
  exact hk _ _ _ _ h
 case lcmp =>
  obtain ⟨a,b',S',rfl,h⟩:=pl2_some h
  exact hk _ _ _ _ h
 case lshl =>
  obtain ⟨a,b',S',rfl,h⟩:=pli_some h
  exact hk _ _ _ _ h
 case lshr =>
  obtain ⟨a,b',S',rfl,h⟩:=pli_some h
  exact hk _ _ _ _ h
 case lushr =>
  obtain ⟨a,b',S',rfl,h⟩:=pli_some h
  exact hk _ _ _ _ h
 case idiv =>
  obtain ⟨a,b',S',rfl,h⟩:=pi2_some h
  simp only [pstep,pi2] at h ⊢
  by_cases hz:b'=0
  ·rw [if_pos hz] at h; cases h
  ·rw [if_neg hz] at h ⊢; exact hk _ _ _ _ h
 case irem =>
  obtain ⟨a,b',S',rfl,h⟩:=pi2_some h
  simp only [pstep,pi2] at h ⊢
  by_cases hz:b'=0
  ·rw [if_pos hz] at h; cases h
  ·rw [if_neg hz] at h ⊢; exact hk _ _ _ _ h
 case ldiv =>
  obtain ⟨a,b',S',rfl,h⟩:=pl2_some h
  simp only [pstep,pl2] at h ⊢
  by_cases hz:b'=0
  ·rw [if_pos hz] at h; cases h
  ·rw [if_neg hz] at h ⊢; exact hk _ _ _ _ h
 case lrem =>
  obtain ⟨a,b',S',rfl,h⟩:=pl2_some h
  simp only [pstep,pl2] at h ⊢
  by_cases hz:b'=0
  ·rw [if_pos hz] at h; cases h
  ·rw [if_neg hz] at h ⊢; exact hk _ _ _ _ h
 case ineg =>
  obtain ⟨a,S',rfl,h⟩:=pi1_some h
  exact hk _ _ _ _ h
 case i2l =>
  obtain ⟨a,S',rfl,h⟩:=pi1_some h
  exact hk _ _ _ _ h
 case i2b =>
  obtain ⟨a,S',rfl,h⟩:=pi1_some h
  exact hk _ _ _ _ h
 case lneg =>
  obtain ⟨a,S',rfl,h⟩:=pl1_some h
  exact hk _ _ _ _ h
 case l2i =>
  obtain ⟨a,S',rfl,h⟩:=pl1_some h
  exact hk _ _ _ _ h
 case goto o =>
  exact hk _ _ _ _ h
 case if_icmp c o =>
  obtain ⟨a,b',S',rfl,h⟩:=pi2_some h
  exact br_mono (hk _ _ _ _) (hk _ _ _ _) h
 case ifCond c o =>
  obtain ⟨a,S',rfl,h⟩:=pi1_some h
  exact br_mono (hk _ _ _ _) (hk _ _ _ _) h
 case tableswitch d lo hi os =>
  obtain ⟨a,S',rfl,h⟩:=pi1_some h
  exact tsw_mono _ _ _ (fun o=>hk _ _ _ _) (hk _ _ _ _) h
 case dup =>
  obtain ⟨v,S',rfl,hv,h⟩:=dup_some h
  rcases v with z | z | z
  ·exact hk _ _ _ _ h
  ·cases hv
  ·exact hk _ _ _ _ h
 case pop =>
  obtain ⟨v,S',rfl,hv,h⟩:=pop_some h
  rcases v with z | z | z
  ·exact hk _ _ _ _ h
  ·cases hv
  ·exact hk _ _ _ _ h
 case dup2 =>
  rcases dup2_some h with ⟨z,S',rfl,h⟩ | ⟨u,v,S',rfl,hu,hv,h⟩
  ·exact hk _ _ _ _ h
  ·rcases u with z | z | z
   ·rcases v with y | y | y
    ·exact hk _ _ _ _ h
    ·cases hv
    ·exact hk _ _ _ _ h
   ·cases hu
   ·rcases v with y | y | y
    ·exact hk _ _ _ _ h
    ·cases hv
    ·exact hk _ _ _ _ h
 all_goals cases h
theorem cond_mono {α:Type} {b:Bool} {x x':Option α} {r:α} (h1:x=some r→x'=some r) (h:cond b x none=some r):cond b x' none=some r:=by
 cases b
 ·cases h
 ·exact h1 h
theorem ite_mono {α:Type} {c:Prop} [Decidable c] {x x':Option α} {r:α} (h1:x=some r→x'=some r) (h:(if c then x else none)=some r):(if c then x' else none)=some r:=by
 by_cases q:c
 ·rw [if_pos q] at h ⊢; exact h1 h
 ·rw [if_neg q] at h; cases h
theorem bind_mono {α β:Type} {x x':Option α} {f f':α→Option β} {r:β} (h1:∀ a,x=some a→x'=some a) (h2:∀ a,f a=some r→f' a=some r) (h:x.bind f=some r):x'.bind f'=some r:=by
 obtain ⟨a,q1,q2⟩:=Option.bind_eq_some_iff.mp h
 rw [h1 a q1]; exact h2 a q2
theorem ald_mono {P:PT} {kd:Nat→Bool} {S:List OV} {t:Nat} {f f':Nat→Int→List OV→RT} {r:Option OV×Nat×OMem} (hf:∀ a b c,f a b c=some r→f' a b c=some r) (h:ald P kd S t f=some r):ald P kd S t f'=some r:=by
 unfold ald at h ⊢
 split at h
 ·split at h
  ·rename_i hl
   try simp only [hl]
   exact cond_mono (ite_mono (hf _ _ _)) h
  ·cases h
 ·cases h
theorem asi_mono {P:PT} {kd:Nat→Bool} {S:List OV} {t:Nat} {f f':Nat→Nat→Int→Int→List OV→RT} {r:Option OV×Nat×OMem} (hf:∀ a b c d e,f a b c d e=some r→f' a b c d e=some r) (h:asi P kd S t f=some r):asi P kd S t f'=some r:=by
 unfold asi at h ⊢
 split at h
 ·split at h
  ·rename_i hl
   try simp only [hl]
   exact cond_mono (ite_mono (hf _ _ _ _ _)) h
  ·cases h
 ·cases h
theorem asl_mono {P:PT} {kd:Nat→Bool} {S:List OV} {t:Nat} {f f':Nat→Int→Int→List OV→RT} {r:Option OV×Nat×OMem} (hf:∀ a b c d,f a b c d=some r→f' a b c d=some r) (h:asl P kd S t f=some r):asl P kd S t f'=some r:=by
 unfold asl at h ⊢
 split at h
 ·split at h
  ·rename_i hl
   try simp only [hl]
   exact cond_mono (ite_mono (hf _ _ _ _)) h
  ·cases h
 ·cases h
theorem stepI_mono {P:PT} {k k':Nat→Nat→OLs→List OV→Nat→OMem→RT} (hk:∀ a b c d e f r,k a b c d e f=some r→k' a b c d e f=some r) {q pc len t:Nat} {L:OLs} {S:List OV} {m:OMem} {i:Instr} {r:Option OV×Nat×OMem} (h:stepI P k q pc L S t m i len=some r):stepI P k' q pc L S t m i len=some r:=by
 cases hsp:isSpec i with
 | false =>
  simp only [stepI,hsp,cond_false] at h ⊢
  exact pstep_mono (fun _ _ _ _=>hk _ _ _ _ _ _ _) h
 | true =>
 simp only [stepI,hsp,cond_true] at h ⊢
 cases i
 case getfield x =>
  simp only [stepS] at h ⊢
  split at h
  ·split at h
   ·rename_i hf; (try simp only [hf]); exact cond_mono (hk _ _ _ _ _ _ _) h
   ·rename_i hf; (try simp only [hf]); exact hk _ _ _ _ _ _ _ h
   ·rename_i hf; (try simp only [hf]); exact hk _ _ _ _ _ _ _ h
   ·rename_i hf; (try simp only [hf]); exact hk _ _ _ _ _ _ _ h
   ·cases h
  ·cases h
 case putfield x =>
  simp only [stepS] at h ⊢
  split at h
  ·rename_i hf
   split at h
   ·(try simp only [hf]); exact cond_mono (hk _ _ _ _ _ _ _) h
   ·cases h
  ·rename_i hf
   split at h
   ·(try simp only [hf]); exact cond_mono (hk _ _ _ _ _ _ _) h
   ·cases h
  ·rename_i hf
   split at h
   ·(try simp only [hf]); exact cond_mono (hk _ _ _ _ _ _ _) h
   ·cases h
  ·rename_i hf
   split at h
   ·(try simp only [hf]); exact cond_mono (hk _ _ _ _ _ _ _) h
   ·cases h
  ·cases h
 case iaload=>exact ald_mono (fun _ _ _=>hk _ _ _ _ _ _ _) h
 case baload=>exact ald_mono (fun _ _ _=>hk _ _ _ _ _ _ _) h
 case laload=>exact ald_mono (fun _ _ _=>hk _ _ _ _ _ _ _) h
 case iastore=>exact asi_mono (fun _ _ _ _ _=>hk _ _ _ _ _ _ _) h
 case bastore=>exact asi_mono (fun _ _ _ _ _=>hk _ _ _ _ _ _ _) h
 case lastore=>exact asl_mono (fun _ _ _ _=>hk _ _ _ _ _ _ _) h
 case arraylength =>
  simp only [stepS] at h ⊢
  split at h
  ·split at h
   ·rename_i hf; (try simp only [hf]); exact cond_mono (hk _ _ _ _ _ _ _) h
   ·cases h
  ·cases h
 case newarray a =>
  simp only [stepS] at h ⊢
  split at h
  ·split at h
   ·rename_i hf; (try simp only [hf]); exact cond_mono (ite_mono (hk _ _ _ _ _ _ _)) h
   ·cases h
  ·cases h
 case invokespecial x =>
  simp only [stepS] at h ⊢
  split at h
  ·split at h
   ·rename_i hf; (try simp only [hf]); exact cond_mono (hk _ _ _ _ _ _ _) h
   ·cases h
  ·cases h
 case invokevirtual x =>
  simp only [stepS] at h ⊢
  split at h
  ·rename_i h0
   split at h
   ·rename_i h1 h2
    split at h
    ·rename_i h3
     try simp only [h0,h1,h2,h3]
     exact cond_mono (bind_mono (fun _=>hk _ _ _ _ _ _ _) (fun _=>hk _ _ _ _ _ _ _)) h
    ·cases h
   ·cases h
  ·cases h
 case ireturn=>exact h
 case lreturn=>exact h
 case return_=>exact h
 all_goals cases hsp
theorem runP_mono {P:PT} (q pc:Nat) (L:OLs) (S:List OV) (t:Nat) (m:OMem):Mono (fun n=>runP P n q pc L S t m):=by
 intro n
 show ∀ r,runP P n q pc L S t m=some r→runP P (n+1) q pc L S t m=some r
 induction n generalizing q pc L S t m with
 | zero=>intro r h; cases h
 | succ n ih =>
  intro r h
  have h:stepP P (runP P n) q pc L S t m=some r:=h
  show stepP P (runP P (n+1)) q pc L S t m=some r
  unfold stepP at h ⊢
  split at h
  ·rename_i hc
   try simp only [hc]
   exact stepI_mono (fun a b c d e f=>ih a b c d e f) h
  ·cases h
theorem stepLI_mono {P:PT} {Q:LT} {T mo:Nat} {sc:ScT} {kP kP':Nat→Nat→OLs→List OV→Nat→OMem→RT} {k k':Nat→Nat→OLs→List OV→OWd→RTL} (hp:∀ a b c d e f r,kP a b c d e f=some r→kP' a b c d e f=some r) (hk:∀ a b c d e r,k a b c d e=some r→k' a b c d e=some r) {q pc len:Nat} {L:OLs} {S:List OV} {W:OWd} {i:Instr} {r:Option OV×OWd}
  (h:stepLI P Q T mo sc kP k q pc L S W i len=some r):stepLI P Q T mo sc kP' k' q pc L S W i len=some r:=by
 cases hsp:isSpecL i with
 | false =>
  simp only [stepLI,hsp,cond_false] at h ⊢
  exact pstep_mono (fun _ _ _ _=>hk _ _ _ _ _ _) h
 | true =>
 simp only [stepLI,hsp,cond_true] at h ⊢
 cases i
 case new x=>exact cond_mono (hk _ _ _ _ _ _) h
 case arraylength =>
  simp only [stepLS] at h ⊢
  split at h
  ·exact cond_mono (hk _ _ _ _ _ _) h
  ·cases h
 case iaload =>
  simp only [stepLS] at h ⊢
  split at h
  ·exact cond_mono (ite_mono (hk _ _ _ _ _ _)) h
  ·cases h
 case invokespecial x =>
  simp only [stepLS] at h ⊢
  split at h
  ·rename_i h1 h2
   split at h
   ·rename_i h3
    split at h
    ·rename_i h4
     try simp only [h1,h2,h3,h4]
     exact cond_mono (bind_mono (fun _=>hp _ _ _ _ _ _ _) (fun _=>cond_mono (hk _ _ _ _ _ _))) h
    ·cases h
   ·cases h
  ·cases h
 case invokevirtual x =>
  simp only [stepLS] at h ⊢
  split at h
  ·rename_i h0
   split at h
   ·rename_i h1 h2
    split at h
    ·rename_i h3
     split at h
     ·rename_i h4
      try simp only [h0,h1,h2,h3,h4]
      exact cond_mono (bind_mono (fun _=>hp _ _ _ _ _ _ _) (fun _=>hk _ _ _ _ _ _)) h
     ·cases h
    ·cases h
   ·cases h
  ·cases h
 case invokestatic x =>
  simp only [stepLS] at h ⊢
  split at h
  ·rename_i h0
   split at h
   ·rename_i h1 h2
    split at h
    ·rename_i h3
     try simp only [h0,h1,h2,h3]
     exact cond_mono (bind_mono (fun _=>hk _ _ _ _ _ _) (fun _=>hk _ _ _ _ _ _)) h
    ·cases h
   ·cases h
  ·cases h
 case ireturn=>exact h
 case lreturn=>exact h
 case return_=>exact h
 all_goals cases hsp
theorem runL_mono {P:PT} {Q:LT} {T mo:Nat} {sc:ScT} (q pc:Nat) (L:OLs) (S:List OV) (W:OWd):Mono (fun n=>runL P Q T mo sc n q pc L S W):=by
 intro n
 show ∀ r,runL P Q T mo sc n q pc L S W=some r→runL P Q T mo sc (n+1) q pc L S W=some r
 induction n generalizing q pc L S W with
 | zero=>intro r h; cases h
 | succ n ih =>
  intro r h
  have h:stepL P Q T mo sc (runP P n) (runL P Q T mo sc n) q pc L S W=some r:=h
  show stepL P Q T mo sc (runP P (n+1)) (runL P Q T mo sc (n+1)) q pc L S W=some r
  unfold stepL at h ⊢
  split at h
  ·rename_i hc
   try simp only [hc]
   exact stepLI_mono (fun a b c d e f=>runP_mono a b c d e f n) (fun a b c d e=>ih a b c d e) h
  ·cases h
theorem cond_Mono {α:Type} {b:Bool} {F:Nat→Option α} (h:Mono F):Mono (fun n=>cond b (F n) none):=fun n r hn=>by
 cases b
 ·cases hn
 ·exact h n r hn
end Jvm.OwnMini
namespace Jvm.OwnMini
open Jvm Jvm.ClassFile Sem Op Lib Jvm.Free Jvm.Stand Jvm.LawKit Jvm.RoadKit
def AllL {α:Type} (Q:Nat→α→Prop):List (Nat×α)→Prop
 | []=>True
 | x :: L=>Q x.1 x.2∧AllL Q L
def AllN (Q:Nat→Prop):Nat→Prop
 | 0=>True
 | n+1=>AllN Q n∧Q n
theorem allN {Q:Nat→Prop}:∀ {N:Nat},AllN Q N→∀ q,q<N→Q q
 | 0,_,q,h=>by omega
 | N+1,⟨h1,h2⟩,q,h=>by
  by_cases e:q=N
  ·subst e; exact h2
  ·exact allN h1 q (by omega)
theorem cond_ge {α:Type} {N x:Nat} {y:Option α} (h:N≤x):cond (Nat.blt x N) y none=none:=by
 have:Nat.blt x N=false:=by
  cases hb:Nat.blt x N with
  | false=>rfl
  | true=>exact absurd (Nat.le_of_ble_eq_true hb) (by omega)
 rw [this]; rfl
theorem allL_mem {α:Type} {Q:Nat→α→Prop}:∀ {L:List (Nat×α)},AllL Q L→∀ x e,(x,e)∈L→Q x e
 | [],_,x,e,h=>by cases h
 | y :: L,⟨h1,h2⟩,x,e,h=>by
  cases h with
  | head=>exact h1
  | tail _ h=>exact allL_mem h2 x e h
theorem tab_all {α:Type} [DecidableEq α] {f:Nat→Option α} (N:Nat) (L:List (Nat×α)) (hN:∀ x,N≤x→f x=none) (h:((List.range N).all fun x=>match f x with | none=>true | some e=>L.any fun y=>decide (y=(x,e)))=true) {Q:Nat→α→Prop} (hQ:AllL Q L):∀ x e,f x=some e→Q x e:=by
 intro x e hx
 by_cases hlt:x<N
 ·have h1:=List.all_eq_true.mp h x (List.mem_range.mpr hlt)
  rw [hx] at h1
  obtain ⟨y,hy,h2⟩:=List.any_eq_true.mp h1
  have h3:=of_decide_eq_true h2
  subst h3
  exact allL_mem hQ x e hy
 ·rw [hN x (by omega)] at hx; cases hx
theorem code_all {f:Nat→Option (Instr×Nat)} {bytes:ByteArray} (N:Nat) (hN:∀ x,N≤x→f x=none) (h:((List.range N).all fun pc=>match f pc with | none=>true | some (i,len)=>decide (decode bytes pc=.ok (i,len)) && chk pc i len)=true):∀ pc i len,f pc=some (i,len)→decode bytes pc=.ok (i,len)∧chk pc i len=true:=by
 intro pc i len hx
 by_cases hlt:pc<N
 ·have h1:=List.all_eq_true.mp h pc (List.mem_range.mpr hlt)
  rw [hx] at h1
  simp only [Bool.and_eq_true,decide_eq_true_eq] at h1
  exact h1
 ·rw [hN pc (by omega)] at hx; cases hx
abbrev AtL (bytes:ByteArray):Type:={l:List (Nat×Instr×Nat) // ∀ e∈l,decode bytes e.1=.ok e.2}
def cN {bytes:ByteArray}:AtL bytes:=⟨[],fun _ h=>nomatch h⟩
def cD {bytes:ByteArray} {pc:Nat} {i:Instr} {len:Nat} (h:decode bytes pc=.ok (i,len)) (t:AtL bytes):AtL bytes:=⟨(pc,i,len) :: t.1,fun e he=>(List.mem_cons.mp he).elim (fun z=>z ▸ h) (t.2 e)⟩
def cA {bytes:ByteArray} (s t:AtL bytes):AtL bytes:=⟨s.1 ++ t.1,fun e he=>(List.mem_append.mp he).elim (s.2 e) (t.2 e)⟩
theorem code_allA {f:Nat→Option (Instr×Nat)} {bytes:ByteArray} (N:Nat) (l:AtL bytes) (hN:∀ x,N≤x→f x=none) (h:((List.range N).filterMap fun pc=>(f pc).map fun x=>(pc,x))=l.1) (hk:(l.1.all fun e=>chk e.1 e.2.1 e.2.2)=true):∀ pc i len,f pc=some (i,len)→decode bytes pc=.ok (i,len)∧chk pc i len=true:=by
 intro pc i len hx
 by_cases hlt:pc<N
 ·have m:(pc,i,len)∈l.1:=by
   rw [← h]
   exact List.mem_filterMap.mpr ⟨pc,List.mem_range.mpr hlt,by rw [hx]; rfl⟩
  have d:decode bytes pc=.ok (i,len):=l.2 (pc,i,len) m
  have c:chk pc i len=true:=List.all_eq_true.mp hk (pc,i,len) m
  exact ⟨d,c⟩
 ·rw [hN pc (by omega)] at hx; cases hx
def fkdOf (f:Nat→Option (Nat×Nat×Bool)):FK:=fun z=>match z with
 | .ofNat n=>f n
 | .negSucc _=>none
def fnmOf (f:Nat→String×String):FN:=fun z=>f z.toNat
theorem names_all {f:Nat→Option (Nat×Nat×Bool)} {g:Nat→String×String} (N:Nat) (hN:∀ x,N≤x→f x=none) (h:((List.range N).all fun n=>(List.range N).all fun n'=>Nat.beq n n' || (match f n,f n' with | some _,some _=>decide ((g n).1≠(g n').1) | _,_=>true))=true) :
  ∀ z z' x x',fkdOf f z=some x→fkdOf f z'=some x'→z≠z'→(fnmOf g z).1≠(fnmOf g z').1:=by
 intro z z' x x' h1 h2 hne
 match z,z',h1,h2 with
 | .ofNat n,.ofNat n',h1,h2 =>
  have h1:f n=some x:=h1
  have h2:f n'=some x':=h2
  have l1:n<N:=Nat.lt_of_not_le fun q=>by rw [hN n q] at h1; cases h1
  have l2:n'<N:=Nat.lt_of_not_le fun q=>by rw [hN n' q] at h2; cases h2
  have q:=List.all_eq_true.mp (List.all_eq_true.mp h n (List.mem_range.mpr l1)) n' (List.mem_range.mpr l2)
  rw [h1,h2] at q
  simp only [Bool.or_eq_true,decide_eq_true_eq] at q
  rcases q with q | q
  ·exact absurd (congrArg Int.ofNat (Nat.eq_of_beq_eq_true q)) hne
  ·exact q
theorem ptrs_all {f:Nat→Option (Nat×Nat×Bool)} (N:Nat) (hN:∀ x,N≤x→f x=none) (h:((List.range N).all fun n=>(List.range N).all fun n'=>Nat.beq n n' || (match f n,f n' with | some (0,j,_),some (0,j',_)=>decide (j≠j') | _,_=>true))=true) :
  ∀ z z' j b b',fkdOf f z=some (0,j,b)→fkdOf f z'=some (0,j,b')→z=z':=by
 intro z z' j b b' h1 h2
 match z,z',h1,h2 with
 | .ofNat n,.ofNat n',h1,h2 =>
  have h1:f n=some (0,j,b):=h1
  have h2:f n'=some (0,j,b'):=h2
  have l1:n<N:=Nat.lt_of_not_le fun q=>by rw [hN n q] at h1; cases h1
  have l2:n'<N:=Nat.lt_of_not_le fun q=>by rw [hN n' q] at h2; cases h2
  have q:=List.all_eq_true.mp (List.all_eq_true.mp h n (List.mem_range.mpr l1)) n' (List.mem_range.mpr l2)
  rw [h1,h2] at q
  simp only [Bool.or_eq_true,decide_eq_true_eq] at q
  rcases q with q | q
  ·rw [Nat.eq_of_beq_eq_true q]
  ·exact absurd rfl q
theorem fkd_all {f:Nat→Option (Nat×Nat×Bool)} {Q:Int→Nat→Nat→Bool→Prop} (h:∀ n e,f n=some e→Q (Int.ofNat n) e.1 e.2.1 e.2.2):∀ z kd j b,fkdOf f z=some (kd,j,b)→Q z kd j b:=by
 intro z kd j b hz
 match z,hz with
 | .ofNat n,hz=>exact h n _ hz
theorem lawMet {P:PT} {Q:LT} {C own:String} {fnm:FN} {fkd:FK} {nm lnm:Nat→MethodName} {bys lbys:Nat→ByteArray} {nA nf mo:Nat} {a0:Array Value} {Z:State} {sc:ScT} (HT:TabP P C fnm fkd nm bys nA nf a0 Z) (HL:TabL P Q C own nm lnm lbys a0 Z) (hA1:1≤nA) (l:Launch)
  {x:MethodName} (hxc:x.cls=own) {ps:List Nat} {ml fr lc:Nat} (hq:linf Q 0=some (ps,ml,2,fr,lc)) {n:Nat} {as:List OV} {W':OWd} (hrun:runL P Q (2*nA) mo sc n 0 0 (initL as ml) [] []=some (some (vi 1),W')) (hsz:(initL as ml).length≤ml)
  (ws:List Jvm.Cond) {rm:Room} (hfr:fr≤rm.frames) (hlc:lc≤rm.locals) (hce:mo*(1+nA)≤rm.cells) (hsl:mo*(nf+psum P nA)≤rm.slots) {h:Heap} {n0:Nat} (hn0:n0≤h.size) {A:Nat→Addr} (hs:ScR Z h n0 (A 0) sc) {vals:List Value} (hv:SR A 0 as vals) :
  MetFree l x (head1 (Jvm.Cond.code x (lbys 0) ml (some .boolean) :: ws) rm) (fun a U=>a=vals.toArray∧Z.Warmed39 U.vm∧U.heap=h) (fun _ _ _ _ _=>True) (fun _ U o U'=>∃ L,o=.returned (some (.int 1))∧Fr n0 L∧FrameEnd U o U' L rm.cells rm.slots):=by
 have HL':=HL
 obtain ⟨-,-,-,-,-,-,-,hpn,-⟩:=HL'
 refine MetFree.of_bodySF (plainFor_of_name (by rw [hxc]; exact hpn)) hisR ?_
 intro p e s m' args below meth c s₁ Bd hml0 hP hK
 obtain ⟨rfl,hZ,hh⟩:=hP
 have X0:=Stand.of_body Bd
 have e0:s₁.heap=h:=by rw [← hh,Bd.state]; rfl
 have hown:s.vm.findClass own=some m'.cls:=by rw [← hxc]; exact findClass_of_methodNamed Bd.named
 have hL:=entry_rel (n:=ml) hv
 have hz:(argsToLocals vals.toArray ml).size=ml:=by
  rw [← hL.1]
  refine Nat.le_antisymm hsz ?_
  simp only [initL,List.length_append,List.length_replicate]; omega
 have hRW:RepW P C fnm fkd Z sc s₁.heap A (fun _ _=>0) n0 []:=by
  rw [e0]
  exact ⟨fun k t m q=>(by cases q),fun k k' t m t' m2 j j' q=>(by cases q),hs⟩
 obtain ⟨v,T',A',AO',lw,cells',slots',h1,h2,h3,h4,h5,h6,h7,h8,h9,h10,h11⟩:=soundL HT HL hA1 l n 0 0 _ [] [] _ W' hrun ps ml 2 fr lc hq p e _ s m' _ below meth c s₁ [] 0 0 A (fun _ _=>0) (argsToLocals vals.toArray ml) [] n0 X0 Bd.exec hZ hown Bd.bytes hml0 Bd.returns
  hRW hL trivial hz (by rw [e0]; exact hn0) hfr hlc (Nat.zero_le _) (Nat.zero_le _) (Nat.zero_le _) (fun _=>⟨Nat.zero_le _,Nat.zero_le _,hce,hsl⟩)
 obtain ⟨b1,b2,b3⟩:=h7 rfl
 obtain ⟨y,rfl,hy⟩:=h9
 obtain rfl:y=1:=Int32.toInt_inj.mp hy
 obtain ⟨fs,hr,hrun',hended,hW,hsame⟩:=h1.leave (v:=some (.int 1)) h10
 have d1:=cW_le 1 nA W'
 have d2:=cW_le nf (psum P nA) W'
 have d3:W'.length*(1+nA)≤mo*(1+nA):=Nat.mul_le_mul_right _ b3
 have d4:W'.length*(nf+psum P nA)≤mo*(nf+psum P nA):=Nat.mul_le_mul_right _ b3
 exact ⟨_,_,h11 fs hr,hrun',hended,lw,rfl,h6,⟨_,rfl⟩,hW,hsame.mono (by omega) (by omega)⟩
end Jvm.OwnMini
namespace Jvm.OwnMini
def Ok {α:Type} (o:Option α) (Q:α→Prop):Prop:=∃ a,o=some a∧Q a
section
variable {α β σ ε:Type} {Q:α→Prop}
theorem Ok.ret {a:α} (h:Q a):Ok (some a) Q:=⟨a,rfl,h⟩
theorem Ok.mono {o:Option α} {P:α→Prop} (h:Ok o P) (h2:∀ a,P a→Q a):Ok o Q:=by
 obtain ⟨a,e,q⟩:=h; exact ⟨a,e,h2 a q⟩
theorem Ok.bind {f:Option β} {g:β→Option α} {P:β→Prop} (h:Ok f P) (h2:∀ b,P b→Ok (g b) Q):Ok (f.bind g) Q:=by
 obtain ⟨a,e,q⟩:=h
 obtain ⟨c,e2,q2⟩:=h2 a q
 exact ⟨c,by rw [e]; exact e2,q2⟩
theorem Ok.bindE {f:Option β} {g:β→Option α} {b:β} (h:f=some b) (h2:Ok (g b) Q):Ok (f.bind g) Q:=by
 rw [h]; exact h2
theorem Ok.ite {c:Prop} [Decidable c] {x y:Option α} (h1:c→Ok x Q) (h2:¬ c→Ok y Q):Ok (if c then x else y) Q:=by
 by_cases h:c
 ·rw [if_pos h]; exact h1 h
 ·rw [if_neg h]; exact h2 h
theorem Ok.pos {c:Prop} [Decidable c] {x y:Option α} (h:c) (h1:Ok x Q):Ok (if c then x else y) Q:=by rw [if_pos h]; exact h1
theorem Ok.neg {c:Prop} [Decidable c] {x y:Option α} (h:¬ c) (h1:Ok y Q):Ok (if c then x else y) Q:=by rw [if_neg h]; exact h1
theorem Ok.lp {body:σ→Option (σ⊕ε)} {I:σ→Prop} {μ:σ→Nat} {Qx:ε→Prop} (h:∀ s,I s→Ok (body s) (fun x=>match x with | .inl s'=>I s'∧μ s'<μ s | .inr e=>Qx e)):∀ (n:Nat) (s:σ),I s→μ s<n→Ok (OwnMini.lp body n s) Qx
 | 0,s,_,hn=>by omega
 | n+1,s,hI,hn=>by
  obtain ⟨x,e,q⟩:=h s hI
  unfold OwnMini.lp
  rw [e]
  cases x with
  | inl s'=>exact Ok.lp h n s' q.1 (by have:=q.2; omega)
  | inr e'=>exact ⟨e',rfl,q⟩
theorem lp_more {body:σ→Option (σ⊕ε)} {n:Nat} {s s':σ} (h:body s=some (.inl s')):lp body (n+1) s=lp body n s':=by
 show (match body s with | none=>none | some (.inl s')=>lp body n s' | some (.inr e)=>some e)=_
 rw [h]
theorem lp_out {body:σ→Option (σ⊕ε)} {n:Nat} {s:σ} {e:ε} (h:body s=some (.inr e)):lp body (n+1) s=some e:=by
 show (match body s with | none=>none | some (.inl s')=>lp body n s' | some (.inr e)=>some e)=_
 rw [h]
end
theorem NN_eq:NN=4611686018427387904:=rfl
theorem w32_id {z:Int} (h:-2147483648≤z∧z<2147483648):w32 z=z:=by unfold w32; omega
theorem w64_id {z:Int} (h:-9223372036854775808≤z∧z<9223372036854775808):w64 z=z:=by unfold w64; omega
theorem sto_at (m:OMem) (k:Nat) (i z:Int):sto m k i z k i=z:=by simp [sto]
theorem sto_k (m:OMem) {k k':Nat} (i z i':Int) (h:k'≠k):sto m k i z k' i'=m k' i':=by simp [sto,h]
theorem sto_i (m:OMem) (k k':Nat) {i i':Int} (z:Int) (h:i'≠i):sto m k i z k' i'=m k' i':=by simp [sto,h]
end Jvm.OwnMini
namespace Jvm.OwnMini
section
variable {α β σ ε:Type} {Q:α→Prop}
theorem Ok.bind' {f:Option β} {g:β→Option α} (h:Ok f (fun b=>Ok (g b) Q)):Ok (f.bind g) Q:=Ok.bind h (fun _ h=>h)
theorem Ok.grd {c:Prop} [Decidable c] {x:Option α} (h:c) (h1:Ok x Q):Ok (if c then x else none) Q:=Ok.pos h h1
theorem Ok.lp1 {body:σ→Option (σ⊕α)} {n:Nat} {s:σ} (h:Ok (body s) (fun x=>match x with | .inl s'=>Ok (OwnMini.lp body n s') Q | .inr e=>Q e)):Ok (OwnMini.lp body (n+1) s) Q:=by
 obtain ⟨x,e,q⟩:=h
 unfold OwnMini.lp
 rw [e]
 cases x with
 | inl s'=>exact q
 | inr e'=>exact ⟨e',rfl,q⟩
theorem Ok.lpNN {body:σ→Option (σ⊕α)} {s:σ} (h:Ok (body s) (fun x=>match x with | .inl s'=>Ok (OwnMini.lp body 4611686018427387903 s') Q | .inr e=>Q e)):Ok (OwnMini.lp body NN s) Q:=Ok.lp1 (n:=4611686018427387903) h
theorem Ok.loop {body:σ→Option (σ⊕α)} {s:σ} (I:σ→Prop) (μ:σ→Nat) (hI:I s) (hμ:μ s<4611686018427387904) (h:∀ s,I s→Ok (body s) (fun x=>match x with | .inl s'=>I s'∧μ s'<μ s | .inr e=>Q e)):Ok (OwnMini.lp body NN s) Q :=
 Ok.lp (Qx:=Q) (fun s hs=>by obtain ⟨x,e,q⟩:=h s hs; exact ⟨x,e,by cases x <;> exact q⟩) NN s hI hμ
end
theorem Ok.law {o:Option (Int×OWd)} (h:Ok o (fun r=>r.1=1)):∃ W,o=some (1,W):=by
 obtain ⟨⟨a,W⟩,e,q⟩:=h
 cases q
 exact ⟨W,e⟩
theorem w32_rng (z:Int):-2147483648≤w32 z∧w32 z<2147483648:=by unfold w32; omega
theorem w32_al (a b:Int):w32 (w32 a+b)=w32 (a+b):=by unfold w32; omega
theorem w32_ar (a b:Int):w32 (a+w32 b)=w32 (a+b):=by unfold w32; omega
theorem w32_sl (a b:Int):w32 (w32 a - b)=w32 (a - b):=by unfold w32; omega
theorem w32_sr (a b:Int):w32 (a - w32 b)=w32 (a - b):=by unfold w32; omega
theorem w32_m4 (a:Int):w32 (w32 a*4)=w32 (a*4):=by unfold w32; omega
theorem w32_m6 (a:Int):w32 (w32 a*6)=w32 (a*6):=by unfold w32; omega
theorem w32_m10 (a:Int):w32 (w32 a*10)=w32 (a*10):=by unfold w32; omega
theorem w32_m16 (a:Int):w32 (w32 a*16)=w32 (a*16):=by unfold w32; omega
theorem w32_m24 (a:Int):w32 (w32 a*24)=w32 (a*24):=by unfold w32; omega
theorem z0_at (k:Nat) (i:Int):z0 k i=0:=rfl
end Jvm.OwnMini
namespace Jvm.OwnMini
open Jvm.Kit
theorem ofInt32_toInt (z:Int):(Int32.ofInt z).toInt=w32 z:=by
 rw [Int32.toInt_ofInt]; unfold w32; simp only [Int.bmod,Int32.size]; split <;> omega
theorem ofInt64_toInt (z:Int):(Int64.ofInt z).toInt=w64 z:=by
 rw [Int64.toInt_ofInt]; unfold w64; simp only [Int.bmod,Int64.size]; split <;> omega
theorem and32_1 (z:Int):and32 z 1=z % 2:=by
 unfold and32; rw [i32_mask _ _ (k:=1) (by decide) (by decide),ofInt32_toInt]; unfold w32; omega
theorem and32_3 (z:Int):and32 z 3=z % 4:=by
 unfold and32; rw [i32_mask _ _ (k:=2) (by decide) (by decide),ofInt32_toInt]; unfold w32; omega
theorem and32_7 (z:Int):and32 z 7=z % 8:=by
 unfold and32; rw [i32_mask _ _ (k:=3) (by decide) (by decide),ofInt32_toInt]; unfold w32; omega
theorem and32_15 (z:Int):and32 z 15=z % 16:=by
 unfold and32; rw [i32_mask _ _ (k:=4) (by decide) (by decide),ofInt32_toInt]; unfold w32; omega
theorem and32_31 (z:Int):and32 z 31=z % 32:=by
 unfold and32; rw [i32_mask _ _ (k:=5) (by decide) (by decide),ofInt32_toInt]; unfold w32; omega
theorem and32_63 (z:Int):and32 z 63=z % 64:=by
 unfold and32; rw [i32_mask _ _ (k:=6) (by decide) (by decide),ofInt32_toInt]; unfold w32; omega
theorem and32_127 (z:Int):and32 z 127=z % 128:=by
 unfold and32; rw [i32_mask _ _ (k:=7) (by decide) (by decide),ofInt32_toInt]; unfold w32; omega
theorem and32_255 (z:Int):and32 z 255=z % 256:=by
 unfold and32; rw [i32_mask _ _ (k:=8) (by decide) (by decide),ofInt32_toInt]; unfold w32; omega
theorem and32_511 (z:Int):and32 z 511=z % 512:=by
 unfold and32; rw [i32_mask _ _ (k:=9) (by decide) (by decide),ofInt32_toInt]; unfold w32; omega
theorem and32_1023 (z:Int):and32 z 1023=z % 1024:=by
 unfold and32; rw [i32_mask _ _ (k:=10) (by decide) (by decide),ofInt32_toInt]; unfold w32; omega
theorem and32_max (z:Int):and32 z 2147483647=z % 2147483648:=by
 unfold and32; rw [i32_mask _ _ (k:=31) (by decide) (by decide),ofInt32_toInt]; unfold w32; omega
theorem div32_nn {a b:Int} (ha:0≤a) (ha2:a<2147483648) (hb:0<b):div32 a b=a / b:=by
 unfold div32
 rw [Int.tdiv_eq_ediv_of_nonneg ha]
 have h1:0≤a / b:=Int.ediv_nonneg ha (by omega)
 have h2:a / b≤a:=Int.ediv_le_self b ha
 exact w32_id (by omega)
theorem rem32_nn {a b:Int} (ha:0≤a):rem32 a b=a % b:=by
 unfold rem32
 exact Int.tmod_eq_emod_of_nonneg ha
end Jvm.OwnMini
namespace Jvm.OwnMini
open Jvm.Kit
theorem shl1_dec:∀ k:Fin 31,(shl32 1 (k.val:Int))=((2 ^ k.val:Nat):Int):=by decide +kernel
theorem shl1_eq (k:Int) (h:0≤k∧k≤30):shl32 1 k=((2 ^ k.toNat:Nat):Int):=by
 have:=shl1_dec ⟨k.toNat,by omega⟩
 simp only [Int.toNat_of_nonneg h.1] at this
 exact this
theorem shl1_rng (k:Int) (h:0≤k∧k≤10):1≤shl32 1 k∧shl32 1 k≤1024:=by
 have:∀ j:Fin 11,1≤shl32 1 (j.val:Int)∧shl32 1 (j.val:Int)≤1024:=by decide +kernel
 have:=this ⟨k.toNat,by omega⟩
 simp only [Int.toNat_of_nonneg h.1] at this
 exact this
theorem and32_nn {a:Int} (b:Int) (h:0≤a) (h2:a<2147483648):0≤and32 a b∧and32 a b≤a:=by
 have ha:(Int32.ofInt a).toInt=a:=by rw [ofInt32_toInt,w32_id (by omega)]
 have h0:0≤Int32.ofInt a:=by rw [Int32.le_iff_toInt_le,ha]; exact h
 have g:=i32_and_bounds (Int32.ofInt b) h0
 rw [Int32.le_iff_toInt_le,Int32.le_iff_toInt_le,ha,Int32.and_comm] at g
 exact g
end Jvm.OwnMini
namespace Jvm.OwnMini
theorem and32_0 (b:Int):and32 0 b=0:=by unfold and32; simp
theorem or32_shl (a b:Int):or32 0 (shl32 a b)=shl32 a b:=by unfold or32 shl32; rw [Int32.ofInt_toInt]; simp
theorem and32_not (b:Int):and32 b (xor32 b (-1))=0:=by
 unfold and32 xor32
 rw [Int32.ofInt_toInt]
 have:Int32.ofInt b &&& (Int32.ofInt b ^^^ Int32.ofInt (-1))=0:=by
  rw [← Int32.toBitVec_inj]
  simp only [Int32.toBitVec_and,Int32.toBitVec_xor]
  rw [show (Int32.ofInt (-1)).toBitVec=BitVec.allOnes 32 from by decide,show (0:Int32).toBitVec=0#32 from by decide]
  rw [BitVec.xor_allOnes,BitVec.and_not_self]; rfl
 rw [this]; rfl
end Jvm.OwnMini
namespace Jvm.OwnMini
open Jvm Jvm.ClassFile Sem Op Lib Jvm.Free Jvm.Stand Jvm.LawKit Jvm.RoadKit
theorem own_len {Z:State} {args:Array Value} {t:Term} {n:Int32} {a:Addr} {cl:Cell} {ty:FieldType} (h:(Jvm.Cond.le (.length t) (.int n)).value args Z none Z []=some true) (ea:t.eval args Z none [] Z=some (.ref a)) (A:Arr Z Z.heap a cl ty):cl.slots.size<2 ^ 31∧(cl.slots.size:Int)≤n.toInt:=by
 obtain ⟨x,y,e1,-,-,-⟩:=cmp_v (Or.inr (Or.inr h))
 obtain ⟨b,c,f1,f2,f3,rfl⟩:=Jvm.Lib.length_spec e1
 cases ea.symm.trans f1
 cases f2.symm.trans (Arr.fin (Vm.Alike.refl _) A)
 have g:=gotT (Jvm.Cond.le_ints e1 rfl) h
 rw [Int32.le_iff_toInt_le,len_toInt f3] at g
 exact ⟨f3,g⟩
def own_sc (c:Cell) (i:Int):Int:=match c.slots[i.toNat]? with | some (.int x)=>x.toInt | _=>0
theorem own_sc_rng (c:Cell) (i:Int):-2147483648≤own_sc c i∧own_sc c i<2147483648:=by
 unfold own_sc
 split
 ·rename_i x _
  have h1:=x.le_toInt
  have h2:=x.toInt_lt
  omega
 ·omega
theorem own_sc_at {c:Cell} {i:Nat} {x:Int32} (h:c.slots[i]?=some (.int x)):own_sc c (i:Int)=x.toInt:=by
 unfold own_sc
 rw [Int.toNat_natCast,h]
theorem own_elem {Z:State} {a:Addr} {cl:Cell} (hf:Fit Z) (A:Arr Z Z.heap a cl .int) {i:Nat} (hi:i<cl.slots.size) (q:cl.slots.size<2 ^ 31):∃ x:Int32,cl.slots[i]?=some (.int x):=by
 have e1:(i.toInt32).toInt=i:=len_toInt (by omega)
 have e2:(i.toInt32).toNatClampNeg=i:=by simp only [Int32.toNatClampNeg,e1]; rfl
 have hj:¬ (i.toInt32<0∨cl.slots.size≤(i.toInt32).toNatClampNeg):=by
  rw [e2]
  rintro (h | h)
  ·rw [Int32.lt_iff_toInt_lt,e1] at h
   have:(0:Int32).toInt=0:=rfl
   omega
  ·omega
 obtain ⟨v,h1,h2⟩:=elem_fit hf A hj
 obtain ⟨x,rfl⟩:=fit_I h2 (by simp)
 rw [e2] at h1
 exact ⟨x,h1⟩
end Jvm.OwnMini
namespace Jvm.Pilot.@@N@@
open Jvm Jvm.ClassFile Sem Op Lib Jvm.Free Jvm.Stand Jvm.LawKit Jvm.RoadKit Bundle Jvm.Pilot.@@N@@.Jvm.D Jvm.OwnMini
abbrev cb (x k:Nat) (a b:Option (Instr×Nat)):Option (Instr×Nat):=cond (Nat.blt x k) a b
abbrev ce (x k:Nat) (i:Instr) (l:Nat):Option (Instr×Nat):=cond (Nat.beq x k) (some (i,l)) none
abbrev c1 (x k:Nat) (i1:Instr) (l1:Nat):Option (Instr×Nat):=cond (Nat.beq x k) (some (i1,l1)) (none)
abbrev c2 (x k:Nat) (i1:Instr) (l1:Nat) (i2:Instr) (l2:Nat):Option (Instr×Nat):=cond (Nat.beq x k) (some (i1,l1)) (c1 x (k+l1) i2 l2)
abbrev c3 (x k:Nat) (i1:Instr) (l1:Nat) (i2:Instr) (l2:Nat) (i3:Instr) (l3:Nat):Option (Instr×Nat):=cond (Nat.beq x k) (some (i1,l1)) (c2 x (k+l1) i2 l2 i3 l3)
abbrev c4 (x k:Nat) (i1:Instr) (l1:Nat) (i2:Instr) (l2:Nat) (i3:Instr) (l3:Nat) (i4:Instr) (l4:Nat):Option (Instr×Nat):=cond (Nat.beq x k) (some (i1,l1)) (c3 x (k+l1) i2 l2 i3 l3 i4 l4)
abbrev c5 (x k:Nat) (i1:Instr) (l1:Nat) (i2:Instr) (l2:Nat) (i3:Instr) (l3:Nat) (i4:Instr) (l4:Nat) (i5:Instr) (l5:Nat):Option (Instr×Nat):=cond (Nat.beq x k) (some (i1,l1)) (c4 x (k+l1) i2 l2 i3 l3 i4 l4 i5 l5)
abbrev c6 (x k:Nat) (i1:Instr) (l1:Nat) (i2:Instr) (l2:Nat) (i3:Instr) (l3:Nat) (i4:Instr) (l4:Nat) (i5:Instr) (l5:Nat) (i6:Instr) (l6:Nat):Option (Instr×Nat):=cond (Nat.beq x k) (some (i1,l1)) (c5 x (k+l1) i2 l2 i3 l3 i4 l4 i5 l5 i6 l6)
abbrev c7 (x k:Nat) (i1:Instr) (l1:Nat) (i2:Instr) (l2:Nat) (i3:Instr) (l3:Nat) (i4:Instr) (l4:Nat) (i5:Instr) (l5:Nat) (i6:Instr) (l6:Nat) (i7:Instr) (l7:Nat):Option (Instr×Nat):=cond (Nat.beq x k) (some (i1,l1)) (c6 x (k+l1) i2 l2 i3 l3 i4 l4 i5 l5 i6 l6 i7 l7)
abbrev c8 (x k:Nat) (i1:Instr) (l1:Nat) (i2:Instr) (l2:Nat) (i3:Instr) (l3:Nat) (i4:Instr) (l4:Nat) (i5:Instr) (l5:Nat) (i6:Instr) (l6:Nat) (i7:Instr) (l7:Nat) (i8:Instr) (l8:Nat):Option (Instr×Nat):=cond (Nat.beq x k) (some (i1,l1)) (c7 x (k+l1) i2 l2 i3 l3 i4 l4 i5 l5 i6 l6 i7 l7 i8 l8)
def cd_0:Nat→Option (Instr×Nat):=fun p=>cond (Nat.blt p 213) (cb p 112 (cb p 49 (cb p 15 (c8 p 0 (.aload_n 0) 1 (.invokespecial 1) 3 (.aload_n 0) 1 (.bipush 10) 2 (.newarray .int) 2 (.putfield 7) 3 (.aload_n 0) 1 (.bipush 10) 2) (cb p 31 (c8 p 15 (.newarray .int) 2 (.putfield 13) 3 (.aload_n 0) 1 (.bipush 30) 2 (.newarray .int) 2 (.putfield 16) 3 (.aload_n 0) 1 (.bipush 8) 2) (c8 p 31 (.newarray .int) 2 (.putfield 19) 3 (.aload_n 0) 1 (.sipush 324) 3 (.newarray .int) 2 (.putfield 22) 3 (.aload_n 0) 1 (.sipush 3240) 3))) (cb p 80 (cb p 64 (c8 p 49 (.newarray .int) 2 (.putfield 25) 3 (.aload_n 0) 1 (.iconst 4) 1 (.newarray .boolean) 2 (.putfield 28) 3 (.aload_n 0) 1 (.bipush 16) 2) (c8 p 64 (.newarray .boolean) 2 (.putfield 32) 3 (.aload_n 0) 1 (.bipush 64) 2 (.newarray .int) 2 (.putfield 35) 3 (.aload_n 0) 1 (.bipush 64) 2)) (cb p 96 (c8 p 80 (.newarray .int) 2 (.putfield 38) 3 (.aload_n 0) 1 (.bipush 64) 2 (.newarray .int) 2 (.putfield 41) 3 (.aload_n 0) 1 (.bipush 64) 2) (c8 p 96 (.newarray .int) 2 (.putfield 44) 3 (.aload_n 0) 1 (.bipush 64) 2 (.newarray .int) 2 (.putfield 47) 3 (.aload_n 0) 1 (.bipush 64) 2)))) (cb p 158 (cb p 128 (c8 p 112 (.newarray .int) 2 (.putfield 50) 3 (.aload_n 0) 1 (.bipush 64) 2 (.newarray .int) 2 (.putfield 53) 3 (.aload_n 0) 1 (.bipush 64) 2) (cb p 144 (c8 p 128 (.newarray .int) 2 (.putfield 56) 3 (.aload_n 0) 1 (.bipush 64) 2 (.newarray .int) 2 (.putfield 59) 3 (.aload_n 0) 1 (.bipush 64) 2) (c8 p 144 (.newarray .int) 2 (.putfield 62) 3 (.aload_n 0) 1 (.iconst 3) 1 (.newarray .int) 2 (.putfield 65) 3 (.aload_n 0) 1 (.iconst 3) 1))) (cb p 187 (cb p 172 (c8 p 158 (.newarray .int) 2 (.putfield 68) 3 (.aload_n 0) 1 (.iconst 3) 1 (.newarray .int) 2 (.putfield 71) 3 (.aload_n 0) 1 (.iconst 3) 1) (c8 p 172 (.newarray .int) 2 (.putfield 74) 3 (.aload_n 0) 1 (.iconst 0) 1 (.putfield 77) 3 (.aload_n 0) 1 (.iconst 0) 1 (.putfield 81) 3)) (cb p 199 (c8 p 187 (.aload_n 0) 1 (.iconst 0) 1 (.putfield 84) 3 (.aload_n 0) 1 (.iconst 0) 1 (.putfield 88) 3 (.aload_n 0) 1 (.iconst 0) 1) (c8 p 199 (.putfield 91) 3 (.aload_n 0) 1 (.iconst 0) 1 (.putfield 94) 3 (.aload_n 0) 1 (.iconst 0) 1 (.putfield 97) 3 .return_ 1))))) none
def cd_1:Nat→Option (Instr×Nat):=fun p=>cond (Nat.blt p 64) (cb p 28 (cb p 12 (c8 p 0 (.iload_n 1) 1 (.ifCond .lt 8) 3 (.iload_n 1) 1 (.iconst 4) 1 (.if_icmp .lt 5) 3 (.iconst (-1)) 1 .ireturn 1 (.aload_n 0) 1) (c8 p 12 (.getfield 77) 3 (.bipush 10) 2 (.if_icmp .lt 6) 3 (.bipush (-2)) 2 .ireturn 1 (.aload_n 0) 1 (.getfield 7) 3 (.aload_n 0) 1)) (cb p 42 (c8 p 28 (.getfield 77) 3 (.iload_n 1) 1 .iastore 1 (.aload_n 0) 1 (.getfield 13) 3 (.aload_n 0) 1 (.getfield 77) 3 (.iconst 0) 1) (cb p 54 (c8 p 42 .iastore 1 (.aload_n 0) 1 .dup 1 (.getfield 77) 3 (.iconst 1) 1 .iadd 1 (.putfield 77) 3 (.aload_n 0) 1) (c6 p 54 (.invokevirtual 100) 3 (.aload_n 0) 1 (.getfield 77) 3 (.iconst 1) 1 .isub 1 .ireturn 1)))) none
def cd_2:Nat→Option (Instr×Nat):=fun p=>cond (Nat.blt p 11) (c7 p 0 (.aload_n 0) 1 (.iconst 0) 1 (.putfield 84) 3 (.aload_n 0) 1 (.iconst 0) 1 (.putfield 91) 3 .return_ 1) none
def cd_3:Nat→Option (Instr×Nat):=fun p=>cond (Nat.blt p 76) (cb p 38 (cb p 15 (c8 p 0 (.aload_n 0) 1 (.getfield 77) 3 (.ifCond .gt 6) 3 (.bipush (-3)) 2 .ireturn 1 (.iload_n 1) 1 (.ifCond .lt 9) 3 (.iload_n 1) 1) (cb p 28 (c8 p 15 (.bipush 7) 2 (.if_icmp .le 5) 3 (.iconst (-1)) 1 .ireturn 1 (.aload_n 0) 1 (.getfield 77) 3 (.iconst 1) 1 .isub 1) (c8 p 28 (.istore_n 2) 1 (.aload_n 0) 1 (.getfield 13) 3 (.iload_n 2) 1 .iaload 1 (.istore_n 3) 1 (.iload_n 3) 1 (.iconst 3) 1))) (cb p 63 (cb p 53 (c8 p 38 (.if_icmp .ge 7) 3 (.iload_n 3) 1 (.ifCond .ge 6) 3 (.bipush (-2)) 2 .ireturn 1 (.aload_n 0) 1 (.getfield 16) 3 (.iload_n 2) 1) (c8 p 53 (.iconst 3) 1 .imul 1 (.iload_n 3) 1 .iadd 1 (.iload_n 1) 1 .iastore 1 (.aload_n 0) 1 (.getfield 13) 3)) (cb p 73 (c8 p 63 (.iload_n 2) 1 (.iload_n 3) 1 (.iconst 1) 1 .iadd 1 .iastore 1 (.aload_n 0) 1 (.invokevirtual 100) 3 (.iload_n 3) 1) (c3 p 73 (.iconst 1) 1 .iadd 1 .ireturn 1)))) none
def cd_4:Nat→Option (Instr×Nat):=fun p=>cond (Nat.blt p 17) (cb p 14 (c8 p 0 (.aload_n 0) 1 (.iload_n 1) 1 (.invokevirtual 103) 3 (.ifCond .ne 5) 3 (.iconst (-1)) 1 .ireturn 1 (.aload_n 0) 1 (.getfield 7) 3) (c3 p 14 (.iload_n 1) 1 .iaload 1 .ireturn 1)) none
def cd_5:Nat→Option (Instr×Nat):=fun p=>cond (Nat.blt p 24) (cb p 15 (c8 p 0 (.iload_n 1) 1 (.ifCond .lt 21) 3 (.iload_n 1) 1 (.aload_n 0) 1 (.getfield 77) 3 (.if_icmp .ge 13) 3 (.iload_n 1) 1 (.bipush 10) 2) (c5 p 15 (.if_icmp .ge 7) 3 (.iconst 1) 1 (.goto 4) 3 (.iconst 0) 1 .ireturn 1)) none
def cd_6:Nat→Option (Instr×Nat):=fun p=>cond (Nat.blt p 17) (cb p 14 (c8 p 0 (.aload_n 0) 1 (.iload_n 1) 1 (.invokevirtual 103) 3 (.ifCond .ne 5) 3 (.iconst (-1)) 1 .ireturn 1 (.aload_n 0) 1 (.getfield 13) 3) (c3 p 14 (.iload_n 1) 1 .iaload 1 .ireturn 1)) none
def cd_7:Nat→Option (Instr×Nat):=fun p=>cond (Nat.blt p 42) (cb p 26 (cb p 14 (c8 p 0 (.aload_n 0) 1 (.iload_n 1) 1 (.invokevirtual 103) 3 (.ifCond .ne 5) 3 (.iconst (-1)) 1 .ireturn 1 (.iload_n 2) 1 (.ifCond .lt 18) 3) (c8 p 14 (.iload_n 2) 1 (.aload_n 0) 1 (.getfield 13) 3 (.iload_n 1) 1 .iaload 1 (.if_icmp .ge 8) 3 (.iload_n 2) 1 (.iconst 3) 1)) (cb p 38 (c8 p 26 (.if_icmp .lt 5) 3 (.iconst (-1)) 1 .ireturn 1 (.aload_n 0) 1 (.getfield 16) 3 (.iload_n 1) 1 (.iconst 3) 1 .imul 1) (c4 p 38 (.iload_n 2) 1 .iadd 1 .iaload 1 .ireturn 1))) none
def cd_8:Nat→Option (Instr×Nat):=fun p=>cond (Nat.blt p 10) (c6 p 0 (.aload_n 0) 1 (.iconst 0) 1 (.putfield 81) 3 (.aload_n 0) 1 (.invokevirtual 100) 3 .return_ 1) none
def cd_9:Nat→Option (Instr×Nat):=fun p=>cond (Nat.blt p 59) (cb p 30 (cb p 12 (c8 p 0 (.iload_n 1) 1 (.ifCond .lt 8) 3 (.iload_n 1) 1 (.iconst 4) 1 (.if_icmp .lt 5) 3 (.iconst (-1)) 1 .ireturn 1 (.aload_n 0) 1) (c8 p 12 (.getfield 81) 3 (.bipush 8) 2 (.if_icmp .ge 10) 3 (.aload_n 0) 1 (.getfield 81) 3 (.ifCond .ge 6) 3 (.bipush (-2)) 2 .ireturn 1)) (cb p 42 (c8 p 30 (.aload_n 0) 1 (.getfield 19) 3 (.aload_n 0) 1 (.getfield 81) 3 (.iload_n 1) 1 .iastore 1 (.aload_n 0) 1 .dup 1) (cb p 58 (c8 p 42 (.getfield 81) 3 (.iconst 1) 1 .iadd 1 (.putfield 81) 3 (.aload_n 0) 1 (.invokevirtual 100) 3 (.aload_n 0) 1 (.getfield 81) 3) (c1 p 58 .ireturn 1)))) none
def cd_10:Nat→Option (Instr×Nat):=fun p=>cond (Nat.blt p 27) (cb p 15 (c8 p 0 (.iload_n 1) 1 (.ifCond .lt 17) 3 (.iload_n 1) 1 (.aload_n 0) 1 (.getfield 81) 3 (.if_icmp .ge 9) 3 (.iload_n 1) 1 (.bipush 8) 2) (c8 p 15 (.if_icmp .lt 5) 3 (.iconst (-1)) 1 .ireturn 1 (.aload_n 0) 1 (.getfield 19) 3 (.iload_n 1) 1 .iaload 1 .ireturn 1)) none
def cd_11:Nat→Option (Instr×Nat):=fun p=>cond (Nat.blt p 57) (cb p 27 (cb p 17 (c8 p 0 (.aload_n 0) 1 (.invokevirtual 107) 3 (.aload_n 0) 1 (.invokevirtual 110) 3 (.aload_n 0) 1 (.invokevirtual 113) 3 (.ifCond .eq 6) 3 (.bipush (-4)) 2) (c8 p 17 .ireturn 1 (.aload_n 0) 1 (.invokevirtual 117) 3 (.aload_n 0) 1 (.aload_n 0) 1 (.iconst 0) 1 (.iconst 0) 1 (.aload_n 0) 1)) (cb p 43 (c8 p 27 (.getfield 81) 3 (.invokevirtual 120) 3 (.putfield 88) 3 (.aload_n 0) 1 (.iconst 1) 1 (.putfield 84) 3 (.aload_n 0) 1 (.iconst 0) 1) (c8 p 43 (.putfield 91) 3 (.aload_n 0) 1 (.getfield 88) 3 (.ifCond .le 5) 3 (.iconst 1) 1 .ireturn 1 (.iconst 0) 1 .ireturn 1))) none
def cd_12:Nat→Option (Instr×Nat):=fun p=>cond (Nat.blt p 113) (cb p 51 (cb p 24 (cb p 12 (c8 p 0 (.iconst 0) 1 (.istore_n 1) 1 (.iload_n 1) 1 (.iconst 4) 1 (.if_icmp .ge 16) 3 (.aload_n 0) 1 (.getfield 28) 3 (.iload_n 1) 1) (c8 p 12 (.iconst 0) 1 .bastore 1 (.iinc 1 1) 3 (.goto (-15)) 3 (.iconst 0) 1 (.istore_n 1) 1 (.iload_n 1) 1 (.iconst 5) 1)) (cb p 36 (c8 p 24 (.if_icmp .ge 88) 3 (.iconst 0) 1 (.istore_n 2) 1 (.iconst 0) 1 (.istore_n 3) 1 (.iload_n 3) 1 (.aload_n 0) 1 (.getfield 77) 3) (c8 p 36 (.if_icmp .ge 63) 3 (.iload_n 3) 1 (.bipush 10) 2 (.if_icmp .ge 57) 3 (.aload_n 0) 1 (.getfield 7) 3 (.iload_n 3) 1 .iaload 1))) (cb p 83 (cb p 68 (c8 p 51 (.istore 4) 2 (.iload 4) 2 (.ifCond .lt 38) 3 (.iload 4) 2 (.iconst 4) 1 (.if_icmp .ge 32) 3 (.aload_n 0) 1 (.getfield 28) 3) (c8 p 68 (.iload 4) 2 .baload 1 (.ifCond .ne 22) 3 (.aload_n 0) 1 (.iload_n 3) 1 (.iconst (-1)) 1 (.invokevirtual 138) 3 (.ifCond .eq 13) 3)) (cb p 96 (c8 p 83 (.aload_n 0) 1 (.getfield 28) 3 (.iload 4) 2 (.iconst 1) 1 .bastore 1 (.iconst 1) 1 (.istore_n 2) 1 (.iinc 3 1) 3) (c7 p 96 (.goto (-65)) 3 (.iload_n 2) 1 (.ifCond .ne 6) 3 (.goto 9) 3 (.iinc 1 1) 3 (.goto (-87)) 3 .return_ 1)))) none
def cd_13:Nat→Option (Instr×Nat):=fun p=>cond (Nat.blt p 85) (cb p 42 (cb p 14 (c8 p 0 (.aload_n 0) 1 (.iload_n 1) 1 (.invokevirtual 103) 3 (.ifCond .ne 5) 3 (.iconst 0) 1 .ireturn 1 (.aload_n 0) 1 (.getfield 13) 3) (cb p 26 (c8 p 14 (.iload_n 1) 1 .iaload 1 (.istore_n 3) 1 (.iconst 0) 1 (.istore 4) 2 (.iload 4) 2 (.iload_n 3) 1 (.if_icmp .ge 60) 3) (c8 p 26 (.iload 4) 2 (.iconst 3) 1 (.if_icmp .ge 54) 3 (.iload 4) 2 (.iload_n 2) 1 (.if_icmp .ne 6) 3 (.goto 39) 3 (.aload_n 0) 1))) (cb p 54 (c8 p 42 (.getfield 16) 3 (.iload_n 1) 1 (.iconst 3) 1 .imul 1 (.iload 4) 2 .iadd 1 .iaload 1 (.istore 5) 2) (cb p 71 (c8 p 54 (.iload 5) 2 (.ifCond .lt 19) 3 (.iload 5) 2 (.iconst 4) 1 (.if_icmp .ge 13) 3 (.aload_n 0) 1 (.getfield 28) 3 (.iload 5) 2) (c8 p 71 .baload 1 (.ifCond .ne 5) 3 (.iconst 0) 1 .ireturn 1 (.iinc 4 1) 3 (.goto (-60)) 3 (.iconst 1) 1 .ireturn 1)))) none
def cd_14:Nat→Option (Instr×Nat):=fun p=>cond (Nat.blt p 119) (cb p 56 (cb p 25 (cb p 13 (c8 p 0 (.iconst 0) 1 (.istore_n 1) 1 (.iload_n 1) 1 (.bipush 16) 2 (.if_icmp .ge 16) 3 (.aload_n 0) 1 (.getfield 32) 3 (.iload_n 1) 1) (c8 p 13 (.iconst 0) 1 .bastore 1 (.iinc 1 1) 3 (.goto (-16)) 3 (.iconst 0) 1 (.istore_n 1) 1 (.iload_n 1) 1 (.aload_n 0) 1)) (cb p 42 (c8 p 25 (.getfield 77) 3 (.if_icmp .ge 20) 3 (.iload_n 1) 1 (.bipush 10) 2 (.if_icmp .ge 14) 3 (.aload_n 0) 1 (.iload_n 1) 1 (.invokevirtual 141) 3) (c8 p 42 (.iinc 1 1) 3 (.goto (-22)) 3 (.iconst 0) 1 (.istore_n 1) 1 (.iload_n 1) 1 (.iconst 4) 1 (.if_icmp .ge 66) 3 (.iconst 0) 1))) (cb p 78 (cb p 67 (c8 p 56 (.istore_n 2) 1 (.iload_n 2) 1 (.bipush 16) 2 (.if_icmp .ge 52) 3 (.iload_n 2) 1 (.iconst 4) 1 .idiv 1 (.istore_n 3) 1) (c8 p 67 (.iload_n 2) 1 (.iconst 4) 1 .irem 1 (.istore 4) 2 (.aload_n 0) 1 (.getfield 32) 3 (.iload_n 3) 1 (.iconst 4) 1)) (cb p 90 (c8 p 78 .imul 1 (.iload_n 1) 1 .iadd 1 .baload 1 (.ifCond .eq 24) 3 (.aload_n 0) 1 (.getfield 32) 3 (.iload_n 1) 1) (cb p 103 (c8 p 90 (.iconst 4) 1 .imul 1 (.iload 4) 2 .iadd 1 .baload 1 (.ifCond .eq 10) 3 (.aload_n 0) 1 (.getfield 32) 3) (c8 p 103 (.iload_n 2) 1 (.iconst 1) 1 .bastore 1 (.iinc 2 1) 3 (.goto (-52)) 3 (.iinc 1 1) 3 (.goto (-65)) 3 .return_ 1))))) none
def cd_15:Nat→Option (Instr×Nat):=fun p=>cond (Nat.blt p 100) (cb p 51 (cb p 24 (cb p 14 (c8 p 0 (.aload_n 0) 1 (.iload_n 1) 1 (.invokevirtual 103) 3 (.ifCond .ne 4) 3 .return_ 1 (.aload_n 0) 1 (.getfield 7) 3 (.iload_n 1) 1) (c8 p 14 .iaload 1 (.istore_n 2) 1 (.aload_n 0) 1 (.getfield 13) 3 (.iload_n 1) 1 .iaload 1 (.istore_n 3) 1 (.iconst 0) 1)) (cb p 39 (c8 p 24 (.istore 4) 2 (.iload 4) 2 (.iload_n 3) 1 (.if_icmp .ge 70) 3 (.iload 4) 2 (.iconst 3) 1 (.if_icmp .ge 64) 3 (.aload_n 0) 1) (c8 p 39 (.getfield 16) 3 (.iload_n 1) 1 (.iconst 3) 1 .imul 1 (.iload 4) 2 .iadd 1 .iaload 1 (.istore 5) 2))) (cb p 82 (cb p 67 (c8 p 51 (.iload 5) 2 (.ifCond .lt 40) 3 (.iload 5) 2 (.iconst 4) 1 (.if_icmp .ge 34) 3 (.iload_n 2) 1 (.ifCond .lt 30) 3 (.iload_n 2) 1) (c8 p 67 (.iconst 4) 1 (.if_icmp .ge 25) 3 (.aload_n 0) 1 (.iload_n 1) 1 (.iload 4) 2 (.invokevirtual 138) 3 (.ifCond .eq 15) 3 (.aload_n 0) 1)) (cb p 93 (c8 p 82 (.getfield 32) 3 (.iload_n 2) 1 (.iconst 4) 1 .imul 1 (.iload 5) 2 .iadd 1 (.iconst 1) 1 .bastore 1) (c3 p 93 (.iinc 4 1) 3 (.goto (-70)) 3 .return_ 1)))) none
def cd_16:Nat→Option (Instr×Nat):=fun p=>cond (Nat.blt p 28) (cb p 12 (c8 p 0 (.iconst 0) 1 (.istore_n 1) 1 (.iload_n 1) 1 (.iconst 4) 1 (.if_icmp .ge 22) 3 (.aload_n 0) 1 (.getfield 32) 3 (.iload_n 1) 1) (cb p 26 (c8 p 12 (.iconst 5) 1 .imul 1 .baload 1 (.ifCond .eq 5) 3 (.iconst 1) 1 .ireturn 1 (.iinc 1 1) 3 (.goto (-21)) 3) (c2 p 26 (.iconst 0) 1 .ireturn 1))) none
def cd_17:Nat→Option (Instr×Nat):=fun p=>cond (Nat.blt p 55) (cb p 25 (cb p 13 (c8 p 0 (.iconst 0) 1 (.istore_n 1) 1 (.iload_n 1) 1 (.aload_n 0) 1 (.getfield 81) 3 (.if_icmp .gt 47) 3 (.iload_n 1) 1 (.bipush 8) 2) (c8 p 13 (.if_icmp .gt 41) 3 (.iconst 0) 1 (.istore_n 2) 1 (.iload_n 2) 1 (.iload_n 1) 1 .iadd 1 (.aload_n 0) 1 (.getfield 81) 3)) (cb p 38 (c8 p 25 (.if_icmp .gt 23) 3 (.iload_n 2) 1 (.bipush 8) 2 (.if_icmp .gt 17) 3 (.aload_n 0) 1 (.iload_n 2) 1 (.iload_n 2) 1 (.iload_n 1) 1) (c7 p 38 .iadd 1 (.invokevirtual 145) 3 (.iinc 2 1) 3 (.goto (-27)) 3 (.iinc 1 1) 3 (.goto (-49)) 3 .return_ 1))) none
def cd_18:Nat→Option (Instr×Nat):=fun p=>cond (Nat.blt p 103) (cb p 40 (cb p 10 (c8 p 0 (.iconst 0) 1 (.istore_n 3) 1 (.iload_n 3) 1 (.iconst 4) 1 (.if_icmp .ge 17) 3 (.aload_n 0) 1 (.iload_n 3) 1 (.iload_n 1) 1) (cb p 24 (c8 p 10 (.iload_n 2) 1 (.iconst 0) 1 (.invokevirtual 149) 3 (.iinc 3 1) 3 (.goto (-16)) 3 (.iconst 0) 1 (.istore_n 3) 1 (.iload_n 3) 1) (c8 p 24 (.iconst 5) 1 (.if_icmp .ge 77) 3 (.iconst 0) 1 (.istore 4) 2 (.iload 4) 2 (.aload_n 0) 1 (.getfield 77) 3 (.if_icmp .ge 24) 3))) (cb p 71 (cb p 55 (c8 p 40 (.iload 4) 2 (.bipush 10) 2 (.if_icmp .ge 17) 3 (.aload_n 0) 1 (.iload 4) 2 (.iload_n 1) 1 (.iload_n 2) 1 (.invokevirtual 153) 3) (c8 p 55 (.iinc 4 1) 3 (.goto (-27)) 3 (.iconst 0) 1 (.istore 4) 2 (.iload 4) 2 (.iconst 4) 1 (.if_icmp .ge 29) 3 (.aload_n 0) 1)) (cb p 84 (c8 p 71 (.iload 4) 2 (.iload_n 1) 1 (.iload_n 2) 1 (.invokevirtual 157) 3 (.istore 5) 2 (.aload_n 0) 1 (.iload 4) 2 (.iload_n 1) 1) (c8 p 84 (.iload_n 2) 1 (.iload 5) 2 (.invokevirtual 149) 3 (.iinc 4 1) 3 (.goto (-29)) 3 (.iinc 3 1) 3 (.goto (-76)) 3 .return_ 1)))) none
def cd_19:Nat→Option (Instr×Nat):=fun p=>cond (Nat.blt p 38) (cb p 27 (cb p 12 (c8 p 0 (.iload_n 1) 1 (.ifCond .lt 17) 3 (.iload_n 1) 1 (.iconst 3) 1 (.if_icmp .gt 12) 3 (.aload_n 0) 1 (.iload_n 2) 1 (.iload_n 3) 1) (c8 p 12 (.invokevirtual 134) 3 (.ifCond .ne 4) 3 .return_ 1 (.aload_n 0) 1 (.getfield 22) 3 (.iload_n 1) 1 (.bipush 9) 2 .imul 1)) (cb p 37 (c8 p 27 (.iload_n 2) 1 .iadd 1 (.bipush 9) 2 .imul 1 (.iload_n 3) 1 .iadd 1 (.iload 4) 2 .iastore 1) (c1 p 37 .return_ 1))) none
def cd_20:Nat→Option (Instr×Nat):=fun p=>cond (Nat.blt p 26) (cb p 15 (c8 p 0 (.iload_n 1) 1 (.ifCond .lt 23) 3 (.iload_n 2) 1 (.ifCond .lt 19) 3 (.iload_n 1) 1 (.bipush 8) 2 (.if_icmp .gt 13) 3 (.iload_n 2) 1) (c6 p 15 (.bipush 8) 2 (.if_icmp .gt 7) 3 (.iconst 1) 1 (.goto 4) 3 (.iconst 0) 1 .ireturn 1)) none
def cd_21:Nat→Option (Instr×Nat):=fun p=>cond (Nat.blt p 131) (cb p 56 (cb p 28 (cb p 13 (c8 p 0 (.aload_n 0) 1 (.getfield 13) 3 (.iload_n 1) 1 .iaload 1 (.istore 4) 2 (.iconst 1) 1 (.istore 5) 2 (.iload 5) 2) (c8 p 13 (.iload 4) 2 (.if_icmp .gt 115) 3 (.iload 5) 2 (.iconst 3) 1 (.if_icmp .gt 109) 3 (.aload_n 0) 1 (.iload_n 1) 1 (.iload 5) 2)) (cb p 41 (c8 p 28 (.iconst 1) 1 .isub 1 (.invokevirtual 160) 3 (.istore 6) 2 (.iconst 0) 1 (.istore 7) 2 (.iload_n 2) 1 (.istore 8) 2) (c8 p 41 (.iload 8) 2 (.iload_n 3) 1 (.if_icmp .gt 69) 3 (.iload 8) 2 (.bipush 8) 2 (.if_icmp .gt 62) 3 (.aload_n 0) 1 (.iload_n 1) 1))) (cb p 87 (cb p 70 (c8 p 56 (.iload 5) 2 (.iconst 1) 1 .isub 1 (.iload_n 2) 1 (.iload 8) 2 (.invokevirtual 164) 3 (.istore 9) 2 (.iload 9) 2) (c8 p 70 (.ifCond .ne 6) 3 (.goto 34) 3 (.aload_n 0) 1 (.iload 6) 2 (.iload 8) 2 (.iload_n 3) 1 (.invokevirtual 168) 3 (.istore 10) 2)) (cb p 102 (c8 p 87 (.aload_n 0) 1 (.iload 9) 2 (.iload 10) 2 (.invokevirtual 171) 3 (.istore 11) 2 (.aload_n 0) 1 (.iload 7) 2 (.iload 11) 2) (cb p 118 (c8 p 102 (.invokevirtual 174) 3 (.istore 7) 2 (.iinc 8 1) 3 (.goto (-69)) 3 (.aload_n 0) 1 (.iload_n 1) 1 (.iload 5) 2 (.iload_n 2) 1) (c6 p 118 (.iload_n 3) 1 (.iload 7) 2 (.invokevirtual 177) 3 (.iinc 5 1) 3 (.goto (-116)) 3 .return_ 1))))) none
def cd_22:Nat→Option (Instr×Nat):=fun p=>cond (Nat.blt p 32) (cb p 15 (c8 p 0 (.iload_n 1) 1 (.ifCond .lt 18) 3 (.iload_n 1) 1 (.bipush 10) 2 (.if_icmp .ge 12) 3 (.iload_n 2) 1 (.ifCond .lt 8) 3 (.iload_n 2) 1) (cb p 27 (c8 p 15 (.iconst 2) 1 (.if_icmp .le 5) 3 (.iconst (-1)) 1 .ireturn 1 (.aload_n 0) 1 (.getfield 16) 3 (.iload_n 1) 1 (.iconst 3) 1) (c5 p 27 .imul 1 (.iload_n 2) 1 .iadd 1 .iaload 1 .ireturn 1))) none
def cd_23:Nat→Option (Instr×Nat):=fun p=>cond (Nat.blt p 69) (cb p 45 (cb p 15 (c8 p 0 (.iload_n 2) 1 (.ifCond .ne 15) 3 (.iload 4) 2 (.iload_n 3) 1 (.if_icmp .ne 7) 3 (.iconst 1) 1 (.goto 4) 3 (.iconst 0) 1) (cb p 30 (c8 p 15 .ireturn 1 (.iload_n 1) 1 (.ifCond .lt 28) 3 (.iload_n 1) 1 (.bipush 10) 2 (.if_icmp .ge 22) 3 (.iload_n 2) 1 (.ifCond .lt 18) 3) (c8 p 30 (.iload_n 2) 1 (.iconst 3) 1 (.if_icmp .gt 13) 3 (.aload_n 0) 1 (.iload_n 3) 1 (.iload 4) 2 (.invokevirtual 134) 3 (.ifCond .ne 5) 3))) (cb p 55 (c8 p 45 (.iconst 0) 1 .ireturn 1 (.aload_n 0) 1 (.getfield 25) 3 (.iload_n 1) 1 (.iconst 4) 1 .imul 1 (.iload_n 2) 1) (cb p 66 (c8 p 55 .iadd 1 (.bipush 9) 2 .imul 1 (.iload_n 3) 1 .iadd 1 (.bipush 9) 2 .imul 1 (.iload 4) 2) (c3 p 66 .iadd 1 .iaload 1 .ireturn 1)))) none
def cd_24:Nat→Option (Instr×Nat):=fun p=>cond (Nat.blt p 71) (cb p 37 (cb p 13 (c8 p 0 (.iload_n 1) 1 (.ifCond .lt 18) 3 (.iload_n 1) 1 (.bipush 7) 2 (.if_icmp .gt 12) 3 (.aload_n 0) 1 (.iload_n 2) 1 (.iload_n 3) 1) (cb p 27 (c8 p 13 (.invokevirtual 134) 3 (.ifCond .ne 5) 3 (.iconst 0) 1 .ireturn 1 (.iload_n 1) 1 (.iconst 4) 1 (.if_icmp .ge 11) 3 (.aload_n 0) 1) (c8 p 27 (.iload_n 1) 1 (.iload_n 2) 1 (.iload_n 3) 1 (.invokevirtual 120) 3 .ireturn 1 (.iload_n 3) 1 (.iload_n 2) 1 (.iconst 1) 1))) (cb p 52 (c8 p 37 .iadd 1 (.if_icmp .ne 31) 3 (.iload_n 2) 1 (.aload_n 0) 1 (.getfield 81) 3 (.if_icmp .ge 23) 3 (.iload_n 2) 1 (.bipush 8) 2) (cb p 64 (c8 p 52 (.if_icmp .ge 17) 3 (.aload_n 0) 1 (.getfield 19) 3 (.iload_n 2) 1 .iaload 1 (.iload_n 1) 1 (.iconst 4) 1 .isub 1) (c5 p 64 (.if_icmp .ne 5) 3 (.iconst 1) 1 .ireturn 1 (.iconst 0) 1 .ireturn 1)))) none
def cd_25:Nat→Option (Instr×Nat):=fun p=>cond (Nat.blt p 37) (cb p 27 (cb p 12 (c8 p 0 (.iload_n 1) 1 (.ifCond .lt 17) 3 (.iload_n 1) 1 (.iconst 3) 1 (.if_icmp .gt 12) 3 (.aload_n 0) 1 (.iload_n 2) 1 (.iload_n 3) 1) (c8 p 12 (.invokevirtual 134) 3 (.ifCond .ne 5) 3 (.iconst 0) 1 .ireturn 1 (.aload_n 0) 1 (.getfield 22) 3 (.iload_n 1) 1 (.bipush 9) 2)) (cb p 36 (c8 p 27 .imul 1 (.iload_n 2) 1 .iadd 1 (.bipush 9) 2 .imul 1 (.iload_n 3) 1 .iadd 1 .iaload 1) (c1 p 36 .ireturn 1))) none
def cd_26:Nat→Option (Instr×Nat):=fun p=>cond (Nat.blt p 30) (cb p 12 (c8 p 0 (.iload_n 1) 1 (.ifCond .le 7) 3 (.iload_n 2) 1 (.ifCond .gt 5) 3 (.iconst 0) 1 .ireturn 1 (.iload_n 1) 1 .i2l 1) (cb p 24 (c8 p 12 (.iload_n 2) 1 .i2l 1 .lmul 1 (.lstore_n 3) 1 (.lload_n 3) 1 (.ldc2_w 132) 3 .lcmp 1 (.ifCond .lt 6) 3) (c5 p 24 (.ldc 124) 2 .ireturn 1 (.lload_n 3) 1 .l2i 1 .ireturn 1))) none
def cd_27:Nat→Option (Instr×Nat):=fun p=>cond (Nat.blt p 28) (cb p 10 (c8 p 0 (.iload_n 1) 1 .i2l 1 (.iload_n 2) 1 .i2l 1 .ladd 1 (.lstore_n 3) 1 (.lload_n 3) 1 (.ldc2_w 132) 3) (cb p 23 (c8 p 10 .lcmp 1 (.ifCond .lt 6) 3 (.ldc 124) 2 .ireturn 1 (.lload_n 3) 1 (.lconst 0) 1 .lcmp 1 (.ifCond .ge 5) 3) (c5 p 23 (.iconst 0) 1 .ireturn 1 (.lload_n 3) 1 .l2i 1 .ireturn 1))) none
def cd_28:Nat→Option (Instr×Nat):=fun p=>cond (Nat.blt p 55) (cb p 30 (cb p 15 (c8 p 0 (.iload_n 1) 1 (.ifCond .lt 29) 3 (.iload_n 1) 1 (.bipush 10) 2 (.if_icmp .ge 23) 3 (.iload_n 2) 1 (.iconst 1) 1 (.if_icmp .lt 18) 3) (c8 p 15 (.iload_n 2) 1 (.iconst 3) 1 (.if_icmp .gt 13) 3 (.aload_n 0) 1 (.iload_n 3) 1 (.iload 4) 2 (.invokevirtual 134) 3 (.ifCond .ne 4) 3)) (cb p 40 (c8 p 30 .return_ 1 (.aload_n 0) 1 (.getfield 25) 3 (.iload_n 1) 1 (.iconst 4) 1 .imul 1 (.iload_n 2) 1 .iadd 1) (cb p 51 (c8 p 40 (.bipush 9) 2 .imul 1 (.iload_n 3) 1 .iadd 1 (.bipush 9) 2 .imul 1 (.iload 4) 2 .iadd 1) (c3 p 51 (.iload 5) 2 .iastore 1 .return_ 1)))) none
def cd_29:Nat→Option (Instr×Nat):=fun p=>cond (Nat.blt p 69) (cb p 30 (cb p 15 (c8 p 0 (.iconst 0) 1 (.istore 4) 2 (.iconst 0) 1 (.istore 5) 2 (.iload 5) 2 (.aload_n 0) 1 (.getfield 77) 3 (.if_icmp .ge 54) 3) (c8 p 15 (.iload 5) 2 (.bipush 10) 2 (.if_icmp .ge 47) 3 (.aload_n 0) 1 (.getfield 7) 3 (.iload 5) 2 .iaload 1 (.iload_n 1) 1)) (cb p 44 (c8 p 30 (.if_icmp .ne 30) 3 (.aload_n 0) 1 (.iload 5) 2 (.aload_n 0) 1 (.getfield 13) 3 (.iload 5) 2 .iaload 1 (.iload_n 2) 1) (cb p 60 (c8 p 44 (.iload_n 3) 1 (.invokevirtual 164) 3 (.istore 6) 2 (.aload_n 0) 1 (.iload 4) 2 (.iload 6) 2 (.invokevirtual 174) 3 (.istore 4) 2) (c4 p 60 (.iinc 5 1) 3 (.goto (-57)) 3 (.iload 4) 2 .ireturn 1)))) none
def cd_30:Nat→Option (Instr×Nat):=fun p=>cond (Nat.blt p 15) (c8 p 0 (.aload_n 0) 1 (.getfield 84) 3 (.ifCond .ne 6) 3 (.bipush (-5)) 2 .ireturn 1 (.aload_n 0) 1 (.getfield 88) 3 .ireturn 1) none
def cd_31:Nat→Option (Instr×Nat):=fun p=>cond (Nat.blt p 120) (cb p 59 (cb p 31 (cb p 16 (c8 p 0 (.aload_n 0) 1 (.getfield 84) 3 (.ifCond .ne 6) 3 (.bipush (-5)) 2 .ireturn 1 (.aload_n 0) 1 (.getfield 88) 3 (.ldc 124) 2) (c8 p 16 (.if_icmp .lt 6) 3 (.bipush (-6)) 2 .ireturn 1 (.iload_n 1) 1 (.ifCond .lt 11) 3 (.iload_n 1) 1 (.aload_n 0) 1 (.getfield 88) 3)) (cb p 44 (c8 p 31 (.if_icmp .lt 6) 3 (.bipush (-7)) 2 .ireturn 1 (.aload_n 0) 1 (.iload_n 1) 1 (.invokevirtual 125) 3 (.istore_n 2) 1 (.iload_n 2) 1) (c8 p 44 (.ifCond .gt 14) 3 (.iload_n 2) 1 (.ifCond .ge 7) 3 (.iload_n 2) 1 (.goto 5) 3 (.bipush (-7)) 2 .ireturn 1 (.iconst 0) 1))) (cb p 84 (cb p 72 (c8 p 59 (.istore_n 3) 1 (.iload_n 3) 1 (.iload_n 2) 1 (.if_icmp .ge 51) 3 (.iload_n 3) 1 (.bipush 64) 2 (.if_icmp .ge 45) 3 (.aload_n 0) 1) (c8 p 72 (.getfield 35) 3 (.iload_n 3) 1 (.aload_n 0) 1 (.getfield 44) 3 (.iload_n 3) 1 .iaload 1 .iastore 1 (.aload_n 0) 1)) (cb p 96 (c8 p 84 (.getfield 38) 3 (.iload_n 3) 1 (.aload_n 0) 1 (.getfield 47) 3 (.iload_n 3) 1 .iaload 1 .iastore 1 (.aload_n 0) 1) (cb p 110 (c8 p 96 (.getfield 41) 3 (.iload_n 3) 1 (.aload_n 0) 1 (.getfield 50) 3 (.iload_n 3) 1 .iaload 1 .iastore 1 (.iinc 3 1) 3) (c6 p 110 (.goto (-50)) 3 (.aload_n 0) 1 (.iload_n 2) 1 (.putfield 91) 3 (.iload_n 2) 1 .ireturn 1))))) none
def cd_32:Nat→Option (Instr×Nat):=fun p=>cond (Nat.blt p 184) (cb p 82 (cb p 39 (cb p 12 (c8 p 0 (.aload_n 0) 1 (.iconst 0) 1 (.putfield 94) 3 (.aload_n 0) 1 (.iconst 0) 1 (.iconst 0) 1 (.aload_n 0) 1 (.getfield 81) 3) (cb p 22 (c8 p 12 (.iload_n 1) 1 (.invokevirtual 181) 3 .pop 1 (.iconst 0) 1 (.istore_n 2) 1 (.iconst 0) 1 (.istore_n 3) 1 (.iload_n 3) 1) (c8 p 22 (.bipush 64) 2 (.if_icmp .ge 148) 3 (.aload_n 0) 1 (.getfield 94) 3 (.ifCond .le 141) 3 (.aload_n 0) 1 .dup 1 (.getfield 94) 3))) (cb p 53 (c8 p 39 (.iconst 1) 1 .isub 1 (.putfield 94) 3 (.aload_n 0) 1 (.getfield 53) 3 (.aload_n 0) 1 (.getfield 94) 3 .iaload 1) (cb p 67 (c8 p 53 (.istore 4) 2 (.aload_n 0) 1 (.getfield 56) 3 (.aload_n 0) 1 (.getfield 94) 3 .iaload 1 (.istore 5) 2 (.aload_n 0) 1) (c8 p 67 (.getfield 59) 3 (.aload_n 0) 1 (.getfield 94) 3 .iaload 1 (.istore 6) 2 (.aload_n 0) 1 (.iload 4) 2 (.iload 5) 2)))) (cb p 126 (cb p 98 (c8 p 82 (.iload 6) 2 (.aload_n 0) 1 (.getfield 62) 3 (.aload_n 0) 1 (.getfield 94) 3 .iaload 1 (.invokevirtual 185) 3 (.istore 7) 2) (cb p 113 (c8 p 98 (.iload 7) 2 (.ifCond .ge 6) 3 (.bipush (-7)) 2 .ireturn 1 (.aload_n 0) 1 (.getfield 44) 3 (.iload_n 2) 1 (.iload 7) 2) (c8 p 113 .iastore 1 (.aload_n 0) 1 (.getfield 47) 3 (.iload_n 2) 1 (.iload 5) 2 .iastore 1 (.aload_n 0) 1 (.getfield 50) 3))) (cb p 156 (cb p 140 (c8 p 126 (.iload_n 2) 1 (.iload 6) 2 .iastore 1 (.iinc 2 1) 3 (.aload_n 0) 1 (.iload 7) 2 (.iload 5) 2 (.iload 6) 2) (c8 p 140 (.aload_n 0) 1 (.getfield 97) 3 (.invokevirtual 188) 3 (.ifCond .ne 6) 3 (.bipush (-7)) 2 .ireturn 1 (.aload_n 0) 1 (.iload 7) 2)) (cb p 173 (c8 p 156 (.iload_n 2) 1 (.invokevirtual 191) 3 (.ifCond .ne 6) 3 (.bipush (-8)) 2 .ireturn 1 (.iinc 3 1) 3 (.goto (-148)) 3 (.aload_n 0) 1) (c6 p 173 (.getfield 94) 3 (.ifCond .le 6) 3 (.bipush (-8)) 2 .ireturn 1 (.iload_n 2) 1 .ireturn 1))))) none
def cd_33:Nat→Option (Instr×Nat):=fun p=>cond (Nat.blt p 71) (cb p 43 (cb p 17 (c8 p 0 (.aload_n 0) 1 (.getfield 94) 3 (.ifCond .lt 12) 3 (.aload_n 0) 1 (.getfield 94) 3 (.bipush 64) 2 (.if_icmp .lt 5) 3 (.iconst 0) 1) (cb p 29 (c8 p 17 .ireturn 1 (.aload_n 0) 1 (.getfield 53) 3 (.aload_n 0) 1 (.getfield 94) 3 (.iload_n 1) 1 .iastore 1 (.aload_n 0) 1) (c8 p 29 (.getfield 56) 3 (.aload_n 0) 1 (.getfield 94) 3 (.iload_n 2) 1 .iastore 1 (.aload_n 0) 1 (.getfield 59) 3 (.aload_n 0) 1))) (cb p 58 (c8 p 43 (.getfield 94) 3 (.iload_n 3) 1 .iastore 1 (.aload_n 0) 1 (.getfield 62) 3 (.aload_n 0) 1 (.getfield 94) 3 (.iload 4) 2) (cb p 70 (c8 p 58 .iastore 1 (.aload_n 0) 1 .dup 1 (.getfield 94) 3 (.iconst 1) 1 .iadd 1 (.putfield 94) 3 (.iconst 1) 1) (c1 p 70 .ireturn 1)))) none
def cd_34:Nat→Option (Instr×Nat):=fun p=>cond (Nat.blt p 85) (cb p 47 (cb p 16 (c8 p 0 (.iload 4) 2 (.istore 5) 2 (.iconst 0) 1 (.istore 6) 2 (.iload 6) 2 (.aload_n 0) 1 (.getfield 77) 3 (.if_icmp .ge 70) 3) (cb p 31 (c8 p 16 (.iload 6) 2 (.bipush 10) 2 (.if_icmp .ge 63) 3 (.aload_n 0) 1 (.getfield 7) 3 (.iload 6) 2 .iaload 1 (.iload_n 1) 1) (c8 p 31 (.if_icmp .eq 6) 3 (.goto 43) 3 (.aload_n 0) 1 (.iload 6) 2 (.aload_n 0) 1 (.getfield 13) 3 (.iload 6) 2 .iaload 1))) (cb p 62 (c8 p 47 (.iload_n 2) 1 (.iload_n 3) 1 (.invokevirtual 164) 3 (.istore 7) 2 (.iload 5) 2 (.iload 7) 2 (.if_icmp .ge 12) 3 (.aload_n 0) 1) (cb p 77 (c8 p 62 (.iload 5) 2 (.putfield 97) 3 (.iload 6) 2 .ireturn 1 (.iload 5) 2 (.iload 7) 2 .isub 1 (.istore 5) 2) (c4 p 77 (.iinc 6 1) 3 (.goto (-73)) 3 (.iconst (-1)) 1 .ireturn 1)))) none
def cd_35:Nat→Option (Instr×Nat):=fun p=>cond (Nat.blt p 88) (cb p 39 (cb p 13 (c8 p 0 (.aload_n 0) 1 (.getfield 13) 3 (.iload_n 1) 1 .iaload 1 (.istore 5) 2 (.iload_n 3) 1 (.istore 6) 2 (.iload 4) 2) (cb p 28 (c8 p 13 (.istore 7) 2 (.iload 5) 2 (.istore 8) 2 (.iload 8) 2 (.iconst 1) 1 (.if_icmp .lt 64) 3 (.iload 8) 2 (.iconst 3) 1) (c8 p 28 (.if_icmp .le 5) 3 (.iconst 0) 1 .ireturn 1 (.aload_n 0) 1 (.iload_n 1) 1 (.iload 8) 2 (.iconst 1) 1 .isub 1))) (cb p 69 (cb p 53 (c8 p 39 (.invokevirtual 160) 3 (.istore 9) 2 (.aload_n 0) 1 (.iload_n 1) 1 (.iload 8) 2 (.iload_n 2) 1 (.iload 6) 2 (.iload 7) 2) (c8 p 53 (.iload 9) 2 (.invokevirtual 194) 3 (.ifCond .ne 5) 3 (.iconst 0) 1 .ireturn 1 (.aload_n 0) 1 (.getfield 68) 3 (.iload 8) 2)) (cb p 83 (c8 p 69 (.iconst 1) 1 .isub 1 .iaload 1 (.istore 6) 2 (.aload_n 0) 1 (.getfield 97) 3 (.istore 7) 2 (.iinc 8 (-1)) 3) (c3 p 83 (.goto (-64)) 3 (.iconst 1) 1 .ireturn 1)))) none
def cd_36:Nat→Option (Instr×Nat):=fun p=>cond (Nat.blt p 144) (cb p 69 (cb p 26 (cb p 11 (c8 p 0 (.aload_n 0) 1 (.getfield 13) 3 (.iload_n 1) 1 .iaload 1 (.istore_n 3) 1 (.iconst 0) 1 (.istore 4) 2 (.iconst 1) 1) (c8 p 11 (.istore 5) 2 (.iload 5) 2 (.iload_n 3) 1 (.if_icmp .gt 31) 3 (.iload 5) 2 (.iconst 3) 1 (.if_icmp .gt 25) 3 (.aload_n 0) 1)) (cb p 41 (c8 p 26 (.getfield 65) 3 (.iload 5) 2 (.iconst 1) 1 .isub 1 .iaload 1 (.iconst 4) 1 (.if_icmp .ge 6) 3 (.iinc 4 1) 3) (cb p 56 (c8 p 41 (.iinc 5 1) 3 (.goto (-31)) 3 (.iload_n 2) 1 (.aload_n 0) 1 (.getfield 94) 3 .iadd 1 (.iload 4) 2 .iadd 1) (c8 p 56 (.bipush 64) 2 (.if_icmp .le 5) 3 (.iconst 0) 1 .ireturn 1 (.iload_n 3) 1 (.istore 5) 2 (.iload 5) 2 (.iconst 1) 1)))) (cb p 109 (cb p 85 (c8 p 69 (.if_icmp .lt 73) 3 (.iload 5) 2 (.iconst 3) 1 (.if_icmp .gt 61) 3 (.aload_n 0) 1 (.getfield 65) 3 (.iload 5) 2 (.iconst 1) 1) (cb p 98 (c8 p 85 .isub 1 .iaload 1 (.iconst 4) 1 (.if_icmp .ge 48) 3 (.aload_n 0) 1 (.aload_n 0) 1 (.getfield 65) 3 (.iload 5) 2) (c8 p 98 (.iconst 1) 1 .isub 1 .iaload 1 (.aload_n 0) 1 (.getfield 68) 3 (.iload 5) 2 (.iconst 1) 1 .isub 1))) (cb p 120 (c8 p 109 .iaload 1 (.aload_n 0) 1 (.getfield 71) 3 (.iload 5) 2 (.iconst 1) 1 .isub 1 .iaload 1 (.aload_n 0) 1) (cb p 135 (c8 p 120 (.getfield 74) 3 (.iload 5) 2 (.iconst 1) 1 .isub 1 .iaload 1 (.invokevirtual 181) 3 (.ifCond .ne 5) 3 (.iconst 0) 1) (c5 p 135 .ireturn 1 (.iinc 5 (-1)) 3 (.goto (-73)) 3 (.iconst 1) 1 .ireturn 1))))) none
def cd_37:Nat→Option (Instr×Nat):=fun p=>cond (Nat.blt p 5) (c3 p 0 (.aload_n 0) 1 (.getfield 91) 3 .ireturn 1) none
def cd_38:Nat→Option (Instr×Nat):=fun p=>cond (Nat.blt p 17) (cb p 14 (c8 p 0 (.aload_n 0) 1 (.iload_n 1) 1 (.invokevirtual 129) 3 (.ifCond .ne 5) 3 (.iconst (-1)) 1 .ireturn 1 (.aload_n 0) 1 (.getfield 35) 3) (c3 p 14 (.iload_n 1) 1 .iaload 1 .ireturn 1)) none
def cd_39:Nat→Option (Instr×Nat):=fun p=>cond (Nat.blt p 24) (cb p 15 (c8 p 0 (.iload_n 1) 1 (.ifCond .lt 21) 3 (.iload_n 1) 1 (.aload_n 0) 1 (.getfield 91) 3 (.if_icmp .ge 13) 3 (.iload_n 1) 1 (.bipush 64) 2) (c5 p 15 (.if_icmp .ge 7) 3 (.iconst 1) 1 (.goto 4) 3 (.iconst 0) 1 .ireturn 1)) none
def cd_40:Nat→Option (Instr×Nat):=fun p=>cond (Nat.blt p 17) (cb p 14 (c8 p 0 (.aload_n 0) 1 (.iload_n 1) 1 (.invokevirtual 129) 3 (.ifCond .ne 5) 3 (.iconst (-1)) 1 .ireturn 1 (.aload_n 0) 1 (.getfield 38) 3) (c3 p 14 (.iload_n 1) 1 .iaload 1 .ireturn 1)) none
def cd_41:Nat→Option (Instr×Nat):=fun p=>cond (Nat.blt p 17) (cb p 14 (c8 p 0 (.aload_n 0) 1 (.iload_n 1) 1 (.invokevirtual 129) 3 (.ifCond .ne 5) 3 (.iconst (-1)) 1 .ireturn 1 (.aload_n 0) 1 (.getfield 41) 3) (c3 p 14 (.iload_n 1) 1 .iaload 1 .ireturn 1)) none
def cd_42:Nat→Option (Instr×Nat):=fun p=>cond (Nat.blt p 139) (cb p 75 (cb p 27 (cb p 16 (c8 p 0 (.iload 5) 2 (.istore 7) 2 (.iload_n 3) 1 (.istore 8) 2 (.iload 8) 2 (.iload 4) 2 (.if_icmp .gt 126) 3 (.iload 8) 2) (c8 p 16 (.bipush 8) 2 (.if_icmp .gt 119) 3 (.aload_n 0) 1 (.iload_n 1) 1 (.iload_n 2) 1 (.iconst 1) 1 .isub 1 (.iload_n 3) 1)) (cb p 44 (c8 p 27 (.iload 8) 2 (.invokevirtual 164) 3 (.istore 9) 2 (.aload_n 0) 1 (.iload 6) 2 (.iload 8) 2 (.iload 4) 2 (.invokevirtual 168) 3) (cb p 60 (c8 p 44 (.istore 10) 2 (.aload_n 0) 1 (.iload 9) 2 (.iload 10) 2 (.invokevirtual 171) 3 (.istore 11) 2 (.iload 7) 2 (.iload 11) 2) (c8 p 60 (.if_icmp .ge 64) 3 (.iload 10) 2 (.ifCond .gt 5) 3 (.iconst 0) 1 .ireturn 1 (.aload_n 0) 1 (.getfield 65) 3 (.iload_n 2) 1)))) (cb p 109 (cb p 86 (c8 p 75 (.iconst 1) 1 .isub 1 (.iload 6) 2 .iastore 1 (.aload_n 0) 1 (.getfield 68) 3 (.iload_n 2) 1 (.iconst 1) 1) (cb p 97 (c8 p 86 .isub 1 (.iload 8) 2 .iastore 1 (.aload_n 0) 1 (.getfield 71) 3 (.iload_n 2) 1 (.iconst 1) 1 .isub 1) (c8 p 97 (.iload 4) 2 .iastore 1 (.aload_n 0) 1 (.getfield 74) 3 (.iload_n 2) 1 (.iconst 1) 1 .isub 1 (.iload 7) 2))) (cb p 122 (c8 p 109 (.iload 10) 2 .irem 1 .iastore 1 (.aload_n 0) 1 (.iload 7) 2 (.iload 10) 2 .idiv 1 (.putfield 97) 3) (cb p 137 (c8 p 122 (.iconst 1) 1 .ireturn 1 (.iload 7) 2 (.iload 11) 2 .isub 1 (.istore 7) 2 (.iinc 8 1) 3 (.goto (-127)) 3) (c2 p 137 (.iconst 0) 1 .ireturn 1))))) none
def PPcode:CodeT:=fun q pc=>cond (Nat.blt q 43) (cond (Nat.blt q 21) (cond (Nat.blt q 10) (cond (Nat.blt q 5) (cond (Nat.blt q 2) (cond (Nat.blt q 1) (cond (Nat.beq q 0) (cd_0 pc) none) (cond (Nat.beq q 1) (cd_1 pc) none)) (cond (Nat.blt q 3) (cond (Nat.beq q 2) (cd_2 pc) none) (cond (Nat.blt q 4) (cond (Nat.beq q 3) (cd_3 pc) none) (cond (Nat.beq q 4) (cd_4 pc) none)))) (cond (Nat.blt q 7) (cond (Nat.blt q 6) (cond (Nat.beq q 5) (cd_5 pc) none) (cond (Nat.beq q 6) (cd_6 pc) none)) (cond (Nat.blt q 8) (cond (Nat.beq q 7) (cd_7 pc) none) (cond (Nat.blt q 9) (cond (Nat.beq q 8) (cd_8 pc) none) (cond (Nat.beq q 9) (cd_9 pc) none))))) (cond (Nat.blt q 15) (cond (Nat.blt q 12) (cond (Nat.blt q 11) (cond (Nat.beq q 10) (cd_10 pc) none) (cond (Nat.beq q 11) (cd_11 pc) none)) (cond (Nat.blt q 13) (cond (Nat.beq q 12) (cd_12 pc) none) (cond (Nat.blt q 14) (cond (Nat.beq q 13) (cd_13 pc) none) (cond (Nat.beq q 14) (cd_14 pc) none)))) (cond (Nat.blt q 18) (cond (Nat.blt q 16) (cond (Nat.beq q 15) (cd_15 pc) none) (cond (Nat.blt q 17) (cond (Nat.beq q 16) (cd_16 pc) none) (cond (Nat.beq q 17) (cd_17 pc) none))) (cond (Nat.blt q 19) (cond (Nat.beq q 18) (cd_18 pc) none) (cond (Nat.blt q 20) (cond (Nat.beq q 19) (cd_19 pc) none) (cond (Nat.beq q 20) (cd_20 pc) none)))))) (cond (Nat.blt q 32) (cond (Nat.blt q 26) (cond (Nat.blt q 23) (cond (Nat.blt q 22) (cond (Nat.beq q 21) (cd_21 pc) none) (cond (Nat.beq q 22) (cd_22 pc) none)) (cond (Nat.blt q 24) (cond (Nat.beq q 23) (cd_23 pc) none) (cond (Nat.blt q 25) (cond (Nat.beq q 24) (cd_24 pc) none) (cond (Nat.beq q 25) (cd_25 pc) none)))) (cond (Nat.blt q 29) (cond (Nat.blt q 27) (cond (Nat.beq q 26) (cd_26 pc) none) (cond (Nat.blt q 28) (cond (Nat.beq q 27) (cd_27 pc) none) (cond (Nat.beq q 28) (cd_28 pc) none))) (cond (Nat.blt q 30) (cond (Nat.beq q 29) (cd_29 pc) none) (cond (Nat.blt q 31) (cond (Nat.beq q 30) (cd_30 pc) none) (cond (Nat.beq q 31) (cd_31 pc) none))))) (cond (Nat.blt q 37) (cond (Nat.blt q 34) (cond (Nat.blt q 33) (cond (Nat.beq q 32) (cd_32 pc) none) (cond (Nat.beq q 33) (cd_33 pc) none)) (cond (Nat.blt q 35) (cond (Nat.beq q 34) (cd_34 pc) none) (cond (Nat.blt q 36) (cond (Nat.beq q 35) (cd_35 pc) none) (cond (Nat.beq q 36) (cd_36 pc) none)))) (cond (Nat.blt q 40) (cond (Nat.blt q 38) (cond (Nat.beq q 37) (cd_37 pc) none) (cond (Nat.blt q 39) (cond (Nat.beq q 38) (cd_38 pc) none) (cond (Nat.beq q 39) (cd_39 pc) none))) (cond (Nat.blt q 41) (cond (Nat.beq q 40) (cd_40 pc) none) (cond (Nat.blt q 42) (cond (Nat.beq q 41) (cd_41 pc) none) (cond (Nat.beq q 42) (cd_42 pc) none))))))) none
def PPfld:FldT:=fun x=>cond (Nat.blt x 98) (cond (Nat.blt x 53) (cond (Nat.blt x 32) (cond (Nat.blt x 19) (cond (Nat.blt x 13) (cond (Nat.beq x 7) (some (0,0,1,false)) none) (cond (Nat.blt x 16) (cond (Nat.beq x 13) (some (1,0,2,false)) none) (cond (Nat.beq x 16) (some (2,0,3,false)) none))) (cond (Nat.blt x 25) (cond (Nat.blt x 22) (cond (Nat.beq x 19) (some (3,0,4,false)) none) (cond (Nat.beq x 22) (some (4,0,5,false)) none)) (cond (Nat.blt x 28) (cond (Nat.beq x 25) (some (5,0,6,false)) none) (cond (Nat.beq x 28) (some (6,0,7,false)) none)))) (cond (Nat.blt x 41) (cond (Nat.blt x 35) (cond (Nat.beq x 32) (some (7,0,8,false)) none) (cond (Nat.blt x 38) (cond (Nat.beq x 35) (some (8,0,9,false)) none) (cond (Nat.beq x 38) (some (9,0,10,false)) none))) (cond (Nat.blt x 47) (cond (Nat.blt x 44) (cond (Nat.beq x 41) (some (10,0,11,false)) none) (cond (Nat.beq x 44) (some (11,0,12,false)) none)) (cond (Nat.blt x 50) (cond (Nat.beq x 47) (some (12,0,13,false)) none) (cond (Nat.beq x 50) (some (13,0,14,false)) none))))) (cond (Nat.blt x 74) (cond (Nat.blt x 62) (cond (Nat.blt x 56) (cond (Nat.beq x 53) (some (14,0,15,false)) none) (cond (Nat.blt x 59) (cond (Nat.beq x 56) (some (15,0,16,false)) none) (cond (Nat.beq x 59) (some (16,0,17,false)) none))) (cond (Nat.blt x 68) (cond (Nat.blt x 65) (cond (Nat.beq x 62) (some (17,0,18,false)) none) (cond (Nat.beq x 65) (some (18,0,19,false)) none)) (cond (Nat.blt x 71) (cond (Nat.beq x 68) (some (19,0,20,false)) none) (cond (Nat.beq x 71) (some (20,0,21,false)) none)))) (cond (Nat.blt x 88) (cond (Nat.blt x 81) (cond (Nat.blt x 77) (cond (Nat.beq x 74) (some (21,0,22,false)) none) (cond (Nat.beq x 77) (some (22,1,0,false)) none)) (cond (Nat.blt x 84) (cond (Nat.beq x 81) (some (23,1,0,false)) none) (cond (Nat.beq x 84) (some (24,2,0,false)) none))) (cond (Nat.blt x 94) (cond (Nat.blt x 91) (cond (Nat.beq x 88) (some (25,1,0,false)) none) (cond (Nat.beq x 91) (some (26,1,0,false)) none)) (cond (Nat.blt x 97) (cond (Nat.beq x 94) (some (27,1,0,false)) none) (cond (Nat.beq x 97) (some (28,1,0,false)) none)))))) none
def PPlay:LayT:=fun j=>cond (Nat.blt j 23) (cond (Nat.blt j 12) (cond (Nat.blt j 6) (cond (Nat.blt j 3) (cond (Nat.blt j 2) (cond (Nat.beq j 1) (some (1,10)) none) (cond (Nat.beq j 2) (some (1,10)) none)) (cond (Nat.blt j 4) (cond (Nat.beq j 3) (some (1,30)) none) (cond (Nat.blt j 5) (cond (Nat.beq j 4) (some (1,8)) none) (cond (Nat.beq j 5) (some (1,324)) none)))) (cond (Nat.blt j 9) (cond (Nat.blt j 7) (cond (Nat.beq j 6) (some (1,3240)) none) (cond (Nat.blt j 8) (cond (Nat.beq j 7) (some (2,4)) none) (cond (Nat.beq j 8) (some (2,16)) none))) (cond (Nat.blt j 10) (cond (Nat.beq j 9) (some (1,64)) none) (cond (Nat.blt j 11) (cond (Nat.beq j 10) (some (1,64)) none) (cond (Nat.beq j 11) (some (1,64)) none))))) (cond (Nat.blt j 17) (cond (Nat.blt j 14) (cond (Nat.blt j 13) (cond (Nat.beq j 12) (some (1,64)) none) (cond (Nat.beq j 13) (some (1,64)) none)) (cond (Nat.blt j 15) (cond (Nat.beq j 14) (some (1,64)) none) (cond (Nat.blt j 16) (cond (Nat.beq j 15) (some (1,64)) none) (cond (Nat.beq j 16) (some (1,64)) none)))) (cond (Nat.blt j 20) (cond (Nat.blt j 18) (cond (Nat.beq j 17) (some (1,64)) none) (cond (Nat.blt j 19) (cond (Nat.beq j 18) (some (1,64)) none) (cond (Nat.beq j 19) (some (1,3)) none))) (cond (Nat.blt j 21) (cond (Nat.beq j 20) (some (1,3)) none) (cond (Nat.blt j 22) (cond (Nat.beq j 21) (some (1,3)) none) (cond (Nat.beq j 22) (some (1,3)) none)))))) none
def PPcst:Nat→Option OV:=fun x=>cond (Nat.blt x 133) (cond (Nat.blt x 132) (cond (Nat.beq x 124) (some (vi 1000000)) none) (cond (Nat.beq x 132) (some (vl 1000000)) none)) none
def PPmth:Nat→Option Nat:=fun x=>cond (Nat.blt x 195) (cond (Nat.blt x 149) (cond (Nat.blt x 120) (cond (Nat.blt x 110) (cond (Nat.blt x 103) (cond (Nat.beq x 100) (some 2) none) (cond (Nat.blt x 107) (cond (Nat.beq x 103) (some 5) none) (cond (Nat.beq x 107) (some 12) none))) (cond (Nat.blt x 113) (cond (Nat.beq x 110) (some 14) none) (cond (Nat.blt x 117) (cond (Nat.beq x 113) (some 16) none) (cond (Nat.beq x 117) (some 17) none)))) (cond (Nat.blt x 134) (cond (Nat.blt x 125) (cond (Nat.beq x 120) (some 25) none) (cond (Nat.blt x 129) (cond (Nat.beq x 125) (some 32) none) (cond (Nat.beq x 129) (some 39) none))) (cond (Nat.blt x 141) (cond (Nat.blt x 138) (cond (Nat.beq x 134) (some 20) none) (cond (Nat.beq x 138) (some 13) none)) (cond (Nat.blt x 145) (cond (Nat.beq x 141) (some 15) none) (cond (Nat.beq x 145) (some 18) none))))) (cond (Nat.blt x 174) (cond (Nat.blt x 160) (cond (Nat.blt x 153) (cond (Nat.beq x 149) (some 19) none) (cond (Nat.blt x 157) (cond (Nat.beq x 153) (some 21) none) (cond (Nat.beq x 157) (some 29) none))) (cond (Nat.blt x 168) (cond (Nat.blt x 164) (cond (Nat.beq x 160) (some 22) none) (cond (Nat.beq x 164) (some 23) none)) (cond (Nat.blt x 171) (cond (Nat.beq x 168) (some 24) none) (cond (Nat.beq x 171) (some 26) none)))) (cond (Nat.blt x 185) (cond (Nat.blt x 177) (cond (Nat.beq x 174) (some 27) none) (cond (Nat.blt x 181) (cond (Nat.beq x 177) (some 28) none) (cond (Nat.beq x 181) (some 33) none))) (cond (Nat.blt x 191) (cond (Nat.blt x 188) (cond (Nat.beq x 185) (some 34) none) (cond (Nat.beq x 188) (some 35) none)) (cond (Nat.blt x 194) (cond (Nat.beq x 191) (some 36) none) (cond (Nat.beq x 194) (some 42) none)))))) none
def PPinf:InfT:=fun q=>cond (Nat.blt q 43) (cond (Nat.blt q 21) (cond (Nat.blt q 10) (cond (Nat.blt q 5) (cond (Nat.blt q 2) (cond (Nat.blt q 1) (cond (Nat.beq q 0) (some ([],1,0,1,12)) none) (cond (Nat.beq q 1) (some ([false],2,1,1,12)) none)) (cond (Nat.blt q 3) (cond (Nat.beq q 2) (some ([],1,0,0,0)) none) (cond (Nat.blt q 4) (cond (Nat.beq q 3) (some ([false],4,1,1,12)) none) (cond (Nat.beq q 4) (some ([false],2,1,1,13)) none)))) (cond (Nat.blt q 7) (cond (Nat.blt q 6) (cond (Nat.beq q 5) (some ([false],2,2,0,0)) none) (cond (Nat.beq q 6) (some ([false],2,1,1,13)) none)) (cond (Nat.blt q 8) (cond (Nat.beq q 7) (some ([false,false],3,1,1,13)) none) (cond (Nat.blt q 9) (cond (Nat.beq q 8) (some ([],1,0,1,12)) none) (cond (Nat.beq q 9) (some ([false],2,1,1,12)) none))))) (cond (Nat.blt q 15) (cond (Nat.blt q 12) (cond (Nat.blt q 11) (cond (Nat.beq q 10) (some ([false],2,1,0,0)) none) (cond (Nat.beq q 11) (some ([],1,1,6,98)) none)) (cond (Nat.blt q 13) (cond (Nat.beq q 12) (some ([],5,0,2,30)) none) (cond (Nat.blt q 14) (cond (Nat.beq q 13) (some ([false,false],6,2,1,13)) none) (cond (Nat.beq q 14) (some ([],5,0,3,47)) none)))) (cond (Nat.blt q 18) (cond (Nat.blt q 16) (cond (Nat.beq q 15) (some ([false],6,0,2,30)) none) (cond (Nat.blt q 17) (cond (Nat.beq q 16) (some ([],2,2,0,0)) none) (cond (Nat.beq q 17) (some ([],3,0,5,84)) none))) (cond (Nat.blt q 19) (cond (Nat.beq q 18) (some ([false,false],6,0,4,67)) none) (cond (Nat.blt q 20) (cond (Nat.beq q 19) (some ([false,false,false,false],5,0,1,14)) none) (cond (Nat.beq q 20) (some ([false,false],3,2,0,0)) none)))))) (cond (Nat.blt q 32) (cond (Nat.blt q 26) (cond (Nat.blt q 23) (cond (Nat.blt q 22) (cond (Nat.beq q 21) (some ([false,false,false],12,0,3,44)) none) (cond (Nat.beq q 22) (some ([false,false],3,1,0,0)) none)) (cond (Nat.blt q 24) (cond (Nat.beq q 23) (some ([false,false,false,false],5,1,1,14)) none) (cond (Nat.blt q 25) (cond (Nat.beq q 24) (some ([false,false,false],4,1,2,29)) none) (cond (Nat.beq q 25) (some ([false,false,false],4,1,1,14)) none)))) (cond (Nat.blt q 29) (cond (Nat.blt q 27) (cond (Nat.beq q 26) (some ([false,false],5,1,0,0)) none) (cond (Nat.blt q 28) (cond (Nat.beq q 27) (some ([false,false],5,1,0,0)) none) (cond (Nat.beq q 28) (some ([false,false,false,false,false],6,0,1,14)) none))) (cond (Nat.blt q 30) (cond (Nat.beq q 29) (some ([false,false,false],7,1,2,30)) none) (cond (Nat.blt q 31) (cond (Nat.beq q 30) (some ([],1,1,0,0)) none) (cond (Nat.beq q 31) (some ([false],4,1,6,107)) none))))) (cond (Nat.blt q 37) (cond (Nat.blt q 34) (cond (Nat.blt q 33) (cond (Nat.beq q 32) (some ([false],8,1,5,88)) none) (cond (Nat.beq q 33) (some ([false,false,false,false],5,2,0,0)) none)) (cond (Nat.blt q 35) (cond (Nat.beq q 34) (some ([false,false,false,false],8,1,2,30)) none) (cond (Nat.blt q 36) (cond (Nat.beq q 35) (some ([false,false,false,false],10,2,4,67)) none) (cond (Nat.beq q 36) (some ([false,false],6,2,1,16)) none)))) (cond (Nat.blt q 40) (cond (Nat.blt q 38) (cond (Nat.beq q 37) (some ([],1,1,0,0)) none) (cond (Nat.blt q 39) (cond (Nat.beq q 38) (some ([false],2,1,1,13)) none) (cond (Nat.beq q 39) (some ([false],2,2,0,0)) none))) (cond (Nat.blt q 41) (cond (Nat.beq q 40) (some ([false],2,1,1,13)) none) (cond (Nat.blt q 42) (cond (Nat.beq q 41) (some ([false],2,1,1,13)) none) (cond (Nat.beq q 42) (some ([false,false,false,false,false,false],12,2,3,44)) none))))))) none
def PPobi:Nat→Bool:=fun x=>Nat.beq x 1
abbrev yb (x k:Nat) (a b:Option (List Bool)):Option (List Bool):=cond (Nat.blt x k) a b
abbrev ye (x k:Nat) (l:List Bool):Option (List Bool):=cond (Nat.beq x k) (some l) none
abbrev oT:Bool:=true
abbrev oF:Bool:=false
def PPliv:LivT:=fun q pc=>yb q 21 (yb q 10 (yb q 5 (yb q 2 (yb q 1 (cond (Nat.beq q 0) (ye pc 0 [oT]) none) (cond (Nat.beq q 1) (yb pc 11 (yb pc 4 (ye pc 0 [oT,oT]) (yb pc 9 (ye pc 4 [oT,oT]) (ye pc 9 [oF,oF]))) (yb pc 20 (ye pc 11 [oT,oT]) (yb pc 23 (ye pc 20 [oF,oF]) (ye pc 23 [oT,oT])))) none)) (yb q 3 (cond (Nat.beq q 2) (ye pc 0 [oT]) none) (yb q 4 (cond (Nat.beq q 3) (yb pc 20 (yb pc 10 (yb pc 7 (ye pc 0 [oT,oT,oF,oF]) (ye pc 7 [oF,oF,oF,oF])) (yb pc 14 (ye pc 10 [oT,oT,oF,oF]) (ye pc 14 [oT,oT,oF,oF]))) (yb pc 41 (yb pc 22 (ye pc 20 [oF,oF,oF,oF]) (ye pc 22 [oT,oT,oF,oF])) (yb pc 45 (ye pc 41 [oT,oT,oT,oT]) (yb pc 48 (ye pc 45 [oF,oF,oF,oF]) (ye pc 48 [oT,oT,oT,oT]))))) none) (cond (Nat.beq q 4) (yb pc 8 (ye pc 0 [oT,oT]) (yb pc 10 (ye pc 8 [oF,oF]) (ye pc 10 [oT,oT]))) none)))) (yb q 7 (yb q 6 (cond (Nat.beq q 5) (yb pc 18 (yb pc 4 (ye pc 0 [oT,oT]) (yb pc 12 (ye pc 4 [oT,oT]) (ye pc 12 [oF,oT]))) (yb pc 22 (ye pc 18 [oF,oF]) (yb pc 23 (ye pc 22 [oF,oF]) (ye pc 23 [oF,oF])))) none) (cond (Nat.beq q 6) (yb pc 8 (ye pc 0 [oT,oT]) (yb pc 10 (ye pc 8 [oF,oF]) (ye pc 10 [oT,oT]))) none)) (yb q 8 (cond (Nat.beq q 7) (yb pc 14 (yb pc 8 (ye pc 0 [oT,oT,oT]) (yb pc 10 (ye pc 8 [oF,oF,oF]) (ye pc 10 [oT,oT,oT]))) (yb pc 29 (yb pc 24 (ye pc 14 [oT,oT,oT]) (ye pc 24 [oT,oT,oT])) (yb pc 31 (ye pc 29 [oF,oF,oF]) (ye pc 31 [oT,oT,oT])))) none) (yb q 9 (cond (Nat.beq q 8) (ye pc 0 [oT]) none) (cond (Nat.beq q 9) (yb pc 11 (yb pc 4 (ye pc 0 [oT,oT]) (yb pc 9 (ye pc 4 [oT,oT]) (ye pc 9 [oF,oF]))) (yb pc 27 (yb pc 20 (ye pc 11 [oT,oT]) (ye pc 20 [oT,oT])) (yb pc 30 (ye pc 27 [oF,oF]) (ye pc 30 [oT,oT])))) none))))) (yb q 15 (yb q 12 (yb q 11 (cond (Nat.beq q 10) (yb pc 12 (yb pc 4 (ye pc 0 [oT,oT]) (ye pc 4 [oT,oT])) (yb pc 18 (ye pc 12 [oT,oT]) (yb pc 20 (ye pc 18 [oF,oF]) (ye pc 20 [oT,oT])))) none) (cond (Nat.beq q 11) (yb pc 18 (yb pc 15 (ye pc 0 [oT]) (ye pc 15 [oF])) (yb pc 53 (ye pc 18 [oT]) (yb pc 55 (ye pc 53 [oF]) (ye pc 55 [oF])))) none)) (yb q 13 (cond (Nat.beq q 12) (yb pc 58 (yb pc 22 (yb pc 7 (yb pc 2 (ye pc 0 [oT,oF,oF,oF,oF]) (ye pc 2 [oT,oT,oF,oF,oF])) (yb pc 20 (ye pc 7 [oT,oT,oF,oF,oF]) (ye pc 20 [oT,oF,oF,oF,oF]))) (yb pc 31 (yb pc 27 (ye pc 22 [oT,oT,oF,oF,oF]) (ye pc 27 [oT,oT,oF,oF,oF])) (yb pc 39 (ye pc 31 [oT,oT,oT,oT,oF]) (yb pc 45 (ye pc 39 [oT,oT,oT,oT,oF]) (ye pc 45 [oT,oT,oT,oT,oF]))))) (yb pc 93 (yb pc 74 (yb pc 64 (ye pc 58 [oT,oT,oT,oT,oT]) (ye pc 64 [oT,oT,oT,oT,oT])) (yb pc 83 (ye pc 74 [oT,oT,oT,oT,oT]) (ye pc 83 [oT,oT,oF,oT,oT]))) (yb pc 103 (yb pc 99 (ye pc 93 [oT,oT,oT,oT,oF]) (ye pc 99 [oT,oT,oT,oF,oF])) (yb pc 106 (ye pc 103 [oF,oF,oF,oF,oF]) (yb pc 112 (ye pc 106 [oT,oT,oF,oF,oF]) (ye pc 112 [oF,oF,oF,oF,oF])))))) none) (yb q 14 (cond (Nat.beq q 13) (yb pc 38 (yb pc 20 (yb pc 8 (ye pc 0 [oT,oT,oT,oF,oF,oF]) (yb pc 10 (ye pc 8 [oF,oF,oF,oF,oF,oF]) (ye pc 10 [oT,oT,oT,oF,oF,oF]))) (yb pc 26 (ye pc 20 [oT,oT,oT,oT,oT,oF]) (yb pc 32 (ye pc 26 [oT,oT,oT,oT,oT,oF]) (ye pc 32 [oT,oT,oT,oT,oT,oF])))) (yb pc 65 (yb pc 41 (ye pc 38 [oT,oT,oT,oT,oT,oF]) (yb pc 59 (ye pc 41 [oT,oT,oT,oT,oT,oF]) (ye pc 59 [oT,oT,oT,oT,oT,oT]))) (yb pc 77 (yb pc 75 (ye pc 65 [oT,oT,oT,oT,oT,oT]) (ye pc 75 [oF,oF,oF,oF,oF,oF])) (yb pc 83 (ye pc 77 [oT,oT,oT,oT,oT,oF]) (ye pc 83 [oF,oF,oF,oF,oF,oF]))))) none) (cond (Nat.beq q 14) (yb pc 50 (yb pc 23 (yb pc 8 (yb pc 2 (ye pc 0 [oT,oF,oF,oF,oF]) (ye pc 2 [oT,oT,oF,oF,oF])) (yb pc 21 (ye pc 8 [oT,oT,oF,oF,oF]) (ye pc 21 [oT,oF,oF,oF,oF]))) (yb pc 37 (yb pc 31 (ye pc 23 [oT,oT,oF,oF,oF]) (ye pc 31 [oT,oT,oF,oF,oF])) (yb pc 48 (ye pc 37 [oT,oT,oF,oF,oF]) (ye pc 48 [oT,oF,oF,oF,oF])))) (yb pc 85 (yb pc 57 (yb pc 55 (ye pc 50 [oT,oT,oF,oF,oF]) (ye pc 55 [oT,oT,oF,oF,oF])) (yb pc 63 (ye pc 57 [oT,oT,oT,oF,oF]) (ye pc 63 [oT,oT,oT,oF,oF]))) (yb pc 106 (yb pc 99 (ye pc 85 [oT,oT,oT,oF,oT]) (ye pc 99 [oT,oT,oT,oF,oF])) (yb pc 112 (ye pc 106 [oT,oT,oT,oF,oF]) (yb pc 118 (ye pc 112 [oT,oT,oF,oF,oF]) (ye pc 118 [oF,oF,oF,oF,oF])))))) none)))) (yb q 18 (yb q 16 (cond (Nat.beq q 15) (yb pc 56 (yb pc 26 (yb pc 8 (ye pc 0 [oT,oT,oF,oF,oF,oF]) (yb pc 9 (ye pc 8 [oF,oF,oF,oF,oF,oF]) (ye pc 9 [oT,oT,oF,oF,oF,oF]))) (yb pc 32 (ye pc 26 [oT,oT,oT,oT,oT,oF]) (yb pc 38 (ye pc 32 [oT,oT,oT,oT,oT,oF]) (ye pc 38 [oT,oT,oT,oT,oT,oF])))) (yb pc 71 (yb pc 62 (ye pc 56 [oT,oT,oT,oT,oT,oT]) (yb pc 66 (ye pc 62 [oT,oT,oT,oT,oT,oT]) (ye pc 66 [oT,oT,oT,oT,oT,oT]))) (yb pc 93 (yb pc 81 (ye pc 71 [oT,oT,oT,oT,oT,oT]) (ye pc 81 [oT,oT,oT,oT,oT,oT])) (yb pc 99 (ye pc 93 [oT,oT,oT,oT,oT,oF]) (ye pc 99 [oF,oF,oF,oF,oF,oF]))))) none) (yb q 17 (cond (Nat.beq q 16) (yb pc 18 (yb pc 2 (ye pc 0 [oT,oF]) (yb pc 7 (ye pc 2 [oT,oT]) (ye pc 7 [oT,oT]))) (yb pc 20 (ye pc 18 [oF,oF]) (yb pc 26 (ye pc 20 [oT,oT]) (ye pc 26 [oF,oF])))) none) (cond (Nat.beq q 17) (yb pc 18 (yb pc 10 (yb pc 2 (ye pc 0 [oT,oF,oF]) (ye pc 2 [oT,oT,oF])) (yb pc 16 (ye pc 10 [oT,oT,oF]) (ye pc 16 [oT,oT,oF]))) (yb pc 34 (yb pc 28 (ye pc 18 [oT,oT,oT]) (ye pc 28 [oT,oT,oT])) (yb pc 48 (ye pc 34 [oT,oT,oT]) (yb pc 54 (ye pc 48 [oT,oT,oF]) (ye pc 54 [oF,oF,oF]))))) none))) (yb q 19 (cond (Nat.beq q 18) (yb pc 40 (yb pc 21 (yb pc 2 (ye pc 0 [oT,oT,oT,oF,oF,oF]) (yb pc 7 (ye pc 2 [oT,oT,oT,oT,oF,oF]) (ye pc 7 [oT,oT,oT,oT,oF,oF]))) (yb pc 28 (yb pc 23 (ye pc 21 [oT,oT,oT,oF,oF,oF]) (ye pc 23 [oT,oT,oT,oT,oF,oF])) (yb pc 31 (ye pc 28 [oT,oT,oT,oT,oF,oF]) (ye pc 31 [oT,oT,oT,oT,oT,oF])))) (yb pc 64 (yb pc 47 (ye pc 40 [oT,oT,oT,oT,oT,oF]) (yb pc 61 (ye pc 47 [oT,oT,oT,oT,oT,oF]) (ye pc 61 [oT,oT,oT,oT,oF,oF]))) (yb pc 96 (yb pc 70 (ye pc 64 [oT,oT,oT,oT,oT,oF]) (ye pc 70 [oT,oT,oT,oT,oT,oF])) (yb pc 102 (ye pc 96 [oT,oT,oT,oT,oF,oF]) (ye pc 102 [oF,oF,oF,oF,oF,oF]))))) none) (yb q 20 (cond (Nat.beq q 19) (yb pc 9 (yb pc 4 (ye pc 0 [oT,oT,oT,oT,oT]) (ye pc 4 [oT,oT,oT,oT,oT])) (yb pc 18 (ye pc 9 [oT,oT,oT,oT,oT]) (yb pc 19 (ye pc 18 [oF,oF,oF,oF,oF]) (ye pc 19 [oT,oT,oT,oT,oT])))) none) (cond (Nat.beq q 20) (yb pc 14 (yb pc 4 (ye pc 0 [oF,oT,oT]) (yb pc 8 (ye pc 4 [oF,oT,oT]) (ye pc 8 [oF,oT,oT]))) (yb pc 24 (yb pc 20 (ye pc 14 [oF,oF,oT]) (ye pc 20 [oF,oF,oF])) (yb pc 25 (ye pc 24 [oF,oF,oF]) (ye pc 25 [oF,oF,oF])))) none)))))) (yb q 32 (yb q 26 (yb q 23 (yb q 22 (cond (Nat.beq q 21) (yb pc 54 (yb pc 24 (yb pc 11 (ye pc 0 [oT,oT,oT,oT,oF,oF,oF,oF,oF,oF,oF,oF]) (yb pc 18 (ye pc 11 [oT,oT,oT,oT,oT,oT,oF,oF,oF,oF,oF,oF]) (ye pc 18 [oT,oT,oT,oT,oT,oT,oF,oF,oF,oF,oF,oF]))) (yb pc 41 (ye pc 24 [oT,oT,oT,oT,oT,oT,oF,oF,oF,oF,oF,oF]) (yb pc 47 (ye pc 41 [oT,oT,oT,oT,oT,oT,oT,oT,oT,oF,oF,oF]) (ye pc 47 [oT,oT,oT,oT,oT,oT,oT,oT,oT,oF,oF,oF])))) (yb pc 107 (yb pc 73 (ye pc 54 [oT,oT,oT,oT,oT,oT,oT,oT,oT,oF,oF,oF]) (yb pc 76 (ye pc 73 [oT,oT,oT,oT,oT,oT,oT,oT,oT,oF,oF,oF]) (ye pc 76 [oT,oT,oT,oT,oT,oT,oT,oT,oT,oT,oF,oF]))) (yb pc 113 (ye pc 107 [oT,oT,oT,oT,oT,oT,oT,oT,oT,oF,oF,oF]) (yb pc 130 (ye pc 113 [oT,oT,oT,oT,oT,oT,oF,oT,oF,oF,oF,oF]) (ye pc 130 [oF,oF,oF,oF,oF,oF,oF,oF,oF,oF,oF,oF]))))) none) (cond (Nat.beq q 22) (yb pc 14 (yb pc 4 (ye pc 0 [oT,oT,oT]) (yb pc 10 (ye pc 4 [oT,oT,oT]) (ye pc 10 [oT,oT,oT]))) (yb pc 19 (ye pc 14 [oT,oT,oT]) (yb pc 21 (ye pc 19 [oF,oF,oF]) (ye pc 21 [oT,oT,oT])))) none)) (yb q 24 (cond (Nat.beq q 23) (yb pc 20 (yb pc 14 (yb pc 4 (ye pc 0 [oT,oT,oT,oT,oT]) (yb pc 10 (ye pc 4 [oF,oF,oF,oT,oT]) (ye pc 10 [oF,oF,oF,oF,oF]))) (yb pc 15 (ye pc 14 [oF,oF,oF,oF,oF]) (yb pc 16 (ye pc 15 [oF,oF,oF,oF,oF]) (ye pc 16 [oT,oT,oT,oT,oT])))) (yb pc 35 (yb pc 26 (ye pc 20 [oT,oT,oT,oT,oT]) (yb pc 30 (ye pc 26 [oT,oT,oT,oT,oT]) (ye pc 30 [oT,oT,oT,oT,oT]))) (yb pc 45 (ye pc 35 [oT,oT,oT,oT,oT]) (yb pc 47 (ye pc 45 [oF,oF,oF,oF,oF]) (ye pc 47 [oT,oT,oT,oT,oT]))))) none) (yb q 25 (cond (Nat.beq q 24) (yb pc 34 (yb pc 19 (yb pc 4 (ye pc 0 [oT,oT,oT,oT]) (yb pc 10 (ye pc 4 [oT,oT,oT,oT]) (ye pc 10 [oT,oT,oT,oT]))) (yb pc 21 (ye pc 19 [oF,oF,oF,oF]) (yb pc 26 (ye pc 21 [oT,oT,oT,oT]) (ye pc 26 [oT,oT,oT,oT])))) (yb pc 55 (yb pc 41 (ye pc 34 [oT,oT,oT,oT]) (yb pc 49 (ye pc 41 [oT,oT,oT,oF]) (ye pc 49 [oT,oT,oT,oF]))) (yb pc 67 (ye pc 55 [oT,oT,oT,oF]) (yb pc 69 (ye pc 67 [oF,oF,oF,oF]) (ye pc 69 [oF,oF,oF,oF]))))) none) (cond (Nat.beq q 25) (yb pc 9 (yb pc 4 (ye pc 0 [oT,oT,oT,oT]) (ye pc 4 [oT,oT,oT,oT])) (yb pc 18 (ye pc 9 [oT,oT,oT,oT]) (yb pc 20 (ye pc 18 [oF,oF,oF,oF]) (ye pc 20 [oT,oT,oT,oT])))) none)))) (yb q 29 (yb q 27 (cond (Nat.beq q 26) (yb pc 10 (yb pc 4 (ye pc 0 [oF,oT,oT,oF,oF]) (yb pc 8 (ye pc 4 [oF,oT,oT,oF,oF]) (ye pc 8 [oF,oF,oF,oF,oF]))) (yb pc 24 (ye pc 10 [oF,oT,oT,oF,oF]) (yb pc 27 (ye pc 24 [oF,oF,oF,oF,oF]) (ye pc 27 [oF,oF,oF,oT,oF])))) none) (yb q 28 (cond (Nat.beq q 27) (yb pc 17 (yb pc 14 (ye pc 0 [oF,oT,oT,oF,oF]) (ye pc 14 [oF,oF,oF,oF,oF])) (yb pc 23 (ye pc 17 [oF,oF,oF,oT,oF]) (yb pc 25 (ye pc 23 [oF,oF,oF,oF,oF]) (ye pc 25 [oF,oF,oF,oT,oF])))) none) (cond (Nat.beq q 28) (yb pc 15 (yb pc 4 (ye pc 0 [oT,oT,oT,oT,oT,oT]) (yb pc 10 (ye pc 4 [oT,oT,oT,oT,oT,oT]) (ye pc 10 [oT,oT,oT,oT,oT,oT]))) (yb pc 30 (yb pc 20 (ye pc 15 [oT,oT,oT,oT,oT,oT]) (ye pc 20 [oT,oT,oT,oT,oT,oT])) (yb pc 31 (ye pc 30 [oF,oF,oF,oF,oF,oF]) (ye pc 31 [oT,oT,oT,oT,oT,oT])))) none))) (yb q 30 (cond (Nat.beq q 29) (yb pc 22 (yb pc 6 (ye pc 0 [oT,oT,oT,oT,oF,oF,oF]) (yb pc 15 (ye pc 6 [oT,oT,oT,oT,oT,oT,oF]) (ye pc 15 [oT,oT,oT,oT,oT,oT,oF]))) (yb pc 60 (yb pc 33 (ye pc 22 [oT,oT,oT,oT,oT,oT,oF]) (ye pc 33 [oT,oT,oT,oT,oT,oT,oF])) (yb pc 66 (ye pc 60 [oT,oT,oT,oT,oT,oT,oF]) (ye pc 66 [oF,oF,oF,oF,oT,oF,oF])))) none) (yb q 31 (cond (Nat.beq q 30) (yb pc 7 (ye pc 0 [oT]) (yb pc 10 (ye pc 7 [oF]) (ye pc 10 [oT]))) none) (cond (Nat.beq q 31) (yb pc 47 (yb pc 22 (yb pc 10 (yb pc 7 (ye pc 0 [oT,oT,oF,oF]) (ye pc 7 [oF,oF,oF,oF])) (yb pc 19 (ye pc 10 [oT,oT,oF,oF]) (ye pc 19 [oF,oF,oF,oF]))) (yb pc 34 (yb pc 26 (ye pc 22 [oT,oT,oF,oF]) (ye pc 26 [oT,oT,oF,oF])) (yb pc 37 (ye pc 34 [oF,oF,oF,oF]) (ye pc 37 [oT,oT,oF,oF])))) (yb pc 58 (yb pc 55 (yb pc 51 (ye pc 47 [oF,oF,oT,oF]) (ye pc 51 [oF,oF,oT,oF])) (yb pc 57 (ye pc 55 [oF,oF,oF,oF]) (ye pc 57 [oF,oF,oF,oF]))) (yb pc 65 (yb pc 60 (ye pc 58 [oT,oF,oT,oF]) (ye pc 60 [oT,oF,oT,oT])) (yb pc 71 (ye pc 65 [oT,oF,oT,oT]) (yb pc 113 (ye pc 71 [oT,oF,oT,oT]) (ye pc 113 [oT,oF,oT,oF])))))) none))))) (yb q 37 (yb q 34 (yb q 33 (cond (Nat.beq q 32) (yb pc 150 (yb pc 34 (yb pc 21 (ye pc 0 [oT,oT,oF,oF,oF,oF,oF,oF]) (yb pc 27 (ye pc 21 [oT,oF,oT,oT,oF,oF,oF,oF]) (ye pc 27 [oT,oF,oT,oT,oF,oF,oF,oF]))) (yb pc 103 (ye pc 34 [oT,oF,oT,oT,oF,oF,oF,oF]) (yb pc 106 (ye pc 103 [oF,oF,oF,oF,oF,oF,oF,oF]) (ye pc 106 [oT,oF,oT,oT,oF,oT,oT,oT])))) (yb pc 166 (yb pc 153 (ye pc 150 [oF,oF,oF,oF,oF,oF,oF,oF]) (yb pc 163 (ye pc 153 [oT,oF,oT,oT,oF,oF,oF,oT]) (ye pc 163 [oF,oF,oF,oF,oF,oF,oF,oF]))) (yb pc 179 (yb pc 172 (ye pc 166 [oT,oF,oT,oT,oF,oF,oF,oF]) (ye pc 172 [oT,oF,oT,oF,oF,oF,oF,oF])) (yb pc 182 (ye pc 179 [oF,oF,oF,oF,oF,oF,oF,oF]) (ye pc 182 [oF,oF,oT,oF,oF,oF,oF,oF]))))) none) (cond (Nat.beq q 33) (yb pc 16 (yb pc 7 (ye pc 0 [oT,oT,oT,oT,oT]) (ye pc 7 [oT,oT,oT,oT,oT])) (yb pc 18 (ye pc 16 [oF,oF,oF,oF,oF]) (ye pc 18 [oT,oT,oT,oT,oT]))) none)) (yb q 35 (cond (Nat.beq q 34) (yb pc 37 (yb pc 16 (yb pc 7 (ye pc 0 [oT,oT,oT,oT,oT,oF,oF,oF]) (ye pc 7 [oT,oT,oT,oT,oF,oT,oT,oF])) (yb pc 23 (ye pc 16 [oT,oT,oT,oT,oF,oT,oT,oF]) (yb pc 34 (ye pc 23 [oT,oT,oT,oT,oF,oT,oT,oF]) (ye pc 34 [oT,oT,oT,oT,oF,oT,oT,oF])))) (yb pc 70 (yb pc 61 (ye pc 37 [oT,oT,oT,oT,oF,oT,oT,oF]) (ye pc 61 [oT,oF,oF,oF,oF,oT,oT,oF])) (yb pc 77 (ye pc 70 [oT,oT,oT,oT,oF,oT,oT,oT]) (yb pc 83 (ye pc 77 [oT,oT,oT,oT,oF,oT,oT,oF]) (ye pc 83 [oF,oF,oF,oF,oF,oF,oF,oF]))))) none) (yb q 36 (cond (Nat.beq q 35) (yb pc 33 (yb pc 25 (yb pc 19 (ye pc 0 [oT,oT,oT,oT,oT,oF,oF,oF,oF,oF]) (ye pc 19 [oT,oT,oT,oF,oF,oF,oT,oT,oT,oF])) (yb pc 31 (ye pc 25 [oT,oT,oT,oF,oF,oF,oT,oT,oT,oF]) (ye pc 31 [oF,oF,oF,oF,oF,oF,oF,oF,oF,oF]))) (yb pc 63 (yb pc 61 (ye pc 33 [oT,oT,oT,oF,oF,oF,oT,oT,oT,oF]) (ye pc 61 [oF,oF,oF,oF,oF,oF,oF,oF,oF,oF])) (yb pc 86 (ye pc 63 [oT,oT,oT,oF,oF,oF,oF,oF,oT,oF]) (ye pc 86 [oF,oF,oF,oF,oF,oF,oF,oF,oF,oF])))) none) (cond (Nat.beq q 36) (yb pc 63 (yb pc 38 (yb pc 19 (yb pc 13 (ye pc 0 [oT,oT,oT,oF,oF,oF]) (ye pc 13 [oT,oF,oT,oT,oT,oT])) (yb pc 25 (ye pc 19 [oT,oF,oT,oT,oT,oT]) (ye pc 25 [oT,oF,oT,oT,oT,oT]))) (yb pc 47 (yb pc 41 (ye pc 38 [oT,oF,oT,oT,oT,oT]) (ye pc 41 [oT,oF,oT,oT,oT,oT])) (yb pc 61 (ye pc 47 [oT,oF,oT,oT,oT,oF]) (ye pc 61 [oF,oF,oF,oF,oF,oF])))) (yb pc 91 (yb pc 72 (yb pc 66 (ye pc 63 [oT,oF,oF,oT,oF,oF]) (ye pc 66 [oT,oF,oF,oF,oF,oT])) (yb pc 78 (ye pc 72 [oT,oF,oF,oF,oF,oT]) (ye pc 78 [oT,oF,oF,oF,oF,oT]))) (yb pc 136 (yb pc 134 (ye pc 91 [oT,oF,oF,oF,oF,oT]) (ye pc 134 [oF,oF,oF,oF,oF,oF])) (yb pc 142 (ye pc 136 [oT,oF,oF,oF,oF,oT]) (ye pc 142 [oF,oF,oF,oF,oF,oF]))))) none)))) (yb q 40 (yb q 38 (cond (Nat.beq q 37) (ye pc 0 [oT]) none) (yb q 39 (cond (Nat.beq q 38) (yb pc 8 (ye pc 0 [oT,oT]) (yb pc 10 (ye pc 8 [oF,oF]) (ye pc 10 [oT,oT]))) none) (cond (Nat.beq q 39) (yb pc 18 (yb pc 4 (ye pc 0 [oT,oT]) (yb pc 12 (ye pc 4 [oT,oT]) (ye pc 12 [oF,oT]))) (yb pc 22 (ye pc 18 [oF,oF]) (yb pc 23 (ye pc 22 [oF,oF]) (ye pc 23 [oF,oF])))) none))) (yb q 41 (cond (Nat.beq q 40) (yb pc 8 (ye pc 0 [oT,oT]) (yb pc 10 (ye pc 8 [oF,oF]) (ye pc 10 [oT,oT]))) none) (yb q 42 (cond (Nat.beq q 41) (yb pc 8 (ye pc 0 [oT,oT]) (yb pc 10 (ye pc 8 [oF,oF]) (ye pc 10 [oT,oT]))) none) (cond (Nat.beq q 42) (yb pc 63 (yb pc 14 (yb pc 7 (ye pc 0 [oT,oT,oT,oT,oT,oT,oT,oF,oF,oF,oF,oF]) (ye pc 7 [oT,oT,oT,oT,oT,oF,oT,oT,oT,oF,oF,oF])) (yb pc 21 (ye pc 14 [oT,oT,oT,oT,oT,oF,oT,oT,oT,oF,oF,oF]) (ye pc 21 [oT,oT,oT,oT,oT,oF,oT,oT,oT,oF,oF,oF]))) (yb pc 70 (yb pc 68 (ye pc 63 [oT,oF,oT,oF,oT,oF,oT,oT,oT,oF,oT,oF]) (ye pc 68 [oF,oF,oF,oF,oF,oF,oF,oF,oF,oF,oF,oF])) (yb pc 124 (ye pc 70 [oT,oF,oT,oF,oT,oF,oT,oT,oT,oF,oT,oF]) (yb pc 137 (ye pc 124 [oT,oT,oT,oT,oT,oF,oT,oT,oT,oF,oF,oT]) (ye pc 137 [oF,oF,oF,oF,oF,oF,oF,oF,oF,oF,oF,oF]))))) none))))))
def PP:PT:=(PPcode,PPfld,PPlay,PPcst,PPmth,PPinf,PPobi,PPliv)
abbrev R:=runP PP
abbrev Rr (n q pc:Nat) (L:OLs) (S:List OV) (y:Option OV×Nat×OMem):RT:=runP PP n q pc L (pushR y.1 S) y.2.1 y.2.2
section
variable {α β ρ : Type} {K : α → Nat → Option ρ} {F : Nat → Option ρ}
theorem Ze (k : Nat) {o : Option α} {G : Nat → Option ρ} (s : Sim o K G) (h : (fun n => F (n + k)) = G) : Sim o K F := Sh k _ h s
theorem Zj (k : Nat) {o : Option α} {G : Nat → Option ρ} (s : Sim o K G) (h0 : G 0 = none) (h : (fun n => F (n + (k + 1))) = fun n => G (n + 1)) : Sim o K F := Sh k (fun n => F (n + k)) rfl (Sim.jmp s h0 fun n => (congrArg F (by omega : n + 1 + k = n + (k + 1))).trans (congrFun h n))
theorem Zp (k : Nat) {a : α} (h : (fun n => F (n + k)) = K a) : Sim (some a) K F := Sh k _ h Sp
theorem Zb (k : Nat) {f : Option β} {g : β → Option α} {K1 : β → Nat → Option ρ} {G : Nat → Option ρ} (h1 : Sim f K1 G) (h : (fun n => F (n + k)) = G) (h2 : ∀ b, Sim (g b) K (K1 b)) : Sim (f.bind g) K F := Sh k _ h (Sim.bind h1 h2)
end
section
variable {α β : Type} {K : α → Nat → RT} {F : Nat → RT}
theorem Zh (k q p : Nat) (L : OLs) (S : List OV) (t : Nat) (m : OMem) {o : Option α} (h : (fun n => F (n + k)) = fun n => R n q p L S t m) (s : Sim o K fun n => R n q p L S t m) : Sim o K F := Sh k _ h s
theorem Zi (k q a b : Nat) (L : OLs) (S : List OV) (t : Nat) (m : OMem) {c : Prop} [Decidable c] {x y : Option α} (h : (fun n => F (n + k)) = fun n => if c then R n q a L S t m else R n q b L S t m) (h1 : Sim x K fun n => R n q a L S t m) (h2 : Sim y K fun n => R n q b L S t m) : Sim (if c then x else y) K F := Sh k _ h (Si h1 h2)
theorem Zg (k q p : Nat) (L : OLs) (S : List OV) (t : Nat) (m : OMem) {c : Prop} [Decidable c] {x : Option α} (h : (fun n => F (n + k)) = fun n => if c then R n q p L S t m else none) (s : Sim x K fun n => R n q p L S t m) : Sim (if c then x else none) K F := Sh k _ h (Sg s)
theorem Zc (k q p : Nat) (L : OLs) (S : List OV) {f : Option β} {g : β → Option α} {K1 : β → Nat → RT} {v : β → Option OV × Nat × OMem} {Q P : Nat} {L1 : OLs} {S1 : List OV} {t : Nat} {m : OMem} (h1 : Sim f K1 fun n => R n Q P L1 S1 t m) (hK : ∀ b n, K1 b n = some (v b)) (h : (fun n => F (n + k)) = fun n => (R n Q P L1 S1 t m).bind fun y => Rr n q p L S y) (h2 : ∀ b, Sim (g b) K fun n => Rr n q p L S (v b)) : Sim (f.bind g) K F := Sh k _ h (Sim.call h1 hK (runP_mono _ _ _ _ _ _) (fun _ => runP_mono _ _ _ _ _ _) h2)
theorem Zv (k q p : Nat) (L : OLs) (S : List OV) {f : Option OMem} {g : OMem → Option α} {Q P : Nat} {L1 : OLs} {S1 : List OV} {t : Nat} {m : OMem} (h1 : Sim f (fun w0 _ => some (none, t, w0)) fun n => R n Q P L1 S1 t m) (h : (fun n => F (n + k)) = fun n => (R n Q P L1 S1 t m).bind fun y => Rr n q p L S y) (h2 : ∀ b, Sim (g b) K fun n => R n q p L S t b) : Sim (f.bind g) K F := Zc k q p L S h1 (fun _ _ => rfl) h h2
theorem Zr (k q p : Nat) (L : OLs) (S : List OV) {f : Option Int} {g : Int → Option α} {Q P : Nat} {L1 : OLs} {S1 : List OV} {t : Nat} {m : OMem} (h1 : Sim f (fun r _ => some (some (vi r), t, m)) fun n => R n Q P L1 S1 t m) (h : (fun n => F (n + k)) = fun n => (R n Q P L1 S1 t m).bind fun y => Rr n q p L S y) (h2 : ∀ r, Sim (g r) K fun n => R n q p L (vi r :: S) t m) : Sim (f.bind g) K F := Zc k q p L S h1 (fun _ _ => rfl) h h2
theorem Zw (k q p : Nat) (L : OLs) (S : List OV) {f : Option (Int × OMem)} {g : Int × OMem → Option α} {K1 : Int × OMem → Nat → RT} {Q P : Nat} {L1 : OLs} {S1 : List OV} {t : Nat} {m : OMem} (h1 : Sim f K1 fun n => R n Q P L1 S1 t m) (hK : ∀ r w n, K1 (r, w) n = some (some (vi r), t, w)) (h : (fun n => F (n + k)) = fun n => (R n Q P L1 S1 t m).bind fun y => Rr n q p L S y) (h2 : ∀ r w, Sim (g (r, w)) K fun n => R n q p L (vi r :: S) t w) : Sim (f.bind g) K F := Zc k q p L S h1 (fun b n => hK b.1 b.2 n) h fun b => h2 b.1 b.2
end
def f_init (m:OMem):Option (OMem):=some (sto (sto (sto (sto (sto (sto (sto m 0 22 0) 0 23 0) 0 24 0) 0 25 0) 0 26 0) 0 27 0) 0 28 0)
theorem f_init_ok (m:OMem):Sim (f_init m) (fun w0 _=>some (none,44,w0)) (fun n=>R n 0 0 [qr 0] [] 0 m) :=
 Zh 12 0 23 [qr 0] [vi 30,vr 0] 4 m rfl (Zh 12 0 49 [qr 0] [vi 3240,vr 0] 10 m rfl (Zh 12 0 72 [qr 0] [vi 64,vr 0] 16 m rfl (Zh 12 0 96 [qr 0] [vi 64,vr 0] 22 m rfl (Zh 12 0 120 [qr 0] [vi 64,vr 0] 28 m rfl (Zh 12 0 144 [qr 0] [vi 64,vr 0] 34 m rfl (Zh 12 0 165 [qr 0] [vi 3,vr 0] 40 m rfl (Zh 12 0 187 [qr 0] [] 44 (sto (sto m 0 22 0) 0 23 0) rfl (Zh 12 0 207 [qr 0] [] 44 (sto (sto (sto (sto (sto (sto m 0 22 0) 0 23 0) 0 24 0) 0 25 0) 0 26 0) 0 27 0) rfl (Zp 4 rfl)))))))))
def f_invalidate (m:OMem):Option (OMem):=some (sto (sto m 0 24 0) 0 26 0)
theorem f_invalidate_ok (t:Nat) (m:OMem):Sim (f_invalidate m) (fun w0 _=>some (none,t,w0)) (fun n=>R n 2 0 [qr 0] [] t m) :=
 Zp 7 rfl
def f_beginRule_b9 (m:OMem):Option (Int×OMem):=some ((-1),m)
theorem f_beginRule_b9_ok (m:OMem):Sim (f_beginRule_b9 m) (fun (r,w0) _=>some (some (vi r),44,w0)) (fun n=>R n 1 9 [qn,qn] [] 44 m) :=
 Zp 2 rfl
def f_beginRule (x1:Int) (m:OMem):Option (Int×OMem):=if x1<0 then (f_beginRule_b9 m) else (if x1<4 then (if m 0 22<10 then (if 0≤m 0 22∧m 0 22<10 then (if 0≤m 0 22∧m 0 22<10 then ((f_invalidate (sto (sto (sto m 1 (m 0 22) x1) 2 (m 0 22) 0) 0 22 (w32 ((m 0 22)+1)))).bind fun m_1=>(some (w32 ((m_1 0 22) - 1),m_1))) else none) else none) else (some ((-2),m))) else (f_beginRule_b9 m))
theorem f_beginRule_ok (x1:Int) (m:OMem):Sim (f_beginRule x1 m) (fun (r,w0) _=>some (some (vi r),44,w0)) (fun n=>R n 1 0 [qr 0,qi x1] [] 44 m) :=
 Zi 2 1 9 4 [qr 0,qi x1] [] 44 m rfl (Sim.jmp (f_beginRule_b9_ok m) rfl (fun _=>rfl)) (Zi 3 1 11 9 [qr 0,qi x1] [] 44 m rfl (Zi 4 1 23 20 [qr 0,qi x1] [] 44 m rfl (Zg 6 1 33 [qr 0,qi x1] [] 44 (sto m 1 (m 0 22) x1) rfl (Zg 6 1 43 [qr 0,qi x1] [] 44 (sto (sto m 1 (m 0 22) x1) 2 (m 0 22) 0) rfl (Zv 8 1 57 [qr 0,qi x1] [] (f_invalidate_ok 44 (sto (sto (sto m 1 (m 0 22) x1) 2 (m 0 22) 0) 0 22 (w32 ((m 0 22)+1)))) rfl (fun m_1=>Zp 5 rfl)))) (Zp 2 rfl)) (Sim.jmp (f_beginRule_b9_ok m) rfl (fun _=>rfl)))
def f_addSymbol_b20 (m:OMem):Option (Int×OMem):=some ((-1),m)
theorem f_addSymbol_b20_ok (m:OMem):Sim (f_addSymbol_b20 m) (fun (r,w0) _=>some (some (vi r),44,w0)) (fun n=>R n 3 20 [qn,qn,qn,qn] [] 44 m) :=
 Zp 2 rfl
def f_addSymbol_b45 (m:OMem):Option (Int×OMem):=some ((-2),m)
theorem f_addSymbol_b45_ok (m:OMem):Sim (f_addSymbol_b45 m) (fun (r,w0) _=>some (some (vi r),44,w0)) (fun n=>R n 3 45 [qn,qn,qn,qn] [] 44 m) :=
 Zp 2 rfl
def f_addSymbol (x1:Int) (m:OMem):Option (Int×OMem):=if 0<m 0 22 then (if x1<0 then (f_addSymbol_b20 m) else (if 7<x1 then (f_addSymbol_b20 m) else (if 0≤w32 ((m 0 22) - 1)∧w32 ((m 0 22) - 1)<10 then (if m 2 (w32 ((m 0 22) - 1))<3 then (if m 2 (w32 ((m 0 22) - 1))<0 then (f_addSymbol_b45 m) else (if 0≤w32 ((w32 ((w32 ((m 0 22) - 1))*3))+(m 2 (w32 ((m 0 22) - 1))))∧w32 ((w32 ((w32 ((m 0 22) - 1))*3))+(m 2 (w32 ((m 0 22) - 1))))<30 then (if 0≤w32 ((m 0 22) - 1)∧w32 ((m 0 22) - 1)<10 then ((f_invalidate (sto (sto m 3 (w32 ((w32 ((w32 ((m 0 22) - 1))*3))+(m 2 (w32 ((m 0 22) - 1))))) x1) 2 (w32 ((m 0 22) - 1)) (w32 ((m 2 (w32 ((m 0 22) - 1)))+1)))).bind fun m_2=>(some (w32 ((m 2 (w32 ((m 0 22) - 1)))+1),m_2))) else none) else none)) else (f_addSymbol_b45 m)) else none))) else (some ((-3),m))
theorem f_addSymbol_ok (x1:Int) (m:OMem):Sim (f_addSymbol x1 m) (fun (r,w0) _=>some (some (vi r),44,w0)) (fun n=>R n 3 0 [qr 0,qi x1,qn,qn] [] 44 m) :=
 Zi 3 3 10 7 [qr 0,qi x1,qn,qn] [] 44 m rfl (Zi 2 3 20 14 [qr 0,qi x1,qn,qn] [] 44 m rfl (Sim.jmp (f_addSymbol_b20_ok m) rfl (fun _=>rfl)) (Zi 3 3 20 22 [qr 0,qi x1,qn,qn] [] 44 m rfl (Sim.jmp (f_addSymbol_b20_ok m) rfl (fun _=>rfl)) (Zh 5 3 29 [qr 0,qi x1,qi (w32 ((m 0 22) - 1)),qn] [] 44 m rfl (Zg 4 3 35 [qr 0,qi x1,qi (w32 ((m 0 22) - 1)),qn] [vi (m 2 (w32 ((m 0 22) - 1)))] 44 m rfl (Zi 4 3 41 45 [qr 0,qi x1,qi (w32 ((m 0 22) - 1)),qi (m 2 (w32 ((m 0 22) - 1)))] [] 44 m rfl (Zi 2 3 45 48 [qr 0,qi x1,qi (w32 ((m 0 22) - 1)),qi (m 2 (w32 ((m 0 22) - 1)))] [] 44 m rfl (Sim.jmp (f_addSymbol_b45_ok m) rfl (fun _=>rfl)) (Zh 7 3 57 [qr 0,qi x1,qi (w32 ((m 0 22) - 1)),qi (m 2 (w32 ((m 0 22) - 1)))] [vi (w32 ((w32 ((w32 ((m 0 22) - 1))*3))+(m 2 (w32 ((m 0 22) - 1))))),vr 3] 44 m rfl (Zg 2 3 59 [qr 0,qi x1,qi (w32 ((m 0 22) - 1)),qi (m 2 (w32 ((m 0 22) - 1)))] [] 44 (sto m 3 (w32 ((w32 ((w32 ((m 0 22) - 1))*3))+(m 2 (w32 ((m 0 22) - 1))))) x1) rfl (Zg 7 3 68 [qr 0,qi x1,qi (w32 ((m 0 22) - 1)),qi (m 2 (w32 ((m 0 22) - 1)))] [] 44 (sto (sto m 3 (w32 ((w32 ((w32 ((m 0 22) - 1))*3))+(m 2 (w32 ((m 0 22) - 1))))) x1) 2 (w32 ((m 0 22) - 1)) (w32 ((m 2 (w32 ((m 0 22) - 1)))+1))) rfl (Zv 2 3 72 [qr 0,qi x1,qi (w32 ((m 0 22) - 1)),qi (m 2 (w32 ((m 0 22) - 1)))] [] (f_invalidate_ok 44 (sto (sto m 3 (w32 ((w32 ((w32 ((m 0 22) - 1))*3))+(m 2 (w32 ((m 0 22) - 1))))) x1) 2 (w32 ((m 0 22) - 1)) (w32 ((m 2 (w32 ((m 0 22) - 1)))+1)))) rfl (fun m_2=>Zp 4 rfl)))))) (Sim.jmp (f_addSymbol_b45_ok m) rfl (fun _=>rfl))))))) (Zp 2 rfl)
def f_ruleExists_b23 (s0:Int) (m:OMem):Option (Int):=some (s0 % 2)
theorem f_ruleExists_b23_ok (t:Nat) (s0:Int) (m:OMem):Sim (f_ruleExists_b23 s0 m) (fun r _=>some (some (vi r),t,m)) (fun n=>R n 5 23 [qn,qn] [vi s0] t m) :=
 Zp 1 rfl
def f_ruleExists_b22 (m:OMem):Option (Int):=f_ruleExists_b23 0 m
theorem f_ruleExists_b22_ok (t:Nat) (m:OMem):Sim (f_ruleExists_b22 m) (fun r _=>some (some (vi r),t,m)) (fun n=>R n 5 22 [qn,qn] [] t m) :=
 Ze 1 (f_ruleExists_b23_ok t 0 m) rfl
def f_ruleExists (x1:Int) (m:OMem):Option (Int):=if x1<0 then (f_ruleExists_b22 m) else (if x1<m 0 22 then (if x1<10 then (f_ruleExists_b23 1 m) else (f_ruleExists_b22 m)) else (f_ruleExists_b22 m))
theorem f_ruleExists_ok (t:Nat) (x1:Int) (m:OMem):Sim (f_ruleExists x1 m) (fun r _=>some (some (vi r),t,m)) (fun n=>R n 5 0 [qr 0,qi x1] [] t m) :=
 Zi 2 5 22 4 [qr 0,qi x1] [] t m rfl (Sim.jmp (f_ruleExists_b22_ok t m) rfl (fun _=>rfl)) (Zi 4 5 12 22 [qr 0,qi x1] [] t m rfl (Zi 3 5 18 22 [qn,qi x1] [] t m rfl (Ze 2 (f_ruleExists_b23_ok t 1 m) rfl) (Sim.jmp (f_ruleExists_b22_ok t m) rfl (fun _=>rfl))) (Sim.jmp (f_ruleExists_b22_ok t m) rfl (fun _=>rfl)))
def f_ruleLhs (x1:Int) (m:OMem):Option (Int):=(f_ruleExists x1 m).bind fun r_3=>(if r_3=0 then (some (-1)) else (if 0≤x1∧x1<10 then (some (m 1 x1)) else none))
theorem f_ruleLhs_ok (x1:Int) (m:OMem):Sim (f_ruleLhs x1 m) (fun r _=>some (some (vi r),44,m)) (fun n=>R n 4 0 [qr 0,qi x1] [] 44 m) :=
 Zr 3 4 5 [qr 0,qi x1] [] (f_ruleExists_ok 44 x1 m) rfl (fun r_3=>Zi 1 4 8 10 [qr 0,qi x1] [] 44 m rfl (Zp 2 rfl) (Zg 4 4 16 [qr 0,qi x1] [vi (m 1 x1)] 44 m rfl (Zp 1 rfl)))
def f_ruleLength (x1:Int) (m:OMem):Option (Int):=(f_ruleExists x1 m).bind fun r_4=>(if r_4=0 then (some (-1)) else (if 0≤x1∧x1<10 then (some (m 2 x1)) else none))
theorem f_ruleLength_ok (x1:Int) (m:OMem):Sim (f_ruleLength x1 m) (fun r _=>some (some (vi r),44,m)) (fun n=>R n 6 0 [qr 0,qi x1] [] 44 m) :=
 Zr 3 6 5 [qr 0,qi x1] [] (f_ruleExists_ok 44 x1 m) rfl (fun r_4=>Zi 1 6 8 10 [qr 0,qi x1] [] 44 m rfl (Zp 2 rfl) (Zg 4 6 16 [qr 0,qi x1] [vi (m 2 x1)] 44 m rfl (Zp 1 rfl)))
def f_ruleSymbol_b29 (m:OMem):Option (Int):=some (-1)
theorem f_ruleSymbol_b29_ok (m:OMem):Sim (f_ruleSymbol_b29 m) (fun r _=>some (some (vi r),44,m)) (fun n=>R n 7 29 [qn,qn,qn] [] 44 m) :=
 Zp 2 rfl
def f_ruleSymbol (x1 x2:Int) (m:OMem):Option (Int):=(f_ruleExists x1 m).bind fun r_5=>(if r_5=0 then (some (-1)) else (if x2<0 then (f_ruleSymbol_b29 m) else (if 0≤x1∧x1<10 then (if x2<m 2 x1 then (if x2<3 then (if 0≤w32 ((w32 (x1*3))+x2)∧w32 ((w32 (x1*3))+x2)<30 then (some (m 3 (w32 ((w32 (x1*3))+x2)))) else none) else (f_ruleSymbol_b29 m)) else (f_ruleSymbol_b29 m)) else none)))
theorem f_ruleSymbol_ok (x1 x2:Int) (m:OMem):Sim (f_ruleSymbol x1 x2 m) (fun r _=>some (some (vi r),44,m)) (fun n=>R n 7 0 [qr 0,qi x1,qi x2] [] 44 m) :=
 Zr 3 7 5 [qr 0,qi x1,qi x2] [] (f_ruleExists_ok 44 x1 m) rfl (fun r_5=>Zi 1 7 8 10 [qr 0,qi x1,qi x2] [] 44 m rfl (Zp 2 rfl) (Zi 2 7 29 14 [qr 0,qi x1,qi x2] [] 44 m rfl (Sim.jmp (f_ruleSymbol_b29_ok m) rfl (fun _=>rfl)) (Zg 5 7 21 [qr 0,qi x1,qi x2] [vi (m 2 x1),vi x2] 44 m rfl (Zi 1 7 24 29 [qr 0,qi x1,qi x2] [] 44 m rfl (Zi 3 7 31 29 [qr 0,qi x1,qi x2] [] 44 m rfl (Zh 7 7 40 [qr 0,qi x1,qi x2] [vi (w32 ((w32 (x1*3))+x2)),vr 3] 44 m rfl (Zg 1 7 41 [qr 0,qi x1,qi x2] [vi (m 3 (w32 ((w32 (x1*3))+x2)))] 44 m rfl (Zp 1 rfl))) (Sim.jmp (f_ruleSymbol_b29_ok m) rfl (fun _=>rfl))) (Sim.jmp (f_ruleSymbol_b29_ok m) rfl (fun _=>rfl))))))
def f_clearInput (m:OMem):Option (OMem):=(f_invalidate (sto m 0 23 0)).bind fun m_6=>(some m_6)
theorem f_clearInput_ok (t:Nat) (m:OMem):Sim (f_clearInput m) (fun w0 _=>some (none,t,w0)) (fun n=>R n 8 0 [qr 0] [] t m) :=
 Zv 5 8 9 [qr 0] [] (f_invalidate_ok t (sto m 0 23 0)) rfl (fun m_6=>Zp 1 rfl)
def f_addToken_b9 (m:OMem):Option (Int×OMem):=some ((-1),m)
theorem f_addToken_b9_ok (m:OMem):Sim (f_addToken_b9 m) (fun (r,w0) _=>some (some (vi r),44,w0)) (fun n=>R n 9 9 [qn,qn] [] 44 m) :=
 Zp 2 rfl
def f_addToken_b27 (m:OMem):Option (Int×OMem):=some ((-2),m)
theorem f_addToken_b27_ok (m:OMem):Sim (f_addToken_b27 m) (fun (r,w0) _=>some (some (vi r),44,w0)) (fun n=>R n 9 27 [qn,qn] [] 44 m) :=
 Zp 2 rfl
def f_addToken (x1:Int) (m:OMem):Option (Int×OMem):=if x1<0 then (f_addToken_b9 m) else (if x1<4 then (if m 0 23<8 then (if m 0 23<0 then (f_addToken_b27 m) else (if 0≤m 0 23∧m 0 23<8 then ((f_invalidate (sto (sto m 4 (m 0 23) x1) 0 23 (w32 ((m 0 23)+1)))).bind fun m_7=>(some (m_7 0 23,m_7))) else none)) else (f_addToken_b27 m)) else (f_addToken_b9 m))
theorem f_addToken_ok (x1:Int) (m:OMem):Sim (f_addToken x1 m) (fun (r,w0) _=>some (some (vi r),44,w0)) (fun n=>R n 9 0 [qr 0,qi x1] [] 44 m) :=
 Zi 2 9 9 4 [qr 0,qi x1] [] 44 m rfl (Sim.jmp (f_addToken_b9_ok m) rfl (fun _=>rfl)) (Zi 3 9 11 9 [qr 0,qi x1] [] 44 m rfl (Zi 4 9 20 27 [qr 0,qi x1] [] 44 m rfl (Zi 3 9 27 30 [qr 0,qi x1] [] 44 m rfl (Sim.jmp (f_addToken_b27_ok m) rfl (fun _=>rfl)) (Zg 6 9 40 [qr 0,qi x1] [] 44 (sto m 4 (m 0 23) x1) rfl (Zv 8 9 54 [qr 0,qi x1] [] (f_invalidate_ok 44 (sto (sto m 4 (m 0 23) x1) 0 23 (w32 ((m 0 23)+1)))) rfl (fun m_7=>Zp 3 rfl)))) (Sim.jmp (f_addToken_b27_ok m) rfl (fun _=>rfl))) (Sim.jmp (f_addToken_b9_ok m) rfl (fun _=>rfl)))
def f_inputToken_b18 (m:OMem):Option (Int):=some (-1)
theorem f_inputToken_b18_ok (m:OMem):Sim (f_inputToken_b18 m) (fun r _=>some (some (vi r),44,m)) (fun n=>R n 10 18 [qn,qn] [] 44 m) :=
 Zp 2 rfl
def f_inputToken (x1:Int) (m:OMem):Option (Int):=if x1<0 then (f_inputToken_b18 m) else (if x1<m 0 23 then (if x1<8 then (if 0≤x1∧x1<8 then (some (m 4 x1)) else none) else (f_inputToken_b18 m)) else (f_inputToken_b18 m))
theorem f_inputToken_ok (x1:Int) (m:OMem):Sim (f_inputToken x1 m) (fun r _=>some (some (vi r),44,m)) (fun n=>R n 10 0 [qr 0,qi x1] [] 44 m) :=
 Zi 2 10 18 4 [qr 0,qi x1] [] 44 m rfl (Sim.jmp (f_inputToken_b18_ok m) rfl (fun _=>rfl)) (Zi 4 10 12 18 [qr 0,qi x1] [] 44 m rfl (Zi 3 10 20 18 [qr 0,qi x1] [] 44 m rfl (Zg 4 10 26 [qr 0,qi x1] [vi (m 4 x1)] 44 m rfl (Zp 1 rfl)) (Sim.jmp (f_inputToken_b18_ok m) rfl (fun _=>rfl))) (Sim.jmp (f_inputToken_b18_ok m) rfl (fun _=>rfl)))
def f_othersNullable_l20_H (m:OMem) (x1 x2 x3:Int):Int→Nat→RT:=fun x4 n=>R n 13 20 [qr 0,qi x1,qi x2,qi x3,qi x4,qn] [] 44 m
def f_othersNullable_l20_X (m:OMem) (x1 x2 x3:Int):(Unit)⊕(Unit)→Nat→RT:=fun e n=>match e with | (.inl _)=>R n 13 75 [qn,qn,qn,qn,qn,qn] [] 44 m | (.inr _)=>R n 13 83 [qn,qn,qn,qn,qn,qn] [] 44 m
def f_othersNullable_b77 (x1 x2 x3 x4:Int) (m:OMem):Option ((Int)⊕((Unit)⊕(Unit))):=some (.inl (w32 (x4+1)))
theorem f_othersNullable_b77_ok (x1 x2 x3 x4:Int) (m:OMem):Sim (f_othersNullable_b77 x1 x2 x3 x4 m) (Sum.elim (f_othersNullable_l20_H m x1 x2 x3 ) (f_othersNullable_l20_X m x1 x2 x3 )) (fun n=>R n 13 77 [qr 0,qi x1,qi x2,qi x3,qi x4,qn] [] 44 m) :=
 Zp 2 rfl
def f_othersNullable_l20 (m:OMem) (x1 x2 x3:Int):Int→Option ((Int)⊕((Unit)⊕(Unit))):=fun x4=>if x4<x3 then (if x4<3 then (if x4=x2 then (f_othersNullable_b77 x1 x2 x3 x4 m) else (if 0≤w32 ((w32 (x1*3))+x4)∧w32 ((w32 (x1*3))+x4)<30 then (if m 3 (w32 ((w32 (x1*3))+x4))<0 then (some (.inr (.inl ()))) else (if m 3 (w32 ((w32 (x1*3))+x4))<4 then (if 0≤m 3 (w32 ((w32 (x1*3))+x4))∧m 3 (w32 ((w32 (x1*3))+x4))<4 then (if m 7 (m 3 (w32 ((w32 (x1*3))+x4)))=0 then (some (.inr (.inl ()))) else (f_othersNullable_b77 x1 x2 x3 x4 m)) else none) else (some (.inr (.inl ()))))) else none)) else (some (.inr (.inr ())))) else (some (.inr (.inr ())))
theorem f_othersNullable_l20_ok (m:OMem) (x1 x2 x3:Int) (x4:Int):Sim (f_othersNullable_l20 m x1 x2 x3 x4) (Sum.elim (f_othersNullable_l20_H m x1 x2 x3 ) (f_othersNullable_l20_X m x1 x2 x3 )) (f_othersNullable_l20_H m x1 x2 x3 x4) :=
 Zi 3 13 26 83 [qr 0,qi x1,qi x2,qi x3,qi x4,qn] [] 44 m rfl (Zi 3 13 32 83 [qr 0,qi x1,qi x2,qi x3,qi x4,qn] [] 44 m rfl (Zi 3 13 38 41 [qr 0,qi x1,qi x2,qi x3,qi x4,qn] [] 44 m rfl (Ze 1 (f_othersNullable_b77_ok x1 x2 x3 x4 m) rfl) (Zh 7 13 51 [qr 0,qi x1,qi x2,qi x3,qi x4,qn] [vi (w32 ((w32 (x1*3))+x4)),vr 3] 44 m rfl (Zg 1 13 52 [qr 0,qi x1,qi x2,qi x3,qi x4,qn] [vi (m 3 (w32 ((w32 (x1*3))+x4)))] 44 m rfl (Zi 3 13 75 59 [qr 0,qi x1,qi x2,qi x3,qi x4,qi (m 3 (w32 ((w32 (x1*3))+x4)))] [] 44 m rfl (Sv rfl rfl) (Zi 3 13 65 75 [qr 0,qi x1,qi x2,qi x3,qi x4,qi (m 3 (w32 ((w32 (x1*3))+x4)))] [] 44 m rfl (Zg 4 13 72 [qr 0,qi x1,qi x2,qi x3,qi x4,qi (m 3 (w32 ((w32 (x1*3))+x4)))] [vi (m 7 (m 3 (w32 ((w32 (x1*3))+x4))))] 44 m rfl (Zi 1 13 75 77 [qr 0,qi x1,qi x2,qi x3,qi x4,qi (m 3 (w32 ((w32 (x1*3))+x4)))] [] 44 m rfl (Sv rfl rfl) (Sim.jmp (f_othersNullable_b77_ok x1 x2 x3 x4 m) rfl (fun _=>rfl)))) (Sv rfl rfl)))))) (Sv rfl rfl)) (Sv rfl rfl)
def f_othersNullable_b75 (m:OMem):Option (Int):=some 0
theorem f_othersNullable_b75_ok (m:OMem):Sim (f_othersNullable_b75 m) (fun r _=>some (some (vi r),44,m)) (fun n=>R n 13 75 [qn,qn,qn,qn,qn,qn] [] 44 m) :=
 Zp 2 rfl
def f_othersNullable_b83 (m:OMem):Option (Int):=some 1
theorem f_othersNullable_b83_ok (m:OMem):Sim (f_othersNullable_b83 m) (fun r _=>some (some (vi r),44,m)) (fun n=>R n 13 83 [qn,qn,qn,qn,qn,qn] [] 44 m) :=
 Zp 2 rfl
def f_othersNullable (x1 x2:Int) (m:OMem):Option (Int):=(f_ruleExists x1 m).bind fun r_9=>(if r_9=0 then (some 0) else (if 0≤x1∧x1<10 then ((lp (f_othersNullable_l20 m x1 x2 (m 2 x1)) NN 0).bind fun e=>match e with | (.inl _)=>(f_othersNullable_b75 m) | (.inr _)=>(f_othersNullable_b83 m)) else none))
theorem f_othersNullable_ok (x1 x2:Int) (m:OMem):Sim (f_othersNullable x1 x2 m) (fun r _=>some (some (vi r),44,m)) (fun n=>R n 13 0 [qr 0,qi x1,qi x2,qn,qn,qn] [] 44 m) :=
 Zr 3 13 5 [qr 0,qi x1,qi x2,qn,qn,qn] [] (f_ruleExists_ok 44 x1 m) rfl (fun r_9=>Zi 1 13 8 10 [qr 0,qi x1,qi x2,qn,qn,qn] [] 44 m rfl (Zp 2 rfl) (Zg 4 13 16 [qr 0,qi x1,qi x2,qn,qn,qn] [vi (m 2 x1)] 44 m rfl (Zb 3 (Sim.lp (σ:=Int) (fun x4L=>f_othersNullable_l20_ok m x1 x2 (m 2 x1) x4L) NN 0) rfl (fun e=>match e with | (.inl _)=>f_othersNullable_b75_ok m | (.inr _)=>f_othersNullable_b83_ok m))))
def f_computeNullable_l2_H:Int×OMem→Nat→RT:=fun (x1,m) n=>R n 12 2 [qr 0,qi x1,qn,qn,qn] [] 44 m
def f_computeNullable_l2_X:(OMem)→Nat→RT:=fun e n=>match e with | w=>R n 12 20 [qr 0,qn,qn,qn,qn] [] 44 w
def f_computeNullable_l2:Int×OMem→Option ((Int×OMem)⊕((OMem))):=fun (x1,m)=>if x1<4 then (if 0≤x1∧x1<4 then (some (.inl (w32 (x1+1),sto m 7 x1 0))) else none) else (some (.inr m))
theorem f_computeNullable_l2_ok (x1:Int) (m:OMem):Sim (f_computeNullable_l2 (x1,m)) (Sum.elim (f_computeNullable_l2_H ) (f_computeNullable_l2_X )) (f_computeNullable_l2_H (x1,m)) :=
 Zi 3 12 7 20 [qr 0,qi x1,qn,qn,qn] [] 44 m rfl (Zg 5 12 14 [qr 0,qi x1,qn,qn,qn] [] 44 (sto m 7 x1 0) rfl (Zp 2 rfl)) (Sv rfl rfl)
def f_computeNullable_l22_H:Int×OMem→Nat→RT:=fun (x1,m) n=>R n 12 22 [qr 0,qi x1,qn,qn,qn] [] 44 m
def f_computeNullable_l22_X:(OMem)⊕(OMem)→Nat→RT:=fun e n=>match e with | (.inl w)=>R n 12 103 [qn,qn,qn,qn,qn] [] 44 w | (.inr w)=>R n 12 112 [qn,qn,qn,qn,qn] [] 44 w
def f_computeNullable_l31_H (x1:Int):Int×Int×OMem→Nat→RT:=fun (x2,x3,m) n=>R n 12 31 [qr 0,qi x1,qi x2,qi x3,qn] [] 44 m
def f_computeNullable_l31_X (x1:Int):(Int×OMem)→Nat→RT:=fun e n=>match e with | (y2,w)=>R n 12 99 [qr 0,qi x1,qi y2,qn,qn] [] 44 w
def f_computeNullable_b93 (x1 x2 x3:Int) (m:OMem):Option ((Int×Int×OMem)⊕((Int×OMem))):=some (.inl (x2,w32 (x3+1),m))
theorem f_computeNullable_b93_ok (x1 x2 x3:Int) (m:OMem):Sim (f_computeNullable_b93 x1 x2 x3 m) (Sum.elim (f_computeNullable_l31_H x1 ) (f_computeNullable_l31_X x1 )) (fun n=>R n 12 93 [qr 0,qi x1,qi x2,qi x3,qn] [] 44 m) :=
 Zp 2 rfl
def f_computeNullable_l31 (x1:Int):Int×Int×OMem→Option ((Int×Int×OMem)⊕((Int×OMem))):=fun (x2,x3,m)=>if x3<m 0 22 then (if x3<10 then (if 0≤x3∧x3<10 then (if m 1 x3<0 then (f_computeNullable_b93 x1 x2 x3 m) else (if m 1 x3<4 then (if 0≤m 1 x3∧m 1 x3<4 then (if m 7 (m 1 x3)=0 then ((f_othersNullable x3 (-1) m).bind fun r_10=>(if r_10=0 then (f_computeNullable_b93 x1 x2 x3 m) else (if 0≤m 1 x3∧m 1 x3<4 then (f_computeNullable_b93 x1 1 x3 (sto m 7 (m 1 x3) 1)) else none))) else (f_computeNullable_b93 x1 x2 x3 m)) else none) else (f_computeNullable_b93 x1 x2 x3 m))) else none) else (some (.inr (x2,m)))) else (some (.inr (x2,m)))
theorem f_computeNullable_l31_ok (x1:Int) (x2 x3:Int) (m:OMem):Sim (f_computeNullable_l31 x1 (x2,x3,m)) (Sum.elim (f_computeNullable_l31_H x1 ) (f_computeNullable_l31_X x1 )) (f_computeNullable_l31_H x1 (x2,x3,m)) :=
 Zi 4 12 39 99 [qr 0,qi x1,qi x2,qi x3,qn] [] 44 m rfl (Zi 3 12 45 99 [qr 0,qi x1,qi x2,qi x3,qn] [] 44 m rfl (Zg 4 12 51 [qr 0,qi x1,qi x2,qi x3,qn] [vi (m 1 x3)] 44 m rfl (Zi 3 12 93 58 [qr 0,qi x1,qi x2,qi x3,qi (m 1 x3)] [] 44 m rfl (Sim.jmp (f_computeNullable_b93_ok x1 x2 x3 m) rfl (fun _=>rfl)) (Zi 3 12 64 93 [qr 0,qi x1,qi x2,qi x3,qi (m 1 x3)] [] 44 m rfl (Zg 4 12 71 [qr 0,qi x1,qi x2,qi x3,qi (m 1 x3)] [vi (m 7 (m 1 x3))] 44 m rfl (Zi 1 12 74 93 [qr 0,qi x1,qi x2,qi x3,qi (m 1 x3)] [] 44 m rfl (Zr 4 12 80 [qr 0,qi x1,qi x2,qi x3,qi (m 1 x3)] [] (f_othersNullable_ok x3 (-1) m) rfl (fun r_10=>Zi 1 12 93 83 [qr 0,qi x1,qi x2,qi x3,qi (m 1 x3)] [] 44 m rfl (Sim.jmp (f_computeNullable_b93_ok x1 x2 x3 m) rfl (fun _=>rfl)) (Zg 5 12 91 [qr 0,qi x1,qn,qi x3,qi (m 1 x3)] [] 44 (sto m 7 (m 1 x3) 1) rfl (Zj 2 (f_computeNullable_b93_ok x1 1 x3 (sto m 7 (m 1 x3) 1)) rfl rfl)))) (Sim.jmp (f_computeNullable_b93_ok x1 x2 x3 m) rfl (fun _=>rfl)))) (Sim.jmp (f_computeNullable_b93_ok x1 x2 x3 m) rfl (fun _=>rfl))))) (Sv rfl rfl)) (Sv rfl rfl)
def f_computeNullable_b99 (x1 x2:Int) (m:OMem):Option ((Int×OMem)⊕((OMem)⊕(OMem))):=if x2=0 then (some (.inr (.inl m))) else (some (.inl (w32 (x1+1),m)))
theorem f_computeNullable_b99_ok (x1 x2:Int) (m:OMem):Sim (f_computeNullable_b99 x1 x2 m) (Sum.elim (f_computeNullable_l22_H ) (f_computeNullable_l22_X )) (fun n=>R n 12 99 [qr 0,qi x1,qi x2,qn,qn] [] 44 m) :=
 Zi 2 12 103 106 [qr 0,qi x1,qi x2,qn,qn] [] 44 m rfl (Sv rfl rfl) (Zp 2 rfl)
def f_computeNullable_l22:Int×OMem→Option ((Int×OMem)⊕((OMem)⊕(OMem))):=fun (x1,m)=>if x1<5 then ((lp (f_computeNullable_l31 x1) NN (0,0,m)).bind fun (x2_11,m_12)=>(f_computeNullable_b99 x1 x2_11 m_12)) else (some (.inr (.inr m)))
theorem f_computeNullable_l22_ok (x1:Int) (m:OMem):Sim (f_computeNullable_l22 (x1,m)) (Sum.elim (f_computeNullable_l22_H ) (f_computeNullable_l22_X )) (f_computeNullable_l22_H (x1,m)) :=
 Zi 3 12 27 112 [qr 0,qi x1,qn,qn,qn] [] 44 m rfl (Zb 4 (Sim.lp (σ:=Int×Int×OMem) (fun ⟨x2L,x3L,mL⟩=>f_computeNullable_l31_ok x1 x2L x3L mL) NN (0,0,m)) rfl (fun ⟨x2_11,m_12⟩=>f_computeNullable_b99_ok x1 x2_11 m_12)) (Sv rfl rfl)
def f_computeNullable_b112 (m:OMem):Option (OMem):=some m
theorem f_computeNullable_b112_ok (m:OMem):Sim (f_computeNullable_b112 m) (fun w0 _=>some (none,44,w0)) (fun n=>R n 12 112 [qn,qn,qn,qn,qn] [] 44 m) :=
 Zp 1 rfl
def f_computeNullable (m:OMem):Option (OMem):=(lp (f_computeNullable_l2 ) NN (0,m)).bind fun m_8=>((lp (f_computeNullable_l22 ) NN (0,m_8)).bind fun e=>match e with | (.inl m_13)=>(f_computeNullable_b112 m_13) | (.inr m_14)=>(f_computeNullable_b112 m_14))
theorem f_computeNullable_ok (m:OMem):Sim (f_computeNullable m) (fun w0 _=>some (none,44,w0)) (fun n=>R n 12 0 [qr 0,qn,qn,qn,qn] [] 44 m) :=
 Zb 2 (Sim.lp (σ:=Int×OMem) (fun ⟨x1L,mL⟩=>f_computeNullable_l2_ok x1L mL) NN (0,m)) rfl (fun m_8=>Zb 2 (Sim.lp (σ:=Int×OMem) (fun ⟨x1L,mL⟩=>f_computeNullable_l22_ok x1L mL) NN (0,m_8)) rfl (fun e=>match e with | (.inl m_13)=>Sh 1 (fun n=>R n 12 112 [qn,qn,qn,qn,qn] [] 44 m_13) rfl (f_computeNullable_b112_ok m_13) | (.inr m_14)=>f_computeNullable_b112_ok m_14))
def f_addEdges_l26_H (x1 x2 x3:Int):Int×OMem→Nat→RT:=fun (x4,m) n=>R n 15 26 [qr 0,qi x1,qi x2,qi x3,qi x4,qn] [] 44 m
def f_addEdges_l26_X (x1 x2 x3:Int):(OMem)→Nat→RT:=fun e n=>match e with | w=>R n 15 99 [qn,qn,qn,qn,qn,qn] [] 44 w
def f_addEdges_b93 (x1 x2 x3 x4:Int) (m:OMem):Option ((Int×OMem)⊕((OMem))):=some (.inl (w32 (x4+1),m))
theorem f_addEdges_b93_ok (x1 x2 x3 x4:Int) (m:OMem):Sim (f_addEdges_b93 x1 x2 x3 x4 m) (Sum.elim (f_addEdges_l26_H x1 x2 x3 ) (f_addEdges_l26_X x1 x2 x3 )) (fun n=>R n 15 93 [qr 0,qi x1,qi x2,qi x3,qi x4,qn] [] 44 m) :=
 Zp 2 rfl
def f_addEdges_l26 (x1 x2 x3:Int):Int×OMem→Option ((Int×OMem)⊕((OMem))):=fun (x4,m)=>if x4<x3 then (if x4<3 then (if 0≤w32 ((w32 (x1*3))+x4)∧w32 ((w32 (x1*3))+x4)<30 then (if m 3 (w32 ((w32 (x1*3))+x4))<0 then (f_addEdges_b93 x1 x2 x3 x4 m) else (if m 3 (w32 ((w32 (x1*3))+x4))<4 then (if x2<0 then (f_addEdges_b93 x1 x2 x3 x4 m) else (if x2<4 then ((f_othersNullable x1 x4 m).bind fun r_18=>(if r_18=0 then (f_addEdges_b93 x1 x2 x3 x4 m) else (if 0≤w32 ((w32 (x2*4))+(m 3 (w32 ((w32 (x1*3))+x4))))∧w32 ((w32 (x2*4))+(m 3 (w32 ((w32 (x1*3))+x4))))<16 then (f_addEdges_b93 x1 x2 x3 x4 (sto m 8 (w32 ((w32 (x2*4))+(m 3 (w32 ((w32 (x1*3))+x4))))) 1)) else none))) else (f_addEdges_b93 x1 x2 x3 x4 m))) else (f_addEdges_b93 x1 x2 x3 x4 m))) else none) else (some (.inr m))) else (some (.inr m))
theorem f_addEdges_l26_ok (x1 x2 x3:Int) (x4:Int) (m:OMem):Sim (f_addEdges_l26 x1 x2 x3 (x4,m)) (Sum.elim (f_addEdges_l26_H x1 x2 x3 ) (f_addEdges_l26_X x1 x2 x3 )) (f_addEdges_l26_H x1 x2 x3 (x4,m)) :=
 Zi 3 15 32 99 [qr 0,qi x1,qi x2,qi x3,qi x4,qn] [] 44 m rfl (Zi 3 15 38 99 [qr 0,qi x1,qi x2,qi x3,qi x4,qn] [] 44 m rfl (Zh 7 15 48 [qr 0,qi x1,qi x2,qi x3,qi x4,qn] [vi (w32 ((w32 (x1*3))+x4)),vr 3] 44 m rfl (Zg 1 15 49 [qr 0,qi x1,qi x2,qi x3,qi x4,qn] [vi (m 3 (w32 ((w32 (x1*3))+x4)))] 44 m rfl (Zi 3 15 93 56 [qr 0,qi x1,qi x2,qi x3,qi x4,qi (m 3 (w32 ((w32 (x1*3))+x4)))] [] 44 m rfl (Sim.jmp (f_addEdges_b93_ok x1 x2 x3 x4 m) rfl (fun _=>rfl)) (Zi 3 15 62 93 [qr 0,qi x1,qi x2,qi x3,qi x4,qi (m 3 (w32 ((w32 (x1*3))+x4)))] [] 44 m rfl (Zi 2 15 93 66 [qr 0,qi x1,qi x2,qi x3,qi x4,qi (m 3 (w32 ((w32 (x1*3))+x4)))] [] 44 m rfl (Sim.jmp (f_addEdges_b93_ok x1 x2 x3 x4 m) rfl (fun _=>rfl)) (Zi 3 15 71 93 [qr 0,qi x1,qi x2,qi x3,qi x4,qi (m 3 (w32 ((w32 (x1*3))+x4)))] [] 44 m rfl (Zr 4 15 78 [qr 0,qi x1,qi x2,qi x3,qi x4,qi (m 3 (w32 ((w32 (x1*3))+x4)))] [] (f_othersNullable_ok x1 x4 m) rfl (fun r_18=>Zi 1 15 93 81 [qr 0,qi x1,qi x2,qi x3,qi x4,qi (m 3 (w32 ((w32 (x1*3))+x4)))] [] 44 m rfl (Sim.jmp (f_addEdges_b93_ok x1 x2 x3 x4 m) rfl (fun _=>rfl)) (Zh 7 15 91 [qr 0,qi x1,qi x2,qi x3,qi x4,qi (m 3 (w32 ((w32 (x1*3))+x4)))] [vi (w32 ((w32 (x2*4))+(m 3 (w32 ((w32 (x1*3))+x4))))),vr 8] 44 m rfl (Zg 2 15 93 [qr 0,qi x1,qi x2,qi x3,qi x4,qi (m 3 (w32 ((w32 (x1*3))+x4)))] [] 44 (sto m 8 (w32 ((w32 (x2*4))+(m 3 (w32 ((w32 (x1*3))+x4))))) 1) rfl (Sim.jmp (f_addEdges_b93_ok x1 x2 x3 x4 (sto m 8 (w32 ((w32 (x2*4))+(m 3 (w32 ((w32 (x1*3))+x4))))) 1)) rfl (fun _=>rfl)))))) (Sim.jmp (f_addEdges_b93_ok x1 x2 x3 x4 m) rfl (fun _=>rfl)))) (Sim.jmp (f_addEdges_b93_ok x1 x2 x3 x4 m) rfl (fun _=>rfl)))))) (Sv rfl rfl)) (Sv rfl rfl)
def f_addEdges_b99 (m:OMem):Option (OMem):=some m
theorem f_addEdges_b99_ok (m:OMem):Sim (f_addEdges_b99 m) (fun w0 _=>some (none,44,w0)) (fun n=>R n 15 99 [qn,qn,qn,qn,qn,qn] [] 44 m) :=
 Zp 1 rfl
def f_addEdges (x1:Int) (m:OMem):Option (OMem):=(f_ruleExists x1 m).bind fun r_17=>(if r_17=0 then (some m) else (if 0≤x1∧x1<10 then (if 0≤x1∧x1<10 then ((lp (f_addEdges_l26 x1 (m 1 x1) (m 2 x1)) NN (0,m)).bind fun m_19=>(f_addEdges_b99 m_19)) else none) else none))
theorem f_addEdges_ok (x1:Int) (m:OMem):Sim (f_addEdges x1 m) (fun w0 _=>some (none,44,w0)) (fun n=>R n 15 0 [qr 0,qi x1,qn,qn,qn,qn] [] 44 m) :=
 Zr 3 15 5 [qr 0,qi x1,qn,qn,qn,qn] [] (f_ruleExists_ok 44 x1 m) rfl (fun r_17=>Zi 1 15 8 9 [qr 0,qi x1,qn,qn,qn,qn] [] 44 m rfl (Zp 1 rfl) (Zg 4 15 15 [qr 0,qi x1,qn,qn,qn,qn] [vi (m 1 x1)] 44 m rfl (Zg 5 15 22 [qr 0,qi x1,qi (m 1 x1),qn,qn,qn] [vi (m 2 x1)] 44 m rfl (Zb 3 (Sim.lp (σ:=Int×OMem) (fun ⟨x4L,mL⟩=>f_addEdges_l26_ok x1 (m 1 x1) (m 2 x1) x4L mL) NN (0,m)) rfl (fun m_19=>f_addEdges_b99_ok m_19)))))
def f_computeReach_l2_H:Int×OMem→Nat→RT:=fun (x1,m) n=>R n 14 2 [qr 0,qi x1,qn,qn,qn] [] 44 m
def f_computeReach_l2_X:(OMem)→Nat→RT:=fun e n=>match e with | w=>R n 14 21 [qr 0,qn,qn,qn,qn] [] 44 w
def f_computeReach_l2:Int×OMem→Option ((Int×OMem)⊕((OMem))):=fun (x1,m)=>if x1<16 then (if 0≤x1∧x1<16 then (some (.inl (w32 (x1+1),sto m 8 x1 0))) else none) else (some (.inr m))
theorem f_computeReach_l2_ok (x1:Int) (m:OMem):Sim (f_computeReach_l2 (x1,m)) (Sum.elim (f_computeReach_l2_H ) (f_computeReach_l2_X )) (f_computeReach_l2_H (x1,m)) :=
 Zi 3 14 8 21 [qr 0,qi x1,qn,qn,qn] [] 44 m rfl (Zg 5 14 15 [qr 0,qi x1,qn,qn,qn] [] 44 (sto m 8 x1 0) rfl (Zp 2 rfl)) (Sv rfl rfl)
def f_computeReach_l23_H:Int×OMem→Nat→RT:=fun (x1,m) n=>R n 14 23 [qr 0,qi x1,qn,qn,qn] [] 44 m
def f_computeReach_l23_X:(OMem)→Nat→RT:=fun e n=>match e with | w=>R n 14 48 [qr 0,qn,qn,qn,qn] [] 44 w
def f_computeReach_l23:Int×OMem→Option ((Int×OMem)⊕((OMem))):=fun (x1,m)=>if x1<m 0 22 then (if x1<10 then ((f_addEdges x1 m).bind fun m_20=>(some (.inl (w32 (x1+1),m_20)))) else (some (.inr m))) else (some (.inr m))
theorem f_computeReach_l23_ok (x1:Int) (m:OMem):Sim (f_computeReach_l23 (x1,m)) (Sum.elim (f_computeReach_l23_H ) (f_computeReach_l23_X )) (f_computeReach_l23_H (x1,m)) :=
 Zi 4 14 31 48 [qr 0,qi x1,qn,qn,qn] [] 44 m rfl (Zi 3 14 37 48 [qr 0,qi x1,qn,qn,qn] [] 44 m rfl (Zv 3 14 42 [qr 0,qi x1,qn,qn,qn] [] (f_addEdges_ok x1 m) rfl (fun m_20=>Zp 2 rfl)) (Sv rfl rfl)) (Sv rfl rfl)
def f_computeReach_l50_H:Int×OMem→Nat→RT:=fun (x1,m) n=>R n 14 50 [qr 0,qi x1,qn,qn,qn] [] 44 m
def f_computeReach_l50_X:(OMem)→Nat→RT:=fun e n=>match e with | w=>R n 14 118 [qn,qn,qn,qn,qn] [] 44 w
def f_computeReach_l57_H (x1:Int):Int×OMem→Nat→RT:=fun (x2,m) n=>R n 14 57 [qr 0,qi x1,qi x2,qn,qn] [] 44 m
def f_computeReach_l57_X (x1:Int):(OMem)→Nat→RT:=fun e n=>match e with | w=>R n 14 112 [qr 0,qi x1,qn,qn,qn] [] 44 w
def f_computeReach_b106 (x1 x2:Int) (m:OMem):Option ((Int×OMem)⊕((OMem))):=some (.inl (w32 (x2+1),m))
theorem f_computeReach_b106_ok (x1 x2:Int) (m:OMem):Sim (f_computeReach_b106 x1 x2 m) (Sum.elim (f_computeReach_l57_H x1 ) (f_computeReach_l57_X x1 )) (fun n=>R n 14 106 [qr 0,qi x1,qi x2,qn,qn] [] 44 m) :=
 Zp 2 rfl
def f_computeReach_l57 (x1:Int):Int×OMem→Option ((Int×OMem)⊕((OMem))):=fun (x2,m)=>if x2<16 then (if 0≤w32 ((w32 ((div32 x2 4)*4))+x1)∧w32 ((w32 ((div32 x2 4)*4))+x1)<16 then (if m 8 (w32 ((w32 ((div32 x2 4)*4))+x1))=0 then (f_computeReach_b106 x1 x2 m) else (if 0≤w32 ((w32 (x1*4))+(rem32 x2 4))∧w32 ((w32 (x1*4))+(rem32 x2 4))<16 then (if m 8 (w32 ((w32 (x1*4))+(rem32 x2 4)))=0 then (f_computeReach_b106 x1 x2 m) else (if 0≤x2∧x2<16 then (f_computeReach_b106 x1 x2 (sto m 8 x2 1)) else none)) else none)) else none) else (some (.inr m))
theorem f_computeReach_l57_ok (x1:Int) (x2:Int) (m:OMem):Sim (f_computeReach_l57 x1 (x2,m)) (Sum.elim (f_computeReach_l57_H x1 ) (f_computeReach_l57_X x1 )) (f_computeReach_l57_H x1 (x2,m)) :=
 Zi 3 14 63 112 [qr 0,qi x1,qi x2,qn,qn] [] 44 m rfl (Zh 5 14 68 [qr 0,qi x1,qi x2,qi (div32 x2 4),qn] [vi x2] 44 m rfl (Zh 5 14 76 [qr 0,qi x1,qi x2,qi (div32 x2 4),qi (rem32 x2 4)] [vr 8] 44 m rfl (Zh 5 14 81 [qr 0,qi x1,qi x2,qi (div32 x2 4),qi (rem32 x2 4)] [vi (w32 ((w32 ((div32 x2 4)*4))+x1)),vr 8] 44 m rfl (Zg 1 14 82 [qr 0,qi x1,qi x2,qi (div32 x2 4),qi (rem32 x2 4)] [vi (m 8 (w32 ((w32 ((div32 x2 4)*4))+x1)))] 44 m rfl (Zi 1 14 106 85 [qr 0,qi x1,qi x2,qi (div32 x2 4),qi (rem32 x2 4)] [] 44 m rfl (Sim.jmp (f_computeReach_b106_ok x1 x2 m) rfl (fun _=>rfl)) (Zh 7 14 95 [qr 0,qi x1,qi x2,qn,qi (rem32 x2 4)] [vi (w32 ((w32 (x1*4))+(rem32 x2 4))),vr 8] 44 m rfl (Zg 1 14 96 [qr 0,qi x1,qi x2,qn,qi (rem32 x2 4)] [vi (m 8 (w32 ((w32 (x1*4))+(rem32 x2 4))))] 44 m rfl (Zi 1 14 106 99 [qr 0,qi x1,qi x2,qn,qi (rem32 x2 4)] [] 44 m rfl (Sim.jmp (f_computeReach_b106_ok x1 x2 m) rfl (fun _=>rfl)) (Zg 5 14 106 [qr 0,qi x1,qi x2,qn,qn] [] 44 (sto m 8 x2 1) rfl (f_computeReach_b106_ok x1 x2 (sto m 8 x2 1))))))))))) (Sv rfl rfl)
def f_computeReach_l50:Int×OMem→Option ((Int×OMem)⊕((OMem))):=fun (x1,m)=>if x1<4 then ((lp (f_computeReach_l57 x1) NN (0,m)).bind fun m_22=>(some (.inl (w32 (x1+1),m_22)))) else (some (.inr m))
theorem f_computeReach_l50_ok (x1:Int) (m:OMem):Sim (f_computeReach_l50 (x1,m)) (Sum.elim (f_computeReach_l50_H ) (f_computeReach_l50_X )) (f_computeReach_l50_H (x1,m)) :=
 Zi 3 14 55 118 [qr 0,qi x1,qn,qn,qn] [] 44 m rfl (Zb 2 (Sim.lp (σ:=Int×OMem) (fun ⟨x2L,mL⟩=>f_computeReach_l57_ok x1 x2L mL) NN (0,m)) rfl (fun m_22=>Zp 2 rfl)) (Sv rfl rfl)
def f_computeReach_b48 (m:OMem):Option (OMem):=(lp (f_computeReach_l50 ) NN (0,m)).bind fun m_23=>(some m_23)
theorem f_computeReach_b48_ok (m:OMem):Sim (f_computeReach_b48 m) (fun w0 _=>some (none,44,w0)) (fun n=>R n 14 48 [qr 0,qn,qn,qn,qn] [] 44 m) :=
 Zb 2 (Sim.lp (σ:=Int×OMem) (fun ⟨x1L,mL⟩=>f_computeReach_l50_ok x1L mL) NN (0,m)) rfl (fun m_23=>Zp 1 rfl)
def f_computeReach (m:OMem):Option (OMem):=(lp (f_computeReach_l2 ) NN (0,m)).bind fun m_16=>((lp (f_computeReach_l23 ) NN (0,m_16)).bind fun m_21=>(f_computeReach_b48 m_21))
theorem f_computeReach_ok (m:OMem):Sim (f_computeReach m) (fun w0 _=>some (none,44,w0)) (fun n=>R n 14 0 [qr 0,qn,qn,qn,qn] [] 44 m) :=
 Zb 2 (Sim.lp (σ:=Int×OMem) (fun ⟨x1L,mL⟩=>f_computeReach_l2_ok x1L mL) NN (0,m)) rfl (fun m_16=>Zb 2 (Sim.lp (σ:=Int×OMem) (fun ⟨x1L,mL⟩=>f_computeReach_l23_ok x1L mL) NN (0,m_16)) rfl (fun m_21=>f_computeReach_b48_ok m_21))
def f_isCyclic_l2_H (m:OMem):Int→Nat→RT:=fun x1 n=>R n 16 2 [qr 0,qi x1] [] 44 m
def f_isCyclic_l2_X (m:OMem):(Unit)⊕(Unit)→Nat→RT:=fun e n=>match e with | (.inl _)=>R n 16 18 [qn,qn] [] 44 m | (.inr _)=>R n 16 26 [qn,qn] [] 44 m
def f_isCyclic_l2 (m:OMem):Int→Option ((Int)⊕((Unit)⊕(Unit))):=fun x1=>if x1<4 then (if 0≤w32 (x1*5)∧w32 (x1*5)<16 then (if m 8 (w32 (x1*5))=0 then (some (.inl (w32 (x1+1)))) else (some (.inr (.inl ())))) else none) else (some (.inr (.inr ())))
theorem f_isCyclic_l2_ok (m:OMem) (x1:Int):Sim (f_isCyclic_l2 m x1) (Sum.elim (f_isCyclic_l2_H m ) (f_isCyclic_l2_X m )) (f_isCyclic_l2_H m x1) :=
 Zi 3 16 7 26 [qr 0,qi x1] [] 44 m rfl (Zg 6 16 15 [qr 0,qi x1] [vi (m 8 (w32 (x1*5)))] 44 m rfl (Zi 1 16 20 18 [qr 0,qi x1] [] 44 m rfl (Zp 2 rfl) (Sv rfl rfl))) (Sv rfl rfl)
def f_isCyclic (m:OMem):Option (Int):=(lp (f_isCyclic_l2 m) NN 0).bind fun e=>match e with | (.inl _)=>(some 1) | (.inr _)=>(some 0)
theorem f_isCyclic_ok (m:OMem):Sim (f_isCyclic m) (fun r _=>some (some (vi r),44,m)) (fun n=>R n 16 0 [qr 0,qn] [] 44 m) :=
 Zb 2 (Sim.lp (σ:=Int) (fun x1L=>f_isCyclic_l2_ok m x1L) NN 0) rfl (fun e=>match e with | (.inl _)=>Sh 2 (fun _=>some (some (vi 1),44,m)) rfl Sp | (.inr _)=>Sh 2 (fun _=>some (some (vi 0),44,m)) rfl Sp)
def f_spanOk_b25 (s0:Int) (m:OMem):Option (Int):=some (s0 % 2)
theorem f_spanOk_b25_ok (t:Nat) (s0:Int) (m:OMem):Sim (f_spanOk_b25 s0 m) (fun r _=>some (some (vi r),t,m)) (fun n=>R n 20 25 [qn,qn,qn] [vi s0] t m) :=
 Zp 1 rfl
def f_spanOk_b24 (m:OMem):Option (Int):=f_spanOk_b25 0 m
theorem f_spanOk_b24_ok (t:Nat) (m:OMem):Sim (f_spanOk_b24 m) (fun r _=>some (some (vi r),t,m)) (fun n=>R n 20 24 [qn,qn,qn] [] t m) :=
 Ze 1 (f_spanOk_b25_ok t 0 m) rfl
def f_spanOk (x1 x2:Int) (m:OMem):Option (Int):=if x1<0 then (f_spanOk_b24 m) else (if x2<0 then (f_spanOk_b24 m) else (if 8<x1 then (f_spanOk_b24 m) else (if 8<x2 then (f_spanOk_b24 m) else (f_spanOk_b25 1 m))))
theorem f_spanOk_ok (t:Nat) (x1 x2:Int) (m:OMem):Sim (f_spanOk x1 x2 m) (fun r _=>some (some (vi r),t,m)) (fun n=>R n 20 0 [qr 0,qi x1,qi x2] [] t m) :=
 Zi 2 20 24 4 [qn,qi x1,qi x2] [] t m rfl (Sim.jmp (f_spanOk_b24_ok t m) rfl (fun _=>rfl)) (Zi 2 20 24 8 [qn,qi x1,qi x2] [] t m rfl (Sim.jmp (f_spanOk_b24_ok t m) rfl (fun _=>rfl)) (Zi 3 20 24 14 [qn,qi x1,qi x2] [] t m rfl (Sim.jmp (f_spanOk_b24_ok t m) rfl (fun _=>rfl)) (Zi 3 20 24 20 [qn,qn,qi x2] [] t m rfl (Sim.jmp (f_spanOk_b24_ok t m) rfl (fun _=>rfl)) (Ze 2 (f_spanOk_b25_ok t 1 m) rfl))))
def f_setCnt_b18 (m:OMem):Option (OMem):=some m
theorem f_setCnt_b18_ok (m:OMem):Sim (f_setCnt_b18 m) (fun w0 _=>some (none,44,w0)) (fun n=>R n 19 18 [qn,qn,qn,qn,qn] [] 44 m) :=
 Zp 1 rfl
def f_setCnt (x1 x2 x3 x4:Int) (m:OMem):Option (OMem):=if x1<0 then (f_setCnt_b18 m) else (if 3<x1 then (f_setCnt_b18 m) else ((f_spanOk x2 x3 m).bind fun r_26=>(if r_26=0 then (f_setCnt_b18 m) else (if 0≤w32 ((w32 ((w32 ((w32 (x1*9))+x2))*9))+x3)∧w32 ((w32 ((w32 ((w32 (x1*9))+x2))*9))+x3)<324 then (some (sto m 5 (w32 ((w32 ((w32 ((w32 (x1*9))+x2))*9))+x3)) x4)) else none))))
theorem f_setCnt_ok (x1 x2 x3 x4:Int) (m:OMem):Sim (f_setCnt x1 x2 x3 x4 m) (fun w0 _=>some (none,44,w0)) (fun n=>R n 19 0 [qr 0,qi x1,qi x2,qi x3,qi x4] [] 44 m) :=
 Zi 2 19 18 4 [qr 0,qi x1,qi x2,qi x3,qi x4] [] 44 m rfl (Sim.jmp (f_setCnt_b18_ok m) rfl (fun _=>rfl)) (Zi 3 19 18 9 [qr 0,qi x1,qi x2,qi x3,qi x4] [] 44 m rfl (Sim.jmp (f_setCnt_b18_ok m) rfl (fun _=>rfl)) (Zr 4 19 15 [qr 0,qi x1,qi x2,qi x3,qi x4] [] (f_spanOk_ok 44 x2 x3 m) rfl (fun r_26=>Zi 1 19 18 19 [qr 0,qi x1,qi x2,qi x3,qi x4] [] 44 m rfl (Sim.jmp (f_setCnt_b18_ok m) rfl (fun _=>rfl)) (Zh 7 19 29 [qr 0,qi x1,qi x2,qi x3,qi x4] [vi (w32 ((w32 (x1*9))+x2)),vr 5] 44 m rfl (Zh 4 19 34 [qr 0,qi x1,qi x2,qi x3,qi x4] [vi (w32 ((w32 ((w32 ((w32 (x1*9))+x2))*9))+x3)),vr 5] 44 m rfl (Zg 2 19 37 [qr 0,qi x1,qi x2,qi x3,qi x4] [] 44 (sto m 5 (w32 ((w32 ((w32 ((w32 (x1*9))+x2))*9))+x3)) x4) rfl (Zp 1 rfl)))))))
def f_symAt_b19 (m:OMem):Option (Int):=some (-1)
theorem f_symAt_b19_ok (m:OMem):Sim (f_symAt_b19 m) (fun r _=>some (some (vi r),44,m)) (fun n=>R n 22 19 [qn,qn,qn] [] 44 m) :=
 Zp 2 rfl
def f_symAt (x1 x2:Int) (m:OMem):Option (Int):=if x1<0 then (f_symAt_b19 m) else (if x1<10 then (if x2<0 then (f_symAt_b19 m) else (if 2<x2 then (f_symAt_b19 m) else (if 0≤w32 ((w32 (x1*3))+x2)∧w32 ((w32 (x1*3))+x2)<30 then (some (m 3 (w32 ((w32 (x1*3))+x2)))) else none))) else (f_symAt_b19 m))
theorem f_symAt_ok (x1 x2:Int) (m:OMem):Sim (f_symAt x1 x2 m) (fun r _=>some (some (vi r),44,m)) (fun n=>R n 22 0 [qr 0,qi x1,qi x2] [] 44 m) :=
 Zi 2 22 19 4 [qr 0,qi x1,qi x2] [] 44 m rfl (Sim.jmp (f_symAt_b19_ok m) rfl (fun _=>rfl)) (Zi 3 22 10 19 [qr 0,qi x1,qi x2] [] 44 m rfl (Zi 2 22 19 14 [qr 0,qi x1,qi x2] [] 44 m rfl (Sim.jmp (f_symAt_b19_ok m) rfl (fun _=>rfl)) (Zi 3 22 19 21 [qr 0,qi x1,qi x2] [] 44 m rfl (Sim.jmp (f_symAt_b19_ok m) rfl (fun _=>rfl)) (Zh 7 22 30 [qr 0,qi x1,qi x2] [vi (w32 ((w32 (x1*3))+x2)),vr 3] 44 m rfl (Zg 1 22 31 [qr 0,qi x1,qi x2] [vi (m 3 (w32 ((w32 (x1*3))+x2)))] 44 m rfl (Zp 1 rfl))))) (Sim.jmp (f_symAt_b19_ok m) rfl (fun _=>rfl)))
def f_wAt_b15 (s0:Int) (m:OMem):Option (Int):=some s0
theorem f_wAt_b15_ok (s0:Int) (m:OMem):Sim (f_wAt_b15 s0 m) (fun r _=>some (some (vi r),44,m)) (fun n=>R n 23 15 [qn,qn,qn,qn,qn] [vi s0] 44 m) :=
 Zp 1 rfl
def f_wAt_b45 (m:OMem):Option (Int):=some 0
theorem f_wAt_b45_ok (m:OMem):Sim (f_wAt_b45 m) (fun r _=>some (some (vi r),44,m)) (fun n=>R n 23 45 [qn,qn,qn,qn,qn] [] 44 m) :=
 Zp 2 rfl
def f_wAt (x1 x2 x3 x4:Int) (m:OMem):Option (Int):=if x2=0 then (if x4=x3 then (f_wAt_b15 1 m) else (f_wAt_b15 0 m)) else (if x1<0 then (f_wAt_b45 m) else (if x1<10 then (if x2<0 then (f_wAt_b45 m) else (if 3<x2 then (f_wAt_b45 m) else ((f_spanOk x3 x4 m).bind fun r_30=>(if r_30=0 then (f_wAt_b45 m) else (if 0≤w32 ((w32 ((w32 ((w32 ((w32 ((w32 (x1*4))+x2))*9))+x3))*9))+x4)∧w32 ((w32 ((w32 ((w32 ((w32 ((w32 (x1*4))+x2))*9))+x3))*9))+x4)<3240 then (some (m 6 (w32 ((w32 ((w32 ((w32 ((w32 ((w32 (x1*4))+x2))*9))+x3))*9))+x4)))) else none))))) else (f_wAt_b45 m)))
theorem f_wAt_ok (x1 x2 x3 x4:Int) (m:OMem):Sim (f_wAt x1 x2 x3 x4 m) (fun r _=>some (some (vi r),44,m)) (fun n=>R n 23 0 [qr 0,qi x1,qi x2,qi x3,qi x4] [] 44 m) :=
 Zi 2 23 4 16 [qr 0,qi x1,qi x2,qi x3,qi x4] [] 44 m rfl (Zi 3 23 10 14 [qn,qn,qn,qi x3,qi x4] [] 44 m rfl (Ze 2 (f_wAt_b15_ok 1 m) rfl) (Ze 1 (f_wAt_b15_ok 0 m) rfl)) (Zi 2 23 45 20 [qr 0,qi x1,qi x2,qi x3,qi x4] [] 44 m rfl (Sim.jmp (f_wAt_b45_ok m) rfl (fun _=>rfl)) (Zi 3 23 26 45 [qr 0,qi x1,qi x2,qi x3,qi x4] [] 44 m rfl (Zi 2 23 45 30 [qr 0,qi x1,qi x2,qi x3,qi x4] [] 44 m rfl (Sim.jmp (f_wAt_b45_ok m) rfl (fun _=>rfl)) (Zi 3 23 45 35 [qr 0,qi x1,qi x2,qi x3,qi x4] [] 44 m rfl (Sim.jmp (f_wAt_b45_ok m) rfl (fun _=>rfl)) (Zr 4 23 42 [qr 0,qi x1,qi x2,qi x3,qi x4] [] (f_spanOk_ok 44 x3 x4 m) rfl (fun r_30=>Zi 1 23 45 47 [qr 0,qi x1,qi x2,qi x3,qi x4] [] 44 m rfl (Sim.jmp (f_wAt_b45_ok m) rfl (fun _=>rfl)) (Zh 7 23 56 [qr 0,qi x1,qi x2,qi x3,qi x4] [vi (w32 ((w32 (x1*4))+x2)),vr 6] 44 m rfl (Zh 4 23 61 [qr 0,qi x1,qi x2,qi x3,qi x4] [vi (w32 ((w32 ((w32 ((w32 (x1*4))+x2))*9))+x3)),vr 6] 44 m rfl (Zh 4 23 67 [qr 0,qi x1,qi x2,qi x3,qi x4] [vi (w32 ((w32 ((w32 ((w32 ((w32 ((w32 (x1*4))+x2))*9))+x3))*9))+x4)),vr 6] 44 m rfl (Zg 1 23 68 [qr 0,qi x1,qi x2,qi x3,qi x4] [vi (m 6 (w32 ((w32 ((w32 ((w32 ((w32 ((w32 (x1*4))+x2))*9))+x3))*9))+x4)))] 44 m rfl (Zp 1 rfl))))))))) (Sim.jmp (f_wAt_b45_ok m) rfl (fun _=>rfl))))
def f_cntAt_b18 (m:OMem):Option (Int):=some 0
theorem f_cntAt_b18_ok (m:OMem):Sim (f_cntAt_b18 m) (fun r _=>some (some (vi r),44,m)) (fun n=>R n 25 18 [qn,qn,qn,qn] [] 44 m) :=
 Zp 2 rfl
def f_cntAt (x1 x2 x3:Int) (m:OMem):Option (Int):=if x1<0 then (f_cntAt_b18 m) else (if 3<x1 then (f_cntAt_b18 m) else ((f_spanOk x2 x3 m).bind fun r_33=>(if r_33=0 then (f_cntAt_b18 m) else (if 0≤w32 ((w32 ((w32 ((w32 (x1*9))+x2))*9))+x3)∧w32 ((w32 ((w32 ((w32 (x1*9))+x2))*9))+x3)<324 then (some (m 5 (w32 ((w32 ((w32 ((w32 (x1*9))+x2))*9))+x3)))) else none))))
theorem f_cntAt_ok (x1 x2 x3:Int) (m:OMem):Sim (f_cntAt x1 x2 x3 m) (fun r _=>some (some (vi r),44,m)) (fun n=>R n 25 0 [qr 0,qi x1,qi x2,qi x3] [] 44 m) :=
 Zi 2 25 18 4 [qr 0,qi x1,qi x2,qi x3] [] 44 m rfl (Sim.jmp (f_cntAt_b18_ok m) rfl (fun _=>rfl)) (Zi 3 25 18 9 [qr 0,qi x1,qi x2,qi x3] [] 44 m rfl (Sim.jmp (f_cntAt_b18_ok m) rfl (fun _=>rfl)) (Zr 4 25 15 [qr 0,qi x1,qi x2,qi x3] [] (f_spanOk_ok 44 x2 x3 m) rfl (fun r_33=>Zi 1 25 18 20 [qr 0,qi x1,qi x2,qi x3] [] 44 m rfl (Sim.jmp (f_cntAt_b18_ok m) rfl (fun _=>rfl)) (Zh 7 25 30 [qr 0,qi x1,qi x2,qi x3] [vi (w32 ((w32 (x1*9))+x2)),vr 5] 44 m rfl (Zh 4 25 35 [qr 0,qi x1,qi x2,qi x3] [vi (w32 ((w32 ((w32 ((w32 (x1*9))+x2))*9))+x3)),vr 5] 44 m rfl (Zg 1 25 36 [qr 0,qi x1,qi x2,qi x3] [vi (m 5 (w32 ((w32 ((w32 ((w32 (x1*9))+x2))*9))+x3)))] 44 m rfl (Zp 1 rfl)))))))
def f_symCount_b19 (m:OMem):Option (Int):=some 0
theorem f_symCount_b19_ok (m:OMem):Sim (f_symCount_b19 m) (fun r _=>some (some (vi r),44,m)) (fun n=>R n 24 19 [qn,qn,qn,qn] [] 44 m) :=
 Zp 2 rfl
def f_symCount_b69 (m:OMem):Option (Int):=some 0
theorem f_symCount_b69_ok (m:OMem):Sim (f_symCount_b69 m) (fun r _=>some (some (vi r),44,m)) (fun n=>R n 24 69 [qn,qn,qn,qn] [] 44 m) :=
 Zp 2 rfl
def f_symCount (x1 x2 x3:Int) (m:OMem):Option (Int):=if x1<0 then (f_symCount_b19 m) else (if 7<x1 then (f_symCount_b19 m) else ((f_spanOk x2 x3 m).bind fun r_32=>(if r_32=0 then (f_symCount_b19 m) else (if x1<4 then ((f_cntAt x1 x2 x3 m).bind fun r_34=>(some r_34)) else (if x3=w32 (x2+1) then (if x2<m 0 23 then (if x2<8 then (if 0≤x2∧x2<8 then (if m 4 x2=w32 (x1 - 4) then (some 1) else (f_symCount_b69 m)) else none) else (f_symCount_b69 m)) else (f_symCount_b69 m)) else (f_symCount_b69 m))))))
theorem f_symCount_ok (x1 x2 x3:Int) (m:OMem):Sim (f_symCount x1 x2 x3 m) (fun r _=>some (some (vi r),44,m)) (fun n=>R n 24 0 [qr 0,qi x1,qi x2,qi x3] [] 44 m) :=
 Zi 2 24 19 4 [qr 0,qi x1,qi x2,qi x3] [] 44 m rfl (Sim.jmp (f_symCount_b19_ok m) rfl (fun _=>rfl)) (Zi 3 24 19 10 [qr 0,qi x1,qi x2,qi x3] [] 44 m rfl (Sim.jmp (f_symCount_b19_ok m) rfl (fun _=>rfl)) (Zr 4 24 16 [qr 0,qi x1,qi x2,qi x3] [] (f_spanOk_ok 44 x2 x3 m) rfl (fun r_32=>Zi 1 24 19 21 [qr 0,qi x1,qi x2,qi x3] [] 44 m rfl (Sim.jmp (f_symCount_b19_ok m) rfl (fun _=>rfl)) (Zi 3 24 26 34 [qr 0,qi x1,qi x2,qi x3] [] 44 m rfl (Zr 5 24 33 [qr 0,qi x1,qi x2,qi x3] [] (f_cntAt_ok x1 x2 x3 m) rfl (fun r_34=>Zp 1 rfl)) (Zi 5 24 41 69 [qr 0,qi x1,qi x2,qi x3] [] 44 m rfl (Zi 4 24 49 69 [qr 0,qi x1,qi x2,qn] [] 44 m rfl (Zi 3 24 55 69 [qr 0,qi x1,qi x2,qn] [] 44 m rfl (Zg 4 24 61 [qr 0,qi x1,qi x2,qn] [vi (m 4 x2)] 44 m rfl (Zi 4 24 67 69 [qr 0,qi x1,qi x2,qn] [] 44 m rfl (Zp 2 rfl) (Sim.jmp (f_symCount_b69_ok m) rfl (fun _=>rfl)))) (Sim.jmp (f_symCount_b69_ok m) rfl (fun _=>rfl))) (Sim.jmp (f_symCount_b69_ok m) rfl (fun _=>rfl))) (Sim.jmp (f_symCount_b69_ok m) rfl (fun _=>rfl)))))))
def f_satMul_b8 (m:OMem):Option (Int):=some 0
theorem f_satMul_b8_ok (t:Nat) (m:OMem):Sim (f_satMul_b8 m) (fun r _=>some (some (vi r),t,m)) (fun n=>R n 26 8 [qn,qn,qn,qn,qn] [] t m) :=
 Zp 2 rfl
def f_satMul (x1 x2:Int) (m:OMem):Option (Int):=if 0<x1 then (if 0<x2 then (if lcm (w64 (x1*x2)) 1000000<0 then (some (w32 (w64 (x1*x2)))) else (some 1000000)) else (f_satMul_b8 m)) else (f_satMul_b8 m)
theorem f_satMul_ok (t:Nat) (x1 x2:Int) (m:OMem):Sim (f_satMul x1 x2 m) (fun r _=>some (some (vi r),t,m)) (fun n=>R n 26 0 [qr 0,qi x1,qi x2,qn,qn] [] t m) :=
 Zi 2 26 4 8 [qn,qi x1,qi x2,qn,qn] [] t m rfl (Zi 2 26 10 8 [qn,qi x1,qi x2,qn,qn] [] t m rfl (Zh 6 26 16 [qn,qi x1,qi x2,qj (w64 (x1*x2)),qn] [] t m rfl (Zi 4 26 27 24 [qn,qi x1,qi x2,qj (w64 (x1*x2)),qn] [] t m rfl (Zp 3 rfl) (Zp 2 rfl))) (Sim.jmp (f_satMul_b8_ok t m) rfl (fun _=>rfl))) (Sim.jmp (f_satMul_b8_ok t m) rfl (fun _=>rfl))
def f_satAdd (x1 x2:Int) (m:OMem):Option (Int):=if lcm (w64 (x1+x2)) 1000000<0 then (if lcm (w64 (x1+x2)) 0<0 then (some 0) else (some (w32 (w64 (x1+x2))))) else (some 1000000)
theorem f_satAdd_ok (t:Nat) (x1 x2:Int) (m:OMem):Sim (f_satAdd x1 x2 m) (fun r _=>some (some (vi r),t,m)) (fun n=>R n 27 0 [qr 0,qi x1,qi x2,qn,qn] [] t m) :=
 Zh 6 27 6 [qn,qi x1,qi x2,qj (w64 (x1+x2)),qn] [] t m rfl (Zi 4 27 17 14 [qn,qi x1,qi x2,qj (w64 (x1+x2)),qn] [] t m rfl (Zi 4 27 23 25 [qn,qn,qn,qj (w64 (x1+x2)),qn] [] t m rfl (Zp 2 rfl) (Zp 3 rfl)) (Zp 2 rfl))
def f_setW_b30 (m:OMem):Option (OMem):=some m
theorem f_setW_b30_ok (m:OMem):Sim (f_setW_b30 m) (fun w0 _=>some (none,44,w0)) (fun n=>R n 28 30 [qn,qn,qn,qn,qn,qn] [] 44 m) :=
 Zp 1 rfl
def f_setW (x1 x2 x3 x4 x5:Int) (m:OMem):Option (OMem):=if x1<0 then (f_setW_b30 m) else (if x1<10 then (if x2<1 then (f_setW_b30 m) else (if 3<x2 then (f_setW_b30 m) else ((f_spanOk x3 x4 m).bind fun r_39=>(if r_39=0 then (f_setW_b30 m) else (if 0≤w32 ((w32 ((w32 ((w32 ((w32 ((w32 (x1*4))+x2))*9))+x3))*9))+x4)∧w32 ((w32 ((w32 ((w32 ((w32 ((w32 (x1*4))+x2))*9))+x3))*9))+x4)<3240 then (some (sto m 6 (w32 ((w32 ((w32 ((w32 ((w32 ((w32 (x1*4))+x2))*9))+x3))*9))+x4)) x5)) else none))))) else (f_setW_b30 m))
theorem f_setW_ok (x1 x2 x3 x4 x5:Int) (m:OMem):Sim (f_setW x1 x2 x3 x4 x5 m) (fun w0 _=>some (none,44,w0)) (fun n=>R n 28 0 [qr 0,qi x1,qi x2,qi x3,qi x4,qi x5] [] 44 m) :=
 Zi 2 28 30 4 [qr 0,qi x1,qi x2,qi x3,qi x4,qi x5] [] 44 m rfl (Sim.jmp (f_setW_b30_ok m) rfl (fun _=>rfl)) (Zi 3 28 10 30 [qr 0,qi x1,qi x2,qi x3,qi x4,qi x5] [] 44 m rfl (Zi 3 28 30 15 [qr 0,qi x1,qi x2,qi x3,qi x4,qi x5] [] 44 m rfl (Sim.jmp (f_setW_b30_ok m) rfl (fun _=>rfl)) (Zi 3 28 30 20 [qr 0,qi x1,qi x2,qi x3,qi x4,qi x5] [] 44 m rfl (Sim.jmp (f_setW_b30_ok m) rfl (fun _=>rfl)) (Zr 4 28 27 [qr 0,qi x1,qi x2,qi x3,qi x4,qi x5] [] (f_spanOk_ok 44 x3 x4 m) rfl (fun r_39=>Zi 1 28 30 31 [qr 0,qi x1,qi x2,qi x3,qi x4,qi x5] [] 44 m rfl (Sim.jmp (f_setW_b30_ok m) rfl (fun _=>rfl)) (Zh 7 28 40 [qr 0,qi x1,qi x2,qi x3,qi x4,qi x5] [vi (w32 ((w32 (x1*4))+x2)),vr 6] 44 m rfl (Zh 4 28 45 [qr 0,qi x1,qi x2,qi x3,qi x4,qi x5] [vi (w32 ((w32 ((w32 ((w32 (x1*4))+x2))*9))+x3)),vr 6] 44 m rfl (Zh 4 28 51 [qr 0,qi x1,qi x2,qi x3,qi x4,qi x5] [vi (w32 ((w32 ((w32 ((w32 ((w32 ((w32 (x1*4))+x2))*9))+x3))*9))+x4)),vr 6] 44 m rfl (Zg 2 28 54 [qr 0,qi x1,qi x2,qi x3,qi x4,qi x5] [] 44 (sto m 6 (w32 ((w32 ((w32 ((w32 ((w32 ((w32 (x1*4))+x2))*9))+x3))*9))+x4)) x5) rfl (Zp 1 rfl))))))))) (Sim.jmp (f_setW_b30_ok m) rfl (fun _=>rfl)))
def f_computeRuleAt_l11_H (x1 x2 x3 x4:Int):Int×OMem→Nat→RT:=fun (x5,m) n=>R n 21 11 [qr 0,qi x1,qi x2,qi x3,qi x4,qi x5,qn,qn,qn,qn,qn,qn] [] 44 m
def f_computeRuleAt_l11_X (x1 x2 x3 x4:Int):(OMem)→Nat→RT:=fun e n=>match e with | w=>R n 21 130 [qn,qn,qn,qn,qn,qn,qn,qn,qn,qn,qn,qn] [] 44 w
def f_computeRuleAt_l41_H (m:OMem) (x1 x2 x3 x4 x5 x6:Int):Int×Int→Nat→RT:=fun (x7,x8) n=>R n 21 41 [qr 0,qi x1,qi x2,qi x3,qi x4,qi x5,qi x6,qi x7,qi x8,qn,qn,qn] [] 44 m
def f_computeRuleAt_l41_X (m:OMem) (x1 x2 x3 x4 x5 x6:Int):(Int)→Nat→RT:=fun e n=>match e with | y7=>R n 21 113 [qr 0,qi x1,qi x2,qi x3,qi x4,qi x5,qn,qi y7,qn,qn,qn,qn] [] 44 m
def f_computeRuleAt_b107 (x1 x2 x3 x4 x5 x6 x7 x8:Int) (m:OMem):Option ((Int×Int)⊕((Int))):=some (.inl (x7,w32 (x8+1)))
theorem f_computeRuleAt_b107_ok (x1 x2 x3 x4 x5 x6 x7 x8:Int) (m:OMem):Sim (f_computeRuleAt_b107 x1 x2 x3 x4 x5 x6 x7 x8 m) (Sum.elim (f_computeRuleAt_l41_H m x1 x2 x3 x4 x5 x6 ) (f_computeRuleAt_l41_X m x1 x2 x3 x4 x5 x6 )) (fun n=>R n 21 107 [qr 0,qi x1,qi x2,qi x3,qi x4,qi x5,qi x6,qi x7,qi x8,qn,qn,qn] [] 44 m) :=
 Zp 2 rfl
def f_computeRuleAt_l41 (m:OMem) (x1 x2 x3 x4 x5 x6:Int):Int×Int→Option ((Int×Int)⊕((Int))):=fun (x7,x8)=>if x3<x8 then (some (.inr x7)) else (if 8<x8 then (some (.inr x7)) else ((f_wAt x1 (w32 (x5 - 1)) x2 x8 m).bind fun r_31=>(if r_31=0 then (f_computeRuleAt_b107 x1 x2 x3 x4 x5 x6 x7 x8 m) else ((f_symCount x6 x8 x3 m).bind fun r_35=>((f_satMul r_31 r_35 m).bind fun r_36=>((f_satAdd x7 r_36 m).bind fun r_37=>(f_computeRuleAt_b107 x1 x2 x3 x4 x5 x6 r_37 x8 m)))))))
theorem f_computeRuleAt_l41_ok (m:OMem) (x1 x2 x3 x4 x5 x6:Int) (x7 x8:Int):Sim (f_computeRuleAt_l41 m x1 x2 x3 x4 x5 x6 (x7,x8)) (Sum.elim (f_computeRuleAt_l41_H m x1 x2 x3 x4 x5 x6 ) (f_computeRuleAt_l41_X m x1 x2 x3 x4 x5 x6 )) (f_computeRuleAt_l41_H m x1 x2 x3 x4 x5 x6 (x7,x8)) :=
 Zi 3 21 113 47 [qr 0,qi x1,qi x2,qi x3,qi x4,qi x5,qi x6,qi x7,qi x8,qn,qn,qn] [] 44 m rfl (Sv rfl rfl) (Zi 3 21 113 54 [qr 0,qi x1,qi x2,qi x3,qi x4,qi x5,qi x6,qi x7,qi x8,qn,qn,qn] [] 44 m rfl (Sv rfl rfl) (Zr 8 21 66 [qr 0,qi x1,qi x2,qi x3,qi x4,qi x5,qi x6,qi x7,qi x8,qn,qn,qn] [] (f_wAt_ok x1 (w32 (x5 - 1)) x2 x8 m) rfl (fun r_31=>Zi 3 21 73 76 [qr 0,qi x1,qi x2,qi x3,qi x4,qi x5,qi x6,qi x7,qi x8,qi r_31,qn,qn] [] 44 m rfl (Ze 1 (f_computeRuleAt_b107_ok x1 x2 x3 x4 x5 x6 x7 x8 m) rfl) (Zr 5 21 85 [qr 0,qi x1,qi x2,qi x3,qi x4,qi x5,qi x6,qi x7,qi x8,qi r_31,qn,qn] [] (f_symCount_ok x6 x8 x3 m) rfl (fun r_35=>Zr 5 21 95 [qr 0,qi x1,qi x2,qi x3,qi x4,qi x5,qi x6,qi x7,qi x8,qi r_31,qi r_35,qn] [] (f_satMul_ok 44 r_31 r_35 m) rfl (fun r_36=>Zr 5 21 105 [qr 0,qi x1,qi x2,qi x3,qi x4,qi x5,qi x6,qi x7,qi x8,qi r_31,qi r_35,qi r_36] [] (f_satAdd_ok 44 x7 r_36 m) rfl (fun r_37=>Zj 1 (f_computeRuleAt_b107_ok x1 x2 x3 x4 x5 x6 r_37 x8 m) rfl rfl)))))))
def f_computeRuleAt_b113 (x1 x2 x3 x4 x5 x7:Int) (m:OMem):Option ((Int×OMem)⊕((OMem))):=(f_setW x1 x5 x2 x3 x7 m).bind fun m_40=>(some (.inl (w32 (x5+1),m_40)))
theorem f_computeRuleAt_b113_ok (x1 x2 x3 x4 x5 x7:Int) (m:OMem):Sim (f_computeRuleAt_b113 x1 x2 x3 x4 x5 x7 m) (Sum.elim (f_computeRuleAt_l11_H x1 x2 x3 x4 ) (f_computeRuleAt_l11_X x1 x2 x3 x4 )) (fun n=>R n 21 113 [qr 0,qi x1,qi x2,qi x3,qi x4,qi x5,qn,qi x7,qn,qn,qn,qn] [] 44 m) :=
 Zv 7 21 124 [qr 0,qi x1,qi x2,qi x3,qi x4,qi x5,qn,qi x7,qn,qn,qn,qn] [] (f_setW_ok x1 x5 x2 x3 x7 m) rfl (fun m_40=>Zh 2 21 11 [qr 0,qi x1,qi x2,qi x3,qi x4,qi (w32 (x5+1)),qn,qi x7,qn,qn,qn,qn] [] 44 m_40 rfl (Sv rfl rfl))
def f_computeRuleAt_l11 (x1 x2 x3 x4:Int):Int×OMem→Option ((Int×OMem)⊕((OMem))):=fun (x5,m)=>if x4<x5 then (some (.inr m)) else (if 3<x5 then (some (.inr m)) else ((f_symAt x1 (w32 (x5 - 1)) m).bind fun r_29=>((lp (f_computeRuleAt_l41 m x1 x2 x3 x4 x5 r_29) NN (0,x2)).bind fun x7_38=>(f_computeRuleAt_b113 x1 x2 x3 x4 x5 x7_38 m))))
theorem f_computeRuleAt_l11_ok (x1 x2 x3 x4:Int) (x5:Int) (m:OMem):Sim (f_computeRuleAt_l11 x1 x2 x3 x4 (x5,m)) (Sum.elim (f_computeRuleAt_l11_H x1 x2 x3 x4 ) (f_computeRuleAt_l11_X x1 x2 x3 x4 )) (f_computeRuleAt_l11_H x1 x2 x3 x4 (x5,m)) :=
 Zi 3 21 130 18 [qr 0,qi x1,qi x2,qi x3,qi x4,qi x5,qn,qn,qn,qn,qn,qn] [] 44 m rfl (Sv rfl rfl) (Zi 3 21 130 24 [qr 0,qi x1,qi x2,qi x3,qi x4,qi x5,qn,qn,qn,qn,qn,qn] [] 44 m rfl (Sv rfl rfl) (Zr 6 21 33 [qr 0,qi x1,qi x2,qi x3,qi x4,qi x5,qn,qn,qn,qn,qn,qn] [] (f_symAt_ok x1 (w32 (x5 - 1)) m) rfl (fun r_29=>Zb 5 (Sim.lp (σ:=Int×Int) (fun ⟨x7L,x8L⟩=>f_computeRuleAt_l41_ok m x1 x2 x3 x4 x5 r_29 x7L x8L) NN (0,x2)) rfl (fun x7_38=>f_computeRuleAt_b113_ok x1 x2 x3 x4 x5 x7_38 m))))
def f_computeRuleAt_b130 (m:OMem):Option (OMem):=some m
theorem f_computeRuleAt_b130_ok (m:OMem):Sim (f_computeRuleAt_b130 m) (fun w0 _=>some (none,44,w0)) (fun n=>R n 21 130 [qn,qn,qn,qn,qn,qn,qn,qn,qn,qn,qn,qn] [] 44 m) :=
 Zp 1 rfl
def f_computeRuleAt (x1 x2 x3:Int) (m:OMem):Option (OMem):=if 0≤x1∧x1<10 then ((lp (f_computeRuleAt_l11 x1 x2 x3 (m 2 x1)) NN (1,m)).bind fun m_41=>(f_computeRuleAt_b130 m_41)) else none
theorem f_computeRuleAt_ok (x1 x2 x3:Int) (m:OMem):Sim (f_computeRuleAt x1 x2 x3 m) (fun w0 _=>some (none,44,w0)) (fun n=>R n 21 0 [qr 0,qi x1,qi x2,qi x3,qn,qn,qn,qn,qn,qn,qn,qn] [] 44 m) :=
 Zg 4 21 6 [qr 0,qi x1,qi x2,qi x3,qn,qn,qn,qn,qn,qn,qn,qn] [vi (m 2 x1)] 44 m rfl (Zb 3 (Sim.lp (σ:=Int×OMem) (fun ⟨x5L,mL⟩=>f_computeRuleAt_l11_ok x1 x2 x3 (m 2 x1) x5L mL) NN (1,m)) rfl (fun m_41=>f_computeRuleAt_b130_ok m_41))
def f_sumRules_l6_H (m:OMem) (x1 x2 x3:Int):Int×Int→Nat→RT:=fun (x4,x5) n=>R n 29 6 [qr 0,qi x1,qi x2,qi x3,qi x4,qi x5,qn] [] 44 m
def f_sumRules_l6_X (m:OMem) (x1 x2 x3:Int):(Int)→Nat→RT:=fun e n=>match e with | y4=>R n 29 66 [qn,qn,qn,qn,qi y4,qn,qn] [] 44 m
def f_sumRules_b60 (x1 x2 x3 x4 x5:Int) (m:OMem):Option ((Int×Int)⊕((Int))):=some (.inl (x4,w32 (x5+1)))
theorem f_sumRules_b60_ok (x1 x2 x3 x4 x5:Int) (m:OMem):Sim (f_sumRules_b60 x1 x2 x3 x4 x5 m) (Sum.elim (f_sumRules_l6_H m x1 x2 x3 ) (f_sumRules_l6_X m x1 x2 x3 )) (fun n=>R n 29 60 [qr 0,qi x1,qi x2,qi x3,qi x4,qi x5,qn] [] 44 m) :=
 Zp 2 rfl
def f_sumRules_l6 (m:OMem) (x1 x2 x3:Int):Int×Int→Option ((Int×Int)⊕((Int))):=fun (x4,x5)=>if x5<m 0 22 then (if x5<10 then (if 0≤x5∧x5<10 then (if m 1 x5=x1 then (if 0≤x5∧x5<10 then ((f_wAt x5 (m 2 x5) x2 x3 m).bind fun r_44=>((f_satAdd x4 r_44 m).bind fun r_45=>(f_sumRules_b60 x1 x2 x3 r_45 x5 m))) else none) else (f_sumRules_b60 x1 x2 x3 x4 x5 m)) else none) else (some (.inr x4))) else (some (.inr x4))
theorem f_sumRules_l6_ok (m:OMem) (x1 x2 x3:Int) (x4 x5:Int):Sim (f_sumRules_l6 m x1 x2 x3 (x4,x5)) (Sum.elim (f_sumRules_l6_H m x1 x2 x3 ) (f_sumRules_l6_X m x1 x2 x3 )) (f_sumRules_l6_H m x1 x2 x3 (x4,x5)) :=
 Zi 4 29 15 66 [qr 0,qi x1,qi x2,qi x3,qi x4,qi x5,qn] [] 44 m rfl (Zi 3 29 22 66 [qr 0,qi x1,qi x2,qi x3,qi x4,qi x5,qn] [] 44 m rfl (Zg 4 29 29 [qr 0,qi x1,qi x2,qi x3,qi x4,qi x5,qn] [vi (m 1 x5)] 44 m rfl (Zi 2 29 33 60 [qr 0,qi x1,qi x2,qi x3,qi x4,qi x5,qn] [] 44 m rfl (Zg 6 29 43 [qr 0,qi x1,qi x2,qi x3,qi x4,qi x5,qn] [vi (m 2 x5),vi x5,vr 0] 44 m rfl (Zr 3 29 48 [qr 0,qi x1,qi x2,qi x3,qi x4,qi x5,qn] [] (f_wAt_ok x5 (m 2 x5) x2 x3 m) rfl (fun r_44=>Zr 5 29 58 [qr 0,qi x1,qi x2,qi x3,qi x4,qi x5,qi r_44] [] (f_satAdd_ok 44 x4 r_44 m) rfl (fun r_45=>Zj 1 (f_sumRules_b60_ok x1 x2 x3 r_45 x5 m) rfl rfl)))) (f_sumRules_b60_ok x1 x2 x3 x4 x5 m))) (Sv rfl rfl)) (Sv rfl rfl)
def f_sumRules_b66 (x4:Int) (m:OMem):Option (Int):=some x4
theorem f_sumRules_b66_ok (x4:Int) (m:OMem):Sim (f_sumRules_b66 x4 m) (fun r _=>some (some (vi r),44,m)) (fun n=>R n 29 66 [qn,qn,qn,qn,qi x4,qn,qn] [] 44 m) :=
 Zp 2 rfl
def f_sumRules (x1 x2 x3:Int) (m:OMem):Option (Int):=(lp (f_sumRules_l6 m x1 x2 x3) NN (0,0)).bind fun x4_46=>(f_sumRules_b66 x4_46 m)
theorem f_sumRules_ok (x1 x2 x3:Int) (m:OMem):Sim (f_sumRules x1 x2 x3 m) (fun r _=>some (some (vi r),44,m)) (fun n=>R n 29 0 [qr 0,qi x1,qi x2,qi x3,qn,qn,qn] [] 44 m) :=
 Zb 4 (Sim.lp (σ:=Int×Int) (fun ⟨x4L,x5L⟩=>f_sumRules_l6_ok m x1 x2 x3 x4L x5L) NN (0,0)) rfl (fun x4_46=>f_sumRules_b66_ok x4_46 m)
def f_computeSpan_l2_H (x1 x2:Int):Int×OMem→Nat→RT:=fun (x3,m) n=>R n 18 2 [qr 0,qi x1,qi x2,qi x3,qn,qn] [] 44 m
def f_computeSpan_l2_X (x1 x2:Int):(OMem)→Nat→RT:=fun e n=>match e with | w=>R n 18 21 [qr 0,qi x1,qi x2,qn,qn,qn] [] 44 w
def f_computeSpan_l2 (x1 x2:Int):Int×OMem→Option ((Int×OMem)⊕((OMem))):=fun (x3,m)=>if x3<4 then ((f_setCnt x3 x1 x2 0 m).bind fun m_27=>(some (.inl (w32 (x3+1),m_27)))) else (some (.inr m))
theorem f_computeSpan_l2_ok (x1 x2:Int) (x3:Int) (m:OMem):Sim (f_computeSpan_l2 x1 x2 (x3,m)) (Sum.elim (f_computeSpan_l2_H x1 x2 ) (f_computeSpan_l2_X x1 x2 )) (f_computeSpan_l2_H x1 x2 (x3,m)) :=
 Zi 3 18 7 21 [qr 0,qi x1,qi x2,qi x3,qn,qn] [] 44 m rfl (Zv 6 18 15 [qr 0,qi x1,qi x2,qi x3,qn,qn] [] (f_setCnt_ok x3 x1 x2 0 m) rfl (fun m_27=>Zp 2 rfl)) (Sv rfl rfl)
def f_computeSpan_l23_H (x1 x2:Int):Int×OMem→Nat→RT:=fun (x3,m) n=>R n 18 23 [qr 0,qi x1,qi x2,qi x3,qn,qn] [] 44 m
def f_computeSpan_l23_X (x1 x2:Int):(OMem)→Nat→RT:=fun e n=>match e with | w=>R n 18 102 [qn,qn,qn,qn,qn,qn] [] 44 w
def f_computeSpan_l31_H (x1 x2 x3:Int):Int×OMem→Nat→RT:=fun (x4,m) n=>R n 18 31 [qr 0,qi x1,qi x2,qi x3,qi x4,qn] [] 44 m
def f_computeSpan_l31_X (x1 x2 x3:Int):(OMem)→Nat→RT:=fun e n=>match e with | w=>R n 18 61 [qr 0,qi x1,qi x2,qi x3,qn,qn] [] 44 w
def f_computeSpan_l31 (x1 x2 x3:Int):Int×OMem→Option ((Int×OMem)⊕((OMem))):=fun (x4,m)=>if x4<m 0 22 then (if x4<10 then ((f_computeRuleAt x4 x1 x2 m).bind fun m_42=>(some (.inl (w32 (x4+1),m_42)))) else (some (.inr m))) else (some (.inr m))
theorem f_computeSpan_l31_ok (x1 x2 x3:Int) (x4:Int) (m:OMem):Sim (f_computeSpan_l31 x1 x2 x3 (x4,m)) (Sum.elim (f_computeSpan_l31_H x1 x2 x3 ) (f_computeSpan_l31_X x1 x2 x3 )) (f_computeSpan_l31_H x1 x2 x3 (x4,m)) :=
 Zi 4 18 40 61 [qr 0,qi x1,qi x2,qi x3,qi x4,qn] [] 44 m rfl (Zi 3 18 47 61 [qr 0,qi x1,qi x2,qi x3,qi x4,qn] [] 44 m rfl (Zv 5 18 55 [qr 0,qi x1,qi x2,qi x3,qi x4,qn] [] (f_computeRuleAt_ok x4 x1 x2 m) rfl (fun m_42=>Zp 2 rfl)) (Sv rfl rfl)) (Sv rfl rfl)
def f_computeSpan_l64_H (x1 x2 x3:Int):Int×OMem→Nat→RT:=fun (x4,m) n=>R n 18 64 [qr 0,qi x1,qi x2,qi x3,qi x4,qn] [] 44 m
def f_computeSpan_l64_X (x1 x2 x3:Int):(OMem)→Nat→RT:=fun e n=>match e with | w=>R n 18 96 [qr 0,qi x1,qi x2,qi x3,qn,qn] [] 44 w
def f_computeSpan_l64 (x1 x2 x3:Int):Int×OMem→Option ((Int×OMem)⊕((OMem))):=fun (x4,m)=>if x4<4 then ((f_sumRules x4 x1 x2 m).bind fun r_47=>((f_setCnt x4 x1 x2 r_47 m).bind fun m_48=>(some (.inl (w32 (x4+1),m_48))))) else (some (.inr m))
theorem f_computeSpan_l64_ok (x1 x2 x3:Int) (x4:Int) (m:OMem):Sim (f_computeSpan_l64 x1 x2 x3 (x4,m)) (Sum.elim (f_computeSpan_l64_H x1 x2 x3 ) (f_computeSpan_l64_X x1 x2 x3 )) (f_computeSpan_l64_H x1 x2 x3 (x4,m)) :=
 Zi 3 18 70 96 [qr 0,qi x1,qi x2,qi x3,qi x4,qn] [] 44 m rfl (Zr 5 18 78 [qr 0,qi x1,qi x2,qi x3,qi x4,qn] [] (f_sumRules_ok x4 x1 x2 m) rfl (fun r_47=>Zv 7 18 90 [qr 0,qi x1,qi x2,qi x3,qi x4,qi r_47] [] (f_setCnt_ok x4 x1 x2 r_47 m) rfl (fun m_48=>Zh 2 18 64 [qr 0,qi x1,qi x2,qi x3,qi (w32 (x4+1)),qi r_47] [] 44 m_48 rfl (Sv rfl rfl)))) (Sv rfl rfl)
def f_computeSpan_b61 (x1 x2 x3:Int) (m:OMem):Option ((Int×OMem)⊕((OMem))):=(lp (f_computeSpan_l64 x1 x2 x3) NN (0,m)).bind fun m_49=>(some (.inl (w32 (x3+1),m_49)))
theorem f_computeSpan_b61_ok (x1 x2 x3:Int) (m:OMem):Sim (f_computeSpan_b61 x1 x2 x3 m) (Sum.elim (f_computeSpan_l23_H x1 x2 ) (f_computeSpan_l23_X x1 x2 )) (fun n=>R n 18 61 [qr 0,qi x1,qi x2,qi x3,qn,qn] [] 44 m) :=
 Zb 2 (Sim.lp (σ:=Int×OMem) (fun ⟨x4L,mL⟩=>f_computeSpan_l64_ok x1 x2 x3 x4L mL) NN (0,m)) rfl (fun m_49=>Zp 2 rfl)
def f_computeSpan_l23 (x1 x2:Int):Int×OMem→Option ((Int×OMem)⊕((OMem))):=fun (x3,m)=>if x3<5 then ((lp (f_computeSpan_l31 x1 x2 x3) NN (0,m)).bind fun m_43=>(f_computeSpan_b61 x1 x2 x3 m_43)) else (some (.inr m))
theorem f_computeSpan_l23_ok (x1 x2:Int) (x3:Int) (m:OMem):Sim (f_computeSpan_l23 x1 x2 (x3,m)) (Sum.elim (f_computeSpan_l23_H x1 x2 ) (f_computeSpan_l23_X x1 x2 )) (f_computeSpan_l23_H x1 x2 (x3,m)) :=
 Zi 3 18 28 102 [qr 0,qi x1,qi x2,qi x3,qn,qn] [] 44 m rfl (Zb 2 (Sim.lp (σ:=Int×OMem) (fun ⟨x4L,mL⟩=>f_computeSpan_l31_ok x1 x2 x3 x4L mL) NN (0,m)) rfl (fun m_43=>f_computeSpan_b61_ok x1 x2 x3 m_43)) (Sv rfl rfl)
def f_computeSpan (x1 x2:Int) (m:OMem):Option (OMem):=(lp (f_computeSpan_l2 x1 x2) NN (0,m)).bind fun m_28=>((lp (f_computeSpan_l23 x1 x2) NN (0,m_28)).bind fun m_50=>(some m_50))
theorem f_computeSpan_ok (x1 x2:Int) (m:OMem):Sim (f_computeSpan x1 x2 m) (fun w0 _=>some (none,44,w0)) (fun n=>R n 18 0 [qr 0,qi x1,qi x2,qn,qn,qn] [] 44 m) :=
 Zb 2 (Sim.lp (σ:=Int×OMem) (fun ⟨x3L,mL⟩=>f_computeSpan_l2_ok x1 x2 x3L mL) NN (0,m)) rfl (fun m_28=>Zb 2 (Sim.lp (σ:=Int×OMem) (fun ⟨x3L,mL⟩=>f_computeSpan_l23_ok x1 x2 x3L mL) NN (0,m_28)) rfl (fun m_50=>Zp 1 rfl))
def f_computeTables_l2_H:Int×OMem→Nat→RT:=fun (x1,m) n=>R n 17 2 [qr 0,qi x1,qn] [] 44 m
def f_computeTables_l2_X:(OMem)→Nat→RT:=fun e n=>match e with | w=>R n 17 54 [qn,qn,qn] [] 44 w
def f_computeTables_l18_H (x1:Int):Int×OMem→Nat→RT:=fun (x2,m) n=>R n 17 18 [qr 0,qi x1,qi x2] [] 44 m
def f_computeTables_l18_X (x1:Int):(OMem)→Nat→RT:=fun e n=>match e with | w=>R n 17 48 [qr 0,qi x1,qn] [] 44 w
def f_computeTables_l18 (x1:Int):Int×OMem→Option ((Int×OMem)⊕((OMem))):=fun (x2,m)=>if m 0 23<w32 (x2+x1) then (some (.inr m)) else (if 8<x2 then (some (.inr m)) else ((f_computeSpan x2 (w32 (x2+x1)) m).bind fun m_51=>(some (.inl (w32 (x2+1),m_51)))))
theorem f_computeTables_l18_ok (x1:Int) (x2:Int) (m:OMem):Sim (f_computeTables_l18 x1 (x2,m)) (Sum.elim (f_computeTables_l18_H x1 ) (f_computeTables_l18_X x1 )) (f_computeTables_l18_H x1 (x2,m)) :=
 Zi 6 17 48 28 [qr 0,qi x1,qi x2] [] 44 m rfl (Sv rfl rfl) (Zi 3 17 48 34 [qr 0,qi x1,qi x2] [] 44 m rfl (Sv rfl rfl) (Zv 6 17 42 [qr 0,qi x1,qi x2] [] (f_computeSpan_ok x2 (w32 (x2+x1)) m) rfl (fun m_51=>Zp 2 rfl)))
def f_computeTables_b48 (x1:Int) (m:OMem):Option ((Int×OMem)⊕((OMem))):=some (.inl (w32 (x1+1),m))
theorem f_computeTables_b48_ok (x1:Int) (m:OMem):Sim (f_computeTables_b48 x1 m) (Sum.elim (f_computeTables_l2_H ) (f_computeTables_l2_X )) (fun n=>R n 17 48 [qr 0,qi x1,qn] [] 44 m) :=
 Zp 2 rfl
def f_computeTables_l2:Int×OMem→Option ((Int×OMem)⊕((OMem))):=fun (x1,m)=>if m 0 23<x1 then (some (.inr m)) else (if 8<x1 then (some (.inr m)) else ((lp (f_computeTables_l18 x1) NN (0,m)).bind fun m_52=>(f_computeTables_b48 x1 m_52)))
theorem f_computeTables_l2_ok (x1:Int) (m:OMem):Sim (f_computeTables_l2 (x1,m)) (Sum.elim (f_computeTables_l2_H ) (f_computeTables_l2_X )) (f_computeTables_l2_H (x1,m)) :=
 Zi 4 17 54 10 [qr 0,qi x1,qn] [] 44 m rfl (Sv rfl rfl) (Zi 3 17 54 16 [qr 0,qi x1,qn] [] 44 m rfl (Sv rfl rfl) (Zb 2 (Sim.lp (σ:=Int×OMem) (fun ⟨x2L,mL⟩=>f_computeTables_l18_ok x1 x2L mL) NN (0,m)) rfl (fun m_52=>f_computeTables_b48_ok x1 m_52)))
def f_computeTables_b54 (m:OMem):Option (OMem):=some m
theorem f_computeTables_b54_ok (m:OMem):Sim (f_computeTables_b54 m) (fun w0 _=>some (none,44,w0)) (fun n=>R n 17 54 [qn,qn,qn] [] 44 m) :=
 Zp 1 rfl
def f_computeTables (m:OMem):Option (OMem):=(lp (f_computeTables_l2 ) NN (0,m)).bind fun m_53=>(f_computeTables_b54 m_53)
theorem f_computeTables_ok (m:OMem):Sim (f_computeTables m) (fun w0 _=>some (none,44,w0)) (fun n=>R n 17 0 [qr 0,qn,qn] [] 44 m) :=
 Zb 2 (Sim.lp (σ:=Int×OMem) (fun ⟨x1L,mL⟩=>f_computeTables_l2_ok x1L mL) NN (0,m)) rfl (fun m_53=>f_computeTables_b54_ok m_53)
def f_parse (m:OMem):Option (Int×OMem):=(f_computeNullable m).bind fun m_15=>((f_computeReach m_15).bind fun m_24=>((f_isCyclic m_24).bind fun r_25=>(if r_25=0 then ((f_computeTables m_24).bind fun m_54=>((f_cntAt 0 0 (m_54 0 23) m_54).bind fun r_55=>(if 0<r_55 then (some (1,sto (sto (sto m_54 0 25 r_55) 0 24 1) 0 26 0)) else (some (0,sto (sto (sto m_54 0 25 r_55) 0 24 1) 0 26 0))))) else (some ((-4),m_24)))))
theorem f_parse_ok (m:OMem):Sim (f_parse m) (fun (r,w0) _=>some (some (vi r),44,w0)) (fun n=>R n 11 0 [qr 0] [] 44 m) :=
 Zv 2 11 4 [qr 0] [] (f_computeNullable_ok m) rfl (fun m_15=>Zv 2 11 8 [qr 0] [] (f_computeReach_ok m_15) rfl (fun m_24=>Zr 2 11 12 [qr 0] [] (f_isCyclic_ok m_24) rfl (fun r_25=>Zi 1 11 18 15 [qr 0] [] 44 m_24 rfl (Zv 2 11 22 [qr 0] [] (f_computeTables_ok m_24) rfl (fun m_54=>Zr 7 11 33 [qr 0] [vr 0] (f_cntAt_ok 0 0 (m_54 0 23) m_54) rfl (fun r_55=>Zi 10 11 53 55 [qr 0] [] 44 (sto (sto (sto m_54 0 25 r_55) 0 24 1) 0 26 0) rfl (Zp 2 rfl) (Zp 2 rfl)))) (Zp 2 rfl))))
def f_count (m:OMem):Option (Int):=if m 0 24=0 then (some (-5)) else (some (m 0 25))
theorem f_count_ok (t:Nat) (m:OMem):Sim (f_count m) (fun r _=>some (some (vi r),t,m)) (fun n=>R n 30 0 [qr 0] [] t m) :=
 Zi 3 30 7 10 [qr 0] [] t m rfl (Zp 2 rfl) (Zp 3 rfl)
def f_push_b16 (m:OMem):Option (Int×OMem):=some (0,m)
theorem f_push_b16_ok (m:OMem):Sim (f_push_b16 m) (fun (r,w0) _=>some (some (vi r),44,w0)) (fun n=>R n 33 16 [qn,qn,qn,qn,qn] [] 44 m) :=
 Zp 2 rfl
def f_push (x1 x2 x3 x4:Int) (m:OMem):Option (Int×OMem):=if m 0 27<0 then (f_push_b16 m) else (if m 0 27<64 then (if 0≤m 0 27∧m 0 27<64 then (if 0≤m 0 27∧m 0 27<64 then (if 0≤m 0 27∧m 0 27<64 then (if 0≤m 0 27∧m 0 27<64 then (some (1,sto (sto (sto (sto (sto m 15 (m 0 27) x1) 16 (m 0 27) x2) 17 (m 0 27) x3) 18 (m 0 27) x4) 0 27 (w32 ((m 0 27)+1)))) else none) else none) else none) else none) else (f_push_b16 m))
theorem f_push_ok (x1 x2 x3 x4:Int) (m:OMem):Sim (f_push x1 x2 x3 x4 m) (fun (r,w0) _=>some (some (vi r),44,w0)) (fun n=>R n 33 0 [qr 0,qi x1,qi x2,qi x3,qi x4] [] 44 m) :=
 Zi 3 33 16 7 [qr 0,qi x1,qi x2,qi x3,qi x4] [] 44 m rfl (Sim.jmp (f_push_b16_ok m) rfl (fun _=>rfl)) (Zi 4 33 18 16 [qr 0,qi x1,qi x2,qi x3,qi x4] [] 44 m rfl (Zg 6 33 28 [qr 0,qi x1,qi x2,qi x3,qi x4] [] 44 (sto m 15 (m 0 27) x1) rfl (Zg 6 33 38 [qr 0,qi x1,qi x2,qi x3,qi x4] [] 44 (sto (sto m 15 (m 0 27) x1) 16 (m 0 27) x2) rfl (Zg 6 33 48 [qr 0,qi x1,qi x2,qi x3,qi x4] [] 44 (sto (sto (sto m 15 (m 0 27) x1) 16 (m 0 27) x2) 17 (m 0 27) x3) rfl (Zg 6 33 59 [qr 0,qi x1,qi x2,qi x3,qi x4] [] 44 (sto (sto (sto (sto m 15 (m 0 27) x1) 16 (m 0 27) x2) 17 (m 0 27) x3) 18 (m 0 27) x4) rfl (Zp 8 rfl))))) (Sim.jmp (f_push_b16_ok m) rfl (fun _=>rfl)))
def f_chooseRule_l7_H (m:OMem) (x1 x2 x3:Int):Int×Int→Nat→RT:=fun (x5,x6) n=>R n 34 7 [qr 0,qi x1,qi x2,qi x3,qn,qi x5,qi x6,qn] [] 44 m
def f_chooseRule_l7_X (m:OMem) (x1 x2 x3:Int):(Int×Int)⊕(Unit)→Nat→RT:=fun e n=>match e with | (.inl (y5,y6))=>R n 34 61 [qr 0,qn,qn,qn,qn,qi y5,qi y6,qn] [] 44 m | (.inr _)=>R n 34 83 [qn,qn,qn,qn,qn,qn,qn,qn] [] 44 m
def f_chooseRule_b77 (x1 x2 x3 x5 x6:Int) (m:OMem):Option ((Int×Int)⊕((Int×Int)⊕(Unit))):=some (.inl (x5,w32 (x6+1)))
theorem f_chooseRule_b77_ok (x1 x2 x3 x5 x6:Int) (m:OMem):Sim (f_chooseRule_b77 x1 x2 x3 x5 x6 m) (Sum.elim (f_chooseRule_l7_H m x1 x2 x3 ) (f_chooseRule_l7_X m x1 x2 x3 )) (fun n=>R n 34 77 [qr 0,qi x1,qi x2,qi x3,qn,qi x5,qi x6,qn] [] 44 m) :=
 Zp 2 rfl
def f_chooseRule_l7 (m:OMem) (x1 x2 x3:Int):Int×Int→Option ((Int×Int)⊕((Int×Int)⊕(Unit))):=fun (x5,x6)=>if x6<m 0 22 then (if x6<10 then (if 0≤x6∧x6<10 then (if m 1 x6=x1 then (if 0≤x6∧x6<10 then ((f_wAt x6 (m 2 x6) x2 x3 m).bind fun r_58=>(if x5<r_58 then (some (.inr (.inl (x5,x6)))) else (f_chooseRule_b77 x1 x2 x3 (w32 (x5 - r_58)) x6 m))) else none) else (f_chooseRule_b77 x1 x2 x3 x5 x6 m)) else none) else (some (.inr (.inr ())))) else (some (.inr (.inr ())))
theorem f_chooseRule_l7_ok (m:OMem) (x1 x2 x3:Int) (x5 x6:Int):Sim (f_chooseRule_l7 m x1 x2 x3 (x5,x6)) (Sum.elim (f_chooseRule_l7_H m x1 x2 x3 ) (f_chooseRule_l7_X m x1 x2 x3 )) (f_chooseRule_l7_H m x1 x2 x3 (x5,x6)) :=
 Zi 4 34 16 83 [qr 0,qi x1,qi x2,qi x3,qn,qi x5,qi x6,qn] [] 44 m rfl (Zi 3 34 23 83 [qr 0,qi x1,qi x2,qi x3,qn,qi x5,qi x6,qn] [] 44 m rfl (Zg 4 34 30 [qr 0,qi x1,qi x2,qi x3,qn,qi x5,qi x6,qn] [vi (m 1 x6)] 44 m rfl (Zi 2 34 37 34 [qr 0,qi x1,qi x2,qi x3,qn,qi x5,qi x6,qn] [] 44 m rfl (Zg 6 34 47 [qr 0,qi x1,qi x2,qi x3,qn,qi x5,qi x6,qn] [vi (m 2 x6),vi x6,vr 0] 44 m rfl (Zr 3 34 52 [qr 0,qi x1,qi x2,qi x3,qn,qi x5,qi x6,qn] [] (f_wAt_ok x6 (m 2 x6) x2 x3 m) rfl (fun r_58=>Zi 4 34 61 70 [qr 0,qi x1,qi x2,qi x3,qn,qi x5,qi x6,qi r_58] [] 44 m rfl (Sv rfl rfl) (Zj 4 (f_chooseRule_b77_ok x1 x2 x3 (w32 (x5 - r_58)) x6 m) rfl rfl)))) (Ze 1 (f_chooseRule_b77_ok x1 x2 x3 x5 x6 m) rfl))) (Sv rfl rfl)) (Sv rfl rfl)
def f_chooseRule_b83 (m:OMem):Option (Int×OMem):=some ((-1),m)
theorem f_chooseRule_b83_ok (m:OMem):Sim (f_chooseRule_b83 m) (fun (r,w0) _=>some (some (vi r),44,w0)) (fun n=>R n 34 83 [qn,qn,qn,qn,qn,qn,qn,qn] [] 44 m) :=
 Zp 2 rfl
def f_chooseRule (x1 x2 x3 x4:Int) (m:OMem):Option (Int×OMem):=(lp (f_chooseRule_l7 m x1 x2 x3) NN (x4,0)).bind fun e=>match e with | (.inl (x5_59,x6_60))=>(some (x6_60,sto m 0 28 x5_59)) | (.inr _)=>(f_chooseRule_b83 m)
theorem f_chooseRule_ok (x1 x2 x3 x4:Int) (m:OMem):Sim (f_chooseRule x1 x2 x3 x4 m) (fun (r,w0) _=>some (some (vi r),44,w0)) (fun n=>R n 34 0 [qr 0,qi x1,qi x2,qi x3,qi x4,qn,qn,qn] [] 44 m) :=
 Zj 4 (Sim.bind (Sim.lp (σ:=Int×Int) (fun ⟨x5L,x6L⟩=>f_chooseRule_l7_ok m x1 x2 x3 x5L x6L) NN (x4,0)) (fun e=>match e with | (.inl (⟨x5_59,x6_60⟩))=>Sh 5 (fun _=>some (some (vi x6_60),44,sto m 0 28 x5_59)) rfl Sp | (.inr _)=>f_chooseRule_b83_ok m)) rfl rfl
def f_pickChild_l7_H (m:OMem) (x1 x2 x3 x4 x6:Int):Int×Int→Nat→RT:=fun (x7,x8) n=>R n 42 7 [qr 0,qi x1,qi x2,qi x3,qi x4,qn,qi x6,qi x7,qi x8,qn,qn,qn] [] 44 m
def f_pickChild_l7_X (m:OMem) (x1 x2 x3 x4 x6:Int):(Int×Int×Int)⊕(Unit)→Nat→RT:=fun e n=>match e with | (.inl (y7,y8,y10))=>R n 42 63 [qr 0,qn,qi x2,qn,qi x4,qn,qi x6,qi y7,qi y8,qn,qi y10,qn] [] 44 m | (.inr _)=>R n 42 137 [qn,qn,qn,qn,qn,qn,qn,qn,qn,qn,qn,qn] [] 44 m
def f_pickChild_l7 (m:OMem) (x1 x2 x3 x4 x6:Int):Int×Int→Option ((Int×Int)⊕((Int×Int×Int)⊕(Unit))):=fun (x7,x8)=>if x4<x8 then (some (.inr (.inr ()))) else (if 8<x8 then (some (.inr (.inr ()))) else ((f_wAt x1 (w32 (x2 - 1)) x3 x8 m).bind fun r_64=>((f_symCount x6 x8 x4 m).bind fun r_65=>((f_satMul r_64 r_65 m).bind fun r_66=>(if x7<r_66 then (some (.inr (.inl (x7,x8,r_65)))) else (some (.inl (w32 (x7 - r_66),w32 (x8+1)))))))))
theorem f_pickChild_l7_ok (m:OMem) (x1 x2 x3 x4 x6:Int) (x7 x8:Int):Sim (f_pickChild_l7 m x1 x2 x3 x4 x6 (x7,x8)) (Sum.elim (f_pickChild_l7_H m x1 x2 x3 x4 x6 ) (f_pickChild_l7_X m x1 x2 x3 x4 x6 )) (f_pickChild_l7_H m x1 x2 x3 x4 x6 (x7,x8)) :=
 Zi 3 42 137 14 [qr 0,qi x1,qi x2,qi x3,qi x4,qn,qi x6,qi x7,qi x8,qn,qn,qn] [] 44 m rfl (Sv rfl rfl) (Zi 3 42 137 21 [qr 0,qi x1,qi x2,qi x3,qi x4,qn,qi x6,qi x7,qi x8,qn,qn,qn] [] 44 m rfl (Sv rfl rfl) (Zr 8 42 32 [qr 0,qi x1,qi x2,qi x3,qi x4,qn,qi x6,qi x7,qi x8,qn,qn,qn] [] (f_wAt_ok x1 (w32 (x2 - 1)) x3 x8 m) rfl (fun r_64=>Zr 6 42 44 [qr 0,qi x1,qi x2,qi x3,qi x4,qn,qi x6,qi x7,qi x8,qi r_64,qn,qn] [] (f_symCount_ok x6 x8 x4 m) rfl (fun r_65=>Zr 5 42 54 [qr 0,qi x1,qi x2,qi x3,qi x4,qn,qi x6,qi x7,qi x8,qi r_64,qi r_65,qn] [] (f_satMul_ok 44 r_64 r_65 m) rfl (fun r_66=>Zi 4 42 63 124 [qr 0,qi x1,qi x2,qi x3,qi x4,qn,qi x6,qi x7,qi x8,qi r_64,qi r_65,qi r_66] [] 44 m rfl (Sv rfl rfl) (Zh 5 42 134 [qr 0,qi x1,qi x2,qi x3,qi x4,qn,qi x6,qi (w32 (x7 - r_66)),qi (w32 (x8+1)),qn,qn,qi r_66] [] 44 m rfl (Zh 1 42 7 [qr 0,qi x1,qi x2,qi x3,qi x4,qn,qi x6,qi (w32 (x7 - r_66)),qi (w32 (x8+1)),qn,qn,qi r_66] [] 44 m rfl (Sv rfl rfl))))))))
def f_pickChild_b137 (m:OMem):Option (Int×OMem):=some (0,m)
theorem f_pickChild_b137_ok (m:OMem):Sim (f_pickChild_b137 m) (fun (r,w0) _=>some (some (vi r),44,w0)) (fun n=>R n 42 137 [qn,qn,qn,qn,qn,qn,qn,qn,qn,qn,qn,qn] [] 44 m) :=
 Zp 2 rfl
def f_pickChild (x1 x2 x3 x4 x5 x6:Int) (m:OMem):Option (Int×OMem):=(lp (f_pickChild_l7 m x1 x2 x3 x4 x6) NN (x5,x3)).bind fun e=>match e with | (.inl (x7_67,x8_68,x10_69))=>(if 0<x10_69 then (if 0≤w32 (x2 - 1)∧w32 (x2 - 1)<3 then (if 0≤w32 (x2 - 1)∧w32 (x2 - 1)<3 then (if 0≤w32 (x2 - 1)∧w32 (x2 - 1)<3 then (if x10_69=0 then none else (if 0≤w32 (x2 - 1)∧w32 (x2 - 1)<3 then (if x10_69=0 then none else (some (1,sto (sto (sto (sto (sto m 19 (w32 (x2 - 1)) x6) 20 (w32 (x2 - 1)) x8_68) 21 (w32 (x2 - 1)) x4) 22 (w32 (x2 - 1)) (rem32 x7_67 x10_69)) 0 28 (div32 x7_67 x10_69)))) else none)) else none) else none) else none) else (some (0,m))) | (.inr _)=>(f_pickChild_b137 m)
theorem f_pickChild_ok (x1 x2 x3 x4 x5 x6:Int) (m:OMem):Sim (f_pickChild x1 x2 x3 x4 x5 x6 m) (fun (r,w0) _=>some (some (vi r),44,w0)) (fun n=>R n 42 0 [qr 0,qi x1,qi x2,qi x3,qi x4,qi x5,qi x6,qn,qn,qn,qn,qn] [] 44 m) :=
 Zj 4 (Sim.bind (Sim.lp (σ:=Int×Int) (fun ⟨x7L,x8L⟩=>f_pickChild_l7_ok m x1 x2 x3 x4 x6 x7L x8L) NN (x5,x3)) (fun e=>match e with | (.inl (⟨x7_67,x8_68,x10_69⟩))=>Sh 2 (fun n=>if 0<x10_69 then R n 42 70 [qr 0,qn,qi x2,qn,qi x4,qn,qi x6,qi x7_67,qi x8_68,qn,qi x10_69,qn] [] 44 m else R n 42 68 [qr 0,qn,qi x2,qn,qi x4,qn,qi x6,qi x7_67,qi x8_68,qn,qi x10_69,qn] [] 44 m) rfl (Si (Sh 7 (fun n=>if 0≤w32 (x2 - 1)∧w32 (x2 - 1)<3 then R n 42 80 [qr 0,qn,qi x2,qn,qi x4,qn,qi x6,qi x7_67,qi x8_68,qn,qi x10_69,qn] [] 44 (sto m 19 (w32 (x2 - 1)) x6) else none) rfl (Sim.grd fun _=>Sh 7 (fun n=>if 0≤w32 (x2 - 1)∧w32 (x2 - 1)<3 then R n 42 90 [qr 0,qn,qi x2,qn,qi x4,qn,qi x6,qi x7_67,qi x8_68,qn,qi x10_69,qn] [] 44 (sto (sto m 19 (w32 (x2 - 1)) x6) 20 (w32 (x2 - 1)) x8_68) else none) rfl (Sim.grd fun _=>Sh 7 (fun n=>if 0≤w32 (x2 - 1)∧w32 (x2 - 1)<3 then R n 42 100 [qr 0,qn,qi x2,qn,qi x4,qn,qi x6,qi x7_67,qi x8_68,qn,qi x10_69,qn] [] 44 (sto (sto (sto m 19 (w32 (x2 - 1)) x6) 20 (w32 (x2 - 1)) x8_68) 21 (w32 (x2 - 1)) x4) else none) rfl (Sim.grd fun _=>Sh 7 (fun n=>R n 42 111 [qr 0,qn,qi x2,qn,qi x4,qn,qi x6,qi x7_67,qi x8_68,qn,qi x10_69,qn] [vi x10_69,vi x7_67,vi (w32 (x2 - 1)),vr 22] 44 (sto (sto (sto m 19 (w32 (x2 - 1)) x6) 20 (w32 (x2 - 1)) x8_68) 21 (w32 (x2 - 1)) x4)) rfl (Sh 1 (fun n=>if x10_69=0 then none else R n 42 112 [qr 0,qn,qi x2,qn,qi x4,qn,qi x6,qi x7_67,qi x8_68,qn,qi x10_69,qn] [vi (rem32 x7_67 x10_69),vi (w32 (x2 - 1)),vr 22] 44 (sto (sto (sto m 19 (w32 (x2 - 1)) x6) 20 (w32 (x2 - 1)) x8_68) 21 (w32 (x2 - 1)) x4)) rfl (Sim.dv fun _=>Sh 1 (fun n=>if 0≤w32 (x2 - 1)∧w32 (x2 - 1)<3 then R n 42 113 [qr 0,qn,qi x2,qn,qi x4,qn,qi x6,qi x7_67,qi x8_68,qn,qi x10_69,qn] [] 44 (sto (sto (sto (sto m 19 (w32 (x2 - 1)) x6) 20 (w32 (x2 - 1)) x8_68) 21 (w32 (x2 - 1)) x4) 22 (w32 (x2 - 1)) (rem32 x7_67 x10_69)) else none) rfl (Sim.grd fun _=>Sh 4 (fun n=>if x10_69=0 then none else R n 42 119 [qr 0,qn,qi x2,qn,qi x4,qn,qi x6,qi x7_67,qi x8_68,qn,qi x10_69,qn] [vi (div32 x7_67 x10_69),vr 0] 44 (sto (sto (sto (sto m 19 (w32 (x2 - 1)) x6) 20 (w32 (x2 - 1)) x8_68) 21 (w32 (x2 - 1)) x4) 22 (w32 (x2 - 1)) (rem32 x7_67 x10_69))) rfl (Sim.dv fun _=>Sh 3 (fun _=>some (some (vi 1),44,sto (sto (sto (sto (sto m 19 (w32 (x2 - 1)) x6) 20 (w32 (x2 - 1)) x8_68) 21 (w32 (x2 - 1)) x4) 22 (w32 (x2 - 1)) (rem32 x7_67 x10_69)) 0 28 (div32 x7_67 x10_69))) rfl Sp)))))))) (Sh 2 (fun _=>some (some (vi 0),44,m)) rfl Sp)) | (.inr _)=>f_pickChild_b137_ok m)) rfl rfl
def f_splitChildren_l19_H (x1 x2:Int):Int×Int×Int×OMem→Nat→RT:=fun (x6,x7,x8,m) n=>R n 35 19 [qr 0,qi x1,qi x2,qn,qn,qn,qi x6,qi x7,qi x8,qn] [] 44 m
def f_splitChildren_l19_X (x1 x2:Int):(OMem)⊕(OMem)⊕(OMem)→Nat→RT:=fun e n=>match e with | (.inl w)=>R n 35 31 [qn,qn,qn,qn,qn,qn,qn,qn,qn,qn] [] 44 w | (.inr (.inl w))=>R n 35 61 [qn,qn,qn,qn,qn,qn,qn,qn,qn,qn] [] 44 w | (.inr (.inr w))=>R n 35 86 [qn,qn,qn,qn,qn,qn,qn,qn,qn,qn] [] 44 w
def f_splitChildren_l19 (x1 x2:Int):Int×Int×Int×OMem→Option ((Int×Int×Int×OMem)⊕((OMem)⊕(OMem)⊕(OMem))):=fun (x6,x7,x8,m)=>if x8<1 then (some (.inr (.inr (.inr m)))) else (if 3<x8 then (some (.inr (.inl m))) else ((f_symAt x1 (w32 (x8 - 1)) m).bind fun r_63=>((f_pickChild x1 x8 x2 x6 x7 r_63 m).bind fun (r_70,m_71)=>(if r_70=0 then (some (.inr (.inr (.inl m_71)))) else (if 0≤w32 (x8 - 1)∧w32 (x8 - 1)<3 then (some (.inl (m_71 20 (w32 (x8 - 1)),m_71 0 28,w32 (x8+(-1)),m_71))) else none)))))
theorem f_splitChildren_l19_ok (x1 x2:Int) (x6 x7 x8:Int) (m:OMem):Sim (f_splitChildren_l19 x1 x2 (x6,x7,x8,m)) (Sum.elim (f_splitChildren_l19_H x1 x2 ) (f_splitChildren_l19_X x1 x2 )) (f_splitChildren_l19_H x1 x2 (x6,x7,x8,m)) :=
 Zi 3 35 86 25 [qr 0,qi x1,qi x2,qn,qn,qn,qi x6,qi x7,qi x8,qn] [] 44 m rfl (Sv rfl rfl) (Zi 3 35 31 33 [qr 0,qi x1,qi x2,qn,qn,qn,qi x6,qi x7,qi x8,qn] [] 44 m rfl (Sv rfl rfl) (Zr 6 35 42 [qr 0,qi x1,qi x2,qn,qn,qn,qi x6,qi x7,qi x8,qn] [] (f_symAt_ok x1 (w32 (x8 - 1)) m) rfl (fun r_63=>Zw 9 35 58 [qr 0,qi x1,qi x2,qn,qn,qn,qi x6,qi x7,qi x8,qi r_63] [] (f_pickChild_ok x1 x8 x2 x6 x7 r_63 m) (fun _ _ _=>rfl) rfl (fun r_70 m_71=>Zi 1 35 61 63 [qr 0,qi x1,qi x2,qn,qn,qn,qi x6,qi x7,qi x8,qi r_63] [] 44 m_71 rfl (Sv rfl rfl) (Zg 6 35 72 [qr 0,qi x1,qi x2,qn,qn,qn,qn,qn,qi x8,qn] [vi (m_71 20 (w32 (x8 - 1)))] 44 m_71 rfl (Zh 5 35 83 [qr 0,qi x1,qi x2,qn,qn,qn,qi (m_71 20 (w32 (x8 - 1))),qi (m_71 0 28),qi (w32 (x8+(-1))),qn] [] 44 m_71 rfl (Zp 1 rfl)))))))
def f_splitChildren (x1 x2 x3 x4:Int) (m:OMem):Option (Int×OMem):=if 0≤x1∧x1<10 then ((lp (f_splitChildren_l19 x1 x2) NN (x3,x4,m 2 x1,m)).bind fun e=>match e with | (.inl m_72)=>(some (0,m_72)) | (.inr (.inl m_73))=>(some (0,m_73)) | (.inr (.inr m_74))=>(some (1,m_74))) else none
theorem f_splitChildren_ok (x1 x2 x3 x4:Int) (m:OMem):Sim (f_splitChildren x1 x2 x3 x4 m) (fun (r,w0) _=>some (some (vi r),44,w0)) (fun n=>R n 35 0 [qr 0,qi x1,qi x2,qi x3,qi x4,qn,qn,qn,qn,qn] [] 44 m) :=
 Zg 4 35 6 [qr 0,qi x1,qi x2,qi x3,qi x4,qn,qn,qn,qn,qn] [vi (m 2 x1)] 44 m rfl (Zh 5 35 15 [qr 0,qi x1,qi x2,qi x3,qi x4,qi (m 2 x1),qi x3,qi x4,qn,qn] [] 44 m rfl (Zj 2 (Sim.bind (Sim.lp (σ:=Int×Int×Int×OMem) (fun ⟨x6L,x7L,x8L,mL⟩=>f_splitChildren_l19_ok x1 x2 x6L x7L x8L mL) NN (x3,x4,m 2 x1,m)) (fun e=>match e with | (.inl m_72)=>Sh 2 (fun _=>some (some (vi 0),44,m_72)) rfl Sp | (.inr (.inl m_73))=>Sh 2 (fun _=>some (some (vi 0),44,m_73)) rfl Sp | (.inr (.inr m_74))=>Sh 2 (fun _=>some (some (vi 1),44,m_74)) rfl Sp)) rfl rfl))
def f_pushChildren_l13_H (m:OMem) (x2 x3:Int):Int×Int→Nat→RT:=fun (x4,x5) n=>R n 36 13 [qr 0,qn,qi x2,qi x3,qi x4,qi x5] [] 44 m
def f_pushChildren_l13_X (m:OMem) (x2 x3:Int):(Int)→Nat→RT:=fun e n=>match e with | y4=>R n 36 47 [qr 0,qn,qi x2,qi x3,qi y4,qn] [] 44 m
def f_pushChildren_b41 (x2 x3 x4 x5:Int) (m:OMem):Option ((Int×Int)⊕((Int))):=some (.inl (x4,w32 (x5+1)))
theorem f_pushChildren_b41_ok (x2 x3 x4 x5:Int) (m:OMem):Sim (f_pushChildren_b41 x2 x3 x4 x5 m) (Sum.elim (f_pushChildren_l13_H m x2 x3 ) (f_pushChildren_l13_X m x2 x3 )) (fun n=>R n 36 41 [qr 0,qn,qi x2,qi x3,qi x4,qi x5] [] 44 m) :=
 Zp 2 rfl
def f_pushChildren_l13 (m:OMem) (x2 x3:Int):Int×Int→Option ((Int×Int)⊕((Int))):=fun (x4,x5)=>if x3<x5 then (some (.inr x4)) else (if 3<x5 then (some (.inr x4)) else (if 0≤w32 (x5 - 1)∧w32 (x5 - 1)<3 then (if m 19 (w32 (x5 - 1))<4 then (f_pushChildren_b41 x2 x3 (w32 (x4+1)) x5 m) else (f_pushChildren_b41 x2 x3 x4 x5 m)) else none))
theorem f_pushChildren_l13_ok (m:OMem) (x2 x3:Int) (x4 x5:Int):Sim (f_pushChildren_l13 m x2 x3 (x4,x5)) (Sum.elim (f_pushChildren_l13_H m x2 x3 ) (f_pushChildren_l13_X m x2 x3 )) (f_pushChildren_l13_H m x2 x3 (x4,x5)) :=
 Zi 3 36 47 19 [qr 0,qn,qi x2,qi x3,qi x4,qi x5] [] 44 m rfl (Sv rfl rfl) (Zi 3 36 47 25 [qr 0,qn,qi x2,qi x3,qi x4,qi x5] [] 44 m rfl (Sv rfl rfl) (Zg 6 36 34 [qr 0,qn,qi x2,qi x3,qi x4,qi x5] [vi (m 19 (w32 (x5 - 1)))] 44 m rfl (Zi 2 36 38 41 [qr 0,qn,qi x2,qi x3,qi x4,qi x5] [] 44 m rfl (Ze 1 (f_pushChildren_b41_ok x2 x3 (w32 (x4+1)) x5 m) rfl) (f_pushChildren_b41_ok x2 x3 x4 x5 m))))
def f_pushChildren_l66_H:Int×OMem→Nat→RT:=fun (x5,m) n=>R n 36 66 [qr 0,qn,qn,qn,qn,qi x5] [] 44 m
def f_pushChildren_l66_X:(OMem)⊕(OMem)→Nat→RT:=fun e n=>match e with | (.inl w)=>R n 36 134 [qn,qn,qn,qn,qn,qn] [] 44 w | (.inr w)=>R n 36 142 [qn,qn,qn,qn,qn,qn] [] 44 w
def f_pushChildren_b136 (x5:Int) (m:OMem):Option ((Int×OMem)⊕((OMem)⊕(OMem))):=some (.inl (w32 (x5+(-1)),m))
theorem f_pushChildren_b136_ok (x5:Int) (m:OMem):Sim (f_pushChildren_b136 x5 m) (Sum.elim (f_pushChildren_l66_H ) (f_pushChildren_l66_X )) (fun n=>R n 36 136 [qr 0,qn,qn,qn,qn,qi x5] [] 44 m) :=
 Zp 2 rfl
def f_pushChildren_l66:Int×OMem→Option ((Int×OMem)⊕((OMem)⊕(OMem))):=fun (x5,m)=>if x5<1 then (some (.inr (.inr m))) else (if 3<x5 then (f_pushChildren_b136 x5 m) else (if 0≤w32 (x5 - 1)∧w32 (x5 - 1)<3 then (if m 19 (w32 (x5 - 1))<4 then (if 0≤w32 (x5 - 1)∧w32 (x5 - 1)<3 then (if 0≤w32 (x5 - 1)∧w32 (x5 - 1)<3 then (if 0≤w32 (x5 - 1)∧w32 (x5 - 1)<3 then (if 0≤w32 (x5 - 1)∧w32 (x5 - 1)<3 then ((f_push (m 19 (w32 (x5 - 1))) (m 20 (w32 (x5 - 1))) (m 21 (w32 (x5 - 1))) (m 22 (w32 (x5 - 1))) m).bind fun (r_78,m_79)=>(if r_78=0 then (some (.inr (.inl m_79))) else (f_pushChildren_b136 x5 m_79))) else none) else none) else none) else none) else (f_pushChildren_b136 x5 m)) else none))
theorem f_pushChildren_l66_ok (x5:Int) (m:OMem):Sim (f_pushChildren_l66 (x5,m)) (Sum.elim (f_pushChildren_l66_H ) (f_pushChildren_l66_X )) (f_pushChildren_l66_H (x5,m)) :=
 Zi 3 36 142 72 [qr 0,qn,qn,qn,qn,qi x5] [] 44 m rfl (Sv rfl rfl) (Zi 3 36 136 78 [qr 0,qn,qn,qn,qn,qi x5] [] 44 m rfl (f_pushChildren_b136_ok x5 m) (Zg 6 36 87 [qr 0,qn,qn,qn,qn,qi x5] [vi (m 19 (w32 (x5 - 1)))] 44 m rfl (Zi 2 36 91 136 [qr 0,qn,qn,qn,qn,qi x5] [] 44 m rfl (Zg 7 36 101 [qr 0,qn,qn,qn,qn,qi x5] [vi (m 19 (w32 (x5 - 1))),vr 0] 44 m rfl (Zg 6 36 110 [qr 0,qn,qn,qn,qn,qi x5] [vi (m 20 (w32 (x5 - 1))),vi (m 19 (w32 (x5 - 1))),vr 0] 44 m rfl (Zg 6 36 119 [qr 0,qn,qn,qn,qn,qi x5] [vi (m 21 (w32 (x5 - 1))),vi (m 20 (w32 (x5 - 1))),vi (m 19 (w32 (x5 - 1))),vr 0] 44 m rfl (Zg 6 36 128 [qr 0,qn,qn,qn,qn,qi x5] [vi (m 22 (w32 (x5 - 1))),vi (m 21 (w32 (x5 - 1))),vi (m 20 (w32 (x5 - 1))),vi (m 19 (w32 (x5 - 1))),vr 0] 44 m rfl (Zw 1 36 131 [qr 0,qn,qn,qn,qn,qi x5] [] (f_push_ok (m 19 (w32 (x5 - 1))) (m 20 (w32 (x5 - 1))) (m 21 (w32 (x5 - 1))) (m 22 (w32 (x5 - 1))) m) (fun _ _ _=>rfl) rfl (fun r_78 m_79=>Zi 1 36 134 136 [qr 0,qn,qn,qn,qn,qi x5] [] 44 m_79 rfl (Sv rfl rfl) (f_pushChildren_b136_ok x5 m_79))))))) (f_pushChildren_b136_ok x5 m))))
def f_pushChildren_b47 (x2 x3 x4:Int) (m:OMem):Option (Int×OMem):=if 64<w32 ((w32 (x2+(m 0 27)))+x4) then (some (0,m)) else ((lp (f_pushChildren_l66 ) NN (x3,m)).bind fun e=>match e with | (.inl m_80)=>(some (0,m_80)) | (.inr m_81)=>(some (1,m_81)))
theorem f_pushChildren_b47_ok (x2 x3 x4:Int) (m:OMem):Sim (f_pushChildren_b47 x2 x3 x4 m) (fun (r,w0) _=>some (some (vi r),44,w0)) (fun n=>R n 36 47 [qr 0,qn,qi x2,qi x3,qi x4,qn] [] 44 m) :=
 Zh 6 36 56 [qr 0,qn,qi x2,qi x3,qi x4,qn] [vi (w32 ((w32 (x2+(m 0 27)))+x4))] 44 m rfl (Zi 2 36 61 63 [qr 0,qn,qi x2,qi x3,qi x4,qn] [] 44 m rfl (Zp 2 rfl) (Zj 2 (Sim.bind (Sim.lp (σ:=Int×OMem) (fun ⟨x5L,mL⟩=>f_pushChildren_l66_ok x5L mL) NN (x3,m)) (fun e=>match e with | (.inl m_80)=>Sh 2 (fun _=>some (some (vi 0),44,m_80)) rfl Sp | (.inr m_81)=>Sh 2 (fun _=>some (some (vi 1),44,m_81)) rfl Sp)) rfl rfl))
def f_pushChildren (x1 x2:Int) (m:OMem):Option (Int×OMem):=if 0≤x1∧x1<10 then ((lp (f_pushChildren_l13 m x2 (m 2 x1)) NN (0,1)).bind fun x4_77=>(f_pushChildren_b47 x2 (m 2 x1) x4_77 m)) else none
theorem f_pushChildren_ok (x1 x2:Int) (m:OMem):Sim (f_pushChildren x1 x2 m) (fun (r,w0) _=>some (some (vi r),44,w0)) (fun n=>R n 36 0 [qr 0,qi x1,qi x2,qn,qn,qn] [] 44 m) :=
 Zg 4 36 6 [qr 0,qi x1,qi x2,qn,qn,qn] [vi (m 2 x1)] 44 m rfl (Zj 5 (Sim.bind (Sim.lp (σ:=Int×Int) (fun ⟨x4L,x5L⟩=>f_pushChildren_l13_ok m x2 (m 2 x1) x4L x5L) NN (0,1)) (fun x4_77=>f_pushChildren_b47_ok x2 (m 2 x1) x4_77 m)) rfl rfl)
def f_buildTree_l21_H:Int×Int×OMem→Nat→RT:=fun (x2,x3,m) n=>R n 32 21 [qr 0,qn,qi x2,qi x3,qn,qn,qn,qn] [] 44 m
def f_buildTree_l21_X:(OMem)⊕(OMem)⊕(OMem)⊕(Int×OMem)→Nat→RT:=fun e n=>match e with | (.inl w)=>R n 32 103 [qn,qn,qn,qn,qn,qn,qn,qn] [] 44 w | (.inr (.inl w))=>R n 32 150 [qn,qn,qn,qn,qn,qn,qn,qn] [] 44 w | (.inr (.inr (.inl w)))=>R n 32 163 [qn,qn,qn,qn,qn,qn,qn,qn] [] 44 w | (.inr (.inr (.inr (y2,w))))=>R n 32 172 [qr 0,qn,qi y2,qn,qn,qn,qn,qn] [] 44 w
def f_buildTree_l21:Int×Int×OMem→Option ((Int×Int×OMem)⊕((OMem)⊕(OMem)⊕(OMem)⊕(Int×OMem))):=fun (x2,x3,m)=>if x3<64 then (if 0<m 0 27 then (if 0≤w32 ((m 0 27) - 1)∧w32 ((m 0 27) - 1)<64 then (if 0≤w32 ((m 0 27) - 1)∧w32 ((m 0 27) - 1)<64 then (if 0≤w32 ((m 0 27) - 1)∧w32 ((m 0 27) - 1)<64 then (if 0≤w32 ((m 0 27) - 1)∧w32 ((m 0 27) - 1)<64 then ((f_chooseRule (m 15 (w32 ((m 0 27) - 1))) (m 16 (w32 ((m 0 27) - 1))) (m 17 (w32 ((m 0 27) - 1))) (m 18 (w32 ((m 0 27) - 1))) (sto m 0 27 (w32 ((m 0 27) - 1)))).bind fun (r_61,m_62)=>(if r_61<0 then (some (.inr (.inl m_62))) else (if 0≤x2∧x2<64 then (if 0≤x2∧x2<64 then (if 0≤x2∧x2<64 then ((f_splitChildren r_61 (m 16 (w32 ((m 0 27) - 1))) (m 17 (w32 ((m 0 27) - 1))) (m_62 0 28) (sto (sto (sto m_62 12 x2 r_61) 13 x2 (m 16 (w32 ((m 0 27) - 1)))) 14 x2 (m 17 (w32 ((m 0 27) - 1))))).bind fun (r_75,m_76)=>(if r_75=0 then (some (.inr (.inr (.inl m_76)))) else ((f_pushChildren r_61 (w32 (x2+1)) m_76).bind fun (r_82,m_83)=>(if r_82=0 then (some (.inr (.inr (.inr (.inl m_83))))) else (some (.inl (w32 (x2+1),w32 (x3+1),m_83))))))) else none) else none) else none))) else none) else none) else none) else none) else (some (.inr (.inr (.inr (.inr (x2,m))))))) else (some (.inr (.inr (.inr (.inr (x2,m))))))
theorem f_buildTree_l21_ok (x2 x3:Int) (m:OMem):Sim (f_buildTree_l21 (x2,x3,m)) (Sum.elim (f_buildTree_l21_H ) (f_buildTree_l21_X )) (f_buildTree_l21_H (x2,x3,m)) :=
 Zi 3 32 27 172 [qr 0,qn,qi x2,qi x3,qn,qn,qn,qn] [] 44 m rfl (Zi 3 32 34 172 [qr 0,qn,qi x2,qi x3,qn,qn,qn,qn] [] 44 m rfl (Zh 8 32 48 [qr 0,qn,qi x2,qi x3,qn,qn,qn,qn] [vr 15] 44 (sto m 0 27 (w32 ((m 0 27) - 1))) rfl (Zg 3 32 53 [qr 0,qn,qi x2,qi x3,qn,qn,qn,qn] [vi (m 15 (w32 ((m 0 27) - 1)))] 44 (sto m 0 27 (w32 ((m 0 27) - 1))) rfl (Zg 6 32 64 [qr 0,qn,qi x2,qi x3,qi (m 15 (w32 ((m 0 27) - 1))),qn,qn,qn] [vi (m 16 (w32 ((m 0 27) - 1)))] 44 (sto m 0 27 (w32 ((m 0 27) - 1))) rfl (Zg 6 32 75 [qr 0,qn,qi x2,qi x3,qi (m 15 (w32 ((m 0 27) - 1))),qi (m 16 (w32 ((m 0 27) - 1))),qn,qn] [vi (m 17 (w32 ((m 0 27) - 1)))] 44 (sto m 0 27 (w32 ((m 0 27) - 1))) rfl (Zh 9 32 92 [qr 0,qn,qi x2,qi x3,qi (m 15 (w32 ((m 0 27) - 1))),qi (m 16 (w32 ((m 0 27) - 1))),qi (m 17 (w32 ((m 0 27) - 1))),qn] [vi (w32 ((m 0 27) - 1)),vr 18,vi (m 17 (w32 ((m 0 27) - 1))),vi (m 16 (w32 ((m 0 27) - 1))),vi (m 15 (w32 ((m 0 27) - 1))),vr 0] 44 (sto m 0 27 (w32 ((m 0 27) - 1))) rfl (Zg 1 32 93 [qr 0,qn,qi x2,qi x3,qi (m 15 (w32 ((m 0 27) - 1))),qi (m 16 (w32 ((m 0 27) - 1))),qi (m 17 (w32 ((m 0 27) - 1))),qn] [vi (m 18 (w32 ((m 0 27) - 1))),vi (m 17 (w32 ((m 0 27) - 1))),vi (m 16 (w32 ((m 0 27) - 1))),vi (m 15 (w32 ((m 0 27) - 1))),vr 0] 44 (sto m 0 27 (w32 ((m 0 27) - 1))) rfl (Zw 1 32 96 [qr 0,qn,qi x2,qi x3,qi (m 15 (w32 ((m 0 27) - 1))),qi (m 16 (w32 ((m 0 27) - 1))),qi (m 17 (w32 ((m 0 27) - 1))),qn] [] (f_chooseRule_ok (m 15 (w32 ((m 0 27) - 1))) (m 16 (w32 ((m 0 27) - 1))) (m 17 (w32 ((m 0 27) - 1))) (m 18 (w32 ((m 0 27) - 1))) (sto m 0 27 (w32 ((m 0 27) - 1)))) (fun _ _ _=>rfl) rfl (fun r_61 m_62=>Zi 3 32 103 106 [qr 0,qn,qi x2,qi x3,qi (m 15 (w32 ((m 0 27) - 1))),qi (m 16 (w32 ((m 0 27) - 1))),qi (m 17 (w32 ((m 0 27) - 1))),qi r_61] [] 44 m_62 rfl (Sv rfl rfl) (Zg 5 32 114 [qr 0,qn,qi x2,qi x3,qn,qi (m 16 (w32 ((m 0 27) - 1))),qi (m 17 (w32 ((m 0 27) - 1))),qi r_61] [] 44 (sto m_62 12 x2 r_61) rfl (Zg 5 32 122 [qr 0,qn,qi x2,qi x3,qn,qi (m 16 (w32 ((m 0 27) - 1))),qi (m 17 (w32 ((m 0 27) - 1))),qi r_61] [] 44 (sto (sto m_62 12 x2 r_61) 13 x2 (m 16 (w32 ((m 0 27) - 1)))) rfl (Zg 5 32 130 [qr 0,qn,qi x2,qi x3,qn,qi (m 16 (w32 ((m 0 27) - 1))),qi (m 17 (w32 ((m 0 27) - 1))),qi r_61] [] 44 (sto (sto (sto m_62 12 x2 r_61) 13 x2 (m 16 (w32 ((m 0 27) - 1)))) 14 x2 (m 17 (w32 ((m 0 27) - 1)))) rfl (Zw 8 32 147 [qr 0,qn,qi (w32 (x2+1)),qi x3,qn,qi (m 16 (w32 ((m 0 27) - 1))),qi (m 17 (w32 ((m 0 27) - 1))),qi r_61] [] (f_splitChildren_ok r_61 (m 16 (w32 ((m 0 27) - 1))) (m 17 (w32 ((m 0 27) - 1))) (m_62 0 28) (sto (sto (sto m_62 12 x2 r_61) 13 x2 (m 16 (w32 ((m 0 27) - 1)))) 14 x2 (m 17 (w32 ((m 0 27) - 1))))) (fun _ _ _=>rfl) rfl (fun r_75 m_76=>Zi 1 32 150 153 [qr 0,qn,qi (w32 (x2+1)),qi x3,qn,qi (m 16 (w32 ((m 0 27) - 1))),qi (m 17 (w32 ((m 0 27) - 1))),qi r_61] [] 44 m_76 rfl (Sv rfl rfl) (Zw 4 32 160 [qr 0,qn,qi (w32 (x2+1)),qi x3,qn,qn,qn,qi r_61] [] (f_pushChildren_ok r_61 (w32 (x2+1)) m_76) (fun _ _ _=>rfl) rfl (fun r_82 m_83=>Zi 1 32 163 166 [qr 0,qn,qi (w32 (x2+1)),qi x3,qn,qn,qn,qi r_61] [] 44 m_83 rfl (Sv rfl rfl) (Zp 2 rfl)))))))))))))))) (Sv rfl rfl)) (Sv rfl rfl)
def f_buildTree_b172 (x2:Int) (m:OMem):Option (Int×OMem):=if 0<m 0 27 then (some ((-8),m)) else (some (x2,m))
theorem f_buildTree_b172_ok (x2:Int) (m:OMem):Sim (f_buildTree_b172 x2 m) (fun (r,w0) _=>some (some (vi r),44,w0)) (fun n=>R n 32 172 [qr 0,qn,qi x2,qn,qn,qn,qn,qn] [] 44 m) :=
 Zi 3 32 179 182 [qr 0,qn,qi x2,qn,qn,qn,qn,qn] [] 44 m rfl (Zp 2 rfl) (Zp 2 rfl)
def f_buildTree (x1:Int) (m:OMem):Option (Int×OMem):=(f_push 0 0 (m 0 23) x1 (sto m 0 27 0)).bind fun (r_56,m_57)=>((lp (f_buildTree_l21 ) NN (0,0,m_57)).bind fun e=>match e with | (.inl m_84)=>(some ((-7),m_84)) | (.inr (.inl m_85))=>(some ((-7),m_85)) | (.inr (.inr (.inl m_86)))=>(some ((-8),m_86)) | (.inr (.inr (.inr (x2_87,m_88))))=>(f_buildTree_b172 x2_87 m_88))
theorem f_buildTree_ok (x1:Int) (m:OMem):Sim (f_buildTree x1 m) (fun (r,w0) _=>some (some (vi r),44,w0)) (fun n=>R n 32 0 [qr 0,qi x1,qn,qn,qn,qn,qn,qn] [] 44 m) :=
 Zw 10 32 16 [qr 0,qi x1,qn,qn,qn,qn,qn,qn] [] (f_push_ok 0 0 (m 0 23) x1 (sto m 0 27 0)) (fun _ _ _=>rfl) rfl (fun r_56 m_57=>Zj 5 (Sim.bind (Sim.lp (σ:=Int×Int×OMem) (fun ⟨x2L,x3L,mL⟩=>f_buildTree_l21_ok x2L x3L mL) NN (0,0,m_57)) (fun e=>match e with | (.inl m_84)=>Sh 2 (fun _=>some (some (vi (-7)),44,m_84)) rfl Sp | (.inr (.inl m_85))=>Sh 2 (fun _=>some (some (vi (-7)),44,m_85)) rfl Sp | (.inr (.inr (.inl m_86)))=>Sh 2 (fun _=>some (some (vi (-8)),44,m_86)) rfl Sp | (.inr (.inr (.inr (⟨x2_87,m_88⟩))))=>f_buildTree_b172_ok x2_87 m_88)) rfl rfl)
def f_selectTree_b34 (m:OMem):Option (Int×OMem):=some ((-7),m)
theorem f_selectTree_b34_ok (m:OMem):Sim (f_selectTree_b34 m) (fun (r,w0) _=>some (some (vi r),44,w0)) (fun n=>R n 31 34 [qn,qn,qn,qn] [] 44 m) :=
 Zp 2 rfl
def f_selectTree_l60_H (x2:Int):Int×OMem→Nat→RT:=fun (x3,m) n=>R n 31 60 [qr 0,qn,qi x2,qi x3] [] 44 m
def f_selectTree_l60_X (x2:Int):(OMem)→Nat→RT:=fun e n=>match e with | w=>R n 31 113 [qr 0,qn,qi x2,qn] [] 44 w
def f_selectTree_l60 (x2:Int):Int×OMem→Option ((Int×OMem)⊕((OMem))):=fun (x3,m)=>if x3<x2 then (if x3<64 then (if 0≤x3∧x3<64 then (if 0≤x3∧x3<64 then (if 0≤x3∧x3<64 then (if 0≤x3∧x3<64 then (if 0≤x3∧x3<64 then (if 0≤x3∧x3<64 then (some (.inl (w32 (x3+1),sto (sto (sto m 9 x3 (m 12 x3)) 10 x3 (m 13 x3)) 11 x3 (m 14 x3)))) else none) else none) else none) else none) else none) else none) else (some (.inr m))) else (some (.inr m))
theorem f_selectTree_l60_ok (x2:Int) (x3:Int) (m:OMem):Sim (f_selectTree_l60 x2 (x3,m)) (Sum.elim (f_selectTree_l60_H x2 ) (f_selectTree_l60_X x2 )) (f_selectTree_l60_H x2 (x3,m)) :=
 Zi 3 31 65 113 [qr 0,qn,qi x2,qi x3] [] 44 m rfl (Zi 3 31 71 113 [qr 0,qn,qi x2,qi x3] [] 44 m rfl (Zg 7 31 82 [qr 0,qn,qi x2,qi x3] [vi (m 12 x3),vi x3,vr 9] 44 m rfl (Zg 1 31 83 [qr 0,qn,qi x2,qi x3] [] 44 (sto m 9 x3 (m 12 x3)) rfl (Zg 7 31 94 [qr 0,qn,qi x2,qi x3] [vi (m 13 x3),vi x3,vr 10] 44 (sto m 9 x3 (m 12 x3)) rfl (Zg 1 31 95 [qr 0,qn,qi x2,qi x3] [] 44 (sto (sto m 9 x3 (m 12 x3)) 10 x3 (m 13 x3)) rfl (Zg 7 31 106 [qr 0,qn,qi x2,qi x3] [vi (m 14 x3),vi x3,vr 11] 44 (sto (sto m 9 x3 (m 12 x3)) 10 x3 (m 13 x3)) rfl (Zg 1 31 107 [qr 0,qn,qi x2,qi x3] [] 44 (sto (sto (sto m 9 x3 (m 12 x3)) 10 x3 (m 13 x3)) 11 x3 (m 14 x3)) rfl (Zp 2 rfl))))))) (Sv rfl rfl)) (Sv rfl rfl)
def f_selectTree_b113 (x2:Int) (m:OMem):Option (Int×OMem):=some (x2,sto m 0 26 x2)
theorem f_selectTree_b113_ok (x2:Int) (m:OMem):Sim (f_selectTree_b113 x2 m) (fun (r,w0) _=>some (some (vi r),44,w0)) (fun n=>R n 31 113 [qr 0,qn,qi x2,qn] [] 44 m) :=
 Zp 5 rfl
def f_selectTree_b57 (s0:Int) (m:OMem):Option (Int×OMem):=some (s0,m)
theorem f_selectTree_b57_ok (s0:Int) (m:OMem):Sim (f_selectTree_b57 s0 m) (fun (r,w0) _=>some (some (vi r),44,w0)) (fun n=>R n 31 57 [qn,qn,qn,qn] [vi s0] 44 m) :=
 Zp 1 rfl
def f_selectTree (x1:Int) (m:OMem):Option (Int×OMem):=if m 0 24=0 then (some ((-5),m)) else (if m 0 25<1000000 then (if x1<0 then (f_selectTree_b34 m) else (if x1<m 0 25 then ((f_buildTree x1 m).bind fun (r_89,m_90)=>(if 0<r_89 then ((lp (f_selectTree_l60 r_89) NN (0,m_90)).bind fun m_91=>(f_selectTree_b113 r_89 m_91)) else (if r_89<0 then (f_selectTree_b57 r_89 m_90) else (f_selectTree_b57 (-7) m_90)))) else (f_selectTree_b34 m))) else (some ((-6),m)))
theorem f_selectTree_ok (x1:Int) (m:OMem):Sim (f_selectTree x1 m) (fun (r,w0) _=>some (some (vi r),44,w0)) (fun n=>R n 31 0 [qr 0,qi x1,qn,qn] [] 44 m) :=
 Zi 3 31 7 10 [qr 0,qi x1,qn,qn] [] 44 m rfl (Zp 2 rfl) (Zi 4 31 22 19 [qr 0,qi x1,qn,qn] [] 44 m rfl (Zi 2 31 34 26 [qr 0,qi x1,qn,qn] [] 44 m rfl (Sim.jmp (f_selectTree_b34_ok m) rfl (fun _=>rfl)) (Zi 4 31 37 34 [qr 0,qi x1,qn,qn] [] 44 m rfl (Zw 3 31 42 [qr 0,qi x1,qn,qn] [] (f_buildTree_ok x1 m) (fun _ _ _=>rfl) rfl (fun r_89 m_90=>Zi 3 31 58 47 [qr 0,qi x1,qi r_89,qn] [] 44 m_90 rfl (Zb 2 (Sim.lp (σ:=Int×OMem) (fun ⟨x3L,mL⟩=>f_selectTree_l60_ok r_89 x3L mL) NN (0,m_90)) rfl (fun m_91=>f_selectTree_b113_ok r_89 m_91)) (Zi 2 31 51 55 [qn,qn,qi r_89,qn] [] 44 m_90 rfl (Zj 2 (f_selectTree_b57_ok r_89 m_90) rfl rfl) (Ze 1 (f_selectTree_b57_ok (-7) m_90) rfl)))) (Sim.jmp (f_selectTree_b34_ok m) rfl (fun _=>rfl)))) (Zp 2 rfl))
def f_treeSize (m:OMem):Option (Int):=some (m 0 26)
theorem f_treeSize_ok (t:Nat) (m:OMem):Sim (f_treeSize m) (fun r _=>some (some (vi r),t,m)) (fun n=>R n 37 0 [qr 0] [] t m) :=
 Zp 3 rfl
def f_nodeExists_b23 (s0:Int) (m:OMem):Option (Int):=some (s0 % 2)
theorem f_nodeExists_b23_ok (t:Nat) (s0:Int) (m:OMem):Sim (f_nodeExists_b23 s0 m) (fun r _=>some (some (vi r),t,m)) (fun n=>R n 39 23 [qn,qn] [vi s0] t m) :=
 Zp 1 rfl
def f_nodeExists_b22 (m:OMem):Option (Int):=f_nodeExists_b23 0 m
theorem f_nodeExists_b22_ok (t:Nat) (m:OMem):Sim (f_nodeExists_b22 m) (fun r _=>some (some (vi r),t,m)) (fun n=>R n 39 22 [qn,qn] [] t m) :=
 Ze 1 (f_nodeExists_b23_ok t 0 m) rfl
def f_nodeExists (x1:Int) (m:OMem):Option (Int):=if x1<0 then (f_nodeExists_b22 m) else (if x1<m 0 26 then (if x1<64 then (f_nodeExists_b23 1 m) else (f_nodeExists_b22 m)) else (f_nodeExists_b22 m))
theorem f_nodeExists_ok (t:Nat) (x1:Int) (m:OMem):Sim (f_nodeExists x1 m) (fun r _=>some (some (vi r),t,m)) (fun n=>R n 39 0 [qr 0,qi x1] [] t m) :=
 Zi 2 39 22 4 [qr 0,qi x1] [] t m rfl (Sim.jmp (f_nodeExists_b22_ok t m) rfl (fun _=>rfl)) (Zi 4 39 12 22 [qr 0,qi x1] [] t m rfl (Zi 3 39 18 22 [qn,qi x1] [] t m rfl (Ze 2 (f_nodeExists_b23_ok t 1 m) rfl) (Sim.jmp (f_nodeExists_b22_ok t m) rfl (fun _=>rfl))) (Sim.jmp (f_nodeExists_b22_ok t m) rfl (fun _=>rfl)))
def f_treeRule (x1:Int) (m:OMem):Option (Int):=(f_nodeExists x1 m).bind fun r_92=>(if r_92=0 then (some (-1)) else (if 0≤x1∧x1<64 then (some (m 9 x1)) else none))
theorem f_treeRule_ok (x1:Int) (m:OMem):Sim (f_treeRule x1 m) (fun r _=>some (some (vi r),44,m)) (fun n=>R n 38 0 [qr 0,qi x1] [] 44 m) :=
 Zr 3 38 5 [qr 0,qi x1] [] (f_nodeExists_ok 44 x1 m) rfl (fun r_92=>Zi 1 38 8 10 [qr 0,qi x1] [] 44 m rfl (Zp 2 rfl) (Zg 4 38 16 [qr 0,qi x1] [vi (m 9 x1)] 44 m rfl (Zp 1 rfl)))
def f_treeStart (x1:Int) (m:OMem):Option (Int):=(f_nodeExists x1 m).bind fun r_93=>(if r_93=0 then (some (-1)) else (if 0≤x1∧x1<64 then (some (m 10 x1)) else none))
theorem f_treeStart_ok (x1:Int) (m:OMem):Sim (f_treeStart x1 m) (fun r _=>some (some (vi r),44,m)) (fun n=>R n 40 0 [qr 0,qi x1] [] 44 m) :=
 Zr 3 40 5 [qr 0,qi x1] [] (f_nodeExists_ok 44 x1 m) rfl (fun r_93=>Zi 1 40 8 10 [qr 0,qi x1] [] 44 m rfl (Zp 2 rfl) (Zg 4 40 16 [qr 0,qi x1] [vi (m 10 x1)] 44 m rfl (Zp 1 rfl)))
def f_treeEnd (x1:Int) (m:OMem):Option (Int):=(f_nodeExists x1 m).bind fun r_94=>(if r_94=0 then (some (-1)) else (if 0≤x1∧x1<64 then (some (m 11 x1)) else none))
theorem f_treeEnd_ok (x1:Int) (m:OMem):Sim (f_treeEnd x1 m) (fun r _=>some (some (vi r),44,m)) (fun n=>R n 41 0 [qr 0,qi x1] [] 44 m) :=
 Zr 3 41 5 [qr 0,qi x1] [] (f_nodeExists_ok 44 x1 m) rfl (fun r_94=>Zi 1 41 8 10 [qr 0,qi x1] [] 44 m rfl (Zp 2 rfl) (Zg 4 41 16 [qr 0,qi x1] [vi (m 11 x1)] 44 m rfl (Zp 1 rfl)))
def lcd_0:Nat→Option (Instr×Nat):=fun p=>cond (Nat.blt p 1208) (cb p 567 (cb p 270 (cb p 128 (cb p 56 (cb p 29 (cb p 16 (c8 p 0 (.new 30) 3 .dup 1 (.invokespecial 32) 3 (.astore_n 1) 1 (.new 30) 3 .dup 1 (.invokespecial 32) 3 (.astore_n 2) 1) (c8 p 16 (.iconst 0) 1 (.istore_n 3) 1 (.iconst 1) 1 (.aload_n 0) 1 (.iload_n 3) 1 (.iinc 3 1) 3 (.invokestatic 33) 3 (.bipush 15) 2)) (cb p 41 (c8 p 29 .iand 1 (.bipush 10) 2 .irem 1 .iadd 1 (.istore 4) 2 (.iconst 0) 1 (.istore 5) 2 (.iload 5) 2) (c8 p 41 (.iload 4) 2 (.if_icmp .ge 105) 3 (.aload_n 0) 1 (.iload_n 3) 1 (.iinc 3 1) 3 (.invokestatic 33) 3 (.iconst 3) 1 .iand 1))) (cb p 84 (cb p 70 (c8 p 56 (.istore 6) 2 (.aload_n 0) 1 (.iload_n 3) 1 (.iinc 3 1) 3 (.invokestatic 33) 3 (.iconst 3) 1 .iand 1 (.istore 7) 2) (c8 p 70 (.aload_n 1) 1 (.iload 6) 2 (.invokevirtual 37) 3 .pop 1 (.aload_n 2) 1 (.iload 6) 2 (.invokevirtual 37) 3 .pop 1)) (cb p 99 (c8 p 84 (.iconst 0) 1 (.istore 8) 2 (.iload 8) 2 (.iload 7) 2 (.if_icmp .ge 51) 3 (.aload_n 0) 1 (.iload_n 3) 1 (.iinc 3 1) 3) (cb p 115 (c8 p 99 (.invokestatic 33) 3 (.bipush 7) 2 .iand 1 (.istore 9) 2 (.iload 9) 2 (.bipush 6) 2 (.if_icmp .lt 11) 3 (.iconst 4) 1) (c8 p 115 (.iload 9) 2 (.iconst 1) 1 .iand 1 .iadd 1 (.istore 9) 2 (.aload_n 1) 1 (.iload 9) 2 (.invokevirtual 41) 3))))) (cb p 203 (cb p 158 (cb p 145 (c8 p 128 .pop 1 (.aload_n 2) 1 (.iload 9) 2 (.invokevirtual 41) 3 .pop 1 (.iinc 8 1) 3 (.goto (-52)) 3 (.iinc 5 1) 3) (c8 p 145 (.goto (-106)) 3 (.lconst 0) 1 (.lstore 5) 2 (.lconst 0) 1 (.lstore 7) 2 (.lconst 0) 1 (.lstore 9) 2 (.iconst 0) 1)) (cb p 173 (c8 p 158 (.istore 11) 2 (.iconst 0) 1 (.istore 12) 2 (.iload 12) 2 (.bipush 10) 2 (.if_icmp .ge 144) 3 (.aload_n 1) 1 (.iload 12) 2) (cb p 192 (c8 p 173 (.invokevirtual 44) 3 (.istore 13) 2 (.iload 13) 2 (.ifCond .ge 6) 3 (.goto 128) 3 (.aload_n 1) 1 (.iload 12) 2 (.invokevirtual 47) 3) (c8 p 192 (.iconst 3) 1 .iand 1 (.istore 14) 2 (.iload 13) 2 (.iconst 3) 1 .iand 1 (.iload 14) 2 (.iconst 2) 1)))) (cb p 231 (cb p 217 (c8 p 203 .ishl 1 .ior 1 (.istore 15) 2 (.iconst 0) 1 (.istore 16) 2 (.iload 16) 2 (.iload 14) 2 (.if_icmp .ge 32) 3) (c8 p 217 (.iload 15) 2 (.aload_n 1) 1 (.iload 12) 2 (.iload 16) 2 (.invokevirtual 50) 3 (.bipush 7) 2 .iand 1 (.iconst 4) 1)) (cb p 243 (c8 p 231 (.iconst 3) 1 (.iload 16) 2 .imul 1 .iadd 1 .ishl 1 .ior 1 (.istore 15) 2 (.iinc 16 1) 3) (cb p 256 (c8 p 243 (.goto (-33)) 3 (.iload 15) 2 .i2l 1 (.iload 12) 2 (.iconst 3) 1 .iand 1 (.bipush 16) 2 .imul 1) (c8 p 256 .lshl 1 (.lstore 16) 2 (.iload 12) 2 (.iconst 4) 1 (.if_icmp .ge 13) 3 (.lload 5) 2 (.lload 16) 2 .lor 1)))))) (cb p 408 (cb p 334 (cb p 302 (cb p 287 (c8 p 270 (.lstore 5) 2 (.goto 27) 3 (.iload 12) 2 (.bipush 8) 2 (.if_icmp .ge 13) 3 (.lload 7) 2 (.lload 16) 2 .lor 1) (c8 p 287 (.lstore 7) 2 (.goto 10) 3 (.lload 9) 2 (.lload 16) 2 .lor 1 (.lstore 9) 2 (.iload 12) 2 (.iconst 1) 1)) (cb p 319 (c8 p 302 .iadd 1 (.istore 11) 2 (.iinc 12 1) 3 (.goto (-145)) 3 (.lload 5) 2 (.lload 7) 2 (.lload 9) 2 (.iload 11) 2) (c8 p 319 (.invokestatic 53) 3 (.istore 12) 2 (.iconst 0) 1 (.istore 13) 2 (.iload 13) 2 (.iconst 3) 1 (.if_icmp .ge 876) 3 (.aload_n 0) 1))) (cb p 364 (cb p 349 (c8 p 334 (.iload_n 3) 1 (.iinc 3 1) 3 (.invokestatic 33) 3 (.bipush 7) 2 .iand 1 (.bipush 6) 2 .irem 1 (.istore 14) 2) (c8 p 349 (.aload_n 1) 1 (.invokevirtual 56) 3 (.aload_n 2) 1 (.invokevirtual 56) 3 (.iconst 0) 1 (.istore 15) 2 (.iload 15) 2 (.iload 14) 2)) (cb p 379 (c8 p 364 (.if_icmp .ge 35) 3 (.aload_n 0) 1 (.iload_n 3) 1 (.iinc 3 1) 3 (.invokestatic 33) 3 (.iconst 1) 1 .iand 1 (.istore 16) 2) (cb p 393 (c8 p 379 (.aload_n 1) 1 (.iload 16) 2 (.invokevirtual 59) 3 .pop 1 (.aload_n 2) 1 (.iload 16) 2 (.invokevirtual 59) 3 .pop 1) (c8 p 393 (.iinc 15 1) 3 (.goto (-36)) 3 (.iconst 0) 1 (.istore 15) 2 (.iconst 0) 1 (.istore 16) 2 (.iconst 0) 1 (.istore 17) 2))))) (cb p 484 (cb p 440 (cb p 425 (c8 p 408 (.iload 17) 2 (.bipush 8) 2 (.if_icmp .ge 45) 3 (.aload_n 1) 1 (.iload 17) 2 (.invokevirtual 62) 3 (.istore 18) 2 (.iload 18) 2) (c8 p 425 (.ifCond .ge 6) 3 (.goto 29) 3 (.iload 15) 2 (.iload 18) 2 (.iconst 3) 1 .iand 1 (.iconst 2) 1 (.iload 17) 2)) (cb p 451 (c8 p 440 .imul 1 .ishl 1 .ior 1 (.istore 15) 2 (.iload 17) 2 (.iconst 1) 1 .iadd 1 (.istore 16) 2) (cb p 467 (c8 p 451 (.iinc 17 1) 3 (.goto (-46)) 3 (.aload_n 1) 1 (.invokevirtual 65) 3 .pop 1 (.aload_n 2) 1 (.invokevirtual 65) 3 .pop 1) (c8 p 467 (.aload_n 1) 1 (.invokevirtual 69) 3 (.istore 17) 2 (.iload 17) 2 (.ifCond .lt 55) 3 (.lload 5) 2 (.lload 7) 2 (.lload 9) 2)))) (cb p 516 (cb p 500 (c8 p 484 (.iload 11) 2 (.iload 15) 2 (.iload 16) 2 (.iload 12) 2 (.invokestatic 72) 3 (.lstore 18) 2 (.lload 18) 2 (.lconst 0) 1) (c8 p 500 .lcmp 1 (.ifCond .lt 29) 3 (.iload 17) 2 .i2l 1 (.lload 18) 2 (.ldc2_w 76) 3 .lcmp 1 (.ifCond .ge 8) 3)) (cb p 532 (c8 p 516 (.lload 18) 2 (.goto 6) 3 (.ldc2_w 76) 3 .lcmp 1 (.ifCond .eq 5) 3 (.iconst 0) 1 .ireturn 1 (.iload 17) 2) (cb p 550 (c8 p 532 (.iconst 1) 1 (.if_icmp .lt 667) 3 (.iload 17) 2 (.ldc 78) 2 (.if_icmp .lt 6) 3 (.goto 657) 3 (.iload 17) 2 (.bipush 6) 2) (c8 p 550 (.if_icmp .ge 8) 3 (.iload 17) 2 (.goto 5) 3 (.bipush 6) 2 (.istore 18) 2 (.aload_n 0) 1 (.iload_n 3) 1 (.iinc 3 1) 3))))))) (cb p 874 (cb p 714 (cb p 635 (cb p 599 (cb p 581 (c8 p 567 (.invokestatic 33) 3 (.ldc 79) 2 .iand 1 (.iload 17) 2 .irem 1 (.istore 19) 2 (.iconst 0) 1 (.istore 20) 2) (c8 p 581 (.iload 20) 2 (.iload 18) 2 (.if_icmp .gt 615) 3 (.iload 20) 2 (.iload 18) 2 (.if_icmp .ne 13) 3 (.iload 19) 2 (.iload 18) 2)) (cb p 619 (c8 p 599 (.if_icmp .ge 6) 3 (.goto 598) 3 (.iload 20) 2 (.iload 18) 2 (.if_icmp .ge 8) 3 (.iload 20) 2 (.goto 5) 3 (.iload 19) 2) (c8 p 619 (.istore 21) 2 (.aload_n 1) 1 (.iload 21) 2 (.invokevirtual 80) 3 (.istore 22) 2 (.iload 22) 2 (.iconst 1) 1 (.if_icmp .ge 6) 3))) (cb p 666 (cb p 650 (c8 p 635 (.goto 559) 3 (.aload_n 1) 1 (.invokevirtual 83) 3 (.iload 22) 2 (.if_icmp .eq 5) 3 (.iconst 0) 1 .ireturn 1 (.aload_n 1) 1) (c8 p 650 (.aload_n 1) 1 (.iconst 0) 1 (.invokevirtual 86) 3 (.invokevirtual 44) 3 (.ifCond .ne 21) 3 (.aload_n 1) 1 (.iconst 0) 1 (.invokevirtual 89) 3)) (cb p 681 (c8 p 666 (.ifCond .ne 13) 3 (.aload_n 1) 1 (.iconst 0) 1 (.invokevirtual 92) 3 (.iload 16) 2 (.if_icmp .eq 5) 3 (.iconst 0) 1 .ireturn 1) (cb p 697 (c8 p 681 (.iconst (-1)) 1 (.istore 23) 2 (.iload 23) 2 (.iload 22) 2 (.if_icmp .ge 352) 3 (.iload 23) 2 (.ifCond .ge 7) 3 (.iconst (-1)) 1) (c8 p 697 (.goto 9) 3 (.aload_n 1) 1 (.iload 23) 2 (.invokevirtual 86) 3 (.istore 24) 2 (.iload 23) 2 (.ifCond .ge 7) 3 (.iconst 1) 1))))) (cb p 793 (cb p 747 (cb p 732 (c8 p 714 (.goto 9) 3 (.aload_n 1) 1 (.iload 24) 2 (.invokevirtual 47) 3 (.istore 25) 2 (.iload 25) 2 (.ifCond .lt 9) 3 (.iload 25) 2) (c8 p 732 (.iconst 3) 1 (.if_icmp .le 5) 3 (.iconst 0) 1 .ireturn 1 (.iload 23) 2 (.ifCond .ge 7) 3 (.iconst 0) 1 (.goto 9) 3)) (cb p 761 (c8 p 747 (.aload_n 1) 1 (.iload 23) 2 (.invokevirtual 89) 3 (.istore 26) 2 (.iload 23) 2 (.iconst 1) 1 .iadd 1 (.istore 27) 2) (cb p 777 (c8 p 761 (.iconst 0) 1 (.istore 28) 2 (.iload 28) 2 (.iload 25) 2 (.if_icmp .ge 238) 3 (.iload 23) 2 (.ifCond .ge 7) 3 (.iconst 0) 1) (c8 p 777 (.goto 11) 3 (.aload_n 1) 1 (.iload 24) 2 (.iload 28) 2 (.invokevirtual 50) 3 (.istore 29) 2 (.iload 29) 2 (.iconst 4) 1)))) (cb p 826 (cb p 811 (c8 p 793 (.if_icmp .lt 36) 3 (.iload 26) 2 (.ifCond .lt 23) 3 (.iload 26) 2 (.iload 16) 2 (.if_icmp .ge 16) 3 (.aload_n 1) 1 (.iload 26) 2) (c8 p 811 (.invokevirtual 62) 3 (.iload 29) 2 (.iconst 4) 1 .isub 1 (.if_icmp .eq 5) 3 (.iconst 0) 1 .ireturn 1 (.iinc 26 1) 3)) (cb p 843 (c8 p 826 (.goto 174) 3 (.iload 29) 2 (.ifCond .lt 10) 3 (.iload 27) 2 (.iload 22) 2 (.if_icmp .lt 5) 3 (.iconst 0) 1 .ireturn 1) (cb p 859 (c8 p 843 (.aload_n 1) 1 (.aload_n 1) 1 (.iload 27) 2 (.invokevirtual 86) 3 (.invokevirtual 44) 3 (.iload 29) 2 (.if_icmp .ne 14) 3 (.aload_n 1) 1) (c8 p 859 (.iload 27) 2 (.invokevirtual 89) 3 (.iload 26) 2 (.if_icmp .eq 5) 3 (.iconst 0) 1 .ireturn 1 (.aload_n 1) 1 (.iload 27) 2)))))) (cb p 1040 (cb p 955 (cb p 905 (cb p 889 (c8 p 874 (.invokevirtual 92) 3 (.istore 26) 2 (.iconst 1) 1 (.istore 30) 2 (.iload 27) 2 (.istore 31) 2 (.iconst 0) 1 (.istore 32) 2) (c8 p 889 (.iload 31) 2 (.iload 22) 2 (.if_icmp .ge 94) 3 (.aload_n 1) 1 (.iload 31) 2 (.invokevirtual 86) 3 (.istore 33) 2 (.aload_n 1) 1)) (cb p 920 (c8 p 905 (.iload 33) 2 (.invokevirtual 47) 3 (.istore 34) 2 (.iconst 0) 1 (.istore 35) 2 (.iconst 0) 1 (.istore 36) 2 (.iload 36) 2) (cb p 936 (c8 p 920 (.iload 34) 2 (.if_icmp .ge 39) 3 (.iload 36) 2 (.iconst 3) 1 (.if_icmp .ge 33) 3 (.aload_n 1) 1 (.iload 33) 2 (.iload 36) 2) (c8 p 936 (.invokevirtual 50) 3 (.istore 37) 2 (.iload 37) 2 (.ifCond .lt 12) 3 (.iload 37) 2 (.iconst 4) 1 (.if_icmp .ge 6) 3 (.iinc 35 1) 3)))) (cb p 989 (cb p 970 (c8 p 955 (.iinc 36 1) 3 (.goto (-40)) 3 (.iload 30) 2 (.iload 35) 2 (.iconst 1) 1 .isub 1 .iadd 1 (.istore 30) 2) (c8 p 970 (.iload 30) 2 (.ifCond .ne 9) 3 (.iconst 1) 1 (.istore 32) 2 (.goto 9) 3 (.iinc 31 1) 3 (.goto (-95)) 3 (.iload 32) 2)) (cb p 1003 (c8 p 989 (.ifCond .ne 5) 3 (.iconst 0) 1 .ireturn 1 (.iload 31) 2 (.iconst 1) 1 .iadd 1 (.istore 27) 2 (.iinc 28 1) 3) (cb p 1023 (c8 p 1003 (.goto (-239)) 3 (.iload 23) 2 (.ifCond .ge 13) 3 (.iload 27) 2 (.iload 22) 2 (.if_icmp .eq 19) 3 (.goto 14) 3 (.iload 26) 2) (c8 p 1023 (.aload_n 1) 1 (.iload 23) 2 (.invokevirtual 92) 3 (.if_icmp .eq 5) 3 (.iconst 0) 1 .ireturn 1 (.iinc 23 1) 3 (.goto (-353)) 3))))) (cb p 1123 (cb p 1071 (cb p 1057 (c8 p 1040 (.iconst 0) 1 (.istore 23) 2 (.iload 23) 2 (.iload 18) 2 (.if_icmp .gt 147) 3 (.iload 23) 2 (.iload 18) 2 (.if_icmp .ge 8) 3) (c8 p 1057 (.iload 23) 2 (.goto 10) 3 (.iload 21) 2 (.iconst 1) 1 .iadd 1 (.iload 17) 2 .irem 1 (.istore 24) 2)) (cb p 1089 (c8 p 1071 (.iload 24) 2 (.iload 21) 2 (.if_icmp .ne 6) 3 (.goto 110) 3 (.aload_n 2) 1 (.iload 24) 2 (.invokevirtual 80) 3 (.istore 25) 2) (cb p 1106 (c8 p 1089 (.iload 25) 2 (.iconst 1) 1 (.if_icmp .lt 96) 3 (.iload 25) 2 (.iload 22) 2 (.if_icmp .eq 6) 3 (.goto 86) 3 (.iconst 0) 1) (c8 p 1106 (.istore 26) 2 (.iconst 0) 1 (.istore 27) 2 (.iload 27) 2 (.iload 22) 2 (.if_icmp .ge 66) 3 (.iload 26) 2 (.ifCond .ne 61) 3)))) (cb p 1156 (cb p 1139 (c8 p 1123 (.aload_n 1) 1 (.iload 27) 2 (.invokevirtual 86) 3 (.aload_n 2) 1 (.iload 27) 2 (.invokevirtual 86) 3 (.if_icmp .ne 33) 3 (.aload_n 1) 1) (c8 p 1139 (.iload 27) 2 (.invokevirtual 89) 3 (.aload_n 2) 1 (.iload 27) 2 (.invokevirtual 89) 3 (.if_icmp .ne 18) 3 (.aload_n 1) 1 (.iload 27) 2)) (cb p 1173 (c8 p 1156 (.invokevirtual 92) 3 (.aload_n 2) 1 (.iload 27) 2 (.invokevirtual 92) 3 (.if_icmp .eq 7) 3 (.iconst 1) 1 (.goto 4) 3 (.iconst 0) 1) (cb p 1191 (c8 p 1173 (.istore 26) 2 (.iinc 27 1) 3 (.goto (-67)) 3 (.iload 26) 2 (.ifCond .ne 5) 3 (.iconst 0) 1 .ireturn 1 (.iinc 23 1) 3) (c7 p 1191 (.goto (-148)) 3 (.iinc 20 1) 3 (.goto (-616)) 3 (.iinc 13 1) 3 (.goto (-876)) 3 (.iconst 1) 1 .ireturn 1)))))))) none
def lcd_1:Nat→Option (Instr×Nat):=fun p=>cond (Nat.blt p 14) (cb p 12 (c8 p 0 (.iload_n 1) 1 (.aload_n 0) 1 .arraylength 1 (.if_icmp .ge 9) 3 (.aload_n 0) 1 (.iload_n 1) 1 .iaload 1 (.goto 4) 3) (c2 p 12 (.iconst 0) 1 .ireturn 1)) none
def lcd_2:Nat→Option (Instr×Nat):=fun p=>cond (Nat.blt p 164) (cb p 81 (cb p 44 (cb p 15 (c8 p 0 (.ldc 9) 2 (.istore 7) 2 (.iconst 0) 1 (.istore 8) 2 (.iload 8) 2 (.bipush 40) 2 (.if_icmp .ge 150) 3 (.iconst 0) 1) (cb p 29 (c8 p 15 (.istore 9) 2 (.iconst 0) 1 (.istore 10) 2 (.iload 10) 2 (.iload 6) 2 (.if_icmp .ge 123) 3 (.lload_n 0) 1 (.lload_n 2) 1) (c8 p 29 (.lload 4) 2 (.iload 10) 2 (.invokestatic 10) 3 (.istore 11) 2 (.iload 11) 2 (.iconst 3) 1 .iand 1 (.istore 12) 2))) (cb p 55 (c8 p 44 (.iload 11) 2 (.iconst 2) 1 .ishr 1 (.iconst 3) 1 .iand 1 (.istore 13) 2 (.iconst 0) 1 (.istore 14) 2) (cb p 71 (c8 p 55 (.iconst 0) 1 (.istore 15) 2 (.iload 15) 2 (.iload 13) 2 (.if_icmp .ge 31) 3 (.iload 14) 2 (.iload 7) 2 (.iload 11) 2) (c8 p 71 (.iconst 4) 1 (.iconst 3) 1 (.iload 15) 2 .imul 1 .iadd 1 .ishr 1 (.bipush 7) 2 .iand 1)))) (cb p 128 (cb p 100 (c8 p 81 (.invokestatic 16) 3 .iadd 1 (.istore 14) 2 (.iinc 15 1) 3 (.goto (-32)) 3 (.iload 14) 2 (.bipush 9) 2 (.if_icmp .le 7) 3) (cb p 118 (c8 p 100 (.bipush 9) 2 (.istore 14) 2 (.iload 14) 2 (.iload 7) 2 (.iload 12) 2 (.invokestatic 16) 3 (.if_icmp .ge 28) 3 (.iload 7) 2) (c8 p 118 (.bipush 15) 2 (.iconst 4) 1 (.iload 12) 2 .imul 1 .ishl 1 (.iconst (-1)) 1 .ixor 1 .iand 1))) (cb p 139 (c8 p 128 (.iload 14) 2 (.iconst 4) 1 (.iload 12) 2 .imul 1 .ishl 1 .ior 1 (.istore 7) 2 (.iconst 1) 1) (cb p 161 (c8 p 139 (.istore 9) 2 (.iinc 10 1) 3 (.goto (-124)) 3 (.iload 9) 2 (.ifCond .ne 6) 3 (.goto 9) 3 (.iinc 8 1) 3 (.goto (-151)) 3) (c2 p 161 (.iload 7) 2 .ireturn 1))))) none
def lcd_3:Nat→Option (Instr×Nat):=fun p=>cond (Nat.blt p 41) (cb p 17 (c8 p 0 (.iload 6) 2 (.iconst 4) 1 (.if_icmp .ge 7) 3 (.lload_n 0) 1 (.goto 16) 3 (.iload 6) 2 (.bipush 8) 2 (.if_icmp .ge 7) 3) (cb p 31 (c8 p 17 (.lload_n 2) 1 (.goto 5) 3 (.lload 4) 2 (.lstore 7) 2 (.lload 7) 2 (.iload 6) 2 (.iconst 3) 1 .iand 1) (c7 p 31 (.bipush 16) 2 .imul 1 .lushr 1 (.ldc2_w 7) 3 .land 1 .l2i 1 .ireturn 1))) none
def lcd_4:Nat→Option (Instr×Nat):=fun p=>cond (Nat.blt p 18) (cb p 12 (c8 p 0 (.iload_n 1) 1 (.iconst 4) 1 (.if_icmp .lt 7) 3 (.iconst 1) 1 (.goto 11) 3 (.iload_n 0) 1 (.iconst 4) 1 (.iload_n 1) 1) (c5 p 12 .imul 1 .ishr 1 (.bipush 15) 2 .iand 1 .ireturn 1)) none
def lcd_5:Nat→Option (Instr×Nat):=fun p=>cond (Nat.blt p 195) (cb p 109 (cb p 44 (cb p 12 (c8 p 0 (.lconst 0) 1 (.lstore 10) 2 (.iconst 0) 1 (.istore 12) 2 (.lconst 0) 1 (.lstore 13) 2 (.iconst 0) 1 (.istore 15) 2) (cb p 28 (c8 p 12 (.iload 15) 2 (.sipush 20000) 3 (.if_icmp .ge 174) 3 (.lload_n 0) 1 (.lload_n 2) 1 (.lload 4) 2 (.iload 6) 2 (.iload 7) 2) (c8 p 28 (.iload 8) 2 (.iload 9) 2 (.lload 10) 2 (.iload 12) 2 (.invokestatic 24) 3 (.istore 16) 2 (.iload 16) 2 (.iconst 3) 1))) (cb p 80 (cb p 61 (c8 p 44 (.if_icmp .ne 7) 3 (.ldc2_w 28) 3 .lreturn 1 (.iload 16) 2 (.iconst 2) 1 (.if_icmp .ne 20) 3 (.iload 12) 2 (.bipush 16) 2) (c8 p 61 (.if_icmp .ne 7) 3 (.ldc2_w 28) 3 .lreturn 1 (.iinc 12 1) 3 (.goto 114) 3 (.iload 16) 2 (.iconst 1) 1 (.if_icmp .ne 9) 3)) (cb p 92 (c8 p 80 (.lload 13) 2 (.lconst 1) 1 .ladd 1 (.lstore 13) 2 (.iconst 0) 1 (.istore 17) 2 (.iconst 0) 1 (.istore 18) 2) (c8 p 92 (.iload 18) 2 (.bipush 17) 2 (.if_icmp .ge 81) 3 (.iload 12) 2 (.ifCond .le 76) 3 (.lload 10) 2 (.iconst 4) 1 (.iload 12) 2)))) (cb p 143 (cb p 121 (c8 p 109 (.iconst 1) 1 .isub 1 .imul 1 .lushr 1 (.ldc2_w 22) 3 .land 1 (.lstore 19) 2 (.lload 19) 2) (cb p 133 (c8 p 121 (.lconst 1) 1 .ladd 1 (.iload 6) 2 .i2l 1 .lcmp 1 (.ifCond .ge 22) 3 (.lload 10) 2 (.lconst 1) 1) (c8 p 133 (.iconst 4) 1 (.iload 12) 2 (.iconst 1) 1 .isub 1 .imul 1 .lshl 1 .ladd 1 (.lstore 10) 2))) (cb p 171 (cb p 158 (c8 p 143 (.iconst 1) 1 (.istore 17) 2 (.goto 31) 3 (.lload 10) 2 (.ldc2_w 22) 3 (.iconst 4) 1 (.iload 12) 2 (.iconst 1) 1) (c8 p 158 .isub 1 .imul 1 .lshl 1 (.ldc2_w 28) 3 .lxor 1 .land 1 (.lstore 10) 2 (.iinc 12 (-1)) 3)) (cb p 191 (c8 p 171 (.iinc 18 1) 3 (.goto (-82)) 3 (.iload 17) 2 (.ifCond .ne 6) 3 (.lload 13) 2 .lreturn 1 (.iinc 15 1) 3 (.goto (-176)) 3) (c2 p 191 (.ldc2_w 28) 3 .lreturn 1))))) none
def lcd_6:Nat→Option (Instr×Nat):=fun p=>cond (Nat.blt p 280) (cb p 146 (cb p 75 (cb p 30 (cb p 12 (c8 p 0 (.lconst 0) 1 (.lstore 13) 2 (.iconst 1) 1 (.istore 15) 2 (.iconst 0) 1 (.istore 16) 2 (.iconst 0) 1 (.istore 17) 2) (c8 p 12 (.iconst 0) 1 (.istore 18) 2 (.iload 18) 2 (.sipush 200) 3 (.if_icmp .ge 258) 3 (.iload 15) 2 (.ifCond .ne 16) 3 (.iload 16) 2)) (cb p 44 (c8 p 30 (.iload 8) 2 (.if_icmp .ne 7) 3 (.iconst 1) 1 (.goto 4) 3 (.iconst 0) 1 .ireturn 1 (.iconst 0) 1 (.istore 19) 2) (cb p 60 (c8 p 44 (.lload 13) 2 (.lstore 20) 2 (.iconst 0) 1 (.istore 22) 2 (.iload 22) 2 (.iload 15) 2 (.if_icmp .ge 32) 3 (.iload 19) 2) (c8 p 60 (.iload 9) 2 (.lload 20) 2 (.ldc2_w 20) 3 .land 1 .l2i 1 (.invokestatic 16) 3 .iadd 1 (.istore 19) 2)))) (cb p 105 (cb p 91 (c8 p 75 (.lload 20) 2 (.iconst 3) 1 .lushr 1 (.lstore 20) 2 (.iinc 22 1) 3 (.goto (-33)) 3 (.iload 19) 2 (.iload 8) 2) (c8 p 91 (.iload 16) 2 .isub 1 (.if_icmp .le 5) 3 (.iconst 0) 1 .ireturn 1 (.lload 13) 2 (.ldc2_w 20) 3 .land 1)) (cb p 119 (c8 p 105 .l2i 1 (.istore 22) 2 (.lload 13) 2 (.iconst 3) 1 .lushr 1 (.lstore 13) 2 (.iinc 15 (-1)) 3 (.iload 22) 2) (cb p 135 (c8 p 119 (.iconst 4) 1 (.if_icmp .lt 34) 3 (.iload 16) 2 (.iload 8) 2 (.if_icmp .ge 25) 3 (.iload 7) 2 (.iconst 2) 1 (.iload 16) 2) (c8 p 135 .imul 1 .ishr 1 (.iconst 3) 1 .iand 1 (.iload 22) 2 (.iconst 4) 1 .isub 1 (.if_icmp .ne 9) 3))))) (cb p 215 (cb p 174 (cb p 162 (c8 p 146 (.iinc 16 1) 3 (.goto 123) 3 (.iconst 0) 1 .ireturn 1 (.iload 17) 2 (.iload 12) 2 (.if_icmp .ne 5) 3 (.iconst 2) 1) (c8 p 162 .ireturn 1 (.lload 10) 2 (.iconst 4) 1 (.iload 17) 2 .imul 1 .lushr 1 (.ldc2_w 22) 3 .land 1)) (cb p 189 (c8 p 174 .l2i 1 (.istore 23) 2 (.iinc 17 1) 3 (.iload 23) 2 (.iload 6) 2 (.if_icmp .lt 5) 3 (.iconst 0) 1 .ireturn 1) (cb p 203 (c8 p 189 (.lload_n 0) 1 (.lload_n 2) 1 (.lload 4) 2 (.iload 23) 2 (.invokestatic 10) 3 (.istore 24) 2 (.iload 24) 2 (.iconst 3) 1) (c8 p 203 .iand 1 (.iload 22) 2 (.if_icmp .eq 5) 3 (.iconst 0) 1 .ireturn 1 (.iload 24) 2 (.iconst 2) 1 .ishr 1)))) (cb p 240 (cb p 227 (c8 p 215 (.iconst 3) 1 .iand 1 (.istore 25) 2 (.iload 25) 2 (.iconst 1) 1 .isub 1 (.istore 26) 2 (.iload 26) 2) (c8 p 227 (.ifCond .lt 29) 3 (.lload 13) 2 (.iconst 3) 1 .lshl 1 (.iload 24) 2 (.iconst 4) 1 (.iconst 3) 1 (.iload 26) 2)) (cb p 250 (c8 p 240 .imul 1 .iadd 1 .ishr 1 (.bipush 7) 2 .iand 1 .i2l 1 .lor 1 (.lstore 13) 2) (cb p 267 (c8 p 250 (.iinc 26 (-1)) 3 (.goto (-28)) 3 (.iload 15) 2 (.iload 25) 2 .iadd 1 (.istore 15) 2 (.iload 15) 2 (.bipush 20) 2) (c7 p 267 (.if_icmp .le 5) 3 (.iconst 3) 1 .ireturn 1 (.iinc 18 1) 3 (.goto (-260)) 3 (.iconst 3) 1 .ireturn 1)))))) none
def LLcode:CodeT:=fun q pc=>cond (Nat.blt q 7) (cond (Nat.blt q 3) (cond (Nat.blt q 1) (cond (Nat.beq q 0) (lcd_0 pc) none) (cond (Nat.blt q 2) (cond (Nat.beq q 1) (lcd_1 pc) none) (cond (Nat.beq q 2) (lcd_2 pc) none))) (cond (Nat.blt q 5) (cond (Nat.blt q 4) (cond (Nat.beq q 3) (lcd_3 pc) none) (cond (Nat.beq q 4) (lcd_4 pc) none)) (cond (Nat.blt q 6) (cond (Nat.beq q 5) (lcd_5 pc) none) (cond (Nat.beq q 6) (lcd_6 pc) none)))) none
def LLcst:Nat→Option OV:=fun x=>cond (Nat.blt x 80) (cond (Nat.blt x 28) (cond (Nat.blt x 20) (cond (Nat.blt x 9) (cond (Nat.beq x 7) (some (vl 65535)) none) (cond (Nat.beq x 9) (some (vi 39321)) none)) (cond (Nat.blt x 22) (cond (Nat.beq x 20) (some (vl 7)) none) (cond (Nat.beq x 22) (some (vl 15)) none))) (cond (Nat.blt x 78) (cond (Nat.blt x 76) (cond (Nat.beq x 28) (some (vl (-1))) none) (cond (Nat.beq x 76) (some (vl 1000000)) none)) (cond (Nat.blt x 79) (cond (Nat.beq x 78) (some (vi 1000000)) none) (cond (Nat.beq x 79) (some (vi 2147483647)) none)))) none
def LLvm:Nat→Option Nat:=fun x=>cond (Nat.blt x 93) (cond (Nat.blt x 62) (cond (Nat.blt x 47) (cond (Nat.blt x 41) (cond (Nat.beq x 37) (some 1) none) (cond (Nat.blt x 44) (cond (Nat.beq x 41) (some 3) none) (cond (Nat.beq x 44) (some 4) none))) (cond (Nat.blt x 56) (cond (Nat.blt x 50) (cond (Nat.beq x 47) (some 6) none) (cond (Nat.beq x 50) (some 7) none)) (cond (Nat.blt x 59) (cond (Nat.beq x 56) (some 8) none) (cond (Nat.beq x 59) (some 9) none)))) (cond (Nat.blt x 83) (cond (Nat.blt x 69) (cond (Nat.blt x 65) (cond (Nat.beq x 62) (some 10) none) (cond (Nat.beq x 65) (some 11) none)) (cond (Nat.blt x 80) (cond (Nat.beq x 69) (some 30) none) (cond (Nat.beq x 80) (some 31) none))) (cond (Nat.blt x 89) (cond (Nat.blt x 86) (cond (Nat.beq x 83) (some 37) none) (cond (Nat.beq x 86) (some 38) none)) (cond (Nat.blt x 92) (cond (Nat.beq x 89) (some 40) none) (cond (Nat.beq x 92) (some 41) none))))) none
def LLmk:Nat→Bool:=fun x=>Nat.beq x 32
def LLsm:Nat→Option Nat:=fun x=>cond (Nat.blt x 73) (cond (Nat.blt x 33) (cond (Nat.blt x 16) (cond (Nat.beq x 10) (some 3) none) (cond (Nat.blt x 24) (cond (Nat.beq x 16) (some 4) none) (cond (Nat.beq x 24) (some 6) none))) (cond (Nat.blt x 53) (cond (Nat.beq x 33) (some 1) none) (cond (Nat.blt x 72) (cond (Nat.beq x 53) (some 2) none) (cond (Nat.beq x 72) (some 5) none)))) none
def LLcl:Nat→Bool:=fun x=>Nat.beq x 30
def LLinf:Nat→Option (List Nat×Nat×Nat×Nat×Nat):=fun x=>cond (Nat.blt x 7) (cond (Nat.blt x 3) (cond (Nat.blt x 1) (cond (Nat.beq x 0) (some ([2],38,2,7,122)) none) (cond (Nat.blt x 2) (cond (Nat.beq x 1) (some ([0,2],2,1,0,0)) none) (cond (Nat.beq x 2) (some ([0,1,1,1],16,1,1,20)) none))) (cond (Nat.blt x 5) (cond (Nat.blt x 4) (cond (Nat.beq x 3) (some ([0,1,1,1],9,1,0,0)) none) (cond (Nat.beq x 4) (some ([0,0],2,1,0,0)) none)) (cond (Nat.blt x 6) (cond (Nat.beq x 5) (some ([0,0,0,0,1,1,1],21,4,2,58)) none) (cond (Nat.beq x 6) (some ([0,1,0,0,0,0,1,1,1],27,1,1,20)) none)))) none
def LLliv:LivT:=fun q pc=>yb q 3 (yb q 1 (cond (Nat.beq q 0) (yb pc 730 (yb pc 516 (yb pc 275 (yb pc 148 (yb pc 94 (yb pc 46 (yb pc 39 (ye pc 0 [oT,oF,oF,oF,oF,oF,oF,oF,oF,oF,oF,oF,oF,oF,oF,oF,oF,oF,oF,oF,oF,oF,oF,oF,oF,oF,oF,oF,oF,oF,oF,oF,oF,oF,oF,oF,oF,oF]) (ye pc 39 [oT,oT,oT,oT,oT,oT,oF,oF,oF,oF,oF,oF,oF,oF,oF,oF,oF,oF,oF,oF,oF,oF,oF,oF,oF,oF,oF,oF,oF,oF,oF,oF,oF,oF,oF,oF,oF,oF])) (yb pc 87 (ye pc 46 [oT,oT,oT,oT,oT,oT,oF,oF,oF,oF,oF,oF,oF,oF,oF,oF,oF,oF,oF,oF,oF,oF,oF,oF,oF,oF,oF,oF,oF,oF,oF,oF,oF,oF,oF,oF,oF,oF]) (ye pc 87 [oT,oT,oT,oT,oT,oT,oF,oT,oT,oF,oF,oF,oF,oF,oF,oF,oF,oF,oF,oF,oF,oF,oF,oF,oF,oF,oF,oF,oF,oF,oF,oF,oF,oF,oF,oF,oF,oF]))) (yb pc 122 (yb pc 114 (ye pc 94 [oT,oT,oT,oT,oT,oT,oF,oT,oT,oF,oF,oF,oF,oF,oF,oF,oF,oF,oF,oF,oF,oF,oF,oF,oF,oF,oF,oF,oF,oF,oF,oF,oF,oF,oF,oF,oF,oF]) (ye pc 114 [oT,oT,oT,oT,oT,oT,oF,oT,oT,oT,oF,oF,oF,oF,oF,oF,oF,oF,oF,oF,oF,oF,oF,oF,oF,oF,oF,oF,oF,oF,oF,oF,oF,oF,oF,oF,oF,oF])) (yb pc 142 (ye pc 122 [oT,oT,oT,oT,oT,oT,oF,oT,oT,oT,oF,oF,oF,oF,oF,oF,oF,oF,oF,oF,oF,oF,oF,oF,oF,oF,oF,oF,oF,oF,oF,oF,oF,oF,oF,oF,oF,oF]) (ye pc 142 [oT,oT,oT,oT,oT,oT,oF,oF,oF,oF,oF,oF,oF,oF,oF,oF,oF,oF,oF,oF,oF,oF,oF,oF,oF,oF,oF,oF,oF,oF,oF,oF,oF,oF,oF,oF,oF,oF])))) (yb pc 186 (yb pc 170 (yb pc 163 (ye pc 148 [oT,oT,oT,oT,oF,oF,oF,oF,oF,oF,oF,oF,oF,oF,oF,oF,oF,oF,oF,oF,oF,oF,oF,oF,oF,oF,oF,oF,oF,oF,oF,oF,oF,oF,oF,oF,oF,oF]) (ye pc 163 [oT,oT,oT,oT,oF,oT,oF,oT,oF,oT,oF,oT,oT,oF,oF,oF,oF,oF,oF,oF,oF,oF,oF,oF,oF,oF,oF,oF,oF,oF,oF,oF,oF,oF,oF,oF,oF,oF])) (yb pc 183 (ye pc 170 [oT,oT,oT,oT,oF,oT,oF,oT,oF,oT,oF,oT,oT,oF,oF,oF,oF,oF,oF,oF,oF,oF,oF,oF,oF,oF,oF,oF,oF,oF,oF,oF,oF,oF,oF,oF,oF,oF]) (ye pc 183 [oT,oT,oT,oT,oF,oT,oF,oT,oF,oT,oF,oT,oF,oF,oF,oF,oF,oF,oF,oF,oF,oF,oF,oF,oF,oF,oF,oF,oF,oF,oF,oF,oF,oF,oF,oF,oF,oF]))) (yb pc 217 (yb pc 210 (ye pc 186 [oT,oT,oT,oT,oF,oT,oF,oT,oF,oT,oF,oF,oT,oT,oF,oF,oF,oF,oF,oF,oF,oF,oF,oF,oF,oF,oF,oF,oF,oF,oF,oF,oF,oF,oF,oF,oF,oF]) (ye pc 210 [oT,oT,oT,oT,oF,oT,oF,oT,oF,oT,oF,oF,oT,oF,oT,oT,oT,oF,oF,oF,oF,oF,oF,oF,oF,oF,oF,oF,oF,oF,oF,oF,oF,oF,oF,oF,oF,oF])) (yb pc 246 (ye pc 217 [oT,oT,oT,oT,oF,oT,oF,oT,oF,oT,oF,oF,oT,oF,oT,oT,oT,oF,oF,oF,oF,oF,oF,oF,oF,oF,oF,oF,oF,oF,oF,oF,oF,oF,oF,oF,oF,oF]) (yb pc 265 (ye pc 246 [oT,oT,oT,oT,oF,oT,oF,oT,oF,oT,oF,oF,oT,oF,oF,oT,oF,oF,oF,oF,oF,oF,oF,oF,oF,oF,oF,oF,oF,oF,oF,oF,oF,oF,oF,oF,oF,oF]) (ye pc 265 [oT,oT,oT,oT,oF,oT,oF,oT,oF,oT,oF,oF,oT,oF,oF,oF,oT,oF,oF,oF,oF,oF,oF,oF,oF,oF,oF,oF,oF,oF,oF,oF,oF,oF,oF,oF,oF,oF])))))) (yb pc 367 (yb pc 311 (yb pc 292 (yb pc 282 (ye pc 275 [oT,oT,oT,oT,oF,oT,oF,oT,oF,oT,oF,oF,oT,oF,oF,oF,oT,oF,oF,oF,oF,oF,oF,oF,oF,oF,oF,oF,oF,oF,oF,oF,oF,oF,oF,oF,oF,oF]) (ye pc 282 [oT,oT,oT,oT,oF,oT,oF,oT,oF,oT,oF,oF,oT,oF,oF,oF,oT,oF,oF,oF,oF,oF,oF,oF,oF,oF,oF,oF,oF,oF,oF,oF,oF,oF,oF,oF,oF,oF])) (yb pc 299 (ye pc 292 [oT,oT,oT,oT,oF,oT,oF,oT,oF,oT,oF,oF,oT,oF,oF,oF,oT,oF,oF,oF,oF,oF,oF,oF,oF,oF,oF,oF,oF,oF,oF,oF,oF,oF,oF,oF,oF,oF]) (ye pc 299 [oT,oT,oT,oT,oF,oT,oF,oT,oF,oT,oF,oF,oT,oF,oF,oF,oF,oF,oF,oF,oF,oF,oF,oF,oF,oF,oF,oF,oF,oF,oF,oF,oF,oF,oF,oF,oF,oF]))) (yb pc 333 (yb pc 327 (ye pc 311 [oT,oT,oT,oT,oF,oT,oF,oT,oF,oT,oF,oT,oF,oF,oF,oF,oF,oF,oF,oF,oF,oF,oF,oF,oF,oF,oF,oF,oF,oF,oF,oF,oF,oF,oF,oF,oF,oF]) (ye pc 327 [oT,oT,oT,oT,oF,oT,oF,oT,oF,oT,oF,oT,oT,oT,oF,oF,oF,oF,oF,oF,oF,oF,oF,oF,oF,oF,oF,oF,oF,oF,oF,oF,oF,oF,oF,oF,oF,oF])) (yb pc 360 (ye pc 333 [oT,oT,oT,oT,oF,oT,oF,oT,oF,oT,oF,oT,oT,oT,oF,oF,oF,oF,oF,oF,oF,oF,oF,oF,oF,oF,oF,oF,oF,oF,oF,oF,oF,oF,oF,oF,oF,oF]) (ye pc 360 [oT,oT,oT,oT,oF,oT,oF,oT,oF,oT,oF,oT,oT,oT,oT,oT,oF,oF,oF,oF,oF,oF,oF,oF,oF,oF,oF,oF,oF,oF,oF,oF,oF,oF,oF,oF,oF,oF])))) (yb pc 428 (yb pc 408 (yb pc 399 (ye pc 367 [oT,oT,oT,oT,oF,oT,oF,oT,oF,oT,oF,oT,oT,oT,oT,oT,oF,oF,oF,oF,oF,oF,oF,oF,oF,oF,oF,oF,oF,oF,oF,oF,oF,oF,oF,oF,oF,oF]) (ye pc 399 [oT,oT,oT,oT,oF,oT,oF,oT,oF,oT,oF,oT,oT,oT,oF,oF,oF,oF,oF,oF,oF,oF,oF,oF,oF,oF,oF,oF,oF,oF,oF,oF,oF,oF,oF,oF,oF,oF])) (yb pc 415 (ye pc 408 [oT,oT,oT,oT,oF,oT,oF,oT,oF,oT,oF,oT,oT,oT,oF,oT,oT,oT,oF,oF,oF,oF,oF,oF,oF,oF,oF,oF,oF,oF,oF,oF,oF,oF,oF,oF,oF,oF]) (ye pc 415 [oT,oT,oT,oT,oF,oT,oF,oT,oF,oT,oF,oT,oT,oT,oF,oT,oT,oT,oF,oF,oF,oF,oF,oF,oF,oF,oF,oF,oF,oF,oF,oF,oF,oF,oF,oF,oF,oF]))) (yb pc 457 (yb pc 431 (ye pc 428 [oT,oT,oT,oT,oF,oT,oF,oT,oF,oT,oF,oT,oT,oT,oF,oT,oT,oF,oF,oF,oF,oF,oF,oF,oF,oF,oF,oF,oF,oF,oF,oF,oF,oF,oF,oF,oF,oF]) (ye pc 431 [oT,oT,oT,oT,oF,oT,oF,oT,oF,oT,oF,oT,oT,oT,oF,oT,oF,oT,oT,oF,oF,oF,oF,oF,oF,oF,oF,oF,oF,oF,oF,oF,oF,oF,oF,oF,oF,oF])) (yb pc 478 (ye pc 457 [oT,oT,oT,oT,oF,oT,oF,oT,oF,oT,oF,oT,oT,oT,oF,oT,oT,oF,oF,oF,oF,oF,oF,oF,oF,oF,oF,oF,oF,oF,oF,oF,oF,oF,oF,oF,oF,oF]) (yb pc 504 (ye pc 478 [oT,oT,oT,oT,oF,oT,oF,oT,oF,oT,oF,oT,oT,oT,oF,oT,oT,oT,oF,oF,oF,oF,oF,oF,oF,oF,oF,oF,oF,oF,oF,oF,oF,oF,oF,oF,oF,oF]) (ye pc 504 [oT,oT,oT,oT,oF,oT,oF,oT,oF,oT,oF,oT,oT,oT,oF,oF,oT,oT,oT,oF,oF,oF,oF,oF,oF,oF,oF,oF,oF,oF,oF,oF,oF,oF,oF,oF,oF,oF]))))))) (yb pc 617 (yb pc 553 (yb pc 530 (yb pc 524 (yb pc 521 (ye pc 516 [oT,oT,oT,oT,oF,oT,oF,oT,oF,oT,oF,oT,oT,oT,oF,oF,oT,oT,oT,oF,oF,oF,oF,oF,oF,oF,oF,oF,oF,oF,oF,oF,oF,oF,oF,oF,oF,oF]) (ye pc 521 [oT,oT,oT,oT,oF,oT,oF,oT,oF,oT,oF,oT,oT,oT,oF,oF,oT,oT,oF,oF,oF,oF,oF,oF,oF,oF,oF,oF,oF,oF,oF,oF,oF,oF,oF,oF,oF,oF])) (yb pc 528 (ye pc 524 [oT,oT,oT,oT,oF,oT,oF,oT,oF,oT,oF,oT,oT,oT,oF,oF,oT,oT,oF,oF,oF,oF,oF,oF,oF,oF,oF,oF,oF,oF,oF,oF,oF,oF,oF,oF,oF,oF]) (ye pc 528 [oF,oF,oF,oF,oF,oF,oF,oF,oF,oF,oF,oF,oF,oF,oF,oF,oF,oF,oF,oF,oF,oF,oF,oF,oF,oF,oF,oF,oF,oF,oF,oF,oF,oF,oF,oF,oF,oF]))) (yb pc 543 (yb pc 536 (ye pc 530 [oT,oT,oT,oT,oF,oT,oF,oT,oF,oT,oF,oT,oT,oT,oF,oF,oT,oT,oF,oF,oF,oF,oF,oF,oF,oF,oF,oF,oF,oF,oF,oF,oF,oF,oF,oF,oF,oF]) (ye pc 536 [oT,oT,oT,oT,oF,oT,oF,oT,oF,oT,oF,oT,oT,oT,oF,oF,oT,oT,oF,oF,oF,oF,oF,oF,oF,oF,oF,oF,oF,oF,oF,oF,oF,oF,oF,oF,oF,oF])) (yb pc 546 (ye pc 543 [oT,oT,oT,oT,oF,oT,oF,oT,oF,oT,oF,oT,oT,oT,oF,oF,oF,oF,oF,oF,oF,oF,oF,oF,oF,oF,oF,oF,oF,oF,oF,oF,oF,oF,oF,oF,oF,oF]) (ye pc 546 [oT,oT,oT,oT,oF,oT,oF,oT,oF,oT,oF,oT,oT,oT,oF,oF,oT,oT,oF,oF,oF,oF,oF,oF,oF,oF,oF,oF,oF,oF,oF,oF,oF,oF,oF,oF,oF,oF])))) (yb pc 588 (yb pc 560 (yb pc 558 (ye pc 553 [oT,oT,oT,oT,oF,oT,oF,oT,oF,oT,oF,oT,oT,oT,oF,oF,oT,oT,oF,oF,oF,oF,oF,oF,oF,oF,oF,oF,oF,oF,oF,oF,oF,oF,oF,oF,oF,oF]) (ye pc 558 [oT,oT,oT,oT,oF,oT,oF,oT,oF,oT,oF,oT,oT,oT,oF,oF,oT,oT,oF,oF,oF,oF,oF,oF,oF,oF,oF,oF,oF,oF,oF,oF,oF,oF,oF,oF,oF,oF])) (yb pc 581 (ye pc 560 [oT,oT,oT,oT,oF,oT,oF,oT,oF,oT,oF,oT,oT,oT,oF,oF,oT,oT,oF,oF,oF,oF,oF,oF,oF,oF,oF,oF,oF,oF,oF,oF,oF,oF,oF,oF,oF,oF]) (ye pc 581 [oT,oT,oT,oT,oF,oT,oF,oT,oF,oT,oF,oT,oT,oT,oF,oF,oT,oT,oT,oT,oT,oF,oF,oF,oF,oF,oF,oF,oF,oF,oF,oF,oF,oF,oF,oF,oF,oF]))) (yb pc 602 (yb pc 595 (ye pc 588 [oT,oT,oT,oT,oF,oT,oF,oT,oF,oT,oF,oT,oT,oT,oF,oF,oT,oT,oT,oT,oT,oF,oF,oF,oF,oF,oF,oF,oF,oF,oF,oF,oF,oF,oF,oF,oF,oF]) (ye pc 595 [oT,oT,oT,oT,oF,oT,oF,oT,oF,oT,oF,oT,oT,oT,oF,oF,oT,oT,oT,oT,oT,oF,oF,oF,oF,oF,oF,oF,oF,oF,oF,oF,oF,oF,oF,oF,oF,oF])) (yb pc 605 (ye pc 602 [oT,oT,oT,oT,oF,oT,oF,oT,oF,oT,oF,oT,oT,oT,oF,oF,oF,oF,oF,oF,oF,oF,oF,oF,oF,oF,oF,oF,oF,oF,oF,oF,oF,oF,oF,oF,oF,oF]) (yb pc 612 (ye pc 605 [oT,oT,oT,oT,oF,oT,oF,oT,oF,oT,oF,oT,oT,oT,oF,oF,oT,oT,oT,oT,oT,oF,oF,oF,oF,oF,oF,oF,oF,oF,oF,oF,oF,oF,oF,oF,oF,oF]) (ye pc 612 [oT,oT,oT,oT,oF,oT,oF,oT,oF,oT,oF,oT,oT,oT,oF,oF,oT,oT,oT,oT,oT,oF,oF,oF,oF,oF,oF,oF,oF,oF,oF,oF,oF,oF,oF,oF,oF,oF])))))) (yb pc 681 (yb pc 647 (yb pc 635 (yb pc 619 (ye pc 617 [oT,oT,oT,oT,oF,oT,oF,oT,oF,oT,oF,oT,oT,oT,oF,oF,oT,oT,oT,oT,oT,oF,oF,oF,oF,oF,oF,oF,oF,oF,oF,oF,oF,oF,oF,oF,oF,oF]) (ye pc 619 [oT,oT,oT,oT,oF,oT,oF,oT,oF,oT,oF,oT,oT,oT,oF,oF,oT,oT,oT,oT,oT,oF,oF,oF,oF,oF,oF,oF,oF,oF,oF,oF,oF,oF,oF,oF,oF,oF])) (yb pc 638 (ye pc 635 [oT,oT,oT,oT,oF,oT,oF,oT,oF,oT,oF,oT,oT,oT,oF,oF,oT,oT,oT,oT,oT,oF,oF,oF,oF,oF,oF,oF,oF,oF,oF,oF,oF,oF,oF,oF,oF,oF]) (ye pc 638 [oT,oT,oT,oT,oF,oT,oF,oT,oF,oT,oF,oT,oT,oT,oF,oF,oT,oT,oT,oT,oT,oT,oT,oF,oF,oF,oF,oF,oF,oF,oF,oF,oF,oF,oF,oF,oF,oF]))) (yb pc 661 (yb pc 649 (ye pc 647 [oF,oF,oF,oF,oF,oF,oF,oF,oF,oF,oF,oF,oF,oF,oF,oF,oF,oF,oF,oF,oF,oF,oF,oF,oF,oF,oF,oF,oF,oF,oF,oF,oF,oF,oF,oF,oF,oF]) (ye pc 649 [oT,oT,oT,oT,oF,oT,oF,oT,oF,oT,oF,oT,oT,oT,oF,oF,oT,oT,oT,oT,oT,oT,oT,oF,oF,oF,oF,oF,oF,oF,oF,oF,oF,oF,oF,oF,oF,oF])) (yb pc 669 (ye pc 661 [oT,oT,oT,oT,oF,oT,oF,oT,oF,oT,oF,oT,oT,oT,oF,oF,oT,oT,oT,oT,oT,oT,oT,oF,oF,oF,oF,oF,oF,oF,oF,oF,oF,oF,oF,oF,oF,oF]) (yb pc 679 (ye pc 669 [oT,oT,oT,oT,oF,oT,oF,oT,oF,oT,oF,oT,oT,oT,oF,oF,oT,oT,oT,oT,oT,oT,oT,oF,oF,oF,oF,oF,oF,oF,oF,oF,oF,oF,oF,oF,oF,oF]) (ye pc 679 [oF,oF,oF,oF,oF,oF,oF,oF,oF,oF,oF,oF,oF,oF,oF,oF,oF,oF,oF,oF,oF,oF,oF,oF,oF,oF,oF,oF,oF,oF,oF,oF,oF,oF,oF,oF,oF,oF]))))) (yb pc 700 (yb pc 691 (yb pc 684 (ye pc 681 [oT,oT,oT,oT,oF,oT,oF,oT,oF,oT,oF,oT,oT,oT,oF,oF,oT,oT,oT,oT,oT,oT,oT,oF,oF,oF,oF,oF,oF,oF,oF,oF,oF,oF,oF,oF,oF,oF]) (ye pc 684 [oT,oT,oT,oT,oF,oT,oF,oT,oF,oT,oF,oT,oT,oT,oF,oF,oT,oT,oT,oT,oT,oT,oT,oT,oF,oF,oF,oF,oF,oF,oF,oF,oF,oF,oF,oF,oF,oF])) (yb pc 696 (ye pc 691 [oT,oT,oT,oT,oF,oT,oF,oT,oF,oT,oF,oT,oT,oT,oF,oF,oT,oT,oT,oT,oT,oT,oT,oT,oF,oF,oF,oF,oF,oF,oF,oF,oF,oF,oF,oF,oF,oF]) (ye pc 696 [oT,oT,oT,oT,oF,oT,oF,oT,oF,oT,oF,oT,oT,oT,oF,oF,oT,oT,oT,oT,oT,oT,oT,oT,oF,oF,oF,oF,oF,oF,oF,oF,oF,oF,oF,oF,oF,oF]))) (yb pc 713 (yb pc 706 (ye pc 700 [oT,oT,oT,oT,oF,oT,oF,oT,oF,oT,oF,oT,oT,oT,oF,oF,oT,oT,oT,oT,oT,oT,oT,oT,oF,oF,oF,oF,oF,oF,oF,oF,oF,oF,oF,oF,oF,oF]) (ye pc 706 [oT,oT,oT,oT,oF,oT,oF,oT,oF,oT,oF,oT,oT,oT,oF,oF,oT,oT,oT,oT,oT,oT,oT,oT,oF,oF,oF,oF,oF,oF,oF,oF,oF,oF,oF,oF,oF,oF])) (yb pc 717 (ye pc 713 [oT,oT,oT,oT,oF,oT,oF,oT,oF,oT,oF,oT,oT,oT,oF,oF,oT,oT,oT,oT,oT,oT,oT,oT,oT,oF,oF,oF,oF,oF,oF,oF,oF,oF,oF,oF,oF,oF]) (yb pc 723 (ye pc 717 [oT,oT,oT,oT,oF,oT,oF,oT,oF,oT,oF,oT,oT,oT,oF,oF,oT,oT,oT,oT,oT,oT,oT,oT,oT,oF,oF,oF,oF,oF,oF,oF,oF,oF,oF,oF,oF,oF]) (ye pc 723 [oT,oT,oT,oT,oF,oT,oF,oT,oF,oT,oF,oT,oT,oT,oF,oF,oT,oT,oT,oT,oT,oT,oT,oT,oT,oF,oF,oF,oF,oF,oF,oF,oF,oF,oF,oF,oF,oF])))))))) (yb pc 987 (yb pc 834 (yb pc 776 (yb pc 747 (yb pc 738 (yb pc 736 (ye pc 730 [oT,oT,oT,oT,oF,oT,oF,oT,oF,oT,oF,oT,oT,oT,oF,oF,oT,oT,oT,oT,oT,oT,oT,oT,oT,oT,oF,oF,oF,oF,oF,oF,oF,oF,oF,oF,oF,oF]) (ye pc 736 [oF,oF,oF,oF,oF,oF,oF,oF,oF,oF,oF,oF,oF,oF,oF,oF,oF,oF,oF,oF,oF,oF,oF,oF,oF,oF,oF,oF,oF,oF,oF,oF,oF,oF,oF,oF,oF,oF])) (yb pc 743 (ye pc 738 [oT,oT,oT,oT,oF,oT,oF,oT,oF,oT,oF,oT,oT,oT,oF,oF,oT,oT,oT,oT,oT,oT,oT,oT,oT,oT,oF,oF,oF,oF,oF,oF,oF,oF,oF,oF,oF,oF]) (ye pc 743 [oT,oT,oT,oT,oF,oT,oF,oT,oF,oT,oF,oT,oT,oT,oF,oF,oT,oT,oT,oT,oT,oT,oT,oT,oT,oT,oF,oF,oF,oF,oF,oF,oF,oF,oF,oF,oF,oF]))) (yb pc 764 (yb pc 753 (ye pc 747 [oT,oT,oT,oT,oF,oT,oF,oT,oF,oT,oF,oT,oT,oT,oF,oF,oT,oT,oT,oT,oT,oT,oT,oT,oT,oT,oF,oF,oF,oF,oF,oF,oF,oF,oF,oF,oF,oF]) (ye pc 753 [oT,oT,oT,oT,oF,oT,oF,oT,oF,oT,oF,oT,oT,oT,oF,oF,oT,oT,oT,oT,oT,oT,oT,oT,oT,oT,oF,oF,oF,oF,oF,oF,oF,oF,oF,oF,oF,oF])) (yb pc 771 (ye pc 764 [oT,oT,oT,oT,oF,oT,oF,oT,oF,oT,oF,oT,oT,oT,oF,oF,oT,oT,oT,oT,oT,oT,oT,oT,oT,oT,oT,oT,oT,oF,oF,oF,oF,oF,oF,oF,oF,oF]) (ye pc 771 [oT,oT,oT,oT,oF,oT,oF,oT,oF,oT,oF,oT,oT,oT,oF,oF,oT,oT,oT,oT,oT,oT,oT,oT,oT,oT,oT,oT,oT,oF,oF,oF,oF,oF,oF,oF,oF,oF])))) (yb pc 801 (yb pc 788 (yb pc 780 (ye pc 776 [oT,oT,oT,oT,oF,oT,oF,oT,oF,oT,oF,oT,oT,oT,oF,oF,oT,oT,oT,oT,oT,oT,oT,oT,oT,oT,oT,oT,oT,oF,oF,oF,oF,oF,oF,oF,oF,oF]) (ye pc 780 [oT,oT,oT,oT,oF,oT,oF,oT,oF,oT,oF,oT,oT,oT,oF,oF,oT,oT,oT,oT,oT,oT,oT,oT,oT,oT,oT,oT,oT,oF,oF,oF,oF,oF,oF,oF,oF,oF])) (yb pc 796 (ye pc 788 [oT,oT,oT,oT,oF,oT,oF,oT,oF,oT,oF,oT,oT,oT,oF,oF,oT,oT,oT,oT,oT,oT,oT,oT,oT,oT,oT,oT,oT,oF,oF,oF,oF,oF,oF,oF,oF,oF]) (ye pc 796 [oT,oT,oT,oT,oF,oT,oF,oT,oF,oT,oF,oT,oT,oT,oF,oF,oT,oT,oT,oT,oT,oT,oT,oT,oT,oT,oT,oT,oT,oT,oF,oF,oF,oF,oF,oF,oF,oF]))) (yb pc 821 (yb pc 808 (ye pc 801 [oT,oT,oT,oT,oF,oT,oF,oT,oF,oT,oF,oT,oT,oT,oF,oF,oT,oT,oT,oT,oT,oT,oT,oT,oT,oT,oT,oT,oT,oT,oF,oF,oF,oF,oF,oF,oF,oF]) (ye pc 808 [oT,oT,oT,oT,oF,oT,oF,oT,oF,oT,oF,oT,oT,oT,oF,oF,oT,oT,oT,oT,oT,oT,oT,oT,oT,oT,oT,oT,oT,oT,oF,oF,oF,oF,oF,oF,oF,oF])) (yb pc 823 (ye pc 821 [oF,oF,oF,oF,oF,oF,oF,oF,oF,oF,oF,oF,oF,oF,oF,oF,oF,oF,oF,oF,oF,oF,oF,oF,oF,oF,oF,oF,oF,oF,oF,oF,oF,oF,oF,oF,oF,oF]) (yb pc 829 (ye pc 823 [oT,oT,oT,oT,oF,oT,oF,oT,oF,oT,oF,oT,oT,oT,oF,oF,oT,oT,oT,oT,oT,oT,oT,oT,oT,oT,oT,oT,oT,oF,oF,oF,oF,oF,oF,oF,oF,oF]) (ye pc 829 [oT,oT,oT,oT,oF,oT,oF,oT,oF,oT,oF,oT,oT,oT,oF,oF,oT,oT,oT,oT,oT,oT,oT,oT,oT,oT,oT,oT,oT,oT,oF,oF,oF,oF,oF,oF,oF,oF])))))) (yb pc 918 (yb pc 869 (yb pc 843 (yb pc 841 (ye pc 834 [oT,oT,oT,oT,oF,oT,oF,oT,oF,oT,oF,oT,oT,oT,oF,oF,oT,oT,oT,oT,oT,oT,oT,oT,oT,oT,oT,oT,oT,oT,oF,oF,oF,oF,oF,oF,oF,oF]) (ye pc 841 [oF,oF,oF,oF,oF,oF,oF,oF,oF,oF,oF,oF,oF,oF,oF,oF,oF,oF,oF,oF,oF,oF,oF,oF,oF,oF,oF,oF,oF,oF,oF,oF,oF,oF,oF,oF,oF,oF])) (yb pc 858 (ye pc 843 [oT,oT,oT,oT,oF,oT,oF,oT,oF,oT,oF,oT,oT,oT,oF,oF,oT,oT,oT,oT,oT,oT,oT,oT,oT,oT,oT,oT,oT,oT,oF,oF,oF,oF,oF,oF,oF,oF]) (ye pc 858 [oT,oT,oT,oT,oF,oT,oF,oT,oF,oT,oF,oT,oT,oT,oF,oF,oT,oT,oT,oT,oT,oT,oT,oT,oT,oT,oT,oT,oT,oF,oF,oF,oF,oF,oF,oF,oF,oF]))) (yb pc 889 (yb pc 871 (ye pc 869 [oF,oF,oF,oF,oF,oF,oF,oF,oF,oF,oF,oF,oF,oF,oF,oF,oF,oF,oF,oF,oF,oF,oF,oF,oF,oF,oF,oF,oF,oF,oF,oF,oF,oF,oF,oF,oF,oF]) (ye pc 871 [oT,oT,oT,oT,oF,oT,oF,oT,oF,oT,oF,oT,oT,oT,oF,oF,oT,oT,oT,oT,oT,oT,oT,oT,oT,oT,oF,oT,oT,oF,oF,oF,oF,oF,oF,oF,oF,oF])) (yb pc 896 (ye pc 889 [oT,oT,oT,oT,oF,oT,oF,oT,oF,oT,oF,oT,oT,oT,oF,oF,oT,oT,oT,oT,oT,oT,oT,oT,oT,oT,oT,oF,oT,oF,oT,oT,oT,oF,oF,oF,oF,oF]) (ye pc 896 [oT,oT,oT,oT,oF,oT,oF,oT,oF,oT,oF,oT,oT,oT,oF,oF,oT,oT,oT,oT,oT,oT,oT,oT,oT,oT,oT,oF,oT,oF,oT,oT,oT,oF,oF,oF,oF,oF])))) (yb pc 952 (yb pc 931 (yb pc 925 (ye pc 918 [oT,oT,oT,oT,oF,oT,oF,oT,oF,oT,oF,oT,oT,oT,oF,oF,oT,oT,oT,oT,oT,oT,oT,oT,oT,oT,oT,oF,oT,oF,oT,oT,oT,oT,oT,oT,oT,oF]) (ye pc 925 [oT,oT,oT,oT,oF,oT,oF,oT,oF,oT,oF,oT,oT,oT,oF,oF,oT,oT,oT,oT,oT,oT,oT,oT,oT,oT,oT,oF,oT,oF,oT,oT,oT,oT,oT,oT,oT,oF])) (yb pc 946 (ye pc 931 [oT,oT,oT,oT,oF,oT,oF,oT,oF,oT,oF,oT,oT,oT,oF,oF,oT,oT,oT,oT,oT,oT,oT,oT,oT,oT,oT,oF,oT,oF,oT,oT,oT,oT,oT,oT,oT,oF]) (ye pc 946 [oT,oT,oT,oT,oF,oT,oF,oT,oF,oT,oF,oT,oT,oT,oF,oF,oT,oT,oT,oT,oT,oT,oT,oT,oT,oT,oT,oF,oT,oF,oT,oT,oT,oT,oT,oT,oT,oT]))) (yb pc 961 (yb pc 955 (ye pc 952 [oT,oT,oT,oT,oF,oT,oF,oT,oF,oT,oF,oT,oT,oT,oF,oF,oT,oT,oT,oT,oT,oT,oT,oT,oT,oT,oT,oF,oT,oF,oT,oT,oT,oT,oT,oT,oT,oF]) (ye pc 955 [oT,oT,oT,oT,oF,oT,oF,oT,oF,oT,oF,oT,oT,oT,oF,oF,oT,oT,oT,oT,oT,oT,oT,oT,oT,oT,oT,oF,oT,oF,oT,oT,oT,oT,oT,oT,oT,oF])) (yb pc 975 (ye pc 961 [oT,oT,oT,oT,oF,oT,oF,oT,oF,oT,oF,oT,oT,oT,oF,oF,oT,oT,oT,oT,oT,oT,oT,oT,oT,oT,oT,oF,oT,oF,oT,oT,oT,oF,oF,oT,oF,oF]) (yb pc 981 (ye pc 975 [oT,oT,oT,oT,oF,oT,oF,oT,oF,oT,oF,oT,oT,oT,oF,oF,oT,oT,oT,oT,oT,oT,oT,oT,oT,oT,oT,oF,oT,oF,oF,oT,oF,oF,oF,oF,oF,oF]) (ye pc 981 [oT,oT,oT,oT,oF,oT,oF,oT,oF,oT,oF,oT,oT,oT,oF,oF,oT,oT,oT,oT,oT,oT,oT,oT,oT,oT,oT,oF,oT,oF,oT,oT,oT,oF,oF,oF,oF,oF]))))))) (yb pc 1081 (yb pc 1032 (yb pc 1006 (yb pc 994 (yb pc 992 (ye pc 987 [oT,oT,oT,oT,oF,oT,oF,oT,oF,oT,oF,oT,oT,oT,oF,oF,oT,oT,oT,oT,oT,oT,oT,oT,oT,oT,oT,oF,oT,oF,oF,oT,oT,oF,oF,oF,oF,oF]) (ye pc 992 [oF,oF,oF,oF,oF,oF,oF,oF,oF,oF,oF,oF,oF,oF,oF,oF,oF,oF,oF,oF,oF,oF,oF,oF,oF,oF,oF,oF,oF,oF,oF,oF,oF,oF,oF,oF,oF,oF])) (yb pc 1000 (ye pc 994 [oT,oT,oT,oT,oF,oT,oF,oT,oF,oT,oF,oT,oT,oT,oF,oF,oT,oT,oT,oT,oT,oT,oT,oT,oT,oT,oT,oF,oT,oF,oF,oT,oF,oF,oF,oF,oF,oF]) (ye pc 1000 [oT,oT,oT,oT,oF,oT,oF,oT,oF,oT,oF,oT,oT,oT,oF,oF,oT,oT,oT,oT,oT,oT,oT,oT,oT,oT,oT,oT,oT,oF,oF,oF,oF,oF,oF,oF,oF,oF]))) (yb pc 1018 (yb pc 1011 (ye pc 1006 [oT,oT,oT,oT,oF,oT,oF,oT,oF,oT,oF,oT,oT,oT,oF,oF,oT,oT,oT,oT,oT,oT,oT,oT,oF,oF,oT,oT,oF,oF,oF,oF,oF,oF,oF,oF,oF,oF]) (ye pc 1011 [oT,oT,oT,oT,oF,oT,oF,oT,oF,oT,oF,oT,oT,oT,oF,oF,oT,oT,oT,oT,oT,oT,oT,oT,oF,oF,oF,oT,oF,oF,oF,oF,oF,oF,oF,oF,oF,oF])) (yb pc 1021 (ye pc 1018 [oF,oF,oF,oF,oF,oF,oF,oF,oF,oF,oF,oF,oF,oF,oF,oF,oF,oF,oF,oF,oF,oF,oF,oF,oF,oF,oF,oF,oF,oF,oF,oF,oF,oF,oF,oF,oF,oF]) (ye pc 1021 [oT,oT,oT,oT,oF,oT,oF,oT,oF,oT,oF,oT,oT,oT,oF,oF,oT,oT,oT,oT,oT,oT,oT,oT,oF,oF,oT,oF,oF,oF,oF,oF,oF,oF,oF,oF,oF,oF])))) (yb pc 1050 (yb pc 1040 (yb pc 1034 (ye pc 1032 [oF,oF,oF,oF,oF,oF,oF,oF,oF,oF,oF,oF,oF,oF,oF,oF,oF,oF,oF,oF,oF,oF,oF,oF,oF,oF,oF,oF,oF,oF,oF,oF,oF,oF,oF,oF,oF,oF]) (ye pc 1034 [oT,oT,oT,oT,oF,oT,oF,oT,oF,oT,oF,oT,oT,oT,oF,oF,oT,oT,oT,oT,oT,oT,oT,oT,oF,oF,oF,oF,oF,oF,oF,oF,oF,oF,oF,oF,oF,oF])) (yb pc 1043 (ye pc 1040 [oT,oT,oT,oT,oF,oT,oF,oT,oF,oT,oF,oT,oT,oT,oF,oF,oT,oT,oT,oT,oT,oT,oT,oF,oF,oF,oF,oF,oF,oF,oF,oF,oF,oF,oF,oF,oF,oF]) (ye pc 1043 [oT,oT,oT,oT,oF,oT,oF,oT,oF,oT,oF,oT,oT,oT,oF,oF,oT,oT,oT,oT,oT,oT,oT,oT,oF,oF,oF,oF,oF,oF,oF,oF,oF,oF,oF,oF,oF,oF]))) (yb pc 1062 (yb pc 1057 (ye pc 1050 [oT,oT,oT,oT,oF,oT,oF,oT,oF,oT,oF,oT,oT,oT,oF,oF,oT,oT,oT,oT,oT,oT,oT,oT,oF,oF,oF,oF,oF,oF,oF,oF,oF,oF,oF,oF,oF,oF]) (ye pc 1057 [oT,oT,oT,oT,oF,oT,oF,oT,oF,oT,oF,oT,oT,oT,oF,oF,oT,oT,oT,oT,oT,oT,oT,oT,oF,oF,oF,oF,oF,oF,oF,oF,oF,oF,oF,oF,oF,oF])) (yb pc 1069 (ye pc 1062 [oT,oT,oT,oT,oF,oT,oF,oT,oF,oT,oF,oT,oT,oT,oF,oF,oT,oT,oT,oT,oT,oT,oT,oT,oF,oF,oF,oF,oF,oF,oF,oF,oF,oF,oF,oF,oF,oF]) (yb pc 1078 (ye pc 1069 [oT,oT,oT,oT,oF,oT,oF,oT,oF,oT,oF,oT,oT,oT,oF,oF,oT,oT,oT,oT,oT,oT,oT,oT,oF,oF,oF,oF,oF,oF,oF,oF,oF,oF,oF,oF,oF,oF]) (ye pc 1078 [oT,oT,oT,oT,oF,oT,oF,oT,oF,oT,oF,oT,oT,oT,oF,oF,oT,oT,oT,oT,oT,oT,oT,oT,oF,oF,oF,oF,oF,oF,oF,oF,oF,oF,oF,oF,oF,oF])))))) (yb pc 1168 (yb pc 1111 (yb pc 1102 (yb pc 1095 (ye pc 1081 [oT,oT,oT,oT,oF,oT,oF,oT,oF,oT,oF,oT,oT,oT,oF,oF,oT,oT,oT,oT,oT,oT,oT,oT,oT,oF,oF,oF,oF,oF,oF,oF,oF,oF,oF,oF,oF,oF]) (ye pc 1095 [oT,oT,oT,oT,oF,oT,oF,oT,oF,oT,oF,oT,oT,oT,oF,oF,oT,oT,oT,oT,oT,oT,oT,oT,oF,oT,oF,oF,oF,oF,oF,oF,oF,oF,oF,oF,oF,oF])) (yb pc 1105 (ye pc 1102 [oT,oT,oT,oT,oF,oT,oF,oT,oF,oT,oF,oT,oT,oT,oF,oF,oT,oT,oT,oT,oT,oT,oT,oT,oF,oF,oF,oF,oF,oF,oF,oF,oF,oF,oF,oF,oF,oF]) (ye pc 1105 [oT,oT,oT,oT,oF,oT,oF,oT,oF,oT,oF,oT,oT,oT,oF,oF,oT,oT,oT,oT,oT,oT,oT,oT,oF,oF,oF,oF,oF,oF,oF,oF,oF,oF,oF,oF,oF,oF]))) (yb pc 1123 (yb pc 1118 (ye pc 1111 [oT,oT,oT,oT,oF,oT,oF,oT,oF,oT,oF,oT,oT,oT,oF,oF,oT,oT,oT,oT,oT,oT,oT,oT,oF,oF,oT,oT,oF,oF,oF,oF,oF,oF,oF,oF,oF,oF]) (ye pc 1118 [oT,oT,oT,oT,oF,oT,oF,oT,oF,oT,oF,oT,oT,oT,oF,oF,oT,oT,oT,oT,oT,oT,oT,oT,oF,oF,oT,oT,oF,oF,oF,oF,oF,oF,oF,oF,oF,oF])) (yb pc 1138 (ye pc 1123 [oT,oT,oT,oT,oF,oT,oF,oT,oF,oT,oF,oT,oT,oT,oF,oF,oT,oT,oT,oT,oT,oT,oT,oT,oF,oF,oF,oT,oF,oF,oF,oF,oF,oF,oF,oF,oF,oF]) (yb pc 1153 (ye pc 1138 [oT,oT,oT,oT,oF,oT,oF,oT,oF,oT,oF,oT,oT,oT,oF,oF,oT,oT,oT,oT,oT,oT,oT,oT,oF,oF,oF,oT,oF,oF,oF,oF,oF,oF,oF,oF,oF,oF]) (ye pc 1153 [oT,oT,oT,oT,oF,oT,oF,oT,oF,oT,oF,oT,oT,oT,oF,oF,oT,oT,oT,oT,oT,oT,oT,oT,oF,oF,oF,oT,oF,oF,oF,oF,oF,oF,oF,oF,oF,oF]))))) (yb pc 1186 (yb pc 1173 (yb pc 1172 (ye pc 1168 [oT,oT,oT,oT,oF,oT,oF,oT,oF,oT,oF,oT,oT,oT,oF,oF,oT,oT,oT,oT,oT,oT,oT,oT,oF,oF,oF,oT,oF,oF,oF,oF,oF,oF,oF,oF,oF,oF]) (ye pc 1172 [oT,oT,oT,oT,oF,oT,oF,oT,oF,oT,oF,oT,oT,oT,oF,oF,oT,oT,oT,oT,oT,oT,oT,oT,oF,oF,oF,oT,oF,oF,oF,oF,oF,oF,oF,oF,oF,oF])) (yb pc 1181 (ye pc 1173 [oT,oT,oT,oT,oF,oT,oF,oT,oF,oT,oF,oT,oT,oT,oF,oF,oT,oT,oT,oT,oT,oT,oT,oT,oF,oF,oF,oT,oF,oF,oF,oF,oF,oF,oF,oF,oF,oF]) (ye pc 1181 [oT,oT,oT,oT,oF,oT,oF,oT,oF,oT,oF,oT,oT,oT,oF,oF,oT,oT,oT,oT,oT,oT,oT,oT,oF,oF,oT,oF,oF,oF,oF,oF,oF,oF,oF,oF,oF,oF]))) (yb pc 1194 (yb pc 1188 (ye pc 1186 [oF,oF,oF,oF,oF,oF,oF,oF,oF,oF,oF,oF,oF,oF,oF,oF,oF,oF,oF,oF,oF,oF,oF,oF,oF,oF,oF,oF,oF,oF,oF,oF,oF,oF,oF,oF,oF,oF]) (ye pc 1188 [oT,oT,oT,oT,oF,oT,oF,oT,oF,oT,oF,oT,oT,oT,oF,oF,oT,oT,oT,oT,oT,oT,oT,oT,oF,oF,oF,oF,oF,oF,oF,oF,oF,oF,oF,oF,oF,oF])) (yb pc 1200 (ye pc 1194 [oT,oT,oT,oT,oF,oT,oF,oT,oF,oT,oF,oT,oT,oT,oF,oF,oT,oT,oT,oT,oT,oF,oF,oF,oF,oF,oF,oF,oF,oF,oF,oF,oF,oF,oF,oF,oF,oF]) (yb pc 1206 (ye pc 1200 [oT,oT,oT,oT,oF,oT,oF,oT,oF,oT,oF,oT,oT,oT,oF,oF,oF,oF,oF,oF,oF,oF,oF,oF,oF,oF,oF,oF,oF,oF,oF,oF,oF,oF,oF,oF,oF,oF]) (ye pc 1206 [oF,oF,oF,oF,oF,oF,oF,oF,oF,oF,oF,oF,oF,oF,oF,oF,oF,oF,oF,oF,oF,oF,oF,oF,oF,oF,oF,oF,oF,oF,oF,oF,oF,oF,oF,oF,oF,oF]))))))))) none) (yb q 2 (cond (Nat.beq q 1) (yb pc 12 (yb pc 6 (ye pc 0 [oT,oT]) (ye pc 6 [oT,oT])) (yb pc 13 (ye pc 12 [oF,oF]) (ye pc 13 [oF,oF]))) none) (cond (Nat.beq q 2) (yb pc 100 (yb pc 27 (yb pc 14 (yb pc 7 (ye pc 0 [oT,oF,oT,oF,oT,oF,oT,oF,oF,oF,oF,oF,oF,oF,oF,oF]) (ye pc 7 [oT,oF,oT,oF,oT,oF,oT,oT,oT,oF,oF,oF,oF,oF,oF,oF])) (yb pc 20 (ye pc 14 [oT,oF,oT,oF,oT,oF,oT,oT,oT,oF,oF,oF,oF,oF,oF,oF]) (ye pc 20 [oT,oF,oT,oF,oT,oF,oT,oT,oT,oT,oT,oF,oF,oF,oF,oF]))) (yb pc 65 (yb pc 58 (ye pc 27 [oT,oF,oT,oF,oT,oF,oT,oT,oT,oT,oT,oF,oF,oF,oF,oF]) (ye pc 58 [oT,oF,oT,oF,oT,oF,oT,oT,oT,oT,oT,oT,oT,oT,oT,oT])) (yb pc 93 (ye pc 65 [oT,oF,oT,oF,oT,oF,oT,oT,oT,oT,oT,oT,oT,oT,oT,oT]) (ye pc 93 [oT,oF,oT,oF,oT,oF,oT,oT,oT,oT,oT,oF,oT,oF,oT,oF])))) (yb pc 147 (yb pc 116 (yb pc 104 (ye pc 100 [oT,oF,oT,oF,oT,oF,oT,oT,oT,oT,oT,oF,oT,oF,oF,oF]) (ye pc 104 [oT,oF,oT,oF,oT,oF,oT,oT,oT,oT,oT,oF,oT,oF,oT,oF])) (yb pc 141 (ye pc 116 [oT,oF,oT,oF,oT,oF,oT,oT,oT,oF,oT,oF,oT,oF,oT,oF]) (ye pc 141 [oT,oF,oT,oF,oT,oF,oT,oT,oT,oT,oT,oF,oF,oF,oF,oF]))) (yb pc 155 (yb pc 152 (ye pc 147 [oT,oF,oT,oF,oT,oF,oT,oT,oT,oT,oF,oF,oF,oF,oF,oF]) (ye pc 152 [oF,oF,oF,oF,oF,oF,oF,oT,oF,oF,oF,oF,oF,oF,oF,oF])) (yb pc 161 (ye pc 155 [oT,oF,oT,oF,oT,oF,oT,oT,oT,oF,oF,oF,oF,oF,oF,oF]) (ye pc 161 [oF,oF,oF,oF,oF,oF,oF,oT,oF,oF,oF,oF,oF,oF,oF,oF]))))) none))) (yb q 5 (yb q 4 (cond (Nat.beq q 3) (yb pc 17 (yb pc 6 (ye pc 0 [oT,oF,oT,oF,oT,oF,oT,oF,oF]) (yb pc 10 (ye pc 6 [oT,oF,oF,oF,oF,oF,oT,oF,oF]) (ye pc 10 [oF,oF,oT,oF,oT,oF,oT,oF,oF]))) (yb pc 21 (ye pc 17 [oF,oF,oT,oF,oF,oF,oT,oF,oF]) (yb pc 23 (ye pc 21 [oF,oF,oF,oF,oT,oF,oT,oF,oF]) (ye pc 23 [oF,oF,oF,oF,oF,oF,oT,oF,oF])))) none) (cond (Nat.beq q 4) (yb pc 9 (yb pc 5 (ye pc 0 [oT,oT]) (ye pc 5 [oF,oF])) (yb pc 17 (ye pc 9 [oT,oT]) (ye pc 17 [oF,oF]))) none)) (yb q 6 (cond (Nat.beq q 5) (yb pc 86 (yb pc 57 (yb pc 20 (yb pc 12 (ye pc 0 [oT,oF,oT,oF,oT,oF,oT,oT,oT,oT,oF,oF,oF,oF,oF,oF,oF,oF,oF,oF,oF]) (ye pc 12 [oT,oF,oT,oF,oT,oF,oT,oT,oT,oT,oT,oF,oT,oT,oF,oT,oF,oF,oF,oF,oF])) (yb pc 47 (ye pc 20 [oT,oF,oT,oF,oT,oF,oT,oT,oT,oT,oT,oF,oT,oT,oF,oT,oF,oF,oF,oF,oF]) (yb pc 51 (ye pc 47 [oF,oF,oF,oF,oF,oF,oF,oF,oF,oF,oF,oF,oF,oF,oF,oF,oF,oF,oF,oF,oF]) (ye pc 51 [oT,oF,oT,oF,oT,oF,oT,oT,oT,oT,oT,oF,oT,oT,oF,oT,oT,oF,oF,oF,oF])))) (yb pc 68 (yb pc 64 (ye pc 57 [oT,oF,oT,oF,oT,oF,oT,oT,oT,oT,oT,oF,oT,oT,oF,oT,oF,oF,oF,oF,oF]) (ye pc 64 [oF,oF,oF,oF,oF,oF,oF,oF,oF,oF,oF,oF,oF,oF,oF,oF,oF,oF,oF,oF,oF])) (yb pc 74 (ye pc 68 [oT,oF,oT,oF,oT,oF,oT,oT,oT,oT,oT,oF,oT,oT,oF,oT,oF,oF,oF,oF,oF]) (yb pc 80 (ye pc 74 [oT,oF,oT,oF,oT,oF,oT,oT,oT,oT,oT,oF,oT,oT,oF,oT,oT,oF,oF,oF,oF]) (ye pc 80 [oT,oF,oT,oF,oT,oF,oT,oT,oT,oT,oT,oF,oT,oT,oF,oT,oF,oF,oF,oF,oF]))))) (yb pc 149 (yb pc 99 (yb pc 92 (ye pc 86 [oT,oF,oT,oF,oT,oF,oT,oT,oT,oT,oT,oF,oT,oT,oF,oT,oF,oF,oF,oF,oF]) (ye pc 92 [oT,oF,oT,oF,oT,oF,oT,oT,oT,oT,oT,oF,oT,oT,oF,oT,oF,oT,oT,oF,oF])) (yb pc 104 (ye pc 99 [oT,oF,oT,oF,oT,oF,oT,oT,oT,oT,oT,oF,oT,oT,oF,oT,oF,oT,oT,oF,oF]) (yb pc 130 (ye pc 104 [oT,oF,oT,oF,oT,oF,oT,oT,oT,oT,oT,oF,oT,oT,oF,oT,oF,oT,oT,oF,oF]) (ye pc 130 [oT,oF,oT,oF,oT,oF,oT,oT,oT,oT,oT,oF,oT,oT,oF,oT,oF,oF,oF,oF,oF])))) (yb pc 182 (yb pc 177 (ye pc 149 [oT,oF,oT,oF,oT,oF,oT,oT,oT,oT,oT,oF,oT,oT,oF,oT,oF,oT,oT,oF,oF]) (ye pc 177 [oT,oF,oT,oF,oT,oF,oT,oT,oT,oT,oT,oF,oT,oT,oF,oT,oF,oT,oF,oF,oF])) (yb pc 185 (ye pc 182 [oF,oF,oF,oF,oF,oF,oF,oF,oF,oF,oF,oF,oF,oT,oF,oF,oF,oF,oF,oF,oF]) (yb pc 191 (ye pc 185 [oT,oF,oT,oF,oT,oF,oT,oT,oT,oT,oT,oF,oT,oT,oF,oT,oF,oF,oF,oF,oF]) (ye pc 191 [oF,oF,oF,oF,oF,oF,oF,oF,oF,oF,oF,oF,oF,oF,oF,oF,oF,oF,oF,oF,oF])))))) none) (cond (Nat.beq q 6) (yb pc 146 (yb pc 41 (yb pc 28 (yb pc 15 (ye pc 0 [oT,oF,oT,oF,oT,oF,oT,oT,oT,oT,oT,oF,oT,oF,oF,oF,oF,oF,oF,oF,oF,oF,oF,oF,oF,oF,oF]) (yb pc 23 (ye pc 15 [oT,oF,oT,oF,oT,oF,oT,oT,oT,oT,oT,oF,oT,oT,oF,oT,oT,oT,oT,oF,oF,oF,oF,oF,oF,oF,oF]) (ye pc 23 [oT,oF,oT,oF,oT,oF,oT,oT,oT,oT,oT,oF,oT,oT,oF,oT,oT,oT,oT,oF,oF,oF,oF,oF,oF,oF,oF]))) (yb pc 39 (yb pc 35 (ye pc 28 [oF,oF,oF,oF,oF,oF,oF,oF,oT,oF,oF,oF,oF,oF,oF,oF,oT,oF,oF,oF,oF,oF,oF,oF,oF,oF,oF]) (ye pc 35 [oF,oF,oF,oF,oF,oF,oF,oF,oF,oF,oF,oF,oF,oF,oF,oF,oF,oF,oF,oF,oF,oF,oF,oF,oF,oF,oF])) (yb pc 40 (ye pc 39 [oF,oF,oF,oF,oF,oF,oF,oF,oF,oF,oF,oF,oF,oF,oF,oF,oF,oF,oF,oF,oF,oF,oF,oF,oF,oF,oF]) (ye pc 40 [oF,oF,oF,oF,oF,oF,oF,oF,oF,oF,oF,oF,oF,oF,oF,oF,oF,oF,oF,oF,oF,oF,oF,oF,oF,oF,oF])))) (yb pc 97 (yb pc 58 (yb pc 51 (ye pc 41 [oT,oF,oT,oF,oT,oF,oT,oT,oT,oT,oT,oF,oT,oT,oF,oT,oT,oT,oT,oF,oF,oF,oF,oF,oF,oF,oF]) (ye pc 51 [oT,oF,oT,oF,oT,oF,oT,oT,oT,oT,oT,oF,oT,oT,oF,oT,oT,oT,oT,oT,oT,oF,oT,oF,oF,oF,oF])) (yb pc 87 (ye pc 58 [oT,oF,oT,oF,oT,oF,oT,oT,oT,oT,oT,oF,oT,oT,oF,oT,oT,oT,oT,oT,oT,oF,oT,oF,oF,oF,oF]) (ye pc 87 [oT,oF,oT,oF,oT,oF,oT,oT,oT,oT,oT,oF,oT,oT,oF,oT,oT,oT,oT,oT,oF,oF,oF,oF,oF,oF,oF]))) (yb pc 123 (yb pc 99 (ye pc 97 [oF,oF,oF,oF,oF,oF,oF,oF,oF,oF,oF,oF,oF,oF,oF,oF,oF,oF,oF,oF,oF,oF,oF,oF,oF,oF,oF]) (ye pc 99 [oT,oF,oT,oF,oT,oF,oT,oT,oT,oT,oT,oF,oT,oT,oF,oT,oT,oT,oT,oF,oF,oF,oF,oF,oF,oF,oF])) (yb pc 130 (ye pc 123 [oT,oF,oT,oF,oT,oF,oT,oT,oT,oT,oT,oF,oT,oT,oF,oT,oT,oT,oT,oF,oF,oF,oT,oF,oF,oF,oF]) (ye pc 130 [oT,oF,oT,oF,oT,oF,oT,oT,oT,oT,oT,oF,oT,oT,oF,oT,oT,oT,oT,oF,oF,oF,oT,oF,oF,oF,oF]))))) (yb pc 209 (yb pc 161 (yb pc 152 (ye pc 146 [oT,oF,oT,oF,oT,oF,oT,oT,oT,oT,oT,oF,oT,oT,oF,oT,oT,oT,oT,oF,oF,oF,oF,oF,oF,oF,oF]) (yb pc 154 (ye pc 152 [oF,oF,oF,oF,oF,oF,oF,oF,oF,oF,oF,oF,oF,oF,oF,oF,oF,oF,oF,oF,oF,oF,oF,oF,oF,oF,oF]) (ye pc 154 [oT,oF,oT,oF,oT,oF,oT,oT,oT,oT,oT,oF,oT,oT,oF,oT,oT,oT,oT,oF,oF,oF,oT,oF,oF,oF,oF]))) (yb pc 187 (yb pc 163 (ye pc 161 [oF,oF,oF,oF,oF,oF,oF,oF,oF,oF,oF,oF,oF,oF,oF,oF,oF,oF,oF,oF,oF,oF,oF,oF,oF,oF,oF]) (ye pc 163 [oT,oF,oT,oF,oT,oF,oT,oT,oT,oT,oT,oF,oT,oT,oF,oT,oT,oT,oT,oF,oF,oF,oT,oF,oF,oF,oF])) (yb pc 189 (ye pc 187 [oF,oF,oF,oF,oF,oF,oF,oF,oF,oF,oF,oF,oF,oF,oF,oF,oF,oF,oF,oF,oF,oF,oF,oF,oF,oF,oF]) (ye pc 189 [oT,oF,oT,oF,oT,oF,oT,oT,oT,oT,oT,oF,oT,oT,oF,oT,oT,oT,oT,oF,oF,oF,oT,oT,oF,oF,oF])))) (yb pc 256 (yb pc 225 (yb pc 211 (ye pc 209 [oF,oF,oF,oF,oF,oF,oF,oF,oF,oF,oF,oF,oF,oF,oF,oF,oF,oF,oF,oF,oF,oF,oF,oF,oF,oF,oF]) (ye pc 211 [oT,oF,oT,oF,oT,oF,oT,oT,oT,oT,oT,oF,oT,oT,oF,oT,oT,oT,oT,oF,oF,oF,oF,oF,oT,oF,oF])) (yb pc 230 (ye pc 225 [oT,oF,oT,oF,oT,oF,oT,oT,oT,oT,oT,oF,oT,oT,oF,oT,oT,oT,oT,oF,oF,oF,oF,oF,oT,oT,oT]) (ye pc 230 [oT,oF,oT,oF,oT,oF,oT,oT,oT,oT,oT,oF,oT,oT,oF,oT,oT,oT,oT,oF,oF,oF,oF,oF,oT,oT,oT]))) (yb pc 272 (yb pc 270 (ye pc 256 [oT,oF,oT,oF,oT,oF,oT,oT,oT,oT,oT,oF,oT,oT,oF,oT,oT,oT,oT,oF,oF,oF,oF,oF,oF,oT,oF]) (ye pc 270 [oF,oF,oF,oF,oF,oF,oF,oF,oF,oF,oF,oF,oF,oF,oF,oF,oF,oF,oF,oF,oF,oF,oF,oF,oF,oF,oF])) (yb pc 278 (ye pc 272 [oT,oF,oT,oF,oT,oF,oT,oT,oT,oT,oT,oF,oT,oT,oF,oT,oT,oT,oT,oF,oF,oF,oF,oF,oF,oF,oF]) (ye pc 278 [oF,oF,oF,oF,oF,oF,oF,oF,oF,oF,oF,oF,oF,oF,oF,oF,oF,oF,oF,oF,oF,oF,oF,oF,oF,oF,oF])))))) none)))
def LL:LT:=(LLcode,LLcst,LLvm,LLmk,LLsm,LLcl,LLinf,LLliv)
abbrev RL (sl:Int) (sc:Int→Int):=runL PP LL 44 2 (true,sl,sc)
abbrev RLr (sl:Int) (sc:Int→Int) (n q pc:Nat) (L:OLs) (S:List OV) (y:Option OV×OWd):RTL:=RL sl sc n q pc L (pushR y.1 S) y.2
abbrev RLv (sl:Int) (sc:Int→Int) (n q pc:Nat) (L:OLs) (S:List OV) (W:OWd) (o:Nat) (y:Option OV×Nat×OMem):RTL:=RL sl sc n q pc L (pushR y.1 S) (wput W o y.2)
abbrev RLi (sl:Int) (sc:Int→Int) (n q pc:Nat) (L:OLs) (S:List OV) (W:OWd) (o:Nat) (y:Option OV×Nat×OMem):RTL:=cond (Nat.beq y.2.1 44) (RL sl sc n q pc L (pushR y.1 S) (wput W o y.2)) none
section
variable {α β : Type} {K : α → Nat → RTL} {F : Nat → RTL} {sl : Int} {sc : Int → Int}
theorem Yh (k q p : Nat) (L : OLs) (S : List OV) (W : OWd) {o : Option α} (h : (fun n => F (n + k)) = fun n => RL sl sc n q p L S W) (s : Sim o K fun n => RL sl sc n q p L S W) : Sim o K F := Sh k _ h s
theorem Yi (k q a b : Nat) (L : OLs) (S : List OV) (W : OWd) {c : Prop} [Decidable c] {x y : Option α} (h : (fun n => F (n + k)) = fun n => if c then RL sl sc n q a L S W else RL sl sc n q b L S W) (h1 : Sim x K fun n => RL sl sc n q a L S W) (h2 : Sim y K fun n => RL sl sc n q b L S W) : Sim (if c then x else y) K F := Sh k _ h (Si h1 h2)
theorem Yg (k q p : Nat) (L : OLs) (S : List OV) (W : OWd) {c : Prop} [Decidable c] {x : Option α} (h : (fun n => F (n + k)) = fun n => if c then RL sl sc n q p L S W else none) (s : Sim x K fun n => RL sl sc n q p L S W) : Sim (if c then x else none) K F := Sh k _ h (Sg s)
end
def l_cell_b13 (sl:Int) (sc:Int→Int) (s0:Int) (m0 m1:OMem):Option (Int):=some s0
theorem l_cell_b13_ok (t0 t1:Nat) (sl:Int) (sc:Int→Int) (s0:Int) (m0 m1:OMem):Sim (l_cell_b13 sl sc s0 m0 m1) (fun r _=>some (some (vi r),[(t0,m0),(t1,m1)])) (fun n=>RL sl sc n 1 13 [qn,qn] [vi s0] [(t0,m0),(t1,m1)]) :=
 Zp 1 rfl
def l_cell (sl:Int) (sc:Int→Int) (x1:Int) (m0 m1:OMem):Option (Int):=if x1<sl then (if 0≤x1∧x1<sl then (l_cell_b13 sl sc (sc x1) m0 m1) else none) else (l_cell_b13 sl sc 0 m0 m1)
theorem l_cell_ok (t0 t1:Nat) (sl:Int) (sc:Int→Int) (x1:Int) (m0 m1:OMem):Sim (l_cell sl sc x1 m0 m1) (fun r _=>some (some (vi r),[(t0,m0),(t1,m1)])) (fun n=>RL sl sc n 1 0 [qr 0,qi x1] [] [(t0,m0),(t1,m1)]) :=
 Yi 4 1 6 12 [qr 0,qi x1] [] [(t0,m0),(t1,m1)] rfl (Yg 3 1 9 [qr 0,qi x1] [vi (sc x1)] [(t0,m0),(t1,m1)] rfl (Zj 1 (l_cell_b13_ok t0 t1 sl sc (sc x1) m0 m1) rfl rfl)) (Ze 1 (l_cell_b13_ok t0 t1 sl sc 0 m0 m1) rfl)
def l_rc_b23 (sl:Int) (sc:Int→Int) (x6 s0:Int) (m0 m1:OMem):Option (Int):=some (w32 (and64 (ushr64 s0 (w32 ((and32 x6 3)*16))) 65535))
theorem l_rc_b23_ok (t0 t1:Nat) (sl:Int) (sc:Int→Int) (x6 s0:Int) (m0 m1:OMem):Sim (l_rc_b23 sl sc x6 s0 m0 m1) (fun r _=>some (some (vi r),[(t0,m0),(t1,m1)])) (fun n=>RL sl sc n 3 23 [qn,qn,qn,qn,qn,qn,qi x6,qn,qn] [vl s0] [(t0,m0),(t1,m1)]) :=
 Yh 4 3 30 [qn,qn,qn,qn,qn,qn,qi x6,qj s0,qn] [vi 3,vi x6,vl s0] [(t0,m0),(t1,m1)] rfl (Yh 2 3 33 [qn,qn,qn,qn,qn,qn,qi x6,qj s0,qn] [vi 16,vi (and32 x6 3),vl s0] [(t0,m0),(t1,m1)] rfl (Yh 1 3 34 [qn,qn,qn,qn,qn,qn,qi x6,qj s0,qn] [vi (w32 ((and32 x6 3)*16)),vl s0] [(t0,m0),(t1,m1)] rfl (Yh 2 3 38 [qn,qn,qn,qn,qn,qn,qi x6,qj s0,qn] [vl 65535,vl (ushr64 s0 (w32 ((and32 x6 3)*16)))] [(t0,m0),(t1,m1)] rfl (Yh 1 3 39 [qn,qn,qn,qn,qn,qn,qi x6,qj s0,qn] [vl (and64 (ushr64 s0 (w32 ((and32 x6 3)*16))) 65535)] [(t0,m0),(t1,m1)] rfl (Zp 2 rfl)))))
def l_rc (sl:Int) (sc:Int→Int) (x0 x2 x4 x6:Int) (m0 m1:OMem):Option (Int):=if x6<4 then (l_rc_b23 sl sc x6 x0 m0 m1) else (if x6<8 then (l_rc_b23 sl sc x6 x2 m0 m1) else (l_rc_b23 sl sc x6 x4 m0 m1))
theorem l_rc_ok (t0 t1:Nat) (sl:Int) (sc:Int→Int) (x0 x2 x4 x6:Int) (m0 m1:OMem):Sim (l_rc sl sc x0 x2 x4 x6 m0 m1) (fun r _=>some (some (vi r),[(t0,m0),(t1,m1)])) (fun n=>RL sl sc n 3 0 [qj x0,qn,qj x2,qn,qj x4,qn,qi x6,qn,qn] [] [(t0,m0),(t1,m1)]) :=
 Yi 3 3 6 10 [qj x0,qn,qj x2,qn,qj x4,qn,qi x6,qn,qn] [] [(t0,m0),(t1,m1)] rfl (Zj 2 (l_rc_b23_ok t0 t1 sl sc x6 x0 m0 m1) rfl rfl) (Yi 3 3 17 21 [qn,qn,qj x2,qn,qj x4,qn,qi x6,qn,qn] [] [(t0,m0),(t1,m1)] rfl (Zj 2 (l_rc_b23_ok t0 t1 sl sc x6 x2 m0 m1) rfl rfl) (Zj 1 (l_rc_b23_ok t0 t1 sl sc x6 x4 m0 m1) rfl rfl))
def l_mlOf_b17 (sl:Int) (sc:Int→Int) (s0:Int) (m0 m1:OMem):Option (Int):=some s0
theorem l_mlOf_b17_ok (t0 t1:Nat) (sl:Int) (sc:Int→Int) (s0:Int) (m0 m1:OMem):Sim (l_mlOf_b17 sl sc s0 m0 m1) (fun r _=>some (some (vi r),[(t0,m0),(t1,m1)])) (fun n=>RL sl sc n 4 17 [qn,qn] [vi s0] [(t0,m0),(t1,m1)]) :=
 Zp 1 rfl
def l_mlOf (sl:Int) (sc:Int→Int) (x0 x1:Int) (m0 m1:OMem):Option (Int):=if x1<4 then (l_mlOf_b17 sl sc (and32 (shr32 x0 (w32 (4*x1))) 15) m0 m1) else (l_mlOf_b17 sl sc 1 m0 m1)
theorem l_mlOf_ok (t0 t1:Nat) (sl:Int) (sc:Int→Int) (x0 x1:Int) (m0 m1:OMem):Sim (l_mlOf sl sc x0 x1 m0 m1) (fun r _=>some (some (vi r),[(t0,m0),(t1,m1)])) (fun n=>RL sl sc n 4 0 [qi x0,qi x1] [] [(t0,m0),(t1,m1)]) :=
 Yi 3 4 9 5 [qi x0,qi x1] [] [(t0,m0),(t1,m1)] rfl (Yh 4 4 13 [qi x0,qi x1] [vi (w32 (4*x1)),vi x0] [(t0,m0),(t1,m1)] rfl (Yh 2 4 16 [qi x0,qi x1] [vi 15,vi (shr32 x0 (w32 (4*x1)))] [(t0,m0),(t1,m1)] rfl (Zj 1 (l_mlOf_b17_ok t0 t1 sl sc (and32 (shr32 x0 (w32 (4*x1))) 15) m0 m1) rfl rfl))) (Ze 2 (l_mlOf_b17_ok t0 t1 sl sc 1 m0 m1) rfl)
def l_minLens_l7_H (t0 t1:Nat) (sl:Int) (sc:Int→Int) (m0:OMem) (m1:OMem) (x0 x2 x4 x6:Int):Int×Int→Nat→RTL:=fun (x7,x8) n=>RL sl sc n 2 7 [qj x0,qn,qj x2,qn,qj x4,qn,qi x6,qi x7,qi x8,qn,qn,qn,qn,qn,qn,qn] [] [(t0,m0),(t1,m1)]
def l_minLens_l7_X (t0 t1:Nat) (sl:Int) (sc:Int→Int) (m0:OMem) (m1:OMem) (x0 x2 x4 x6:Int):(Int)⊕(Int)→Nat→RTL:=fun e n=>match e with | (.inl y7)=>RL sl sc n 2 152 [qn,qn,qn,qn,qn,qn,qn,qi y7,qn,qn,qn,qn,qn,qn,qn,qn] [] [(t0,m0),(t1,m1)] | (.inr y7)=>RL sl sc n 2 161 [qn,qn,qn,qn,qn,qn,qn,qi y7,qn,qn,qn,qn,qn,qn,qn,qn] [] [(t0,m0),(t1,m1)]
def l_minLens_l20_H (t0 t1:Nat) (sl:Int) (sc:Int→Int) (m0:OMem) (m1:OMem) (x0 x2 x4 x6 x8:Int):Int×Int×Int→Nat→RTL:=fun (x7,x9,x10) n=>RL sl sc n 2 20 [qj x0,qn,qj x2,qn,qj x4,qn,qi x6,qi x7,qi x8,qi x9,qi x10,qn,qn,qn,qn,qn] [] [(t0,m0),(t1,m1)]
def l_minLens_l20_X (t0 t1:Nat) (sl:Int) (sc:Int→Int) (m0:OMem) (m1:OMem) (x0 x2 x4 x6 x8:Int):(Int×Int)→Nat→RTL:=fun e n=>match e with | (y7,y9)=>RL sl sc n 2 147 [qj x0,qn,qj x2,qn,qj x4,qn,qi x6,qi y7,qi x8,qi y9,qn,qn,qn,qn,qn,qn] [] [(t0,m0),(t1,m1)]
def l_minLens_l58_H (t0 t1:Nat) (sl:Int) (sc:Int→Int) (m0:OMem) (m1:OMem) (x0 x2 x4 x6 x7 x8 x9 x10 x11 x12 x13:Int):Int×Int→Nat→RTL:=fun (x14,x15) n=>RL sl sc n 2 58 [qj x0,qn,qj x2,qn,qj x4,qn,qi x6,qi x7,qi x8,qi x9,qi x10,qi x11,qi x12,qi x13,qi x14,qi x15] [] [(t0,m0),(t1,m1)]
def l_minLens_l58_X (t0 t1:Nat) (sl:Int) (sc:Int→Int) (m0:OMem) (m1:OMem) (x0 x2 x4 x6 x7 x8 x9 x10 x11 x12 x13:Int):(Int)→Nat→RTL:=fun e n=>match e with | y14=>RL sl sc n 2 93 [qj x0,qn,qj x2,qn,qj x4,qn,qi x6,qi x7,qi x8,qi x9,qi x10,qn,qi x12,qn,qi y14,qn] [] [(t0,m0),(t1,m1)]
def l_minLens_l58 (sl:Int) (sc:Int→Int) (m0:OMem) (m1:OMem) (x0 x2 x4 x6 x7 x8 x9 x10 x11 x12 x13:Int):Int×Int→Option ((Int×Int)⊕((Int))):=fun (x14,x15)=>if x15<x13 then ((l_mlOf sl sc x7 (and32 (shr32 x11 (w32 (4+(w32 (3*x15))))) 7) m0 m1).bind fun r_124=>(some (.inl (w32 (x14+r_124),w32 (x15+1))))) else (some (.inr x14))
theorem l_minLens_l58_ok (t0 t1:Nat) (sl:Int) (sc:Int→Int) (m0:OMem) (m1:OMem) (x0 x2 x4 x6 x7 x8 x9 x10 x11 x12 x13:Int) (x14 x15:Int):Sim (l_minLens_l58 sl sc m0 m1 x0 x2 x4 x6 x7 x8 x9 x10 x11 x12 x13 (x14,x15)) (Sum.elim (l_minLens_l58_H t0 t1 sl sc m0 m1 x0 x2 x4 x6 x7 x8 x9 x10 x11 x12 x13 ) (l_minLens_l58_X t0 t1 sl sc m0 m1 x0 x2 x4 x6 x7 x8 x9 x10 x11 x12 x13 )) (l_minLens_l58_H t0 t1 sl sc m0 m1 x0 x2 x4 x6 x7 x8 x9 x10 x11 x12 x13 (x14,x15)) :=
 Yi 3 2 65 93 [qj x0,qn,qj x2,qn,qj x4,qn,qi x6,qi x7,qi x8,qi x9,qi x10,qi x11,qi x12,qi x13,qi x14,qi x15] [] [(t0,m0),(t1,m1)] rfl (Yh 8 2 77 [qj x0,qn,qj x2,qn,qj x4,qn,qi x6,qi x7,qi x8,qi x9,qi x10,qi x11,qi x12,qi x13,qi x14,qi x15] [vi (w32 (4+(w32 (3*x15)))),vi x11,vi x7,vi x14] [(t0,m0),(t1,m1)] rfl (Yh 2 2 80 [qj x0,qn,qj x2,qn,qj x4,qn,qi x6,qi x7,qi x8,qi x9,qi x10,qi x11,qi x12,qi x13,qi x14,qi x15] [vi 7,vi (shr32 x11 (w32 (4+(w32 (3*x15))))),vi x7,vi x14] [(t0,m0),(t1,m1)] rfl (Sh 2 (fun n=>(RL sl sc n 4 0 [qi x7,qi (and32 (shr32 x11 (w32 (4+(w32 (3*x15))))) 7)] [] [(t0,m0),(t1,m1)]).bind fun y=>RLr sl sc n 2 84 [qj x0,qn,qj x2,qn,qj x4,qn,qi x6,qi x7,qi x8,qi x9,qi x10,qi x11,qi x12,qi x13,qi x14,qi x15] [vi x14] y) rfl (Sim.call (l_mlOf_ok t0 t1 sl sc x7 (and32 (shr32 x11 (w32 (4+(w32 (3*x15))))) 7) m0 m1) (fun _ _=>rfl) (runL_mono _ _ _ _ _) (fun _=>runL_mono _ _ _ _ _) (fun r_124=>Yh 0 2 84 [qj x0,qn,qj x2,qn,qj x4,qn,qi x6,qi x7,qi x8,qi x9,qi x10,qi x11,qi x12,qi x13,qi x14,qi x15] [vi r_124,vi x14] [(t0,m0),(t1,m1)] rfl (Yh 3 2 90 [qj x0,qn,qj x2,qn,qj x4,qn,qi x6,qi x7,qi x8,qi x9,qi x10,qi x11,qi x12,qi x13,qi (w32 (x14+r_124)),qi (w32 (x15+1))] [] [(t0,m0),(t1,m1)] rfl (Zp 1 rfl))))))) (Sv rfl rfl)
def l_minLens_b141 (sl:Int) (sc:Int→Int) (x0 x2 x4 x6 x7 x8 x9 x10:Int) (m0 m1:OMem):Option ((Int×Int×Int)⊕((Int×Int))):=some (.inl (x7,x9,w32 (x10+1)))
theorem l_minLens_b141_ok (t0 t1:Nat) (sl:Int) (sc:Int→Int) (x0 x2 x4 x6 x7 x8 x9 x10:Int) (m0 m1:OMem):Sim (l_minLens_b141 sl sc x0 x2 x4 x6 x7 x8 x9 x10 m0 m1) (Sum.elim (l_minLens_l20_H t0 t1 sl sc m0 m1 x0 x2 x4 x6 x8 ) (l_minLens_l20_X t0 t1 sl sc m0 m1 x0 x2 x4 x6 x8 )) (fun n=>RL sl sc n 2 141 [qj x0,qn,qj x2,qn,qj x4,qn,qi x6,qi x7,qi x8,qi x9,qi x10,qn,qn,qn,qn,qn] [] [(t0,m0),(t1,m1)]) :=
 Zp 2 rfl
def l_minLens_b104 (sl:Int) (sc:Int→Int) (x0 x2 x4 x6 x7 x8 x9 x10 x12 x14:Int) (m0 m1:OMem):Option ((Int×Int×Int)⊕((Int×Int))):=(l_mlOf sl sc x7 x12 m0 m1).bind fun r_126=>(if x14<r_126 then (l_minLens_b141 sl sc x0 x2 x4 x6 (or32 (and32 x7 (xor32 (shl32 15 (w32 (4*x12))) (-1))) (shl32 x14 (w32 (4*x12)))) x8 1 x10 m0 m1) else (l_minLens_b141 sl sc x0 x2 x4 x6 x7 x8 x9 x10 m0 m1))
theorem l_minLens_b104_ok (t0 t1:Nat) (sl:Int) (sc:Int→Int) (x0 x2 x4 x6 x7 x8 x9 x10 x12 x14:Int) (m0 m1:OMem):Sim (l_minLens_b104 sl sc x0 x2 x4 x6 x7 x8 x9 x10 x12 x14 m0 m1) (Sum.elim (l_minLens_l20_H t0 t1 sl sc m0 m1 x0 x2 x4 x6 x8 ) (l_minLens_l20_X t0 t1 sl sc m0 m1 x0 x2 x4 x6 x8 )) (fun n=>RL sl sc n 2 104 [qj x0,qn,qj x2,qn,qj x4,qn,qi x6,qi x7,qi x8,qi x9,qi x10,qn,qi x12,qn,qi x14,qn] [] [(t0,m0),(t1,m1)]) :=
 Sh 4 (fun n=>(RL sl sc n 4 0 [qi x7,qi x12] [] [(t0,m0),(t1,m1)]).bind fun y=>RLr sl sc n 2 113 [qj x0,qn,qj x2,qn,qj x4,qn,qi x6,qi x7,qi x8,qi x9,qi x10,qn,qi x12,qn,qi x14,qn] [vi x14] y) rfl (Sim.call (l_mlOf_ok t0 t1 sl sc x7 x12 m0 m1) (fun _ _=>rfl) (runL_mono _ _ _ _ _) (fun _=>runL_mono _ _ _ _ _) (fun r_126=>Yh 0 2 113 [qj x0,qn,qj x2,qn,qj x4,qn,qi x6,qi x7,qi x8,qi x9,qi x10,qn,qi x12,qn,qi x14,qn] [vi r_126,vi x14] [(t0,m0),(t1,m1)] rfl (Yi 1 2 116 141 [qj x0,qn,qj x2,qn,qj x4,qn,qi x6,qi x7,qi x8,qi x9,qi x10,qn,qi x12,qn,qi x14,qn] [] [(t0,m0),(t1,m1)] rfl (Yh 5 2 124 [qj x0,qn,qj x2,qn,qj x4,qn,qi x6,qi x7,qi x8,qn,qi x10,qn,qi x12,qn,qi x14,qn] [vi (w32 (4*x12)),vi 15,vi x7] [(t0,m0),(t1,m1)] rfl (Yh 2 2 126 [qj x0,qn,qj x2,qn,qj x4,qn,qi x6,qi x7,qi x8,qn,qi x10,qn,qi x12,qn,qi x14,qn] [vi (-1),vi (shl32 15 (w32 (4*x12))),vi x7] [(t0,m0),(t1,m1)] rfl (Yh 1 2 127 [qj x0,qn,qj x2,qn,qj x4,qn,qi x6,qi x7,qi x8,qn,qi x10,qn,qi x12,qn,qi x14,qn] [vi (xor32 (shl32 15 (w32 (4*x12))) (-1)),vi x7] [(t0,m0),(t1,m1)] rfl (Yh 4 2 133 [qj x0,qn,qj x2,qn,qj x4,qn,qi x6,qi x7,qi x8,qn,qi x10,qn,qi x12,qn,qi x14,qn] [vi x12,vi 4,vi x14,vi (and32 x7 (xor32 (shl32 15 (w32 (4*x12))) (-1)))] [(t0,m0),(t1,m1)] rfl (Yh 1 2 134 [qj x0,qn,qj x2,qn,qj x4,qn,qi x6,qi x7,qi x8,qn,qi x10,qn,qi x12,qn,qi x14,qn] [vi (w32 (4*x12)),vi x14,vi (and32 x7 (xor32 (shl32 15 (w32 (4*x12))) (-1)))] [(t0,m0),(t1,m1)] rfl (Yh 1 2 135 [qj x0,qn,qj x2,qn,qj x4,qn,qi x6,qi x7,qi x8,qn,qi x10,qn,qi x12,qn,qi x14,qn] [vi (shl32 x14 (w32 (4*x12))),vi (and32 x7 (xor32 (shl32 15 (w32 (4*x12))) (-1)))] [(t0,m0),(t1,m1)] rfl (Yh 2 2 138 [qj x0,qn,qj x2,qn,qj x4,qn,qi x6,qi (or32 (and32 x7 (xor32 (shl32 15 (w32 (4*x12))) (-1))) (shl32 x14 (w32 (4*x12)))),qi x8,qn,qi x10,qn,qi x12,qn,qi x14,qn] [] [(t0,m0),(t1,m1)] rfl (Zj 2 (l_minLens_b141_ok t0 t1 sl sc x0 x2 x4 x6 (or32 (and32 x7 (xor32 (shl32 15 (w32 (4*x12))) (-1))) (shl32 x14 (w32 (4*x12)))) x8 1 x10 m0 m1) rfl rfl)))))))) (Sim.jmp (l_minLens_b141_ok t0 t1 sl sc x0 x2 x4 x6 x7 x8 x9 x10 m0 m1) rfl (fun _=>rfl)))))
def l_minLens_l20 (sl:Int) (sc:Int→Int) (m0:OMem) (m1:OMem) (x0 x2 x4 x6 x8:Int):Int×Int×Int→Option ((Int×Int×Int)⊕((Int×Int))):=fun (x7,x9,x10)=>if x10<x6 then ((l_rc sl sc x0 x2 x4 x10 m0 m1).bind fun r_123=>((lp (l_minLens_l58 sl sc m0 m1 x0 x2 x4 x6 x7 x8 x9 x10 r_123 (and32 r_123 3) (and32 (shr32 r_123 2) 3)) NN (0,0)).bind fun x14_125=>(if 9<x14_125 then (l_minLens_b104 sl sc x0 x2 x4 x6 x7 x8 x9 x10 (and32 r_123 3) 9 m0 m1) else (l_minLens_b104 sl sc x0 x2 x4 x6 x7 x8 x9 x10 (and32 r_123 3) x14_125 m0 m1)))) else (some (.inr (x7,x9)))
theorem l_minLens_l20_ok (t0 t1:Nat) (sl:Int) (sc:Int→Int) (m0:OMem) (m1:OMem) (x0 x2 x4 x6 x8:Int) (x7 x9 x10:Int):Sim (l_minLens_l20 sl sc m0 m1 x0 x2 x4 x6 x8 (x7,x9,x10)) (Sum.elim (l_minLens_l20_H t0 t1 sl sc m0 m1 x0 x2 x4 x6 x8 ) (l_minLens_l20_X t0 t1 sl sc m0 m1 x0 x2 x4 x6 x8 )) (l_minLens_l20_H t0 t1 sl sc m0 m1 x0 x2 x4 x6 x8 (x7,x9,x10)) :=
 Yi 3 2 27 147 [qj x0,qn,qj x2,qn,qj x4,qn,qi x6,qi x7,qi x8,qi x9,qi x10,qn,qn,qn,qn,qn] [] [(t0,m0),(t1,m1)] rfl (Sh 5 (fun n=>(RL sl sc n 3 0 [qj x0,qn,qj x2,qn,qj x4,qn,qi x10,qn,qn] [] [(t0,m0),(t1,m1)]).bind fun y=>RLr sl sc n 2 36 [qj x0,qn,qj x2,qn,qj x4,qn,qi x6,qi x7,qi x8,qi x9,qi x10,qn,qn,qn,qn,qn] [] y) rfl (Sim.call (l_rc_ok t0 t1 sl sc x0 x2 x4 x10 m0 m1) (fun _ _=>rfl) (runL_mono _ _ _ _ _) (fun _=>runL_mono _ _ _ _ _) (fun r_123=>Yh 0 2 36 [qj x0,qn,qj x2,qn,qj x4,qn,qi x6,qi x7,qi x8,qi x9,qi x10,qn,qn,qn,qn,qn] [vi r_123] [(t0,m0),(t1,m1)] rfl (Yh 5 2 44 [qj x0,qn,qj x2,qn,qj x4,qn,qi x6,qi x7,qi x8,qi x9,qi x10,qi r_123,qi (and32 r_123 3),qn,qn,qn] [] [(t0,m0),(t1,m1)] rfl (Yh 4 2 49 [qj x0,qn,qj x2,qn,qj x4,qn,qi x6,qi x7,qi x8,qi x9,qi x10,qi r_123,qi (and32 r_123 3),qn,qn,qn] [vi 3,vi (shr32 r_123 2)] [(t0,m0),(t1,m1)] rfl (Yh 2 2 52 [qj x0,qn,qj x2,qn,qj x4,qn,qi x6,qi x7,qi x8,qi x9,qi x10,qi r_123,qi (and32 r_123 3),qi (and32 (shr32 r_123 2) 3),qn,qn] [] [(t0,m0),(t1,m1)] rfl (Zb 4 (Sim.lp (σ:=Int×Int) (fun ⟨x14L,x15L⟩=>l_minLens_l58_ok t0 t1 sl sc m0 m1 x0 x2 x4 x6 x7 x8 x9 x10 r_123 (and32 r_123 3) (and32 (shr32 r_123 2) 3) x14L x15L) NN (0,0)) rfl (fun x14_125=>Yi 3 2 100 104 [qj x0,qn,qj x2,qn,qj x4,qn,qi x6,qi x7,qi x8,qi x9,qi x10,qn,qi (and32 r_123 3),qn,qi x14_125,qn] [] [(t0,m0),(t1,m1)] rfl (Ze 2 (l_minLens_b104_ok t0 t1 sl sc x0 x2 x4 x6 x7 x8 x9 x10 (and32 r_123 3) 9 m0 m1) rfl) (l_minLens_b104_ok t0 t1 sl sc x0 x2 x4 x6 x7 x8 x9 x10 (and32 r_123 3) x14_125 m0 m1))))))))) (Sv rfl rfl)
def l_minLens_l7 (sl:Int) (sc:Int→Int) (m0:OMem) (m1:OMem) (x0 x2 x4 x6:Int):Int×Int→Option ((Int×Int)⊕((Int)⊕(Int))):=fun (x7,x8)=>if x8<40 then ((lp (l_minLens_l20 sl sc m0 m1 x0 x2 x4 x6 x8) NN (x7,0,0)).bind fun (x7_127,x9_128)=>(if x9_128=0 then (some (.inr (.inl x7_127))) else (some (.inl (x7_127,w32 (x8+1)))))) else (some (.inr (.inr x7)))
theorem l_minLens_l7_ok (t0 t1:Nat) (sl:Int) (sc:Int→Int) (m0:OMem) (m1:OMem) (x0 x2 x4 x6:Int) (x7 x8:Int):Sim (l_minLens_l7 sl sc m0 m1 x0 x2 x4 x6 (x7,x8)) (Sum.elim (l_minLens_l7_H t0 t1 sl sc m0 m1 x0 x2 x4 x6 ) (l_minLens_l7_X t0 t1 sl sc m0 m1 x0 x2 x4 x6 )) (l_minLens_l7_H t0 t1 sl sc m0 m1 x0 x2 x4 x6 (x7,x8)) :=
 Yi 3 2 14 161 [qj x0,qn,qj x2,qn,qj x4,qn,qi x6,qi x7,qi x8,qn,qn,qn,qn,qn,qn,qn] [] [(t0,m0),(t1,m1)] rfl (Zb 4 (Sim.lp (σ:=Int×Int×Int) (fun ⟨x7L,x9L,x10L⟩=>l_minLens_l20_ok t0 t1 sl sc m0 m1 x0 x2 x4 x6 x8 x7L x9L x10L) NN (x7,0,0)) rfl (fun ⟨x7_127,x9_128⟩=>Yi 2 2 152 155 [qj x0,qn,qj x2,qn,qj x4,qn,qi x6,qi x7_127,qi x8,qi x9_128,qn,qn,qn,qn,qn,qn] [] [(t0,m0),(t1,m1)] rfl (Sv rfl rfl) (Zp 2 rfl))) (Sv rfl rfl)
def l_minLens_b161 (sl:Int) (sc:Int→Int) (x7:Int) (m0 m1:OMem):Option (Int):=some x7
theorem l_minLens_b161_ok (t0 t1:Nat) (sl:Int) (sc:Int→Int) (x7:Int) (m0 m1:OMem):Sim (l_minLens_b161 sl sc x7 m0 m1) (fun r _=>some (some (vi r),[(t0,m0),(t1,m1)])) (fun n=>RL sl sc n 2 161 [qn,qn,qn,qn,qn,qn,qn,qi x7,qn,qn,qn,qn,qn,qn,qn,qn] [] [(t0,m0),(t1,m1)]) :=
 Zp 2 rfl
def l_minLens (sl:Int) (sc:Int→Int) (x0 x2 x4 x6:Int) (m0 m1:OMem):Option (Int):=(lp (l_minLens_l7 sl sc m0 m1 x0 x2 x4 x6) NN (39321,0)).bind fun e=>match e with | (.inl x7_129)=>(l_minLens_b161 sl sc x7_129 m0 m1) | (.inr x7_130)=>(l_minLens_b161 sl sc x7_130 m0 m1)
theorem l_minLens_ok (t0 t1:Nat) (sl:Int) (sc:Int→Int) (x0 x2 x4 x6:Int) (m0 m1:OMem):Sim (l_minLens sl sc x0 x2 x4 x6 m0 m1) (fun r _=>some (some (vi r),[(t0,m0),(t1,m1)])) (fun n=>RL sl sc n 2 0 [qj x0,qn,qj x2,qn,qj x4,qn,qi x6,qn,qn,qn,qn,qn,qn,qn,qn,qn] [] [(t0,m0),(t1,m1)]) :=
 Zb 4 (Sim.lp (σ:=Int×Int) (fun ⟨x7L,x8L⟩=>l_minLens_l7_ok t0 t1 sl sc m0 m1 x0 x2 x4 x6 x7L x8L) NN (39321,0)) rfl (fun e=>match e with | (.inl x7_129)=>Sh 1 (fun n=>RL sl sc n 2 161 [qn,qn,qn,qn,qn,qn,qn,qi x7_129,qn,qn,qn,qn,qn,qn,qn,qn] [] [(t0,m0),(t1,m1)]) rfl (l_minLens_b161_ok t0 t1 sl sc x7_129 m0 m1) | (.inr x7_130)=>l_minLens_b161_ok t0 t1 sl sc x7_130 m0 m1)
def l_sim_l15_H (t0 t1:Nat) (sl:Int) (sc:Int→Int) (m0:OMem) (m1:OMem) (x0 x2 x4 x6 x7 x8 x9 x10 x12:Int):Int×Int×Int×Int×Int→Nat→RTL:=fun (x13,x15,x16,x17,x18) n=>RL sl sc n 6 15 [qj x0,qn,qj x2,qn,qj x4,qn,qi x6,qi x7,qi x8,qi x9,qj x10,qn,qi x12,qj x13,qn,qi x15,qi x16,qi x17,qi x18,qn,qn,qn,qn,qn,qn,qn,qn] [] [(t0,m0),(t1,m1)]
def l_sim_l15_X (t0 t1:Nat) (sl:Int) (sc:Int→Int) (m0:OMem) (m1:OMem) (x0 x2 x4 x6 x7 x8 x9 x10 x12:Int):(Int)⊕(Unit)⊕(Unit)⊕(Unit)⊕(Unit)⊕(Unit)⊕(Unit)⊕(Unit)→Nat→RTL:=fun e n=>match e with | (.inl y16)=>RL sl sc n 6 28 [qn,qn,qn,qn,qn,qn,qn,qn,qi x8,qn,qn,qn,qn,qn,qn,qn,qi y16,qn,qn,qn,qn,qn,qn,qn,qn,qn,qn] [] [(t0,m0),(t1,m1)] | (.inr (.inl _))=>RL sl sc n 6 97 [qn,qn,qn,qn,qn,qn,qn,qn,qn,qn,qn,qn,qn,qn,qn,qn,qn,qn,qn,qn,qn,qn,qn,qn,qn,qn,qn] [] [(t0,m0),(t1,m1)] | (.inr (.inr (.inl _)))=>RL sl sc n 6 152 [qn,qn,qn,qn,qn,qn,qn,qn,qn,qn,qn,qn,qn,qn,qn,qn,qn,qn,qn,qn,qn,qn,qn,qn,qn,qn,qn] [] [(t0,m0),(t1,m1)] | (.inr (.inr (.inr (.inl _))))=>RL sl sc n 6 161 [qn,qn,qn,qn,qn,qn,qn,qn,qn,qn,qn,qn,qn,qn,qn,qn,qn,qn,qn,qn,qn,qn,qn,qn,qn,qn,qn] [] [(t0,m0),(t1,m1)] | (.inr (.inr (.inr (.inr (.inl _)))))=>RL sl sc n 6 187 [qn,qn,qn,qn,qn,qn,qn,qn,qn,qn,qn,qn,qn,qn,qn,qn,qn,qn,qn,qn,qn,qn,qn,qn,qn,qn,qn] [] [(t0,m0),(t1,m1)] | (.inr (.inr (.inr (.inr (.inr (.inl _))))))=>RL sl sc n 6 209 [qn,qn,qn,qn,qn,qn,qn,qn,qn,qn,qn,qn,qn,qn,qn,qn,qn,qn,qn,qn,qn,qn,qn,qn,qn,qn,qn] [] [(t0,m0),(t1,m1)] | (.inr (.inr (.inr (.inr (.inr (.inr (.inl _)))))))=>RL sl sc n 6 270 [qn,qn,qn,qn,qn,qn,qn,qn,qn,qn,qn,qn,qn,qn,qn,qn,qn,qn,qn,qn,qn,qn,qn,qn,qn,qn,qn] [] [(t0,m0),(t1,m1)] | (.inr (.inr (.inr (.inr (.inr (.inr (.inr _)))))))=>RL sl sc n 6 278 [qn,qn,qn,qn,qn,qn,qn,qn,qn,qn,qn,qn,qn,qn,qn,qn,qn,qn,qn,qn,qn,qn,qn,qn,qn,qn,qn] [] [(t0,m0),(t1,m1)]
def l_sim_l51_H (t0 t1:Nat) (sl:Int) (sc:Int→Int) (m0:OMem) (m1:OMem) (x0 x2 x4 x6 x7 x8 x9 x10 x12 x13 x15 x16 x17 x18:Int):Int×Int×Int→Nat→RTL:=fun (x19,x20,x22) n=>RL sl sc n 6 51 [qj x0,qn,qj x2,qn,qj x4,qn,qi x6,qi x7,qi x8,qi x9,qj x10,qn,qi x12,qj x13,qn,qi x15,qi x16,qi x17,qi x18,qi x19,qj x20,qn,qi x22,qn,qn,qn,qn] [] [(t0,m0),(t1,m1)]
def l_sim_l51_X (t0 t1:Nat) (sl:Int) (sc:Int→Int) (m0:OMem) (m1:OMem) (x0 x2 x4 x6 x7 x8 x9 x10 x12 x13 x15 x16 x17 x18:Int):(Int)→Nat→RTL:=fun e n=>match e with | y19=>RL sl sc n 6 87 [qj x0,qn,qj x2,qn,qj x4,qn,qi x6,qi x7,qi x8,qi x9,qj x10,qn,qi x12,qj x13,qn,qi x15,qi x16,qi x17,qi x18,qi y19,qn,qn,qn,qn,qn,qn,qn] [] [(t0,m0),(t1,m1)]
def l_sim_l51 (sl:Int) (sc:Int→Int) (m0:OMem) (m1:OMem) (x0 x2 x4 x6 x7 x8 x9 x10 x12 x13 x15 x16 x17 x18:Int):Int×Int×Int→Option ((Int×Int×Int)⊕((Int))):=fun (x19,x20,x22)=>if x22<x15 then ((l_mlOf sl sc x9 (w32 (and64 x20 7)) m0 m1).bind fun r_212=>(some (.inl (w32 (x19+r_212),ushr64 x20 3,w32 (x22+1))))) else (some (.inr x19))
theorem l_sim_l51_ok (t0 t1:Nat) (sl:Int) (sc:Int→Int) (m0:OMem) (m1:OMem) (x0 x2 x4 x6 x7 x8 x9 x10 x12 x13 x15 x16 x17 x18:Int) (x19 x20 x22:Int):Sim (l_sim_l51 sl sc m0 m1 x0 x2 x4 x6 x7 x8 x9 x10 x12 x13 x15 x16 x17 x18 (x19,x20,x22)) (Sum.elim (l_sim_l51_H t0 t1 sl sc m0 m1 x0 x2 x4 x6 x7 x8 x9 x10 x12 x13 x15 x16 x17 x18 ) (l_sim_l51_X t0 t1 sl sc m0 m1 x0 x2 x4 x6 x7 x8 x9 x10 x12 x13 x15 x16 x17 x18 )) (l_sim_l51_H t0 t1 sl sc m0 m1 x0 x2 x4 x6 x7 x8 x9 x10 x12 x13 x15 x16 x17 x18 (x19,x20,x22)) :=
 Yi 3 6 58 87 [qj x0,qn,qj x2,qn,qj x4,qn,qi x6,qi x7,qi x8,qi x9,qj x10,qn,qi x12,qj x13,qn,qi x15,qi x16,qi x17,qi x18,qi x19,qj x20,qn,qi x22,qn,qn,qn,qn] [] [(t0,m0),(t1,m1)] rfl (Yh 5 6 68 [qj x0,qn,qj x2,qn,qj x4,qn,qi x6,qi x7,qi x8,qi x9,qj x10,qn,qi x12,qj x13,qn,qi x15,qi x16,qi x17,qi x18,qi x19,qj x20,qn,qi x22,qn,qn,qn,qn] [vl (and64 x20 7),vi x9,vi x19] [(t0,m0),(t1,m1)] rfl (Sh 2 (fun n=>(RL sl sc n 4 0 [qi x9,qi (w32 (and64 x20 7))] [] [(t0,m0),(t1,m1)]).bind fun y=>RLr sl sc n 6 72 [qj x0,qn,qj x2,qn,qj x4,qn,qi x6,qi x7,qi x8,qi x9,qj x10,qn,qi x12,qj x13,qn,qi x15,qi x16,qi x17,qi x18,qi x19,qj x20,qn,qi x22,qn,qn,qn,qn] [vi x19] y) rfl (Sim.call (l_mlOf_ok t0 t1 sl sc x9 (w32 (and64 x20 7)) m0 m1) (fun _ _=>rfl) (runL_mono _ _ _ _ _) (fun _=>runL_mono _ _ _ _ _) (fun r_212=>Yh 0 6 72 [qj x0,qn,qj x2,qn,qj x4,qn,qi x6,qi x7,qi x8,qi x9,qj x10,qn,qi x12,qj x13,qn,qi x15,qi x16,qi x17,qi x18,qi x19,qj x20,qn,qi x22,qn,qn,qn,qn] [vi r_212,vi x19] [(t0,m0),(t1,m1)] rfl (Yh 4 6 78 [qj x0,qn,qj x2,qn,qj x4,qn,qi x6,qi x7,qi x8,qi x9,qj x10,qn,qi x12,qj x13,qn,qi x15,qi x16,qi x17,qi x18,qi (w32 (x19+r_212)),qj x20,qn,qi x22,qn,qn,qn,qn] [vi 3,vl x20] [(t0,m0),(t1,m1)] rfl (Yh 2 6 81 [qj x0,qn,qj x2,qn,qj x4,qn,qi x6,qi x7,qi x8,qi x9,qj x10,qn,qi x12,qj x13,qn,qi x15,qi x16,qi x17,qi x18,qi (w32 (x19+r_212)),qj (ushr64 x20 3),qn,qi x22,qn,qn,qn,qn] [] [(t0,m0),(t1,m1)] rfl (Zp 2 rfl))))))) (Sv rfl rfl)
def l_sim_l225_H (t0 t1:Nat) (sl:Int) (sc:Int→Int) (m0:OMem) (m1:OMem) (x0 x2 x4 x6 x7 x8 x9 x10 x12 x15 x16 x17 x18 x24 x25:Int):Int×Int→Nat→RTL:=fun (x13,x26) n=>RL sl sc n 6 225 [qj x0,qn,qj x2,qn,qj x4,qn,qi x6,qi x7,qi x8,qi x9,qj x10,qn,qi x12,qj x13,qn,qi x15,qi x16,qi x17,qi x18,qn,qn,qn,qn,qn,qi x24,qi x25,qi x26] [] [(t0,m0),(t1,m1)]
def l_sim_l225_X (t0 t1:Nat) (sl:Int) (sc:Int→Int) (m0:OMem) (m1:OMem) (x0 x2 x4 x6 x7 x8 x9 x10 x12 x15 x16 x17 x18 x24 x25:Int):(Int)→Nat→RTL:=fun e n=>match e with | y13=>RL sl sc n 6 256 [qj x0,qn,qj x2,qn,qj x4,qn,qi x6,qi x7,qi x8,qi x9,qj x10,qn,qi x12,qj y13,qn,qi x15,qi x16,qi x17,qi x18,qn,qn,qn,qn,qn,qn,qi x25,qn] [] [(t0,m0),(t1,m1)]
def l_sim_l225 (sl:Int) (sc:Int→Int) (m0:OMem) (m1:OMem) (x0 x2 x4 x6 x7 x8 x9 x10 x12 x15 x16 x17 x18 x24 x25:Int):Int×Int→Option ((Int×Int)⊕((Int))):=fun (x13,x26)=>if x26<0 then (some (.inr x13)) else (some (.inl (or64 (shl64 x13 3) (and32 (shr32 x24 (w32 (4+(w32 (3*x26))))) 7),w32 (x26+(-1)))))
theorem l_sim_l225_ok (t0 t1:Nat) (sl:Int) (sc:Int→Int) (m0:OMem) (m1:OMem) (x0 x2 x4 x6 x7 x8 x9 x10 x12 x15 x16 x17 x18 x24 x25:Int) (x13 x26:Int):Sim (l_sim_l225 sl sc m0 m1 x0 x2 x4 x6 x7 x8 x9 x10 x12 x15 x16 x17 x18 x24 x25 (x13,x26)) (Sum.elim (l_sim_l225_H t0 t1 sl sc m0 m1 x0 x2 x4 x6 x7 x8 x9 x10 x12 x15 x16 x17 x18 x24 x25 ) (l_sim_l225_X t0 t1 sl sc m0 m1 x0 x2 x4 x6 x7 x8 x9 x10 x12 x15 x16 x17 x18 x24 x25 )) (l_sim_l225_H t0 t1 sl sc m0 m1 x0 x2 x4 x6 x7 x8 x9 x10 x12 x15 x16 x17 x18 x24 x25 (x13,x26)) :=
 Yi 2 6 256 230 [qj x0,qn,qj x2,qn,qj x4,qn,qi x6,qi x7,qi x8,qi x9,qj x10,qn,qi x12,qj x13,qn,qi x15,qi x16,qi x17,qi x18,qn,qn,qn,qn,qn,qi x24,qi x25,qi x26] [] [(t0,m0),(t1,m1)] rfl (Sv rfl rfl) (Yh 7 6 240 [qj x0,qn,qj x2,qn,qj x4,qn,qi x6,qi x7,qi x8,qi x9,qj x10,qn,qi x12,qj x13,qn,qi x15,qi x16,qi x17,qi x18,qn,qn,qn,qn,qn,qi x24,qi x25,qi x26] [vi x26,vi 3,vi 4,vi x24,vl (shl64 x13 3)] [(t0,m0),(t1,m1)] rfl (Yh 2 6 242 [qj x0,qn,qj x2,qn,qj x4,qn,qi x6,qi x7,qi x8,qi x9,qj x10,qn,qi x12,qj x13,qn,qi x15,qi x16,qi x17,qi x18,qn,qn,qn,qn,qn,qi x24,qi x25,qi x26] [vi (w32 (4+(w32 (3*x26)))),vi x24,vl (shl64 x13 3)] [(t0,m0),(t1,m1)] rfl (Yh 2 6 245 [qj x0,qn,qj x2,qn,qj x4,qn,qi x6,qi x7,qi x8,qi x9,qj x10,qn,qi x12,qj x13,qn,qi x15,qi x16,qi x17,qi x18,qn,qn,qn,qn,qn,qi x24,qi x25,qi x26] [vi 7,vi (shr32 x24 (w32 (4+(w32 (3*x26))))),vl (shl64 x13 3)] [(t0,m0),(t1,m1)] rfl (Yh 2 6 247 [qj x0,qn,qj x2,qn,qj x4,qn,qi x6,qi x7,qi x8,qi x9,qj x10,qn,qi x12,qj x13,qn,qi x15,qi x16,qi x17,qi x18,qn,qn,qn,qn,qn,qi x24,qi x25,qi x26] [vl (and32 (shr32 x24 (w32 (4+(w32 (3*x26))))) 7),vl (shl64 x13 3)] [(t0,m0),(t1,m1)] rfl (Yh 2 6 250 [qj x0,qn,qj x2,qn,qj x4,qn,qi x6,qi x7,qi x8,qi x9,qj x10,qn,qi x12,qj (or64 (shl64 x13 3) (and32 (shr32 x24 (w32 (4+(w32 (3*x26))))) 7)),qn,qi x15,qi x16,qi x17,qi x18,qn,qn,qn,qn,qn,qi x24,qi x25,qi x26] [] [(t0,m0),(t1,m1)] rfl (Zp 2 rfl))))))
def l_sim_b272 (sl:Int) (sc:Int→Int) (x0 x2 x4 x6 x7 x8 x9 x10 x12 x13 x15 x16 x17 x18:Int) (m0 m1:OMem):Option ((Int×Int×Int×Int×Int)⊕((Int)⊕(Unit)⊕(Unit)⊕(Unit)⊕(Unit)⊕(Unit)⊕(Unit)⊕(Unit))):=some (.inl (x13,x15,x16,x17,w32 (x18+1)))
theorem l_sim_b272_ok (t0 t1:Nat) (sl:Int) (sc:Int→Int) (x0 x2 x4 x6 x7 x8 x9 x10 x12 x13 x15 x16 x17 x18:Int) (m0 m1:OMem):Sim (l_sim_b272 sl sc x0 x2 x4 x6 x7 x8 x9 x10 x12 x13 x15 x16 x17 x18 m0 m1) (Sum.elim (l_sim_l15_H t0 t1 sl sc m0 m1 x0 x2 x4 x6 x7 x8 x9 x10 x12 ) (l_sim_l15_X t0 t1 sl sc m0 m1 x0 x2 x4 x6 x7 x8 x9 x10 x12 )) (fun n=>RL sl sc n 6 272 [qj x0,qn,qj x2,qn,qj x4,qn,qi x6,qi x7,qi x8,qi x9,qj x10,qn,qi x12,qj x13,qn,qi x15,qi x16,qi x17,qi x18,qn,qn,qn,qn,qn,qn,qn,qn] [] [(t0,m0),(t1,m1)]) :=
 Zp 2 rfl
def l_sim_l15 (sl:Int) (sc:Int→Int) (m0:OMem) (m1:OMem) (x0 x2 x4 x6 x7 x8 x9 x10 x12:Int):Int×Int×Int×Int×Int→Option ((Int×Int×Int×Int×Int)⊕((Int)⊕(Unit)⊕(Unit)⊕(Unit)⊕(Unit)⊕(Unit)⊕(Unit)⊕(Unit))):=fun (x13,x15,x16,x17,x18)=>if x18<200 then (if x15=0 then (some (.inr (.inl x16))) else ((lp (l_sim_l51 sl sc m0 m1 x0 x2 x4 x6 x7 x8 x9 x10 x12 x13 x15 x16 x17 x18) NN (0,x13,0)).bind fun x19_213=>(if w32 (x8 - x16)<x19_213 then (some (.inr (.inr (.inl ())))) else (if w32 (and64 x13 7)<4 then (if x17=x12 then (some (.inr (.inr (.inr (.inr (.inl ())))))) else (if w32 (and64 (ushr64 x10 (w32 (4*x17))) 15)<x6 then ((l_rc sl sc x0 x2 x4 (w32 (and64 (ushr64 x10 (w32 (4*x17))) 15)) m0 m1).bind fun r_214=>(if and32 r_214 3=w32 (and64 x13 7) then ((lp (l_sim_l225 sl sc m0 m1 x0 x2 x4 x6 x7 x8 x9 x10 x12 (w32 (x15+(-1))) x16 (w32 (x17+1)) x18 r_214 (and32 (shr32 r_214 2) 3)) NN (ushr64 x13 3,w32 ((and32 (shr32 r_214 2) 3) - 1))).bind fun x13_215=>(if 20<w32 ((w32 (x15+(-1)))+(and32 (shr32 r_214 2) 3)) then (some (.inr (.inr (.inr (.inr (.inr (.inr (.inr (.inl ()))))))))) else (l_sim_b272 sl sc x0 x2 x4 x6 x7 x8 x9 x10 x12 x13_215 (w32 ((w32 (x15+(-1)))+(and32 (shr32 r_214 2) 3))) x16 (w32 (x17+1)) x18 m0 m1))) else (some (.inr (.inr (.inr (.inr (.inr (.inr (.inl ())))))))))) else (some (.inr (.inr (.inr (.inr (.inr (.inl ()))))))))) else (if x16<x8 then (if and32 (shr32 x7 (w32 (2*x16))) 3=w32 ((w32 (and64 x13 7)) - 4) then (l_sim_b272 sl sc x0 x2 x4 x6 x7 x8 x9 x10 x12 (ushr64 x13 3) (w32 (x15+(-1))) (w32 (x16+1)) x17 x18 m0 m1) else (some (.inr (.inr (.inr (.inl ())))))) else (some (.inr (.inr (.inr (.inl ())))))))))) else (some (.inr (.inr (.inr (.inr (.inr (.inr (.inr (.inr ())))))))))
theorem l_sim_l15_ok (t0 t1:Nat) (sl:Int) (sc:Int→Int) (m0:OMem) (m1:OMem) (x0 x2 x4 x6 x7 x8 x9 x10 x12:Int) (x13 x15 x16 x17 x18:Int):Sim (l_sim_l15 sl sc m0 m1 x0 x2 x4 x6 x7 x8 x9 x10 x12 (x13,x15,x16,x17,x18)) (Sum.elim (l_sim_l15_H t0 t1 sl sc m0 m1 x0 x2 x4 x6 x7 x8 x9 x10 x12 ) (l_sim_l15_X t0 t1 sl sc m0 m1 x0 x2 x4 x6 x7 x8 x9 x10 x12 )) (l_sim_l15_H t0 t1 sl sc m0 m1 x0 x2 x4 x6 x7 x8 x9 x10 x12 (x13,x15,x16,x17,x18)) :=
 Yi 3 6 23 278 [qj x0,qn,qj x2,qn,qj x4,qn,qi x6,qi x7,qi x8,qi x9,qj x10,qn,qi x12,qj x13,qn,qi x15,qi x16,qi x17,qi x18,qn,qn,qn,qn,qn,qn,qn,qn] [] [(t0,m0),(t1,m1)] rfl (Yi 2 6 28 41 [qj x0,qn,qj x2,qn,qj x4,qn,qi x6,qi x7,qi x8,qi x9,qj x10,qn,qi x12,qj x13,qn,qi x15,qi x16,qi x17,qi x18,qn,qn,qn,qn,qn,qn,qn,qn] [] [(t0,m0),(t1,m1)] rfl (Sv rfl rfl) (Yh 4 6 48 [qj x0,qn,qj x2,qn,qj x4,qn,qi x6,qi x7,qi x8,qi x9,qj x10,qn,qi x12,qj x13,qn,qi x15,qi x16,qi x17,qi x18,qi 0,qj x13,qn,qn,qn,qn,qn,qn] [] [(t0,m0),(t1,m1)] rfl (Zb 2 (Sim.lp (σ:=Int×Int×Int) (fun ⟨x19L,x20L,x22L⟩=>l_sim_l51_ok t0 t1 sl sc m0 m1 x0 x2 x4 x6 x7 x8 x9 x10 x12 x13 x15 x16 x17 x18 x19L x20L x22L) NN (0,x13,0)) rfl (fun x19_213=>Yi 5 6 97 99 [qj x0,qn,qj x2,qn,qj x4,qn,qi x6,qi x7,qi x8,qi x9,qj x10,qn,qi x12,qj x13,qn,qi x15,qi x16,qi x17,qi x18,qi x19_213,qn,qn,qn,qn,qn,qn,qn] [] [(t0,m0),(t1,m1)] rfl (Sv rfl rfl) (Yh 3 6 105 [qj x0,qn,qj x2,qn,qj x4,qn,qi x6,qi x7,qi x8,qi x9,qj x10,qn,qi x12,qj x13,qn,qi x15,qi x16,qi x17,qi x18,qn,qn,qn,qn,qn,qn,qn,qn] [vl (and64 x13 7)] [(t0,m0),(t1,m1)] rfl (Yh 4 6 111 [qj x0,qn,qj x2,qn,qj x4,qn,qi x6,qi x7,qi x8,qi x9,qj x10,qn,qi x12,qj x13,qn,qi x15,qi x16,qi x17,qi x18,qn,qn,qn,qi (w32 (and64 x13 7)),qn,qn,qn,qn] [vi 3,vl x13] [(t0,m0),(t1,m1)] rfl (Yh 2 6 114 [qj x0,qn,qj x2,qn,qj x4,qn,qi x6,qi x7,qi x8,qi x9,qj x10,qn,qi x12,qj (ushr64 x13 3),qn,qi x15,qi x16,qi x17,qi x18,qn,qn,qn,qi (w32 (and64 x13 7)),qn,qn,qn,qn] [] [(t0,m0),(t1,m1)] rfl (Yi 4 6 154 123 [qj x0,qn,qj x2,qn,qj x4,qn,qi x6,qi x7,qi x8,qi x9,qj x10,qn,qi x12,qj (ushr64 x13 3),qn,qi (w32 (x15+(-1))),qi x16,qi x17,qi x18,qn,qn,qn,qi (w32 (and64 x13 7)),qn,qn,qn,qn] [] [(t0,m0),(t1,m1)] rfl (Yi 3 6 161 163 [qj x0,qn,qj x2,qn,qj x4,qn,qi x6,qi x7,qi x8,qi x9,qj x10,qn,qi x12,qj (ushr64 x13 3),qn,qi (w32 (x15+(-1))),qi x16,qi x17,qi x18,qn,qn,qn,qi (w32 (and64 x13 7)),qn,qn,qn,qn] [] [(t0,m0),(t1,m1)] rfl (Sv rfl rfl) (Yh 4 6 169 [qj x0,qn,qj x2,qn,qj x4,qn,qi x6,qi x7,qi x8,qi x9,qj x10,qn,qi x12,qj (ushr64 x13 3),qn,qi (w32 (x15+(-1))),qi x16,qi x17,qi x18,qn,qn,qn,qi (w32 (and64 x13 7)),qn,qn,qn,qn] [vi (w32 (4*x17)),vl x10] [(t0,m0),(t1,m1)] rfl (Yh 2 6 173 [qj x0,qn,qj x2,qn,qj x4,qn,qi x6,qi x7,qi x8,qi x9,qj x10,qn,qi x12,qj (ushr64 x13 3),qn,qi (w32 (x15+(-1))),qi x16,qi x17,qi x18,qn,qn,qn,qi (w32 (and64 x13 7)),qn,qn,qn,qn] [vl 15,vl (ushr64 x10 (w32 (4*x17)))] [(t0,m0),(t1,m1)] rfl (Yh 1 6 174 [qj x0,qn,qj x2,qn,qj x4,qn,qi x6,qi x7,qi x8,qi x9,qj x10,qn,qi x12,qj (ushr64 x13 3),qn,qi (w32 (x15+(-1))),qi x16,qi x17,qi x18,qn,qn,qn,qi (w32 (and64 x13 7)),qn,qn,qn,qn] [vl (and64 (ushr64 x10 (w32 (4*x17))) 15)] [(t0,m0),(t1,m1)] rfl (Yh 3 6 180 [qj x0,qn,qj x2,qn,qj x4,qn,qi x6,qi x7,qi x8,qi x9,qj x10,qn,qi x12,qj (ushr64 x13 3),qn,qi (w32 (x15+(-1))),qi x16,qi (w32 (x17+1)),qi x18,qn,qn,qn,qi (w32 (and64 x13 7)),qi (w32 (and64 (ushr64 x10 (w32 (4*x17))) 15)),qn,qn,qn] [] [(t0,m0),(t1,m1)] rfl (Yi 3 6 189 187 [qj x0,qn,qj x2,qn,qj x4,qn,qi x6,qi x7,qi x8,qi x9,qj x10,qn,qi x12,qj (ushr64 x13 3),qn,qi (w32 (x15+(-1))),qi x16,qi (w32 (x17+1)),qi x18,qn,qn,qn,qi (w32 (and64 x13 7)),qi (w32 (and64 (ushr64 x10 (w32 (4*x17))) 15)),qn,qn,qn] [] [(t0,m0),(t1,m1)] rfl (Sh 5 (fun n=>(RL sl sc n 3 0 [qj x0,qn,qj x2,qn,qj x4,qn,qi (w32 (and64 (ushr64 x10 (w32 (4*x17))) 15)),qn,qn] [] [(t0,m0),(t1,m1)]).bind fun y=>RLr sl sc n 6 198 [qj x0,qn,qj x2,qn,qj x4,qn,qi x6,qi x7,qi x8,qi x9,qj x10,qn,qi x12,qj (ushr64 x13 3),qn,qi (w32 (x15+(-1))),qi x16,qi (w32 (x17+1)),qi x18,qn,qn,qn,qi (w32 (and64 x13 7)),qi (w32 (and64 (ushr64 x10 (w32 (4*x17))) 15)),qn,qn,qn] [] y) rfl (Sim.call (l_rc_ok t0 t1 sl sc x0 x2 x4 (w32 (and64 (ushr64 x10 (w32 (4*x17))) 15)) m0 m1) (fun _ _=>rfl) (runL_mono _ _ _ _ _) (fun _=>runL_mono _ _ _ _ _) (fun r_214=>Yh 0 6 198 [qj x0,qn,qj x2,qn,qj x4,qn,qi x6,qi x7,qi x8,qi x9,qj x10,qn,qi x12,qj (ushr64 x13 3),qn,qi (w32 (x15+(-1))),qi x16,qi (w32 (x17+1)),qi x18,qn,qn,qn,qi (w32 (and64 x13 7)),qi (w32 (and64 (ushr64 x10 (w32 (4*x17))) 15)),qn,qn,qn] [vi r_214] [(t0,m0),(t1,m1)] rfl (Yh 5 6 206 [qj x0,qn,qj x2,qn,qj x4,qn,qi x6,qi x7,qi x8,qi x9,qj x10,qn,qi x12,qj (ushr64 x13 3),qn,qi (w32 (x15+(-1))),qi x16,qi (w32 (x17+1)),qi x18,qn,qn,qn,qi (w32 (and64 x13 7)),qi (w32 (and64 (ushr64 x10 (w32 (4*x17))) 15)),qi r_214,qn,qn] [vi (w32 (and64 x13 7)),vi (and32 r_214 3)] [(t0,m0),(t1,m1)] rfl (Yi 1 6 211 209 [qj x0,qn,qj x2,qn,qj x4,qn,qi x6,qi x7,qi x8,qi x9,qj x10,qn,qi x12,qj (ushr64 x13 3),qn,qi (w32 (x15+(-1))),qi x16,qi (w32 (x17+1)),qi x18,qn,qn,qn,qi (w32 (and64 x13 7)),qi (w32 (and64 (ushr64 x10 (w32 (4*x17))) 15)),qi r_214,qn,qn] [] [(t0,m0),(t1,m1)] rfl (Yh 4 6 216 [qj x0,qn,qj x2,qn,qj x4,qn,qi x6,qi x7,qi x8,qi x9,qj x10,qn,qi x12,qj (ushr64 x13 3),qn,qi (w32 (x15+(-1))),qi x16,qi (w32 (x17+1)),qi x18,qn,qn,qn,qn,qn,qi r_214,qn,qn] [vi 3,vi (shr32 r_214 2)] [(t0,m0),(t1,m1)] rfl (Yh 2 6 219 [qj x0,qn,qj x2,qn,qj x4,qn,qi x6,qi x7,qi x8,qi x9,qj x10,qn,qi x12,qj (ushr64 x13 3),qn,qi (w32 (x15+(-1))),qi x16,qi (w32 (x17+1)),qi x18,qn,qn,qn,qn,qn,qi r_214,qi (and32 (shr32 r_214 2) 3),qn] [] [(t0,m0),(t1,m1)] rfl (Zb 4 (Sim.lp (σ:=Int×Int) (fun ⟨x13L,x26L⟩=>l_sim_l225_ok t0 t1 sl sc m0 m1 x0 x2 x4 x6 x7 x8 x9 x10 x12 (w32 (x15+(-1))) x16 (w32 (x17+1)) x18 r_214 (and32 (shr32 r_214 2) 3) x13L x26L) NN (ushr64 x13 3,w32 ((and32 (shr32 r_214 2) 3) - 1))) rfl (fun x13_215=>Yh 5 6 265 [qj x0,qn,qj x2,qn,qj x4,qn,qi x6,qi x7,qi x8,qi x9,qj x10,qn,qi x12,qj x13_215,qn,qi (w32 ((w32 (x15+(-1)))+(and32 (shr32 r_214 2) 3))),qi x16,qi (w32 (x17+1)),qi x18,qn,qn,qn,qn,qn,qn,qi (and32 (shr32 r_214 2) 3),qn] [vi (w32 ((w32 (x15+(-1)))+(and32 (shr32 r_214 2) 3)))] [(t0,m0),(t1,m1)] rfl (Yi 2 6 270 272 [qj x0,qn,qj x2,qn,qj x4,qn,qi x6,qi x7,qi x8,qi x9,qj x10,qn,qi x12,qj x13_215,qn,qi (w32 ((w32 (x15+(-1)))+(and32 (shr32 r_214 2) 3))),qi x16,qi (w32 (x17+1)),qi x18,qn,qn,qn,qn,qn,qn,qi (and32 (shr32 r_214 2) 3),qn] [] [(t0,m0),(t1,m1)] rfl (Sv rfl rfl) (Sim.jmp (l_sim_b272_ok t0 t1 sl sc x0 x2 x4 x6 x7 x8 x9 x10 x12 x13_215 (w32 ((w32 (x15+(-1)))+(and32 (shr32 r_214 2) 3))) x16 (w32 (x17+1)) x18 m0 m1) rfl (fun _=>rfl))))))) (Sv rfl rfl)))))) (Sv rfl rfl))))))) (Yi 3 6 130 152 [qj x0,qn,qj x2,qn,qj x4,qn,qi x6,qi x7,qi x8,qi x9,qj x10,qn,qi x12,qj (ushr64 x13 3),qn,qi (w32 (x15+(-1))),qi x16,qi x17,qi x18,qn,qn,qn,qi (w32 (and64 x13 7)),qn,qn,qn,qn] [] [(t0,m0),(t1,m1)] rfl (Yh 4 6 136 [qj x0,qn,qj x2,qn,qj x4,qn,qi x6,qi x7,qi x8,qi x9,qj x10,qn,qi x12,qj (ushr64 x13 3),qn,qi (w32 (x15+(-1))),qi x16,qi x17,qi x18,qn,qn,qn,qi (w32 (and64 x13 7)),qn,qn,qn,qn] [vi (w32 (2*x16)),vi x7] [(t0,m0),(t1,m1)] rfl (Yh 2 6 138 [qj x0,qn,qj x2,qn,qj x4,qn,qi x6,qi x7,qi x8,qi x9,qj x10,qn,qi x12,qj (ushr64 x13 3),qn,qi (w32 (x15+(-1))),qi x16,qi x17,qi x18,qn,qn,qn,qi (w32 (and64 x13 7)),qn,qn,qn,qn] [vi 3,vi (shr32 x7 (w32 (2*x16)))] [(t0,m0),(t1,m1)] rfl (Yh 4 6 143 [qj x0,qn,qj x2,qn,qj x4,qn,qi x6,qi x7,qi x8,qi x9,qj x10,qn,qi x12,qj (ushr64 x13 3),qn,qi (w32 (x15+(-1))),qi x16,qi x17,qi x18,qn,qn,qn,qi (w32 (and64 x13 7)),qn,qn,qn,qn] [vi (w32 ((w32 (and64 x13 7)) - 4)),vi (and32 (shr32 x7 (w32 (2*x16))) 3)] [(t0,m0),(t1,m1)] rfl (Yi 1 6 146 152 [qj x0,qn,qj x2,qn,qj x4,qn,qi x6,qi x7,qi x8,qi x9,qj x10,qn,qi x12,qj (ushr64 x13 3),qn,qi (w32 (x15+(-1))),qi x16,qi x17,qi x18,qn,qn,qn,qi (w32 (and64 x13 7)),qn,qn,qn,qn] [] [(t0,m0),(t1,m1)] rfl (Ze 2 (l_sim_b272_ok t0 t1 sl sc x0 x2 x4 x6 x7 x8 x9 x10 x12 (ushr64 x13 3) (w32 (x15+(-1))) (w32 (x16+1)) x17 x18 m0 m1) rfl) (Sv rfl rfl))))) (Sv rfl rfl)))))))))) (Sv rfl rfl)
def l_sim_b40 (sl:Int) (sc:Int→Int) (s0:Int) (m0 m1:OMem):Option (Int):=some s0
theorem l_sim_b40_ok (t0 t1:Nat) (sl:Int) (sc:Int→Int) (s0:Int) (m0 m1:OMem):Sim (l_sim_b40 sl sc s0 m0 m1) (fun r _=>some (some (vi r),[(t0,m0),(t1,m1)])) (fun n=>RL sl sc n 6 40 [qn,qn,qn,qn,qn,qn,qn,qn,qn,qn,qn,qn,qn,qn,qn,qn,qn,qn,qn,qn,qn,qn,qn,qn,qn,qn,qn] [vi s0] [(t0,m0),(t1,m1)]) :=
 Zp 1 rfl
def l_sim_b152 (sl:Int) (sc:Int→Int) (m0 m1:OMem):Option (Int):=some 0
theorem l_sim_b152_ok (t0 t1:Nat) (sl:Int) (sc:Int→Int) (m0 m1:OMem):Sim (l_sim_b152 sl sc m0 m1) (fun r _=>some (some (vi r),[(t0,m0),(t1,m1)])) (fun n=>RL sl sc n 6 152 [qn,qn,qn,qn,qn,qn,qn,qn,qn,qn,qn,qn,qn,qn,qn,qn,qn,qn,qn,qn,qn,qn,qn,qn,qn,qn,qn] [] [(t0,m0),(t1,m1)]) :=
 Zp 2 rfl
def l_sim (sl:Int) (sc:Int→Int) (x0 x2 x4 x6 x7 x8 x9 x10 x12:Int) (m0 m1:OMem):Option (Int):=(lp (l_sim_l15 sl sc m0 m1 x0 x2 x4 x6 x7 x8 x9 x10 x12) NN (0,1,0,0,0)).bind fun e=>match e with | (.inl x16_216)=>(if x16_216=x8 then (l_sim_b40 sl sc 1 m0 m1) else (l_sim_b40 sl sc 0 m0 m1)) | (.inr (.inl _))=>(some 0) | (.inr (.inr (.inl _)))=>(l_sim_b152 sl sc m0 m1) | (.inr (.inr (.inr (.inl _))))=>(some 2) | (.inr (.inr (.inr (.inr (.inl _)))))=>(some 0) | (.inr (.inr (.inr (.inr (.inr (.inl _))))))=>(some 0) | (.inr (.inr (.inr (.inr (.inr (.inr (.inl _)))))))=>(some 3) | (.inr (.inr (.inr (.inr (.inr (.inr (.inr _)))))))=>(some 3)
theorem l_sim_ok (t0 t1:Nat) (sl:Int) (sc:Int→Int) (x0 x2 x4 x6 x7 x8 x9 x10 x12:Int) (m0 m1:OMem):Sim (l_sim sl sc x0 x2 x4 x6 x7 x8 x9 x10 x12 m0 m1) (fun r _=>some (some (vi r),[(t0,m0),(t1,m1)])) (fun n=>RL sl sc n 6 0 [qj x0,qn,qj x2,qn,qj x4,qn,qi x6,qi x7,qi x8,qi x9,qj x10,qn,qi x12,qn,qn,qn,qn,qn,qn,qn,qn,qn,qn,qn,qn,qn,qn] [] [(t0,m0),(t1,m1)]) :=
 Yh 4 6 6 [qj x0,qn,qj x2,qn,qj x4,qn,qi x6,qi x7,qi x8,qi x9,qj x10,qn,qi x12,qj 0,qn,qi 1,qn,qn,qn,qn,qn,qn,qn,qn,qn,qn,qn] [] [(t0,m0),(t1,m1)] rfl (Zb 6 (Sim.lp (σ:=Int×Int×Int×Int×Int) (fun ⟨x13L,x15L,x16L,x17L,x18L⟩=>l_sim_l15_ok t0 t1 sl sc m0 m1 x0 x2 x4 x6 x7 x8 x9 x10 x12 x13L x15L x16L x17L x18L) NN (0,1,0,0,0)) rfl (fun e=>match e with | (.inl x16_216)=>Sh 3 (fun n=>if x16_216=x8 then RL sl sc n 6 35 [qn,qn,qn,qn,qn,qn,qn,qn,qi x8,qn,qn,qn,qn,qn,qn,qn,qi x16_216,qn,qn,qn,qn,qn,qn,qn,qn,qn,qn] [] [(t0,m0),(t1,m1)] else RL sl sc n 6 39 [qn,qn,qn,qn,qn,qn,qn,qn,qi x8,qn,qn,qn,qn,qn,qn,qn,qi x16_216,qn,qn,qn,qn,qn,qn,qn,qn,qn,qn] [] [(t0,m0),(t1,m1)]) rfl (Si (Sh 2 (fun n=>RL sl sc n 6 40 [qn,qn,qn,qn,qn,qn,qn,qn,qn,qn,qn,qn,qn,qn,qn,qn,qn,qn,qn,qn,qn,qn,qn,qn,qn,qn,qn] [vi 1] [(t0,m0),(t1,m1)]) rfl (l_sim_b40_ok t0 t1 sl sc 1 m0 m1)) (Sh 1 (fun n=>RL sl sc n 6 40 [qn,qn,qn,qn,qn,qn,qn,qn,qn,qn,qn,qn,qn,qn,qn,qn,qn,qn,qn,qn,qn,qn,qn,qn,qn,qn,qn] [vi 0] [(t0,m0),(t1,m1)]) rfl (l_sim_b40_ok t0 t1 sl sc 0 m0 m1))) | (.inr (.inl _))=>Sh 2 (fun _=>some (some (vi 0),[(t0,m0),(t1,m1)])) rfl Sp | (.inr (.inr (.inl _)))=>l_sim_b152_ok t0 t1 sl sc m0 m1 | (.inr (.inr (.inr (.inl _))))=>Sh 2 (fun _=>some (some (vi 2),[(t0,m0),(t1,m1)])) rfl Sp | (.inr (.inr (.inr (.inr (.inl _)))))=>Sh 2 (fun _=>some (some (vi 0),[(t0,m0),(t1,m1)])) rfl Sp | (.inr (.inr (.inr (.inr (.inr (.inl _))))))=>Sh 2 (fun _=>some (some (vi 0),[(t0,m0),(t1,m1)])) rfl Sp | (.inr (.inr (.inr (.inr (.inr (.inr (.inl _)))))))=>Sh 2 (fun _=>some (some (vi 3),[(t0,m0),(t1,m1)])) rfl Sp | (.inr (.inr (.inr (.inr (.inr (.inr (.inr _)))))))=>Sh 2 (fun _=>some (some (vi 3),[(t0,m0),(t1,m1)])) rfl Sp))
def l_enumerate_l12_H (t0 t1:Nat) (sl:Int) (sc:Int→Int) (m0:OMem) (m1:OMem) (x0 x2 x4 x6 x7 x8 x9:Int):Int×Int×Int×Int→Nat→RTL:=fun (x10,x12,x13,x15) n=>RL sl sc n 5 12 [qj x0,qn,qj x2,qn,qj x4,qn,qi x6,qi x7,qi x8,qi x9,qj x10,qn,qi x12,qj x13,qn,qi x15,qn,qn,qn,qn,qn] [] [(t0,m0),(t1,m1)]
def l_enumerate_l12_X (t0 t1:Nat) (sl:Int) (sc:Int→Int) (m0:OMem) (m1:OMem) (x0 x2 x4 x6 x7 x8 x9:Int):(Unit)⊕(Unit)⊕(Int)⊕(Unit)→Nat→RTL:=fun e n=>match e with | (.inl _)=>RL sl sc n 5 47 [qn,qn,qn,qn,qn,qn,qn,qn,qn,qn,qn,qn,qn,qn,qn,qn,qn,qn,qn,qn,qn] [] [(t0,m0),(t1,m1)] | (.inr (.inl _))=>RL sl sc n 5 64 [qn,qn,qn,qn,qn,qn,qn,qn,qn,qn,qn,qn,qn,qn,qn,qn,qn,qn,qn,qn,qn] [] [(t0,m0),(t1,m1)] | (.inr (.inr (.inl y13)))=>RL sl sc n 5 182 [qn,qn,qn,qn,qn,qn,qn,qn,qn,qn,qn,qn,qn,qj y13,qn,qn,qn,qn,qn,qn,qn] [] [(t0,m0),(t1,m1)] | (.inr (.inr (.inr _)))=>RL sl sc n 5 191 [qn,qn,qn,qn,qn,qn,qn,qn,qn,qn,qn,qn,qn,qn,qn,qn,qn,qn,qn,qn,qn] [] [(t0,m0),(t1,m1)]
def l_enumerate_b185 (sl:Int) (sc:Int→Int) (x0 x2 x4 x6 x7 x8 x9 x10 x12 x13 x15:Int) (m0 m1:OMem):Option ((Int×Int×Int×Int)⊕((Unit)⊕(Unit)⊕(Int)⊕(Unit))):=some (.inl (x10,x12,x13,w32 (x15+1)))
theorem l_enumerate_b185_ok (t0 t1:Nat) (sl:Int) (sc:Int→Int) (x0 x2 x4 x6 x7 x8 x9 x10 x12 x13 x15:Int) (m0 m1:OMem):Sim (l_enumerate_b185 sl sc x0 x2 x4 x6 x7 x8 x9 x10 x12 x13 x15 m0 m1) (Sum.elim (l_enumerate_l12_H t0 t1 sl sc m0 m1 x0 x2 x4 x6 x7 x8 x9 ) (l_enumerate_l12_X t0 t1 sl sc m0 m1 x0 x2 x4 x6 x7 x8 x9 )) (fun n=>RL sl sc n 5 185 [qj x0,qn,qj x2,qn,qj x4,qn,qi x6,qi x7,qi x8,qi x9,qj x10,qn,qi x12,qj x13,qn,qi x15,qn,qn,qn,qn,qn] [] [(t0,m0),(t1,m1)]) :=
 Zp 2 rfl
def l_enumerate_l92_H (t0 t1:Nat) (sl:Int) (sc:Int→Int) (m0:OMem) (m1:OMem) (x0 x2 x4 x6 x7 x8 x9 x13 x15 x17:Int):Int×Int×Int→Nat→RTL:=fun (x10,x12,x18) n=>RL sl sc n 5 92 [qj x0,qn,qj x2,qn,qj x4,qn,qi x6,qi x7,qi x8,qi x9,qj x10,qn,qi x12,qj x13,qn,qi x15,qn,qi x17,qi x18,qn,qn] [] [(t0,m0),(t1,m1)]
def l_enumerate_l92_X (t0 t1:Nat) (sl:Int) (sc:Int→Int) (m0:OMem) (m1:OMem) (x0 x2 x4 x6 x7 x8 x9 x13 x15 x17:Int):(Int×Int)⊕(Int×Int)→Nat→RTL:=fun e n=>match e with | (.inl (y10,y12))=>RL sl sc n 5 130 [qj x0,qn,qj x2,qn,qj x4,qn,qi x6,qi x7,qi x8,qi x9,qj y10,qn,qi y12,qj x13,qn,qi x15,qn,qn,qn,qn,qn] [] [(t0,m0),(t1,m1)] | (.inr (y10,y12))=>RL sl sc n 5 177 [qj x0,qn,qj x2,qn,qj x4,qn,qi x6,qi x7,qi x8,qi x9,qj y10,qn,qi y12,qj x13,qn,qi x15,qn,qi x17,qn,qn,qn] [] [(t0,m0),(t1,m1)]
def l_enumerate_l92 (sl:Int) (sc:Int→Int) (m0:OMem) (m1:OMem) (x0 x2 x4 x6 x7 x8 x9 x13 x15 x17:Int):Int×Int×Int→Option ((Int×Int×Int)⊕((Int×Int)⊕(Int×Int))):=fun (x10,x12,x18)=>if x18<17 then (if 0<x12 then (if lcm (w64 ((and64 (ushr64 x10 (w32 (4*(w32 (x12 - 1))))) 15)+1)) x6<0 then (some (.inr (.inl (x10,x12)))) else (some (.inl (and64 x10 (xor64 (shl64 15 (w32 (4*(w32 (x12 - 1))))) (-1)),w32 (x12+(-1)),w32 (x18+1))))) else (some (.inr (.inr (x10,x12))))) else (some (.inr (.inr (x10,x12))))
theorem l_enumerate_l92_ok (t0 t1:Nat) (sl:Int) (sc:Int→Int) (m0:OMem) (m1:OMem) (x0 x2 x4 x6 x7 x8 x9 x13 x15 x17:Int) (x10 x12 x18:Int):Sim (l_enumerate_l92 sl sc m0 m1 x0 x2 x4 x6 x7 x8 x9 x13 x15 x17 (x10,x12,x18)) (Sum.elim (l_enumerate_l92_H t0 t1 sl sc m0 m1 x0 x2 x4 x6 x7 x8 x9 x13 x15 x17 ) (l_enumerate_l92_X t0 t1 sl sc m0 m1 x0 x2 x4 x6 x7 x8 x9 x13 x15 x17 )) (l_enumerate_l92_H t0 t1 sl sc m0 m1 x0 x2 x4 x6 x7 x8 x9 x13 x15 x17 (x10,x12,x18)) :=
 Yi 3 5 99 177 [qj x0,qn,qj x2,qn,qj x4,qn,qi x6,qi x7,qi x8,qi x9,qj x10,qn,qi x12,qj x13,qn,qi x15,qn,qi x17,qi x18,qn,qn] [] [(t0,m0),(t1,m1)] rfl (Yi 2 5 104 177 [qj x0,qn,qj x2,qn,qj x4,qn,qi x6,qi x7,qi x8,qi x9,qj x10,qn,qi x12,qj x13,qn,qi x15,qn,qi x17,qi x18,qn,qn] [] [(t0,m0),(t1,m1)] rfl (Yh 5 5 111 [qj x0,qn,qj x2,qn,qj x4,qn,qi x6,qi x7,qi x8,qi x9,qj x10,qn,qi x12,qj x13,qn,qi x15,qn,qi x17,qi x18,qn,qn] [vi (w32 (x12 - 1)),vi 4,vl x10] [(t0,m0),(t1,m1)] rfl (Yh 1 5 112 [qj x0,qn,qj x2,qn,qj x4,qn,qi x6,qi x7,qi x8,qi x9,qj x10,qn,qi x12,qj x13,qn,qi x15,qn,qi x17,qi x18,qn,qn] [vi (w32 (4*(w32 (x12 - 1)))),vl x10] [(t0,m0),(t1,m1)] rfl (Yh 2 5 116 [qj x0,qn,qj x2,qn,qj x4,qn,qi x6,qi x7,qi x8,qi x9,qj x10,qn,qi x12,qj x13,qn,qi x15,qn,qi x17,qi x18,qn,qn] [vl 15,vl (ushr64 x10 (w32 (4*(w32 (x12 - 1)))))] [(t0,m0),(t1,m1)] rfl (Yh 2 5 119 [qj x0,qn,qj x2,qn,qj x4,qn,qi x6,qi x7,qi x8,qi x9,qj x10,qn,qi x12,qj x13,qn,qi x15,qn,qi x17,qi x18,qj (and64 (ushr64 x10 (w32 (4*(w32 (x12 - 1))))) 15),qn] [] [(t0,m0),(t1,m1)] rfl (Yh 5 5 126 [qj x0,qn,qj x2,qn,qj x4,qn,qi x6,qi x7,qi x8,qi x9,qj x10,qn,qi x12,qj x13,qn,qi x15,qn,qi x17,qi x18,qj (and64 (ushr64 x10 (w32 (4*(w32 (x12 - 1))))) 15),qn] [vl x6,vl (w64 ((and64 (ushr64 x10 (w32 (4*(w32 (x12 - 1))))) 15)+1))] [(t0,m0),(t1,m1)] rfl (Yi 2 5 130 149 [qj x0,qn,qj x2,qn,qj x4,qn,qi x6,qi x7,qi x8,qi x9,qj x10,qn,qi x12,qj x13,qn,qi x15,qn,qi x17,qi x18,qj (and64 (ushr64 x10 (w32 (4*(w32 (x12 - 1))))) 15),qn] [] [(t0,m0),(t1,m1)] rfl (Sv rfl rfl) (Yh 6 5 159 [qj x0,qn,qj x2,qn,qj x4,qn,qi x6,qi x7,qi x8,qi x9,qj x10,qn,qi x12,qj x13,qn,qi x15,qn,qi x17,qi x18,qn,qn] [vi (w32 (x12 - 1)),vi 4,vl 15,vl x10] [(t0,m0),(t1,m1)] rfl (Yh 1 5 160 [qj x0,qn,qj x2,qn,qj x4,qn,qi x6,qi x7,qi x8,qi x9,qj x10,qn,qi x12,qj x13,qn,qi x15,qn,qi x17,qi x18,qn,qn] [vi (w32 (4*(w32 (x12 - 1)))),vl 15,vl x10] [(t0,m0),(t1,m1)] rfl (Yh 2 5 164 [qj x0,qn,qj x2,qn,qj x4,qn,qi x6,qi x7,qi x8,qi x9,qj x10,qn,qi x12,qj x13,qn,qi x15,qn,qi x17,qi x18,qn,qn] [vl (-1),vl (shl64 15 (w32 (4*(w32 (x12 - 1))))),vl x10] [(t0,m0),(t1,m1)] rfl (Yh 1 5 165 [qj x0,qn,qj x2,qn,qj x4,qn,qi x6,qi x7,qi x8,qi x9,qj x10,qn,qi x12,qj x13,qn,qi x15,qn,qi x17,qi x18,qn,qn] [vl (xor64 (shl64 15 (w32 (4*(w32 (x12 - 1))))) (-1)),vl x10] [(t0,m0),(t1,m1)] rfl (Yh 2 5 168 [qj x0,qn,qj x2,qn,qj x4,qn,qi x6,qi x7,qi x8,qi x9,qj (and64 x10 (xor64 (shl64 15 (w32 (4*(w32 (x12 - 1))))) (-1))),qn,qi x12,qj x13,qn,qi x15,qn,qi x17,qi x18,qn,qn] [] [(t0,m0),(t1,m1)] rfl (Zp 3 rfl)))))))))))) (Sv rfl rfl)) (Sv rfl rfl)
def l_enumerate_b177 (sl:Int) (sc:Int→Int) (x0 x2 x4 x6 x7 x8 x9 x10 x12 x13 x15 x17:Int) (m0 m1:OMem):Option ((Int×Int×Int×Int)⊕((Unit)⊕(Unit)⊕(Int)⊕(Unit))):=if x17=0 then (some (.inr (.inr (.inr (.inl x13))))) else (l_enumerate_b185 sl sc x0 x2 x4 x6 x7 x8 x9 x10 x12 x13 x15 m0 m1)
theorem l_enumerate_b177_ok (t0 t1:Nat) (sl:Int) (sc:Int→Int) (x0 x2 x4 x6 x7 x8 x9 x10 x12 x13 x15 x17:Int) (m0 m1:OMem):Sim (l_enumerate_b177 sl sc x0 x2 x4 x6 x7 x8 x9 x10 x12 x13 x15 x17 m0 m1) (Sum.elim (l_enumerate_l12_H t0 t1 sl sc m0 m1 x0 x2 x4 x6 x7 x8 x9 ) (l_enumerate_l12_X t0 t1 sl sc m0 m1 x0 x2 x4 x6 x7 x8 x9 )) (fun n=>RL sl sc n 5 177 [qj x0,qn,qj x2,qn,qj x4,qn,qi x6,qi x7,qi x8,qi x9,qj x10,qn,qi x12,qj x13,qn,qi x15,qn,qi x17,qn,qn,qn] [] [(t0,m0),(t1,m1)]) :=
 Yi 2 5 182 185 [qj x0,qn,qj x2,qn,qj x4,qn,qi x6,qi x7,qi x8,qi x9,qj x10,qn,qi x12,qj x13,qn,qi x15,qn,qi x17,qn,qn,qn] [] [(t0,m0),(t1,m1)] rfl (Sv rfl rfl) (Sim.jmp (l_enumerate_b185_ok t0 t1 sl sc x0 x2 x4 x6 x7 x8 x9 x10 x12 x13 x15 m0 m1) rfl (fun _=>rfl))
def l_enumerate_b86 (sl:Int) (sc:Int→Int) (x0 x2 x4 x6 x7 x8 x9 x10 x12 x13 x15:Int) (m0 m1:OMem):Option ((Int×Int×Int×Int)⊕((Unit)⊕(Unit)⊕(Int)⊕(Unit))):=(lp (l_enumerate_l92 sl sc m0 m1 x0 x2 x4 x6 x7 x8 x9 x13 x15 0) NN (x10,x12,0)).bind fun e=>match e with | (.inl (x10_218,x12_219))=>(l_enumerate_b177 sl sc x0 x2 x4 x6 x7 x8 x9 (w64 (x10_218+(shl64 1 (w32 (4*(w32 (x12_219 - 1))))))) x12_219 x13 x15 1 m0 m1) | (.inr (x10_220,x12_221))=>(l_enumerate_b177 sl sc x0 x2 x4 x6 x7 x8 x9 x10_220 x12_221 x13 x15 0 m0 m1)
theorem l_enumerate_b86_ok (t0 t1:Nat) (sl:Int) (sc:Int→Int) (x0 x2 x4 x6 x7 x8 x9 x10 x12 x13 x15:Int) (m0 m1:OMem):Sim (l_enumerate_b86 sl sc x0 x2 x4 x6 x7 x8 x9 x10 x12 x13 x15 m0 m1) (Sum.elim (l_enumerate_l12_H t0 t1 sl sc m0 m1 x0 x2 x4 x6 x7 x8 x9 ) (l_enumerate_l12_X t0 t1 sl sc m0 m1 x0 x2 x4 x6 x7 x8 x9 )) (fun n=>RL sl sc n 5 86 [qj x0,qn,qj x2,qn,qj x4,qn,qi x6,qi x7,qi x8,qi x9,qj x10,qn,qi x12,qj x13,qn,qi x15,qn,qn,qn,qn,qn] [] [(t0,m0),(t1,m1)]) :=
 Zb 4 (Sim.lp (σ:=Int×Int×Int) (fun ⟨x10L,x12L,x18L⟩=>l_enumerate_l92_ok t0 t1 sl sc m0 m1 x0 x2 x4 x6 x7 x8 x9 x13 x15 0 x10L x12L x18L) NN (x10,x12,0)) rfl (fun e=>match e with | (.inl (⟨x10_218,x12_219⟩))=>Sh 6 (fun n=>RL sl sc n 5 138 [qj x0,qn,qj x2,qn,qj x4,qn,qi x6,qi x7,qi x8,qi x9,qj x10_218,qn,qi x12_219,qj x13,qn,qi x15,qn,qn,qn,qn,qn] [vi (w32 (x12_219 - 1)),vi 4,vl 1,vl x10_218] [(t0,m0),(t1,m1)]) rfl (Sh 1 (fun n=>RL sl sc n 5 139 [qj x0,qn,qj x2,qn,qj x4,qn,qi x6,qi x7,qi x8,qi x9,qj x10_218,qn,qi x12_219,qj x13,qn,qi x15,qn,qn,qn,qn,qn] [vi (w32 (4*(w32 (x12_219 - 1)))),vl 1,vl x10_218] [(t0,m0),(t1,m1)]) rfl (Sh 1 (fun n=>RL sl sc n 5 140 [qj x0,qn,qj x2,qn,qj x4,qn,qi x6,qi x7,qi x8,qi x9,qj x10_218,qn,qi x12_219,qj x13,qn,qi x15,qn,qn,qn,qn,qn] [vl (shl64 1 (w32 (4*(w32 (x12_219 - 1))))),vl x10_218] [(t0,m0),(t1,m1)]) rfl (Sh 2 (fun n=>RL sl sc n 5 143 [qj x0,qn,qj x2,qn,qj x4,qn,qi x6,qi x7,qi x8,qi x9,qj (w64 (x10_218+(shl64 1 (w32 (4*(w32 (x12_219 - 1))))))),qn,qi x12_219,qj x13,qn,qi x15,qn,qn,qn,qn,qn] [] [(t0,m0),(t1,m1)]) rfl (Sh 3 (fun n=>RL sl sc n 5 177 [qj x0,qn,qj x2,qn,qj x4,qn,qi x6,qi x7,qi x8,qi x9,qj (w64 (x10_218+(shl64 1 (w32 (4*(w32 (x12_219 - 1))))))),qn,qi x12_219,qj x13,qn,qi x15,qn,qi 1,qn,qn,qn] [] [(t0,m0),(t1,m1)]) rfl (l_enumerate_b177_ok t0 t1 sl sc x0 x2 x4 x6 x7 x8 x9 (w64 (x10_218+(shl64 1 (w32 (4*(w32 (x12_219 - 1))))))) x12_219 x13 x15 1 m0 m1))))) | (.inr (⟨x10_220,x12_221⟩))=>l_enumerate_b177_ok t0 t1 sl sc x0 x2 x4 x6 x7 x8 x9 x10_220 x12_221 x13 x15 0 m0 m1)
def l_enumerate_l12 (sl:Int) (sc:Int→Int) (m0:OMem) (m1:OMem) (x0 x2 x4 x6 x7 x8 x9:Int):Int×Int×Int×Int→Option ((Int×Int×Int×Int)⊕((Unit)⊕(Unit)⊕(Int)⊕(Unit))):=fun (x10,x12,x13,x15)=>if x15<20000 then ((l_sim sl sc x0 x2 x4 x6 x7 x8 x9 x10 x12 m0 m1).bind fun r_217=>(if r_217=3 then (some (.inr (.inl ()))) else (if r_217=2 then (if x12=16 then (some (.inr (.inr (.inl ())))) else (l_enumerate_b185 sl sc x0 x2 x4 x6 x7 x8 x9 x10 (w32 (x12+1)) x13 x15 m0 m1)) else (if r_217=1 then (l_enumerate_b86 sl sc x0 x2 x4 x6 x7 x8 x9 x10 x12 (w64 (x13+1)) x15 m0 m1) else (l_enumerate_b86 sl sc x0 x2 x4 x6 x7 x8 x9 x10 x12 x13 x15 m0 m1))))) else (some (.inr (.inr (.inr (.inr ())))))
theorem l_enumerate_l12_ok (t0 t1:Nat) (sl:Int) (sc:Int→Int) (m0:OMem) (m1:OMem) (x0 x2 x4 x6 x7 x8 x9:Int) (x10 x12 x13 x15:Int):Sim (l_enumerate_l12 sl sc m0 m1 x0 x2 x4 x6 x7 x8 x9 (x10,x12,x13,x15)) (Sum.elim (l_enumerate_l12_H t0 t1 sl sc m0 m1 x0 x2 x4 x6 x7 x8 x9 ) (l_enumerate_l12_X t0 t1 sl sc m0 m1 x0 x2 x4 x6 x7 x8 x9 )) (l_enumerate_l12_H t0 t1 sl sc m0 m1 x0 x2 x4 x6 x7 x8 x9 (x10,x12,x13,x15)) :=
 Yi 3 5 20 191 [qj x0,qn,qj x2,qn,qj x4,qn,qi x6,qi x7,qi x8,qi x9,qj x10,qn,qi x12,qj x13,qn,qi x15,qn,qn,qn,qn,qn] [] [(t0,m0),(t1,m1)] rfl (Sh 10 (fun n=>(RL sl sc n 6 0 [qj x0,qn,qj x2,qn,qj x4,qn,qi x6,qi x7,qi x8,qi x9,qj x10,qn,qi x12,qn,qn,qn,qn,qn,qn,qn,qn,qn,qn,qn,qn,qn,qn] [] [(t0,m0),(t1,m1)]).bind fun y=>RLr sl sc n 5 39 [qj x0,qn,qj x2,qn,qj x4,qn,qi x6,qi x7,qi x8,qi x9,qj x10,qn,qi x12,qj x13,qn,qi x15,qn,qn,qn,qn,qn] [] y) rfl (Sim.call (l_sim_ok t0 t1 sl sc x0 x2 x4 x6 x7 x8 x9 x10 x12 m0 m1) (fun _ _=>rfl) (runL_mono _ _ _ _ _) (fun _=>runL_mono _ _ _ _ _) (fun r_217=>Yh 0 5 39 [qj x0,qn,qj x2,qn,qj x4,qn,qi x6,qi x7,qi x8,qi x9,qj x10,qn,qi x12,qj x13,qn,qi x15,qn,qn,qn,qn,qn] [vi r_217] [(t0,m0),(t1,m1)] rfl (Yi 4 5 47 51 [qj x0,qn,qj x2,qn,qj x4,qn,qi x6,qi x7,qi x8,qi x9,qj x10,qn,qi x12,qj x13,qn,qi x15,qi r_217,qn,qn,qn,qn] [] [(t0,m0),(t1,m1)] rfl (Sv rfl rfl) (Yi 3 5 57 74 [qj x0,qn,qj x2,qn,qj x4,qn,qi x6,qi x7,qi x8,qi x9,qj x10,qn,qi x12,qj x13,qn,qi x15,qi r_217,qn,qn,qn,qn] [] [(t0,m0),(t1,m1)] rfl (Yi 3 5 64 68 [qj x0,qn,qj x2,qn,qj x4,qn,qi x6,qi x7,qi x8,qi x9,qj x10,qn,qi x12,qj x13,qn,qi x15,qn,qn,qn,qn,qn] [] [(t0,m0),(t1,m1)] rfl (Sv rfl rfl) (Ze 2 (l_enumerate_b185_ok t0 t1 sl sc x0 x2 x4 x6 x7 x8 x9 x10 (w32 (x12+1)) x13 x15 m0 m1) rfl)) (Yi 3 5 80 86 [qj x0,qn,qj x2,qn,qj x4,qn,qi x6,qi x7,qi x8,qi x9,qj x10,qn,qi x12,qj x13,qn,qi x15,qi r_217,qn,qn,qn,qn] [] [(t0,m0),(t1,m1)] rfl (Ze 4 (l_enumerate_b86_ok t0 t1 sl sc x0 x2 x4 x6 x7 x8 x9 x10 x12 (w64 (x13+1)) x15 m0 m1) rfl) (Sim.jmp (l_enumerate_b86_ok t0 t1 sl sc x0 x2 x4 x6 x7 x8 x9 x10 x12 x13 x15 m0 m1) rfl (fun _=>rfl)))))))) (Sv rfl rfl)
def l_enumerate (sl:Int) (sc:Int→Int) (x0 x2 x4 x6 x7 x8 x9:Int) (m0 m1:OMem):Option (Int):=(lp (l_enumerate_l12 sl sc m0 m1 x0 x2 x4 x6 x7 x8 x9) NN (0,0,0,0)).bind fun e=>match e with | (.inl _)=>(some (-1)) | (.inr (.inl _))=>(some (-1)) | (.inr (.inr (.inl x13_222)))=>(some x13_222) | (.inr (.inr (.inr _)))=>(some (-1))
theorem l_enumerate_ok (t0 t1:Nat) (sl:Int) (sc:Int→Int) (x0 x2 x4 x6 x7 x8 x9:Int) (m0 m1:OMem):Sim (l_enumerate sl sc x0 x2 x4 x6 x7 x8 x9 m0 m1) (fun r _=>some (some (vl r),[(t0,m0),(t1,m1)])) (fun n=>RL sl sc n 5 0 [qj x0,qn,qj x2,qn,qj x4,qn,qi x6,qi x7,qi x8,qi x9,qn,qn,qn,qn,qn,qn,qn,qn,qn,qn,qn] [] [(t0,m0),(t1,m1)]) :=
 Yh 4 5 6 [qj x0,qn,qj x2,qn,qj x4,qn,qi x6,qi x7,qi x8,qi x9,qj 0,qn,qi 0,qn,qn,qn,qn,qn,qn,qn,qn] [] [(t0,m0),(t1,m1)] rfl (Zb 4 (Sim.lp (σ:=Int×Int×Int×Int) (fun ⟨x10L,x12L,x13L,x15L⟩=>l_enumerate_l12_ok t0 t1 sl sc m0 m1 x0 x2 x4 x6 x7 x8 x9 x10L x12L x13L x15L) NN (0,0,0,0)) rfl (fun e=>match e with | (.inl _)=>Sh 2 (fun _=>some (some (vl (-1)),[(t0,m0),(t1,m1)])) rfl Sp | (.inr (.inl _))=>Sh 2 (fun _=>some (some (vl (-1)),[(t0,m0),(t1,m1)])) rfl Sp | (.inr (.inr (.inl x13_222)))=>Sh 2 (fun _=>some (some (vl x13_222),[(t0,m0),(t1,m1)])) rfl Sp | (.inr (.inr (.inr _)))=>Sh 2 (fun _=>some (some (vl (-1)),[(t0,m0),(t1,m1)])) rfl Sp))
def l_law_l39_H (sl:Int) (sc:Int→Int) (x4:Int):Int×Int×OMem×OMem→Nat→RTL:=fun (x3,x5,m0,m1) n=>RL sl sc n 0 39 [qr 0,qr 1,qr 2,qi x3,qi x4,qi x5,qn,qn,qn,qn,qn,qn,qn,qn,qn,qn,qn,qn,qn,qn,qn,qn,qn,qn,qn,qn,qn,qn,qn,qn,qn,qn,qn,qn,qn,qn,qn,qn] [] [(44,m0),(44,m1)]
def l_law_l39_X (sl:Int) (sc:Int→Int) (x4:Int):(Int×OMem×OMem)→Nat→RTL:=fun e n=>match e with | (y3,w0,w1)=>RL sl sc n 0 148 [qr 0,qr 1,qr 2,qi y3,qn,qn,qn,qn,qn,qn,qn,qn,qn,qn,qn,qn,qn,qn,qn,qn,qn,qn,qn,qn,qn,qn,qn,qn,qn,qn,qn,qn,qn,qn,qn,qn,qn,qn] [] [(44,w0),(44,w1)]
def l_law_l87_H (sl:Int) (sc:Int→Int) (x4 x5 x7:Int):Int×Int×OMem×OMem→Nat→RTL:=fun (x3,x8,m0,m1) n=>RL sl sc n 0 87 [qr 0,qr 1,qr 2,qi x3,qi x4,qi x5,qn,qi x7,qi x8,qn,qn,qn,qn,qn,qn,qn,qn,qn,qn,qn,qn,qn,qn,qn,qn,qn,qn,qn,qn,qn,qn,qn,qn,qn,qn,qn,qn,qn] [] [(44,m0),(44,m1)]
def l_law_l87_X (sl:Int) (sc:Int→Int) (x4 x5 x7:Int):(Int×OMem×OMem)→Nat→RTL:=fun e n=>match e with | (y3,w0,w1)=>RL sl sc n 0 142 [qr 0,qr 1,qr 2,qi y3,qi x4,qi x5,qn,qn,qn,qn,qn,qn,qn,qn,qn,qn,qn,qn,qn,qn,qn,qn,qn,qn,qn,qn,qn,qn,qn,qn,qn,qn,qn,qn,qn,qn,qn,qn] [] [(44,w0),(44,w1)]
def l_law_b122 (sl:Int) (sc:Int→Int) (x3 x4 x5 x7 x8 x9:Int) (m0 m1:OMem):Option ((Int×Int×OMem×OMem)⊕((Int×OMem×OMem))):=(f_addSymbol x9 m0).bind fun (r_105,m_106)=>((f_addSymbol x9 m1).bind fun (r_107,m_108)=>(some (.inl (x3,w32 (x8+1),m_106,m_108))))
theorem l_law_b122_ok (sl:Int) (sc:Int→Int) (x3 x4 x5 x7 x8 x9:Int) (m0 m1:OMem):Sim (l_law_b122 sl sc x3 x4 x5 x7 x8 x9 m0 m1) (Sum.elim (l_law_l87_H sl sc x4 x5 x7 ) (l_law_l87_X sl sc x4 x5 x7 )) (fun n=>RL sl sc n 0 122 [qr 0,qr 1,qr 2,qi x3,qi x4,qi x5,qn,qi x7,qi x8,qi x9,qn,qn,qn,qn,qn,qn,qn,qn,qn,qn,qn,qn,qn,qn,qn,qn,qn,qn,qn,qn,qn,qn,qn,qn,qn,qn,qn,qn] [] [(44,m0),(44,m1)]) :=
 Sh 3 (fun n=>(R n 3 0 [qr 0,qi x9,qn,qn] [] 44 m0).bind fun y=>RLv sl sc n 0 128 [qr 0,qr 1,qr 2,qi x3,qi x4,qi x5,qn,qi x7,qi x8,qi x9,qn,qn,qn,qn,qn,qn,qn,qn,qn,qn,qn,qn,qn,qn,qn,qn,qn,qn,qn,qn,qn,qn,qn,qn,qn,qn,qn,qn] [] [(44,m0),(44,m1)] 0 y) rfl (Sim.call (f_addSymbol_ok x9 m0) (fun _ _=>rfl) (runP_mono _ _ _ _ _ _) (fun _=>runL_mono _ _ _ _ _) (fun ⟨r_105,m_106⟩=>Yh 0 0 128 [qr 0,qr 1,qr 2,qi x3,qi x4,qi x5,qn,qi x7,qi x8,qi x9,qn,qn,qn,qn,qn,qn,qn,qn,qn,qn,qn,qn,qn,qn,qn,qn,qn,qn,qn,qn,qn,qn,qn,qn,qn,qn,qn,qn] [vi r_105] [(44,m_106),(44,m1)] rfl (Sh 4 (fun n=>(R n 3 0 [qr 0,qi x9,qn,qn] [] 44 m1).bind fun y=>RLv sl sc n 0 135 [qr 0,qr 1,qr 2,qi x3,qi x4,qi x5,qn,qi x7,qi x8,qi x9,qn,qn,qn,qn,qn,qn,qn,qn,qn,qn,qn,qn,qn,qn,qn,qn,qn,qn,qn,qn,qn,qn,qn,qn,qn,qn,qn,qn] [] [(44,m_106),(44,m1)] 1 y) rfl (Sim.call (f_addSymbol_ok x9 m1) (fun _ _=>rfl) (runP_mono _ _ _ _ _ _) (fun _=>runL_mono _ _ _ _ _) (fun ⟨r_107,m_108⟩=>Yh 0 0 135 [qr 0,qr 1,qr 2,qi x3,qi x4,qi x5,qn,qi x7,qi x8,qi x9,qn,qn,qn,qn,qn,qn,qn,qn,qn,qn,qn,qn,qn,qn,qn,qn,qn,qn,qn,qn,qn,qn,qn,qn,qn,qn,qn,qn] [vi r_107] [(44,m_106),(44,m_108)] rfl (Yh 3 0 87 [qr 0,qr 1,qr 2,qi x3,qi x4,qi x5,qn,qi x7,qi (w32 (x8+1)),qi x9,qn,qn,qn,qn,qn,qn,qn,qn,qn,qn,qn,qn,qn,qn,qn,qn,qn,qn,qn,qn,qn,qn,qn,qn,qn,qn,qn,qn] [] [(44,m_106),(44,m_108)] rfl (Sv rfl rfl)))))))
def l_law_l87 (sl:Int) (sc:Int→Int) (x4 x5 x7:Int):Int×Int×OMem×OMem→Option ((Int×Int×OMem×OMem)⊕((Int×OMem×OMem))):=fun (x3,x8,m0,m1)=>if x8<x7 then ((l_cell sl sc x3 m0 m1).bind fun r_104=>(if and32 r_104 7<6 then (l_law_b122 sl sc (w32 (x3+1)) x4 x5 x7 x8 (and32 r_104 7) m0 m1) else (l_law_b122 sl sc (w32 (x3+1)) x4 x5 x7 x8 (w32 (4+(and32 (and32 r_104 7) 1))) m0 m1))) else (some (.inr (x3,m0,m1)))
theorem l_law_l87_ok (sl:Int) (sc:Int→Int) (x4 x5 x7:Int) (x3 x8:Int) (m0 m1:OMem):Sim (l_law_l87 sl sc x4 x5 x7 (x3,x8,m0,m1)) (Sum.elim (l_law_l87_H sl sc x4 x5 x7 ) (l_law_l87_X sl sc x4 x5 x7 )) (l_law_l87_H sl sc x4 x5 x7 (x3,x8,m0,m1)) :=
 Yi 3 0 94 142 [qr 0,qr 1,qr 2,qi x3,qi x4,qi x5,qn,qi x7,qi x8,qn,qn,qn,qn,qn,qn,qn,qn,qn,qn,qn,qn,qn,qn,qn,qn,qn,qn,qn,qn,qn,qn,qn,qn,qn,qn,qn,qn,qn] [] [(44,m0),(44,m1)] rfl (Sh 4 (fun n=>(RL sl sc n 1 0 [qr 0,qi x3] [] [(44,m0),(44,m1)]).bind fun y=>RLr sl sc n 0 102 [qr 0,qr 1,qr 2,qi (w32 (x3+1)),qi x4,qi x5,qn,qi x7,qi x8,qn,qn,qn,qn,qn,qn,qn,qn,qn,qn,qn,qn,qn,qn,qn,qn,qn,qn,qn,qn,qn,qn,qn,qn,qn,qn,qn,qn,qn] [] y) rfl (Sim.call (l_cell_ok 44 44 sl sc x3 m0 m1) (fun _ _=>rfl) (runL_mono _ _ _ _ _) (fun _=>runL_mono _ _ _ _ _) (fun r_104=>Yh 0 0 102 [qr 0,qr 1,qr 2,qi (w32 (x3+1)),qi x4,qi x5,qn,qi x7,qi x8,qn,qn,qn,qn,qn,qn,qn,qn,qn,qn,qn,qn,qn,qn,qn,qn,qn,qn,qn,qn,qn,qn,qn,qn,qn,qn,qn,qn,qn] [vi r_104] [(44,m0),(44,m1)] rfl (Yh 5 0 111 [qr 0,qr 1,qr 2,qi (w32 (x3+1)),qi x4,qi x5,qn,qi x7,qi x8,qi (and32 r_104 7),qn,qn,qn,qn,qn,qn,qn,qn,qn,qn,qn,qn,qn,qn,qn,qn,qn,qn,qn,qn,qn,qn,qn,qn,qn,qn,qn,qn] [vi 6,vi (and32 r_104 7)] [(44,m0),(44,m1)] rfl (Yi 1 0 122 114 [qr 0,qr 1,qr 2,qi (w32 (x3+1)),qi x4,qi x5,qn,qi x7,qi x8,qi (and32 r_104 7),qn,qn,qn,qn,qn,qn,qn,qn,qn,qn,qn,qn,qn,qn,qn,qn,qn,qn,qn,qn,qn,qn,qn,qn,qn,qn,qn,qn] [] [(44,m0),(44,m1)] rfl (l_law_b122_ok sl sc (w32 (x3+1)) x4 x5 x7 x8 (and32 r_104 7) m0 m1) (Yh 5 0 120 [qr 0,qr 1,qr 2,qi (w32 (x3+1)),qi x4,qi x5,qn,qi x7,qi x8,qi (and32 r_104 7),qn,qn,qn,qn,qn,qn,qn,qn,qn,qn,qn,qn,qn,qn,qn,qn,qn,qn,qn,qn,qn,qn,qn,qn,qn,qn,qn,qn] [vi (w32 (4+(and32 (and32 r_104 7) 1)))] [(44,m0),(44,m1)] rfl (Ze 1 (l_law_b122_ok sl sc (w32 (x3+1)) x4 x5 x7 x8 (w32 (4+(and32 (and32 r_104 7) 1))) m0 m1) rfl))))))) (Sv rfl rfl)
def l_law_l39 (sl:Int) (sc:Int→Int) (x4:Int):Int×Int×OMem×OMem→Option ((Int×Int×OMem×OMem)⊕((Int×OMem×OMem))):=fun (x3,x5,m0,m1)=>if x5<x4 then ((l_cell sl sc x3 m0 m1).bind fun r_98=>((l_cell sl sc (w32 (x3+1)) m0 m1).bind fun r_99=>((f_beginRule (and32 r_98 3) m0).bind fun (r_100,m_101)=>((f_beginRule (and32 r_98 3) m1).bind fun (r_102,m_103)=>((lp (l_law_l87 sl sc x4 x5 (and32 r_99 3)) NN (w32 (w32 (x3+1)+1),0,m_101,m_103)).bind fun (x3_109,m_110,m_111)=>(some (.inl (x3_109,w32 (x5+1),m_110,m_111)))))))) else (some (.inr (x3,m0,m1)))
theorem l_law_l39_ok (sl:Int) (sc:Int→Int) (x4:Int) (x3 x5:Int) (m0 m1:OMem):Sim (l_law_l39 sl sc x4 (x3,x5,m0,m1)) (Sum.elim (l_law_l39_H sl sc x4 ) (l_law_l39_X sl sc x4 )) (l_law_l39_H sl sc x4 (x3,x5,m0,m1)) :=
 Yi 3 0 46 148 [qr 0,qr 1,qr 2,qi x3,qi x4,qi x5,qn,qn,qn,qn,qn,qn,qn,qn,qn,qn,qn,qn,qn,qn,qn,qn,qn,qn,qn,qn,qn,qn,qn,qn,qn,qn,qn,qn,qn,qn,qn,qn] [] [(44,m0),(44,m1)] rfl (Sh 4 (fun n=>(RL sl sc n 1 0 [qr 0,qi x3] [] [(44,m0),(44,m1)]).bind fun y=>RLr sl sc n 0 54 [qr 0,qr 1,qr 2,qi (w32 (x3+1)),qi x4,qi x5,qn,qn,qn,qn,qn,qn,qn,qn,qn,qn,qn,qn,qn,qn,qn,qn,qn,qn,qn,qn,qn,qn,qn,qn,qn,qn,qn,qn,qn,qn,qn,qn] [] y) rfl (Sim.call (l_cell_ok 44 44 sl sc x3 m0 m1) (fun _ _=>rfl) (runL_mono _ _ _ _ _) (fun _=>runL_mono _ _ _ _ _) (fun r_98=>Yh 0 0 54 [qr 0,qr 1,qr 2,qi (w32 (x3+1)),qi x4,qi x5,qn,qn,qn,qn,qn,qn,qn,qn,qn,qn,qn,qn,qn,qn,qn,qn,qn,qn,qn,qn,qn,qn,qn,qn,qn,qn,qn,qn,qn,qn,qn,qn] [vi r_98] [(44,m0),(44,m1)] rfl (Yh 5 0 60 [qr 0,qr 1,qr 2,qi (w32 (x3+1)),qi x4,qi x5,qi (and32 r_98 3),qn,qn,qn,qn,qn,qn,qn,qn,qn,qn,qn,qn,qn,qn,qn,qn,qn,qn,qn,qn,qn,qn,qn,qn,qn,qn,qn,qn,qn,qn,qn] [vi (w32 (x3+1)),vr 0] [(44,m0),(44,m1)] rfl (Sh 2 (fun n=>(RL sl sc n 1 0 [qr 0,qi (w32 (x3+1))] [] [(44,m0),(44,m1)]).bind fun y=>RLr sl sc n 0 66 [qr 0,qr 1,qr 2,qi (w32 (w32 (x3+1)+1)),qi x4,qi x5,qi (and32 r_98 3),qn,qn,qn,qn,qn,qn,qn,qn,qn,qn,qn,qn,qn,qn,qn,qn,qn,qn,qn,qn,qn,qn,qn,qn,qn,qn,qn,qn,qn,qn,qn] [] y) rfl (Sim.call (l_cell_ok 44 44 sl sc (w32 (x3+1)) m0 m1) (fun _ _=>rfl) (runL_mono _ _ _ _ _) (fun _=>runL_mono _ _ _ _ _) (fun r_99=>Yh 0 0 66 [qr 0,qr 1,qr 2,qi (w32 (w32 (x3+1)+1)),qi x4,qi x5,qi (and32 r_98 3),qn,qn,qn,qn,qn,qn,qn,qn,qn,qn,qn,qn,qn,qn,qn,qn,qn,qn,qn,qn,qn,qn,qn,qn,qn,qn,qn,qn,qn,qn,qn] [vi r_99] [(44,m0),(44,m1)] rfl (Yh 5 0 73 [qr 0,qr 1,qr 2,qi (w32 (w32 (x3+1)+1)),qi x4,qi x5,qi (and32 r_98 3),qi (and32 r_99 3),qn,qn,qn,qn,qn,qn,qn,qn,qn,qn,qn,qn,qn,qn,qn,qn,qn,qn,qn,qn,qn,qn,qn,qn,qn,qn,qn,qn,qn,qn] [vi (and32 r_98 3),vr 1] [(44,m0),(44,m1)] rfl (Sh 1 (fun n=>(R n 1 0 [qr 0,qi (and32 r_98 3)] [] 44 m0).bind fun y=>RLv sl sc n 0 76 [qr 0,qr 1,qr 2,qi (w32 (w32 (x3+1)+1)),qi x4,qi x5,qi (and32 r_98 3),qi (and32 r_99 3),qn,qn,qn,qn,qn,qn,qn,qn,qn,qn,qn,qn,qn,qn,qn,qn,qn,qn,qn,qn,qn,qn,qn,qn,qn,qn,qn,qn,qn,qn] [] [(44,m0),(44,m1)] 0 y) rfl (Sim.call (f_beginRule_ok (and32 r_98 3) m0) (fun _ _=>rfl) (runP_mono _ _ _ _ _ _) (fun _=>runL_mono _ _ _ _ _) (fun ⟨r_100,m_101⟩=>Yh 0 0 76 [qr 0,qr 1,qr 2,qi (w32 (w32 (x3+1)+1)),qi x4,qi x5,qi (and32 r_98 3),qi (and32 r_99 3),qn,qn,qn,qn,qn,qn,qn,qn,qn,qn,qn,qn,qn,qn,qn,qn,qn,qn,qn,qn,qn,qn,qn,qn,qn,qn,qn,qn,qn,qn] [vi r_100] [(44,m_101),(44,m1)] rfl (Sh 4 (fun n=>(R n 1 0 [qr 0,qi (and32 r_98 3)] [] 44 m1).bind fun y=>RLv sl sc n 0 83 [qr 0,qr 1,qr 2,qi (w32 (w32 (x3+1)+1)),qi x4,qi x5,qi (and32 r_98 3),qi (and32 r_99 3),qn,qn,qn,qn,qn,qn,qn,qn,qn,qn,qn,qn,qn,qn,qn,qn,qn,qn,qn,qn,qn,qn,qn,qn,qn,qn,qn,qn,qn,qn] [] [(44,m_101),(44,m1)] 1 y) rfl (Sim.call (f_beginRule_ok (and32 r_98 3) m1) (fun _ _=>rfl) (runP_mono _ _ _ _ _ _) (fun _=>runL_mono _ _ _ _ _) (fun ⟨r_102,m_103⟩=>Yh 0 0 83 [qr 0,qr 1,qr 2,qi (w32 (w32 (x3+1)+1)),qi x4,qi x5,qi (and32 r_98 3),qi (and32 r_99 3),qn,qn,qn,qn,qn,qn,qn,qn,qn,qn,qn,qn,qn,qn,qn,qn,qn,qn,qn,qn,qn,qn,qn,qn,qn,qn,qn,qn,qn,qn] [vi r_102] [(44,m_101),(44,m_103)] rfl (Zj 3 (Sim.bind (Sim.lp (σ:=Int×Int×OMem×OMem) (fun ⟨x3L,x8L,m0L,m1L⟩=>l_law_l87_ok sl sc x4 x5 (and32 r_99 3) x3L x8L m0L m1L) NN (w32 (w32 (x3+1)+1),0,m_101,m_103)) (fun ⟨x3_109,m_110,m_111⟩=>Sh 2 (fun n=>RL sl sc n 0 39 [qr 0,qr 1,qr 2,qi x3_109,qi x4,qi (w32 (x5+1)),qn,qn,qn,qn,qn,qn,qn,qn,qn,qn,qn,qn,qn,qn,qn,qn,qn,qn,qn,qn,qn,qn,qn,qn,qn,qn,qn,qn,qn,qn,qn,qn] [] [(44,m_110),(44,m_111)]) rfl Sp)) rfl rfl))))))))))))))) (Sv rfl rfl)
def l_law_l163_H (sl:Int) (sc:Int→Int) (m0:OMem) (m1:OMem) (x3:Int):Int×Int×Int×Int×Int→Nat→RTL:=fun (x5,x7,x9,x11,x12) n=>RL sl sc n 0 163 [qr 0,qr 1,qr 2,qi x3,qn,qj x5,qn,qj x7,qn,qj x9,qn,qi x11,qi x12,qn,qn,qn,qn,qn,qn,qn,qn,qn,qn,qn,qn,qn,qn,qn,qn,qn,qn,qn,qn,qn,qn,qn,qn,qn] [] [(44,m0),(44,m1)]
def l_law_l163_X (sl:Int) (sc:Int→Int) (m0:OMem) (m1:OMem) (x3:Int):(Int×Int×Int×Int)⊕(Int×Int×Int×Int)→Nat→RTL:=fun e n=>match e with | (.inl (y5,y7,y9,y11))=>RL sl sc n 0 183 [qr 0,qr 1,qr 2,qi x3,qn,qj y5,qn,qj y7,qn,qj y9,qn,qi y11,qn,qn,qn,qn,qn,qn,qn,qn,qn,qn,qn,qn,qn,qn,qn,qn,qn,qn,qn,qn,qn,qn,qn,qn,qn,qn] [] [(44,m0),(44,m1)] | (.inr (y5,y7,y9,y11))=>RL sl sc n 0 311 [qr 0,qr 1,qr 2,qi x3,qn,qj y5,qn,qj y7,qn,qj y9,qn,qi y11,qn,qn,qn,qn,qn,qn,qn,qn,qn,qn,qn,qn,qn,qn,qn,qn,qn,qn,qn,qn,qn,qn,qn,qn,qn,qn] [] [(44,m0),(44,m1)]
def l_law_l210_H (sl:Int) (sc:Int→Int) (m0:OMem) (m1:OMem) (x3 x5 x7 x9 x12 x14:Int):Int×Int→Nat→RTL:=fun (x15,x16) n=>RL sl sc n 0 210 [qr 0,qr 1,qr 2,qi x3,qn,qj x5,qn,qj x7,qn,qj x9,qn,qn,qi x12,qn,qi x14,qi x15,qi x16,qn,qn,qn,qn,qn,qn,qn,qn,qn,qn,qn,qn,qn,qn,qn,qn,qn,qn,qn,qn,qn] [] [(44,m0),(44,m1)]
def l_law_l210_X (sl:Int) (sc:Int→Int) (m0:OMem) (m1:OMem) (x3 x5 x7 x9 x12 x14:Int):(Int)→Nat→RTL:=fun e n=>match e with | y15=>RL sl sc n 0 246 [qr 0,qr 1,qr 2,qi x3,qn,qj x5,qn,qj x7,qn,qj x9,qn,qn,qi x12,qn,qn,qi y15,qn,qn,qn,qn,qn,qn,qn,qn,qn,qn,qn,qn,qn,qn,qn,qn,qn,qn,qn,qn,qn,qn] [] [(44,m0),(44,m1)]
def l_law_l210 (sl:Int) (sc:Int→Int) (m0:OMem) (m1:OMem) (x3 x5 x7 x9 x12 x14:Int):Int×Int→Option ((Int×Int)⊕((Int))):=fun (x15,x16)=>if x16<x14 then ((f_ruleSymbol x12 x16 m0).bind fun r_117=>(some (.inl (or32 x15 (shl32 (and32 r_117 7) (w32 (4+(w32 (3*x16))))),w32 (x16+1))))) else (some (.inr x15))
theorem l_law_l210_ok (sl:Int) (sc:Int→Int) (m0:OMem) (m1:OMem) (x3 x5 x7 x9 x12 x14:Int) (x15 x16:Int):Sim (l_law_l210 sl sc m0 m1 x3 x5 x7 x9 x12 x14 (x15,x16)) (Sum.elim (l_law_l210_H sl sc m0 m1 x3 x5 x7 x9 x12 x14 ) (l_law_l210_X sl sc m0 m1 x3 x5 x7 x9 x12 x14 )) (l_law_l210_H sl sc m0 m1 x3 x5 x7 x9 x12 x14 (x15,x16)) :=
 Yi 3 0 217 246 [qr 0,qr 1,qr 2,qi x3,qn,qj x5,qn,qj x7,qn,qj x9,qn,qn,qi x12,qn,qi x14,qi x15,qi x16,qn,qn,qn,qn,qn,qn,qn,qn,qn,qn,qn,qn,qn,qn,qn,qn,qn,qn,qn,qn,qn] [] [(44,m0),(44,m1)] rfl (Sh 5 (fun n=>(R n 7 0 [qr 0,qi x12,qi x16] [] 44 m0).bind fun y=>RLv sl sc n 0 227 [qr 0,qr 1,qr 2,qi x3,qn,qj x5,qn,qj x7,qn,qj x9,qn,qn,qi x12,qn,qi x14,qi x15,qi x16,qn,qn,qn,qn,qn,qn,qn,qn,qn,qn,qn,qn,qn,qn,qn,qn,qn,qn,qn,qn,qn] [vi x15] [(44,m0),(44,m1)] 0 y) rfl (Sim.call (f_ruleSymbol_ok x12 x16 m0) (fun _ _=>rfl) (runP_mono _ _ _ _ _ _) (fun _=>runL_mono _ _ _ _ _) (fun r_117=>Yh 0 0 227 [qr 0,qr 1,qr 2,qi x3,qn,qj x5,qn,qj x7,qn,qj x9,qn,qn,qi x12,qn,qi x14,qi x15,qi x16,qn,qn,qn,qn,qn,qn,qn,qn,qn,qn,qn,qn,qn,qn,qn,qn,qn,qn,qn,qn,qn] [vi r_117,vi x15] [(44,m0),(44,m1)] rfl (Yh 5 0 234 [qr 0,qr 1,qr 2,qi x3,qn,qj x5,qn,qj x7,qn,qj x9,qn,qn,qi x12,qn,qi x14,qi x15,qi x16,qn,qn,qn,qn,qn,qn,qn,qn,qn,qn,qn,qn,qn,qn,qn,qn,qn,qn,qn,qn,qn] [vi x16,vi 3,vi 4,vi (and32 r_117 7),vi x15] [(44,m0),(44,m1)] rfl (Yh 2 0 236 [qr 0,qr 1,qr 2,qi x3,qn,qj x5,qn,qj x7,qn,qj x9,qn,qn,qi x12,qn,qi x14,qi x15,qi x16,qn,qn,qn,qn,qn,qn,qn,qn,qn,qn,qn,qn,qn,qn,qn,qn,qn,qn,qn,qn,qn] [vi (w32 (4+(w32 (3*x16)))),vi (and32 r_117 7),vi x15] [(44,m0),(44,m1)] rfl (Yh 1 0 237 [qr 0,qr 1,qr 2,qi x3,qn,qj x5,qn,qj x7,qn,qj x9,qn,qn,qi x12,qn,qi x14,qi x15,qi x16,qn,qn,qn,qn,qn,qn,qn,qn,qn,qn,qn,qn,qn,qn,qn,qn,qn,qn,qn,qn,qn] [vi (shl32 (and32 r_117 7) (w32 (4+(w32 (3*x16))))),vi x15] [(44,m0),(44,m1)] rfl (Yh 2 0 240 [qr 0,qr 1,qr 2,qi x3,qn,qj x5,qn,qj x7,qn,qj x9,qn,qn,qi x12,qn,qi x14,qi (or32 x15 (shl32 (and32 r_117 7) (w32 (4+(w32 (3*x16)))))),qi x16,qn,qn,qn,qn,qn,qn,qn,qn,qn,qn,qn,qn,qn,qn,qn,qn,qn,qn,qn,qn,qn] [] [(44,m0),(44,m1)] rfl (Zp 2 rfl)))))))) (Sv rfl rfl)
def l_law_b299 (sl:Int) (sc:Int→Int) (x3 x5 x7 x9 x12:Int) (m0 m1:OMem):Option ((Int×Int×Int×Int×Int)⊕((Int×Int×Int×Int)⊕(Int×Int×Int×Int))):=some (.inl (x5,x7,x9,w32 (x12+1),w32 (x12+1)))
theorem l_law_b299_ok (sl:Int) (sc:Int→Int) (x3 x5 x7 x9 x12:Int) (m0 m1:OMem):Sim (l_law_b299 sl sc x3 x5 x7 x9 x12 m0 m1) (Sum.elim (l_law_l163_H sl sc m0 m1 x3 ) (l_law_l163_X sl sc m0 m1 x3 )) (fun n=>RL sl sc n 0 299 [qr 0,qr 1,qr 2,qi x3,qn,qj x5,qn,qj x7,qn,qj x9,qn,qn,qi x12,qn,qn,qn,qn,qn,qn,qn,qn,qn,qn,qn,qn,qn,qn,qn,qn,qn,qn,qn,qn,qn,qn,qn,qn,qn] [] [(44,m0),(44,m1)]) :=
 Yh 5 0 308 [qr 0,qr 1,qr 2,qi x3,qn,qj x5,qn,qj x7,qn,qj x9,qn,qi (w32 (x12+1)),qi (w32 (x12+1)),qn,qn,qn,qn,qn,qn,qn,qn,qn,qn,qn,qn,qn,qn,qn,qn,qn,qn,qn,qn,qn,qn,qn,qn,qn] [] [(44,m0),(44,m1)] rfl (Zp 1 rfl)
def l_law_l163 (sl:Int) (sc:Int→Int) (m0:OMem) (m1:OMem) (x3:Int):Int×Int×Int×Int×Int→Option ((Int×Int×Int×Int×Int)⊕((Int×Int×Int×Int)⊕(Int×Int×Int×Int))):=fun (x5,x7,x9,x11,x12)=>if x12<10 then ((f_ruleLhs x12 m0).bind fun r_115=>(if r_115<0 then (some (.inr (.inl (x5,x7,x9,x11)))) else ((f_ruleLength x12 m0).bind fun r_116=>((lp (l_law_l210 sl sc m0 m1 x3 x5 x7 x9 x12 (and32 r_116 3)) NN (or32 (and32 r_115 3) (shl32 (and32 r_116 3) 2),0)).bind fun x15_118=>(if x12<4 then (l_law_b299 sl sc x3 (or64 x5 (shl64 x15_118 (w32 ((and32 x12 3)*16)))) x7 x9 x12 m0 m1) else (if x12<8 then (l_law_b299 sl sc x3 x5 (or64 x7 (shl64 x15_118 (w32 ((and32 x12 3)*16)))) x9 x12 m0 m1) else (l_law_b299 sl sc x3 x5 x7 (or64 x9 (shl64 x15_118 (w32 ((and32 x12 3)*16)))) x12 m0 m1))))))) else (some (.inr (.inr (x5,x7,x9,x11))))
theorem l_law_l163_ok (sl:Int) (sc:Int→Int) (m0:OMem) (m1:OMem) (x3:Int) (x5 x7 x9 x11 x12:Int):Sim (l_law_l163 sl sc m0 m1 x3 (x5,x7,x9,x11,x12)) (Sum.elim (l_law_l163_H sl sc m0 m1 x3 ) (l_law_l163_X sl sc m0 m1 x3 )) (l_law_l163_H sl sc m0 m1 x3 (x5,x7,x9,x11,x12)) :=
 Yi 3 0 170 311 [qr 0,qr 1,qr 2,qi x3,qn,qj x5,qn,qj x7,qn,qj x9,qn,qi x11,qi x12,qn,qn,qn,qn,qn,qn,qn,qn,qn,qn,qn,qn,qn,qn,qn,qn,qn,qn,qn,qn,qn,qn,qn,qn,qn] [] [(44,m0),(44,m1)] rfl (Sh 3 (fun n=>(R n 4 0 [qr 0,qi x12] [] 44 m0).bind fun y=>RLv sl sc n 0 176 [qr 0,qr 1,qr 2,qi x3,qn,qj x5,qn,qj x7,qn,qj x9,qn,qi x11,qi x12,qn,qn,qn,qn,qn,qn,qn,qn,qn,qn,qn,qn,qn,qn,qn,qn,qn,qn,qn,qn,qn,qn,qn,qn,qn] [] [(44,m0),(44,m1)] 0 y) rfl (Sim.call (f_ruleLhs_ok x12 m0) (fun _ _=>rfl) (runP_mono _ _ _ _ _ _) (fun _=>runL_mono _ _ _ _ _) (fun r_115=>Yh 0 0 176 [qr 0,qr 1,qr 2,qi x3,qn,qj x5,qn,qj x7,qn,qj x9,qn,qi x11,qi x12,qn,qn,qn,qn,qn,qn,qn,qn,qn,qn,qn,qn,qn,qn,qn,qn,qn,qn,qn,qn,qn,qn,qn,qn,qn] [vi r_115] [(44,m0),(44,m1)] rfl (Yi 3 0 183 186 [qr 0,qr 1,qr 2,qi x3,qn,qj x5,qn,qj x7,qn,qj x9,qn,qi x11,qi x12,qi r_115,qn,qn,qn,qn,qn,qn,qn,qn,qn,qn,qn,qn,qn,qn,qn,qn,qn,qn,qn,qn,qn,qn,qn,qn] [] [(44,m0),(44,m1)] rfl (Sv rfl rfl) (Sh 3 (fun n=>(R n 6 0 [qr 0,qi x12] [] 44 m0).bind fun y=>RLv sl sc n 0 192 [qr 0,qr 1,qr 2,qi x3,qn,qj x5,qn,qj x7,qn,qj x9,qn,qn,qi x12,qi r_115,qn,qn,qn,qn,qn,qn,qn,qn,qn,qn,qn,qn,qn,qn,qn,qn,qn,qn,qn,qn,qn,qn,qn,qn] [] [(44,m0),(44,m1)] 0 y) rfl (Sim.call (f_ruleLength_ok x12 m0) (fun _ _=>rfl) (runP_mono _ _ _ _ _ _) (fun _=>runL_mono _ _ _ _ _) (fun r_116=>Yh 0 0 192 [qr 0,qr 1,qr 2,qi x3,qn,qj x5,qn,qj x7,qn,qj x9,qn,qn,qi x12,qi r_115,qn,qn,qn,qn,qn,qn,qn,qn,qn,qn,qn,qn,qn,qn,qn,qn,qn,qn,qn,qn,qn,qn,qn,qn] [vi r_116] [(44,m0),(44,m1)] rfl (Yh 5 0 199 [qr 0,qr 1,qr 2,qi x3,qn,qj x5,qn,qj x7,qn,qj x9,qn,qn,qi x12,qi r_115,qi (and32 r_116 3),qn,qn,qn,qn,qn,qn,qn,qn,qn,qn,qn,qn,qn,qn,qn,qn,qn,qn,qn,qn,qn,qn,qn] [vi 3,vi r_115] [(44,m0),(44,m1)] rfl (Yh 3 0 203 [qr 0,qr 1,qr 2,qi x3,qn,qj x5,qn,qj x7,qn,qj x9,qn,qn,qi x12,qi r_115,qi (and32 r_116 3),qn,qn,qn,qn,qn,qn,qn,qn,qn,qn,qn,qn,qn,qn,qn,qn,qn,qn,qn,qn,qn,qn,qn] [vi 2,vi (and32 r_116 3),vi (and32 r_115 3)] [(44,m0),(44,m1)] rfl (Yh 1 0 204 [qr 0,qr 1,qr 2,qi x3,qn,qj x5,qn,qj x7,qn,qj x9,qn,qn,qi x12,qi r_115,qi (and32 r_116 3),qn,qn,qn,qn,qn,qn,qn,qn,qn,qn,qn,qn,qn,qn,qn,qn,qn,qn,qn,qn,qn,qn,qn] [vi (shl32 (and32 r_116 3) 2),vi (and32 r_115 3)] [(44,m0),(44,m1)] rfl (Yh 2 0 207 [qr 0,qr 1,qr 2,qi x3,qn,qj x5,qn,qj x7,qn,qj x9,qn,qn,qi x12,qi r_115,qi (and32 r_116 3),qi (or32 (and32 r_115 3) (shl32 (and32 r_116 3) 2)),qn,qn,qn,qn,qn,qn,qn,qn,qn,qn,qn,qn,qn,qn,qn,qn,qn,qn,qn,qn,qn,qn] [] [(44,m0),(44,m1)] rfl (Zj 2 (Sim.bind (Sim.lp (σ:=Int×Int) (fun ⟨x15L,x16L⟩=>l_law_l210_ok sl sc m0 m1 x3 x5 x7 x9 x12 (and32 r_116 3) x15L x16L) NN (or32 (and32 r_115 3) (shl32 (and32 r_116 3) 2),0)) (fun x15_118=>Sh 6 (fun n=>RL sl sc n 0 255 [qr 0,qr 1,qr 2,qi x3,qn,qj x5,qn,qj x7,qn,qj x9,qn,qn,qi x12,qn,qn,qi x15_118,qn,qn,qn,qn,qn,qn,qn,qn,qn,qn,qn,qn,qn,qn,qn,qn,qn,qn,qn,qn,qn,qn] [vi 16,vi (and32 x12 3),vl x15_118] [(44,m0),(44,m1)]) rfl (Sh 1 (fun n=>RL sl sc n 0 256 [qr 0,qr 1,qr 2,qi x3,qn,qj x5,qn,qj x7,qn,qj x9,qn,qn,qi x12,qn,qn,qi x15_118,qn,qn,qn,qn,qn,qn,qn,qn,qn,qn,qn,qn,qn,qn,qn,qn,qn,qn,qn,qn,qn,qn] [vi (w32 ((and32 x12 3)*16)),vl x15_118] [(44,m0),(44,m1)]) rfl (Sh 2 (fun n=>RL sl sc n 0 259 [qr 0,qr 1,qr 2,qi x3,qn,qj x5,qn,qj x7,qn,qj x9,qn,qn,qi x12,qn,qn,qi x15_118,qj (shl64 x15_118 (w32 ((and32 x12 3)*16))),qn,qn,qn,qn,qn,qn,qn,qn,qn,qn,qn,qn,qn,qn,qn,qn,qn,qn,qn,qn,qn] [] [(44,m0),(44,m1)]) rfl (Sh 3 (fun n=>if x12<4 then RL sl sc n 0 265 [qr 0,qr 1,qr 2,qi x3,qn,qj x5,qn,qj x7,qn,qj x9,qn,qn,qi x12,qn,qn,qi x15_118,qj (shl64 x15_118 (w32 ((and32 x12 3)*16))),qn,qn,qn,qn,qn,qn,qn,qn,qn,qn,qn,qn,qn,qn,qn,qn,qn,qn,qn,qn,qn] [] [(44,m0),(44,m1)] else RL sl sc n 0 275 [qr 0,qr 1,qr 2,qi x3,qn,qj x5,qn,qj x7,qn,qj x9,qn,qn,qi x12,qn,qn,qi x15_118,qj (shl64 x15_118 (w32 ((and32 x12 3)*16))),qn,qn,qn,qn,qn,qn,qn,qn,qn,qn,qn,qn,qn,qn,qn,qn,qn,qn,qn,qn,qn] [] [(44,m0),(44,m1)]) rfl (Si (Sh 4 (fun n=>RL sl sc n 0 272 [qr 0,qr 1,qr 2,qi x3,qn,qj (or64 x5 (shl64 x15_118 (w32 ((and32 x12 3)*16)))),qn,qj x7,qn,qj x9,qn,qn,qi x12,qn,qn,qn,qj (shl64 x15_118 (w32 ((and32 x12 3)*16))),qn,qn,qn,qn,qn,qn,qn,qn,qn,qn,qn,qn,qn,qn,qn,qn,qn,qn,qn,qn,qn] [] [(44,m0),(44,m1)]) rfl (Sh 1 (fun n=>RL sl sc n 0 299 [qr 0,qr 1,qr 2,qi x3,qn,qj (or64 x5 (shl64 x15_118 (w32 ((and32 x12 3)*16)))),qn,qj x7,qn,qj x9,qn,qn,qi x12,qn,qn,qn,qj (shl64 x15_118 (w32 ((and32 x12 3)*16))),qn,qn,qn,qn,qn,qn,qn,qn,qn,qn,qn,qn,qn,qn,qn,qn,qn,qn,qn,qn,qn] [] [(44,m0),(44,m1)]) rfl (Sim.jmp (l_law_b299_ok sl sc x3 (or64 x5 (shl64 x15_118 (w32 ((and32 x12 3)*16)))) x7 x9 x12 m0 m1) rfl (fun _=>rfl)))) (Sh 3 (fun n=>if x12<8 then RL sl sc n 0 282 [qr 0,qr 1,qr 2,qi x3,qn,qj x5,qn,qj x7,qn,qj x9,qn,qn,qi x12,qn,qn,qn,qj (shl64 x15_118 (w32 ((and32 x12 3)*16))),qn,qn,qn,qn,qn,qn,qn,qn,qn,qn,qn,qn,qn,qn,qn,qn,qn,qn,qn,qn,qn] [] [(44,m0),(44,m1)] else RL sl sc n 0 292 [qr 0,qr 1,qr 2,qi x3,qn,qj x5,qn,qj x7,qn,qj x9,qn,qn,qi x12,qn,qn,qn,qj (shl64 x15_118 (w32 ((and32 x12 3)*16))),qn,qn,qn,qn,qn,qn,qn,qn,qn,qn,qn,qn,qn,qn,qn,qn,qn,qn,qn,qn,qn] [] [(44,m0),(44,m1)]) rfl (Si (Sh 4 (fun n=>RL sl sc n 0 289 [qr 0,qr 1,qr 2,qi x3,qn,qj x5,qn,qj (or64 x7 (shl64 x15_118 (w32 ((and32 x12 3)*16)))),qn,qj x9,qn,qn,qi x12,qn,qn,qn,qj (shl64 x15_118 (w32 ((and32 x12 3)*16))),qn,qn,qn,qn,qn,qn,qn,qn,qn,qn,qn,qn,qn,qn,qn,qn,qn,qn,qn,qn,qn] [] [(44,m0),(44,m1)]) rfl (Sh 1 (fun n=>RL sl sc n 0 299 [qr 0,qr 1,qr 2,qi x3,qn,qj x5,qn,qj (or64 x7 (shl64 x15_118 (w32 ((and32 x12 3)*16)))),qn,qj x9,qn,qn,qi x12,qn,qn,qn,qj (shl64 x15_118 (w32 ((and32 x12 3)*16))),qn,qn,qn,qn,qn,qn,qn,qn,qn,qn,qn,qn,qn,qn,qn,qn,qn,qn,qn,qn,qn] [] [(44,m0),(44,m1)]) rfl (Sim.jmp (l_law_b299_ok sl sc x3 x5 (or64 x7 (shl64 x15_118 (w32 ((and32 x12 3)*16)))) x9 x12 m0 m1) rfl (fun _=>rfl)))) (Sh 4 (fun n=>RL sl sc n 0 299 [qr 0,qr 1,qr 2,qi x3,qn,qj x5,qn,qj x7,qn,qj (or64 x9 (shl64 x15_118 (w32 ((and32 x12 3)*16)))),qn,qn,qi x12,qn,qn,qn,qj (shl64 x15_118 (w32 ((and32 x12 3)*16))),qn,qn,qn,qn,qn,qn,qn,qn,qn,qn,qn,qn,qn,qn,qn,qn,qn,qn,qn,qn,qn] [] [(44,m0),(44,m1)]) rfl (Sim.jmp (l_law_b299_ok sl sc x3 x5 x7 (or64 x9 (shl64 x15_118 (w32 ((and32 x12 3)*16)))) x12 m0 m1) rfl (fun _=>rfl))))))))))) rfl rfl)))))))))))) (Sv rfl rfl)
def l_law_l327_H (sl:Int) (sc:Int→Int) (x5 x7 x9 x11 x12:Int):Int×Int×OMem×OMem→Nat→RTL:=fun (x3,x13,m0,m1) n=>RL sl sc n 0 327 [qr 0,qr 1,qr 2,qi x3,qn,qj x5,qn,qj x7,qn,qj x9,qn,qi x11,qi x12,qi x13,qn,qn,qn,qn,qn,qn,qn,qn,qn,qn,qn,qn,qn,qn,qn,qn,qn,qn,qn,qn,qn,qn,qn,qn] [] [(44,m0),(44,m1)]
def l_law_l327_X (sl:Int) (sc:Int→Int) (x5 x7 x9 x11 x12:Int):(OMem×OMem)⊕(OMem×OMem)⊕(OMem×OMem)⊕(OMem×OMem)⊕(OMem×OMem)⊕(OMem×OMem)⊕(OMem×OMem)⊕(OMem×OMem)⊕(OMem×OMem)⊕(OMem×OMem)⊕(OMem×OMem)⊕(OMem×OMem)→Nat→RTL:=fun e n=>match e with | (.inl (w0,w1))=>RL sl sc n 0 528 [qn,qn,qn,qn,qn,qn,qn,qn,qn,qn,qn,qn,qn,qn,qn,qn,qn,qn,qn,qn,qn,qn,qn,qn,qn,qn,qn,qn,qn,qn,qn,qn,qn,qn,qn,qn,qn,qn] [] [(44,w0),(44,w1)] | (.inr (.inl (w0,w1)))=>RL sl sc n 0 647 [qn,qn,qn,qn,qn,qn,qn,qn,qn,qn,qn,qn,qn,qn,qn,qn,qn,qn,qn,qn,qn,qn,qn,qn,qn,qn,qn,qn,qn,qn,qn,qn,qn,qn,qn,qn,qn,qn] [] [(44,w0),(44,w1)] | (.inr (.inr (.inl (w0,w1))))=>RL sl sc n 0 679 [qn,qn,qn,qn,qn,qn,qn,qn,qn,qn,qn,qn,qn,qn,qn,qn,qn,qn,qn,qn,qn,qn,qn,qn,qn,qn,qn,qn,qn,qn,qn,qn,qn,qn,qn,qn,qn,qn] [] [(44,w0),(44,w1)] | (.inr (.inr (.inr (.inl (w0,w1)))))=>RL sl sc n 0 736 [qn,qn,qn,qn,qn,qn,qn,qn,qn,qn,qn,qn,qn,qn,qn,qn,qn,qn,qn,qn,qn,qn,qn,qn,qn,qn,qn,qn,qn,qn,qn,qn,qn,qn,qn,qn,qn,qn] [] [(44,w0),(44,w1)] | (.inr (.inr (.inr (.inr (.inl (w0,w1))))))=>RL sl sc n 0 821 [qn,qn,qn,qn,qn,qn,qn,qn,qn,qn,qn,qn,qn,qn,qn,qn,qn,qn,qn,qn,qn,qn,qn,qn,qn,qn,qn,qn,qn,qn,qn,qn,qn,qn,qn,qn,qn,qn] [] [(44,w0),(44,w1)] | (.inr (.inr (.inr (.inr (.inr (.inl (w0,w1)))))))=>RL sl sc n 0 841 [qn,qn,qn,qn,qn,qn,qn,qn,qn,qn,qn,qn,qn,qn,qn,qn,qn,qn,qn,qn,qn,qn,qn,qn,qn,qn,qn,qn,qn,qn,qn,qn,qn,qn,qn,qn,qn,qn] [] [(44,w0),(44,w1)] | (.inr (.inr (.inr (.inr (.inr (.inr (.inl (w0,w1))))))))=>RL sl sc n 0 869 [qn,qn,qn,qn,qn,qn,qn,qn,qn,qn,qn,qn,qn,qn,qn,qn,qn,qn,qn,qn,qn,qn,qn,qn,qn,qn,qn,qn,qn,qn,qn,qn,qn,qn,qn,qn,qn,qn] [] [(44,w0),(44,w1)] | (.inr (.inr (.inr (.inr (.inr (.inr (.inr (.inl (w0,w1)))))))))=>RL sl sc n 0 992 [qn,qn,qn,qn,qn,qn,qn,qn,qn,qn,qn,qn,qn,qn,qn,qn,qn,qn,qn,qn,qn,qn,qn,qn,qn,qn,qn,qn,qn,qn,qn,qn,qn,qn,qn,qn,qn,qn] [] [(44,w0),(44,w1)] | (.inr (.inr (.inr (.inr (.inr (.inr (.inr (.inr (.inl (w0,w1))))))))))=>RL sl sc n 0 1018 [qn,qn,qn,qn,qn,qn,qn,qn,qn,qn,qn,qn,qn,qn,qn,qn,qn,qn,qn,qn,qn,qn,qn,qn,qn,qn,qn,qn,qn,qn,qn,qn,qn,qn,qn,qn,qn,qn] [] [(44,w0),(44,w1)] | (.inr (.inr (.inr (.inr (.inr (.inr (.inr (.inr (.inr (.inl (w0,w1)))))))))))=>RL sl sc n 0 1032 [qn,qn,qn,qn,qn,qn,qn,qn,qn,qn,qn,qn,qn,qn,qn,qn,qn,qn,qn,qn,qn,qn,qn,qn,qn,qn,qn,qn,qn,qn,qn,qn,qn,qn,qn,qn,qn,qn] [] [(44,w0),(44,w1)] | (.inr (.inr (.inr (.inr (.inr (.inr (.inr (.inr (.inr (.inr (.inl (w0,w1))))))))))))=>RL sl sc n 0 1186 [qn,qn,qn,qn,qn,qn,qn,qn,qn,qn,qn,qn,qn,qn,qn,qn,qn,qn,qn,qn,qn,qn,qn,qn,qn,qn,qn,qn,qn,qn,qn,qn,qn,qn,qn,qn,qn,qn] [] [(44,w0),(44,w1)] | (.inr (.inr (.inr (.inr (.inr (.inr (.inr (.inr (.inr (.inr (.inr (w0,w1))))))))))))=>RL sl sc n 0 1206 [qn,qn,qn,qn,qn,qn,qn,qn,qn,qn,qn,qn,qn,qn,qn,qn,qn,qn,qn,qn,qn,qn,qn,qn,qn,qn,qn,qn,qn,qn,qn,qn,qn,qn,qn,qn,qn,qn] [] [(44,w0),(44,w1)]
def l_law_l360_H (sl:Int) (sc:Int→Int) (x5 x7 x9 x11 x12 x13 x14:Int):Int×Int×OMem×OMem→Nat→RTL:=fun (x3,x15,m0,m1) n=>RL sl sc n 0 360 [qr 0,qr 1,qr 2,qi x3,qn,qj x5,qn,qj x7,qn,qj x9,qn,qi x11,qi x12,qi x13,qi x14,qi x15,qn,qn,qn,qn,qn,qn,qn,qn,qn,qn,qn,qn,qn,qn,qn,qn,qn,qn,qn,qn,qn,qn] [] [(44,m0),(44,m1)]
def l_law_l360_X (sl:Int) (sc:Int→Int) (x5 x7 x9 x11 x12 x13 x14:Int):(Int×OMem×OMem)→Nat→RTL:=fun e n=>match e with | (y3,w0,w1)=>RL sl sc n 0 399 [qr 0,qr 1,qr 2,qi y3,qn,qj x5,qn,qj x7,qn,qj x9,qn,qi x11,qi x12,qi x13,qn,qn,qn,qn,qn,qn,qn,qn,qn,qn,qn,qn,qn,qn,qn,qn,qn,qn,qn,qn,qn,qn,qn,qn] [] [(44,w0),(44,w1)]
def l_law_l360 (sl:Int) (sc:Int→Int) (x5 x7 x9 x11 x12 x13 x14:Int):Int×Int×OMem×OMem→Option ((Int×Int×OMem×OMem)⊕((Int×OMem×OMem))):=fun (x3,x15,m0,m1)=>if x15<x14 then ((l_cell sl sc x3 m0 m1).bind fun r_135=>((f_addToken (and32 r_135 1) m0).bind fun (r_136,m_137)=>((f_addToken (and32 r_135 1) m1).bind fun (r_138,m_139)=>(some (.inl (w32 (x3+1),w32 (x15+1),m_137,m_139)))))) else (some (.inr (x3,m0,m1)))
theorem l_law_l360_ok (sl:Int) (sc:Int→Int) (x5 x7 x9 x11 x12 x13 x14:Int) (x3 x15:Int) (m0 m1:OMem):Sim (l_law_l360 sl sc x5 x7 x9 x11 x12 x13 x14 (x3,x15,m0,m1)) (Sum.elim (l_law_l360_H sl sc x5 x7 x9 x11 x12 x13 x14 ) (l_law_l360_X sl sc x5 x7 x9 x11 x12 x13 x14 )) (l_law_l360_H sl sc x5 x7 x9 x11 x12 x13 x14 (x3,x15,m0,m1)) :=
 Yi 3 0 367 399 [qr 0,qr 1,qr 2,qi x3,qn,qj x5,qn,qj x7,qn,qj x9,qn,qi x11,qi x12,qi x13,qi x14,qi x15,qn,qn,qn,qn,qn,qn,qn,qn,qn,qn,qn,qn,qn,qn,qn,qn,qn,qn,qn,qn,qn,qn] [] [(44,m0),(44,m1)] rfl (Sh 4 (fun n=>(RL sl sc n 1 0 [qr 0,qi x3] [] [(44,m0),(44,m1)]).bind fun y=>RLr sl sc n 0 375 [qr 0,qr 1,qr 2,qi (w32 (x3+1)),qn,qj x5,qn,qj x7,qn,qj x9,qn,qi x11,qi x12,qi x13,qi x14,qi x15,qn,qn,qn,qn,qn,qn,qn,qn,qn,qn,qn,qn,qn,qn,qn,qn,qn,qn,qn,qn,qn,qn] [] y) rfl (Sim.call (l_cell_ok 44 44 sl sc x3 m0 m1) (fun _ _=>rfl) (runL_mono _ _ _ _ _) (fun _=>runL_mono _ _ _ _ _) (fun r_135=>Yh 0 0 375 [qr 0,qr 1,qr 2,qi (w32 (x3+1)),qn,qj x5,qn,qj x7,qn,qj x9,qn,qi x11,qi x12,qi x13,qi x14,qi x15,qn,qn,qn,qn,qn,qn,qn,qn,qn,qn,qn,qn,qn,qn,qn,qn,qn,qn,qn,qn,qn,qn] [vi r_135] [(44,m0),(44,m1)] rfl (Yh 5 0 382 [qr 0,qr 1,qr 2,qi (w32 (x3+1)),qn,qj x5,qn,qj x7,qn,qj x9,qn,qi x11,qi x12,qi x13,qi x14,qi x15,qi (and32 r_135 1),qn,qn,qn,qn,qn,qn,qn,qn,qn,qn,qn,qn,qn,qn,qn,qn,qn,qn,qn,qn,qn] [vi (and32 r_135 1),vr 1] [(44,m0),(44,m1)] rfl (Sh 1 (fun n=>(R n 9 0 [qr 0,qi (and32 r_135 1)] [] 44 m0).bind fun y=>RLv sl sc n 0 385 [qr 0,qr 1,qr 2,qi (w32 (x3+1)),qn,qj x5,qn,qj x7,qn,qj x9,qn,qi x11,qi x12,qi x13,qi x14,qi x15,qi (and32 r_135 1),qn,qn,qn,qn,qn,qn,qn,qn,qn,qn,qn,qn,qn,qn,qn,qn,qn,qn,qn,qn,qn] [] [(44,m0),(44,m1)] 0 y) rfl (Sim.call (f_addToken_ok (and32 r_135 1) m0) (fun _ _=>rfl) (runP_mono _ _ _ _ _ _) (fun _=>runL_mono _ _ _ _ _) (fun ⟨r_136,m_137⟩=>Yh 0 0 385 [qr 0,qr 1,qr 2,qi (w32 (x3+1)),qn,qj x5,qn,qj x7,qn,qj x9,qn,qi x11,qi x12,qi x13,qi x14,qi x15,qi (and32 r_135 1),qn,qn,qn,qn,qn,qn,qn,qn,qn,qn,qn,qn,qn,qn,qn,qn,qn,qn,qn,qn,qn] [vi r_136] [(44,m_137),(44,m1)] rfl (Sh 4 (fun n=>(R n 9 0 [qr 0,qi (and32 r_135 1)] [] 44 m1).bind fun y=>RLv sl sc n 0 392 [qr 0,qr 1,qr 2,qi (w32 (x3+1)),qn,qj x5,qn,qj x7,qn,qj x9,qn,qi x11,qi x12,qi x13,qi x14,qi x15,qi (and32 r_135 1),qn,qn,qn,qn,qn,qn,qn,qn,qn,qn,qn,qn,qn,qn,qn,qn,qn,qn,qn,qn,qn] [] [(44,m_137),(44,m1)] 1 y) rfl (Sim.call (f_addToken_ok (and32 r_135 1) m1) (fun _ _=>rfl) (runP_mono _ _ _ _ _ _) (fun _=>runL_mono _ _ _ _ _) (fun ⟨r_138,m_139⟩=>Yh 0 0 392 [qr 0,qr 1,qr 2,qi (w32 (x3+1)),qn,qj x5,qn,qj x7,qn,qj x9,qn,qi x11,qi x12,qi x13,qi x14,qi x15,qi (and32 r_135 1),qn,qn,qn,qn,qn,qn,qn,qn,qn,qn,qn,qn,qn,qn,qn,qn,qn,qn,qn,qn,qn] [vi r_138] [(44,m_137),(44,m_139)] rfl (Yh 3 0 360 [qr 0,qr 1,qr 2,qi (w32 (x3+1)),qn,qj x5,qn,qj x7,qn,qj x9,qn,qi x11,qi x12,qi x13,qi x14,qi (w32 (x15+1)),qi (and32 r_135 1),qn,qn,qn,qn,qn,qn,qn,qn,qn,qn,qn,qn,qn,qn,qn,qn,qn,qn,qn,qn,qn] [] [(44,m_137),(44,m_139)] rfl (Sv rfl rfl)))))))))))) (Sv rfl rfl)
def l_law_l408_H (sl:Int) (sc:Int→Int) (m0:OMem) (m1:OMem) (x3 x5 x7 x9 x11 x12 x13:Int):Int×Int×Int→Nat→RTL:=fun (x15,x16,x17) n=>RL sl sc n 0 408 [qr 0,qr 1,qr 2,qi x3,qn,qj x5,qn,qj x7,qn,qj x9,qn,qi x11,qi x12,qi x13,qn,qi x15,qi x16,qi x17,qn,qn,qn,qn,qn,qn,qn,qn,qn,qn,qn,qn,qn,qn,qn,qn,qn,qn,qn,qn] [] [(44,m0),(44,m1)]
def l_law_l408_X (sl:Int) (sc:Int→Int) (m0:OMem) (m1:OMem) (x3 x5 x7 x9 x11 x12 x13:Int):(Int×Int)⊕(Int×Int)→Nat→RTL:=fun e n=>match e with | (.inl (y15,y16))=>RL sl sc n 0 428 [qr 0,qr 1,qr 2,qi x3,qn,qj x5,qn,qj x7,qn,qj x9,qn,qi x11,qi x12,qi x13,qn,qi y15,qi y16,qn,qn,qn,qn,qn,qn,qn,qn,qn,qn,qn,qn,qn,qn,qn,qn,qn,qn,qn,qn,qn] [] [(44,m0),(44,m1)] | (.inr (y15,y16))=>RL sl sc n 0 457 [qr 0,qr 1,qr 2,qi x3,qn,qj x5,qn,qj x7,qn,qj x9,qn,qi x11,qi x12,qi x13,qn,qi y15,qi y16,qn,qn,qn,qn,qn,qn,qn,qn,qn,qn,qn,qn,qn,qn,qn,qn,qn,qn,qn,qn,qn] [] [(44,m0),(44,m1)]
def l_law_l408 (sl:Int) (sc:Int→Int) (m0:OMem) (m1:OMem) (x3 x5 x7 x9 x11 x12 x13:Int):Int×Int×Int→Option ((Int×Int×Int)⊕((Int×Int)⊕(Int×Int))):=fun (x15,x16,x17)=>if x17<8 then ((f_inputToken x17 m0).bind fun r_143=>(if r_143<0 then (some (.inr (.inl (x15,x16)))) else (some (.inl (or32 x15 (shl32 (and32 r_143 3) (w32 (2*x17))),w32 (x17+1),w32 (x17+1)))))) else (some (.inr (.inr (x15,x16))))
theorem l_law_l408_ok (sl:Int) (sc:Int→Int) (m0:OMem) (m1:OMem) (x3 x5 x7 x9 x11 x12 x13:Int) (x15 x16 x17:Int):Sim (l_law_l408 sl sc m0 m1 x3 x5 x7 x9 x11 x12 x13 (x15,x16,x17)) (Sum.elim (l_law_l408_H sl sc m0 m1 x3 x5 x7 x9 x11 x12 x13 ) (l_law_l408_X sl sc m0 m1 x3 x5 x7 x9 x11 x12 x13 )) (l_law_l408_H sl sc m0 m1 x3 x5 x7 x9 x11 x12 x13 (x15,x16,x17)) :=
 Yi 3 0 415 457 [qr 0,qr 1,qr 2,qi x3,qn,qj x5,qn,qj x7,qn,qj x9,qn,qi x11,qi x12,qi x13,qn,qi x15,qi x16,qi x17,qn,qn,qn,qn,qn,qn,qn,qn,qn,qn,qn,qn,qn,qn,qn,qn,qn,qn,qn,qn] [] [(44,m0),(44,m1)] rfl (Sh 3 (fun n=>(R n 10 0 [qr 0,qi x17] [] 44 m0).bind fun y=>RLv sl sc n 0 421 [qr 0,qr 1,qr 2,qi x3,qn,qj x5,qn,qj x7,qn,qj x9,qn,qi x11,qi x12,qi x13,qn,qi x15,qi x16,qi x17,qn,qn,qn,qn,qn,qn,qn,qn,qn,qn,qn,qn,qn,qn,qn,qn,qn,qn,qn,qn] [] [(44,m0),(44,m1)] 0 y) rfl (Sim.call (f_inputToken_ok x17 m0) (fun _ _=>rfl) (runP_mono _ _ _ _ _ _) (fun _=>runL_mono _ _ _ _ _) (fun r_143=>Yh 0 0 421 [qr 0,qr 1,qr 2,qi x3,qn,qj x5,qn,qj x7,qn,qj x9,qn,qi x11,qi x12,qi x13,qn,qi x15,qi x16,qi x17,qn,qn,qn,qn,qn,qn,qn,qn,qn,qn,qn,qn,qn,qn,qn,qn,qn,qn,qn,qn] [vi r_143] [(44,m0),(44,m1)] rfl (Yi 3 0 428 431 [qr 0,qr 1,qr 2,qi x3,qn,qj x5,qn,qj x7,qn,qj x9,qn,qi x11,qi x12,qi x13,qn,qi x15,qi x16,qi x17,qi r_143,qn,qn,qn,qn,qn,qn,qn,qn,qn,qn,qn,qn,qn,qn,qn,qn,qn,qn,qn] [] [(44,m0),(44,m1)] rfl (Sv rfl rfl) (Yh 6 0 440 [qr 0,qr 1,qr 2,qi x3,qn,qj x5,qn,qj x7,qn,qj x9,qn,qi x11,qi x12,qi x13,qn,qi x15,qn,qi x17,qi r_143,qn,qn,qn,qn,qn,qn,qn,qn,qn,qn,qn,qn,qn,qn,qn,qn,qn,qn,qn] [vi x17,vi 2,vi (and32 r_143 3),vi x15] [(44,m0),(44,m1)] rfl (Yh 1 0 441 [qr 0,qr 1,qr 2,qi x3,qn,qj x5,qn,qj x7,qn,qj x9,qn,qi x11,qi x12,qi x13,qn,qi x15,qn,qi x17,qi r_143,qn,qn,qn,qn,qn,qn,qn,qn,qn,qn,qn,qn,qn,qn,qn,qn,qn,qn,qn] [vi (w32 (2*x17)),vi (and32 r_143 3),vi x15] [(44,m0),(44,m1)] rfl (Yh 1 0 442 [qr 0,qr 1,qr 2,qi x3,qn,qj x5,qn,qj x7,qn,qj x9,qn,qi x11,qi x12,qi x13,qn,qi x15,qn,qi x17,qi r_143,qn,qn,qn,qn,qn,qn,qn,qn,qn,qn,qn,qn,qn,qn,qn,qn,qn,qn,qn] [vi (shl32 (and32 r_143 3) (w32 (2*x17))),vi x15] [(44,m0),(44,m1)] rfl (Yh 2 0 445 [qr 0,qr 1,qr 2,qi x3,qn,qj x5,qn,qj x7,qn,qj x9,qn,qi x11,qi x12,qi x13,qn,qi (or32 x15 (shl32 (and32 r_143 3) (w32 (2*x17)))),qn,qi x17,qi r_143,qn,qn,qn,qn,qn,qn,qn,qn,qn,qn,qn,qn,qn,qn,qn,qn,qn,qn,qn] [] [(44,m0),(44,m1)] rfl (Yh 5 0 454 [qr 0,qr 1,qr 2,qi x3,qn,qj x5,qn,qj x7,qn,qj x9,qn,qi x11,qi x12,qi x13,qn,qi (or32 x15 (shl32 (and32 r_143 3) (w32 (2*x17)))),qi (w32 (x17+1)),qi (w32 (x17+1)),qi r_143,qn,qn,qn,qn,qn,qn,qn,qn,qn,qn,qn,qn,qn,qn,qn,qn,qn,qn,qn] [] [(44,m0),(44,m1)] rfl (Yh 1 0 408 [qr 0,qr 1,qr 2,qi x3,qn,qj x5,qn,qj x7,qn,qj x9,qn,qi x11,qi x12,qi x13,qn,qi (or32 x15 (shl32 (and32 r_143 3) (w32 (2*x17)))),qi (w32 (x17+1)),qi (w32 (x17+1)),qi r_143,qn,qn,qn,qn,qn,qn,qn,qn,qn,qn,qn,qn,qn,qn,qn,qn,qn,qn,qn] [] [(44,m0),(44,m1)] rfl (Sv rfl rfl))))))))))) (Sv rfl rfl)
def l_law_b1200 (sl:Int) (sc:Int→Int) (x3 x5 x7 x9 x11 x12 x13:Int) (m0 m1:OMem):Option ((Int×Int×OMem×OMem)⊕((OMem×OMem)⊕(OMem×OMem)⊕(OMem×OMem)⊕(OMem×OMem)⊕(OMem×OMem)⊕(OMem×OMem)⊕(OMem×OMem)⊕(OMem×OMem)⊕(OMem×OMem)⊕(OMem×OMem)⊕(OMem×OMem)⊕(OMem×OMem))):=some (.inl (x3,w32 (x13+1),m0,m1))
theorem l_law_b1200_ok (sl:Int) (sc:Int→Int) (x3 x5 x7 x9 x11 x12 x13:Int) (m0 m1:OMem):Sim (l_law_b1200 sl sc x3 x5 x7 x9 x11 x12 x13 m0 m1) (Sum.elim (l_law_l327_H sl sc x5 x7 x9 x11 x12 ) (l_law_l327_X sl sc x5 x7 x9 x11 x12 )) (fun n=>RL sl sc n 0 1200 [qr 0,qr 1,qr 2,qi x3,qn,qj x5,qn,qj x7,qn,qj x9,qn,qi x11,qi x12,qi x13,qn,qn,qn,qn,qn,qn,qn,qn,qn,qn,qn,qn,qn,qn,qn,qn,qn,qn,qn,qn,qn,qn,qn,qn] [] [(44,m0),(44,m1)]) :=
 Zp 2 rfl
def l_law_l581_H (sl:Int) (sc:Int→Int) (x3 x5 x7 x9 x11 x12 x13 x16 x17 x18 x19:Int):Int×OMem×OMem→Nat→RTL:=fun (x20,m0,m1) n=>RL sl sc n 0 581 [qr 0,qr 1,qr 2,qi x3,qn,qj x5,qn,qj x7,qn,qj x9,qn,qi x11,qi x12,qi x13,qn,qn,qi x16,qi x17,qi x18,qi x19,qi x20,qn,qn,qn,qn,qn,qn,qn,qn,qn,qn,qn,qn,qn,qn,qn,qn,qn] [] [(44,m0),(44,m1)]
def l_law_l581_X (sl:Int) (sc:Int→Int) (x3 x5 x7 x9 x11 x12 x13 x16 x17 x18 x19:Int):(OMem×OMem)⊕(OMem×OMem)⊕(OMem×OMem)⊕(OMem×OMem)⊕(OMem×OMem)⊕(OMem×OMem)⊕(OMem×OMem)⊕(OMem×OMem)⊕(OMem×OMem)⊕(OMem×OMem)⊕(OMem×OMem)⊕(OMem×OMem)→Nat→RTL:=fun e n=>match e with | (.inl (w0,w1))=>RL sl sc n 0 602 [qr 0,qr 1,qr 2,qi x3,qn,qj x5,qn,qj x7,qn,qj x9,qn,qi x11,qi x12,qi x13,qn,qn,qn,qn,qn,qn,qn,qn,qn,qn,qn,qn,qn,qn,qn,qn,qn,qn,qn,qn,qn,qn,qn,qn] [] [(44,w0),(44,w1)] | (.inr (.inl (w0,w1)))=>RL sl sc n 0 647 [qn,qn,qn,qn,qn,qn,qn,qn,qn,qn,qn,qn,qn,qn,qn,qn,qn,qn,qn,qn,qn,qn,qn,qn,qn,qn,qn,qn,qn,qn,qn,qn,qn,qn,qn,qn,qn,qn] [] [(44,w0),(44,w1)] | (.inr (.inr (.inl (w0,w1))))=>RL sl sc n 0 679 [qn,qn,qn,qn,qn,qn,qn,qn,qn,qn,qn,qn,qn,qn,qn,qn,qn,qn,qn,qn,qn,qn,qn,qn,qn,qn,qn,qn,qn,qn,qn,qn,qn,qn,qn,qn,qn,qn] [] [(44,w0),(44,w1)] | (.inr (.inr (.inr (.inl (w0,w1)))))=>RL sl sc n 0 736 [qn,qn,qn,qn,qn,qn,qn,qn,qn,qn,qn,qn,qn,qn,qn,qn,qn,qn,qn,qn,qn,qn,qn,qn,qn,qn,qn,qn,qn,qn,qn,qn,qn,qn,qn,qn,qn,qn] [] [(44,w0),(44,w1)] | (.inr (.inr (.inr (.inr (.inl (w0,w1))))))=>RL sl sc n 0 821 [qn,qn,qn,qn,qn,qn,qn,qn,qn,qn,qn,qn,qn,qn,qn,qn,qn,qn,qn,qn,qn,qn,qn,qn,qn,qn,qn,qn,qn,qn,qn,qn,qn,qn,qn,qn,qn,qn] [] [(44,w0),(44,w1)] | (.inr (.inr (.inr (.inr (.inr (.inl (w0,w1)))))))=>RL sl sc n 0 841 [qn,qn,qn,qn,qn,qn,qn,qn,qn,qn,qn,qn,qn,qn,qn,qn,qn,qn,qn,qn,qn,qn,qn,qn,qn,qn,qn,qn,qn,qn,qn,qn,qn,qn,qn,qn,qn,qn] [] [(44,w0),(44,w1)] | (.inr (.inr (.inr (.inr (.inr (.inr (.inl (w0,w1))))))))=>RL sl sc n 0 869 [qn,qn,qn,qn,qn,qn,qn,qn,qn,qn,qn,qn,qn,qn,qn,qn,qn,qn,qn,qn,qn,qn,qn,qn,qn,qn,qn,qn,qn,qn,qn,qn,qn,qn,qn,qn,qn,qn] [] [(44,w0),(44,w1)] | (.inr (.inr (.inr (.inr (.inr (.inr (.inr (.inl (w0,w1)))))))))=>RL sl sc n 0 992 [qn,qn,qn,qn,qn,qn,qn,qn,qn,qn,qn,qn,qn,qn,qn,qn,qn,qn,qn,qn,qn,qn,qn,qn,qn,qn,qn,qn,qn,qn,qn,qn,qn,qn,qn,qn,qn,qn] [] [(44,w0),(44,w1)] | (.inr (.inr (.inr (.inr (.inr (.inr (.inr (.inr (.inl (w0,w1))))))))))=>RL sl sc n 0 1018 [qn,qn,qn,qn,qn,qn,qn,qn,qn,qn,qn,qn,qn,qn,qn,qn,qn,qn,qn,qn,qn,qn,qn,qn,qn,qn,qn,qn,qn,qn,qn,qn,qn,qn,qn,qn,qn,qn] [] [(44,w0),(44,w1)] | (.inr (.inr (.inr (.inr (.inr (.inr (.inr (.inr (.inr (.inl (w0,w1)))))))))))=>RL sl sc n 0 1032 [qn,qn,qn,qn,qn,qn,qn,qn,qn,qn,qn,qn,qn,qn,qn,qn,qn,qn,qn,qn,qn,qn,qn,qn,qn,qn,qn,qn,qn,qn,qn,qn,qn,qn,qn,qn,qn,qn] [] [(44,w0),(44,w1)] | (.inr (.inr (.inr (.inr (.inr (.inr (.inr (.inr (.inr (.inr (.inl (w0,w1))))))))))))=>RL sl sc n 0 1186 [qn,qn,qn,qn,qn,qn,qn,qn,qn,qn,qn,qn,qn,qn,qn,qn,qn,qn,qn,qn,qn,qn,qn,qn,qn,qn,qn,qn,qn,qn,qn,qn,qn,qn,qn,qn,qn,qn] [] [(44,w0),(44,w1)] | (.inr (.inr (.inr (.inr (.inr (.inr (.inr (.inr (.inr (.inr (.inr (w0,w1))))))))))))=>RL sl sc n 0 1200 [qr 0,qr 1,qr 2,qi x3,qn,qj x5,qn,qj x7,qn,qj x9,qn,qi x11,qi x12,qi x13,qn,qn,qn,qn,qn,qn,qn,qn,qn,qn,qn,qn,qn,qn,qn,qn,qn,qn,qn,qn,qn,qn,qn,qn] [] [(44,w0),(44,w1)]
def l_law_b1194 (sl:Int) (sc:Int→Int) (x3 x5 x7 x9 x11 x12 x13 x16 x17 x18 x19 x20:Int) (m0 m1:OMem):Option ((Int×OMem×OMem)⊕((OMem×OMem)⊕(OMem×OMem)⊕(OMem×OMem)⊕(OMem×OMem)⊕(OMem×OMem)⊕(OMem×OMem)⊕(OMem×OMem)⊕(OMem×OMem)⊕(OMem×OMem)⊕(OMem×OMem)⊕(OMem×OMem)⊕(OMem×OMem))):=some (.inl (w32 (x20+1),m0,m1))
theorem l_law_b1194_ok (sl:Int) (sc:Int→Int) (x3 x5 x7 x9 x11 x12 x13 x16 x17 x18 x19 x20:Int) (m0 m1:OMem):Sim (l_law_b1194 sl sc x3 x5 x7 x9 x11 x12 x13 x16 x17 x18 x19 x20 m0 m1) (Sum.elim (l_law_l581_H sl sc x3 x5 x7 x9 x11 x12 x13 x16 x17 x18 x19 ) (l_law_l581_X sl sc x3 x5 x7 x9 x11 x12 x13 x16 x17 x18 x19 )) (fun n=>RL sl sc n 0 1194 [qr 0,qr 1,qr 2,qi x3,qn,qj x5,qn,qj x7,qn,qj x9,qn,qi x11,qi x12,qi x13,qn,qn,qi x16,qi x17,qi x18,qi x19,qi x20,qn,qn,qn,qn,qn,qn,qn,qn,qn,qn,qn,qn,qn,qn,qn,qn,qn] [] [(44,m0),(44,m1)]) :=
 Zp 2 rfl
def l_law_l684_H (sl:Int) (sc:Int→Int) (m0:OMem) (m1:OMem) (x3 x5 x7 x9 x11 x12 x13 x16 x17 x18 x19 x20 x21 x22:Int):Int→Nat→RTL:=fun x23 n=>RL sl sc n 0 684 [qr 0,qr 1,qr 2,qi x3,qn,qj x5,qn,qj x7,qn,qj x9,qn,qi x11,qi x12,qi x13,qn,qn,qi x16,qi x17,qi x18,qi x19,qi x20,qi x21,qi x22,qi x23,qn,qn,qn,qn,qn,qn,qn,qn,qn,qn,qn,qn,qn,qn] [] [(44,m0),(44,m1)]
def l_law_l684_X (sl:Int) (sc:Int→Int) (m0:OMem) (m1:OMem) (x3 x5 x7 x9 x11 x12 x13 x16 x17 x18 x19 x20 x21 x22:Int):(Unit)⊕(Unit)⊕(Unit)⊕(Unit)⊕(Unit)⊕(Unit)⊕(Unit)⊕(Unit)→Nat→RTL:=fun e n=>match e with | (.inl _)=>RL sl sc n 0 736 [qn,qn,qn,qn,qn,qn,qn,qn,qn,qn,qn,qn,qn,qn,qn,qn,qn,qn,qn,qn,qn,qn,qn,qn,qn,qn,qn,qn,qn,qn,qn,qn,qn,qn,qn,qn,qn,qn] [] [(44,m0),(44,m1)] | (.inr (.inl _))=>RL sl sc n 0 821 [qn,qn,qn,qn,qn,qn,qn,qn,qn,qn,qn,qn,qn,qn,qn,qn,qn,qn,qn,qn,qn,qn,qn,qn,qn,qn,qn,qn,qn,qn,qn,qn,qn,qn,qn,qn,qn,qn] [] [(44,m0),(44,m1)] | (.inr (.inr (.inl _)))=>RL sl sc n 0 841 [qn,qn,qn,qn,qn,qn,qn,qn,qn,qn,qn,qn,qn,qn,qn,qn,qn,qn,qn,qn,qn,qn,qn,qn,qn,qn,qn,qn,qn,qn,qn,qn,qn,qn,qn,qn,qn,qn] [] [(44,m0),(44,m1)] | (.inr (.inr (.inr (.inl _))))=>RL sl sc n 0 869 [qn,qn,qn,qn,qn,qn,qn,qn,qn,qn,qn,qn,qn,qn,qn,qn,qn,qn,qn,qn,qn,qn,qn,qn,qn,qn,qn,qn,qn,qn,qn,qn,qn,qn,qn,qn,qn,qn] [] [(44,m0),(44,m1)] | (.inr (.inr (.inr (.inr (.inl _)))))=>RL sl sc n 0 992 [qn,qn,qn,qn,qn,qn,qn,qn,qn,qn,qn,qn,qn,qn,qn,qn,qn,qn,qn,qn,qn,qn,qn,qn,qn,qn,qn,qn,qn,qn,qn,qn,qn,qn,qn,qn,qn,qn] [] [(44,m0),(44,m1)] | (.inr (.inr (.inr (.inr (.inr (.inl _))))))=>RL sl sc n 0 1018 [qn,qn,qn,qn,qn,qn,qn,qn,qn,qn,qn,qn,qn,qn,qn,qn,qn,qn,qn,qn,qn,qn,qn,qn,qn,qn,qn,qn,qn,qn,qn,qn,qn,qn,qn,qn,qn,qn] [] [(44,m0),(44,m1)] | (.inr (.inr (.inr (.inr (.inr (.inr (.inl _)))))))=>RL sl sc n 0 1032 [qn,qn,qn,qn,qn,qn,qn,qn,qn,qn,qn,qn,qn,qn,qn,qn,qn,qn,qn,qn,qn,qn,qn,qn,qn,qn,qn,qn,qn,qn,qn,qn,qn,qn,qn,qn,qn,qn] [] [(44,m0),(44,m1)] | (.inr (.inr (.inr (.inr (.inr (.inr (.inr _)))))))=>RL sl sc n 0 1040 [qr 0,qr 1,qr 2,qi x3,qn,qj x5,qn,qj x7,qn,qj x9,qn,qi x11,qi x12,qi x13,qn,qn,qi x16,qi x17,qi x18,qi x19,qi x20,qi x21,qi x22,qn,qn,qn,qn,qn,qn,qn,qn,qn,qn,qn,qn,qn,qn,qn] [] [(44,m0),(44,m1)]
def l_law_l764_H (sl:Int) (sc:Int→Int) (m0:OMem) (m1:OMem) (x3 x5 x7 x9 x11 x12 x13 x16 x17 x18 x19 x20 x21 x22 x23 x24 x25:Int):Int×Int×Int→Nat→RTL:=fun (x26,x27,x28) n=>RL sl sc n 0 764 [qr 0,qr 1,qr 2,qi x3,qn,qj x5,qn,qj x7,qn,qj x9,qn,qi x11,qi x12,qi x13,qn,qn,qi x16,qi x17,qi x18,qi x19,qi x20,qi x21,qi x22,qi x23,qi x24,qi x25,qi x26,qi x27,qi x28,qn,qn,qn,qn,qn,qn,qn,qn,qn] [] [(44,m0),(44,m1)]
def l_law_l764_X (sl:Int) (sc:Int→Int) (m0:OMem) (m1:OMem) (x3 x5 x7 x9 x11 x12 x13 x16 x17 x18 x19 x20 x21 x22 x23 x24 x25:Int):(Unit)⊕(Unit)⊕(Unit)⊕(Unit)⊕(Int×Int)→Nat→RTL:=fun e n=>match e with | (.inl _)=>RL sl sc n 0 821 [qn,qn,qn,qn,qn,qn,qn,qn,qn,qn,qn,qn,qn,qn,qn,qn,qn,qn,qn,qn,qn,qn,qn,qn,qn,qn,qn,qn,qn,qn,qn,qn,qn,qn,qn,qn,qn,qn] [] [(44,m0),(44,m1)] | (.inr (.inl _))=>RL sl sc n 0 841 [qn,qn,qn,qn,qn,qn,qn,qn,qn,qn,qn,qn,qn,qn,qn,qn,qn,qn,qn,qn,qn,qn,qn,qn,qn,qn,qn,qn,qn,qn,qn,qn,qn,qn,qn,qn,qn,qn] [] [(44,m0),(44,m1)] | (.inr (.inr (.inl _)))=>RL sl sc n 0 869 [qn,qn,qn,qn,qn,qn,qn,qn,qn,qn,qn,qn,qn,qn,qn,qn,qn,qn,qn,qn,qn,qn,qn,qn,qn,qn,qn,qn,qn,qn,qn,qn,qn,qn,qn,qn,qn,qn] [] [(44,m0),(44,m1)] | (.inr (.inr (.inr (.inl _))))=>RL sl sc n 0 992 [qn,qn,qn,qn,qn,qn,qn,qn,qn,qn,qn,qn,qn,qn,qn,qn,qn,qn,qn,qn,qn,qn,qn,qn,qn,qn,qn,qn,qn,qn,qn,qn,qn,qn,qn,qn,qn,qn] [] [(44,m0),(44,m1)] | (.inr (.inr (.inr (.inr (y26,y27)))))=>RL sl sc n 0 1006 [qr 0,qr 1,qr 2,qi x3,qn,qj x5,qn,qj x7,qn,qj x9,qn,qi x11,qi x12,qi x13,qn,qn,qi x16,qi x17,qi x18,qi x19,qi x20,qi x21,qi x22,qi x23,qn,qn,qi y26,qi y27,qn,qn,qn,qn,qn,qn,qn,qn,qn,qn] [] [(44,m0),(44,m1)]
def l_law_l889_H (sl:Int) (sc:Int→Int) (m0:OMem) (m1:OMem) (x3 x5 x7 x9 x11 x12 x13 x16 x17 x18 x19 x20 x21 x22 x23 x24 x25 x26 x28 x32:Int):Int×Int→Nat→RTL:=fun (x30,x31) n=>RL sl sc n 0 889 [qr 0,qr 1,qr 2,qi x3,qn,qj x5,qn,qj x7,qn,qj x9,qn,qi x11,qi x12,qi x13,qn,qn,qi x16,qi x17,qi x18,qi x19,qi x20,qi x21,qi x22,qi x23,qi x24,qi x25,qi x26,qn,qi x28,qn,qi x30,qi x31,qi x32,qn,qn,qn,qn,qn] [] [(44,m0),(44,m1)]
def l_law_l889_X (sl:Int) (sc:Int→Int) (m0:OMem) (m1:OMem) (x3 x5 x7 x9 x11 x12 x13 x16 x17 x18 x19 x20 x21 x22 x23 x24 x25 x26 x28 x32:Int):(Int)⊕(Int)→Nat→RTL:=fun e n=>match e with | (.inl y31)=>RL sl sc n 0 975 [qr 0,qr 1,qr 2,qi x3,qn,qj x5,qn,qj x7,qn,qj x9,qn,qi x11,qi x12,qi x13,qn,qn,qi x16,qi x17,qi x18,qi x19,qi x20,qi x21,qi x22,qi x23,qi x24,qi x25,qi x26,qn,qi x28,qn,qn,qi y31,qn,qn,qn,qn,qn,qn] [] [(44,m0),(44,m1)] | (.inr y31)=>RL sl sc n 0 987 [qr 0,qr 1,qr 2,qi x3,qn,qj x5,qn,qj x7,qn,qj x9,qn,qi x11,qi x12,qi x13,qn,qn,qi x16,qi x17,qi x18,qi x19,qi x20,qi x21,qi x22,qi x23,qi x24,qi x25,qi x26,qn,qi x28,qn,qn,qi y31,qi x32,qn,qn,qn,qn,qn] [] [(44,m0),(44,m1)]
def l_law_l918_H (sl:Int) (sc:Int→Int) (m0:OMem) (m1:OMem) (x3 x5 x7 x9 x11 x12 x13 x16 x17 x18 x19 x20 x21 x22 x23 x24 x25 x26 x28 x30 x31 x32 x33 x34:Int):Int×Int→Nat→RTL:=fun (x35,x36) n=>RL sl sc n 0 918 [qr 0,qr 1,qr 2,qi x3,qn,qj x5,qn,qj x7,qn,qj x9,qn,qi x11,qi x12,qi x13,qn,qn,qi x16,qi x17,qi x18,qi x19,qi x20,qi x21,qi x22,qi x23,qi x24,qi x25,qi x26,qn,qi x28,qn,qi x30,qi x31,qi x32,qi x33,qi x34,qi x35,qi x36,qn] [] [(44,m0),(44,m1)]
def l_law_l918_X (sl:Int) (sc:Int→Int) (m0:OMem) (m1:OMem) (x3 x5 x7 x9 x11 x12 x13 x16 x17 x18 x19 x20 x21 x22 x23 x24 x25 x26 x28 x30 x31 x32 x33 x34:Int):(Int)→Nat→RTL:=fun e n=>match e with | y35=>RL sl sc n 0 961 [qr 0,qr 1,qr 2,qi x3,qn,qj x5,qn,qj x7,qn,qj x9,qn,qi x11,qi x12,qi x13,qn,qn,qi x16,qi x17,qi x18,qi x19,qi x20,qi x21,qi x22,qi x23,qi x24,qi x25,qi x26,qn,qi x28,qn,qi x30,qi x31,qi x32,qn,qn,qi y35,qn,qn] [] [(44,m0),(44,m1)]
def l_law_b955 (sl:Int) (sc:Int→Int) (x3 x5 x7 x9 x11 x12 x13 x16 x17 x18 x19 x20 x21 x22 x23 x24 x25 x26 x28 x30 x31 x32 x33 x34 x35 x36:Int) (m0 m1:OMem):Option ((Int×Int)⊕((Int))):=some (.inl (x35,w32 (x36+1)))
theorem l_law_b955_ok (sl:Int) (sc:Int→Int) (x3 x5 x7 x9 x11 x12 x13 x16 x17 x18 x19 x20 x21 x22 x23 x24 x25 x26 x28 x30 x31 x32 x33 x34 x35 x36:Int) (m0 m1:OMem):Sim (l_law_b955 sl sc x3 x5 x7 x9 x11 x12 x13 x16 x17 x18 x19 x20 x21 x22 x23 x24 x25 x26 x28 x30 x31 x32 x33 x34 x35 x36 m0 m1) (Sum.elim (l_law_l918_H sl sc m0 m1 x3 x5 x7 x9 x11 x12 x13 x16 x17 x18 x19 x20 x21 x22 x23 x24 x25 x26 x28 x30 x31 x32 x33 x34 ) (l_law_l918_X sl sc m0 m1 x3 x5 x7 x9 x11 x12 x13 x16 x17 x18 x19 x20 x21 x22 x23 x24 x25 x26 x28 x30 x31 x32 x33 x34 )) (fun n=>RL sl sc n 0 955 [qr 0,qr 1,qr 2,qi x3,qn,qj x5,qn,qj x7,qn,qj x9,qn,qi x11,qi x12,qi x13,qn,qn,qi x16,qi x17,qi x18,qi x19,qi x20,qi x21,qi x22,qi x23,qi x24,qi x25,qi x26,qn,qi x28,qn,qi x30,qi x31,qi x32,qi x33,qi x34,qi x35,qi x36,qn] [] [(44,m0),(44,m1)]) :=
 Zp 2 rfl
def l_law_l918 (sl:Int) (sc:Int→Int) (m0:OMem) (m1:OMem) (x3 x5 x7 x9 x11 x12 x13 x16 x17 x18 x19 x20 x21 x22 x23 x24 x25 x26 x28 x30 x31 x32 x33 x34:Int):Int×Int→Option ((Int×Int)⊕((Int))):=fun (x35,x36)=>if x36<x34 then (if x36<3 then ((f_ruleSymbol x33 x36 m0).bind fun r_165=>(if r_165<0 then (l_law_b955 sl sc x3 x5 x7 x9 x11 x12 x13 x16 x17 x18 x19 x20 x21 x22 x23 x24 x25 x26 x28 x30 x31 x32 x33 x34 x35 x36 m0 m1) else (if r_165<4 then (l_law_b955 sl sc x3 x5 x7 x9 x11 x12 x13 x16 x17 x18 x19 x20 x21 x22 x23 x24 x25 x26 x28 x30 x31 x32 x33 x34 (w32 (x35+1)) x36 m0 m1) else (l_law_b955 sl sc x3 x5 x7 x9 x11 x12 x13 x16 x17 x18 x19 x20 x21 x22 x23 x24 x25 x26 x28 x30 x31 x32 x33 x34 x35 x36 m0 m1)))) else (some (.inr x35))) else (some (.inr x35))
theorem l_law_l918_ok (sl:Int) (sc:Int→Int) (m0:OMem) (m1:OMem) (x3 x5 x7 x9 x11 x12 x13 x16 x17 x18 x19 x20 x21 x22 x23 x24 x25 x26 x28 x30 x31 x32 x33 x34:Int) (x35 x36:Int):Sim (l_law_l918 sl sc m0 m1 x3 x5 x7 x9 x11 x12 x13 x16 x17 x18 x19 x20 x21 x22 x23 x24 x25 x26 x28 x30 x31 x32 x33 x34 (x35,x36)) (Sum.elim (l_law_l918_H sl sc m0 m1 x3 x5 x7 x9 x11 x12 x13 x16 x17 x18 x19 x20 x21 x22 x23 x24 x25 x26 x28 x30 x31 x32 x33 x34 ) (l_law_l918_X sl sc m0 m1 x3 x5 x7 x9 x11 x12 x13 x16 x17 x18 x19 x20 x21 x22 x23 x24 x25 x26 x28 x30 x31 x32 x33 x34 )) (l_law_l918_H sl sc m0 m1 x3 x5 x7 x9 x11 x12 x13 x16 x17 x18 x19 x20 x21 x22 x23 x24 x25 x26 x28 x30 x31 x32 x33 x34 (x35,x36)) :=
 Yi 3 0 925 961 [qr 0,qr 1,qr 2,qi x3,qn,qj x5,qn,qj x7,qn,qj x9,qn,qi x11,qi x12,qi x13,qn,qn,qi x16,qi x17,qi x18,qi x19,qi x20,qi x21,qi x22,qi x23,qi x24,qi x25,qi x26,qn,qi x28,qn,qi x30,qi x31,qi x32,qi x33,qi x34,qi x35,qi x36,qn] [] [(44,m0),(44,m1)] rfl (Yi 3 0 931 961 [qr 0,qr 1,qr 2,qi x3,qn,qj x5,qn,qj x7,qn,qj x9,qn,qi x11,qi x12,qi x13,qn,qn,qi x16,qi x17,qi x18,qi x19,qi x20,qi x21,qi x22,qi x23,qi x24,qi x25,qi x26,qn,qi x28,qn,qi x30,qi x31,qi x32,qi x33,qi x34,qi x35,qi x36,qn] [] [(44,m0),(44,m1)] rfl (Sh 4 (fun n=>(R n 7 0 [qr 0,qi x33,qi x36] [] 44 m0).bind fun y=>RLv sl sc n 0 939 [qr 0,qr 1,qr 2,qi x3,qn,qj x5,qn,qj x7,qn,qj x9,qn,qi x11,qi x12,qi x13,qn,qn,qi x16,qi x17,qi x18,qi x19,qi x20,qi x21,qi x22,qi x23,qi x24,qi x25,qi x26,qn,qi x28,qn,qi x30,qi x31,qi x32,qi x33,qi x34,qi x35,qi x36,qn] [] [(44,m0),(44,m1)] 0 y) rfl (Sim.call (f_ruleSymbol_ok x33 x36 m0) (fun _ _=>rfl) (runP_mono _ _ _ _ _ _) (fun _=>runL_mono _ _ _ _ _) (fun r_165=>Yh 0 0 939 [qr 0,qr 1,qr 2,qi x3,qn,qj x5,qn,qj x7,qn,qj x9,qn,qi x11,qi x12,qi x13,qn,qn,qi x16,qi x17,qi x18,qi x19,qi x20,qi x21,qi x22,qi x23,qi x24,qi x25,qi x26,qn,qi x28,qn,qi x30,qi x31,qi x32,qi x33,qi x34,qi x35,qi x36,qn] [vi r_165] [(44,m0),(44,m1)] rfl (Yi 3 0 955 946 [qr 0,qr 1,qr 2,qi x3,qn,qj x5,qn,qj x7,qn,qj x9,qn,qi x11,qi x12,qi x13,qn,qn,qi x16,qi x17,qi x18,qi x19,qi x20,qi x21,qi x22,qi x23,qi x24,qi x25,qi x26,qn,qi x28,qn,qi x30,qi x31,qi x32,qi x33,qi x34,qi x35,qi x36,qi r_165] [] [(44,m0),(44,m1)] rfl (Sim.jmp (l_law_b955_ok sl sc x3 x5 x7 x9 x11 x12 x13 x16 x17 x18 x19 x20 x21 x22 x23 x24 x25 x26 x28 x30 x31 x32 x33 x34 x35 x36 m0 m1) rfl (fun _=>rfl)) (Yi 3 0 952 955 [qr 0,qr 1,qr 2,qi x3,qn,qj x5,qn,qj x7,qn,qj x9,qn,qi x11,qi x12,qi x13,qn,qn,qi x16,qi x17,qi x18,qi x19,qi x20,qi x21,qi x22,qi x23,qi x24,qi x25,qi x26,qn,qi x28,qn,qi x30,qi x31,qi x32,qi x33,qi x34,qi x35,qi x36,qi r_165] [] [(44,m0),(44,m1)] rfl (Ze 1 (l_law_b955_ok sl sc x3 x5 x7 x9 x11 x12 x13 x16 x17 x18 x19 x20 x21 x22 x23 x24 x25 x26 x28 x30 x31 x32 x33 x34 (w32 (x35+1)) x36 m0 m1) rfl) (Sim.jmp (l_law_b955_ok sl sc x3 x5 x7 x9 x11 x12 x13 x16 x17 x18 x19 x20 x21 x22 x23 x24 x25 x26 x28 x30 x31 x32 x33 x34 x35 x36 m0 m1) rfl (fun _=>rfl))))))) (Sv rfl rfl)) (Sv rfl rfl)
def l_law_b961 (sl:Int) (sc:Int→Int) (x3 x5 x7 x9 x11 x12 x13 x16 x17 x18 x19 x20 x21 x22 x23 x24 x25 x26 x28 x30 x31 x32 x35:Int) (m0 m1:OMem):Option ((Int×Int)⊕((Int)⊕(Int))):=if w32 (x30+(w32 (x35 - 1)))=0 then (some (.inr (.inl x31))) else (some (.inl (w32 (x30+(w32 (x35 - 1))),w32 (x31+1))))
theorem l_law_b961_ok (sl:Int) (sc:Int→Int) (x3 x5 x7 x9 x11 x12 x13 x16 x17 x18 x19 x20 x21 x22 x23 x24 x25 x26 x28 x30 x31 x32 x35:Int) (m0 m1:OMem):Sim (l_law_b961 sl sc x3 x5 x7 x9 x11 x12 x13 x16 x17 x18 x19 x20 x21 x22 x23 x24 x25 x26 x28 x30 x31 x32 x35 m0 m1) (Sum.elim (l_law_l889_H sl sc m0 m1 x3 x5 x7 x9 x11 x12 x13 x16 x17 x18 x19 x20 x21 x22 x23 x24 x25 x26 x28 x32 ) (l_law_l889_X sl sc m0 m1 x3 x5 x7 x9 x11 x12 x13 x16 x17 x18 x19 x20 x21 x22 x23 x24 x25 x26 x28 x32 )) (fun n=>RL sl sc n 0 961 [qr 0,qr 1,qr 2,qi x3,qn,qj x5,qn,qj x7,qn,qj x9,qn,qi x11,qi x12,qi x13,qn,qn,qi x16,qi x17,qi x18,qi x19,qi x20,qi x21,qi x22,qi x23,qi x24,qi x25,qi x26,qn,qi x28,qn,qi x30,qi x31,qi x32,qn,qn,qi x35,qn,qn] [] [(44,m0),(44,m1)]) :=
 Yh 5 0 968 [qr 0,qr 1,qr 2,qi x3,qn,qj x5,qn,qj x7,qn,qj x9,qn,qi x11,qi x12,qi x13,qn,qn,qi x16,qi x17,qi x18,qi x19,qi x20,qi x21,qi x22,qi x23,qi x24,qi x25,qi x26,qn,qi x28,qn,qi x30,qi x31,qi x32,qn,qn,qi x35,qn,qn] [vi (w32 (x30+(w32 (x35 - 1))))] [(44,m0),(44,m1)] rfl (Yi 3 0 975 981 [qr 0,qr 1,qr 2,qi x3,qn,qj x5,qn,qj x7,qn,qj x9,qn,qi x11,qi x12,qi x13,qn,qn,qi x16,qi x17,qi x18,qi x19,qi x20,qi x21,qi x22,qi x23,qi x24,qi x25,qi x26,qn,qi x28,qn,qi (w32 (x30+(w32 (x35 - 1)))),qi x31,qi x32,qn,qn,qi x35,qn,qn] [] [(44,m0),(44,m1)] rfl (Sv rfl rfl) (Zp 2 rfl))
def l_law_l889 (sl:Int) (sc:Int→Int) (m0:OMem) (m1:OMem) (x3 x5 x7 x9 x11 x12 x13 x16 x17 x18 x19 x20 x21 x22 x23 x24 x25 x26 x28 x32:Int):Int×Int→Option ((Int×Int)⊕((Int)⊕(Int))):=fun (x30,x31)=>if x31<x22 then ((f_treeRule x31 m0).bind fun r_163=>((f_ruleLength r_163 m0).bind fun r_164=>((lp (l_law_l918 sl sc m0 m1 x3 x5 x7 x9 x11 x12 x13 x16 x17 x18 x19 x20 x21 x22 x23 x24 x25 x26 x28 x30 x31 x32 r_163 r_164) NN (0,0)).bind fun x35_166=>(l_law_b961 sl sc x3 x5 x7 x9 x11 x12 x13 x16 x17 x18 x19 x20 x21 x22 x23 x24 x25 x26 x28 x30 x31 x32 x35_166 m0 m1)))) else (some (.inr (.inr x31)))
theorem l_law_l889_ok (sl:Int) (sc:Int→Int) (m0:OMem) (m1:OMem) (x3 x5 x7 x9 x11 x12 x13 x16 x17 x18 x19 x20 x21 x22 x23 x24 x25 x26 x28 x32:Int) (x30 x31:Int):Sim (l_law_l889 sl sc m0 m1 x3 x5 x7 x9 x11 x12 x13 x16 x17 x18 x19 x20 x21 x22 x23 x24 x25 x26 x28 x32 (x30,x31)) (Sum.elim (l_law_l889_H sl sc m0 m1 x3 x5 x7 x9 x11 x12 x13 x16 x17 x18 x19 x20 x21 x22 x23 x24 x25 x26 x28 x32 ) (l_law_l889_X sl sc m0 m1 x3 x5 x7 x9 x11 x12 x13 x16 x17 x18 x19 x20 x21 x22 x23 x24 x25 x26 x28 x32 )) (l_law_l889_H sl sc m0 m1 x3 x5 x7 x9 x11 x12 x13 x16 x17 x18 x19 x20 x21 x22 x23 x24 x25 x26 x28 x32 (x30,x31)) :=
 Yi 3 0 896 987 [qr 0,qr 1,qr 2,qi x3,qn,qj x5,qn,qj x7,qn,qj x9,qn,qi x11,qi x12,qi x13,qn,qn,qi x16,qi x17,qi x18,qi x19,qi x20,qi x21,qi x22,qi x23,qi x24,qi x25,qi x26,qn,qi x28,qn,qi x30,qi x31,qi x32,qn,qn,qn,qn,qn] [] [(44,m0),(44,m1)] rfl (Sh 3 (fun n=>(R n 38 0 [qr 0,qi x31] [] 44 m0).bind fun y=>RLv sl sc n 0 902 [qr 0,qr 1,qr 2,qi x3,qn,qj x5,qn,qj x7,qn,qj x9,qn,qi x11,qi x12,qi x13,qn,qn,qi x16,qi x17,qi x18,qi x19,qi x20,qi x21,qi x22,qi x23,qi x24,qi x25,qi x26,qn,qi x28,qn,qi x30,qi x31,qi x32,qn,qn,qn,qn,qn] [] [(44,m0),(44,m1)] 0 y) rfl (Sim.call (f_treeRule_ok x31 m0) (fun _ _=>rfl) (runP_mono _ _ _ _ _ _) (fun _=>runL_mono _ _ _ _ _) (fun r_163=>Yh 0 0 902 [qr 0,qr 1,qr 2,qi x3,qn,qj x5,qn,qj x7,qn,qj x9,qn,qi x11,qi x12,qi x13,qn,qn,qi x16,qi x17,qi x18,qi x19,qi x20,qi x21,qi x22,qi x23,qi x24,qi x25,qi x26,qn,qi x28,qn,qi x30,qi x31,qi x32,qn,qn,qn,qn,qn] [vi r_163] [(44,m0),(44,m1)] rfl (Sh 4 (fun n=>(R n 6 0 [qr 0,qi r_163] [] 44 m0).bind fun y=>RLv sl sc n 0 910 [qr 0,qr 1,qr 2,qi x3,qn,qj x5,qn,qj x7,qn,qj x9,qn,qi x11,qi x12,qi x13,qn,qn,qi x16,qi x17,qi x18,qi x19,qi x20,qi x21,qi x22,qi x23,qi x24,qi x25,qi x26,qn,qi x28,qn,qi x30,qi x31,qi x32,qi r_163,qn,qn,qn,qn] [] [(44,m0),(44,m1)] 0 y) rfl (Sim.call (f_ruleLength_ok r_163 m0) (fun _ _=>rfl) (runP_mono _ _ _ _ _ _) (fun _=>runL_mono _ _ _ _ _) (fun r_164=>Yh 0 0 910 [qr 0,qr 1,qr 2,qi x3,qn,qj x5,qn,qj x7,qn,qj x9,qn,qi x11,qi x12,qi x13,qn,qn,qi x16,qi x17,qi x18,qi x19,qi x20,qi x21,qi x22,qi x23,qi x24,qi x25,qi x26,qn,qi x28,qn,qi x30,qi x31,qi x32,qi r_163,qn,qn,qn,qn] [vi r_164] [(44,m0),(44,m1)] rfl (Zb 5 (Sim.lp (σ:=Int×Int) (fun ⟨x35L,x36L⟩=>l_law_l918_ok sl sc m0 m1 x3 x5 x7 x9 x11 x12 x13 x16 x17 x18 x19 x20 x21 x22 x23 x24 x25 x26 x28 x30 x31 x32 r_163 r_164 x35L x36L) NN (0,0)) rfl (fun x35_166=>l_law_b961_ok sl sc x3 x5 x7 x9 x11 x12 x13 x16 x17 x18 x19 x20 x21 x22 x23 x24 x25 x26 x28 x30 x31 x32 x35_166 m0 m1)))))))) (Sv rfl rfl)
def l_law_b1000 (sl:Int) (sc:Int→Int) (x3 x5 x7 x9 x11 x12 x13 x16 x17 x18 x19 x20 x21 x22 x23 x24 x25 x26 x27 x28:Int) (m0 m1:OMem):Option ((Int×Int×Int)⊕((Unit)⊕(Unit)⊕(Unit)⊕(Unit)⊕(Int×Int))):=some (.inl (x26,x27,w32 (x28+1)))
theorem l_law_b1000_ok (sl:Int) (sc:Int→Int) (x3 x5 x7 x9 x11 x12 x13 x16 x17 x18 x19 x20 x21 x22 x23 x24 x25 x26 x27 x28:Int) (m0 m1:OMem):Sim (l_law_b1000 sl sc x3 x5 x7 x9 x11 x12 x13 x16 x17 x18 x19 x20 x21 x22 x23 x24 x25 x26 x27 x28 m0 m1) (Sum.elim (l_law_l764_H sl sc m0 m1 x3 x5 x7 x9 x11 x12 x13 x16 x17 x18 x19 x20 x21 x22 x23 x24 x25 ) (l_law_l764_X sl sc m0 m1 x3 x5 x7 x9 x11 x12 x13 x16 x17 x18 x19 x20 x21 x22 x23 x24 x25 )) (fun n=>RL sl sc n 0 1000 [qr 0,qr 1,qr 2,qi x3,qn,qj x5,qn,qj x7,qn,qj x9,qn,qi x11,qi x12,qi x13,qn,qn,qi x16,qi x17,qi x18,qi x19,qi x20,qi x21,qi x22,qi x23,qi x24,qi x25,qi x26,qi x27,qi x28,qn,qn,qn,qn,qn,qn,qn,qn,qn] [] [(44,m0),(44,m1)]) :=
 Zp 2 rfl
def l_law_b987 (sl:Int) (sc:Int→Int) (x3 x5 x7 x9 x11 x12 x13 x16 x17 x18 x19 x20 x21 x22 x23 x24 x25 x26 x28 x31 x32:Int) (m0 m1:OMem):Option ((Int×Int×Int)⊕((Unit)⊕(Unit)⊕(Unit)⊕(Unit)⊕(Int×Int))):=if x32=0 then (some (.inr (.inr (.inr (.inr (.inl ())))))) else (l_law_b1000 sl sc x3 x5 x7 x9 x11 x12 x13 x16 x17 x18 x19 x20 x21 x22 x23 x24 x25 x26 (w32 (x31+1)) x28 m0 m1)
theorem l_law_b987_ok (sl:Int) (sc:Int→Int) (x3 x5 x7 x9 x11 x12 x13 x16 x17 x18 x19 x20 x21 x22 x23 x24 x25 x26 x28 x31 x32:Int) (m0 m1:OMem):Sim (l_law_b987 sl sc x3 x5 x7 x9 x11 x12 x13 x16 x17 x18 x19 x20 x21 x22 x23 x24 x25 x26 x28 x31 x32 m0 m1) (Sum.elim (l_law_l764_H sl sc m0 m1 x3 x5 x7 x9 x11 x12 x13 x16 x17 x18 x19 x20 x21 x22 x23 x24 x25 ) (l_law_l764_X sl sc m0 m1 x3 x5 x7 x9 x11 x12 x13 x16 x17 x18 x19 x20 x21 x22 x23 x24 x25 )) (fun n=>RL sl sc n 0 987 [qr 0,qr 1,qr 2,qi x3,qn,qj x5,qn,qj x7,qn,qj x9,qn,qi x11,qi x12,qi x13,qn,qn,qi x16,qi x17,qi x18,qi x19,qi x20,qi x21,qi x22,qi x23,qi x24,qi x25,qi x26,qn,qi x28,qn,qn,qi x31,qi x32,qn,qn,qn,qn,qn] [] [(44,m0),(44,m1)]) :=
 Yi 2 0 992 994 [qr 0,qr 1,qr 2,qi x3,qn,qj x5,qn,qj x7,qn,qj x9,qn,qi x11,qi x12,qi x13,qn,qn,qi x16,qi x17,qi x18,qi x19,qi x20,qi x21,qi x22,qi x23,qi x24,qi x25,qi x26,qn,qi x28,qn,qn,qi x31,qi x32,qn,qn,qn,qn,qn] [] [(44,m0),(44,m1)] rfl (Sv rfl rfl) (Zj 4 (l_law_b1000_ok sl sc x3 x5 x7 x9 x11 x12 x13 x16 x17 x18 x19 x20 x21 x22 x23 x24 x25 x26 (w32 (x31+1)) x28 m0 m1) rfl rfl)
def l_law_b788 (sl:Int) (sc:Int→Int) (x3 x5 x7 x9 x11 x12 x13 x16 x17 x18 x19 x20 x21 x22 x23 x24 x25 x26 x27 x28 s0:Int) (m0 m1:OMem):Option ((Int×Int×Int)⊕((Unit)⊕(Unit)⊕(Unit)⊕(Unit)⊕(Int×Int))):=if s0<4 then (if s0<0 then (some (.inr (.inr (.inl ())))) else (if x27<x22 then ((f_treeRule x27 m0).bind fun r_159=>((f_ruleLhs r_159 m0).bind fun r_160=>(if r_160=s0 then ((f_treeStart x27 m0).bind fun r_161=>(if r_161=x26 then ((f_treeEnd x27 m0).bind fun r_162=>((lp (l_law_l889 sl sc m0 m1 x3 x5 x7 x9 x11 x12 x13 x16 x17 x18 x19 x20 x21 x22 x23 x24 x25 r_162 x28 0) NN (1,x27)).bind fun e=>match e with | (.inl x31_167)=>(l_law_b987 sl sc x3 x5 x7 x9 x11 x12 x13 x16 x17 x18 x19 x20 x21 x22 x23 x24 x25 r_162 x28 x31_167 1 m0 m1) | (.inr x31_168)=>(l_law_b987 sl sc x3 x5 x7 x9 x11 x12 x13 x16 x17 x18 x19 x20 x21 x22 x23 x24 x25 r_162 x28 x31_168 0 m0 m1))) else (some (.inr (.inr (.inr (.inl ()))))))) else (some (.inr (.inr (.inr (.inl ())))))))) else (some (.inr (.inr (.inl ())))))) else (if x26<0 then (some (.inr (.inl ()))) else (if x26<x16 then ((f_inputToken x26 m0).bind fun r_169=>(if r_169=w32 (s0 - 4) then (l_law_b1000 sl sc x3 x5 x7 x9 x11 x12 x13 x16 x17 x18 x19 x20 x21 x22 x23 x24 x25 (w32 (x26+1)) x27 x28 m0 m1) else (some (.inr (.inl ()))))) else (some (.inr (.inl ())))))
theorem l_law_b788_ok (sl:Int) (sc:Int→Int) (x3 x5 x7 x9 x11 x12 x13 x16 x17 x18 x19 x20 x21 x22 x23 x24 x25 x26 x27 x28 s0:Int) (m0 m1:OMem):Sim (l_law_b788 sl sc x3 x5 x7 x9 x11 x12 x13 x16 x17 x18 x19 x20 x21 x22 x23 x24 x25 x26 x27 x28 s0 m0 m1) (Sum.elim (l_law_l764_H sl sc m0 m1 x3 x5 x7 x9 x11 x12 x13 x16 x17 x18 x19 x20 x21 x22 x23 x24 x25 ) (l_law_l764_X sl sc m0 m1 x3 x5 x7 x9 x11 x12 x13 x16 x17 x18 x19 x20 x21 x22 x23 x24 x25 )) (fun n=>RL sl sc n 0 788 [qr 0,qr 1,qr 2,qi x3,qn,qj x5,qn,qj x7,qn,qj x9,qn,qi x11,qi x12,qi x13,qn,qn,qi x16,qi x17,qi x18,qi x19,qi x20,qi x21,qi x22,qi x23,qi x24,qi x25,qi x26,qi x27,qi x28,qn,qn,qn,qn,qn,qn,qn,qn,qn] [vi s0] [(44,m0),(44,m1)]) :=
 Yi 4 0 829 796 [qr 0,qr 1,qr 2,qi x3,qn,qj x5,qn,qj x7,qn,qj x9,qn,qi x11,qi x12,qi x13,qn,qn,qi x16,qi x17,qi x18,qi x19,qi x20,qi x21,qi x22,qi x23,qi x24,qi x25,qi x26,qi x27,qi x28,qi s0,qn,qn,qn,qn,qn,qn,qn,qn] [] [(44,m0),(44,m1)] rfl (Yi 2 0 841 834 [qr 0,qr 1,qr 2,qi x3,qn,qj x5,qn,qj x7,qn,qj x9,qn,qi x11,qi x12,qi x13,qn,qn,qi x16,qi x17,qi x18,qi x19,qi x20,qi x21,qi x22,qi x23,qi x24,qi x25,qi x26,qi x27,qi x28,qi s0,qn,qn,qn,qn,qn,qn,qn,qn] [] [(44,m0),(44,m1)] rfl (Sv rfl rfl) (Yi 3 0 843 841 [qr 0,qr 1,qr 2,qi x3,qn,qj x5,qn,qj x7,qn,qj x9,qn,qi x11,qi x12,qi x13,qn,qn,qi x16,qi x17,qi x18,qi x19,qi x20,qi x21,qi x22,qi x23,qi x24,qi x25,qi x26,qi x27,qi x28,qi s0,qn,qn,qn,qn,qn,qn,qn,qn] [] [(44,m0),(44,m1)] rfl (Sh 4 (fun n=>(R n 38 0 [qr 0,qi x27] [] 44 m0).bind fun y=>RLv sl sc n 0 850 [qr 0,qr 1,qr 2,qi x3,qn,qj x5,qn,qj x7,qn,qj x9,qn,qi x11,qi x12,qi x13,qn,qn,qi x16,qi x17,qi x18,qi x19,qi x20,qi x21,qi x22,qi x23,qi x24,qi x25,qi x26,qi x27,qi x28,qi s0,qn,qn,qn,qn,qn,qn,qn,qn] [vr 1] [(44,m0),(44,m1)] 0 y) rfl (Sim.call (f_treeRule_ok x27 m0) (fun _ _=>rfl) (runP_mono _ _ _ _ _ _) (fun _=>runL_mono _ _ _ _ _) (fun r_159=>Yh 0 0 850 [qr 0,qr 1,qr 2,qi x3,qn,qj x5,qn,qj x7,qn,qj x9,qn,qi x11,qi x12,qi x13,qn,qn,qi x16,qi x17,qi x18,qi x19,qi x20,qi x21,qi x22,qi x23,qi x24,qi x25,qi x26,qi x27,qi x28,qi s0,qn,qn,qn,qn,qn,qn,qn,qn] [vi r_159,vr 1] [(44,m0),(44,m1)] rfl (Sh 1 (fun n=>(R n 4 0 [qr 0,qi r_159] [] 44 m0).bind fun y=>RLv sl sc n 0 853 [qr 0,qr 1,qr 2,qi x3,qn,qj x5,qn,qj x7,qn,qj x9,qn,qi x11,qi x12,qi x13,qn,qn,qi x16,qi x17,qi x18,qi x19,qi x20,qi x21,qi x22,qi x23,qi x24,qi x25,qi x26,qi x27,qi x28,qi s0,qn,qn,qn,qn,qn,qn,qn,qn] [] [(44,m0),(44,m1)] 0 y) rfl (Sim.call (f_ruleLhs_ok r_159 m0) (fun _ _=>rfl) (runP_mono _ _ _ _ _ _) (fun _=>runL_mono _ _ _ _ _) (fun r_160=>Yh 0 0 853 [qr 0,qr 1,qr 2,qi x3,qn,qj x5,qn,qj x7,qn,qj x9,qn,qi x11,qi x12,qi x13,qn,qn,qi x16,qi x17,qi x18,qi x19,qi x20,qi x21,qi x22,qi x23,qi x24,qi x25,qi x26,qi x27,qi x28,qi s0,qn,qn,qn,qn,qn,qn,qn,qn] [vi r_160] [(44,m0),(44,m1)] rfl (Yi 2 0 858 869 [qr 0,qr 1,qr 2,qi x3,qn,qj x5,qn,qj x7,qn,qj x9,qn,qi x11,qi x12,qi x13,qn,qn,qi x16,qi x17,qi x18,qi x19,qi x20,qi x21,qi x22,qi x23,qi x24,qi x25,qi x26,qi x27,qi x28,qi s0,qn,qn,qn,qn,qn,qn,qn,qn] [] [(44,m0),(44,m1)] rfl (Sh 3 (fun n=>(R n 40 0 [qr 0,qi x27] [] 44 m0).bind fun y=>RLv sl sc n 0 864 [qr 0,qr 1,qr 2,qi x3,qn,qj x5,qn,qj x7,qn,qj x9,qn,qi x11,qi x12,qi x13,qn,qn,qi x16,qi x17,qi x18,qi x19,qi x20,qi x21,qi x22,qi x23,qi x24,qi x25,qi x26,qi x27,qi x28,qn,qn,qn,qn,qn,qn,qn,qn,qn] [] [(44,m0),(44,m1)] 0 y) rfl (Sim.call (f_treeStart_ok x27 m0) (fun _ _=>rfl) (runP_mono _ _ _ _ _ _) (fun _=>runL_mono _ _ _ _ _) (fun r_161=>Yh 0 0 864 [qr 0,qr 1,qr 2,qi x3,qn,qj x5,qn,qj x7,qn,qj x9,qn,qi x11,qi x12,qi x13,qn,qn,qi x16,qi x17,qi x18,qi x19,qi x20,qi x21,qi x22,qi x23,qi x24,qi x25,qi x26,qi x27,qi x28,qn,qn,qn,qn,qn,qn,qn,qn,qn] [vi r_161] [(44,m0),(44,m1)] rfl (Yi 2 0 871 869 [qr 0,qr 1,qr 2,qi x3,qn,qj x5,qn,qj x7,qn,qj x9,qn,qi x11,qi x12,qi x13,qn,qn,qi x16,qi x17,qi x18,qi x19,qi x20,qi x21,qi x22,qi x23,qi x24,qi x25,qi x26,qi x27,qi x28,qn,qn,qn,qn,qn,qn,qn,qn,qn] [] [(44,m0),(44,m1)] rfl (Sh 3 (fun n=>(R n 41 0 [qr 0,qi x27] [] 44 m0).bind fun y=>RLv sl sc n 0 877 [qr 0,qr 1,qr 2,qi x3,qn,qj x5,qn,qj x7,qn,qj x9,qn,qi x11,qi x12,qi x13,qn,qn,qi x16,qi x17,qi x18,qi x19,qi x20,qi x21,qi x22,qi x23,qi x24,qi x25,qn,qi x27,qi x28,qn,qn,qn,qn,qn,qn,qn,qn,qn] [] [(44,m0),(44,m1)] 0 y) rfl (Sim.call (f_treeEnd_ok x27 m0) (fun _ _=>rfl) (runP_mono _ _ _ _ _ _) (fun _=>runL_mono _ _ _ _ _) (fun r_162=>Yh 0 0 877 [qr 0,qr 1,qr 2,qi x3,qn,qj x5,qn,qj x7,qn,qj x9,qn,qi x11,qi x12,qi x13,qn,qn,qi x16,qi x17,qi x18,qi x19,qi x20,qi x21,qi x22,qi x23,qi x24,qi x25,qn,qi x27,qi x28,qn,qn,qn,qn,qn,qn,qn,qn,qn] [vi r_162] [(44,m0),(44,m1)] rfl (Yh 5 0 886 [qr 0,qr 1,qr 2,qi x3,qn,qj x5,qn,qj x7,qn,qj x9,qn,qi x11,qi x12,qi x13,qn,qn,qi x16,qi x17,qi x18,qi x19,qi x20,qi x21,qi x22,qi x23,qi x24,qi x25,qi r_162,qi x27,qi x28,qn,qi 1,qi x27,qn,qn,qn,qn,qn,qn] [] [(44,m0),(44,m1)] rfl (Zj 2 (Sim.bind (Sim.lp (σ:=Int×Int) (fun ⟨x30L,x31L⟩=>l_law_l889_ok sl sc m0 m1 x3 x5 x7 x9 x11 x12 x13 x16 x17 x18 x19 x20 x21 x22 x23 x24 x25 r_162 x28 0 x30L x31L) NN (1,x27)) (fun e=>match e with | (.inl x31_167)=>Sh 3 (fun n=>RL sl sc n 0 987 [qr 0,qr 1,qr 2,qi x3,qn,qj x5,qn,qj x7,qn,qj x9,qn,qi x11,qi x12,qi x13,qn,qn,qi x16,qi x17,qi x18,qi x19,qi x20,qi x21,qi x22,qi x23,qi x24,qi x25,qi r_162,qn,qi x28,qn,qn,qi x31_167,qi 1,qn,qn,qn,qn,qn] [] [(44,m0),(44,m1)]) rfl (l_law_b987_ok sl sc x3 x5 x7 x9 x11 x12 x13 x16 x17 x18 x19 x20 x21 x22 x23 x24 x25 r_162 x28 x31_167 1 m0 m1) | (.inr x31_168)=>l_law_b987_ok sl sc x3 x5 x7 x9 x11 x12 x13 x16 x17 x18 x19 x20 x21 x22 x23 x24 x25 r_162 x28 x31_168 0 m0 m1)) rfl rfl))))) (Sv rfl rfl))))) (Sv rfl rfl)))))))) (Sv rfl rfl))) (Yi 2 0 821 801 [qr 0,qr 1,qr 2,qi x3,qn,qj x5,qn,qj x7,qn,qj x9,qn,qi x11,qi x12,qi x13,qn,qn,qi x16,qi x17,qi x18,qi x19,qi x20,qi x21,qi x22,qi x23,qi x24,qi x25,qi x26,qi x27,qi x28,qi s0,qn,qn,qn,qn,qn,qn,qn,qn] [] [(44,m0),(44,m1)] rfl (Sv rfl rfl) (Yi 3 0 808 821 [qr 0,qr 1,qr 2,qi x3,qn,qj x5,qn,qj x7,qn,qj x9,qn,qi x11,qi x12,qi x13,qn,qn,qi x16,qi x17,qi x18,qi x19,qi x20,qi x21,qi x22,qi x23,qi x24,qi x25,qi x26,qi x27,qi x28,qi s0,qn,qn,qn,qn,qn,qn,qn,qn] [] [(44,m0),(44,m1)] rfl (Sh 3 (fun n=>(R n 10 0 [qr 0,qi x26] [] 44 m0).bind fun y=>RLv sl sc n 0 814 [qr 0,qr 1,qr 2,qi x3,qn,qj x5,qn,qj x7,qn,qj x9,qn,qi x11,qi x12,qi x13,qn,qn,qi x16,qi x17,qi x18,qi x19,qi x20,qi x21,qi x22,qi x23,qi x24,qi x25,qi x26,qi x27,qi x28,qi s0,qn,qn,qn,qn,qn,qn,qn,qn] [] [(44,m0),(44,m1)] 0 y) rfl (Sim.call (f_inputToken_ok x26 m0) (fun _ _=>rfl) (runP_mono _ _ _ _ _ _) (fun _=>runL_mono _ _ _ _ _) (fun r_169=>Yh 0 0 814 [qr 0,qr 1,qr 2,qi x3,qn,qj x5,qn,qj x7,qn,qj x9,qn,qi x11,qi x12,qi x13,qn,qn,qi x16,qi x17,qi x18,qi x19,qi x20,qi x21,qi x22,qi x23,qi x24,qi x25,qi x26,qi x27,qi x28,qi s0,qn,qn,qn,qn,qn,qn,qn,qn] [vi r_169] [(44,m0),(44,m1)] rfl (Yi 4 0 823 821 [qr 0,qr 1,qr 2,qi x3,qn,qj x5,qn,qj x7,qn,qj x9,qn,qi x11,qi x12,qi x13,qn,qn,qi x16,qi x17,qi x18,qi x19,qi x20,qi x21,qi x22,qi x23,qi x24,qi x25,qi x26,qi x27,qi x28,qi s0,qn,qn,qn,qn,qn,qn,qn,qn] [] [(44,m0),(44,m1)] rfl (Ze 2 (l_law_b1000_ok sl sc x3 x5 x7 x9 x11 x12 x13 x16 x17 x18 x19 x20 x21 x22 x23 x24 x25 (w32 (x26+1)) x27 x28 m0 m1) rfl) (Sv rfl rfl))))) (Sv rfl rfl)))
def l_law_l764 (sl:Int) (sc:Int→Int) (m0:OMem) (m1:OMem) (x3 x5 x7 x9 x11 x12 x13 x16 x17 x18 x19 x20 x21 x22 x23 x24 x25:Int):Int×Int×Int→Option ((Int×Int×Int)⊕((Unit)⊕(Unit)⊕(Unit)⊕(Unit)⊕(Int×Int))):=fun (x26,x27,x28)=>if x28<x25 then (if x23<0 then (l_law_b788 sl sc x3 x5 x7 x9 x11 x12 x13 x16 x17 x18 x19 x20 x21 x22 x23 x24 x25 x26 x27 x28 0 m0 m1) else ((f_ruleSymbol x24 x28 m0).bind fun r_170=>(l_law_b788 sl sc x3 x5 x7 x9 x11 x12 x13 x16 x17 x18 x19 x20 x21 x22 x23 x24 x25 x26 x27 x28 r_170 m0 m1))) else (some (.inr (.inr (.inr (.inr (.inr (x26,x27)))))))
theorem l_law_l764_ok (sl:Int) (sc:Int→Int) (m0:OMem) (m1:OMem) (x3 x5 x7 x9 x11 x12 x13 x16 x17 x18 x19 x20 x21 x22 x23 x24 x25:Int) (x26 x27 x28:Int):Sim (l_law_l764 sl sc m0 m1 x3 x5 x7 x9 x11 x12 x13 x16 x17 x18 x19 x20 x21 x22 x23 x24 x25 (x26,x27,x28)) (Sum.elim (l_law_l764_H sl sc m0 m1 x3 x5 x7 x9 x11 x12 x13 x16 x17 x18 x19 x20 x21 x22 x23 x24 x25 ) (l_law_l764_X sl sc m0 m1 x3 x5 x7 x9 x11 x12 x13 x16 x17 x18 x19 x20 x21 x22 x23 x24 x25 )) (l_law_l764_H sl sc m0 m1 x3 x5 x7 x9 x11 x12 x13 x16 x17 x18 x19 x20 x21 x22 x23 x24 x25 (x26,x27,x28)) :=
 Yi 3 0 771 1006 [qr 0,qr 1,qr 2,qi x3,qn,qj x5,qn,qj x7,qn,qj x9,qn,qi x11,qi x12,qi x13,qn,qn,qi x16,qi x17,qi x18,qi x19,qi x20,qi x21,qi x22,qi x23,qi x24,qi x25,qi x26,qi x27,qi x28,qn,qn,qn,qn,qn,qn,qn,qn,qn] [] [(44,m0),(44,m1)] rfl (Yi 2 0 776 780 [qr 0,qr 1,qr 2,qi x3,qn,qj x5,qn,qj x7,qn,qj x9,qn,qi x11,qi x12,qi x13,qn,qn,qi x16,qi x17,qi x18,qi x19,qi x20,qi x21,qi x22,qi x23,qi x24,qi x25,qi x26,qi x27,qi x28,qn,qn,qn,qn,qn,qn,qn,qn,qn] [] [(44,m0),(44,m1)] rfl (Ze 2 (l_law_b788_ok sl sc x3 x5 x7 x9 x11 x12 x13 x16 x17 x18 x19 x20 x21 x22 x23 x24 x25 x26 x27 x28 0 m0 m1) rfl) (Sh 4 (fun n=>(R n 7 0 [qr 0,qi x24,qi x28] [] 44 m0).bind fun y=>RLv sl sc n 0 788 [qr 0,qr 1,qr 2,qi x3,qn,qj x5,qn,qj x7,qn,qj x9,qn,qi x11,qi x12,qi x13,qn,qn,qi x16,qi x17,qi x18,qi x19,qi x20,qi x21,qi x22,qi x23,qi x24,qi x25,qi x26,qi x27,qi x28,qn,qn,qn,qn,qn,qn,qn,qn,qn] [] [(44,m0),(44,m1)] 0 y) rfl (Sim.call (f_ruleSymbol_ok x24 x28 m0) (fun _ _=>rfl) (runP_mono _ _ _ _ _ _) (fun _=>runL_mono _ _ _ _ _) (fun r_170=>Ze 0 (l_law_b788_ok sl sc x3 x5 x7 x9 x11 x12 x13 x16 x17 x18 x19 x20 x21 x22 x23 x24 x25 x26 x27 x28 r_170 m0 m1) rfl)))) (Sv rfl rfl)
def l_law_b1034 (sl:Int) (sc:Int→Int) (x3 x5 x7 x9 x11 x12 x13 x16 x17 x18 x19 x20 x21 x22 x23:Int) (m0 m1:OMem):Option ((Int)⊕((Unit)⊕(Unit)⊕(Unit)⊕(Unit)⊕(Unit)⊕(Unit)⊕(Unit)⊕(Unit))):=some (.inl (w32 (x23+1)))
theorem l_law_b1034_ok (sl:Int) (sc:Int→Int) (x3 x5 x7 x9 x11 x12 x13 x16 x17 x18 x19 x20 x21 x22 x23:Int) (m0 m1:OMem):Sim (l_law_b1034 sl sc x3 x5 x7 x9 x11 x12 x13 x16 x17 x18 x19 x20 x21 x22 x23 m0 m1) (Sum.elim (l_law_l684_H sl sc m0 m1 x3 x5 x7 x9 x11 x12 x13 x16 x17 x18 x19 x20 x21 x22 ) (l_law_l684_X sl sc m0 m1 x3 x5 x7 x9 x11 x12 x13 x16 x17 x18 x19 x20 x21 x22 )) (fun n=>RL sl sc n 0 1034 [qr 0,qr 1,qr 2,qi x3,qn,qj x5,qn,qj x7,qn,qj x9,qn,qi x11,qi x12,qi x13,qn,qn,qi x16,qi x17,qi x18,qi x19,qi x20,qi x21,qi x22,qi x23,qn,qn,qn,qn,qn,qn,qn,qn,qn,qn,qn,qn,qn,qn] [] [(44,m0),(44,m1)]) :=
 Zp 2 rfl
def l_law_b753 (sl:Int) (sc:Int→Int) (x3 x5 x7 x9 x11 x12 x13 x16 x17 x18 x19 x20 x21 x22 x23 x24 x25 s0:Int) (m0 m1:OMem):Option ((Int)⊕((Unit)⊕(Unit)⊕(Unit)⊕(Unit)⊕(Unit)⊕(Unit)⊕(Unit)⊕(Unit))):=(lp (l_law_l764 sl sc m0 m1 x3 x5 x7 x9 x11 x12 x13 x16 x17 x18 x19 x20 x21 x22 x23 x24 x25) NN (s0,w32 (x23+1),0)).bind fun e=>match e with | (.inl _)=>(some (.inr (.inr (.inl ())))) | (.inr (.inl _))=>(some (.inr (.inr (.inr (.inl ()))))) | (.inr (.inr (.inl _)))=>(some (.inr (.inr (.inr (.inr (.inl ())))))) | (.inr (.inr (.inr (.inl _))))=>(some (.inr (.inr (.inr (.inr (.inr (.inl ()))))))) | (.inr (.inr (.inr (.inr (x26_171,x27_172)))))=>(if x23<0 then (if x27_172=x22 then (l_law_b1034 sl sc x3 x5 x7 x9 x11 x12 x13 x16 x17 x18 x19 x20 x21 x22 x23 m0 m1) else (some (.inr (.inr (.inr (.inr (.inr (.inr (.inl ()))))))))) else ((f_treeEnd x23 m0).bind fun r_173=>(if x26_171=r_173 then (l_law_b1034 sl sc x3 x5 x7 x9 x11 x12 x13 x16 x17 x18 x19 x20 x21 x22 x23 m0 m1) else (some (.inr (.inr (.inr (.inr (.inr (.inr (.inr (.inl ()))))))))))))
theorem l_law_b753_ok (sl:Int) (sc:Int→Int) (x3 x5 x7 x9 x11 x12 x13 x16 x17 x18 x19 x20 x21 x22 x23 x24 x25 s0:Int) (m0 m1:OMem):Sim (l_law_b753 sl sc x3 x5 x7 x9 x11 x12 x13 x16 x17 x18 x19 x20 x21 x22 x23 x24 x25 s0 m0 m1) (Sum.elim (l_law_l684_H sl sc m0 m1 x3 x5 x7 x9 x11 x12 x13 x16 x17 x18 x19 x20 x21 x22 ) (l_law_l684_X sl sc m0 m1 x3 x5 x7 x9 x11 x12 x13 x16 x17 x18 x19 x20 x21 x22 )) (fun n=>RL sl sc n 0 753 [qr 0,qr 1,qr 2,qi x3,qn,qj x5,qn,qj x7,qn,qj x9,qn,qi x11,qi x12,qi x13,qn,qn,qi x16,qi x17,qi x18,qi x19,qi x20,qi x21,qi x22,qi x23,qi x24,qi x25,qn,qn,qn,qn,qn,qn,qn,qn,qn,qn,qn,qn] [vi s0] [(44,m0),(44,m1)]) :=
 Yh 5 0 761 [qr 0,qr 1,qr 2,qi x3,qn,qj x5,qn,qj x7,qn,qj x9,qn,qi x11,qi x12,qi x13,qn,qn,qi x16,qi x17,qi x18,qi x19,qi x20,qi x21,qi x22,qi x23,qi x24,qi x25,qi s0,qi (w32 (x23+1)),qn,qn,qn,qn,qn,qn,qn,qn,qn,qn] [] [(44,m0),(44,m1)] rfl (Zb 2 (Sim.lp (σ:=Int×Int×Int) (fun ⟨x26L,x27L,x28L⟩=>l_law_l764_ok sl sc m0 m1 x3 x5 x7 x9 x11 x12 x13 x16 x17 x18 x19 x20 x21 x22 x23 x24 x25 x26L x27L x28L) NN (s0,w32 (x23+1),0)) rfl (fun e=>match e with | (.inl _)=>Sp | (.inr (.inl _))=>Sp | (.inr (.inr (.inl _)))=>Sp | (.inr (.inr (.inr (.inl _))))=>Sp | (.inr (.inr (.inr (.inr (⟨x26_171,x27_172⟩)))))=>Sh 2 (fun n=>if x23<0 then RL sl sc n 0 1011 [qr 0,qr 1,qr 2,qi x3,qn,qj x5,qn,qj x7,qn,qj x9,qn,qi x11,qi x12,qi x13,qn,qn,qi x16,qi x17,qi x18,qi x19,qi x20,qi x21,qi x22,qi x23,qn,qn,qi x26_171,qi x27_172,qn,qn,qn,qn,qn,qn,qn,qn,qn,qn] [] [(44,m0),(44,m1)] else RL sl sc n 0 1021 [qr 0,qr 1,qr 2,qi x3,qn,qj x5,qn,qj x7,qn,qj x9,qn,qi x11,qi x12,qi x13,qn,qn,qi x16,qi x17,qi x18,qi x19,qi x20,qi x21,qi x22,qi x23,qn,qn,qi x26_171,qi x27_172,qn,qn,qn,qn,qn,qn,qn,qn,qn,qn] [] [(44,m0),(44,m1)]) rfl (Si (Sh 3 (fun n=>if x27_172=x22 then RL sl sc n 0 1034 [qr 0,qr 1,qr 2,qi x3,qn,qj x5,qn,qj x7,qn,qj x9,qn,qi x11,qi x12,qi x13,qn,qn,qi x16,qi x17,qi x18,qi x19,qi x20,qi x21,qi x22,qi x23,qn,qn,qn,qi x27_172,qn,qn,qn,qn,qn,qn,qn,qn,qn,qn] [] [(44,m0),(44,m1)] else RL sl sc n 0 1018 [qr 0,qr 1,qr 2,qi x3,qn,qj x5,qn,qj x7,qn,qj x9,qn,qi x11,qi x12,qi x13,qn,qn,qi x16,qi x17,qi x18,qi x19,qi x20,qi x21,qi x22,qi x23,qn,qn,qn,qi x27_172,qn,qn,qn,qn,qn,qn,qn,qn,qn,qn] [] [(44,m0),(44,m1)]) rfl (Si (Sim.jmp (l_law_b1034_ok sl sc x3 x5 x7 x9 x11 x12 x13 x16 x17 x18 x19 x20 x21 x22 x23 m0 m1) rfl (fun _=>rfl)) (Sv rfl rfl))) (Sh 4 (fun n=>(R n 41 0 [qr 0,qi x23] [] 44 m0).bind fun y=>RLv sl sc n 0 1029 [qr 0,qr 1,qr 2,qi x3,qn,qj x5,qn,qj x7,qn,qj x9,qn,qi x11,qi x12,qi x13,qn,qn,qi x16,qi x17,qi x18,qi x19,qi x20,qi x21,qi x22,qi x23,qn,qn,qi x26_171,qn,qn,qn,qn,qn,qn,qn,qn,qn,qn,qn] [vi x26_171] [(44,m0),(44,m1)] 0 y) rfl (Sim.call (f_treeEnd_ok x23 m0) (fun _ _=>rfl) (runP_mono _ _ _ _ _ _) (fun _=>runL_mono _ _ _ _ _) (fun r_173=>Sh 0 (fun n=>RL sl sc n 0 1029 [qr 0,qr 1,qr 2,qi x3,qn,qj x5,qn,qj x7,qn,qj x9,qn,qi x11,qi x12,qi x13,qn,qn,qi x16,qi x17,qi x18,qi x19,qi x20,qi x21,qi x22,qi x23,qn,qn,qi x26_171,qn,qn,qn,qn,qn,qn,qn,qn,qn,qn,qn] [vi r_173,vi x26_171] [(44,m0),(44,m1)]) rfl (Sh 1 (fun n=>if x26_171=r_173 then RL sl sc n 0 1034 [qr 0,qr 1,qr 2,qi x3,qn,qj x5,qn,qj x7,qn,qj x9,qn,qi x11,qi x12,qi x13,qn,qn,qi x16,qi x17,qi x18,qi x19,qi x20,qi x21,qi x22,qi x23,qn,qn,qi x26_171,qn,qn,qn,qn,qn,qn,qn,qn,qn,qn,qn] [] [(44,m0),(44,m1)] else RL sl sc n 0 1032 [qr 0,qr 1,qr 2,qi x3,qn,qj x5,qn,qj x7,qn,qj x9,qn,qi x11,qi x12,qi x13,qn,qn,qi x16,qi x17,qi x18,qi x19,qi x20,qi x21,qi x22,qi x23,qn,qn,qi x26_171,qn,qn,qn,qn,qn,qn,qn,qn,qn,qn,qn] [] [(44,m0),(44,m1)]) rfl (Si (Sim.jmp (l_law_b1034_ok sl sc x3 x5 x7 x9 x11 x12 x13 x16 x17 x18 x19 x20 x21 x22 x23 m0 m1) rfl (fun _=>rfl)) (Sv rfl rfl)))))))))
def l_law_b723 (sl:Int) (sc:Int→Int) (x3 x5 x7 x9 x11 x12 x13 x16 x17 x18 x19 x20 x21 x22 x23 x24 s0:Int) (m0 m1:OMem):Option ((Int)⊕((Unit)⊕(Unit)⊕(Unit)⊕(Unit)⊕(Unit)⊕(Unit)⊕(Unit)⊕(Unit))):=if s0<0 then (some (.inr (.inl ()))) else (if 3<s0 then (some (.inr (.inl ()))) else (if x23<0 then (l_law_b753 sl sc x3 x5 x7 x9 x11 x12 x13 x16 x17 x18 x19 x20 x21 x22 x23 x24 s0 0 m0 m1) else ((f_treeStart x23 m0).bind fun r_174=>(l_law_b753 sl sc x3 x5 x7 x9 x11 x12 x13 x16 x17 x18 x19 x20 x21 x22 x23 x24 s0 r_174 m0 m1))))
theorem l_law_b723_ok (sl:Int) (sc:Int→Int) (x3 x5 x7 x9 x11 x12 x13 x16 x17 x18 x19 x20 x21 x22 x23 x24 s0:Int) (m0 m1:OMem):Sim (l_law_b723 sl sc x3 x5 x7 x9 x11 x12 x13 x16 x17 x18 x19 x20 x21 x22 x23 x24 s0 m0 m1) (Sum.elim (l_law_l684_H sl sc m0 m1 x3 x5 x7 x9 x11 x12 x13 x16 x17 x18 x19 x20 x21 x22 ) (l_law_l684_X sl sc m0 m1 x3 x5 x7 x9 x11 x12 x13 x16 x17 x18 x19 x20 x21 x22 )) (fun n=>RL sl sc n 0 723 [qr 0,qr 1,qr 2,qi x3,qn,qj x5,qn,qj x7,qn,qj x9,qn,qi x11,qi x12,qi x13,qn,qn,qi x16,qi x17,qi x18,qi x19,qi x20,qi x21,qi x22,qi x23,qi x24,qn,qn,qn,qn,qn,qn,qn,qn,qn,qn,qn,qn,qn] [vi s0] [(44,m0),(44,m1)]) :=
 Yi 3 0 736 730 [qr 0,qr 1,qr 2,qi x3,qn,qj x5,qn,qj x7,qn,qj x9,qn,qi x11,qi x12,qi x13,qn,qn,qi x16,qi x17,qi x18,qi x19,qi x20,qi x21,qi x22,qi x23,qi x24,qi s0,qn,qn,qn,qn,qn,qn,qn,qn,qn,qn,qn,qn] [] [(44,m0),(44,m1)] rfl (Sv rfl rfl) (Yi 3 0 736 738 [qr 0,qr 1,qr 2,qi x3,qn,qj x5,qn,qj x7,qn,qj x9,qn,qi x11,qi x12,qi x13,qn,qn,qi x16,qi x17,qi x18,qi x19,qi x20,qi x21,qi x22,qi x23,qi x24,qi s0,qn,qn,qn,qn,qn,qn,qn,qn,qn,qn,qn,qn] [] [(44,m0),(44,m1)] rfl (Sv rfl rfl) (Yi 2 0 743 747 [qr 0,qr 1,qr 2,qi x3,qn,qj x5,qn,qj x7,qn,qj x9,qn,qi x11,qi x12,qi x13,qn,qn,qi x16,qi x17,qi x18,qi x19,qi x20,qi x21,qi x22,qi x23,qi x24,qi s0,qn,qn,qn,qn,qn,qn,qn,qn,qn,qn,qn,qn] [] [(44,m0),(44,m1)] rfl (Ze 2 (l_law_b753_ok sl sc x3 x5 x7 x9 x11 x12 x13 x16 x17 x18 x19 x20 x21 x22 x23 x24 s0 0 m0 m1) rfl) (Sh 3 (fun n=>(R n 40 0 [qr 0,qi x23] [] 44 m0).bind fun y=>RLv sl sc n 0 753 [qr 0,qr 1,qr 2,qi x3,qn,qj x5,qn,qj x7,qn,qj x9,qn,qi x11,qi x12,qi x13,qn,qn,qi x16,qi x17,qi x18,qi x19,qi x20,qi x21,qi x22,qi x23,qi x24,qi s0,qn,qn,qn,qn,qn,qn,qn,qn,qn,qn,qn,qn] [] [(44,m0),(44,m1)] 0 y) rfl (Sim.call (f_treeStart_ok x23 m0) (fun _ _=>rfl) (runP_mono _ _ _ _ _ _) (fun _=>runL_mono _ _ _ _ _) (fun r_174=>Ze 0 (l_law_b753_ok sl sc x3 x5 x7 x9 x11 x12 x13 x16 x17 x18 x19 x20 x21 x22 x23 x24 s0 r_174 m0 m1) rfl)))))
def l_law_b706 (sl:Int) (sc:Int→Int) (x3 x5 x7 x9 x11 x12 x13 x16 x17 x18 x19 x20 x21 x22 x23 s0:Int) (m0 m1:OMem):Option ((Int)⊕((Unit)⊕(Unit)⊕(Unit)⊕(Unit)⊕(Unit)⊕(Unit)⊕(Unit)⊕(Unit))):=if x23<0 then (l_law_b723 sl sc x3 x5 x7 x9 x11 x12 x13 x16 x17 x18 x19 x20 x21 x22 x23 s0 1 m0 m1) else ((f_ruleLength s0 m0).bind fun r_175=>(l_law_b723 sl sc x3 x5 x7 x9 x11 x12 x13 x16 x17 x18 x19 x20 x21 x22 x23 s0 r_175 m0 m1))
theorem l_law_b706_ok (sl:Int) (sc:Int→Int) (x3 x5 x7 x9 x11 x12 x13 x16 x17 x18 x19 x20 x21 x22 x23 s0:Int) (m0 m1:OMem):Sim (l_law_b706 sl sc x3 x5 x7 x9 x11 x12 x13 x16 x17 x18 x19 x20 x21 x22 x23 s0 m0 m1) (Sum.elim (l_law_l684_H sl sc m0 m1 x3 x5 x7 x9 x11 x12 x13 x16 x17 x18 x19 x20 x21 x22 ) (l_law_l684_X sl sc m0 m1 x3 x5 x7 x9 x11 x12 x13 x16 x17 x18 x19 x20 x21 x22 )) (fun n=>RL sl sc n 0 706 [qr 0,qr 1,qr 2,qi x3,qn,qj x5,qn,qj x7,qn,qj x9,qn,qi x11,qi x12,qi x13,qn,qn,qi x16,qi x17,qi x18,qi x19,qi x20,qi x21,qi x22,qi x23,qn,qn,qn,qn,qn,qn,qn,qn,qn,qn,qn,qn,qn,qn] [vi s0] [(44,m0),(44,m1)]) :=
 Yi 3 0 713 717 [qr 0,qr 1,qr 2,qi x3,qn,qj x5,qn,qj x7,qn,qj x9,qn,qi x11,qi x12,qi x13,qn,qn,qi x16,qi x17,qi x18,qi x19,qi x20,qi x21,qi x22,qi x23,qi s0,qn,qn,qn,qn,qn,qn,qn,qn,qn,qn,qn,qn,qn] [] [(44,m0),(44,m1)] rfl (Ze 2 (l_law_b723_ok sl sc x3 x5 x7 x9 x11 x12 x13 x16 x17 x18 x19 x20 x21 x22 x23 s0 1 m0 m1) rfl) (Sh 3 (fun n=>(R n 6 0 [qr 0,qi s0] [] 44 m0).bind fun y=>RLv sl sc n 0 723 [qr 0,qr 1,qr 2,qi x3,qn,qj x5,qn,qj x7,qn,qj x9,qn,qi x11,qi x12,qi x13,qn,qn,qi x16,qi x17,qi x18,qi x19,qi x20,qi x21,qi x22,qi x23,qi s0,qn,qn,qn,qn,qn,qn,qn,qn,qn,qn,qn,qn,qn] [] [(44,m0),(44,m1)] 0 y) rfl (Sim.call (f_ruleLength_ok s0 m0) (fun _ _=>rfl) (runP_mono _ _ _ _ _ _) (fun _=>runL_mono _ _ _ _ _) (fun r_175=>Ze 0 (l_law_b723_ok sl sc x3 x5 x7 x9 x11 x12 x13 x16 x17 x18 x19 x20 x21 x22 x23 s0 r_175 m0 m1) rfl)))
def l_law_l684 (sl:Int) (sc:Int→Int) (m0:OMem) (m1:OMem) (x3 x5 x7 x9 x11 x12 x13 x16 x17 x18 x19 x20 x21 x22:Int):Int→Option ((Int)⊕((Unit)⊕(Unit)⊕(Unit)⊕(Unit)⊕(Unit)⊕(Unit)⊕(Unit)⊕(Unit))):=fun x23=>if x23<x22 then (if x23<0 then (l_law_b706 sl sc x3 x5 x7 x9 x11 x12 x13 x16 x17 x18 x19 x20 x21 x22 x23 (-1) m0 m1) else ((f_treeRule x23 m0).bind fun r_176=>(l_law_b706 sl sc x3 x5 x7 x9 x11 x12 x13 x16 x17 x18 x19 x20 x21 x22 x23 r_176 m0 m1))) else (some (.inr (.inr (.inr (.inr (.inr (.inr (.inr (.inr ())))))))))
theorem l_law_l684_ok (sl:Int) (sc:Int→Int) (m0:OMem) (m1:OMem) (x3 x5 x7 x9 x11 x12 x13 x16 x17 x18 x19 x20 x21 x22:Int) (x23:Int):Sim (l_law_l684 sl sc m0 m1 x3 x5 x7 x9 x11 x12 x13 x16 x17 x18 x19 x20 x21 x22 x23) (Sum.elim (l_law_l684_H sl sc m0 m1 x3 x5 x7 x9 x11 x12 x13 x16 x17 x18 x19 x20 x21 x22 ) (l_law_l684_X sl sc m0 m1 x3 x5 x7 x9 x11 x12 x13 x16 x17 x18 x19 x20 x21 x22 )) (l_law_l684_H sl sc m0 m1 x3 x5 x7 x9 x11 x12 x13 x16 x17 x18 x19 x20 x21 x22 x23) :=
 Yi 3 0 691 1040 [qr 0,qr 1,qr 2,qi x3,qn,qj x5,qn,qj x7,qn,qj x9,qn,qi x11,qi x12,qi x13,qn,qn,qi x16,qi x17,qi x18,qi x19,qi x20,qi x21,qi x22,qi x23,qn,qn,qn,qn,qn,qn,qn,qn,qn,qn,qn,qn,qn,qn] [] [(44,m0),(44,m1)] rfl (Yi 2 0 696 700 [qr 0,qr 1,qr 2,qi x3,qn,qj x5,qn,qj x7,qn,qj x9,qn,qi x11,qi x12,qi x13,qn,qn,qi x16,qi x17,qi x18,qi x19,qi x20,qi x21,qi x22,qi x23,qn,qn,qn,qn,qn,qn,qn,qn,qn,qn,qn,qn,qn,qn] [] [(44,m0),(44,m1)] rfl (Ze 2 (l_law_b706_ok sl sc x3 x5 x7 x9 x11 x12 x13 x16 x17 x18 x19 x20 x21 x22 x23 (-1) m0 m1) rfl) (Sh 3 (fun n=>(R n 38 0 [qr 0,qi x23] [] 44 m0).bind fun y=>RLv sl sc n 0 706 [qr 0,qr 1,qr 2,qi x3,qn,qj x5,qn,qj x7,qn,qj x9,qn,qi x11,qi x12,qi x13,qn,qn,qi x16,qi x17,qi x18,qi x19,qi x20,qi x21,qi x22,qi x23,qn,qn,qn,qn,qn,qn,qn,qn,qn,qn,qn,qn,qn,qn] [] [(44,m0),(44,m1)] 0 y) rfl (Sim.call (f_treeRule_ok x23 m0) (fun _ _=>rfl) (runP_mono _ _ _ _ _ _) (fun _=>runL_mono _ _ _ _ _) (fun r_176=>Ze 0 (l_law_b706_ok sl sc x3 x5 x7 x9 x11 x12 x13 x16 x17 x18 x19 x20 x21 x22 x23 r_176 m0 m1) rfl)))) (Sv rfl rfl)
def l_law_l1043_H (sl:Int) (sc:Int→Int) (m0:OMem) (x3 x5 x7 x9 x11 x12 x13 x16 x17 x18 x19 x20 x21 x22:Int):Int×OMem→Nat→RTL:=fun (x23,m1) n=>RL sl sc n 0 1043 [qr 0,qr 1,qr 2,qi x3,qn,qj x5,qn,qj x7,qn,qj x9,qn,qi x11,qi x12,qi x13,qn,qn,qi x16,qi x17,qi x18,qi x19,qi x20,qi x21,qi x22,qi x23,qn,qn,qn,qn,qn,qn,qn,qn,qn,qn,qn,qn,qn,qn] [] [(44,m0),(44,m1)]
def l_law_l1043_X (sl:Int) (sc:Int→Int) (m0:OMem) (x3 x5 x7 x9 x11 x12 x13 x16 x17 x18 x19 x20 x21 x22:Int):(OMem)⊕(OMem)→Nat→RTL:=fun e n=>match e with | (.inl w1)=>RL sl sc n 0 1186 [qn,qn,qn,qn,qn,qn,qn,qn,qn,qn,qn,qn,qn,qn,qn,qn,qn,qn,qn,qn,qn,qn,qn,qn,qn,qn,qn,qn,qn,qn,qn,qn,qn,qn,qn,qn,qn,qn] [] [(44,m0),(44,w1)] | (.inr w1)=>RL sl sc n 0 1194 [qr 0,qr 1,qr 2,qi x3,qn,qj x5,qn,qj x7,qn,qj x9,qn,qi x11,qi x12,qi x13,qn,qn,qi x16,qi x17,qi x18,qi x19,qi x20,qn,qn,qn,qn,qn,qn,qn,qn,qn,qn,qn,qn,qn,qn,qn,qn,qn] [] [(44,m0),(44,w1)]
def l_law_b1188 (sl:Int) (sc:Int→Int) (x3 x5 x7 x9 x11 x12 x13 x16 x17 x18 x19 x20 x21 x22 x23:Int) (m0 m1:OMem):Option ((Int×OMem)⊕((OMem)⊕(OMem))):=some (.inl (w32 (x23+1),m1))
theorem l_law_b1188_ok (sl:Int) (sc:Int→Int) (x3 x5 x7 x9 x11 x12 x13 x16 x17 x18 x19 x20 x21 x22 x23:Int) (m0 m1:OMem):Sim (l_law_b1188 sl sc x3 x5 x7 x9 x11 x12 x13 x16 x17 x18 x19 x20 x21 x22 x23 m0 m1) (Sum.elim (l_law_l1043_H sl sc m0 x3 x5 x7 x9 x11 x12 x13 x16 x17 x18 x19 x20 x21 x22 ) (l_law_l1043_X sl sc m0 x3 x5 x7 x9 x11 x12 x13 x16 x17 x18 x19 x20 x21 x22 )) (fun n=>RL sl sc n 0 1188 [qr 0,qr 1,qr 2,qi x3,qn,qj x5,qn,qj x7,qn,qj x9,qn,qi x11,qi x12,qi x13,qn,qn,qi x16,qi x17,qi x18,qi x19,qi x20,qi x21,qi x22,qi x23,qn,qn,qn,qn,qn,qn,qn,qn,qn,qn,qn,qn,qn,qn] [] [(44,m0),(44,m1)]) :=
 Zp 2 rfl
def l_law_l1111_H (sl:Int) (sc:Int→Int) (m0:OMem) (m1:OMem) (x3 x5 x7 x9 x11 x12 x13 x16 x17 x18 x19 x20 x21 x22 x23:Int):Int×Int→Nat→RTL:=fun (x26,x27) n=>RL sl sc n 0 1111 [qr 0,qr 1,qr 2,qi x3,qn,qj x5,qn,qj x7,qn,qj x9,qn,qi x11,qi x12,qi x13,qn,qn,qi x16,qi x17,qi x18,qi x19,qi x20,qi x21,qi x22,qi x23,qn,qn,qi x26,qi x27,qn,qn,qn,qn,qn,qn,qn,qn,qn,qn] [] [(44,m0),(44,m1)]
def l_law_l1111_X (sl:Int) (sc:Int→Int) (m0:OMem) (m1:OMem) (x3 x5 x7 x9 x11 x12 x13 x16 x17 x18 x19 x20 x21 x22 x23:Int):(Int)→Nat→RTL:=fun e n=>match e with | y26=>RL sl sc n 0 1181 [qr 0,qr 1,qr 2,qi x3,qn,qj x5,qn,qj x7,qn,qj x9,qn,qi x11,qi x12,qi x13,qn,qn,qi x16,qi x17,qi x18,qi x19,qi x20,qi x21,qi x22,qi x23,qn,qn,qi y26,qn,qn,qn,qn,qn,qn,qn,qn,qn,qn,qn] [] [(44,m0),(44,m1)]
def l_law_b1173 (sl:Int) (sc:Int→Int) (x3 x5 x7 x9 x11 x12 x13 x16 x17 x18 x19 x20 x21 x22 x23 x27 s0:Int) (m0 m1:OMem):Option ((Int×Int)⊕((Int))):=some (.inl (s0,w32 (x27+1)))
theorem l_law_b1173_ok (sl:Int) (sc:Int→Int) (x3 x5 x7 x9 x11 x12 x13 x16 x17 x18 x19 x20 x21 x22 x23 x27 s0:Int) (m0 m1:OMem):Sim (l_law_b1173 sl sc x3 x5 x7 x9 x11 x12 x13 x16 x17 x18 x19 x20 x21 x22 x23 x27 s0 m0 m1) (Sum.elim (l_law_l1111_H sl sc m0 m1 x3 x5 x7 x9 x11 x12 x13 x16 x17 x18 x19 x20 x21 x22 x23 ) (l_law_l1111_X sl sc m0 m1 x3 x5 x7 x9 x11 x12 x13 x16 x17 x18 x19 x20 x21 x22 x23 )) (fun n=>RL sl sc n 0 1173 [qr 0,qr 1,qr 2,qi x3,qn,qj x5,qn,qj x7,qn,qj x9,qn,qi x11,qi x12,qi x13,qn,qn,qi x16,qi x17,qi x18,qi x19,qi x20,qi x21,qi x22,qi x23,qn,qn,qn,qi x27,qn,qn,qn,qn,qn,qn,qn,qn,qn,qn] [vi s0] [(44,m0),(44,m1)]) :=
 Zp 3 rfl
def l_law_b1168 (sl:Int) (sc:Int→Int) (x3 x5 x7 x9 x11 x12 x13 x16 x17 x18 x19 x20 x21 x22 x23 x27:Int) (m0 m1:OMem):Option ((Int×Int)⊕((Int))):=l_law_b1173 sl sc x3 x5 x7 x9 x11 x12 x13 x16 x17 x18 x19 x20 x21 x22 x23 x27 1 m0 m1
theorem l_law_b1168_ok (sl:Int) (sc:Int→Int) (x3 x5 x7 x9 x11 x12 x13 x16 x17 x18 x19 x20 x21 x22 x23 x27:Int) (m0 m1:OMem):Sim (l_law_b1168 sl sc x3 x5 x7 x9 x11 x12 x13 x16 x17 x18 x19 x20 x21 x22 x23 x27 m0 m1) (Sum.elim (l_law_l1111_H sl sc m0 m1 x3 x5 x7 x9 x11 x12 x13 x16 x17 x18 x19 x20 x21 x22 x23 ) (l_law_l1111_X sl sc m0 m1 x3 x5 x7 x9 x11 x12 x13 x16 x17 x18 x19 x20 x21 x22 x23 )) (fun n=>RL sl sc n 0 1168 [qr 0,qr 1,qr 2,qi x3,qn,qj x5,qn,qj x7,qn,qj x9,qn,qi x11,qi x12,qi x13,qn,qn,qi x16,qi x17,qi x18,qi x19,qi x20,qi x21,qi x22,qi x23,qn,qn,qn,qi x27,qn,qn,qn,qn,qn,qn,qn,qn,qn,qn] [] [(44,m0),(44,m1)]) :=
 Ze 2 (l_law_b1173_ok sl sc x3 x5 x7 x9 x11 x12 x13 x16 x17 x18 x19 x20 x21 x22 x23 x27 1 m0 m1) rfl
def l_law_l1111 (sl:Int) (sc:Int→Int) (m0:OMem) (m1:OMem) (x3 x5 x7 x9 x11 x12 x13 x16 x17 x18 x19 x20 x21 x22 x23:Int):Int×Int→Option ((Int×Int)⊕((Int))):=fun (x26,x27)=>if x27<x22 then (if x26=0 then ((f_treeRule x27 m0).bind fun r_179=>((f_treeRule x27 m1).bind fun r_180=>(if r_179=r_180 then ((f_treeStart x27 m0).bind fun r_181=>((f_treeStart x27 m1).bind fun r_182=>(if r_181=r_182 then ((f_treeEnd x27 m0).bind fun r_183=>((f_treeEnd x27 m1).bind fun r_184=>(if r_183=r_184 then (l_law_b1173 sl sc x3 x5 x7 x9 x11 x12 x13 x16 x17 x18 x19 x20 x21 x22 x23 x27 0 m0 m1) else (l_law_b1168 sl sc x3 x5 x7 x9 x11 x12 x13 x16 x17 x18 x19 x20 x21 x22 x23 x27 m0 m1)))) else (l_law_b1168 sl sc x3 x5 x7 x9 x11 x12 x13 x16 x17 x18 x19 x20 x21 x22 x23 x27 m0 m1)))) else (l_law_b1168 sl sc x3 x5 x7 x9 x11 x12 x13 x16 x17 x18 x19 x20 x21 x22 x23 x27 m0 m1)))) else (some (.inr x26))) else (some (.inr x26))
theorem l_law_l1111_ok (sl:Int) (sc:Int→Int) (m0:OMem) (m1:OMem) (x3 x5 x7 x9 x11 x12 x13 x16 x17 x18 x19 x20 x21 x22 x23:Int) (x26 x27:Int):Sim (l_law_l1111 sl sc m0 m1 x3 x5 x7 x9 x11 x12 x13 x16 x17 x18 x19 x20 x21 x22 x23 (x26,x27)) (Sum.elim (l_law_l1111_H sl sc m0 m1 x3 x5 x7 x9 x11 x12 x13 x16 x17 x18 x19 x20 x21 x22 x23 ) (l_law_l1111_X sl sc m0 m1 x3 x5 x7 x9 x11 x12 x13 x16 x17 x18 x19 x20 x21 x22 x23 )) (l_law_l1111_H sl sc m0 m1 x3 x5 x7 x9 x11 x12 x13 x16 x17 x18 x19 x20 x21 x22 x23 (x26,x27)) :=
 Yi 3 0 1118 1181 [qr 0,qr 1,qr 2,qi x3,qn,qj x5,qn,qj x7,qn,qj x9,qn,qi x11,qi x12,qi x13,qn,qn,qi x16,qi x17,qi x18,qi x19,qi x20,qi x21,qi x22,qi x23,qn,qn,qi x26,qi x27,qn,qn,qn,qn,qn,qn,qn,qn,qn,qn] [] [(44,m0),(44,m1)] rfl (Yi 2 0 1123 1181 [qr 0,qr 1,qr 2,qi x3,qn,qj x5,qn,qj x7,qn,qj x9,qn,qi x11,qi x12,qi x13,qn,qn,qi x16,qi x17,qi x18,qi x19,qi x20,qi x21,qi x22,qi x23,qn,qn,qi x26,qi x27,qn,qn,qn,qn,qn,qn,qn,qn,qn,qn] [] [(44,m0),(44,m1)] rfl (Sh 3 (fun n=>(R n 38 0 [qr 0,qi x27] [] 44 m0).bind fun y=>RLv sl sc n 0 1129 [qr 0,qr 1,qr 2,qi x3,qn,qj x5,qn,qj x7,qn,qj x9,qn,qi x11,qi x12,qi x13,qn,qn,qi x16,qi x17,qi x18,qi x19,qi x20,qi x21,qi x22,qi x23,qn,qn,qn,qi x27,qn,qn,qn,qn,qn,qn,qn,qn,qn,qn] [] [(44,m0),(44,m1)] 0 y) rfl (Sim.call (f_treeRule_ok x27 m0) (fun _ _=>rfl) (runP_mono _ _ _ _ _ _) (fun _=>runL_mono _ _ _ _ _) (fun r_179=>Yh 0 0 1129 [qr 0,qr 1,qr 2,qi x3,qn,qj x5,qn,qj x7,qn,qj x9,qn,qi x11,qi x12,qi x13,qn,qn,qi x16,qi x17,qi x18,qi x19,qi x20,qi x21,qi x22,qi x23,qn,qn,qn,qi x27,qn,qn,qn,qn,qn,qn,qn,qn,qn,qn] [vi r_179] [(44,m0),(44,m1)] rfl (Sh 3 (fun n=>(R n 38 0 [qr 0,qi x27] [] 44 m1).bind fun y=>RLv sl sc n 0 1135 [qr 0,qr 1,qr 2,qi x3,qn,qj x5,qn,qj x7,qn,qj x9,qn,qi x11,qi x12,qi x13,qn,qn,qi x16,qi x17,qi x18,qi x19,qi x20,qi x21,qi x22,qi x23,qn,qn,qn,qi x27,qn,qn,qn,qn,qn,qn,qn,qn,qn,qn] [vi r_179] [(44,m0),(44,m1)] 1 y) rfl (Sim.call (f_treeRule_ok x27 m1) (fun _ _=>rfl) (runP_mono _ _ _ _ _ _) (fun _=>runL_mono _ _ _ _ _) (fun r_180=>Yh 0 0 1135 [qr 0,qr 1,qr 2,qi x3,qn,qj x5,qn,qj x7,qn,qj x9,qn,qi x11,qi x12,qi x13,qn,qn,qi x16,qi x17,qi x18,qi x19,qi x20,qi x21,qi x22,qi x23,qn,qn,qn,qi x27,qn,qn,qn,qn,qn,qn,qn,qn,qn,qn] [vi r_180,vi r_179] [(44,m0),(44,m1)] rfl (Yi 1 0 1138 1168 [qr 0,qr 1,qr 2,qi x3,qn,qj x5,qn,qj x7,qn,qj x9,qn,qi x11,qi x12,qi x13,qn,qn,qi x16,qi x17,qi x18,qi x19,qi x20,qi x21,qi x22,qi x23,qn,qn,qn,qi x27,qn,qn,qn,qn,qn,qn,qn,qn,qn,qn] [] [(44,m0),(44,m1)] rfl (Sh 3 (fun n=>(R n 40 0 [qr 0,qi x27] [] 44 m0).bind fun y=>RLv sl sc n 0 1144 [qr 0,qr 1,qr 2,qi x3,qn,qj x5,qn,qj x7,qn,qj x9,qn,qi x11,qi x12,qi x13,qn,qn,qi x16,qi x17,qi x18,qi x19,qi x20,qi x21,qi x22,qi x23,qn,qn,qn,qi x27,qn,qn,qn,qn,qn,qn,qn,qn,qn,qn] [] [(44,m0),(44,m1)] 0 y) rfl (Sim.call (f_treeStart_ok x27 m0) (fun _ _=>rfl) (runP_mono _ _ _ _ _ _) (fun _=>runL_mono _ _ _ _ _) (fun r_181=>Yh 0 0 1144 [qr 0,qr 1,qr 2,qi x3,qn,qj x5,qn,qj x7,qn,qj x9,qn,qi x11,qi x12,qi x13,qn,qn,qi x16,qi x17,qi x18,qi x19,qi x20,qi x21,qi x22,qi x23,qn,qn,qn,qi x27,qn,qn,qn,qn,qn,qn,qn,qn,qn,qn] [vi r_181] [(44,m0),(44,m1)] rfl (Sh 3 (fun n=>(R n 40 0 [qr 0,qi x27] [] 44 m1).bind fun y=>RLv sl sc n 0 1150 [qr 0,qr 1,qr 2,qi x3,qn,qj x5,qn,qj x7,qn,qj x9,qn,qi x11,qi x12,qi x13,qn,qn,qi x16,qi x17,qi x18,qi x19,qi x20,qi x21,qi x22,qi x23,qn,qn,qn,qi x27,qn,qn,qn,qn,qn,qn,qn,qn,qn,qn] [vi r_181] [(44,m0),(44,m1)] 1 y) rfl (Sim.call (f_treeStart_ok x27 m1) (fun _ _=>rfl) (runP_mono _ _ _ _ _ _) (fun _=>runL_mono _ _ _ _ _) (fun r_182=>Yh 0 0 1150 [qr 0,qr 1,qr 2,qi x3,qn,qj x5,qn,qj x7,qn,qj x9,qn,qi x11,qi x12,qi x13,qn,qn,qi x16,qi x17,qi x18,qi x19,qi x20,qi x21,qi x22,qi x23,qn,qn,qn,qi x27,qn,qn,qn,qn,qn,qn,qn,qn,qn,qn] [vi r_182,vi r_181] [(44,m0),(44,m1)] rfl (Yi 1 0 1153 1168 [qr 0,qr 1,qr 2,qi x3,qn,qj x5,qn,qj x7,qn,qj x9,qn,qi x11,qi x12,qi x13,qn,qn,qi x16,qi x17,qi x18,qi x19,qi x20,qi x21,qi x22,qi x23,qn,qn,qn,qi x27,qn,qn,qn,qn,qn,qn,qn,qn,qn,qn] [] [(44,m0),(44,m1)] rfl (Sh 3 (fun n=>(R n 41 0 [qr 0,qi x27] [] 44 m0).bind fun y=>RLv sl sc n 0 1159 [qr 0,qr 1,qr 2,qi x3,qn,qj x5,qn,qj x7,qn,qj x9,qn,qi x11,qi x12,qi x13,qn,qn,qi x16,qi x17,qi x18,qi x19,qi x20,qi x21,qi x22,qi x23,qn,qn,qn,qi x27,qn,qn,qn,qn,qn,qn,qn,qn,qn,qn] [] [(44,m0),(44,m1)] 0 y) rfl (Sim.call (f_treeEnd_ok x27 m0) (fun _ _=>rfl) (runP_mono _ _ _ _ _ _) (fun _=>runL_mono _ _ _ _ _) (fun r_183=>Yh 0 0 1159 [qr 0,qr 1,qr 2,qi x3,qn,qj x5,qn,qj x7,qn,qj x9,qn,qi x11,qi x12,qi x13,qn,qn,qi x16,qi x17,qi x18,qi x19,qi x20,qi x21,qi x22,qi x23,qn,qn,qn,qi x27,qn,qn,qn,qn,qn,qn,qn,qn,qn,qn] [vi r_183] [(44,m0),(44,m1)] rfl (Sh 3 (fun n=>(R n 41 0 [qr 0,qi x27] [] 44 m1).bind fun y=>RLv sl sc n 0 1165 [qr 0,qr 1,qr 2,qi x3,qn,qj x5,qn,qj x7,qn,qj x9,qn,qi x11,qi x12,qi x13,qn,qn,qi x16,qi x17,qi x18,qi x19,qi x20,qi x21,qi x22,qi x23,qn,qn,qn,qi x27,qn,qn,qn,qn,qn,qn,qn,qn,qn,qn] [vi r_183] [(44,m0),(44,m1)] 1 y) rfl (Sim.call (f_treeEnd_ok x27 m1) (fun _ _=>rfl) (runP_mono _ _ _ _ _ _) (fun _=>runL_mono _ _ _ _ _) (fun r_184=>Yh 0 0 1165 [qr 0,qr 1,qr 2,qi x3,qn,qj x5,qn,qj x7,qn,qj x9,qn,qi x11,qi x12,qi x13,qn,qn,qi x16,qi x17,qi x18,qi x19,qi x20,qi x21,qi x22,qi x23,qn,qn,qn,qi x27,qn,qn,qn,qn,qn,qn,qn,qn,qn,qn] [vi r_184,vi r_183] [(44,m0),(44,m1)] rfl (Yi 1 0 1172 1168 [qr 0,qr 1,qr 2,qi x3,qn,qj x5,qn,qj x7,qn,qj x9,qn,qi x11,qi x12,qi x13,qn,qn,qi x16,qi x17,qi x18,qi x19,qi x20,qi x21,qi x22,qi x23,qn,qn,qn,qi x27,qn,qn,qn,qn,qn,qn,qn,qn,qn,qn] [] [(44,m0),(44,m1)] rfl (Ze 1 (l_law_b1173_ok sl sc x3 x5 x7 x9 x11 x12 x13 x16 x17 x18 x19 x20 x21 x22 x23 x27 0 m0 m1) rfl) (l_law_b1168_ok sl sc x3 x5 x7 x9 x11 x12 x13 x16 x17 x18 x19 x20 x21 x22 x23 x27 m0 m1)))))))) (l_law_b1168_ok sl sc x3 x5 x7 x9 x11 x12 x13 x16 x17 x18 x19 x20 x21 x22 x23 x27 m0 m1)))))))) (l_law_b1168_ok sl sc x3 x5 x7 x9 x11 x12 x13 x16 x17 x18 x19 x20 x21 x22 x23 x27 m0 m1)))))))) (Sv rfl rfl)) (Sv rfl rfl)
def l_law_b1181 (sl:Int) (sc:Int→Int) (x3 x5 x7 x9 x11 x12 x13 x16 x17 x18 x19 x20 x21 x22 x23 x26:Int) (m0 m1:OMem):Option ((Int×OMem)⊕((OMem)⊕(OMem))):=if x26=0 then (some (.inr (.inl m1))) else (l_law_b1188 sl sc x3 x5 x7 x9 x11 x12 x13 x16 x17 x18 x19 x20 x21 x22 x23 m0 m1)
theorem l_law_b1181_ok (sl:Int) (sc:Int→Int) (x3 x5 x7 x9 x11 x12 x13 x16 x17 x18 x19 x20 x21 x22 x23 x26:Int) (m0 m1:OMem):Sim (l_law_b1181 sl sc x3 x5 x7 x9 x11 x12 x13 x16 x17 x18 x19 x20 x21 x22 x23 x26 m0 m1) (Sum.elim (l_law_l1043_H sl sc m0 x3 x5 x7 x9 x11 x12 x13 x16 x17 x18 x19 x20 x21 x22 ) (l_law_l1043_X sl sc m0 x3 x5 x7 x9 x11 x12 x13 x16 x17 x18 x19 x20 x21 x22 )) (fun n=>RL sl sc n 0 1181 [qr 0,qr 1,qr 2,qi x3,qn,qj x5,qn,qj x7,qn,qj x9,qn,qi x11,qi x12,qi x13,qn,qn,qi x16,qi x17,qi x18,qi x19,qi x20,qi x21,qi x22,qi x23,qn,qn,qi x26,qn,qn,qn,qn,qn,qn,qn,qn,qn,qn,qn] [] [(44,m0),(44,m1)]) :=
 Yi 2 0 1186 1188 [qr 0,qr 1,qr 2,qi x3,qn,qj x5,qn,qj x7,qn,qj x9,qn,qi x11,qi x12,qi x13,qn,qn,qi x16,qi x17,qi x18,qi x19,qi x20,qi x21,qi x22,qi x23,qn,qn,qi x26,qn,qn,qn,qn,qn,qn,qn,qn,qn,qn,qn] [] [(44,m0),(44,m1)] rfl (Sv rfl rfl) (Sim.jmp (l_law_b1188_ok sl sc x3 x5 x7 x9 x11 x12 x13 x16 x17 x18 x19 x20 x21 x22 x23 m0 m1) rfl (fun _=>rfl))
def l_law_b1069 (sl:Int) (sc:Int→Int) (x3 x5 x7 x9 x11 x12 x13 x16 x17 x18 x19 x20 x21 x22 x23 s0:Int) (m0 m1:OMem):Option ((Int×OMem)⊕((OMem)⊕(OMem))):=if s0=x21 then (l_law_b1188 sl sc x3 x5 x7 x9 x11 x12 x13 x16 x17 x18 x19 x20 x21 x22 x23 m0 m1) else ((f_selectTree s0 m1).bind fun (r_177,m_178)=>(if r_177<1 then (l_law_b1188 sl sc x3 x5 x7 x9 x11 x12 x13 x16 x17 x18 x19 x20 x21 x22 x23 m0 m_178) else (if r_177=x22 then ((lp (l_law_l1111 sl sc m0 m_178 x3 x5 x7 x9 x11 x12 x13 x16 x17 x18 x19 x20 x21 x22 x23) NN (0,0)).bind fun x26_185=>(l_law_b1181 sl sc x3 x5 x7 x9 x11 x12 x13 x16 x17 x18 x19 x20 x21 x22 x23 x26_185 m0 m_178)) else (l_law_b1188 sl sc x3 x5 x7 x9 x11 x12 x13 x16 x17 x18 x19 x20 x21 x22 x23 m0 m_178))))
theorem l_law_b1069_ok (sl:Int) (sc:Int→Int) (x3 x5 x7 x9 x11 x12 x13 x16 x17 x18 x19 x20 x21 x22 x23 s0:Int) (m0 m1:OMem):Sim (l_law_b1069 sl sc x3 x5 x7 x9 x11 x12 x13 x16 x17 x18 x19 x20 x21 x22 x23 s0 m0 m1) (Sum.elim (l_law_l1043_H sl sc m0 x3 x5 x7 x9 x11 x12 x13 x16 x17 x18 x19 x20 x21 x22 ) (l_law_l1043_X sl sc m0 x3 x5 x7 x9 x11 x12 x13 x16 x17 x18 x19 x20 x21 x22 )) (fun n=>RL sl sc n 0 1069 [qr 0,qr 1,qr 2,qi x3,qn,qj x5,qn,qj x7,qn,qj x9,qn,qi x11,qi x12,qi x13,qn,qn,qi x16,qi x17,qi x18,qi x19,qi x20,qi x21,qi x22,qi x23,qn,qn,qn,qn,qn,qn,qn,qn,qn,qn,qn,qn,qn,qn] [vi s0] [(44,m0),(44,m1)]) :=
 Yi 4 0 1078 1081 [qr 0,qr 1,qr 2,qi x3,qn,qj x5,qn,qj x7,qn,qj x9,qn,qi x11,qi x12,qi x13,qn,qn,qi x16,qi x17,qi x18,qi x19,qi x20,qi x21,qi x22,qi x23,qi s0,qn,qn,qn,qn,qn,qn,qn,qn,qn,qn,qn,qn,qn] [] [(44,m0),(44,m1)] rfl (Ze 1 (l_law_b1188_ok sl sc x3 x5 x7 x9 x11 x12 x13 x16 x17 x18 x19 x20 x21 x22 x23 m0 m1) rfl) (Sh 3 (fun n=>(R n 31 0 [qr 0,qi s0,qn,qn] [] 44 m1).bind fun y=>RLv sl sc n 0 1087 [qr 0,qr 1,qr 2,qi x3,qn,qj x5,qn,qj x7,qn,qj x9,qn,qi x11,qi x12,qi x13,qn,qn,qi x16,qi x17,qi x18,qi x19,qi x20,qi x21,qi x22,qi x23,qi s0,qn,qn,qn,qn,qn,qn,qn,qn,qn,qn,qn,qn,qn] [] [(44,m0),(44,m1)] 1 y) rfl (Sim.call (f_selectTree_ok s0 m1) (fun _ _=>rfl) (runP_mono _ _ _ _ _ _) (fun _=>runL_mono _ _ _ _ _) (fun ⟨r_177,m_178⟩=>Yh 0 0 1087 [qr 0,qr 1,qr 2,qi x3,qn,qj x5,qn,qj x7,qn,qj x9,qn,qi x11,qi x12,qi x13,qn,qn,qi x16,qi x17,qi x18,qi x19,qi x20,qi x21,qi x22,qi x23,qi s0,qn,qn,qn,qn,qn,qn,qn,qn,qn,qn,qn,qn,qn] [vi r_177] [(44,m0),(44,m_178)] rfl (Yi 4 0 1188 1095 [qr 0,qr 1,qr 2,qi x3,qn,qj x5,qn,qj x7,qn,qj x9,qn,qi x11,qi x12,qi x13,qn,qn,qi x16,qi x17,qi x18,qi x19,qi x20,qi x21,qi x22,qi x23,qi s0,qi r_177,qn,qn,qn,qn,qn,qn,qn,qn,qn,qn,qn,qn] [] [(44,m0),(44,m_178)] rfl (Sim.jmp (l_law_b1188_ok sl sc x3 x5 x7 x9 x11 x12 x13 x16 x17 x18 x19 x20 x21 x22 x23 m0 m_178) rfl (fun _=>rfl)) (Yi 3 0 1105 1102 [qr 0,qr 1,qr 2,qi x3,qn,qj x5,qn,qj x7,qn,qj x9,qn,qi x11,qi x12,qi x13,qn,qn,qi x16,qi x17,qi x18,qi x19,qi x20,qi x21,qi x22,qi x23,qn,qi r_177,qn,qn,qn,qn,qn,qn,qn,qn,qn,qn,qn,qn] [] [(44,m0),(44,m_178)] rfl (Zb 4 (Sim.lp (σ:=Int×Int) (fun ⟨x26L,x27L⟩=>l_law_l1111_ok sl sc m0 m_178 x3 x5 x7 x9 x11 x12 x13 x16 x17 x18 x19 x20 x21 x22 x23 x26L x27L) NN (0,0)) rfl (fun x26_185=>l_law_b1181_ok sl sc x3 x5 x7 x9 x11 x12 x13 x16 x17 x18 x19 x20 x21 x22 x23 x26_185 m0 m_178)) (Ze 1 (l_law_b1188_ok sl sc x3 x5 x7 x9 x11 x12 x13 x16 x17 x18 x19 x20 x21 x22 x23 m0 m_178) rfl))))))
def l_law_l1043 (sl:Int) (sc:Int→Int) (m0:OMem) (x3 x5 x7 x9 x11 x12 x13 x16 x17 x18 x19 x20 x21 x22:Int):Int×OMem→Option ((Int×OMem)⊕((OMem)⊕(OMem))):=fun (x23,m1)=>if x18<x23 then (some (.inr (.inr m1))) else (if x23<x18 then (l_law_b1069 sl sc x3 x5 x7 x9 x11 x12 x13 x16 x17 x18 x19 x20 x21 x22 x23 x23 m0 m1) else (if x17=0 then none else (l_law_b1069 sl sc x3 x5 x7 x9 x11 x12 x13 x16 x17 x18 x19 x20 x21 x22 x23 (rem32 (w32 (x21+1)) x17) m0 m1)))
theorem l_law_l1043_ok (sl:Int) (sc:Int→Int) (m0:OMem) (x3 x5 x7 x9 x11 x12 x13 x16 x17 x18 x19 x20 x21 x22:Int) (x23:Int) (m1:OMem):Sim (l_law_l1043 sl sc m0 x3 x5 x7 x9 x11 x12 x13 x16 x17 x18 x19 x20 x21 x22 (x23,m1)) (Sum.elim (l_law_l1043_H sl sc m0 x3 x5 x7 x9 x11 x12 x13 x16 x17 x18 x19 x20 x21 x22 ) (l_law_l1043_X sl sc m0 x3 x5 x7 x9 x11 x12 x13 x16 x17 x18 x19 x20 x21 x22 )) (l_law_l1043_H sl sc m0 x3 x5 x7 x9 x11 x12 x13 x16 x17 x18 x19 x20 x21 x22 (x23,m1)) :=
 Yi 3 0 1194 1050 [qr 0,qr 1,qr 2,qi x3,qn,qj x5,qn,qj x7,qn,qj x9,qn,qi x11,qi x12,qi x13,qn,qn,qi x16,qi x17,qi x18,qi x19,qi x20,qi x21,qi x22,qi x23,qn,qn,qn,qn,qn,qn,qn,qn,qn,qn,qn,qn,qn,qn] [] [(44,m0),(44,m1)] rfl (Sv rfl rfl) (Yi 3 0 1057 1062 [qr 0,qr 1,qr 2,qi x3,qn,qj x5,qn,qj x7,qn,qj x9,qn,qi x11,qi x12,qi x13,qn,qn,qi x16,qi x17,qi x18,qi x19,qi x20,qi x21,qi x22,qi x23,qn,qn,qn,qn,qn,qn,qn,qn,qn,qn,qn,qn,qn,qn] [] [(44,m0),(44,m1)] rfl (Ze 2 (l_law_b1069_ok sl sc x3 x5 x7 x9 x11 x12 x13 x16 x17 x18 x19 x20 x21 x22 x23 x23 m0 m1) rfl) (Yh 4 0 1068 [qr 0,qr 1,qr 2,qi x3,qn,qj x5,qn,qj x7,qn,qj x9,qn,qi x11,qi x12,qi x13,qn,qn,qi x16,qi x17,qi x18,qi x19,qi x20,qi x21,qi x22,qi x23,qn,qn,qn,qn,qn,qn,qn,qn,qn,qn,qn,qn,qn,qn] [vi x17,vi (w32 (x21+1))] [(44,m0),(44,m1)] rfl (Sh 1 (fun n=>if x17=0 then none else RL sl sc n 0 1069 [qr 0,qr 1,qr 2,qi x3,qn,qj x5,qn,qj x7,qn,qj x9,qn,qi x11,qi x12,qi x13,qn,qn,qi x16,qi x17,qi x18,qi x19,qi x20,qi x21,qi x22,qi x23,qn,qn,qn,qn,qn,qn,qn,qn,qn,qn,qn,qn,qn,qn] [vi (rem32 (w32 (x21+1)) x17)] [(44,m0),(44,m1)]) rfl (Sim.dv fun _=>l_law_b1069_ok sl sc x3 x5 x7 x9 x11 x12 x13 x16 x17 x18 x19 x20 x21 x22 x23 (rem32 (w32 (x21+1)) x17) m0 m1))))
def l_law_b619 (sl:Int) (sc:Int→Int) (x3 x5 x7 x9 x11 x12 x13 x16 x17 x18 x19 x20 s0:Int) (m0 m1:OMem):Option ((Int×OMem×OMem)⊕((OMem×OMem)⊕(OMem×OMem)⊕(OMem×OMem)⊕(OMem×OMem)⊕(OMem×OMem)⊕(OMem×OMem)⊕(OMem×OMem)⊕(OMem×OMem)⊕(OMem×OMem)⊕(OMem×OMem)⊕(OMem×OMem)⊕(OMem×OMem))):=(f_selectTree s0 m0).bind fun (r_152,m_153)=>(if r_152<1 then (l_law_b1194 sl sc x3 x5 x7 x9 x11 x12 x13 x16 x17 x18 x19 x20 m_153 m1) else ((f_treeSize m_153).bind fun r_154=>(if r_154=r_152 then ((f_treeRule 0 m_153).bind fun r_155=>((f_ruleLhs r_155 m_153).bind fun r_156=>(if r_156=0 then ((f_treeStart 0 m_153).bind fun r_157=>(if r_157=0 then ((f_treeEnd 0 m_153).bind fun r_158=>(if r_158=x16 then ((lp (l_law_l684 sl sc m_153 m1 x3 x5 x7 x9 x11 x12 x13 x16 x17 x18 x19 x20 s0 r_152) NN (-1)).bind fun e=>match e with | (.inl _)=>(some (.inr (.inr (.inr (.inr (.inl (m_153,m1))))))) | (.inr (.inl _))=>(some (.inr (.inr (.inr (.inr (.inr (.inl (m_153,m1)))))))) | (.inr (.inr (.inl _)))=>(some (.inr (.inr (.inr (.inr (.inr (.inr (.inl (m_153,m1))))))))) | (.inr (.inr (.inr (.inl _))))=>(some (.inr (.inr (.inr (.inr (.inr (.inr (.inr (.inl (m_153,m1)))))))))) | (.inr (.inr (.inr (.inr (.inl _)))))=>(some (.inr (.inr (.inr (.inr (.inr (.inr (.inr (.inr (.inl (m_153,m1))))))))))) | (.inr (.inr (.inr (.inr (.inr (.inl _))))))=>(some (.inr (.inr (.inr (.inr (.inr (.inr (.inr (.inr (.inr (.inl (m_153,m1)))))))))))) | (.inr (.inr (.inr (.inr (.inr (.inr (.inl _)))))))=>(some (.inr (.inr (.inr (.inr (.inr (.inr (.inr (.inr (.inr (.inr (.inl (m_153,m1))))))))))))) | (.inr (.inr (.inr (.inr (.inr (.inr (.inr _)))))))=>((lp (l_law_l1043 sl sc m_153 x3 x5 x7 x9 x11 x12 x13 x16 x17 x18 x19 x20 s0 r_152) NN (0,m1)).bind fun e=>match e with | (.inl m_186)=>(some (.inr (.inr (.inr (.inr (.inr (.inr (.inr (.inr (.inr (.inr (.inr (.inl (m_153,m_186)))))))))))))) | (.inr m_187)=>(l_law_b1194 sl sc x3 x5 x7 x9 x11 x12 x13 x16 x17 x18 x19 x20 m_153 m_187))) else (some (.inr (.inr (.inr (.inl (m_153,m1)))))))) else (some (.inr (.inr (.inr (.inl (m_153,m1)))))))) else (some (.inr (.inr (.inr (.inl (m_153,m1))))))))) else (some (.inr (.inr (.inl (m_153,m1))))))))
theorem l_law_b619_ok (sl:Int) (sc:Int→Int) (x3 x5 x7 x9 x11 x12 x13 x16 x17 x18 x19 x20 s0:Int) (m0 m1:OMem):Sim (l_law_b619 sl sc x3 x5 x7 x9 x11 x12 x13 x16 x17 x18 x19 x20 s0 m0 m1) (Sum.elim (l_law_l581_H sl sc x3 x5 x7 x9 x11 x12 x13 x16 x17 x18 x19 ) (l_law_l581_X sl sc x3 x5 x7 x9 x11 x12 x13 x16 x17 x18 x19 )) (fun n=>RL sl sc n 0 619 [qr 0,qr 1,qr 2,qi x3,qn,qj x5,qn,qj x7,qn,qj x9,qn,qi x11,qi x12,qi x13,qn,qn,qi x16,qi x17,qi x18,qi x19,qi x20,qn,qn,qn,qn,qn,qn,qn,qn,qn,qn,qn,qn,qn,qn,qn,qn,qn] [vi s0] [(44,m0),(44,m1)]) :=
 Sh 4 (fun n=>(R n 31 0 [qr 0,qi s0,qn,qn] [] 44 m0).bind fun y=>RLv sl sc n 0 627 [qr 0,qr 1,qr 2,qi x3,qn,qj x5,qn,qj x7,qn,qj x9,qn,qi x11,qi x12,qi x13,qn,qn,qi x16,qi x17,qi x18,qi x19,qi x20,qi s0,qn,qn,qn,qn,qn,qn,qn,qn,qn,qn,qn,qn,qn,qn,qn,qn] [] [(44,m0),(44,m1)] 0 y) rfl (Sim.call (f_selectTree_ok s0 m0) (fun _ _=>rfl) (runP_mono _ _ _ _ _ _) (fun _=>runL_mono _ _ _ _ _) (fun ⟨r_152,m_153⟩=>Yh 0 0 627 [qr 0,qr 1,qr 2,qi x3,qn,qj x5,qn,qj x7,qn,qj x9,qn,qi x11,qi x12,qi x13,qn,qn,qi x16,qi x17,qi x18,qi x19,qi x20,qi s0,qn,qn,qn,qn,qn,qn,qn,qn,qn,qn,qn,qn,qn,qn,qn,qn] [vi r_152] [(44,m_153),(44,m1)] rfl (Yi 4 0 635 638 [qr 0,qr 1,qr 2,qi x3,qn,qj x5,qn,qj x7,qn,qj x9,qn,qi x11,qi x12,qi x13,qn,qn,qi x16,qi x17,qi x18,qi x19,qi x20,qi s0,qi r_152,qn,qn,qn,qn,qn,qn,qn,qn,qn,qn,qn,qn,qn,qn,qn] [] [(44,m_153),(44,m1)] rfl (Ze 1 (l_law_b1194_ok sl sc x3 x5 x7 x9 x11 x12 x13 x16 x17 x18 x19 x20 m_153 m1) rfl) (Sh 2 (fun n=>(R n 37 0 [qr 0] [] 44 m_153).bind fun y=>RLv sl sc n 0 642 [qr 0,qr 1,qr 2,qi x3,qn,qj x5,qn,qj x7,qn,qj x9,qn,qi x11,qi x12,qi x13,qn,qn,qi x16,qi x17,qi x18,qi x19,qi x20,qi s0,qi r_152,qn,qn,qn,qn,qn,qn,qn,qn,qn,qn,qn,qn,qn,qn,qn] [] [(44,m_153),(44,m1)] 0 y) rfl (Sim.call (f_treeSize_ok 44 m_153) (fun _ _=>rfl) (runP_mono _ _ _ _ _ _) (fun _=>runL_mono _ _ _ _ _) (fun r_154=>Yh 0 0 642 [qr 0,qr 1,qr 2,qi x3,qn,qj x5,qn,qj x7,qn,qj x9,qn,qi x11,qi x12,qi x13,qn,qn,qi x16,qi x17,qi x18,qi x19,qi x20,qi s0,qi r_152,qn,qn,qn,qn,qn,qn,qn,qn,qn,qn,qn,qn,qn,qn,qn] [vi r_154] [(44,m_153),(44,m1)] rfl (Yi 2 0 649 647 [qr 0,qr 1,qr 2,qi x3,qn,qj x5,qn,qj x7,qn,qj x9,qn,qi x11,qi x12,qi x13,qn,qn,qi x16,qi x17,qi x18,qi x19,qi x20,qi s0,qi r_152,qn,qn,qn,qn,qn,qn,qn,qn,qn,qn,qn,qn,qn,qn,qn] [] [(44,m_153),(44,m1)] rfl (Sh 4 (fun n=>(R n 38 0 [qr 0,qi 0] [] 44 m_153).bind fun y=>RLv sl sc n 0 655 [qr 0,qr 1,qr 2,qi x3,qn,qj x5,qn,qj x7,qn,qj x9,qn,qi x11,qi x12,qi x13,qn,qn,qi x16,qi x17,qi x18,qi x19,qi x20,qi s0,qi r_152,qn,qn,qn,qn,qn,qn,qn,qn,qn,qn,qn,qn,qn,qn,qn] [vr 1] [(44,m_153),(44,m1)] 0 y) rfl (Sim.call (f_treeRule_ok 0 m_153) (fun _ _=>rfl) (runP_mono _ _ _ _ _ _) (fun _=>runL_mono _ _ _ _ _) (fun r_155=>Yh 0 0 655 [qr 0,qr 1,qr 2,qi x3,qn,qj x5,qn,qj x7,qn,qj x9,qn,qi x11,qi x12,qi x13,qn,qn,qi x16,qi x17,qi x18,qi x19,qi x20,qi s0,qi r_152,qn,qn,qn,qn,qn,qn,qn,qn,qn,qn,qn,qn,qn,qn,qn] [vi r_155,vr 1] [(44,m_153),(44,m1)] rfl (Sh 1 (fun n=>(R n 4 0 [qr 0,qi r_155] [] 44 m_153).bind fun y=>RLv sl sc n 0 658 [qr 0,qr 1,qr 2,qi x3,qn,qj x5,qn,qj x7,qn,qj x9,qn,qi x11,qi x12,qi x13,qn,qn,qi x16,qi x17,qi x18,qi x19,qi x20,qi s0,qi r_152,qn,qn,qn,qn,qn,qn,qn,qn,qn,qn,qn,qn,qn,qn,qn] [] [(44,m_153),(44,m1)] 0 y) rfl (Sim.call (f_ruleLhs_ok r_155 m_153) (fun _ _=>rfl) (runP_mono _ _ _ _ _ _) (fun _=>runL_mono _ _ _ _ _) (fun r_156=>Yh 0 0 658 [qr 0,qr 1,qr 2,qi x3,qn,qj x5,qn,qj x7,qn,qj x9,qn,qi x11,qi x12,qi x13,qn,qn,qi x16,qi x17,qi x18,qi x19,qi x20,qi s0,qi r_152,qn,qn,qn,qn,qn,qn,qn,qn,qn,qn,qn,qn,qn,qn,qn] [vi r_156] [(44,m_153),(44,m1)] rfl (Yi 1 0 661 679 [qr 0,qr 1,qr 2,qi x3,qn,qj x5,qn,qj x7,qn,qj x9,qn,qi x11,qi x12,qi x13,qn,qn,qi x16,qi x17,qi x18,qi x19,qi x20,qi s0,qi r_152,qn,qn,qn,qn,qn,qn,qn,qn,qn,qn,qn,qn,qn,qn,qn] [] [(44,m_153),(44,m1)] rfl (Sh 3 (fun n=>(R n 40 0 [qr 0,qi 0] [] 44 m_153).bind fun y=>RLv sl sc n 0 666 [qr 0,qr 1,qr 2,qi x3,qn,qj x5,qn,qj x7,qn,qj x9,qn,qi x11,qi x12,qi x13,qn,qn,qi x16,qi x17,qi x18,qi x19,qi x20,qi s0,qi r_152,qn,qn,qn,qn,qn,qn,qn,qn,qn,qn,qn,qn,qn,qn,qn] [] [(44,m_153),(44,m1)] 0 y) rfl (Sim.call (f_treeStart_ok 0 m_153) (fun _ _=>rfl) (runP_mono _ _ _ _ _ _) (fun _=>runL_mono _ _ _ _ _) (fun r_157=>Yh 0 0 666 [qr 0,qr 1,qr 2,qi x3,qn,qj x5,qn,qj x7,qn,qj x9,qn,qi x11,qi x12,qi x13,qn,qn,qi x16,qi x17,qi x18,qi x19,qi x20,qi s0,qi r_152,qn,qn,qn,qn,qn,qn,qn,qn,qn,qn,qn,qn,qn,qn,qn] [vi r_157] [(44,m_153),(44,m1)] rfl (Yi 1 0 669 679 [qr 0,qr 1,qr 2,qi x3,qn,qj x5,qn,qj x7,qn,qj x9,qn,qi x11,qi x12,qi x13,qn,qn,qi x16,qi x17,qi x18,qi x19,qi x20,qi s0,qi r_152,qn,qn,qn,qn,qn,qn,qn,qn,qn,qn,qn,qn,qn,qn,qn] [] [(44,m_153),(44,m1)] rfl (Sh 3 (fun n=>(R n 41 0 [qr 0,qi 0] [] 44 m_153).bind fun y=>RLv sl sc n 0 674 [qr 0,qr 1,qr 2,qi x3,qn,qj x5,qn,qj x7,qn,qj x9,qn,qi x11,qi x12,qi x13,qn,qn,qi x16,qi x17,qi x18,qi x19,qi x20,qi s0,qi r_152,qn,qn,qn,qn,qn,qn,qn,qn,qn,qn,qn,qn,qn,qn,qn] [] [(44,m_153),(44,m1)] 0 y) rfl (Sim.call (f_treeEnd_ok 0 m_153) (fun _ _=>rfl) (runP_mono _ _ _ _ _ _) (fun _=>runL_mono _ _ _ _ _) (fun r_158=>Yh 0 0 674 [qr 0,qr 1,qr 2,qi x3,qn,qj x5,qn,qj x7,qn,qj x9,qn,qi x11,qi x12,qi x13,qn,qn,qi x16,qi x17,qi x18,qi x19,qi x20,qi s0,qi r_152,qn,qn,qn,qn,qn,qn,qn,qn,qn,qn,qn,qn,qn,qn,qn] [vi r_158] [(44,m_153),(44,m1)] rfl (Yi 2 0 681 679 [qr 0,qr 1,qr 2,qi x3,qn,qj x5,qn,qj x7,qn,qj x9,qn,qi x11,qi x12,qi x13,qn,qn,qi x16,qi x17,qi x18,qi x19,qi x20,qi s0,qi r_152,qn,qn,qn,qn,qn,qn,qn,qn,qn,qn,qn,qn,qn,qn,qn] [] [(44,m_153),(44,m1)] rfl (Zb 2 (Sim.lp (σ:=Int) (fun x23L=>l_law_l684_ok sl sc m_153 m1 x3 x5 x7 x9 x11 x12 x13 x16 x17 x18 x19 x20 s0 r_152 x23L) NN (-1)) rfl (fun e=>match e with | (.inl _)=>Sp | (.inr (.inl _))=>Sp | (.inr (.inr (.inl _)))=>Sp | (.inr (.inr (.inr (.inl _))))=>Sp | (.inr (.inr (.inr (.inr (.inl _)))))=>Sp | (.inr (.inr (.inr (.inr (.inr (.inl _))))))=>Sp | (.inr (.inr (.inr (.inr (.inr (.inr (.inl _)))))))=>Sp | (.inr (.inr (.inr (.inr (.inr (.inr (.inr _)))))))=>Sh 2 (fun n=>RL sl sc n 0 1043 [qr 0,qr 1,qr 2,qi x3,qn,qj x5,qn,qj x7,qn,qj x9,qn,qi x11,qi x12,qi x13,qn,qn,qi x16,qi x17,qi x18,qi x19,qi x20,qi s0,qi r_152,qi 0,qn,qn,qn,qn,qn,qn,qn,qn,qn,qn,qn,qn,qn,qn] [] [(44,m_153),(44,m1)]) rfl (Sim.bind (Sim.lp (σ:=Int×OMem) (fun ⟨x23L,m1L⟩=>l_law_l1043_ok sl sc m_153 x3 x5 x7 x9 x11 x12 x13 x16 x17 x18 x19 x20 s0 r_152 x23L m1L) NN (0,m1)) (fun e=>match e with | (.inl m_186)=>Sp | (.inr m_187)=>l_law_b1194_ok sl sc x3 x5 x7 x9 x11 x12 x13 x16 x17 x18 x19 x20 m_153 m_187)))) (Sv rfl rfl))))) (Sv rfl rfl))))) (Sv rfl rfl)))))))) (Sv rfl rfl))))))))
def l_law_b605 (sl:Int) (sc:Int→Int) (x3 x5 x7 x9 x11 x12 x13 x16 x17 x18 x19 x20:Int) (m0 m1:OMem):Option ((Int×OMem×OMem)⊕((OMem×OMem)⊕(OMem×OMem)⊕(OMem×OMem)⊕(OMem×OMem)⊕(OMem×OMem)⊕(OMem×OMem)⊕(OMem×OMem)⊕(OMem×OMem)⊕(OMem×OMem)⊕(OMem×OMem)⊕(OMem×OMem)⊕(OMem×OMem))):=if x20<x18 then (l_law_b619 sl sc x3 x5 x7 x9 x11 x12 x13 x16 x17 x18 x19 x20 x20 m0 m1) else (l_law_b619 sl sc x3 x5 x7 x9 x11 x12 x13 x16 x17 x18 x19 x20 x19 m0 m1)
theorem l_law_b605_ok (sl:Int) (sc:Int→Int) (x3 x5 x7 x9 x11 x12 x13 x16 x17 x18 x19 x20:Int) (m0 m1:OMem):Sim (l_law_b605 sl sc x3 x5 x7 x9 x11 x12 x13 x16 x17 x18 x19 x20 m0 m1) (Sum.elim (l_law_l581_H sl sc x3 x5 x7 x9 x11 x12 x13 x16 x17 x18 x19 ) (l_law_l581_X sl sc x3 x5 x7 x9 x11 x12 x13 x16 x17 x18 x19 )) (fun n=>RL sl sc n 0 605 [qr 0,qr 1,qr 2,qi x3,qn,qj x5,qn,qj x7,qn,qj x9,qn,qi x11,qi x12,qi x13,qn,qn,qi x16,qi x17,qi x18,qi x19,qi x20,qn,qn,qn,qn,qn,qn,qn,qn,qn,qn,qn,qn,qn,qn,qn,qn,qn] [] [(44,m0),(44,m1)]) :=
 Yi 3 0 612 617 [qr 0,qr 1,qr 2,qi x3,qn,qj x5,qn,qj x7,qn,qj x9,qn,qi x11,qi x12,qi x13,qn,qn,qi x16,qi x17,qi x18,qi x19,qi x20,qn,qn,qn,qn,qn,qn,qn,qn,qn,qn,qn,qn,qn,qn,qn,qn,qn] [] [(44,m0),(44,m1)] rfl (Ze 2 (l_law_b619_ok sl sc x3 x5 x7 x9 x11 x12 x13 x16 x17 x18 x19 x20 x20 m0 m1) rfl) (Ze 1 (l_law_b619_ok sl sc x3 x5 x7 x9 x11 x12 x13 x16 x17 x18 x19 x20 x19 m0 m1) rfl)
def l_law_l581 (sl:Int) (sc:Int→Int) (x3 x5 x7 x9 x11 x12 x13 x16 x17 x18 x19:Int):Int×OMem×OMem→Option ((Int×OMem×OMem)⊕((OMem×OMem)⊕(OMem×OMem)⊕(OMem×OMem)⊕(OMem×OMem)⊕(OMem×OMem)⊕(OMem×OMem)⊕(OMem×OMem)⊕(OMem×OMem)⊕(OMem×OMem)⊕(OMem×OMem)⊕(OMem×OMem)⊕(OMem×OMem))):=fun (x20,m0,m1)=>if x18<x20 then (some (.inr (.inr (.inr (.inr (.inr (.inr (.inr (.inr (.inr (.inr (.inr (.inr (m0,m1)))))))))))))) else (if x20=x18 then (if x19<x18 then (some (.inr (.inl (m0,m1)))) else (l_law_b605 sl sc x3 x5 x7 x9 x11 x12 x13 x16 x17 x18 x19 x20 m0 m1)) else (l_law_b605 sl sc x3 x5 x7 x9 x11 x12 x13 x16 x17 x18 x19 x20 m0 m1))
theorem l_law_l581_ok (sl:Int) (sc:Int→Int) (x3 x5 x7 x9 x11 x12 x13 x16 x17 x18 x19:Int) (x20:Int) (m0 m1:OMem):Sim (l_law_l581 sl sc x3 x5 x7 x9 x11 x12 x13 x16 x17 x18 x19 (x20,m0,m1)) (Sum.elim (l_law_l581_H sl sc x3 x5 x7 x9 x11 x12 x13 x16 x17 x18 x19 ) (l_law_l581_X sl sc x3 x5 x7 x9 x11 x12 x13 x16 x17 x18 x19 )) (l_law_l581_H sl sc x3 x5 x7 x9 x11 x12 x13 x16 x17 x18 x19 (x20,m0,m1)) :=
 Yi 3 0 1200 588 [qr 0,qr 1,qr 2,qi x3,qn,qj x5,qn,qj x7,qn,qj x9,qn,qi x11,qi x12,qi x13,qn,qn,qi x16,qi x17,qi x18,qi x19,qi x20,qn,qn,qn,qn,qn,qn,qn,qn,qn,qn,qn,qn,qn,qn,qn,qn,qn] [] [(44,m0),(44,m1)] rfl (Sv rfl rfl) (Yi 3 0 595 605 [qr 0,qr 1,qr 2,qi x3,qn,qj x5,qn,qj x7,qn,qj x9,qn,qi x11,qi x12,qi x13,qn,qn,qi x16,qi x17,qi x18,qi x19,qi x20,qn,qn,qn,qn,qn,qn,qn,qn,qn,qn,qn,qn,qn,qn,qn,qn,qn] [] [(44,m0),(44,m1)] rfl (Yi 3 0 602 605 [qr 0,qr 1,qr 2,qi x3,qn,qj x5,qn,qj x7,qn,qj x9,qn,qi x11,qi x12,qi x13,qn,qn,qi x16,qi x17,qi x18,qi x19,qi x20,qn,qn,qn,qn,qn,qn,qn,qn,qn,qn,qn,qn,qn,qn,qn,qn,qn] [] [(44,m0),(44,m1)] rfl (Sv rfl rfl) (l_law_b605_ok sl sc x3 x5 x7 x9 x11 x12 x13 x16 x17 x18 x19 x20 m0 m1)) (l_law_b605_ok sl sc x3 x5 x7 x9 x11 x12 x13 x16 x17 x18 x19 x20 m0 m1))
def l_law_b560 (sl:Int) (sc:Int→Int) (x3 x5 x7 x9 x11 x12 x13 x16 x17 s0:Int) (m0 m1:OMem):Option ((Int×Int×OMem×OMem)⊕((OMem×OMem)⊕(OMem×OMem)⊕(OMem×OMem)⊕(OMem×OMem)⊕(OMem×OMem)⊕(OMem×OMem)⊕(OMem×OMem)⊕(OMem×OMem)⊕(OMem×OMem)⊕(OMem×OMem)⊕(OMem×OMem)⊕(OMem×OMem))):=(l_cell sl sc x3 m0 m1).bind fun r_151=>(if x17=0 then none else ((lp (l_law_l581 sl sc (w32 (x3+1)) x5 x7 x9 x11 x12 x13 x16 x17 s0 (rem32 (and32 r_151 2147483647) x17)) NN (0,m0,m1)).bind fun e=>match e with | (.inl (m_188,m_189))=>(l_law_b1200 sl sc (w32 (x3+1)) x5 x7 x9 x11 x12 x13 m_188 m_189) | (.inr (.inl (m_190,m_191)))=>(some (.inr (.inr (.inl (m_190,m_191))))) | (.inr (.inr (.inl (m_192,m_193))))=>(some (.inr (.inr (.inr (.inl (m_192,m_193)))))) | (.inr (.inr (.inr (.inl (m_194,m_195)))))=>(some (.inr (.inr (.inr (.inr (.inl (m_194,m_195))))))) | (.inr (.inr (.inr (.inr (.inl (m_196,m_197))))))=>(some (.inr (.inr (.inr (.inr (.inr (.inl (m_196,m_197)))))))) | (.inr (.inr (.inr (.inr (.inr (.inl (m_198,m_199)))))))=>(some (.inr (.inr (.inr (.inr (.inr (.inr (.inl (m_198,m_199))))))))) | (.inr (.inr (.inr (.inr (.inr (.inr (.inl (m_200,m_201))))))))=>(some (.inr (.inr (.inr (.inr (.inr (.inr (.inr (.inl (m_200,m_201)))))))))) | (.inr (.inr (.inr (.inr (.inr (.inr (.inr (.inl (m_202,m_203)))))))))=>(some (.inr (.inr (.inr (.inr (.inr (.inr (.inr (.inr (.inl (m_202,m_203))))))))))) | (.inr (.inr (.inr (.inr (.inr (.inr (.inr (.inr (.inl (m_204,m_205))))))))))=>(some (.inr (.inr (.inr (.inr (.inr (.inr (.inr (.inr (.inr (.inl (m_204,m_205)))))))))))) | (.inr (.inr (.inr (.inr (.inr (.inr (.inr (.inr (.inr (.inl (m_206,m_207)))))))))))=>(some (.inr (.inr (.inr (.inr (.inr (.inr (.inr (.inr (.inr (.inr (.inl (m_206,m_207))))))))))))) | (.inr (.inr (.inr (.inr (.inr (.inr (.inr (.inr (.inr (.inr (.inl (m_208,m_209))))))))))))=>(some (.inr (.inr (.inr (.inr (.inr (.inr (.inr (.inr (.inr (.inr (.inr (.inl (m_208,m_209)))))))))))))) | (.inr (.inr (.inr (.inr (.inr (.inr (.inr (.inr (.inr (.inr (.inr (m_210,m_211))))))))))))=>(l_law_b1200 sl sc (w32 (x3+1)) x5 x7 x9 x11 x12 x13 m_210 m_211)))
theorem l_law_b560_ok (sl:Int) (sc:Int→Int) (x3 x5 x7 x9 x11 x12 x13 x16 x17 s0:Int) (m0 m1:OMem):Sim (l_law_b560 sl sc x3 x5 x7 x9 x11 x12 x13 x16 x17 s0 m0 m1) (Sum.elim (l_law_l327_H sl sc x5 x7 x9 x11 x12 ) (l_law_l327_X sl sc x5 x7 x9 x11 x12 )) (fun n=>RL sl sc n 0 560 [qr 0,qr 1,qr 2,qi x3,qn,qj x5,qn,qj x7,qn,qj x9,qn,qi x11,qi x12,qi x13,qn,qn,qi x16,qi x17,qn,qn,qn,qn,qn,qn,qn,qn,qn,qn,qn,qn,qn,qn,qn,qn,qn,qn,qn,qn] [vi s0] [(44,m0),(44,m1)]) :=
 Sh 5 (fun n=>(RL sl sc n 1 0 [qr 0,qi x3] [] [(44,m0),(44,m1)]).bind fun y=>RLr sl sc n 0 570 [qr 0,qr 1,qr 2,qi (w32 (x3+1)),qn,qj x5,qn,qj x7,qn,qj x9,qn,qi x11,qi x12,qi x13,qn,qn,qi x16,qi x17,qi s0,qn,qn,qn,qn,qn,qn,qn,qn,qn,qn,qn,qn,qn,qn,qn,qn,qn,qn,qn] [] y) rfl (Sim.call (l_cell_ok 44 44 sl sc x3 m0 m1) (fun _ _=>rfl) (runL_mono _ _ _ _ _) (fun _=>runL_mono _ _ _ _ _) (fun r_151=>Yh 0 0 570 [qr 0,qr 1,qr 2,qi (w32 (x3+1)),qn,qj x5,qn,qj x7,qn,qj x9,qn,qi x11,qi x12,qi x13,qn,qn,qi x16,qi x17,qi s0,qn,qn,qn,qn,qn,qn,qn,qn,qn,qn,qn,qn,qn,qn,qn,qn,qn,qn,qn] [vi r_151] [(44,m0),(44,m1)] rfl (Yh 3 0 575 [qr 0,qr 1,qr 2,qi (w32 (x3+1)),qn,qj x5,qn,qj x7,qn,qj x9,qn,qi x11,qi x12,qi x13,qn,qn,qi x16,qi x17,qi s0,qn,qn,qn,qn,qn,qn,qn,qn,qn,qn,qn,qn,qn,qn,qn,qn,qn,qn,qn] [vi x17,vi (and32 r_151 2147483647)] [(44,m0),(44,m1)] rfl (Sh 1 (fun n=>if x17=0 then none else RL sl sc n 0 576 [qr 0,qr 1,qr 2,qi (w32 (x3+1)),qn,qj x5,qn,qj x7,qn,qj x9,qn,qi x11,qi x12,qi x13,qn,qn,qi x16,qi x17,qi s0,qn,qn,qn,qn,qn,qn,qn,qn,qn,qn,qn,qn,qn,qn,qn,qn,qn,qn,qn] [vi (rem32 (and32 r_151 2147483647) x17)] [(44,m0),(44,m1)]) rfl (Sim.dv fun _=>Sh 3 (fun n=>RL sl sc n 0 581 [qr 0,qr 1,qr 2,qi (w32 (x3+1)),qn,qj x5,qn,qj x7,qn,qj x9,qn,qi x11,qi x12,qi x13,qn,qn,qi x16,qi x17,qi s0,qi (rem32 (and32 r_151 2147483647) x17),qi 0,qn,qn,qn,qn,qn,qn,qn,qn,qn,qn,qn,qn,qn,qn,qn,qn,qn] [] [(44,m0),(44,m1)]) rfl (Sim.bind (Sim.lp (σ:=Int×OMem×OMem) (fun ⟨x20L,m0L,m1L⟩=>l_law_l581_ok sl sc (w32 (x3+1)) x5 x7 x9 x11 x12 x13 x16 x17 s0 (rem32 (and32 r_151 2147483647) x17) x20L m0L m1L) NN (0,m0,m1)) (fun e=>match e with | (.inl (⟨m_188,m_189⟩))=>Sh 1 (fun n=>RL sl sc n 0 1200 [qr 0,qr 1,qr 2,qi (w32 (x3+1)),qn,qj x5,qn,qj x7,qn,qj x9,qn,qi x11,qi x12,qi x13,qn,qn,qn,qn,qn,qn,qn,qn,qn,qn,qn,qn,qn,qn,qn,qn,qn,qn,qn,qn,qn,qn,qn,qn] [] [(44,m_188),(44,m_189)]) rfl (l_law_b1200_ok sl sc (w32 (x3+1)) x5 x7 x9 x11 x12 x13 m_188 m_189) | (.inr (.inl (⟨m_190,m_191⟩)))=>Sp | (.inr (.inr (.inl (⟨m_192,m_193⟩))))=>Sp | (.inr (.inr (.inr (.inl (⟨m_194,m_195⟩)))))=>Sp | (.inr (.inr (.inr (.inr (.inl (⟨m_196,m_197⟩))))))=>Sp | (.inr (.inr (.inr (.inr (.inr (.inl (⟨m_198,m_199⟩)))))))=>Sp | (.inr (.inr (.inr (.inr (.inr (.inr (.inl (⟨m_200,m_201⟩))))))))=>Sp | (.inr (.inr (.inr (.inr (.inr (.inr (.inr (.inl (⟨m_202,m_203⟩)))))))))=>Sp | (.inr (.inr (.inr (.inr (.inr (.inr (.inr (.inr (.inl (⟨m_204,m_205⟩))))))))))=>Sp | (.inr (.inr (.inr (.inr (.inr (.inr (.inr (.inr (.inr (.inl (⟨m_206,m_207⟩)))))))))))=>Sp | (.inr (.inr (.inr (.inr (.inr (.inr (.inr (.inr (.inr (.inr (.inl (⟨m_208,m_209⟩))))))))))))=>Sp | (.inr (.inr (.inr (.inr (.inr (.inr (.inr (.inr (.inr (.inr (.inr (⟨m_210,m_211⟩))))))))))))=>l_law_b1200_ok sl sc (w32 (x3+1)) x5 x7 x9 x11 x12 x13 m_210 m_211)))))))
def l_law_b530 (sl:Int) (sc:Int→Int) (x3 x5 x7 x9 x11 x12 x13 x16 x17:Int) (m0 m1:OMem):Option ((Int×Int×OMem×OMem)⊕((OMem×OMem)⊕(OMem×OMem)⊕(OMem×OMem)⊕(OMem×OMem)⊕(OMem×OMem)⊕(OMem×OMem)⊕(OMem×OMem)⊕(OMem×OMem)⊕(OMem×OMem)⊕(OMem×OMem)⊕(OMem×OMem)⊕(OMem×OMem))):=if x17<1 then (l_law_b1200 sl sc x3 x5 x7 x9 x11 x12 x13 m0 m1) else (if x17<1000000 then (if x17<6 then (l_law_b560 sl sc x3 x5 x7 x9 x11 x12 x13 x16 x17 x17 m0 m1) else (l_law_b560 sl sc x3 x5 x7 x9 x11 x12 x13 x16 x17 6 m0 m1)) else (l_law_b1200 sl sc x3 x5 x7 x9 x11 x12 x13 m0 m1))
theorem l_law_b530_ok (sl:Int) (sc:Int→Int) (x3 x5 x7 x9 x11 x12 x13 x16 x17:Int) (m0 m1:OMem):Sim (l_law_b530 sl sc x3 x5 x7 x9 x11 x12 x13 x16 x17 m0 m1) (Sum.elim (l_law_l327_H sl sc x5 x7 x9 x11 x12 ) (l_law_l327_X sl sc x5 x7 x9 x11 x12 )) (fun n=>RL sl sc n 0 530 [qr 0,qr 1,qr 2,qi x3,qn,qj x5,qn,qj x7,qn,qj x9,qn,qi x11,qi x12,qi x13,qn,qn,qi x16,qi x17,qn,qn,qn,qn,qn,qn,qn,qn,qn,qn,qn,qn,qn,qn,qn,qn,qn,qn,qn,qn] [] [(44,m0),(44,m1)]) :=
 Yi 3 0 1200 536 [qr 0,qr 1,qr 2,qi x3,qn,qj x5,qn,qj x7,qn,qj x9,qn,qi x11,qi x12,qi x13,qn,qn,qi x16,qi x17,qn,qn,qn,qn,qn,qn,qn,qn,qn,qn,qn,qn,qn,qn,qn,qn,qn,qn,qn,qn] [] [(44,m0),(44,m1)] rfl (Sim.jmp (l_law_b1200_ok sl sc x3 x5 x7 x9 x11 x12 x13 m0 m1) rfl (fun _=>rfl)) (Yi 3 0 546 543 [qr 0,qr 1,qr 2,qi x3,qn,qj x5,qn,qj x7,qn,qj x9,qn,qi x11,qi x12,qi x13,qn,qn,qi x16,qi x17,qn,qn,qn,qn,qn,qn,qn,qn,qn,qn,qn,qn,qn,qn,qn,qn,qn,qn,qn,qn] [] [(44,m0),(44,m1)] rfl (Yi 3 0 553 558 [qr 0,qr 1,qr 2,qi x3,qn,qj x5,qn,qj x7,qn,qj x9,qn,qi x11,qi x12,qi x13,qn,qn,qi x16,qi x17,qn,qn,qn,qn,qn,qn,qn,qn,qn,qn,qn,qn,qn,qn,qn,qn,qn,qn,qn,qn] [] [(44,m0),(44,m1)] rfl (Ze 2 (l_law_b560_ok sl sc x3 x5 x7 x9 x11 x12 x13 x16 x17 x17 m0 m1) rfl) (Ze 1 (l_law_b560_ok sl sc x3 x5 x7 x9 x11 x12 x13 x16 x17 6 m0 m1) rfl)) (Ze 1 (l_law_b1200_ok sl sc x3 x5 x7 x9 x11 x12 x13 m0 m1) rfl))
def l_law_b524 (sl:Int) (sc:Int→Int) (x3 x5 x7 x9 x11 x12 x13 x16 x17 s0 s1:Int) (m0 m1:OMem):Option ((Int×Int×OMem×OMem)⊕((OMem×OMem)⊕(OMem×OMem)⊕(OMem×OMem)⊕(OMem×OMem)⊕(OMem×OMem)⊕(OMem×OMem)⊕(OMem×OMem)⊕(OMem×OMem)⊕(OMem×OMem)⊕(OMem×OMem)⊕(OMem×OMem)⊕(OMem×OMem))):=if lcm s0 s1=0 then (l_law_b530 sl sc x3 x5 x7 x9 x11 x12 x13 x16 x17 m0 m1) else (some (.inr (.inl (m0,m1))))
theorem l_law_b524_ok (sl:Int) (sc:Int→Int) (x3 x5 x7 x9 x11 x12 x13 x16 x17 s0 s1:Int) (m0 m1:OMem):Sim (l_law_b524 sl sc x3 x5 x7 x9 x11 x12 x13 x16 x17 s0 s1 m0 m1) (Sum.elim (l_law_l327_H sl sc x5 x7 x9 x11 x12 ) (l_law_l327_X sl sc x5 x7 x9 x11 x12 )) (fun n=>RL sl sc n 0 524 [qr 0,qr 1,qr 2,qi x3,qn,qj x5,qn,qj x7,qn,qj x9,qn,qi x11,qi x12,qi x13,qn,qn,qi x16,qi x17,qn,qn,qn,qn,qn,qn,qn,qn,qn,qn,qn,qn,qn,qn,qn,qn,qn,qn,qn,qn] [vl s1,vl s0] [(44,m0),(44,m1)]) :=
 Yi 2 0 530 528 [qr 0,qr 1,qr 2,qi x3,qn,qj x5,qn,qj x7,qn,qj x9,qn,qi x11,qi x12,qi x13,qn,qn,qi x16,qi x17,qn,qn,qn,qn,qn,qn,qn,qn,qn,qn,qn,qn,qn,qn,qn,qn,qn,qn,qn,qn] [] [(44,m0),(44,m1)] rfl (l_law_b530_ok sl sc x3 x5 x7 x9 x11 x12 x13 x16 x17 m0 m1) (Sv rfl rfl)
def l_law_b457 (sl:Int) (sc:Int→Int) (x3 x5 x7 x9 x11 x12 x13 x15 x16:Int) (m0 m1:OMem):Option ((Int×Int×OMem×OMem)⊕((OMem×OMem)⊕(OMem×OMem)⊕(OMem×OMem)⊕(OMem×OMem)⊕(OMem×OMem)⊕(OMem×OMem)⊕(OMem×OMem)⊕(OMem×OMem)⊕(OMem×OMem)⊕(OMem×OMem)⊕(OMem×OMem)⊕(OMem×OMem))):=(f_parse m0).bind fun (r_146,m_147)=>((f_parse m1).bind fun (r_148,m_149)=>((f_count m_147).bind fun r_150=>(if r_150<0 then (l_law_b530 sl sc x3 x5 x7 x9 x11 x12 x13 x16 r_150 m_147 m_149) else ((l_enumerate sl sc x5 x7 x9 x11 x15 x16 x12 m_147 m_149).bind fun r_223=>(if lcm r_223 0<0 then (l_law_b530 sl sc x3 x5 x7 x9 x11 x12 x13 x16 r_150 m_147 m_149) else (if lcm r_223 1000000<0 then (l_law_b524 sl sc x3 x5 x7 x9 x11 x12 x13 x16 r_150 r_150 r_223 m_147 m_149) else (l_law_b524 sl sc x3 x5 x7 x9 x11 x12 x13 x16 r_150 r_150 1000000 m_147 m_149)))))))
theorem l_law_b457_ok (sl:Int) (sc:Int→Int) (x3 x5 x7 x9 x11 x12 x13 x15 x16:Int) (m0 m1:OMem):Sim (l_law_b457 sl sc x3 x5 x7 x9 x11 x12 x13 x15 x16 m0 m1) (Sum.elim (l_law_l327_H sl sc x5 x7 x9 x11 x12 ) (l_law_l327_X sl sc x5 x7 x9 x11 x12 )) (fun n=>RL sl sc n 0 457 [qr 0,qr 1,qr 2,qi x3,qn,qj x5,qn,qj x7,qn,qj x9,qn,qi x11,qi x12,qi x13,qn,qi x15,qi x16,qn,qn,qn,qn,qn,qn,qn,qn,qn,qn,qn,qn,qn,qn,qn,qn,qn,qn,qn,qn,qn] [] [(44,m0),(44,m1)]) :=
 Sh 2 (fun n=>(R n 11 0 [qr 0] [] 44 m0).bind fun y=>RLv sl sc n 0 461 [qr 0,qr 1,qr 2,qi x3,qn,qj x5,qn,qj x7,qn,qj x9,qn,qi x11,qi x12,qi x13,qn,qi x15,qi x16,qn,qn,qn,qn,qn,qn,qn,qn,qn,qn,qn,qn,qn,qn,qn,qn,qn,qn,qn,qn,qn] [] [(44,m0),(44,m1)] 0 y) rfl (Sim.call (f_parse_ok m0) (fun _ _=>rfl) (runP_mono _ _ _ _ _ _) (fun _=>runL_mono _ _ _ _ _) (fun ⟨r_146,m_147⟩=>Yh 0 0 461 [qr 0,qr 1,qr 2,qi x3,qn,qj x5,qn,qj x7,qn,qj x9,qn,qi x11,qi x12,qi x13,qn,qi x15,qi x16,qn,qn,qn,qn,qn,qn,qn,qn,qn,qn,qn,qn,qn,qn,qn,qn,qn,qn,qn,qn,qn] [vi r_146] [(44,m_147),(44,m1)] rfl (Sh 3 (fun n=>(R n 11 0 [qr 0] [] 44 m1).bind fun y=>RLv sl sc n 0 466 [qr 0,qr 1,qr 2,qi x3,qn,qj x5,qn,qj x7,qn,qj x9,qn,qi x11,qi x12,qi x13,qn,qi x15,qi x16,qn,qn,qn,qn,qn,qn,qn,qn,qn,qn,qn,qn,qn,qn,qn,qn,qn,qn,qn,qn,qn] [] [(44,m_147),(44,m1)] 1 y) rfl (Sim.call (f_parse_ok m1) (fun _ _=>rfl) (runP_mono _ _ _ _ _ _) (fun _=>runL_mono _ _ _ _ _) (fun ⟨r_148,m_149⟩=>Yh 0 0 466 [qr 0,qr 1,qr 2,qi x3,qn,qj x5,qn,qj x7,qn,qj x9,qn,qi x11,qi x12,qi x13,qn,qi x15,qi x16,qn,qn,qn,qn,qn,qn,qn,qn,qn,qn,qn,qn,qn,qn,qn,qn,qn,qn,qn,qn,qn] [vi r_148] [(44,m_147),(44,m_149)] rfl (Sh 3 (fun n=>(R n 30 0 [qr 0] [] 44 m_147).bind fun y=>RLv sl sc n 0 471 [qr 0,qr 1,qr 2,qi x3,qn,qj x5,qn,qj x7,qn,qj x9,qn,qi x11,qi x12,qi x13,qn,qi x15,qi x16,qn,qn,qn,qn,qn,qn,qn,qn,qn,qn,qn,qn,qn,qn,qn,qn,qn,qn,qn,qn,qn] [] [(44,m_147),(44,m_149)] 0 y) rfl (Sim.call (f_count_ok 44 m_147) (fun _ _=>rfl) (runP_mono _ _ _ _ _ _) (fun _=>runL_mono _ _ _ _ _) (fun r_150=>Yh 0 0 471 [qr 0,qr 1,qr 2,qi x3,qn,qj x5,qn,qj x7,qn,qj x9,qn,qi x11,qi x12,qi x13,qn,qi x15,qi x16,qn,qn,qn,qn,qn,qn,qn,qn,qn,qn,qn,qn,qn,qn,qn,qn,qn,qn,qn,qn,qn] [vi r_150] [(44,m_147),(44,m_149)] rfl (Yi 3 0 530 478 [qr 0,qr 1,qr 2,qi x3,qn,qj x5,qn,qj x7,qn,qj x9,qn,qi x11,qi x12,qi x13,qn,qi x15,qi x16,qi r_150,qn,qn,qn,qn,qn,qn,qn,qn,qn,qn,qn,qn,qn,qn,qn,qn,qn,qn,qn,qn] [] [(44,m_147),(44,m_149)] rfl (Sim.jmp (l_law_b530_ok sl sc x3 x5 x7 x9 x11 x12 x13 x16 r_150 m_147 m_149) rfl (fun _=>rfl)) (Sh 8 (fun n=>(RL sl sc n 5 0 [qj x5,qn,qj x7,qn,qj x9,qn,qi x11,qi x15,qi x16,qi x12,qn,qn,qn,qn,qn,qn,qn,qn,qn,qn,qn] [] [(44,m_147),(44,m_149)]).bind fun y=>RLr sl sc n 0 495 [qr 0,qr 1,qr 2,qi x3,qn,qj x5,qn,qj x7,qn,qj x9,qn,qi x11,qi x12,qi x13,qn,qi x15,qi x16,qi r_150,qn,qn,qn,qn,qn,qn,qn,qn,qn,qn,qn,qn,qn,qn,qn,qn,qn,qn,qn,qn] [] y) rfl (Sim.call (l_enumerate_ok 44 44 sl sc x5 x7 x9 x11 x15 x16 x12 m_147 m_149) (fun _ _=>rfl) (runL_mono _ _ _ _ _) (fun _=>runL_mono _ _ _ _ _) (fun r_223=>Yh 0 0 495 [qr 0,qr 1,qr 2,qi x3,qn,qj x5,qn,qj x7,qn,qj x9,qn,qi x11,qi x12,qi x13,qn,qi x15,qi x16,qi r_150,qn,qn,qn,qn,qn,qn,qn,qn,qn,qn,qn,qn,qn,qn,qn,qn,qn,qn,qn,qn] [vl r_223] [(44,m_147),(44,m_149)] rfl (Yh 3 0 500 [qr 0,qr 1,qr 2,qi x3,qn,qj x5,qn,qj x7,qn,qj x9,qn,qi x11,qi x12,qi x13,qn,qi x15,qi x16,qi r_150,qj r_223,qn,qn,qn,qn,qn,qn,qn,qn,qn,qn,qn,qn,qn,qn,qn,qn,qn,qn,qn] [vl 0,vl r_223] [(44,m_147),(44,m_149)] rfl (Yi 2 0 530 504 [qr 0,qr 1,qr 2,qi x3,qn,qj x5,qn,qj x7,qn,qj x9,qn,qi x11,qi x12,qi x13,qn,qi x15,qi x16,qi r_150,qj r_223,qn,qn,qn,qn,qn,qn,qn,qn,qn,qn,qn,qn,qn,qn,qn,qn,qn,qn,qn] [] [(44,m_147),(44,m_149)] rfl (Sim.jmp (l_law_b530_ok sl sc x3 x5 x7 x9 x11 x12 x13 x16 r_150 m_147 m_149) rfl (fun _=>rfl)) (Yi 6 0 516 521 [qr 0,qr 1,qr 2,qi x3,qn,qj x5,qn,qj x7,qn,qj x9,qn,qi x11,qi x12,qi x13,qn,qn,qi x16,qi r_150,qj r_223,qn,qn,qn,qn,qn,qn,qn,qn,qn,qn,qn,qn,qn,qn,qn,qn,qn,qn,qn] [vl r_150] [(44,m_147),(44,m_149)] rfl (Zj 2 (l_law_b524_ok sl sc x3 x5 x7 x9 x11 x12 x13 x16 r_150 r_150 r_223 m_147 m_149) rfl rfl) (Ze 1 (l_law_b524_ok sl sc x3 x5 x7 x9 x11 x12 x13 x16 r_150 r_150 1000000 m_147 m_149) rfl))))))))))))))))
def l_law_l327 (sl:Int) (sc:Int→Int) (x5 x7 x9 x11 x12:Int):Int×Int×OMem×OMem→Option ((Int×Int×OMem×OMem)⊕((OMem×OMem)⊕(OMem×OMem)⊕(OMem×OMem)⊕(OMem×OMem)⊕(OMem×OMem)⊕(OMem×OMem)⊕(OMem×OMem)⊕(OMem×OMem)⊕(OMem×OMem)⊕(OMem×OMem)⊕(OMem×OMem)⊕(OMem×OMem))):=fun (x3,x13,m0,m1)=>if x13<3 then ((l_cell sl sc x3 m0 m1).bind fun r_132=>((f_clearInput m0).bind fun m_133=>((f_clearInput m1).bind fun m_134=>((lp (l_law_l360 sl sc x5 x7 x9 x11 x12 x13 (rem32 (and32 r_132 7) 6)) NN (w32 (x3+1),0,m_133,m_134)).bind fun (x3_140,m_141,m_142)=>((lp (l_law_l408 sl sc m_141 m_142 x3_140 x5 x7 x9 x11 x12 x13) NN (0,0,0)).bind fun e=>match e with | (.inl (x15_144,x16_145))=>(l_law_b457 sl sc x3_140 x5 x7 x9 x11 x12 x13 x15_144 x16_145 m_141 m_142) | (.inr (x15_224,x16_225))=>(l_law_b457 sl sc x3_140 x5 x7 x9 x11 x12 x13 x15_224 x16_225 m_141 m_142)))))) else (some (.inr (.inr (.inr (.inr (.inr (.inr (.inr (.inr (.inr (.inr (.inr (.inr (m0,m1))))))))))))))
theorem l_law_l327_ok (sl:Int) (sc:Int→Int) (x5 x7 x9 x11 x12:Int) (x3 x13:Int) (m0 m1:OMem):Sim (l_law_l327 sl sc x5 x7 x9 x11 x12 (x3,x13,m0,m1)) (Sum.elim (l_law_l327_H sl sc x5 x7 x9 x11 x12 ) (l_law_l327_X sl sc x5 x7 x9 x11 x12 )) (l_law_l327_H sl sc x5 x7 x9 x11 x12 (x3,x13,m0,m1)) :=
 Yi 3 0 333 1206 [qr 0,qr 1,qr 2,qi x3,qn,qj x5,qn,qj x7,qn,qj x9,qn,qi x11,qi x12,qi x13,qn,qn,qn,qn,qn,qn,qn,qn,qn,qn,qn,qn,qn,qn,qn,qn,qn,qn,qn,qn,qn,qn,qn,qn] [] [(44,m0),(44,m1)] rfl (Sh 4 (fun n=>(RL sl sc n 1 0 [qr 0,qi x3] [] [(44,m0),(44,m1)]).bind fun y=>RLr sl sc n 0 341 [qr 0,qr 1,qr 2,qi (w32 (x3+1)),qn,qj x5,qn,qj x7,qn,qj x9,qn,qi x11,qi x12,qi x13,qn,qn,qn,qn,qn,qn,qn,qn,qn,qn,qn,qn,qn,qn,qn,qn,qn,qn,qn,qn,qn,qn,qn,qn] [] y) rfl (Sim.call (l_cell_ok 44 44 sl sc x3 m0 m1) (fun _ _=>rfl) (runL_mono _ _ _ _ _) (fun _=>runL_mono _ _ _ _ _) (fun r_132=>Yh 0 0 341 [qr 0,qr 1,qr 2,qi (w32 (x3+1)),qn,qj x5,qn,qj x7,qn,qj x9,qn,qi x11,qi x12,qi x13,qn,qn,qn,qn,qn,qn,qn,qn,qn,qn,qn,qn,qn,qn,qn,qn,qn,qn,qn,qn,qn,qn,qn,qn] [vi r_132] [(44,m0),(44,m1)] rfl (Yh 3 0 346 [qr 0,qr 1,qr 2,qi (w32 (x3+1)),qn,qj x5,qn,qj x7,qn,qj x9,qn,qi x11,qi x12,qi x13,qn,qn,qn,qn,qn,qn,qn,qn,qn,qn,qn,qn,qn,qn,qn,qn,qn,qn,qn,qn,qn,qn,qn,qn] [vi 6,vi (and32 r_132 7)] [(44,m0),(44,m1)] rfl (Yh 2 0 349 [qr 0,qr 1,qr 2,qi (w32 (x3+1)),qn,qj x5,qn,qj x7,qn,qj x9,qn,qi x11,qi x12,qi x13,qi (rem32 (and32 r_132 7) 6),qn,qn,qn,qn,qn,qn,qn,qn,qn,qn,qn,qn,qn,qn,qn,qn,qn,qn,qn,qn,qn,qn,qn] [] [(44,m0),(44,m1)] rfl (Sh 2 (fun n=>(R n 8 0 [qr 0] [] 44 m0).bind fun y=>RLv sl sc n 0 353 [qr 0,qr 1,qr 2,qi (w32 (x3+1)),qn,qj x5,qn,qj x7,qn,qj x9,qn,qi x11,qi x12,qi x13,qi (rem32 (and32 r_132 7) 6),qn,qn,qn,qn,qn,qn,qn,qn,qn,qn,qn,qn,qn,qn,qn,qn,qn,qn,qn,qn,qn,qn,qn] [] [(44,m0),(44,m1)] 0 y) rfl (Sim.call (f_clearInput_ok 44 m0) (fun _ _=>rfl) (runP_mono _ _ _ _ _ _) (fun _=>runL_mono _ _ _ _ _) (fun m_133=>Yh 0 0 353 [qr 0,qr 1,qr 2,qi (w32 (x3+1)),qn,qj x5,qn,qj x7,qn,qj x9,qn,qi x11,qi x12,qi x13,qi (rem32 (and32 r_132 7) 6),qn,qn,qn,qn,qn,qn,qn,qn,qn,qn,qn,qn,qn,qn,qn,qn,qn,qn,qn,qn,qn,qn,qn] [] [(44,m_133),(44,m1)] rfl (Sh 2 (fun n=>(R n 8 0 [qr 0] [] 44 m1).bind fun y=>RLv sl sc n 0 357 [qr 0,qr 1,qr 2,qi (w32 (x3+1)),qn,qj x5,qn,qj x7,qn,qj x9,qn,qi x11,qi x12,qi x13,qi (rem32 (and32 r_132 7) 6),qn,qn,qn,qn,qn,qn,qn,qn,qn,qn,qn,qn,qn,qn,qn,qn,qn,qn,qn,qn,qn,qn,qn] [] [(44,m_133),(44,m1)] 1 y) rfl (Sim.call (f_clearInput_ok 44 m1) (fun _ _=>rfl) (runP_mono _ _ _ _ _ _) (fun _=>runL_mono _ _ _ _ _) (fun m_134=>Yh 0 0 357 [qr 0,qr 1,qr 2,qi (w32 (x3+1)),qn,qj x5,qn,qj x7,qn,qj x9,qn,qi x11,qi x12,qi x13,qi (rem32 (and32 r_132 7) 6),qn,qn,qn,qn,qn,qn,qn,qn,qn,qn,qn,qn,qn,qn,qn,qn,qn,qn,qn,qn,qn,qn,qn] [] [(44,m_133),(44,m_134)] rfl (Zb 2 (Sim.lp (σ:=Int×Int×OMem×OMem) (fun ⟨x3L,x15L,m0L,m1L⟩=>l_law_l360_ok sl sc x5 x7 x9 x11 x12 x13 (rem32 (and32 r_132 7) 6) x3L x15L m0L m1L) NN (w32 (x3+1),0,m_133,m_134)) rfl (fun ⟨x3_140,m_141,m_142⟩=>Zb 6 (Sim.lp (σ:=Int×Int×Int) (fun ⟨x15L,x16L,x17L⟩=>l_law_l408_ok sl sc m_141 m_142 x3_140 x5 x7 x9 x11 x12 x13 x15L x16L x17L) NN (0,0,0)) rfl (fun e=>match e with | (.inl (⟨x15_144,x16_145⟩))=>Sh 1 (fun n=>RL sl sc n 0 457 [qr 0,qr 1,qr 2,qi x3_140,qn,qj x5,qn,qj x7,qn,qj x9,qn,qi x11,qi x12,qi x13,qn,qi x15_144,qi x16_145,qn,qn,qn,qn,qn,qn,qn,qn,qn,qn,qn,qn,qn,qn,qn,qn,qn,qn,qn,qn,qn] [] [(44,m_141),(44,m_142)]) rfl (l_law_b457_ok sl sc x3_140 x5 x7 x9 x11 x12 x13 x15_144 x16_145 m_141 m_142) | (.inr (⟨x15_224,x16_225⟩))=>l_law_b457_ok sl sc x3_140 x5 x7 x9 x11 x12 x13 x15_224 x16_225 m_141 m_142)))))))))))))) (Sv rfl rfl)
def l_law_b679 (sl:Int) (sc:Int→Int) (m0 m1:OMem):Option (Int×OWd):=some (0,[(44,m0),(44,m1)])
theorem l_law_b679_ok (sl:Int) (sc:Int→Int) (m0 m1:OMem):Sim (l_law_b679 sl sc m0 m1) (fun (r,w) _=>some (some (vi r),w)) (fun n=>RL sl sc n 0 679 [qn,qn,qn,qn,qn,qn,qn,qn,qn,qn,qn,qn,qn,qn,qn,qn,qn,qn,qn,qn,qn,qn,qn,qn,qn,qn,qn,qn,qn,qn,qn,qn,qn,qn,qn,qn,qn,qn] [] [(44,m0),(44,m1)]) :=
 Zp 2 rfl
def l_law_b736 (sl:Int) (sc:Int→Int) (m0 m1:OMem):Option (Int×OWd):=some (0,[(44,m0),(44,m1)])
theorem l_law_b736_ok (sl:Int) (sc:Int→Int) (m0 m1:OMem):Sim (l_law_b736 sl sc m0 m1) (fun (r,w) _=>some (some (vi r),w)) (fun n=>RL sl sc n 0 736 [qn,qn,qn,qn,qn,qn,qn,qn,qn,qn,qn,qn,qn,qn,qn,qn,qn,qn,qn,qn,qn,qn,qn,qn,qn,qn,qn,qn,qn,qn,qn,qn,qn,qn,qn,qn,qn,qn] [] [(44,m0),(44,m1)]) :=
 Zp 2 rfl
def l_law_b821 (sl:Int) (sc:Int→Int) (m0 m1:OMem):Option (Int×OWd):=some (0,[(44,m0),(44,m1)])
theorem l_law_b821_ok (sl:Int) (sc:Int→Int) (m0 m1:OMem):Sim (l_law_b821 sl sc m0 m1) (fun (r,w) _=>some (some (vi r),w)) (fun n=>RL sl sc n 0 821 [qn,qn,qn,qn,qn,qn,qn,qn,qn,qn,qn,qn,qn,qn,qn,qn,qn,qn,qn,qn,qn,qn,qn,qn,qn,qn,qn,qn,qn,qn,qn,qn,qn,qn,qn,qn,qn,qn] [] [(44,m0),(44,m1)]) :=
 Zp 2 rfl
def l_law_b841 (sl:Int) (sc:Int→Int) (m0 m1:OMem):Option (Int×OWd):=some (0,[(44,m0),(44,m1)])
theorem l_law_b841_ok (sl:Int) (sc:Int→Int) (m0 m1:OMem):Sim (l_law_b841 sl sc m0 m1) (fun (r,w) _=>some (some (vi r),w)) (fun n=>RL sl sc n 0 841 [qn,qn,qn,qn,qn,qn,qn,qn,qn,qn,qn,qn,qn,qn,qn,qn,qn,qn,qn,qn,qn,qn,qn,qn,qn,qn,qn,qn,qn,qn,qn,qn,qn,qn,qn,qn,qn,qn] [] [(44,m0),(44,m1)]) :=
 Zp 2 rfl
def l_law_b869 (sl:Int) (sc:Int→Int) (m0 m1:OMem):Option (Int×OWd):=some (0,[(44,m0),(44,m1)])
theorem l_law_b869_ok (sl:Int) (sc:Int→Int) (m0 m1:OMem):Sim (l_law_b869 sl sc m0 m1) (fun (r,w) _=>some (some (vi r),w)) (fun n=>RL sl sc n 0 869 [qn,qn,qn,qn,qn,qn,qn,qn,qn,qn,qn,qn,qn,qn,qn,qn,qn,qn,qn,qn,qn,qn,qn,qn,qn,qn,qn,qn,qn,qn,qn,qn,qn,qn,qn,qn,qn,qn] [] [(44,m0),(44,m1)]) :=
 Zp 2 rfl
def l_law_b1032 (sl:Int) (sc:Int→Int) (m0 m1:OMem):Option (Int×OWd):=some (0,[(44,m0),(44,m1)])
theorem l_law_b1032_ok (sl:Int) (sc:Int→Int) (m0 m1:OMem):Sim (l_law_b1032 sl sc m0 m1) (fun (r,w) _=>some (some (vi r),w)) (fun n=>RL sl sc n 0 1032 [qn,qn,qn,qn,qn,qn,qn,qn,qn,qn,qn,qn,qn,qn,qn,qn,qn,qn,qn,qn,qn,qn,qn,qn,qn,qn,qn,qn,qn,qn,qn,qn,qn,qn,qn,qn,qn,qn] [] [(44,m0),(44,m1)]) :=
 Zp 2 rfl
def l_law_b311 (sl:Int) (sc:Int→Int) (x3 x5 x7 x9 x11:Int) (m0 m1:OMem):Option (Int×OWd):=(l_minLens sl sc x5 x7 x9 x11 m0 m1).bind fun r_131=>((lp (l_law_l327 sl sc x5 x7 x9 x11 r_131) NN (x3,0,m0,m1)).bind fun e=>match e with | (.inl (m_226,m_227))=>(some (0,[(44,m_226),(44,m_227)])) | (.inr (.inl (m_228,m_229)))=>(some (0,[(44,m_228),(44,m_229)])) | (.inr (.inr (.inl (m_230,m_231))))=>(l_law_b679 sl sc m_230 m_231) | (.inr (.inr (.inr (.inl (m_232,m_233)))))=>(l_law_b736 sl sc m_232 m_233) | (.inr (.inr (.inr (.inr (.inl (m_234,m_235))))))=>(l_law_b821 sl sc m_234 m_235) | (.inr (.inr (.inr (.inr (.inr (.inl (m_236,m_237)))))))=>(l_law_b841 sl sc m_236 m_237) | (.inr (.inr (.inr (.inr (.inr (.inr (.inl (m_238,m_239))))))))=>(l_law_b869 sl sc m_238 m_239) | (.inr (.inr (.inr (.inr (.inr (.inr (.inr (.inl (m_240,m_241)))))))))=>(some (0,[(44,m_240),(44,m_241)])) | (.inr (.inr (.inr (.inr (.inr (.inr (.inr (.inr (.inl (m_242,m_243))))))))))=>(l_law_b1032 sl sc m_242 m_243) | (.inr (.inr (.inr (.inr (.inr (.inr (.inr (.inr (.inr (.inl (m_244,m_245)))))))))))=>(l_law_b1032 sl sc m_244 m_245) | (.inr (.inr (.inr (.inr (.inr (.inr (.inr (.inr (.inr (.inr (.inl (m_246,m_247))))))))))))=>(some (0,[(44,m_246),(44,m_247)])) | (.inr (.inr (.inr (.inr (.inr (.inr (.inr (.inr (.inr (.inr (.inr (m_248,m_249))))))))))))=>(some (1,[(44,m_248),(44,m_249)])))
theorem l_law_b311_ok (sl:Int) (sc:Int→Int) (x3 x5 x7 x9 x11:Int) (m0 m1:OMem):Sim (l_law_b311 sl sc x3 x5 x7 x9 x11 m0 m1) (fun (r,w) _=>some (some (vi r),w)) (fun n=>RL sl sc n 0 311 [qr 0,qr 1,qr 2,qi x3,qn,qj x5,qn,qj x7,qn,qj x9,qn,qi x11,qn,qn,qn,qn,qn,qn,qn,qn,qn,qn,qn,qn,qn,qn,qn,qn,qn,qn,qn,qn,qn,qn,qn,qn,qn,qn] [] [(44,m0),(44,m1)]) :=
 Sh 5 (fun n=>(RL sl sc n 2 0 [qj x5,qn,qj x7,qn,qj x9,qn,qi x11,qn,qn,qn,qn,qn,qn,qn,qn,qn] [] [(44,m0),(44,m1)]).bind fun y=>RLr sl sc n 0 322 [qr 0,qr 1,qr 2,qi x3,qn,qj x5,qn,qj x7,qn,qj x9,qn,qi x11,qn,qn,qn,qn,qn,qn,qn,qn,qn,qn,qn,qn,qn,qn,qn,qn,qn,qn,qn,qn,qn,qn,qn,qn,qn,qn] [] y) rfl (Sim.call (l_minLens_ok 44 44 sl sc x5 x7 x9 x11 m0 m1) (fun _ _=>rfl) (runL_mono _ _ _ _ _) (fun _=>runL_mono _ _ _ _ _) (fun r_131=>Yh 0 0 322 [qr 0,qr 1,qr 2,qi x3,qn,qj x5,qn,qj x7,qn,qj x9,qn,qi x11,qn,qn,qn,qn,qn,qn,qn,qn,qn,qn,qn,qn,qn,qn,qn,qn,qn,qn,qn,qn,qn,qn,qn,qn,qn,qn] [vi r_131] [(44,m0),(44,m1)] rfl (Zb 3 (Sim.lp (σ:=Int×Int×OMem×OMem) (fun ⟨x3L,x13L,m0L,m1L⟩=>l_law_l327_ok sl sc x5 x7 x9 x11 r_131 x3L x13L m0L m1L) NN (x3,0,m0,m1)) rfl (fun e=>match e with | (.inl (⟨m_226,m_227⟩))=>Sh 2 (fun _=>some (some (vi 0),[(44,m_226),(44,m_227)])) rfl Sp | (.inr (.inl (⟨m_228,m_229⟩)))=>Sh 2 (fun _=>some (some (vi 0),[(44,m_228),(44,m_229)])) rfl Sp | (.inr (.inr (.inl (⟨m_230,m_231⟩))))=>l_law_b679_ok sl sc m_230 m_231 | (.inr (.inr (.inr (.inl (⟨m_232,m_233⟩)))))=>l_law_b736_ok sl sc m_232 m_233 | (.inr (.inr (.inr (.inr (.inl (⟨m_234,m_235⟩))))))=>l_law_b821_ok sl sc m_234 m_235 | (.inr (.inr (.inr (.inr (.inr (.inl (⟨m_236,m_237⟩)))))))=>l_law_b841_ok sl sc m_236 m_237 | (.inr (.inr (.inr (.inr (.inr (.inr (.inl (⟨m_238,m_239⟩))))))))=>l_law_b869_ok sl sc m_238 m_239 | (.inr (.inr (.inr (.inr (.inr (.inr (.inr (.inl (⟨m_240,m_241⟩)))))))))=>Sh 2 (fun _=>some (some (vi 0),[(44,m_240),(44,m_241)])) rfl Sp | (.inr (.inr (.inr (.inr (.inr (.inr (.inr (.inr (.inl (⟨m_242,m_243⟩))))))))))=>Sh 1 (fun n=>RL sl sc n 0 1032 [qn,qn,qn,qn,qn,qn,qn,qn,qn,qn,qn,qn,qn,qn,qn,qn,qn,qn,qn,qn,qn,qn,qn,qn,qn,qn,qn,qn,qn,qn,qn,qn,qn,qn,qn,qn,qn,qn] [] [(44,m_242),(44,m_243)]) rfl (l_law_b1032_ok sl sc m_242 m_243) | (.inr (.inr (.inr (.inr (.inr (.inr (.inr (.inr (.inr (.inl (⟨m_244,m_245⟩)))))))))))=>l_law_b1032_ok sl sc m_244 m_245 | (.inr (.inr (.inr (.inr (.inr (.inr (.inr (.inr (.inr (.inr (.inl (⟨m_246,m_247⟩))))))))))))=>Sh 2 (fun _=>some (some (vi 0),[(44,m_246),(44,m_247)])) rfl Sp | (.inr (.inr (.inr (.inr (.inr (.inr (.inr (.inr (.inr (.inr (.inr (⟨m_248,m_249⟩))))))))))))=>Sh 2 (fun _=>some (some (vi 1),[(44,m_248),(44,m_249)])) rfl Sp))))
def l_law (sl:Int) (sc:Int→Int):Option (Int×OWd):=(f_init z0).bind fun m_95=>((f_init z0).bind fun m_96=>((l_cell sl sc 0 m_95 m_96).bind fun r_97=>((lp (l_law_l39 sl sc (w32 (1+(rem32 (and32 r_97 15) 10)))) NN (1,0,m_95,m_96)).bind fun (x3_112,m_113,m_114)=>((lp (l_law_l163 sl sc m_113 m_114 x3_112) NN (0,0,0,0,0)).bind fun e=>match e with | (.inl (x5_119,x7_120,x9_121,x11_122))=>(l_law_b311 sl sc x3_112 x5_119 x7_120 x9_121 x11_122 m_113 m_114) | (.inr (x5_250,x7_251,x9_252,x11_253))=>(l_law_b311 sl sc x3_112 x5_250 x7_251 x9_252 x11_253 m_113 m_114)))))
theorem l_law_ok (sl:Int) (sc:Int→Int):Sim (l_law sl sc ) (fun (r,w) _=>some (some (vi r),w)) (fun n=>RL sl sc n 0 0 [qr 0,qn,qn,qn,qn,qn,qn,qn,qn,qn,qn,qn,qn,qn,qn,qn,qn,qn,qn,qn,qn,qn,qn,qn,qn,qn,qn,qn,qn,qn,qn,qn,qn,qn,qn,qn,qn,qn] [] []) :=
 Sh 3 (fun n=>(R n 0 0 [qr 0] [] 0 z0).bind fun y=>RLi sl sc n 0 7 [qr 0,qn,qn,qn,qn,qn,qn,qn,qn,qn,qn,qn,qn,qn,qn,qn,qn,qn,qn,qn,qn,qn,qn,qn,qn,qn,qn,qn,qn,qn,qn,qn,qn,qn,qn,qn,qn,qn] [vr 1] [(0,z0)] 0 y) rfl (Sim.call (f_init_ok z0) (fun _ _=>rfl) (runP_mono _ _ _ _ _ _) (fun _=>cond_Mono (runL_mono _ _ _ _ _)) (fun m_95=>Yh 0 0 7 [qr 0,qn,qn,qn,qn,qn,qn,qn,qn,qn,qn,qn,qn,qn,qn,qn,qn,qn,qn,qn,qn,qn,qn,qn,qn,qn,qn,qn,qn,qn,qn,qn,qn,qn,qn,qn,qn,qn] [vr 1] [(44,m_95)] rfl (Sh 4 (fun n=>(R n 0 0 [qr 0] [] 0 z0).bind fun y=>RLi sl sc n 0 15 [qr 0,qr 1,qn,qn,qn,qn,qn,qn,qn,qn,qn,qn,qn,qn,qn,qn,qn,qn,qn,qn,qn,qn,qn,qn,qn,qn,qn,qn,qn,qn,qn,qn,qn,qn,qn,qn,qn,qn] [vr 2] [(44,m_95),(0,z0)] 1 y) rfl (Sim.call (f_init_ok z0) (fun _ _=>rfl) (runP_mono _ _ _ _ _ _) (fun _=>cond_Mono (runL_mono _ _ _ _ _)) (fun m_96=>Yh 0 0 15 [qr 0,qr 1,qn,qn,qn,qn,qn,qn,qn,qn,qn,qn,qn,qn,qn,qn,qn,qn,qn,qn,qn,qn,qn,qn,qn,qn,qn,qn,qn,qn,qn,qn,qn,qn,qn,qn,qn,qn] [vr 2] [(44,m_95),(44,m_96)] rfl (Yh 6 0 21 [qr 0,qr 1,qr 2,qi 0,qn,qn,qn,qn,qn,qn,qn,qn,qn,qn,qn,qn,qn,qn,qn,qn,qn,qn,qn,qn,qn,qn,qn,qn,qn,qn,qn,qn,qn,qn,qn,qn,qn,qn] [vi 0,vr 0,vi 1] [(44,m_95),(44,m_96)] rfl (Sh 2 (fun n=>(RL sl sc n 1 0 [qr 0,qi 0] [] [(44,m_95),(44,m_96)]).bind fun y=>RLr sl sc n 0 27 [qr 0,qr 1,qr 2,qi 1,qn,qn,qn,qn,qn,qn,qn,qn,qn,qn,qn,qn,qn,qn,qn,qn,qn,qn,qn,qn,qn,qn,qn,qn,qn,qn,qn,qn,qn,qn,qn,qn,qn,qn] [vi 1] y) rfl (Sim.call (l_cell_ok 44 44 sl sc 0 m_95 m_96) (fun _ _=>rfl) (runL_mono _ _ _ _ _) (fun _=>runL_mono _ _ _ _ _) (fun r_97=>Yh 0 0 27 [qr 0,qr 1,qr 2,qi 1,qn,qn,qn,qn,qn,qn,qn,qn,qn,qn,qn,qn,qn,qn,qn,qn,qn,qn,qn,qn,qn,qn,qn,qn,qn,qn,qn,qn,qn,qn,qn,qn,qn,qn] [vi r_97,vi 1] [(44,m_95),(44,m_96)] rfl (Yh 3 0 32 [qr 0,qr 1,qr 2,qi 1,qn,qn,qn,qn,qn,qn,qn,qn,qn,qn,qn,qn,qn,qn,qn,qn,qn,qn,qn,qn,qn,qn,qn,qn,qn,qn,qn,qn,qn,qn,qn,qn,qn,qn] [vi 10,vi (and32 r_97 15),vi 1] [(44,m_95),(44,m_96)] rfl (Yh 3 0 36 [qr 0,qr 1,qr 2,qi 1,qi (w32 (1+(rem32 (and32 r_97 15) 10))),qn,qn,qn,qn,qn,qn,qn,qn,qn,qn,qn,qn,qn,qn,qn,qn,qn,qn,qn,qn,qn,qn,qn,qn,qn,qn,qn,qn,qn,qn,qn,qn,qn] [] [(44,m_95),(44,m_96)] rfl (Zb 2 (Sim.lp (σ:=Int×Int×OMem×OMem) (fun ⟨x3L,x5L,m0L,m1L⟩=>l_law_l39_ok sl sc (w32 (1+(rem32 (and32 r_97 15) 10))) x3L x5L m0L m1L) NN (1,0,m_95,m_96)) rfl (fun ⟨x3_112,m_113,m_114⟩=>Yh 4 0 154 [qr 0,qr 1,qr 2,qi x3_112,qn,qj 0,qn,qj 0,qn,qn,qn,qn,qn,qn,qn,qn,qn,qn,qn,qn,qn,qn,qn,qn,qn,qn,qn,qn,qn,qn,qn,qn,qn,qn,qn,qn,qn,qn] [] [(44,m_113),(44,m_114)] rfl (Yh 4 0 160 [qr 0,qr 1,qr 2,qi x3_112,qn,qj 0,qn,qj 0,qn,qj 0,qn,qi 0,qn,qn,qn,qn,qn,qn,qn,qn,qn,qn,qn,qn,qn,qn,qn,qn,qn,qn,qn,qn,qn,qn,qn,qn,qn,qn] [] [(44,m_113),(44,m_114)] rfl (Zb 2 (Sim.lp (σ:=Int×Int×Int×Int×Int) (fun ⟨x5L,x7L,x9L,x11L,x12L⟩=>l_law_l163_ok sl sc m_113 m_114 x3_112 x5L x7L x9L x11L x12L) NN (0,0,0,0,0)) rfl (fun e=>match e with | (.inl (⟨x5_119,x7_120,x9_121,x11_122⟩))=>Sh 1 (fun n=>RL sl sc n 0 311 [qr 0,qr 1,qr 2,qi x3_112,qn,qj x5_119,qn,qj x7_120,qn,qj x9_121,qn,qi x11_122,qn,qn,qn,qn,qn,qn,qn,qn,qn,qn,qn,qn,qn,qn,qn,qn,qn,qn,qn,qn,qn,qn,qn,qn,qn,qn] [] [(44,m_113),(44,m_114)]) rfl (l_law_b311_ok sl sc x3_112 x5_119 x7_120 x9_121 x11_122 m_113 m_114) | (.inr (⟨x5_250,x7_251,x9_252,x11_253⟩))=>l_law_b311_ok sl sc x3_112 x5_250 x7_251 x9_252 x11_253 m_113 m_114))))))))))))))))
abbrev zb {α:Type} (x k:Nat) (a b:α):α:=cond (Nat.blt x k) a b
theorem mg {a0:Array Value} {Z:State} {d:Cond} (hw:∀ d∈tables_1,d.before a0 Z=true) (i:Nat) (h:tables_1[i]?=some d):d.before a0 Z=true:=hw _ (List.mem_of_getElem? h)
abbrev mN (a b:String):MethodName:=⟨"GllForestParser",a,b⟩
def nmT:Nat→MethodName:=fun q=>zb q 21 (zb q 10 (zb q 5 (zb q 2 (zb q 1 (mN "<init>" "()V") (mN "beginRule" "(I)I")) (zb q 3 (mN "invalidate" "()V") (zb q 4 (mN "addSymbol" "(I)I") (mN "ruleLhs" "(I)I")))) (zb q 7 (zb q 6 (mN "ruleExists" "(I)Z") (mN "ruleLength" "(I)I")) (zb q 8 (mN "ruleSymbol" "(II)I") (zb q 9 (mN "clearInput" "()V") (mN "addToken" "(I)I"))))) (zb q 15 (zb q 12 (zb q 11 (mN "inputToken" "(I)I") (mN "parse" "()I")) (zb q 13 (mN "computeNullable" "()V") (zb q 14 (mN "othersNullable" "(II)Z") (mN "computeReach" "()V")))) (zb q 18 (zb q 16 (mN "addEdges" "(I)V") (zb q 17 (mN "isCyclic" "()Z") (mN "computeTables" "()V"))) (zb q 19 (mN "computeSpan" "(II)V") (zb q 20 (mN "setCnt" "(IIII)V") (mN "spanOk" "(II)Z")))))) (zb q 32 (zb q 26 (zb q 23 (zb q 22 (mN "computeRuleAt" "(III)V") (mN "symAt" "(II)I")) (zb q 24 (mN "wAt" "(IIII)I") (zb q 25 (mN "symCount" "(III)I") (mN "cntAt" "(III)I")))) (zb q 29 (zb q 27 (mN "satMul" "(II)I") (zb q 28 (mN "satAdd" "(II)I") (mN "setW" "(IIIII)V"))) (zb q 30 (mN "sumRules" "(III)I") (zb q 31 (mN "count" "()I") (mN "selectTree" "(I)I"))))) (zb q 37 (zb q 34 (zb q 33 (mN "buildTree" "(I)I") (mN "push" "(IIII)Z")) (zb q 35 (mN "chooseRule" "(IIII)I") (zb q 36 (mN "splitChildren" "(IIII)Z") (mN "pushChildren" "(II)Z")))) (zb q 40 (zb q 38 (mN "treeSize" "()I") (zb q 39 (mN "treeRule" "(I)I") (mN "nodeExists" "(I)Z"))) (zb q 41 (mN "treeStart" "(I)I") (zb q 42 (mN "treeEnd" "(I)I") (mN "pickChild" "(IIIIII)Z"))))))
def byT:Nat→ByteArray:=fun q=>zb q 21 (zb q 10 (zb q 5 (zb q 2 (zb q 1 (prog_1_method_1_code) (prog_1_method_4_code)) (zb q 3 (prog_1_method_18_code) (zb q 4 (prog_1_method_5_code) (prog_1_method_7_code)))) (zb q 7 (zb q 6 (prog_1_method_19_code) (prog_1_method_8_code)) (zb q 8 (prog_1_method_9_code) (zb q 9 (prog_1_method_3_code) (prog_1_method_6_code))))) (zb q 15 (zb q 12 (zb q 11 (prog_1_method_10_code) (prog_1_method_11_code)) (zb q 13 (prog_1_method_31_code) (zb q 14 (prog_1_method_30_code) (prog_1_method_33_code)))) (zb q 18 (zb q 16 (prog_1_method_32_code) (zb q 17 (prog_1_method_34_code) (prog_1_method_35_code))) (zb q 19 (prog_1_method_36_code) (zb q 20 (prog_1_method_25_code) (prog_1_method_23_code)))))) (zb q 32 (zb q 26 (zb q 23 (zb q 22 (prog_1_method_37_code) (prog_1_method_28_code)) (zb q 24 (prog_1_method_26_code) (zb q 25 (prog_1_method_29_code) (prog_1_method_24_code)))) (zb q 29 (zb q 27 (prog_1_method_22_code) (zb q 28 (prog_1_method_21_code) (prog_1_method_27_code))) (zb q 30 (prog_1_method_38_code) (zb q 31 (prog_1_method_12_code) (prog_1_method_13_code))))) (zb q 37 (zb q 34 (zb q 33 (prog_1_method_40_code) (prog_1_method_39_code)) (zb q 35 (prog_1_method_41_code) (zb q 36 (prog_1_method_42_code) (prog_1_method_44_code)))) (zb q 40 (zb q 38 (prog_1_method_14_code) (zb q 39 (prog_1_method_15_code) (prog_1_method_20_code))) (zb q 41 (prog_1_method_16_code) (zb q 42 (prog_1_method_17_code) (prog_1_method_43_code))))))
def fnmN:Nat→String×String:=fun n=>cond (Nat.blt n 14) (cond (Nat.blt n 7) (cond (Nat.blt n 3) (cond (Nat.blt n 1) (cond (Nat.beq n 0) (("rLhs","[I")) ("","")) (cond (Nat.blt n 2) (cond (Nat.beq n 1) (("rLen","[I")) ("","")) (cond (Nat.beq n 2) (("rSym","[I")) ("","")))) (cond (Nat.blt n 5) (cond (Nat.blt n 4) (cond (Nat.beq n 3) (("tok","[I")) ("","")) (cond (Nat.beq n 4) (("cnt","[I")) ("",""))) (cond (Nat.blt n 6) (cond (Nat.beq n 5) (("wt","[I")) ("","")) (cond (Nat.beq n 6) (("nullable","[Z")) ("",""))))) (cond (Nat.blt n 10) (cond (Nat.blt n 8) (cond (Nat.beq n 7) (("reach","[Z")) ("","")) (cond (Nat.blt n 9) (cond (Nat.beq n 8) (("tRule","[I")) ("","")) (cond (Nat.beq n 9) (("tStart","[I")) ("","")))) (cond (Nat.blt n 12) (cond (Nat.blt n 11) (cond (Nat.beq n 10) (("tEnd","[I")) ("","")) (cond (Nat.beq n 11) (("bRule","[I")) ("",""))) (cond (Nat.blt n 13) (cond (Nat.beq n 12) (("bStart","[I")) ("","")) (cond (Nat.beq n 13) (("bEnd","[I")) ("","")))))) (cond (Nat.blt n 21) (cond (Nat.blt n 17) (cond (Nat.blt n 15) (cond (Nat.beq n 14) (("sA","[I")) ("","")) (cond (Nat.blt n 16) (cond (Nat.beq n 15) (("sI","[I")) ("","")) (cond (Nat.beq n 16) (("sJ","[I")) ("","")))) (cond (Nat.blt n 19) (cond (Nat.blt n 18) (cond (Nat.beq n 17) (("sK","[I")) ("","")) (cond (Nat.beq n 18) (("cSym","[I")) ("",""))) (cond (Nat.blt n 20) (cond (Nat.beq n 19) (("cS","[I")) ("","")) (cond (Nat.beq n 20) (("cE","[I")) ("",""))))) (cond (Nat.blt n 25) (cond (Nat.blt n 23) (cond (Nat.blt n 22) (cond (Nat.beq n 21) (("cK","[I")) ("","")) (cond (Nat.beq n 22) (("ruleCount","I")) ("",""))) (cond (Nat.blt n 24) (cond (Nat.beq n 23) (("n","I")) ("","")) (cond (Nat.beq n 24) (("parsed","Z")) ("","")))) (cond (Nat.blt n 27) (cond (Nat.blt n 26) (cond (Nat.beq n 25) (("stored","I")) ("","")) (cond (Nat.beq n 26) (("tSize","I")) ("",""))) (cond (Nat.blt n 28) (cond (Nat.beq n 27) (("sp","I")) ("","")) (cond (Nat.beq n 28) (("selK","I")) ("",""))))))
def fkdN:Nat→Option (Nat×Nat×Bool):=fun n=>cond (Nat.blt n 29) (cond (Nat.blt n 14) (cond (Nat.blt n 7) (cond (Nat.blt n 3) (cond (Nat.blt n 1) (cond (Nat.beq n 0) (some (0,1,false)) none) (cond (Nat.blt n 2) (cond (Nat.beq n 1) (some (0,2,false)) none) (cond (Nat.beq n 2) (some (0,3,false)) none))) (cond (Nat.blt n 5) (cond (Nat.blt n 4) (cond (Nat.beq n 3) (some (0,4,false)) none) (cond (Nat.beq n 4) (some (0,5,false)) none)) (cond (Nat.blt n 6) (cond (Nat.beq n 5) (some (0,6,false)) none) (cond (Nat.beq n 6) (some (0,7,false)) none)))) (cond (Nat.blt n 10) (cond (Nat.blt n 8) (cond (Nat.beq n 7) (some (0,8,false)) none) (cond (Nat.blt n 9) (cond (Nat.beq n 8) (some (0,9,false)) none) (cond (Nat.beq n 9) (some (0,10,false)) none))) (cond (Nat.blt n 12) (cond (Nat.blt n 11) (cond (Nat.beq n 10) (some (0,11,false)) none) (cond (Nat.beq n 11) (some (0,12,false)) none)) (cond (Nat.blt n 13) (cond (Nat.beq n 12) (some (0,13,false)) none) (cond (Nat.beq n 13) (some (0,14,false)) none))))) (cond (Nat.blt n 21) (cond (Nat.blt n 17) (cond (Nat.blt n 15) (cond (Nat.beq n 14) (some (0,15,false)) none) (cond (Nat.blt n 16) (cond (Nat.beq n 15) (some (0,16,false)) none) (cond (Nat.beq n 16) (some (0,17,false)) none))) (cond (Nat.blt n 19) (cond (Nat.blt n 18) (cond (Nat.beq n 17) (some (0,18,false)) none) (cond (Nat.beq n 18) (some (0,19,false)) none)) (cond (Nat.blt n 20) (cond (Nat.beq n 19) (some (0,20,false)) none) (cond (Nat.beq n 20) (some (0,21,false)) none)))) (cond (Nat.blt n 25) (cond (Nat.blt n 23) (cond (Nat.blt n 22) (cond (Nat.beq n 21) (some (0,22,false)) none) (cond (Nat.beq n 22) (some (1,0,false)) none)) (cond (Nat.blt n 24) (cond (Nat.beq n 23) (some (1,0,false)) none) (cond (Nat.beq n 24) (some (2,0,false)) none))) (cond (Nat.blt n 27) (cond (Nat.blt n 26) (cond (Nat.beq n 25) (some (1,0,false)) none) (cond (Nat.beq n 26) (some (1,0,false)) none)) (cond (Nat.blt n 28) (cond (Nat.beq n 27) (some (1,0,false)) none) (cond (Nat.beq n 28) (some (1,0,false)) none)))))) none
def fnmT:FN:=fnmOf fnmN
def fkdT:FK:=fkdOf fkdN
theorem cdk_0:∀ pc i len,cd_0 pc=some (i,len)→decode prog_1_method_1_code pc=.ok (i,len)∧chk pc i len=true:=code_all 213 (fun _ h=>cond_ge h) (by decide +kernel)
theorem cdk_1:∀ pc i len,cd_1 pc=some (i,len)→decode prog_1_method_4_code pc=.ok (i,len)∧chk pc i len=true:=code_all 64 (fun _ h=>cond_ge h) (by decide +kernel)
theorem cdk_2:∀ pc i len,cd_2 pc=some (i,len)→decode prog_1_method_18_code pc=.ok (i,len)∧chk pc i len=true:=code_all 11 (fun _ h=>cond_ge h) (by decide +kernel)
theorem cdk_3:∀ pc i len,cd_3 pc=some (i,len)→decode prog_1_method_5_code pc=.ok (i,len)∧chk pc i len=true:=code_all 76 (fun _ h=>cond_ge h) (by decide +kernel)
theorem cdk_4:∀ pc i len,cd_4 pc=some (i,len)→decode prog_1_method_7_code pc=.ok (i,len)∧chk pc i len=true:=code_all 17 (fun _ h=>cond_ge h) (by decide +kernel)
theorem cdk_5:∀ pc i len,cd_5 pc=some (i,len)→decode prog_1_method_19_code pc=.ok (i,len)∧chk pc i len=true:=code_all 24 (fun _ h=>cond_ge h) (by decide +kernel)
theorem cdk_6:∀ pc i len,cd_6 pc=some (i,len)→decode prog_1_method_8_code pc=.ok (i,len)∧chk pc i len=true:=code_all 17 (fun _ h=>cond_ge h) (by decide +kernel)
theorem cdk_7:∀ pc i len,cd_7 pc=some (i,len)→decode prog_1_method_9_code pc=.ok (i,len)∧chk pc i len=true:=code_all 42 (fun _ h=>cond_ge h) (by decide +kernel)
theorem cdk_8:∀ pc i len,cd_8 pc=some (i,len)→decode prog_1_method_3_code pc=.ok (i,len)∧chk pc i len=true:=code_all 10 (fun _ h=>cond_ge h) (by decide +kernel)
theorem cdk_9:∀ pc i len,cd_9 pc=some (i,len)→decode prog_1_method_6_code pc=.ok (i,len)∧chk pc i len=true:=code_all 59 (fun _ h=>cond_ge h) (by decide +kernel)
theorem cdk_10:∀ pc i len,cd_10 pc=some (i,len)→decode prog_1_method_10_code pc=.ok (i,len)∧chk pc i len=true:=code_all 27 (fun _ h=>cond_ge h) (by decide +kernel)
theorem cdk_11:∀ pc i len,cd_11 pc=some (i,len)→decode prog_1_method_11_code pc=.ok (i,len)∧chk pc i len=true:=code_all 57 (fun _ h=>cond_ge h) (by decide +kernel)
theorem cdk_12:∀ pc i len,cd_12 pc=some (i,len)→decode prog_1_method_31_code pc=.ok (i,len)∧chk pc i len=true:=code_all 113 (fun _ h=>cond_ge h) (by decide +kernel)
theorem cdk_13:∀ pc i len,cd_13 pc=some (i,len)→decode prog_1_method_30_code pc=.ok (i,len)∧chk pc i len=true:=code_all 85 (fun _ h=>cond_ge h) (by decide +kernel)
theorem cdk_14:∀ pc i len,cd_14 pc=some (i,len)→decode prog_1_method_33_code pc=.ok (i,len)∧chk pc i len=true:=code_all 119 (fun _ h=>cond_ge h) (by decide +kernel)
theorem cdk_15:∀ pc i len,cd_15 pc=some (i,len)→decode prog_1_method_32_code pc=.ok (i,len)∧chk pc i len=true:=code_all 100 (fun _ h=>cond_ge h) (by decide +kernel)
theorem cdk_16:∀ pc i len,cd_16 pc=some (i,len)→decode prog_1_method_34_code pc=.ok (i,len)∧chk pc i len=true:=code_all 28 (fun _ h=>cond_ge h) (by decide +kernel)
theorem cdk_17:∀ pc i len,cd_17 pc=some (i,len)→decode prog_1_method_35_code pc=.ok (i,len)∧chk pc i len=true:=code_all 55 (fun _ h=>cond_ge h) (by decide +kernel)
theorem cdk_18:∀ pc i len,cd_18 pc=some (i,len)→decode prog_1_method_36_code pc=.ok (i,len)∧chk pc i len=true:=code_all 103 (fun _ h=>cond_ge h) (by decide +kernel)
theorem cdk_19:∀ pc i len,cd_19 pc=some (i,len)→decode prog_1_method_25_code pc=.ok (i,len)∧chk pc i len=true:=code_all 38 (fun _ h=>cond_ge h) (by decide +kernel)
theorem cdk_20:∀ pc i len,cd_20 pc=some (i,len)→decode prog_1_method_23_code pc=.ok (i,len)∧chk pc i len=true:=code_all 26 (fun _ h=>cond_ge h) (by decide +kernel)
theorem cdk_21:∀ pc i len,cd_21 pc=some (i,len)→decode prog_1_method_37_code pc=.ok (i,len)∧chk pc i len=true:=code_all 131 (fun _ h=>cond_ge h) (by decide +kernel)
theorem cdk_22:∀ pc i len,cd_22 pc=some (i,len)→decode prog_1_method_28_code pc=.ok (i,len)∧chk pc i len=true:=code_all 32 (fun _ h=>cond_ge h) (by decide +kernel)
theorem cdk_23:∀ pc i len,cd_23 pc=some (i,len)→decode prog_1_method_26_code pc=.ok (i,len)∧chk pc i len=true:=code_all 69 (fun _ h=>cond_ge h) (by decide +kernel)
theorem cdk_24:∀ pc i len,cd_24 pc=some (i,len)→decode prog_1_method_29_code pc=.ok (i,len)∧chk pc i len=true:=code_all 71 (fun _ h=>cond_ge h) (by decide +kernel)
theorem cdk_25:∀ pc i len,cd_25 pc=some (i,len)→decode prog_1_method_24_code pc=.ok (i,len)∧chk pc i len=true:=code_all 37 (fun _ h=>cond_ge h) (by decide +kernel)
theorem cdk_26:∀ pc i len,cd_26 pc=some (i,len)→decode prog_1_method_22_code pc=.ok (i,len)∧chk pc i len=true:=code_all 30 (fun _ h=>cond_ge h) (by decide +kernel)
theorem cdk_27:∀ pc i len,cd_27 pc=some (i,len)→decode prog_1_method_21_code pc=.ok (i,len)∧chk pc i len=true:=code_all 28 (fun _ h=>cond_ge h) (by decide +kernel)
theorem cdk_28:∀ pc i len,cd_28 pc=some (i,len)→decode prog_1_method_27_code pc=.ok (i,len)∧chk pc i len=true:=code_all 55 (fun _ h=>cond_ge h) (by decide +kernel)
theorem cdk_29:∀ pc i len,cd_29 pc=some (i,len)→decode prog_1_method_38_code pc=.ok (i,len)∧chk pc i len=true:=code_all 69 (fun _ h=>cond_ge h) (by decide +kernel)
theorem cdk_30:∀ pc i len,cd_30 pc=some (i,len)→decode prog_1_method_12_code pc=.ok (i,len)∧chk pc i len=true:=code_all 15 (fun _ h=>cond_ge h) (by decide +kernel)
theorem cdk_31:∀ pc i len,cd_31 pc=some (i,len)→decode prog_1_method_13_code pc=.ok (i,len)∧chk pc i len=true:=code_all 120 (fun _ h=>cond_ge h) (by decide +kernel)
theorem cdk_32:∀ pc i len,cd_32 pc=some (i,len)→decode prog_1_method_40_code pc=.ok (i,len)∧chk pc i len=true:=code_all 184 (fun _ h=>cond_ge h) (by decide +kernel)
theorem cdk_33:∀ pc i len,cd_33 pc=some (i,len)→decode prog_1_method_39_code pc=.ok (i,len)∧chk pc i len=true:=code_all 71 (fun _ h=>cond_ge h) (by decide +kernel)
theorem cdk_34:∀ pc i len,cd_34 pc=some (i,len)→decode prog_1_method_41_code pc=.ok (i,len)∧chk pc i len=true:=code_all 85 (fun _ h=>cond_ge h) (by decide +kernel)
theorem cdk_35:∀ pc i len,cd_35 pc=some (i,len)→decode prog_1_method_42_code pc=.ok (i,len)∧chk pc i len=true:=code_all 88 (fun _ h=>cond_ge h) (by decide +kernel)
theorem cdk_36:∀ pc i len,cd_36 pc=some (i,len)→decode prog_1_method_44_code pc=.ok (i,len)∧chk pc i len=true:=code_all 144 (fun _ h=>cond_ge h) (by decide +kernel)
theorem cdk_37:∀ pc i len,cd_37 pc=some (i,len)→decode prog_1_method_14_code pc=.ok (i,len)∧chk pc i len=true:=code_all 5 (fun _ h=>cond_ge h) (by decide +kernel)
theorem cdk_38:∀ pc i len,cd_38 pc=some (i,len)→decode prog_1_method_15_code pc=.ok (i,len)∧chk pc i len=true:=code_all 17 (fun _ h=>cond_ge h) (by decide +kernel)
theorem cdk_39:∀ pc i len,cd_39 pc=some (i,len)→decode prog_1_method_20_code pc=.ok (i,len)∧chk pc i len=true:=code_all 24 (fun _ h=>cond_ge h) (by decide +kernel)
theorem cdk_40:∀ pc i len,cd_40 pc=some (i,len)→decode prog_1_method_16_code pc=.ok (i,len)∧chk pc i len=true:=code_all 17 (fun _ h=>cond_ge h) (by decide +kernel)
theorem cdk_41:∀ pc i len,cd_41 pc=some (i,len)→decode prog_1_method_17_code pc=.ok (i,len)∧chk pc i len=true:=code_all 17 (fun _ h=>cond_ge h) (by decide +kernel)
theorem cdk_42:∀ pc i len,cd_42 pc=some (i,len)→decode prog_1_method_43_code pc=.ok (i,len)∧chk pc i len=true:=code_all 139 (fun _ h=>cond_ge h) (by decide +kernel)
theorem t_code:∀ q pc i len,pcode PP q pc=some (i,len)→decode (byT q) pc=.ok (i,len)∧chk pc i len=true:=by
 intro q
 by_cases hq:q<43
 ·exact allN (Q:=fun q=>∀ pc i len,pcode PP q pc=some (i,len)→decode (byT q) pc=.ok (i,len)∧chk pc i len=true) (N:=43) (⟨⟨⟨⟨⟨⟨⟨⟨⟨⟨⟨⟨⟨⟨⟨⟨⟨⟨⟨⟨⟨⟨⟨⟨⟨⟨⟨⟨⟨⟨⟨⟨⟨⟨⟨⟨⟨⟨⟨⟨⟨⟨⟨trivial,cdk_0⟩,cdk_1⟩,cdk_2⟩,cdk_3⟩,cdk_4⟩,cdk_5⟩,cdk_6⟩,cdk_7⟩,cdk_8⟩,cdk_9⟩,cdk_10⟩,cdk_11⟩,cdk_12⟩,cdk_13⟩,cdk_14⟩,cdk_15⟩,cdk_16⟩,cdk_17⟩,cdk_18⟩,cdk_19⟩,cdk_20⟩,cdk_21⟩,cdk_22⟩,cdk_23⟩,cdk_24⟩,cdk_25⟩,cdk_26⟩,cdk_27⟩,cdk_28⟩,cdk_29⟩,cdk_30⟩,cdk_31⟩,cdk_32⟩,cdk_33⟩,cdk_34⟩,cdk_35⟩,cdk_36⟩,cdk_37⟩,cdk_38⟩,cdk_39⟩,cdk_40⟩,cdk_41⟩,cdk_42⟩) q hq
 ·intro pc i len h
  have h0:PPcode q pc=none:=cond_ge (by omega)
  have h1:PPcode q pc=some (i,len):=h
  rw [h0] at h1; cases h1
theorem t_fld0 {a0:Array Value} {Z:State} (hw:∀ d∈tables_1,d.before a0 Z=true):∀ x e,PPfld x=some e→(Jvm.Cond.fieldLink "GllForestParser" x "GllForestParser" (fnmT e.1).1 (fnmT e.1).2).before a0 Z=true∧fkdT e.1=some (e.2.1,e.2.2.1,e.2.2.2) :=
 tab_all (f:=PPfld) 98 [(7,(0,0,1,false)),(13,(1,0,2,false)),(16,(2,0,3,false)),(19,(3,0,4,false)),(22,(4,0,5,false)),(25,(5,0,6,false)),(28,(6,0,7,false)),(32,(7,0,8,false)),(35,(8,0,9,false)),(38,(9,0,10,false)),(41,(10,0,11,false)),(44,(11,0,12,false)),(47,(12,0,13,false)),(50,(13,0,14,false)),(53,(14,0,15,false)),(56,(15,0,16,false)),(59,(16,0,17,false)),(62,(17,0,18,false)),(65,(18,0,19,false)),(68,(19,0,20,false)),(71,(20,0,21,false)),(74,(21,0,22,false)),(77,(22,1,0,false)),(81,(23,1,0,false)),(84,(24,2,0,false)),(88,(25,1,0,false)),(91,(26,1,0,false)),(94,(27,1,0,false)),(97,(28,1,0,false))] (fun _ h=>cond_ge h) (by decide +kernel) (Q:=fun x e=>(Jvm.Cond.fieldLink "GllForestParser" x "GllForestParser" (fnmT e.1).1 (fnmT e.1).2).before a0 Z=true∧fkdT e.1=some (e.2.1,e.2.2.1,e.2.2.2)) ⟨⟨mg hw 10 rfl,rfl⟩,⟨mg hw 12 rfl,rfl⟩,⟨mg hw 14 rfl,rfl⟩,⟨mg hw 16 rfl,rfl⟩,⟨mg hw 18 rfl,rfl⟩,⟨mg hw 20 rfl,rfl⟩,⟨mg hw 23 rfl,rfl⟩,⟨mg hw 25 rfl,rfl⟩,⟨mg hw 27 rfl,rfl⟩,⟨mg hw 29 rfl,rfl⟩,⟨mg hw 31 rfl,rfl⟩,⟨mg hw 33 rfl,rfl⟩,⟨mg hw 35 rfl,rfl⟩,⟨mg hw 37 rfl,rfl⟩,⟨mg hw 39 rfl,rfl⟩,⟨mg hw 41 rfl,rfl⟩,⟨mg hw 43 rfl,rfl⟩,⟨mg hw 45 rfl,rfl⟩,⟨mg hw 47 rfl,rfl⟩,⟨mg hw 49 rfl,rfl⟩,⟨mg hw 51 rfl,rfl⟩,⟨mg hw 53 rfl,rfl⟩,⟨mg hw 55 rfl,rfl⟩,⟨mg hw 57 rfl,rfl⟩,⟨mg hw 59 rfl,rfl⟩,⟨mg hw 61 rfl,rfl⟩,⟨mg hw 63 rfl,rfl⟩,⟨mg hw 65 rfl,rfl⟩,⟨mg hw 67 rfl,rfl⟩,trivial⟩
theorem t_fld {a0:Array Value} {Z:State} (hw:∀ d∈tables_1,d.before a0 Z=true):∀ x f kd j fin,pfld PP x=some (f,kd,j,fin)→(Jvm.Cond.fieldLink "GllForestParser" x "GllForestParser" (fnmT f).1 (fnmT f).2).before a0 Z=true∧fkdT f=some (kd,j,fin):=fun x f kd j fin h =>
 t_fld0 hw x (f,kd,j,fin) h
theorem t_fkd {a0:Array Value} {Z:State} (hw:∀ d∈tables_1,d.before a0 Z=true):∀ f kd j fin,fkdT f=some (kd,j,fin)→((fin=false∧(Jvm.Cond.lays "GllForestParser" "GllForestParser" (fnmT f).1 (fnmT f).2).before a0 Z=true)∨(fin=true∧(Jvm.Cond.laysFinal "GllForestParser" "GllForestParser" (fnmT f).1 (fnmT f).2).before a0 Z=true))∧parseFieldDescriptor (fnmT f).2=some (fty PP kd j)∧(kd=0→1≤j)∧kd≤4 :=
 fkd_all (f:=fkdN) (tab_all 29 [(0,(0,1,false)),(1,(0,2,false)),(2,(0,3,false)),(3,(0,4,false)),(4,(0,5,false)),(5,(0,6,false)),(6,(0,7,false)),(7,(0,8,false)),(8,(0,9,false)),(9,(0,10,false)),(10,(0,11,false)),(11,(0,12,false)),(12,(0,13,false)),(13,(0,14,false)),(14,(0,15,false)),(15,(0,16,false)),(16,(0,17,false)),(17,(0,18,false)),(18,(0,19,false)),(19,(0,20,false)),(20,(0,21,false)),(21,(0,22,false)),(22,(1,0,false)),(23,(1,0,false)),(24,(2,0,false)),(25,(1,0,false)),(26,(1,0,false)),(27,(1,0,false)),(28,(1,0,false))] (fun _ h=>cond_ge h) (by decide +kernel) ⟨⟨Or.inl ⟨rfl,mg hw 11 rfl⟩,by decide +kernel,by decide,by decide⟩,⟨Or.inl ⟨rfl,mg hw 13 rfl⟩,by decide +kernel,by decide,by decide⟩,⟨Or.inl ⟨rfl,mg hw 15 rfl⟩,by decide +kernel,by decide,by decide⟩,⟨Or.inl ⟨rfl,mg hw 17 rfl⟩,by decide +kernel,by decide,by decide⟩,⟨Or.inl ⟨rfl,mg hw 19 rfl⟩,by decide +kernel,by decide,by decide⟩,⟨Or.inl ⟨rfl,mg hw 21 rfl⟩,by decide +kernel,by decide,by decide⟩,⟨Or.inl ⟨rfl,mg hw 24 rfl⟩,by decide +kernel,by decide,by decide⟩,⟨Or.inl ⟨rfl,mg hw 26 rfl⟩,by decide +kernel,by decide,by decide⟩,⟨Or.inl ⟨rfl,mg hw 28 rfl⟩,by decide +kernel,by decide,by decide⟩,⟨Or.inl ⟨rfl,mg hw 30 rfl⟩,by decide +kernel,by decide,by decide⟩,⟨Or.inl ⟨rfl,mg hw 32 rfl⟩,by decide +kernel,by decide,by decide⟩,⟨Or.inl ⟨rfl,mg hw 34 rfl⟩,by decide +kernel,by decide,by decide⟩,⟨Or.inl ⟨rfl,mg hw 36 rfl⟩,by decide +kernel,by decide,by decide⟩,⟨Or.inl ⟨rfl,mg hw 38 rfl⟩,by decide +kernel,by decide,by decide⟩,⟨Or.inl ⟨rfl,mg hw 40 rfl⟩,by decide +kernel,by decide,by decide⟩,⟨Or.inl ⟨rfl,mg hw 42 rfl⟩,by decide +kernel,by decide,by decide⟩,⟨Or.inl ⟨rfl,mg hw 44 rfl⟩,by decide +kernel,by decide,by decide⟩,⟨Or.inl ⟨rfl,mg hw 46 rfl⟩,by decide +kernel,by decide,by decide⟩,⟨Or.inl ⟨rfl,mg hw 48 rfl⟩,by decide +kernel,by decide,by decide⟩,⟨Or.inl ⟨rfl,mg hw 50 rfl⟩,by decide +kernel,by decide,by decide⟩,⟨Or.inl ⟨rfl,mg hw 52 rfl⟩,by decide +kernel,by decide,by decide⟩,⟨Or.inl ⟨rfl,mg hw 54 rfl⟩,by decide +kernel,by decide,by decide⟩,⟨Or.inl ⟨rfl,mg hw 56 rfl⟩,by decide +kernel,by decide,by decide⟩,⟨Or.inl ⟨rfl,mg hw 58 rfl⟩,by decide +kernel,by decide,by decide⟩,⟨Or.inl ⟨rfl,mg hw 60 rfl⟩,by decide +kernel,by decide,by decide⟩,⟨Or.inl ⟨rfl,mg hw 62 rfl⟩,by decide +kernel,by decide,by decide⟩,⟨Or.inl ⟨rfl,mg hw 64 rfl⟩,by decide +kernel,by decide,by decide⟩,⟨Or.inl ⟨rfl,mg hw 66 rfl⟩,by decide +kernel,by decide,by decide⟩,⟨Or.inl ⟨rfl,mg hw 68 rfl⟩,by decide +kernel,by decide,by decide⟩,trivial⟩)
theorem t_lay0 {a0:Array Value} {Z:State} (hw:∀ d∈tables_1,d.before a0 Z=true):∀ j e,PPlay j=some e→1≤j∧j≤22∧0≤e.2∧e.2≤60000000∧(e.1=1∨e.1=2∨e.1=3∨e.1=4)∧(Jvm.Cond.arrayClass (kty e.1)).before a0 Z=true :=
 tab_all (f:=PPlay) 23 [(1,(1,10)),(2,(1,10)),(3,(1,30)),(4,(1,8)),(5,(1,324)),(6,(1,3240)),(7,(2,4)),(8,(2,16)),(9,(1,64)),(10,(1,64)),(11,(1,64)),(12,(1,64)),(13,(1,64)),(14,(1,64)),(15,(1,64)),(16,(1,64)),(17,(1,64)),(18,(1,64)),(19,(1,3)),(20,(1,3)),(21,(1,3)),(22,(1,3))] (fun _ h=>cond_ge h) (by decide +kernel) (Q:=fun j e=>1≤j∧j≤22∧0≤e.2∧e.2≤60000000∧(e.1=1∨e.1=2∨e.1=3∨e.1=4)∧(Jvm.Cond.arrayClass (kty e.1)).before a0 Z=true) ⟨⟨by decide,by decide,by decide,by decide,by decide,mg hw 9 rfl⟩,⟨by decide,by decide,by decide,by decide,by decide,mg hw 9 rfl⟩,⟨by decide,by decide,by decide,by decide,by decide,mg hw 9 rfl⟩,⟨by decide,by decide,by decide,by decide,by decide,mg hw 9 rfl⟩,⟨by decide,by decide,by decide,by decide,by decide,mg hw 9 rfl⟩,⟨by decide,by decide,by decide,by decide,by decide,mg hw 9 rfl⟩,⟨by decide,by decide,by decide,by decide,by decide,mg hw 22 rfl⟩,⟨by decide,by decide,by decide,by decide,by decide,mg hw 22 rfl⟩,⟨by decide,by decide,by decide,by decide,by decide,mg hw 9 rfl⟩,⟨by decide,by decide,by decide,by decide,by decide,mg hw 9 rfl⟩,⟨by decide,by decide,by decide,by decide,by decide,mg hw 9 rfl⟩,⟨by decide,by decide,by decide,by decide,by decide,mg hw 9 rfl⟩,⟨by decide,by decide,by decide,by decide,by decide,mg hw 9 rfl⟩,⟨by decide,by decide,by decide,by decide,by decide,mg hw 9 rfl⟩,⟨by decide,by decide,by decide,by decide,by decide,mg hw 9 rfl⟩,⟨by decide,by decide,by decide,by decide,by decide,mg hw 9 rfl⟩,⟨by decide,by decide,by decide,by decide,by decide,mg hw 9 rfl⟩,⟨by decide,by decide,by decide,by decide,by decide,mg hw 9 rfl⟩,⟨by decide,by decide,by decide,by decide,by decide,mg hw 9 rfl⟩,⟨by decide,by decide,by decide,by decide,by decide,mg hw 9 rfl⟩,⟨by decide,by decide,by decide,by decide,by decide,mg hw 9 rfl⟩,⟨by decide,by decide,by decide,by decide,by decide,mg hw 9 rfl⟩,trivial⟩
theorem t_lay {a0:Array Value} {Z:State} (hw:∀ d∈tables_1,d.before a0 Z=true):∀ j kd n,play PP j=some (kd,n)→1≤j∧j≤22∧0≤n∧n≤60000000∧(kd=1∨kd=2∨kd=3∨kd=4)∧(Jvm.Cond.arrayClass (kty kd)).before a0 Z=true:=fun j kd n h =>
 t_lay0 hw j (kd,n) h
theorem t_cst0 {a0:Array Value} {Z:State} (hw:∀ d∈tables_1,d.before a0 Z=true):∀ x e,PPcst x=some e→(∀ z,e=.inl z→∃ v:Int32,(Jvm.Cond.constant "GllForestParser" x v).before a0 Z=true∧v.toInt=z)∧(∀ z,e=.inr (.inl z)→∃ v:Int64,(Jvm.Cond.constantLong "GllForestParser" x v).before a0 Z=true∧v.toInt=z) :=
 tab_all (f:=PPcst) 133 [(124,(vi 1000000)),(132,(vl 1000000))] (fun _ h=>cond_ge h) (by decide +kernel) ⟨⟨fun z h=>(by cases h; exact ⟨1000000,mg hw 232 rfl,by decide⟩),fun z h=>(by cases h)⟩,⟨fun z h=>(by cases h),fun z h=>by cases h; exact ⟨1000000,mg hw 201 rfl,by decide⟩⟩,trivial⟩
theorem t_cst {a0:Array Value} {Z:State} (hw:∀ d∈tables_1,d.before a0 Z=true):((∀ x z,pcst PP x=some (.inl z)→∃ v:Int32,(Jvm.Cond.constant "GllForestParser" x v).before a0 Z=true∧v.toInt=z)∧(∀ x z,pcst PP x=some (.inr (.inl z))→∃ v:Int64,(Jvm.Cond.constantLong "GllForestParser" x v).before a0 Z=true∧v.toInt=z)):=⟨fun x z h=>(t_cst0 hw x _ h).1 z rfl,fun x z h=>(t_cst0 hw x _ h).2 z rfl⟩
theorem t_mth {a0:Array Value} {Z:State} (hw:∀ d∈tables_1,d.before a0 Z=true):∀ x q,pmth PP x=some q→(Jvm.Cond.methodLink "GllForestParser" x (nmT q)).before a0 Z=true :=
 tab_all (f:=PPmth) 195 [(100,2),(103,5),(107,12),(110,14),(113,16),(117,17),(120,25),(125,32),(129,39),(134,20),(138,13),(141,15),(145,18),(149,19),(153,21),(157,29),(160,22),(164,23),(168,24),(171,26),(174,27),(177,28),(181,33),(185,34),(188,35),(191,36),(194,42)] (fun _ h=>cond_ge h) (by decide +kernel) ⟨mg hw 78 rfl,mg hw 92 rfl,mg hw 137 rfl,mg hw 145 rfl,mg hw 153 rfl,mg hw 157 rfl,mg hw 189 rfl,mg hw 233 rfl,mg hw 263 rfl,mg hw 169 rfl,mg hw 141 rfl,mg hw 149 rfl,mg hw 161 rfl,mg hw 165 rfl,mg hw 173 rfl,mg hw 206 rfl,mg hw 177 rfl,mg hw 181 rfl,mg hw 185 rfl,mg hw 193 rfl,mg hw 197 rfl,mg hw 202 rfl,mg hw 237 rfl,mg hw 241 rfl,mg hw 245 rfl,mg hw 249 rfl,mg hw 277 rfl,trivial⟩
theorem t_inf0 {a0:Array Value} {Z:State} (hw:∀ d∈tables_1,d.before a0 Z=true):∀ q e,PPinf q=some e→(nmT q).cls = "GllForestParser"∧(Jvm.Cond.instanceMethod (nmT q)).before a0 Z=true∧(Jvm.Cond.code (nmT q) (byT q) e.2.1 (rty e.2.2.1)).before a0 Z=true∧(q≠0→(Jvm.Cond.privateMethod (nmT q)).before a0 Z=true∨((Jvm.Cond.declares (nmT q)).before a0 Z=true∧(Jvm.Cond.selects "GllForestParser" (nmT q) (nmT q)).before a0 Z=true))∧∃ params,parseMethodDescriptor (nmT q).desc=some ⟨params,rty e.2.2.1⟩∧params.length=e.1.length :=
 tab_all (f:=PPinf) 43 [(0,([],1,0,1,12)),(1,([false],2,1,1,12)),(2,([],1,0,0,0)),(3,([false],4,1,1,12)),(4,([false],2,1,1,13)),(5,([false],2,2,0,0)),(6,([false],2,1,1,13)),(7,([false,false],3,1,1,13)),(8,([],1,0,1,12)),(9,([false],2,1,1,12)),(10,([false],2,1,0,0)),(11,([],1,1,6,98)),(12,([],5,0,2,30)),(13,([false,false],6,2,1,13)),(14,([],5,0,3,47)),(15,([false],6,0,2,30)),(16,([],2,2,0,0)),(17,([],3,0,5,84)),(18,([false,false],6,0,4,67)),(19,([false,false,false,false],5,0,1,14)),(20,([false,false],3,2,0,0)),(21,([false,false,false],12,0,3,44)),(22,([false,false],3,1,0,0)),(23,([false,false,false,false],5,1,1,14)),(24,([false,false,false],4,1,2,29)),(25,([false,false,false],4,1,1,14)),(26,([false,false],5,1,0,0)),(27,([false,false],5,1,0,0)),(28,([false,false,false,false,false],6,0,1,14)),(29,([false,false,false],7,1,2,30)),(30,([],1,1,0,0)),(31,([false],4,1,6,107)),(32,([false],8,1,5,88)),(33,([false,false,false,false],5,2,0,0)),(34,([false,false,false,false],8,1,2,30)),(35,([false,false,false,false],10,2,4,67)),(36,([false,false],6,2,1,16)),(37,([],1,1,0,0)),(38,([false],2,1,1,13)),(39,([false],2,2,0,0)),(40,([false],2,1,1,13)),(41,([false],2,1,1,13)),(42,([false,false,false,false,false,false],12,2,3,44))] (fun _ h=>cond_ge h) (by decide +kernel) (Q:=fun q e=>(nmT q).cls = "GllForestParser"∧(Jvm.Cond.instanceMethod (nmT q)).before a0 Z=true∧(Jvm.Cond.code (nmT q) (byT q) e.2.1 (rty e.2.2.1)).before a0 Z=true∧(q≠0→(Jvm.Cond.privateMethod (nmT q)).before a0 Z=true∨((Jvm.Cond.declares (nmT q)).before a0 Z=true∧(Jvm.Cond.selects "GllForestParser" (nmT q) (nmT q)).before a0 Z=true))∧∃ params,parseMethodDescriptor (nmT q).desc=some ⟨params,rty e.2.2.1⟩∧params.length=e.1.length) ⟨⟨rfl,mg hw 4 rfl,mg hw 5 rfl,fun h=>absurd rfl h,[],by decide +kernel,rfl⟩,⟨rfl,mg hw 75 rfl,mg hw 77 rfl,fun _=>Or.inr ⟨mg hw 74 rfl,mg hw 76 rfl⟩,[.int],by decide +kernel,rfl⟩,⟨rfl,mg hw 79 rfl,mg hw 81 rfl,fun _=>Or.inl (mg hw 80 rfl),[],by decide +kernel,rfl⟩,⟨rfl,mg hw 84 rfl,mg hw 86 rfl,fun _=>Or.inr ⟨mg hw 83 rfl,mg hw 85 rfl⟩,[.int],by decide +kernel,rfl⟩,⟨rfl,mg hw 89 rfl,mg hw 91 rfl,fun _=>Or.inr ⟨mg hw 88 rfl,mg hw 90 rfl⟩,[.int],by decide +kernel,rfl⟩,⟨rfl,mg hw 93 rfl,mg hw 95 rfl,fun _=>Or.inl (mg hw 94 rfl),[.int],by decide +kernel,rfl⟩,⟨rfl,mg hw 98 rfl,mg hw 100 rfl,fun _=>Or.inr ⟨mg hw 97 rfl,mg hw 99 rfl⟩,[.int],by decide +kernel,rfl⟩,⟨rfl,mg hw 103 rfl,mg hw 105 rfl,fun _=>Or.inr ⟨mg hw 102 rfl,mg hw 104 rfl⟩,[.int,.int],by decide +kernel,rfl⟩,⟨rfl,mg hw 119 rfl,mg hw 121 rfl,fun _=>Or.inr ⟨mg hw 118 rfl,mg hw 120 rfl⟩,[],by decide +kernel,rfl⟩,⟨rfl,mg hw 124 rfl,mg hw 126 rfl,fun _=>Or.inr ⟨mg hw 123 rfl,mg hw 125 rfl⟩,[.int],by decide +kernel,rfl⟩,⟨rfl,mg hw 129 rfl,mg hw 131 rfl,fun _=>Or.inr ⟨mg hw 128 rfl,mg hw 130 rfl⟩,[.int],by decide +kernel,rfl⟩,⟨rfl,mg hw 134 rfl,mg hw 136 rfl,fun _=>Or.inr ⟨mg hw 133 rfl,mg hw 135 rfl⟩,[],by decide +kernel,rfl⟩,⟨rfl,mg hw 138 rfl,mg hw 140 rfl,fun _=>Or.inl (mg hw 139 rfl),[],by decide +kernel,rfl⟩,⟨rfl,mg hw 142 rfl,mg hw 144 rfl,fun _=>Or.inl (mg hw 143 rfl),[.int,.int],by decide +kernel,rfl⟩,⟨rfl,mg hw 146 rfl,mg hw 148 rfl,fun _=>Or.inl (mg hw 147 rfl),[],by decide +kernel,rfl⟩,⟨rfl,mg hw 150 rfl,mg hw 152 rfl,fun _=>Or.inl (mg hw 151 rfl),[.int],by decide +kernel,rfl⟩,⟨rfl,mg hw 154 rfl,mg hw 156 rfl,fun _=>Or.inl (mg hw 155 rfl),[],by decide +kernel,rfl⟩,⟨rfl,mg hw 158 rfl,mg hw 160 rfl,fun _=>Or.inl (mg hw 159 rfl),[],by decide +kernel,rfl⟩,⟨rfl,mg hw 162 rfl,mg hw 164 rfl,fun _=>Or.inl (mg hw 163 rfl),[.int,.int],by decide +kernel,rfl⟩,⟨rfl,mg hw 166 rfl,mg hw 168 rfl,fun _=>Or.inl (mg hw 167 rfl),[.int,.int,.int,.int],by decide +kernel,rfl⟩,⟨rfl,mg hw 170 rfl,mg hw 172 rfl,fun _=>Or.inl (mg hw 171 rfl),[.int,.int],by decide +kernel,rfl⟩,⟨rfl,mg hw 174 rfl,mg hw 176 rfl,fun _=>Or.inl (mg hw 175 rfl),[.int,.int,.int],by decide +kernel,rfl⟩,⟨rfl,mg hw 178 rfl,mg hw 180 rfl,fun _=>Or.inl (mg hw 179 rfl),[.int,.int],by decide +kernel,rfl⟩,⟨rfl,mg hw 182 rfl,mg hw 184 rfl,fun _=>Or.inl (mg hw 183 rfl),[.int,.int,.int,.int],by decide +kernel,rfl⟩,⟨rfl,mg hw 186 rfl,mg hw 188 rfl,fun _=>Or.inl (mg hw 187 rfl),[.int,.int,.int],by decide +kernel,rfl⟩,⟨rfl,mg hw 190 rfl,mg hw 192 rfl,fun _=>Or.inl (mg hw 191 rfl),[.int,.int,.int],by decide +kernel,rfl⟩,⟨rfl,mg hw 194 rfl,mg hw 196 rfl,fun _=>Or.inl (mg hw 195 rfl),[.int,.int],by decide +kernel,rfl⟩,⟨rfl,mg hw 198 rfl,mg hw 200 rfl,fun _=>Or.inl (mg hw 199 rfl),[.int,.int],by decide +kernel,rfl⟩,⟨rfl,mg hw 203 rfl,mg hw 205 rfl,fun _=>Or.inl (mg hw 204 rfl),[.int,.int,.int,.int,.int],by decide +kernel,rfl⟩,⟨rfl,mg hw 207 rfl,mg hw 209 rfl,fun _=>Or.inl (mg hw 208 rfl),[.int,.int,.int],by decide +kernel,rfl⟩,⟨rfl,mg hw 212 rfl,mg hw 214 rfl,fun _=>Or.inr ⟨mg hw 211 rfl,mg hw 213 rfl⟩,[],by decide +kernel,rfl⟩,⟨rfl,mg hw 229 rfl,mg hw 231 rfl,fun _=>Or.inr ⟨mg hw 228 rfl,mg hw 230 rfl⟩,[.int],by decide +kernel,rfl⟩,⟨rfl,mg hw 234 rfl,mg hw 236 rfl,fun _=>Or.inl (mg hw 235 rfl),[.int],by decide +kernel,rfl⟩,⟨rfl,mg hw 238 rfl,mg hw 240 rfl,fun _=>Or.inl (mg hw 239 rfl),[.int,.int,.int,.int],by decide +kernel,rfl⟩,⟨rfl,mg hw 242 rfl,mg hw 244 rfl,fun _=>Or.inl (mg hw 243 rfl),[.int,.int,.int,.int],by decide +kernel,rfl⟩,⟨rfl,mg hw 246 rfl,mg hw 248 rfl,fun _=>Or.inl (mg hw 247 rfl),[.int,.int,.int,.int],by decide +kernel,rfl⟩,⟨rfl,mg hw 250 rfl,mg hw 252 rfl,fun _=>Or.inl (mg hw 251 rfl),[.int,.int],by decide +kernel,rfl⟩,⟨rfl,mg hw 255 rfl,mg hw 257 rfl,fun _=>Or.inr ⟨mg hw 254 rfl,mg hw 256 rfl⟩,[],by decide +kernel,rfl⟩,⟨rfl,mg hw 260 rfl,mg hw 262 rfl,fun _=>Or.inr ⟨mg hw 259 rfl,mg hw 261 rfl⟩,[.int],by decide +kernel,rfl⟩,⟨rfl,mg hw 264 rfl,mg hw 266 rfl,fun _=>Or.inl (mg hw 265 rfl),[.int],by decide +kernel,rfl⟩,⟨rfl,mg hw 269 rfl,mg hw 271 rfl,fun _=>Or.inr ⟨mg hw 268 rfl,mg hw 270 rfl⟩,[.int],by decide +kernel,rfl⟩,⟨rfl,mg hw 274 rfl,mg hw 276 rfl,fun _=>Or.inr ⟨mg hw 273 rfl,mg hw 275 rfl⟩,[.int],by decide +kernel,rfl⟩,⟨rfl,mg hw 278 rfl,mg hw 280 rfl,fun _=>Or.inl (mg hw 279 rfl),[.int,.int,.int,.int,.int,.int],by decide +kernel,rfl⟩,trivial⟩
theorem t_inf {a0:Array Value} {Z:State} (hw:∀ d∈tables_1,d.before a0 Z=true):∀ q ps ml rk fr lc,pinf PP q=some (ps,ml,rk,fr,lc)→(nmT q).cls = "GllForestParser"∧(Jvm.Cond.instanceMethod (nmT q)).before a0 Z=true∧(Jvm.Cond.code (nmT q) (byT q) ml (rty rk)).before a0 Z=true∧(q≠0→(Jvm.Cond.privateMethod (nmT q)).before a0 Z=true∨((Jvm.Cond.declares (nmT q)).before a0 Z=true∧(Jvm.Cond.selects "GllForestParser" (nmT q) (nmT q)).before a0 Z=true))∧∃ params,parseMethodDescriptor (nmT q).desc=some ⟨params,rty rk⟩∧params.length=ps.length:=fun q ps ml rk fr lc h =>
 t_inf0 hw q (ps,ml,rk,fr,lc) h
theorem tabP {a0:Array Value} {Z:State} (hw:∀ d∈tables_1,d.before a0 Z=true):TabP PP "GllForestParser" fnmT fkdT nmT byT 22 29 a0 Z :=
 ⟨t_code,t_fld hw,t_fkd hw,names_all 29 (fun _ h=>cond_ge h) (by decide +kernel),ptrs_all 29 (fun _ h=>cond_ge h) (by decide +kernel),t_lay hw,t_cst hw,t_mth hw,t_inf hw,fun x h=>by cases Nat.eq_of_beq_eq_true h; exact mg hw 6 rfl,⟨mg hw 7 rfl,mg hw 8 rfl⟩,mg hw 1 rfl,mg hw 2 rfl,by first | (simp [plainName,overriddenIn]; done) | decide +kernel,by decide,rfl,fun ps ml rk fr lc h=>by cases h; rfl⟩
abbrev lN (a b:String):MethodName:=⟨"GllForestParserOwnLaw",a,b⟩
def lnmT:Nat→MethodName:=fun q=>zb q 3 (zb q 1 (lN "law" "([I)Z") (zb q 2 (lN "cell" "([II)I") (lN "minLens" "(JJJI)I"))) (zb q 5 (zb q 4 (lN "rc" "(JJJI)I") (lN "mlOf" "(II)I")) (zb q 6 (lN "enumerate" "(JJJIIII)J") (lN "sim" "(JJJIIIIJI)I")))
def lbyT:Nat→ByteArray:=fun q=>zb q 3 (zb q 1 (code) (zb q 2 (method_2_code) (method_5_code))) (zb q 5 (zb q 4 (method_3_code) (method_4_code)) (zb q 6 (method_7_code) (method_6_code)))
set_option maxRecDepth 65536 in
set_option maxHeartbeats 8000000 in
def aL0:AtL code:=cD at_0<|cD at_3<|cD at_4<|cD at_7<|cD at_8<|cD at_11<|cD at_12<|cD at_15<|cD at_16<|cD at_17<|cD at_18<|cD at_19<|cD at_20<|cD at_21<|cD at_24<|cD at_27<|cD at_29<|cD at_30<|cD at_32<|cD at_33<|cD at_34<|cD at_36<|cD at_37<|cD at_39<|cD at_41<|cD at_43<|cD at_46<|cD at_47<|cD at_48<|cD at_51<|cD at_54<|cD at_55<|cD at_56<|cD at_58<|cD at_59<|cD at_60<|cD at_63<|cD at_66<|cD at_67<|cD at_68<|cD at_70<|cD at_71<|cD at_73<|cD at_76<|cD at_77<|cD at_78<|cD at_80<|cD at_83<|cD at_84<|cD at_85<|cD at_87<|cD at_89<|cD at_91<|cD at_94<|cD at_95<|cD at_96<|cD at_99<|cD at_102<|cD at_104<|cD at_105<|cN
def aL1:AtL code:=cD at_107<|cD at_109<|cD at_111<|cD at_114<|cD at_115<|cD at_117<|cD at_118<|cD at_119<|cD at_120<|cD at_122<|cD at_123<|cD at_125<|cD at_128<|cD at_129<|cD at_130<|cD at_132<|cD at_135<|cD at_136<|cD at_139<|cD at_142<|cD at_145<|cD at_148<|cD at_149<|cD at_151<|cD at_152<|cD at_154<|cD at_155<|cD at_157<|cD at_158<|cD at_160<|cD at_161<|cD at_163<|cD at_165<|cD at_167<|cD at_170<|cD at_171<|cD at_173<|cD at_176<|cD at_178<|cD at_180<|cD at_183<|cD at_186<|cD at_187<|cD at_189<|cD at_192<|cD at_193<|cD at_194<|cD at_196<|cD at_198<|cD at_199<|cD at_200<|cD at_202<|cD at_203<|cD at_204<|cD at_205<|cD at_207<|cD at_208<|cD at_210<|cD at_212<|cD at_214<|cN
def aL2:AtL code:=cD at_217<|cD at_219<|cD at_220<|cD at_222<|cD at_224<|cD at_227<|cD at_229<|cD at_230<|cD at_231<|cD at_232<|cD at_234<|cD at_235<|cD at_236<|cD at_237<|cD at_238<|cD at_240<|cD at_243<|cD at_246<|cD at_248<|cD at_249<|cD at_251<|cD at_252<|cD at_253<|cD at_255<|cD at_256<|cD at_257<|cD at_259<|cD at_261<|cD at_262<|cD at_265<|cD at_267<|cD at_269<|cD at_270<|cD at_272<|cD at_275<|cD at_277<|cD at_279<|cD at_282<|cD at_284<|cD at_286<|cD at_287<|cD at_289<|cD at_292<|cD at_294<|cD at_296<|cD at_297<|cD at_299<|cD at_301<|cD at_302<|cD at_303<|cD at_305<|cD at_308<|cD at_311<|cD at_313<|cD at_315<|cD at_317<|cD at_319<|cD at_322<|cD at_324<|cD at_325<|cN
def aL3:AtL code:=cD at_327<|cD at_329<|cD at_330<|cD at_333<|cD at_334<|cD at_335<|cD at_338<|cD at_341<|cD at_343<|cD at_344<|cD at_346<|cD at_347<|cD at_349<|cD at_350<|cD at_353<|cD at_354<|cD at_357<|cD at_358<|cD at_360<|cD at_362<|cD at_364<|cD at_367<|cD at_368<|cD at_369<|cD at_372<|cD at_375<|cD at_376<|cD at_377<|cD at_379<|cD at_380<|cD at_382<|cD at_385<|cD at_386<|cD at_387<|cD at_389<|cD at_392<|cD at_393<|cD at_396<|cD at_399<|cD at_400<|cD at_402<|cD at_403<|cD at_405<|cD at_406<|cD at_408<|cD at_410<|cD at_412<|cD at_415<|cD at_416<|cD at_418<|cD at_421<|cD at_423<|cD at_425<|cD at_428<|cD at_431<|cD at_433<|cD at_435<|cD at_436<|cD at_437<|cD at_438<|cN
def aL4:AtL code:=cD at_440<|cD at_441<|cD at_442<|cD at_443<|cD at_445<|cD at_447<|cD at_448<|cD at_449<|cD at_451<|cD at_454<|cD at_457<|cD at_458<|cD at_461<|cD at_462<|cD at_463<|cD at_466<|cD at_467<|cD at_468<|cD at_471<|cD at_473<|cD at_475<|cD at_478<|cD at_480<|cD at_482<|cD at_484<|cD at_486<|cD at_488<|cD at_490<|cD at_492<|cD at_495<|cD at_497<|cD at_499<|cD at_500<|cD at_501<|cD at_504<|cD at_506<|cD at_507<|cD at_509<|cD at_512<|cD at_513<|cD at_516<|cD at_518<|cD at_521<|cD at_524<|cD at_525<|cD at_528<|cD at_529<|cD at_530<|cD at_532<|cD at_533<|cD at_536<|cD at_538<|cD at_540<|cD at_543<|cD at_546<|cD at_548<|cD at_550<|cD at_553<|cD at_555<|cD at_558<|cN
def aL5:AtL code:=cD at_560<|cD at_562<|cD at_563<|cD at_564<|cD at_567<|cD at_570<|cD at_572<|cD at_573<|cD at_575<|cD at_576<|cD at_578<|cD at_579<|cD at_581<|cD at_583<|cD at_585<|cD at_588<|cD at_590<|cD at_592<|cD at_595<|cD at_597<|cD at_599<|cD at_602<|cD at_605<|cD at_607<|cD at_609<|cD at_612<|cD at_614<|cD at_617<|cD at_619<|cD at_621<|cD at_622<|cD at_624<|cD at_627<|cD at_629<|cD at_631<|cD at_632<|cD at_635<|cD at_638<|cD at_639<|cD at_642<|cD at_644<|cD at_647<|cD at_648<|cD at_649<|cD at_650<|cD at_651<|cD at_652<|cD at_655<|cD at_658<|cD at_661<|cD at_662<|cD at_663<|cD at_666<|cD at_669<|cD at_670<|cD at_671<|cD at_674<|cD at_676<|cD at_679<|cD at_680<|cN
def aL6:AtL code:=cD at_681<|cD at_682<|cD at_684<|cD at_686<|cD at_688<|cD at_691<|cD at_693<|cD at_696<|cD at_697<|cD at_700<|cD at_701<|cD at_703<|cD at_706<|cD at_708<|cD at_710<|cD at_713<|cD at_714<|cD at_717<|cD at_718<|cD at_720<|cD at_723<|cD at_725<|cD at_727<|cD at_730<|cD at_732<|cD at_733<|cD at_736<|cD at_737<|cD at_738<|cD at_740<|cD at_743<|cD at_744<|cD at_747<|cD at_748<|cD at_750<|cD at_753<|cD at_755<|cD at_757<|cD at_758<|cD at_759<|cD at_761<|cD at_762<|cD at_764<|cD at_766<|cD at_768<|cD at_771<|cD at_773<|cD at_776<|cD at_777<|cD at_780<|cD at_781<|cD at_783<|cD at_785<|cD at_788<|cD at_790<|cD at_792<|cD at_793<|cD at_796<|cD at_798<|cD at_801<|cN
def aL7:AtL code:=cD at_803<|cD at_805<|cD at_808<|cD at_809<|cD at_811<|cD at_814<|cD at_816<|cD at_817<|cD at_818<|cD at_821<|cD at_822<|cD at_823<|cD at_826<|cD at_829<|cD at_831<|cD at_834<|cD at_836<|cD at_838<|cD at_841<|cD at_842<|cD at_843<|cD at_844<|cD at_845<|cD at_847<|cD at_850<|cD at_853<|cD at_855<|cD at_858<|cD at_859<|cD at_861<|cD at_864<|cD at_866<|cD at_869<|cD at_870<|cD at_871<|cD at_872<|cD at_874<|cD at_877<|cD at_879<|cD at_880<|cD at_882<|cD at_884<|cD at_886<|cD at_887<|cD at_889<|cD at_891<|cD at_893<|cD at_896<|cD at_897<|cD at_899<|cD at_902<|cD at_904<|cD at_905<|cD at_907<|cD at_910<|cD at_912<|cD at_913<|cD at_915<|cD at_916<|cD at_918<|cN
def aL8:AtL code:=cD at_920<|cD at_922<|cD at_925<|cD at_927<|cD at_928<|cD at_931<|cD at_932<|cD at_934<|cD at_936<|cD at_939<|cD at_941<|cD at_943<|cD at_946<|cD at_948<|cD at_949<|cD at_952<|cD at_955<|cD at_958<|cD at_961<|cD at_963<|cD at_965<|cD at_966<|cD at_967<|cD at_968<|cD at_970<|cD at_972<|cD at_975<|cD at_976<|cD at_978<|cD at_981<|cD at_984<|cD at_987<|cD at_989<|cD at_992<|cD at_993<|cD at_994<|cD at_996<|cD at_997<|cD at_998<|cD at_1000<|cD at_1003<|cD at_1006<|cD at_1008<|cD at_1011<|cD at_1013<|cD at_1015<|cD at_1018<|cD at_1021<|cD at_1023<|cD at_1024<|cD at_1026<|cD at_1029<|cD at_1032<|cD at_1033<|cD at_1034<|cD at_1037<|cD at_1040<|cD at_1041<|cD at_1043<|cD at_1045<|cN
def aL9:AtL code:=cD at_1047<|cD at_1050<|cD at_1052<|cD at_1054<|cD at_1057<|cD at_1059<|cD at_1062<|cD at_1064<|cD at_1065<|cD at_1066<|cD at_1068<|cD at_1069<|cD at_1071<|cD at_1073<|cD at_1075<|cD at_1078<|cD at_1081<|cD at_1082<|cD at_1084<|cD at_1087<|cD at_1089<|cD at_1091<|cD at_1092<|cD at_1095<|cD at_1097<|cD at_1099<|cD at_1102<|cD at_1105<|cD at_1106<|cD at_1108<|cD at_1109<|cD at_1111<|cD at_1113<|cD at_1115<|cD at_1118<|cD at_1120<|cD at_1123<|cD at_1124<|cD at_1126<|cD at_1129<|cD at_1130<|cD at_1132<|cD at_1135<|cD at_1138<|cD at_1139<|cD at_1141<|cD at_1144<|cD at_1145<|cD at_1147<|cD at_1150<|cD at_1153<|cD at_1154<|cD at_1156<|cD at_1159<|cD at_1160<|cD at_1162<|cD at_1165<|cD at_1168<|cD at_1169<|cD at_1172<|cN
def aL10:AtL code:=cD at_1173<|cD at_1175<|cD at_1178<|cD at_1181<|cD at_1183<|cD at_1186<|cD at_1187<|cD at_1188<|cD at_1191<|cD at_1194<|cD at_1197<|cD at_1200<|cD at_1203<|cD at_1206<|cD at_1207<|cN
def aL:AtL code:=cA aL0 (cA aL1 (cA aL2 (cA aL3 (cA aL4 (cA aL5 (cA aL6 (cA aL7 (cA aL8 (cA aL9 (cA aL10 (cN)))))))))))
theorem lcdk_0:∀ pc i len,lcd_0 pc=some (i,len)→decode code pc=.ok (i,len)∧chk pc i len=true:=code_allA 1208 aL (fun _ h=>cond_ge h) (by decide +kernel) (by decide +kernel)
theorem lcdk_1:∀ pc i len,lcd_1 pc=some (i,len)→decode method_2_code pc=.ok (i,len)∧chk pc i len=true:=code_all 14 (fun _ h=>cond_ge h) (by decide +kernel)
theorem lcdk_2:∀ pc i len,lcd_2 pc=some (i,len)→decode method_5_code pc=.ok (i,len)∧chk pc i len=true:=code_all 164 (fun _ h=>cond_ge h) (by decide +kernel)
theorem lcdk_3:∀ pc i len,lcd_3 pc=some (i,len)→decode method_3_code pc=.ok (i,len)∧chk pc i len=true:=code_all 41 (fun _ h=>cond_ge h) (by decide +kernel)
theorem lcdk_4:∀ pc i len,lcd_4 pc=some (i,len)→decode method_4_code pc=.ok (i,len)∧chk pc i len=true:=code_all 18 (fun _ h=>cond_ge h) (by decide +kernel)
theorem lcdk_5:∀ pc i len,lcd_5 pc=some (i,len)→decode method_7_code pc=.ok (i,len)∧chk pc i len=true:=code_all 195 (fun _ h=>cond_ge h) (by decide +kernel)
theorem lcdk_6:∀ pc i len,lcd_6 pc=some (i,len)→decode method_6_code pc=.ok (i,len)∧chk pc i len=true:=code_all 280 (fun _ h=>cond_ge h) (by decide +kernel)
theorem tl_code:∀ q pc i len,lcode LL q pc=some (i,len)→decode (lbyT q) pc=.ok (i,len)∧chk pc i len=true:=by
 intro q
 by_cases hq:q<7
 ·exact allN (Q:=fun q=>∀ pc i len,lcode LL q pc=some (i,len)→decode (lbyT q) pc=.ok (i,len)∧chk pc i len=true) (N:=7) (⟨⟨⟨⟨⟨⟨⟨trivial,lcdk_0⟩,lcdk_1⟩,lcdk_2⟩,lcdk_3⟩,lcdk_4⟩,lcdk_5⟩,lcdk_6⟩) q hq
 ·intro pc i len h
  have h0:LLcode q pc=none:=cond_ge (by omega)
  have h1:LLcode q pc=some (i,len):=h
  rw [h0] at h1; cases h1
theorem tl_cst0 {a0:Array Value} {Z:State} (hw:∀ d∈tables_1,d.before a0 Z=true):∀ x e,LLcst x=some e→(∀ z,e=.inl z→∃ v:Int32,(Jvm.Cond.constant "GllForestParserOwnLaw" x v).before a0 Z=true∧v.toInt=z)∧(∀ z,e=.inr (.inl z)→∃ v:Int64,(Jvm.Cond.constantLong "GllForestParserOwnLaw" x v).before a0 Z=true∧v.toInt=z) :=
 tab_all (f:=LLcst) 80 [(7,(vl 65535)),(9,(vi 39321)),(20,(vl 7)),(22,(vl 15)),(28,(vl (-1))),(76,(vl 1000000)),(78,(vi 1000000)),(79,(vi 2147483647))] (fun _ h=>cond_ge h) (by decide +kernel) ⟨⟨fun z h=>(by cases h),fun z h=>by cases h; exact ⟨65535,mg hw 113 rfl,by decide⟩⟩,⟨fun z h=>(by cases h; exact ⟨39321,mg hw 109 rfl,by decide⟩),fun z h=>(by cases h)⟩,⟨fun z h=>(by cases h),fun z h=>by cases h; exact ⟨7,mg hw 221 rfl,by decide⟩⟩,⟨fun z h=>(by cases h),fun z h=>by cases h; exact ⟨15,mg hw 223 rfl,by decide⟩⟩,⟨fun z h=>(by cases h),fun z h=>by cases h; exact ⟨(-1),mg hw 224 rfl,by decide⟩⟩,⟨fun z h=>(by cases h),fun z h=>by cases h; exact ⟨1000000,mg hw 222 rfl,by decide⟩⟩,⟨fun z h=>(by cases h; exact ⟨1000000,mg hw 225 rfl,by decide⟩),fun z h=>(by cases h)⟩,⟨fun z h=>(by cases h; exact ⟨2147483647,mg hw 226 rfl,by decide⟩),fun z h=>(by cases h)⟩,trivial⟩
theorem tl_cst {a0:Array Value} {Z:State} (hw:∀ d∈tables_1,d.before a0 Z=true):((∀ x z,lcst LL x=some (.inl z)→∃ v:Int32,(Jvm.Cond.constant "GllForestParserOwnLaw" x v).before a0 Z=true∧v.toInt=z)∧(∀ x z,lcst LL x=some (.inr (.inl z))→∃ v:Int64,(Jvm.Cond.constantLong "GllForestParserOwnLaw" x v).before a0 Z=true∧v.toInt=z)):=⟨fun x z h=>(tl_cst0 hw x _ h).1 z rfl,fun x z h=>(tl_cst0 hw x _ h).2 z rfl⟩
theorem tl_vm {a0:Array Value} {Z:State} (hw:∀ d∈tables_1,d.before a0 Z=true):∀ x q,lvm LL x=some q→(Jvm.Cond.methodLink "GllForestParserOwnLaw" x (nmT q)).before a0 Z=true∧(Jvm.Cond.declares (nmT q)).before a0 Z=true∧(Jvm.Cond.selects "GllForestParser" (nmT q) (nmT q)).before a0 Z=true :=
 tab_all (f:=LLvm) 93 [(37,1),(41,3),(44,4),(47,6),(50,7),(56,8),(59,9),(62,10),(65,11),(69,30),(80,31),(83,37),(86,38),(89,40),(92,41)] (fun _ h=>cond_ge h) (by decide +kernel) ⟨⟨mg hw 73 rfl,mg hw 74 rfl,mg hw 76 rfl⟩,⟨mg hw 82 rfl,mg hw 83 rfl,mg hw 85 rfl⟩,⟨mg hw 87 rfl,mg hw 88 rfl,mg hw 90 rfl⟩,⟨mg hw 96 rfl,mg hw 97 rfl,mg hw 99 rfl⟩,⟨mg hw 101 rfl,mg hw 102 rfl,mg hw 104 rfl⟩,⟨mg hw 117 rfl,mg hw 118 rfl,mg hw 120 rfl⟩,⟨mg hw 122 rfl,mg hw 123 rfl,mg hw 125 rfl⟩,⟨mg hw 127 rfl,mg hw 128 rfl,mg hw 130 rfl⟩,⟨mg hw 132 rfl,mg hw 133 rfl,mg hw 135 rfl⟩,⟨mg hw 210 rfl,mg hw 211 rfl,mg hw 213 rfl⟩,⟨mg hw 227 rfl,mg hw 228 rfl,mg hw 230 rfl⟩,⟨mg hw 253 rfl,mg hw 254 rfl,mg hw 256 rfl⟩,⟨mg hw 258 rfl,mg hw 259 rfl,mg hw 261 rfl⟩,⟨mg hw 267 rfl,mg hw 268 rfl,mg hw 270 rfl⟩,⟨mg hw 272 rfl,mg hw 273 rfl,mg hw 275 rfl⟩,trivial⟩
theorem tl_sm {a0:Array Value} {Z:State} (hw:∀ d∈tables_1,d.before a0 Z=true):∀ x q,lsm LL x=some q→(Jvm.Cond.methodLink "GllForestParserOwnLaw" x (lnmT q)).before a0 Z=true :=
 tab_all (f:=LLsm) 73 [(10,3),(16,4),(24,6),(33,1),(53,2),(72,5)] (fun _ h=>cond_ge h) (by decide +kernel) ⟨mg hw 110 rfl,mg hw 114 rfl,mg hw 218 rfl,mg hw 69 rfl,mg hw 106 rfl,mg hw 215 rfl,trivial⟩
theorem tl_inf {a0:Array Value} {Z:State} (hw:∀ d∈tables_1,d.before a0 Z=true):∀ q ps ml rk fr lc,linf LL q=some (ps,ml,rk,fr,lc)→q≠0→(lnmT q).cls = "GllForestParserOwnLaw"∧(Jvm.Cond.static (lnmT q)).before a0 Z=true∧(Jvm.Cond.initialized "GllForestParserOwnLaw").before a0 Z=true∧(Jvm.Cond.code (lnmT q) (lbyT q) ml (rty rk)).before a0 Z=true∧∃ params,parseMethodDescriptor (lnmT q).desc=some ⟨params,rty rk⟩∧params.length=ps.length:=fun q ps ml rk fr lc h =>
 tab_all (f:=LLinf) 7 [(0,([2],38,2,7,122)),(1,([0,2],2,1,0,0)),(2,([0,1,1,1],16,1,1,20)),(3,([0,1,1,1],9,1,0,0)),(4,([0,0],2,1,0,0)),(5,([0,0,0,0,1,1,1],21,4,2,58)),(6,([0,1,0,0,0,0,1,1,1],27,1,1,20))] (fun _ h=>cond_ge h) (by decide +kernel) (Q:=fun q e=>q≠0→(lnmT q).cls = "GllForestParserOwnLaw"∧(Jvm.Cond.static (lnmT q)).before a0 Z=true∧(Jvm.Cond.initialized "GllForestParserOwnLaw").before a0 Z=true∧(Jvm.Cond.code (lnmT q) (lbyT q) e.2.1 (rty e.2.2.1)).before a0 Z=true∧∃ params,parseMethodDescriptor (lnmT q).desc=some ⟨params,rty e.2.2.1⟩∧params.length=e.1.length) ⟨fun h=>absurd rfl h,fun _=>⟨rfl,mg hw 70 rfl,mg hw 71 rfl,mg hw 72 rfl,[.array (.int),.int],by decide +kernel,rfl⟩,fun _=>⟨rfl,mg hw 107 rfl,mg hw 71 rfl,mg hw 108 rfl,[.long,.long,.long,.int],by decide +kernel,rfl⟩,fun _=>⟨rfl,mg hw 111 rfl,mg hw 71 rfl,mg hw 112 rfl,[.long,.long,.long,.int],by decide +kernel,rfl⟩,fun _=>⟨rfl,mg hw 115 rfl,mg hw 71 rfl,mg hw 116 rfl,[.int,.int],by decide +kernel,rfl⟩,fun _=>⟨rfl,mg hw 216 rfl,mg hw 71 rfl,mg hw 217 rfl,[.long,.long,.long,.int,.int,.int,.int],by decide +kernel,rfl⟩,fun _=>⟨rfl,mg hw 219 rfl,mg hw 71 rfl,mg hw 220 rfl,[.long,.long,.long,.int,.int,.int,.int,.long,.int],by decide +kernel,rfl⟩,trivial⟩ q _ h
theorem tabL {a0:Array Value} {Z:State} (hw:∀ d∈tables_1,d.before a0 Z=true):TabL PP LL "GllForestParser" "GllForestParserOwnLaw" nmT lnmT lbyT a0 Z :=
 ⟨tl_code,tl_cst hw,tl_vm hw,fun x h=>by cases Nat.eq_of_beq_eq_true h; exact mg hw 3 rfl,tl_sm hw,fun x h=>by cases Nat.eq_of_beq_eq_true h; exact mg hw 0 rfl,tl_inf hw,by first | (simp [plainName,overriddenIn]; done) | decide +kernel,by decide⟩
def own_sat (x:Nat):Int:=if x<1000000 then (x:Int) else 1000000
theorem own_satr (x:Nat):0≤own_sat x∧own_sat x≤1000000:=by unfold own_sat; split <;> omega
theorem own_sat0 (x:Nat):own_sat x=0↔x=0:=by unfold own_sat; split <;> omega
theorem own_satl {x:Nat} (h:own_sat x<1000000):own_sat x=(x:Int):=by unfold own_sat at h ⊢; split <;> (try rfl); rename_i c; rw [if_neg c] at h; omega
theorem own_lcl (a b:Int):(lcm a b<0)↔(a<b):=by
 unfold lcm
 split
 ·omega
 ·split <;> omega
theorem own_lcz (a b:Int):(lcm a b=0)↔(a=b):=by
 unfold lcm
 split
 ·omega
 ·split <;> omega
theorem own_w64 {z:Int} (h:-9223372036854775808≤z∧z<9223372036854775808):w64 z=z:=by unfold w64; omega
theorem own_sA (a b:Nat) (m:OMem):f_satAdd (own_sat a) (own_sat b) m=some (own_sat (a+b)):=by
 have ra:=own_satr a
 have rb:=own_satr b
 unfold f_satAdd
 rw [own_w64 (z:=own_sat a+own_sat b) (by omega)]
 simp only [own_lcl]
 rw [w32_id (z:=own_sat a+own_sat b) (by omega)]
 by_cases c:own_sat a+own_sat b<1000000
 ·rw [if_pos c,if_neg (by omega)]
  unfold own_sat at c ⊢
  by_cases ca:a<1000000
  ·by_cases cb:b<1000000
   ·rw [if_pos ca,if_pos cb] at c ⊢
    rw [if_pos (by omega),Int.natCast_add]
   ·rw [if_pos ca,if_neg cb] at c; omega
  ·rw [if_neg ca] at c; split at c <;> omega
 ·rw [if_neg c]
  unfold own_sat at c ⊢
  rw [if_neg (by intro h; rw [if_pos (by omega),if_pos (by omega)] at c; omega)]
theorem own_sM (a b:Nat) (m:OMem):f_satMul (own_sat a) (own_sat b) m=some (own_sat (a*b)):=by
 have ra:=own_satr a
 have rb:=own_satr b
 unfold f_satMul f_satMul_b8
 by_cases za:a=0
 ·subst za
  rw [if_neg (by decide),Nat.zero_mul]; rfl
 by_cases zb:b=0
 ·subst zb
  rw [Nat.mul_zero,show own_sat 0=0 from rfl,if_neg (show ¬ (0:Int)<0 by decide)]
  split <;> rfl
 have pa:0<own_sat a:=by have:=(own_sat0 a); omega
 have pb:0<own_sat b:=by have:=(own_sat0 b); omega
 have mr:0≤own_sat a*own_sat b∧own_sat a*own_sat b≤1000000*1000000:=⟨Int.mul_nonneg ra.1 rb.1,Int.mul_le_mul ra.2 rb.2 rb.1 (by decide)⟩
 rw [if_pos pa,if_pos pb,own_w64 (z:=own_sat a*own_sat b) (by omega)]
 simp only [own_lcl]
 by_cases ca:a<1000000
 ·by_cases cb:b<1000000
  ·have ea:own_sat a=(a:Int):=if_pos ca
   have eb:own_sat b=(b:Int):=if_pos cb
   rw [ea,eb,← Int.natCast_mul]
   by_cases c:a*b<1000000
   ·rw [if_pos (by omega),w32_id (by omega)]
    unfold own_sat
    rw [if_pos c]
   ·rw [if_neg (by omega)]
    unfold own_sat
    rw [if_neg c]
  ·have eb:own_sat b=1000000:=if_neg cb
   have h:1000000≤a*b:=Nat.le_trans (by omega) (Nat.mul_le_mul (show 1≤a by omega) (show 1000000≤b by omega))
   rw [eb,if_neg (by omega)]
   unfold own_sat
   rw [if_neg (by omega)]
 ·have ea:own_sat a=1000000:=if_neg ca
  have h:1000000≤a*b:=Nat.le_trans (by omega) (Nat.mul_le_mul (show 1000000≤a by omega) (show 1≤b by omega))
  rw [ea,if_neg (by omega)]
  unfold own_sat
  rw [if_neg (by omega)]
theorem own_spo (i j:Nat) (hi:i≤8) (hj:j≤8) (m:OMem):f_spanOk (i:Int) (j:Int) m=some 1:=by
 unfold f_spanOk f_spanOk_b25 f_spanOk_b24
 rw [if_neg (by omega),if_neg (by omega),if_neg (by omega),if_neg (by omega)]
 rfl
def own_ci (A i j:Nat):Int:=((A*9+i)*9+j:Nat)
def own_wi (r t i q:Nat):Int:=(((r*4+t)*9+i)*9+q:Nat)
theorem own_cix {A i j A' i' j':Nat} (hi:i≤8) (hj:j≤8) (hi':i'≤8) (hj':j'≤8):own_ci A i j=own_ci A' i' j'↔A=A'∧i=i'∧j=j':=by unfold own_ci; omega
theorem own_wix {r t i j r' t' i' j':Nat} (ht:t≤3) (ht':t'≤3) (hi:i≤8) (hj:j≤8) (hi':i'≤8) (hj':j'≤8):own_wi r t i j=own_wi r' t' i' j'↔r=r'∧t=t'∧i=i'∧j=j':=by unfold own_wi; omega
theorem own_cif (A i j:Nat) (hA:A<4) (hi:i≤8) (hj:j≤8):w32 (w32 (w32 (w32 ((A:Int)*9)+(i:Int))*9)+(j:Int))=own_ci A i j∧0≤own_ci A i j∧own_ci A i j<324:=by
 unfold own_ci
 rw [w32_id (z:=(A:Int)*9) (by omega),w32_id (z:=(A:Int)*9+i) (by omega),w32_id (z:=((A:Int)*9+i)*9) (by omega),w32_id (z:=((A:Int)*9+i)*9+j) (by omega)]
 omega
theorem own_wif (r t i q:Nat) (hr:r<10) (ht:t≤3) (hi:i≤8) (hq:q≤8):w32 (w32 (w32 (w32 (w32 (w32 ((r:Int)*4)+(t:Int))*9)+(i:Int))*9)+(q:Int))=own_wi r t i q∧0≤own_wi r t i q∧own_wi r t i q<3240:=by
 unfold own_wi
 rw [w32_id (z:=(r:Int)*4) (by omega),w32_id (z:=(r:Int)*4+t) (by omega),w32_id (z:=((r:Int)*4+t)*9) (by omega),w32_id (z:=((r:Int)*4+t)*9+i) (by omega),w32_id (z:=(((r:Int)*4+t)*9+i)*9) (by omega),w32_id (z:=(((r:Int)*4+t)*9+i)*9+q) (by omega)]
 omega
theorem own_cAt (A i j:Nat) (hA:A<4) (hi:i≤8) (hj:j≤8) (m:OMem):f_cntAt (A:Int) (i:Int) (j:Int) m=some (m 5 (own_ci A i j)):=by
 obtain ⟨e,r⟩:=own_cif A i j hA hi hj
 unfold f_cntAt f_cntAt_b18
 rw [if_neg (by omega),if_neg (by omega),own_spo i j hi hj,Option.bind_some,if_neg (by decide),e,if_pos r]
theorem own_cSt (A i j:Nat) (v:Int) (hA:A<4) (hi:i≤8) (hj:j≤8) (m:OMem):f_setCnt (A:Int) (i:Int) (j:Int) v m=some (sto m 5 (own_ci A i j) v):=by
 obtain ⟨e,r⟩:=own_cif A i j hA hi hj
 unfold f_setCnt f_setCnt_b18
 rw [if_neg (by omega),if_neg (by omega),own_spo i j hi hj,Option.bind_some,if_neg (by decide),e,if_pos r]
theorem own_wAt (r t i q:Nat) (hr:r<10) (ht:1≤t∧t≤3) (hi:i≤8) (hq:q≤8) (m:OMem):f_wAt (r:Int) (t:Int) (i:Int) (q:Int) m=some (m 6 (own_wi r t i q)):=by
 obtain ⟨e,w⟩:=own_wif r t i q hr ht.2 hi hq
 unfold f_wAt f_wAt_b15 f_wAt_b45
 rw [if_neg (by omega),if_neg (by omega),if_pos (by omega),if_neg (by omega),if_neg (by omega),own_spo i q hi hq,Option.bind_some,if_neg (by decide),e,if_pos w]
theorem own_wA0 (r i q:Nat) (m:OMem):f_wAt (r:Int) 0 (i:Int) (q:Int) m=some (own_sat (if q=i then 1 else 0)):=by
 unfold f_wAt f_wAt_b15
 rw [if_pos rfl]
 by_cases c:q=i
 ·rw [if_pos (by omega),if_pos c]; rfl
 ·rw [if_neg (by omega),if_neg c]; rfl
theorem own_wSt (r t i q:Nat) (v:Int) (hr:r<10) (ht:1≤t∧t≤3) (hi:i≤8) (hq:q≤8) (m:OMem):f_setW (r:Int) (t:Int) (i:Int) (q:Int) v m=some (sto m 6 (own_wi r t i q) v):=by
 obtain ⟨e,w⟩:=own_wif r t i q hr ht.2 hi hq
 unfold f_setW f_setW_b30
 rw [if_neg (by omega),if_pos (by omega),if_neg (by omega),if_neg (by omega),own_spo i q hi hq,Option.bind_some,if_neg (by decide),e,if_pos w]
abbrev own_Gm:Type:=Nat×(Nat→Nat)×(Nat→Nat)×(Nat→Nat→Nat)×Nat×(Nat→Nat)
def own_Gm.R (g:own_Gm):Nat:=g.1
def own_Gm.lhs (g:own_Gm):Nat→Nat:=g.2.1
def own_Gm.len (g:own_Gm):Nat→Nat:=g.2.2.1
def own_Gm.sym (g:own_Gm):Nat→Nat→Nat:=g.2.2.2.1
def own_Gm.n (g:own_Gm):Nat:=g.2.2.2.2.1
def own_Gm.tok (g:own_Gm):Nat→Nat:=g.2.2.2.2.2
def own_wf (g:own_Gm):Prop:=(g.R≤10∧g.n≤8)∧(∀ r,r<g.R→g.lhs r<4∧g.len r≤3∧∀ t,t<g.len r→g.sym r t<8)∧∀ p,p<g.n→g.tok p<4
def own_MG (g:own_Gm) (m:OMem):Prop:=(m 0 22=g.R∧m 0 23=g.n)∧(∀ r:Nat,r<g.R→m 1 (r:Int)=g.lhs r∧m 2 (r:Int)=g.len r∧∀ t:Nat,t<g.len r→m 3 ((r*3+t:Nat):Int)=g.sym r t)∧∀ p:Nat,p<g.n→m 4 (p:Int)=g.tok p
theorem own_MGt {g:own_Gm} {m m2:OMem} (h:∀ (k:Nat) i,(k=0∧(i=22∨i=23))∨(1≤k∧k≤4)→m2 k i=m k i) (M:own_MG g m):own_MG g m2:=by
 obtain ⟨⟨a,b⟩,c,d⟩:=M
 refine ⟨⟨by rw [h 0 22 (by omega)]; exact a,by rw [h 0 23 (by omega)]; exact b⟩,fun r hr=>?_,fun p hp=>by rw [h 4 _ (by omega)]; exact d p hp⟩
 obtain ⟨x,y,z⟩:=c r hr
 exact ⟨by rw [h 1 _ (by omega)]; exact x,by rw [h 2 _ (by omega)]; exact y,fun t ht=>by rw [h 3 _ (by omega)]; exact z t ht⟩
/- sums -/
def own_ss (f:Nat→Nat):Nat→Nat
 | 0=>0
 | k+1=>own_ss f k+f k
theorem own_ssc {f f':Nat→Nat}:∀ n:Nat,(∀ k,k<n→f' k=f k)→own_ss f' n=own_ss f n
 | 0,_=>rfl
 | n+1,h=>by
  show own_ss f' n+f' n=own_ss f n+f n
  rw [own_ssc n fun k hk=>h k (by omega),h n (by omega)]
theorem own_ssz {f:Nat→Nat}:∀ n:Nat,(∀ k,k<n→f k=0)→own_ss f n=0
 | 0,_=>rfl
 | n+1,h=>by
  show own_ss f n+f n=0
  rw [own_ssz n fun k hk=>h k (by omega),h n (by omega)]
theorem own_ssn {f:Nat→Nat}:∀ n:Nat,own_ss f n≠0→∃ k,k<n∧f k≠0
 | 0,h=>absurd rfl h
 | n+1,h=>by
  by_cases c:f n=0
  ·have:own_ss f n≠0:=fun z=>h (by show own_ss f n+f n=0; rw [z,c])
   obtain ⟨k,a,b⟩:=own_ssn n this
   exact ⟨k,by omega,b⟩
  ·exact ⟨n,by omega,c⟩
theorem own_ssl {f:Nat→Nat} (k:Nat):∀ n:Nat,k<n→f k≤own_ss f n
 | 0,h=>by omega
 | n+1,h=>by
  show f k≤own_ss f n+f n
  by_cases c:k=n
  ·rw [c]; omega
  ·have:=own_ssl (f:=f) k n (by omega); omega
theorem own_ss1 {f:Nat→Nat} (k:Nat):∀ n:Nat,k<n→(∀ j,j<n→j≠k→f j=0)→own_ss f n=f k
 | 0,h,_=>by omega
 | n+1,h,z=>by
  show own_ss f n+f n=f k
  by_cases c:k=n
  ·rw [c,own_ssz n fun j hj=>z j (by omega) (by omega),Nat.zero_add]
  ·rw [own_ss1 k n (by omega) fun j hj=>z j (by omega),z n (by omega) (by omega),Nat.add_zero]
theorem own_ssa (f f':Nat→Nat):∀ n:Nat,own_ss (fun k=>f k+f' k) n=own_ss f n+own_ss f' n
 | 0=>rfl
 | n+1=>by
  show own_ss (fun k=>f k+f' k) n+(f n+f' n)=own_ss f n+f n+(own_ss f' n+f' n)
  rw [own_ssa f f' n]; omega
theorem own_ssm (f:Nat→Nat) (c:Nat):∀ n:Nat,own_ss (fun k=>f k*c) n=own_ss f n*c
 | 0=>(Nat.zero_mul c).symm
 | n+1=>by
  show own_ss (fun k=>f k*c) n+f n*c=(own_ss f n+f n)*c
  rw [own_ssm f c n,Nat.add_mul]
theorem own_ssx (f:Nat→Nat→Nat) (a:Nat):∀ n:Nat,own_ss (fun i=>own_ss (fun j=>f i j) a) n=own_ss (fun j=>own_ss (fun i=>f i j) n) a
 | 0=>(own_ssz a fun _ _=>rfl).symm
 | n+1=>by
  show own_ss (fun i=>own_ss (fun j=>f i j) a) n+own_ss (fun j=>f n j) a=own_ss (fun j=>own_ss (fun i=>f i j) n+f n j) a
  rw [own_ssx f a n,own_ssa]
/- a symbol over a..b,the first t symbols of a rule over i..j,a nonterminal -/
def own_sy (g:own_Gm) (X:Nat→Nat→Nat→Nat) (s a b:Nat):Nat:=if s<4 then X s a b else if b=a+1∧a<g.n∧g.tok a=s - 4 then 1 else 0
def own_W (g:own_Gm) (X:Nat→Nat→Nat→Nat) (r:Nat):Nat→Nat→Nat→Nat
 | 0,i,j=>if j=i then 1 else 0
 | t+1,i,j=>own_ss (fun k=>own_W g X r t i (i+k)*own_sy g X (g.sym r t) (i+k) j) (j+1 - i)
def own_C (g:own_Gm) (X:Nat→Nat→Nat→Nat) (A i j:Nat):Nat:=own_ss (fun r=>if g.lhs r=A then own_W g X r (g.len r) i j else 0) g.R
theorem own_syc {g:own_Gm} {X X':Nat→Nat→Nat→Nat} {s a b:Nat} (h:s<4→X' s a b=X s a b):own_sy g X' s a b=own_sy g X s a b:=by
 unfold own_sy
 by_cases c:s<4
 ·rw [if_pos c,if_pos c,h c]
 ·rw [if_neg c,if_neg c]
theorem own_Wc {g:own_Gm} {X X':Nat→Nat→Nat→Nat} {r i:Nat}:∀ (t j:Nat),(∀ A a b,A<4→i≤a→a≤b→b≤j→X' A a b=X A a b)→own_W g X' r t i j=own_W g X r t i j
 | 0,j,_=>rfl
 | t+1,j,h=>by
  show own_ss (fun k=>own_W g X' r t i (i+k)*own_sy g X' (g.sym r t) (i+k) j) (j+1 - i)=own_ss (fun k=>own_W g X r t i (i+k)*own_sy g X (g.sym r t) (i+k) j) (j+1 - i)
  refine own_ssc _ fun k hk=>?_
  rw [own_Wc t (i+k) fun A a b u x y z=>h A a b u x y (by omega),own_syc fun u=>h _ _ _ u (by omega) (by omega) (Nat.le_refl _)]
theorem own_Cc {g:own_Gm} {X X':Nat→Nat→Nat→Nat} {A i j:Nat} (h:∀ A a b,A<4→i≤a→a≤b→b≤j→X' A a b=X A a b):own_C g X' A i j=own_C g X A i j:=by
 unfold own_C
 refine own_ssc _ fun r _=>?_
 rw [own_Wc _ _ h]
theorem own_sCt {g:own_Gm} {m:OMem} (F:own_wf g) (M:own_MG g m) (X:Nat→Nat→Nat→Nat) (s a b:Nat) (hs:s<8) (ha:a≤8) (hb:b≤8) (h5:s<4→m 5 (own_ci s a b)=own_sat (X s a b)):f_symCount (s:Int) (a:Int) (b:Int) m=some (own_sat (own_sy g X s a b)):=by
 unfold f_symCount f_symCount_b19 f_symCount_b69
 rw [if_neg (by omega),if_neg (by omega),own_spo a b ha hb,Option.bind_some,if_neg (by decide)]
 unfold own_sy
 by_cases c:s<4
 ·rw [if_pos (by omega),own_cAt s a b c ha hb,Option.bind_some,h5 c,if_pos c]
 ·rw [if_neg (by omega),if_neg c,w32_id (z:=(a:Int)+1) (by omega),M.1.2,w32_id (z:=(s:Int) - 4) (by omega)]
  by_cases d:b=a+1
  ·rw [if_pos (by omega)]
   by_cases e:a<g.n
   ·have n8:=F.1.2
    rw [if_pos (by omega),if_pos (by omega),if_pos (by omega),M.2.2 a e]
    by_cases f:g.tok a=s - 4
    ·rw [if_pos (by omega),if_pos ⟨d,e,f⟩]; rfl
    ·rw [if_neg (by omega),if_neg (fun z=>f z.2.2)]; rfl
   ·rw [if_neg (by omega),if_neg (fun z=>e z.2.1)]; rfl
  ·rw [if_neg (by omega),if_neg (fun z=>d z.1)]; rfl
theorem own_acc {m:OMem} {r i j t L s:Int} {I J:Nat} (hi:i=(I:Int)) (hj:j=(J:Int)) (hij:I≤J) (hj8:J≤8) (ht:1≤t∧t≤3) (w c:Nat→Nat) (hw:∀ q:Nat,I≤q→q≤J→f_wAt r (t - 1) i (q:Int) m=some (own_sat (w q))) (hc:∀ q:Nat,I≤q→q≤J→f_symCount s (q:Int) j m=some (own_sat (c q))):Ok (lp (f_computeRuleAt_l41 m r i j L t s) NN (0,i)) (fun v=>v=own_sat (own_ss (fun k=>w (I+k)*c (I+k)) (J+1 - I))):=by
 refine Ok.loop (fun z=>∃ k:Nat,k≤J+1 - I∧z.2=((I+k:Nat):Int)∧(Unit→z.1=own_sat (own_ss (fun k=>w (I+k)*c (I+k)) k))) (fun z=>(9 - z.2).toNat) ⟨0,Nat.zero_le _,by dsimp only; rw [hi]; rfl,fun _=>rfl⟩ (by dsimp only; omega) ?_
 rintro ⟨a,q⟩ ⟨k,hk,e1,e2⟩
 dsimp only at e1 e2
 subst e1
 unfold f_computeRuleAt_l41 f_computeRuleAt_b107
 dsimp only
 by_cases cq:j<((I+k:Nat):Int)
 ·rw [if_pos cq]
  refine Ok.ret ?_
  rw [e2 (),show k=J+1 - I by omega]
 ·rw [if_neg cq,if_neg (by omega),w32_id (z:=t - 1) (by omega),hw (I+k) (by omega) (by omega),Option.bind_some,w32_id (z:=((I+k:Nat):Int)+1) (by omega)]
  have sm:own_ss (fun k=>w (I+k)*c (I+k)) (k+1)=own_ss (fun k=>w (I+k)*c (I+k)) k+w (I+k)*c (I+k):=rfl
  by_cases cz:own_sat (w (I+k))=0
  ·rw [if_pos cz]
   refine Ok.ret ⟨⟨k+1,by omega,by dsimp only; omega,fun _=>?_⟩,by dsimp only; omega⟩
   dsimp only
   rw [sm,(own_sat0 _).mp cz,Nat.zero_mul,Nat.add_zero]
   exact e2 ()
  ·rw [if_neg cz,hc (I+k) (by omega) (by omega),Option.bind_some,own_sM,Option.bind_some,e2 (),own_sA,Option.bind_some]
   refine Ok.ret ⟨⟨k+1,by omega,by dsimp only; omega,fun _=>?_⟩,by dsimp only; omega⟩
   dsimp only
   rw [sm]
theorem own_syA {g:own_Gm} {m:OMem} (F:own_wf g) (M:own_MG g m) (r t:Nat) (hr:r<g.R) (ht:t<g.len r):f_symAt (r:Int) (t:Int) m=some (g.sym r t:Int):=by
 have R10:=F.1.1
 obtain ⟨f1,f2,f3⟩:=F.2.1 r hr
 have e:=(M.2.1 r hr).2.2 t ht
 unfold f_symAt f_symAt_b19
 rw [if_neg (by omega),if_pos (by omega),if_neg (by omega),if_neg (by omega),w32_id (z:=(r:Int)*3) (by omega),w32_id (z:=(r:Int)*3+(t:Int)) (by omega),if_pos (by omega),show (r:Int)*3+(t:Int)=((r*3+t:Nat):Int) by omega,e]
theorem own_cra {g:own_Gm} {m:OMem} (F:own_wf g) (M:own_MG g m) (X:Nat→Nat→Nat→Nat) (r i j:Nat) (hr:r<g.R) (hij:i≤j) (hj:j≤g.n) (h5:∀ A q:Nat,A<4→i≤q→q≤j→m 5 (own_ci A q j)=own_sat (X A q j)) (h6:∀ t q:Nat,1≤t→t≤g.len r→i≤q→q<j→m 6 (own_wi r t i q)=own_sat (own_W g X r t i q)):Ok (f_computeRuleAt (r:Int) (i:Int) (j:Int) m) (fun z=>(∀ t:Nat,1≤t→t≤g.len r→z 6 (own_wi r t i j)=own_sat (own_W g X r t i j))∧∀ (k:Nat) x,¬ (k=6∧∃ t:Nat,(1≤t∧t≤3)∧x=own_wi r t i j)→z k x=m k x):=by
 have R10:=F.1.1
 have n8:=F.1.2
 obtain ⟨f1,f2,f3⟩:=F.2.1 r hr
 have el:=(M.2.1 r hr).2.1
 unfold f_computeRuleAt f_computeRuleAt_b130
 rw [if_pos (by omega),el]
 refine Ok.bind (P:=fun z=>(∀ t:Nat,1≤t→t≤g.len r→z 6 (own_wi r t i j)=own_sat (own_W g X r t i j))∧∀ (k:Nat) x,¬ (k=6∧∃ t:Nat,(1≤t∧t≤3)∧x=own_wi r t i j)→z k x=m k x) ?_ fun z q=>Ok.ret q
 refine Ok.loop (fun s=>∃ t:Nat,s.1=(t:Int)∧(1≤t∧t≤g.len r+1)∧(∀ t':Nat,1≤t'→t'<t→s.2 6 (own_wi r t' i j)=own_sat (own_W g X r t' i j))∧∀ (k:Nat) x,¬ (k=6∧∃ t:Nat,(1≤t∧t≤3)∧x=own_wi r t i j)→s.2 k x=m k x) (fun s=>(5 - s.1).toNat) ⟨1,rfl,by omega,fun t' a b=>by omega,fun _ _ _=>rfl⟩ (by dsimp only; omega) ?_
 rintro ⟨_,z⟩ ⟨t,rfl,ht,h1,h2⟩
 dsimp only at h1 h2
 unfold f_computeRuleAt_l11 f_computeRuleAt_b113
 dsimp only
 by_cases c:(g.len r:Int)<(t:Int)
 ·rw [if_pos c]
  exact Ok.ret ⟨fun t' a b=>h1 t' a (by omega),h2⟩
 ·have Mz:own_MG g z:=own_MGt (fun k x u=>h2 k x (by omega)) M
  have sy:=own_syA F Mz r (t - 1) hr (by omega)
  have nx:∀ q t':Nat,q≤8→t'≤3→q≠j→¬ ((6:Nat)=6∧∃ t:Nat,(1≤t∧t≤3)∧own_wi r t' i q=own_wi r t i j):=fun q t' a a' b=>by
   rintro ⟨-,u,v,w⟩
   have:=(own_wix (by omega) (by omega) (by omega) a (by omega) (by omega)).mp w
   omega
  rw [if_neg c,if_neg (by omega),w32_id (z:=(t:Int) - 1) (by omega),show (t:Int) - 1=((t - 1:Nat):Int) by omega,sy,Option.bind_some]
  refine Ok.bind (own_acc (I:=i) (J:=j) rfl rfl hij (by omega) (by omega) (own_W g X r (t - 1) i) (fun q=>own_sy g X (g.sym r (t - 1)) q j) (fun q a b=>?_) (fun q a b=>?_)) fun v hv=>?_
  ·rw [show (t:Int) - 1=((t - 1:Nat):Int) by omega]
   by_cases t0:t - 1=0
   ·rw [t0]; exact own_wA0 r i q z
   ·rw [own_wAt r (t - 1) i q (by omega) (by omega) (by omega) (by omega)]
    by_cases e:q=j
    ·rw [e,h1 (t - 1) (by omega) (by omega)]
    ·rw [h2 6 _ (nx q (t - 1) (by omega) (by omega) e),h6 (t - 1) q (by omega) (by omega) a (by omega)]
  ·exact own_sCt F Mz X _ q j (f3 (t - 1) (by omega)) (by omega) (by omega) fun hs=>by rw [h2 5 _ (by omega)]; exact h5 _ q hs a b
  ·rw [own_wSt r t i j v (by omega) (by omega) (by omega) (by omega),Option.bind_some,w32_id (z:=(t:Int)+1) (by omega)]
   refine Ok.ret ⟨⟨t+1,rfl,by omega,fun t' a b=>?_,fun k x u=>?_⟩,by dsimp only; omega⟩
   ·dsimp only
    by_cases e:t'=t
    ·rw [e,sto_at,hv]
     obtain ⟨T,rfl⟩:∃ T,t=T+1:=⟨t - 1,by omega⟩
     rfl
    ·rw [sto_i _ _ _ _ (fun w=>e ((own_wix (by omega) (by omega) (by omega) (by omega) (by omega) (by omega)).mp w).2.1)]
     exact h1 t' a (by omega)
   ·dsimp only
    unfold sto
    rw [if_neg (fun w=>u ⟨w.1,t,by omega,w.2⟩)]
    exact h2 k x u
theorem own_sru {g:own_Gm} {m:OMem} (F:own_wf g) (M:own_MG g m) (X:Nat→Nat→Nat→Nat) (A i j:Nat) (hi:i≤8) (hj:j≤8) (h6:∀ r:Nat,r<g.R→1≤g.len r→m 6 (own_wi r (g.len r) i j)=own_sat (own_W g X r (g.len r) i j)):Ok (f_sumRules (A:Int) (i:Int) (j:Int) m) (fun v=>v=own_sat (own_C g X A i j)):=by
 have R10:=F.1.1
 unfold f_sumRules f_sumRules_b66
 refine Ok.bind (P:=fun v=>v=own_sat (own_C g X A i j)) ?_ fun v hv=>Ok.ret hv
 refine Ok.loop (fun s=>∃ r:Nat,r≤g.R∧s.2=(r:Int)∧(Unit→s.1=own_sat (own_ss (fun r=>if g.lhs r=A then own_W g X r (g.len r) i j else 0) r))) (fun s=>(11 - s.2).toNat) ⟨0,Nat.zero_le _,rfl,fun _=>rfl⟩ (by dsimp only; omega) ?_
 rintro ⟨a,_⟩ ⟨r,hr,rfl,e⟩
 dsimp only at e
 unfold f_sumRules_l6 f_sumRules_b60
 dsimp only
 rw [M.1.1]
 by_cases c:(r:Int)<(g.R:Int)
 ·have hr':r<g.R:=by omega
  obtain ⟨f1,f2,f3⟩:=F.2.1 r hr'
  obtain ⟨m1,m2,-⟩:=M.2.1 r hr'
  have sm:own_ss (fun r=>if g.lhs r=A then own_W g X r (g.len r) i j else 0) (r+1)=own_ss (fun r=>if g.lhs r=A then own_W g X r (g.len r) i j else 0) r+(if g.lhs r=A then own_W g X r (g.len r) i j else 0):=rfl
  rw [if_pos c,if_pos (by omega),if_pos (by omega),m1,m2,w32_id (z:=(r:Int)+1) (by omega)]
  by_cases d:g.lhs r=A
  ·have wv:f_wAt (r:Int) (g.len r:Int) (i:Int) (j:Int) m=some (own_sat (own_W g X r (g.len r) i j)):=by
    by_cases z:g.len r=0
    ·rw [z]; exact own_wA0 r i j m
    ·rw [own_wAt r (g.len r) i j (by omega) (by omega) hi hj,h6 r hr' (by omega)]
   rw [if_pos (by omega),if_pos (by omega),wv,Option.bind_some,e (),own_sA,Option.bind_some]
   refine Ok.ret ⟨⟨r+1,by omega,rfl,fun _=>?_⟩,by dsimp only; omega⟩
   dsimp only
   rw [sm,if_pos d]
  ·rw [if_neg (by omega)]
   refine Ok.ret ⟨⟨r+1,by omega,rfl,fun _=>?_⟩,by dsimp only; omega⟩
   dsimp only
   rw [sm,if_neg d]
   exact e ()
 ·rw [if_neg c]
  refine Ok.ret ?_
  rw [e (),show r=g.R by omega]
  rfl
/- the passes over a span -/
def own_up (X:Nat→Nat→Nat→Nat) (i j:Nat) (v:Nat→Nat):Nat→Nat→Nat→Nat:=fun A a b=>if a=i∧b=j then v A else X A a b
def own_v (g:own_Gm) (X:Nat→Nat→Nat→Nat) (i j:Nat):Nat→Nat→Nat
 | 0=>fun _=>0
 | p+1=>fun A=>own_C g (own_up X i j (own_v g X i j p)) A i j
theorem own_upo {X:Nat→Nat→Nat→Nat} {i j:Nat} {v:Nat→Nat} {A a b:Nat} (h:¬ (a=i∧b=j)):own_up X i j v A a b=X A a b:=if_neg h
theorem own_upa {X:Nat→Nat→Nat→Nat} {i j:Nat} {v:Nat→Nat} {A:Nat}:own_up X i j v A i j=v A:=if_pos ⟨rfl,rfl⟩
theorem own_csp {g:own_Gm} {m:OMem} (F:own_wf g) (M:own_MG g m) (X:Nat→Nat→Nat→Nat) (i j:Nat) (hij:i≤j) (hj:j≤g.n) (h5:∀ A q:Nat,A<4→i<q→q≤j→m 5 (own_ci A q j)=own_sat (X A q j)) (h6:∀ r t q:Nat,r<g.R→1≤t→t≤g.len r→i≤q→q<j→m 6 (own_wi r t i q)=own_sat (own_W g X r t i q)):Ok (f_computeSpan (i:Int) (j:Int) m) (fun z=>(∀ A:Nat,A<4→z 5 (own_ci A i j)=own_sat (own_v g X i j 5 A))∧(∀ r t:Nat,r<g.R→1≤t→t≤g.len r→z 6 (own_wi r t i j)=own_sat (own_W g (own_up X i j (own_v g X i j 4)) r t i j))∧∀ (k:Nat) x,¬ (k=5∧∃ A:Nat,A<4∧x=own_ci A i j)→¬ (k=6∧∃ r t:Nat,r<g.R∧(1≤t∧t≤3)∧x=own_wi r t i j)→z k x=m k x):=by
 have R10:=F.1.1
 have n8:=F.1.2
 -- off the span
 let fr:OMem→Prop:=fun z=>∀ (k:Nat) x,¬ (k=5∧∃ A:Nat,A<4∧x=own_ci A i j)→¬ (k=6∧∃ r t:Nat,r<g.R∧(1≤t∧t≤3)∧x=own_wi r t i j)→z k x=m k x
 have o5:∀ z,fr z→∀ A q:Nat,A<4→i<q→q≤j→z 5 (own_ci A q j)=own_sat (X A q j):=fun z hz A q a b c=>by
  rw [hz 5 _ (by
   rintro ⟨-,B,hB,e⟩
   have:=(own_cix (by omega) (by omega) (by omega) (by omega)).mp e
   omega) (by omega)]
  exact h5 A q a b c
 have o6:∀ z,fr z→∀ r t q:Nat,r<g.R→1≤t→t≤g.len r→i≤q→q<j→z 6 (own_wi r t i q)=own_sat (own_W g X r t i q):=fun z hz r t q a b c d e=>by
  have l3:=(F.2.1 r a).2.1
  rw [hz 6 _ (by omega) (by
   rintro ⟨-,r',t',a',b',e'⟩
   have:=(own_wix (by omega) (by omega) (by omega) (by omega) (by omega) (by omega)).mp e'
   omega)]
  exact h6 r t q a b c d e
 have oM:∀ z,fr z→own_MG g z:=fun z hz=>own_MGt (fun k x u=>hz k x (by omega) (by omega)) M
 unfold f_computeSpan
 refine Ok.bind (P:=fun z=>fr z∧∀ A:Nat,A<4→z 5 (own_ci A i j)=0) ?_ ?_
 ·refine Ok.loop (fun s=>∃ a:Nat,s.1=(a:Int)∧a≤4∧fr s.2∧∀ A:Nat,A<a→s.2 5 (own_ci A i j)=0) (fun s=>(5 - s.1).toNat) ⟨0,rfl,by decide,fun _ _ _ _=>rfl,fun A h=>by omega⟩ (by dsimp only; omega) ?_
  rintro ⟨_,z⟩ ⟨a,rfl,ha,h1,h2⟩
  dsimp only at h1 h2
  unfold f_computeSpan_l2
  dsimp only
  by_cases c:(a:Int)<4
  ·rw [if_pos c,own_cSt a i j 0 (by omega) (by omega) (by omega),Option.bind_some,w32_id (z:=(a:Int)+1) (by omega)]
   refine Ok.ret ⟨⟨a+1,rfl,by omega,fun k x u v=>?_,fun A hA=>?_⟩,by dsimp only; omega⟩
   ·dsimp only
    unfold sto
    rw [if_neg (fun w=>u ⟨w.1,a,by omega,w.2⟩)]
    exact h1 k x u v
   ·dsimp only
    by_cases e:A=a
    ·rw [e,sto_at]
    ·rw [sto_i _ _ _ _ (fun w=>e ((own_cix (by omega) (by omega) (by omega) (by omega)).mp w).1)]
     exact h2 A (by omega)
  ·rw [if_neg c]
   exact Ok.ret ⟨h1,fun A hA=>h2 A (by omega)⟩
 ·rintro m1 ⟨fr1,z1⟩
  refine Ok.bind (P:=fun z=>fr z∧(∀ A:Nat,A<4→z 5 (own_ci A i j)=own_sat (own_v g X i j 5 A))∧∀ r t:Nat,r<g.R→1≤t→t≤g.len r→z 6 (own_wi r t i j)=own_sat (own_W g (own_up X i j (own_v g X i j 4)) r t i j)) ?_ fun z q=>Ok.ret ⟨q.2.1,q.2.2,q.1⟩
  refine Ok.loop (fun s=>∃ p:Nat,s.1=(p:Int)∧p≤5∧fr s.2∧(∀ A:Nat,A<4→s.2 5 (own_ci A i j)=own_sat (own_v g X i j p A))∧(1≤p→∀ r t:Nat,r<g.R→1≤t→t≤g.len r→s.2 6 (own_wi r t i j)=own_sat (own_W g (own_up X i j (own_v g X i j (p - 1))) r t i j))) (fun s=>(6 - s.1).toNat) ⟨0,rfl,by decide,fr1,fun A hA=>z1 A hA,fun h=>by omega⟩ (by dsimp only; omega) ?_
  rintro ⟨_,z⟩ ⟨p,rfl,hp,h1,h2,h3⟩
  dsimp only at h1 h2 h3
  unfold f_computeSpan_l23 f_computeSpan_b61
  dsimp only
  by_cases c:(p:Int)<5
  ·rw [if_pos c]
   generalize hv:own_v g X i j p=vp at *
   refine Ok.bind (P:=fun y=>fr y∧(∀ A:Nat,A<4→y 5 (own_ci A i j)=own_sat (vp A))∧∀ r t:Nat,r<g.R→1≤t→t≤g.len r→y 6 (own_wi r t i j)=own_sat (own_W g (own_up X i j vp) r t i j)) ?_ ?_
   ·refine Ok.loop (fun s=>∃ r:Nat,s.1=(r:Int)∧r≤g.R∧fr s.2∧(∀ A:Nat,A<4→s.2 5 (own_ci A i j)=own_sat (vp A))∧∀ r' t:Nat,r'<r→1≤t→t≤g.len r'→s.2 6 (own_wi r' t i j)=own_sat (own_W g (own_up X i j vp) r' t i j)) (fun s=>(11 - s.1).toNat) ⟨0,rfl,Nat.zero_le _,h1,h2,fun r' t h=>by omega⟩ (by dsimp only; omega) ?_
    rintro ⟨_,y⟩ ⟨r,rfl,hr,g1,g2,g3⟩
    dsimp only at g1 g2 g3
    unfold f_computeSpan_l31
    dsimp only
    have My:=oM y g1
    rw [My.1.1]
    by_cases cr:(r:Int)<(g.R:Int)
    ·rw [if_pos cr,if_pos (by omega)]
     refine Ok.bind (own_cra F My (own_up X i j vp) r i j (by omega) hij hj (fun A q a b d=>?_) (fun t q a b d e=>?_)) fun w hw=>?_
     ·by_cases e:q=i
      ·rw [e,own_upa]; exact g2 A a
      ·rw [own_upo (by omega)]; exact o5 y g1 A q a (by omega) d
     ·rw [own_Wc t q fun A a b _ x y z=>own_upo (by omega)]
      exact o6 y g1 r t q (by omega) a b d e
     ·rw [w32_id (z:=(r:Int)+1) (by omega)]
      refine Ok.ret ⟨⟨r+1,rfl,by omega,fun k x u v=>?_,fun A hA=>?_,fun r' t a b d=>?_⟩,by dsimp only; omega⟩
      ·dsimp only
       rw [hw.2 k x (fun s=>v ⟨s.1,r,s.2.choose,by omega,s.2.choose_spec.1,s.2.choose_spec.2⟩)]
       exact g1 k x u v
      ·dsimp only
       rw [hw.2 5 _ (by omega)]; exact g2 A hA
      ·dsimp only
       by_cases e:r'=r
       ·rw [e] at d ⊢; exact hw.1 t b d
       ·have l3:=(F.2.1 r' (by omega)).2.1
        rw [hw.2 6 _ (by
         rintro ⟨-,t',a',e'⟩
         have:=(own_wix (by omega) (by omega) (by omega) (by omega) (by omega) (by omega)).mp e'
         omega)]
        exact g3 r' t (by omega) b d
    ·rw [if_neg cr]
     exact Ok.ret ⟨g1,g2,fun r' t a b d=>g3 r' t (by omega) b d⟩
   ·rintro y ⟨g1,g2,g3⟩
    refine Ok.bind (P:=fun w=>fr w∧(∀ A:Nat,A<4→w 5 (own_ci A i j)=own_sat (own_v g X i j (p+1) A))∧∀ r t:Nat,r<g.R→1≤t→t≤g.len r→w 6 (own_wi r t i j)=own_sat (own_W g (own_up X i j vp) r t i j)) ?_ fun w hw=>?_
    ·refine Ok.loop (fun s=>∃ a:Nat,s.1=(a:Int)∧a≤4∧fr s.2∧(∀ A:Nat,A<a→s.2 5 (own_ci A i j)=own_sat (own_v g X i j (p+1) A))∧∀ r t:Nat,r<g.R→1≤t→t≤g.len r→s.2 6 (own_wi r t i j)=own_sat (own_W g (own_up X i j vp) r t i j)) (fun s=>(5 - s.1).toNat) ⟨0,rfl,by decide,g1,fun A h=>by omega,g3⟩ (by dsimp only; omega) ?_
     rintro ⟨_,w⟩ ⟨a,rfl,ha,k1,k2,k3⟩
     dsimp only at k1 k2 k3
     unfold f_computeSpan_l64
     dsimp only
     by_cases ca:(a:Int)<4
     ·rw [if_pos ca]
      refine Ok.bind (own_sru F (oM w k1) (own_up X i j vp) a i j (by omega) (by omega) fun r hr hl=>k3 r _ hr hl (Nat.le_refl _)) fun v hv'=>?_
      rw [own_cSt a i j v (by omega) (by omega) (by omega),Option.bind_some,w32_id (z:=(a:Int)+1) (by omega)]
      refine Ok.ret ⟨⟨a+1,rfl,by omega,fun k x u v=>?_,fun A hA=>?_,fun r t x y z=>?_⟩,by dsimp only; omega⟩
      ·dsimp only
       unfold sto
       rw [if_neg (fun w=>u ⟨w.1,a,by omega,w.2⟩)]
       exact k1 k x u v
      ·dsimp only
       by_cases e:A=a
       ·rw [e,sto_at,hv']
        show _=own_sat (own_C g (own_up X i j (own_v g X i j p)) a i j)
        rw [hv]
       ·rw [sto_i _ _ _ _ (fun w=>e ((own_cix (by omega) (by omega) (by omega) (by omega)).mp w).1)]
        exact k2 A (by omega)
      ·dsimp only
       rw [sto_k _ _ _ _ (by decide)]; exact k3 r t x y z
     ·rw [if_neg ca]
      exact Ok.ret ⟨k1,fun A hA=>k2 A (by omega),k3⟩
    ·rw [w32_id (z:=(p:Int)+1) (by omega)]
     refine Ok.ret ⟨⟨p+1,rfl,by omega,hw.1,hw.2.1,fun _=>?_⟩,by dsimp only; omega⟩
     rw [show p+1 - 1=p from rfl,hv]
     exact hw.2.2
  ·rw [if_neg c]
   have:p=5:=by omega
   subst this
   exact Ok.ret ⟨h1,h2,h3 (by decide)⟩
def own_sp (g:own_Gm) (S:Nat→Nat→Nat→Prop) (r:Nat):Nat→Nat→Nat→Prop
 | 0,i,j=>i=j
 | t+1,i,j=>∃ q,(i≤q∧q≤j)∧own_sp g S r t i q∧(g.sym r t<4→S (g.sym r t) q j)∧(¬ g.sym r t<4→j=q+1∧q<g.n∧g.tok q=g.sym r t - 4)
def own_cl (g:own_Gm) (S:Nat→Nat→Nat→Prop):Prop:=∀ r,r<g.R→∀ i j,i≤j→own_sp g S r (g.len r) i j→S (g.lhs r) i j
def own_su (g:own_Gm) (X:Nat→Nat→Nat→Nat):Prop:=∀ A i j,X A i j≠0→i≤j∧∀ S,own_cl g S→S A i j
theorem own_Wsp {g:own_Gm} {X:Nat→Nat→Nat→Nat} {S:Nat→Nat→Nat→Prop} (h:∀ A a b,X A a b≠0→S A a b) (r i:Nat):∀ (t j:Nat),own_W g X r t i j≠0→i≤j∧own_sp g S r t i j
 | 0,j,hn=>by
  have:j=i:=by
   by_cases c:j=i
   ·exact c
   ·exact absurd (if_neg c) hn
  exact ⟨by omega,this.symm⟩
 | t+1,j,hn=>by
  obtain ⟨k,hk,z⟩:=own_ssn _ hn
  have z1:own_W g X r t i (i+k)≠0:=fun e=>z (by rw [e,Nat.zero_mul])
  have z2:own_sy g X (g.sym r t) (i+k) j≠0:=fun e=>z (by rw [e,Nat.mul_zero])
  obtain ⟨a,b⟩:=own_Wsp h r i t (i+k) z1
  refine ⟨by omega,i+k,by omega,b,fun c=>?_,fun c=>?_⟩
  ·unfold own_sy at z2
   rw [if_pos c] at z2
   exact h _ _ _ z2
  ·unfold own_sy at z2
   rw [if_neg c] at z2
   by_cases d:j=i+k+1∧i+k<g.n∧g.tok (i+k)=g.sym r t - 4
   ·exact d
   ·exact absurd (if_neg d) z2
theorem own_vsu {g:own_Gm} {X:Nat→Nat→Nat→Nat} {i j:Nat} (hij:i≤j) (h:own_su g X):∀ p,own_su g (own_up X i j (own_v g X i j p))
 | 0=>fun A a b z=>by
  by_cases c:a=i∧b=j
  ·exact absurd (if_pos c) z
  ·rw [own_upo c] at z; exact h A a b z
 | p+1=>fun A a b z=>by
  by_cases c:a=i∧b=j
  ·obtain ⟨rfl,rfl⟩:=c
   rw [own_upa] at z
   refine ⟨hij,fun S hS=>?_⟩
   obtain ⟨r,hr,zr⟩:=own_ssn _ z
   by_cases d:g.lhs r=A
   ·rw [if_pos d] at zr
    have:=(own_Wsp (S:=S) (fun A a b w=>(own_vsu hij h p A a b w).2 S hS) r a _ _ zr).2
    rw [← d]
    exact hS r hr _ _ hij this
   ·exact absurd (if_neg d) zr
  ·rw [own_upo c] at z; exact h A a b z
/- nullable,and ranks along the edges -/
def own_nlc (g:own_Gm) (nl:Nat→Prop):Prop:=∀ r,r<g.R→(∀ t,t<g.len r→g.sym r t<4∧nl (g.sym r t))→nl (g.lhs r)
theorem own_spn {g:own_Gm} {nl:Nat→Prop} (r i:Nat):∀ t,own_sp g (fun A i j=>i=j→nl A) r t i i→∀ t',t'<t→g.sym r t'<4∧nl (g.sym r t')
 | 0,_,t',h=>by omega
 | t+1,⟨q,hq,h1,h2,h3⟩,t',h=>by
  have:q=i:=by omega
  subst this
  by_cases c:t'=t
  ·subst c
   by_cases d:g.sym r t'<4
   ·exact ⟨d,h2 d rfl⟩
   ·have:=(h3 d).1; omega
  ·exact own_spn r q t h1 t' (by omega)
theorem own_nls {g:own_Gm} {nl:Nat→Prop} (N:own_nlc g nl):own_cl g (fun A i j=>i=j→nl A):=fun r hr i j _ h e=>by
 subst e
 exact N r hr (own_spn r i _ h)
def own_rk (g:own_Gm) (nl:Nat→Prop) (ρ:Nat→Nat):Prop:=(∀ A,A<4→ρ A≤3)∧∀ r,r<g.R→∀ t,t<g.len r→g.sym r t<4→(∀ t',t'<g.len r→t'≠t→g.sym r t'<4∧nl (g.sym r t'))→ρ (g.sym r t)<ρ (g.lhs r)
theorem own_dep {g:own_Gm} {nl:Nat→Prop} {ρ:Nat→Nat} (N:own_nlc g nl) (K:own_rk g nl ρ) {X:Nat→Nat→Nat→Nat} {i j:Nat} (hij:i≤j) {v v':Nat→Nat} (U:own_su g (own_up X i j v)) (U':own_su g (own_up X i j v')) (r:Nat) (hr:r<g.R) (hv:∀ B,B<4→ρ B<ρ (g.lhs r)→v' B=v B):∀ t,t≤g.len r→(∀ t',t≤t'→t'<g.len r→g.sym r t'<4∧nl (g.sym r t'))→own_W g (own_up X i j v') r t i j=own_W g (own_up X i j v) r t i j
 | 0,_,_=>rfl
 | t+1,ht,hn=>by
  have nz:∀ {u:Nat→Nat},own_su g (own_up X i j u)→∀ a,own_W g (own_up X i j u) r t a a≠0→∀ t',t'<t→g.sym r t'<4∧nl (g.sym r t'):=fun {u} Uu a z=>own_spn r a t (own_Wsp (S:=fun A i j=>i=j→nl A) (fun A a b w=>(Uu A a b w).2 _ (own_nls N)) r a t a z).2
  have yz:∀ {u:Nat→Nat},own_su g (own_up X i j u)→∀ a,own_sy g (own_up X i j u) (g.sym r t) a a≠0→g.sym r t<4∧nl (g.sym r t):=fun {u} Uu a z=>by
   unfold own_sy at z
   by_cases c:g.sym r t<4
   ·rw [if_pos c] at z
    exact ⟨c,(Uu _ _ _ z).2 _ (own_nls N) rfl⟩
   ·rw [if_neg c,if_neg (by omega)] at z
    exact absurd rfl z
  have IH:(g.sym r t<4∧nl (g.sym r t))→own_W g (own_up X i j v') r t i j=own_W g (own_up X i j v) r t i j:=fun h=>own_dep N K hij U U' r hr hv t (by omega) fun t' a b=>by
   by_cases c:t'=t
   ·rw [c]; exact h
   ·exact hn t' (by omega) b
  -- where the symbols before are nullable,the symbol itself is along an edge
  have ed:(∀ t',t'<t→g.sym r t'<4∧nl (g.sym r t'))→own_sy g (own_up X i j v') (g.sym r t) i j=own_sy g (own_up X i j v) (g.sym r t) i j:=fun h=>own_syc fun c=>by
   rw [own_upa,own_upa]
   exact hv _ c (K.2 r hr t (by omega) c fun t' a b=>by
    by_cases d:t'<t
    ·exact h t' d
    ·exact hn t' (by omega) a)
  refine own_ssc _ fun k hk=>?_
  by_cases c:i=j
  ·subst c
   have:k=0:=by omega
   subst this
   show own_W g (own_up X i i v') r t i i*own_sy g (own_up X i i v') (g.sym r t) i i=own_W g (own_up X i i v) r t i i*own_sy g (own_up X i i v) (g.sym r t) i i
   have go:(∀ t',t'<t→g.sym r t'<4∧nl (g.sym r t'))→own_W g (own_up X i i v') r t i i*own_sy g (own_up X i i v') (g.sym r t) i i=own_W g (own_up X i i v) r t i i*own_sy g (own_up X i i v) (g.sym r t) i i:=fun h=>by
    rw [ed h]
    by_cases y:own_sy g (own_up X i i v) (g.sym r t) i i=0
    ·rw [y,Nat.mul_zero,Nat.mul_zero]
    ·rw [IH (yz U i y)]
   by_cases z:own_W g (own_up X i i v) r t i i=0
   ·by_cases z':own_W g (own_up X i i v') r t i i=0
    ·rw [z,z',Nat.zero_mul,Nat.zero_mul]
    ·exact go (nz U' i z')
   ·exact go (nz U i z)
  ·by_cases cj:i+k=j
   ·have e:own_sy g (own_up X i j v') (g.sym r t) (i+k) j=own_sy g (own_up X i j v) (g.sym r t) (i+k) j:=own_syc fun _=>by rw [own_upo (by omega),own_upo (by omega)]
    rw [e]
    by_cases y:own_sy g (own_up X i j v) (g.sym r t) (i+k) j=0
    ·rw [y,Nat.mul_zero,Nat.mul_zero]
    ·rw [cj] at y ⊢
     rw [IH (yz U j y)]
   ·have w:own_W g (own_up X i j v') r t i (i+k)=own_W g (own_up X i j v) r t i (i+k):=own_Wc t (i+k) fun A a b _ _ _ _=>by rw [own_upo (by omega),own_upo (by omega)]
    rw [w]
    by_cases ck:k=0
    ·subst ck
     rw [show i+0=i from rfl]
     by_cases z:own_W g (own_up X i j v) r t i i=0
     ·rw [z,Nat.zero_mul,Nat.zero_mul]
     ·rw [ed (nz U i z)]
    ·have e:own_sy g (own_up X i j v') (g.sym r t) (i+k) j=own_sy g (own_up X i j v) (g.sym r t) (i+k) j:=own_syc fun _=>by rw [own_upo (by omega),own_upo (by omega)]
     rw [e]
theorem own_cvg {g:own_Gm} {nl:Nat→Prop} {ρ:Nat→Nat} (N:own_nlc g nl) (K:own_rk g nl ρ) {X:Nat→Nat→Nat→Nat} {i j:Nat} (hij:i≤j) (U:own_su g X):∀ p A,A<4→ρ A<p→own_v g X i j (p+1) A=own_v g X i j p A
 | 0,A,_,h=>by omega
 | p+1,A,hA,h=>by
  show own_C g (own_up X i j (own_v g X i j (p+1))) A i j=own_C g (own_up X i j (own_v g X i j p)) A i j
  unfold own_C
  refine own_ssc _ fun r hr=>?_
  by_cases c:g.lhs r=A
  ·rw [if_pos c,if_pos c]
   exact own_dep N K hij (own_vsu hij U p) (own_vsu hij U (p+1)) r hr (fun B hB l=>own_cvg N K hij U p B hB (by rw [c] at l; omega)) _ (Nat.le_refl _) fun t' a b=>by omega
  ·rw [if_neg c,if_neg c]
/- a span is done: its counts are those of the rules -/
theorem own_fxs {g:own_Gm} {nl:Nat→Prop} {ρ:Nat→Nat} (N:own_nlc g nl) (K:own_rk g nl ρ) {X:Nat→Nat→Nat→Nat} {i j:Nat} (hij:i≤j) (U:own_su g X):(∀ A,A<4→own_v g X i j 5 A=own_C g (own_up X i j (own_v g X i j 5)) A i j)∧∀ r t,own_W g (own_up X i j (own_v g X i j 4)) r t i j=own_W g (own_up X i j (own_v g X i j 5)) r t i j:=by
 have e:∀ A,A<4→own_v g X i j 5 A=own_v g X i j 4 A:=fun A hA=>own_cvg N K hij U 4 A hA (by have:=K.1 A hA; omega)
 have u:∀ A a b,A<4→own_up X i j (own_v g X i j 5) A a b=own_up X i j (own_v g X i j 4) A a b:=fun A a b hA=>by
  unfold own_up
  split
  ·exact e A hA
  ·rfl
 refine ⟨fun A hA=>?_,fun r t=>(own_Wc t j fun A a b hA _ _ _=>u A a b hA).symm⟩
 show own_C g (own_up X i j (own_v g X i j 4)) A i j=_
 exact (own_Cc fun A a b hA _ _ _=>u A a b hA).symm
theorem own_rex {g:own_Gm} {m:OMem} (F:own_wf g) (M:own_MG g m) (r:Nat) (hr:r<g.R):f_ruleExists (r:Int) m=some 1:=by
 have:=F.1.1
 unfold f_ruleExists f_ruleExists_b23 f_ruleExists_b22
 rw [if_neg (by omega),M.1.1,if_pos (by omega),if_pos (by omega)]
 rfl
theorem own_onS {g:own_Gm} {m:OMem} (F:own_wf g) (M:own_MG g m) (r:Nat) (hr:r<g.R) (sk:Int):Ok (f_othersNullable (r:Int) sk m) (fun v=>(v=0∧¬ ∀ t:Nat,t<g.len r→(t:Int)≠sk→g.sym r t<4∧m 7 (g.sym r t:Int)≠0)∨(v=1∧∀ t:Nat,t<g.len r→(t:Int)≠sk→g.sym r t<4∧m 7 (g.sym r t:Int)≠0)):=by
 have R10:=F.1.1
 obtain ⟨f1,f2,f3⟩:=F.2.1 r hr
 obtain ⟨m1,m2,m3⟩:=M.2.1 r hr
 unfold f_othersNullable f_othersNullable_b75 f_othersNullable_b83
 rw [own_rex F M r hr,Option.bind_some,if_neg (by decide),if_pos (by omega),m2]
 refine Ok.bind (P:=fun e=>(∀ u,e=Sum.inl u→¬ ∀ t:Nat,t<g.len r→(t:Int)≠sk→g.sym r t<4∧m 7 (g.sym r t:Int)≠0)∧∀ u,e=Sum.inr u→∀ t:Nat,t<g.len r→(t:Int)≠sk→g.sym r t<4∧m 7 (g.sym r t:Int)≠0) ?_ fun e he=>?_
 ·refine Ok.loop (fun s=>∃ t:Nat,s=(t:Int)∧t≤g.len r∧∀ t':Nat,t'<t→(t':Int)≠sk→g.sym r t'<4∧m 7 (g.sym r t':Int)≠0) (fun s=>(4 - s).toNat) ⟨0,rfl,Nat.zero_le _,fun t' h=>by omega⟩ (by omega) ?_
  rintro _ ⟨t,rfl,ht,h⟩
  unfold f_othersNullable_l20 f_othersNullable_b77
  by_cases c:(t:Int)<(g.len r:Int)
  ·rw [if_pos c,if_pos (by omega),w32_id (z:=(t:Int)+1) (by omega),w32_id (z:=(r:Int)*3) (by omega),w32_id (z:=(r:Int)*3+(t:Int)) (by omega),show (r:Int)*3+(t:Int)=((r*3+t:Nat):Int) by omega,m3 t (by omega)]
   have nx:(∀ (_:(t:Int)≠sk),g.sym r t<4∧m 7 (g.sym r t:Int)≠0)→∀ t':Nat,t'<t+1→(t':Int)≠sk→g.sym r t'<4∧m 7 (g.sym r t':Int)≠0:=fun z t' a b=>by
    by_cases e:t'=t
    ·rw [e] at b ⊢; exact z b
    ·exact h t' (by omega) b
   by_cases d:(t:Int)=sk
   ·rw [if_pos d]
    exact Ok.ret ⟨⟨t+1,rfl,by omega,nx fun z=>absurd d z⟩,by omega⟩
   ·rw [if_neg d,if_pos (by omega),if_neg (by omega)]
    by_cases e:g.sym r t<4
    ·rw [if_pos (by omega),if_pos (by omega)]
     by_cases z:m 7 (g.sym r t:Int)=0
     ·rw [if_pos z]
      exact Ok.ret ⟨fun u _ w=>(w t (by omega) d).2 z,fun u hu=>by cases hu⟩
     ·rw [if_neg z]
      exact Ok.ret ⟨⟨t+1,rfl,by omega,nx fun _=>⟨e,z⟩⟩,by omega⟩
    ·rw [if_neg (by omega)]
     exact Ok.ret ⟨fun u _ w=>e (w t (by omega) d).1,fun u hu=>by cases hu⟩
  ·rw [if_neg c]
   exact Ok.ret ⟨fun u hu=>(by cases hu),fun u _ t' a=>h t' (by omega)⟩
 ·cases e with
  | inl u=>exact Ok.ret (Or.inl ⟨rfl,he.1 u rfl⟩)
  | inr u=>exact Ok.ret (Or.inr ⟨rfl,he.2 u rfl⟩)
/- how many aren't known to be nullable -/
def own_Zn (m:OMem):Nat:=own_ss (fun A=>if m 7 (A:Int)=0 then 1 else 0) 4
theorem own_Zns {m:OMem} {A:Nat} (hA:A<4) (h:m 7 (A:Int)=0):own_Zn (sto m 7 (A:Int) 1)+1=own_Zn m:=by
 have o:∀ B:Nat,B≠A→(sto m 7 (A:Int) 1) 7 (B:Int)=m 7 (B:Int):=fun B hB=>sto_i _ _ _ _ (by omega)
 have a:(sto m 7 (A:Int) 1) 7 (A:Int)=1:=sto_at _ _ _ _
 have:∀ n,(if A<n then 1 else 0)+own_ss (fun B=>if (sto m 7 (A:Int) 1) 7 (B:Int)=0 then 1 else 0) n=own_ss (fun B=>if m 7 (B:Int)=0 then 1 else 0) n:=fun n=>by
  induction n with
  | zero=>rfl
  | succ n ih =>
   show _+(own_ss _ n+(if (sto m 7 (A:Int) 1) 7 (n:Int)=0 then 1 else 0))=own_ss _ n+(if m 7 (n:Int)=0 then 1 else 0)
   rw [← ih]
   by_cases c:n=A
   ·subst c
    rw [a,if_neg (show ¬ (1:Int)=0 by decide),h,if_pos (show (0:Int)=0 from rfl),if_pos (show n<n+1 by omega),if_neg (show ¬ n<n by omega)]
    omega
   ·rw [o n c]
    by_cases d:A<n
    ·rw [if_pos d,if_pos (by omega)]; omega
    ·rw [if_neg d,if_neg (by omega)]; omega
 have:=this 4
 rw [if_pos hA] at this
 unfold own_Zn
 omega
theorem own_nuS {g:own_Gm} {m:OMem} (F:own_wf g) (M:own_MG g m):Ok (f_computeNullable m) (fun z=>own_nlc g (fun A=>z 7 (A:Int)≠0)∧∀ (k:Nat) x,k≠7→z k x=m k x):=by
 have R10:=F.1.1
 unfold f_computeNullable f_computeNullable_b112
 refine Ok.bind (P:=fun z=>∀ (k:Nat) x,k≠7→z k x=m k x) ?_ ?_
 ·refine Ok.loop (fun s=>(0≤s.1∧s.1≤4)∧∀ (k:Nat) x,k≠7→s.2 k x=m k x) (fun s=>(4 - s.1).toNat) ⟨by dsimp only; omega,fun _ _ _=>rfl⟩ (by dsimp only; omega) ?_
  rintro ⟨a,z⟩ ⟨ha,h⟩
  dsimp only at ha h
  unfold f_computeNullable_l2
  dsimp only
  by_cases c:a<4
  ·rw [if_pos c,if_pos (by omega),w32_id (z:=a+1) (by omega)]
   exact Ok.ret ⟨⟨by dsimp only; omega,fun k x u=>by dsimp only; rw [sto_k _ _ _ _ u]; exact h k x u⟩,by dsimp only; omega⟩
  ·rw [if_neg c]; exact Ok.ret h
 ·intro m1 f1
  refine Ok.bind (P:=fun e=>(∀ z,e=Sum.inl z→own_nlc g (fun A=>z 7 (A:Int)≠0)∧∀ (k:Nat) x,k≠7→z k x=m k x)∧∀ z,e=Sum.inr z→False) ?_ fun e he=>?_
  ·refine Ok.loop (fun s=>(0≤s.1∧s.1≤5)∧(own_Zn s.2:Int)+s.1≤4∧∀ (k:Nat) x,k≠7→s.2 k x=m k x) (fun s=>(6 - s.1).toNat) ⟨by dsimp only; omega,?_,f1⟩ (by dsimp only; omega) ?_
   ·dsimp only
    unfold own_Zn
    show ((0+(if m1 7 0=0 then 1 else 0)+(if m1 7 1=0 then 1 else 0)+(if m1 7 2=0 then 1 else 0)+(if m1 7 3=0 then 1 else 0):Nat):Int)+0≤4
    repeat' split
    all_goals decide
   ·rintro ⟨p,y⟩ ⟨hp,hz,h⟩
    dsimp only at hp hz h
    unfold f_computeNullable_l22 f_computeNullable_b99
    dsimp only
    rw [if_pos (by omega)]
    have My:own_MG g y:=own_MGt (fun k x u=>h k x (by omega)) M
    refine Ok.bind (P:=fun r=>((r.1=0∧own_nlc g (fun A=>r.2 7 (A:Int)≠0))∨(r.1=1∧own_Zn r.2+1≤own_Zn y))∧∀ (k:Nat) x,k≠7→r.2 k x=m k x) ?_ ?_
    ·refine Ok.loop (fun s=>∃ r:Nat,s.2.1=(r:Int)∧r≤g.R∧((s.1=0∧(∀ x,s.2.2 7 x=y 7 x)∧∀ r',r'<r→(∀ t,t<g.len r'→g.sym r' t<4∧y 7 (g.sym r' t:Int)≠0)→y 7 (g.lhs r':Int)≠0)∨(s.1=1∧own_Zn s.2.2+1≤own_Zn y))∧∀ (k:Nat) x,k≠7→s.2.2 k x=m k x) (fun s=>(11 - s.2.1).toNat) ⟨0,rfl,Nat.zero_le _,Or.inl ⟨rfl,fun _=>rfl,fun r' h=>by omega⟩,h⟩ (by dsimp only; omega) ?_
     rintro ⟨x2,_,z⟩ ⟨r,rfl,hr,hd,hf⟩
     dsimp only at hd hf
     have Mz:own_MG g z:=own_MGt (fun k x u=>hf k x (by omega)) M
     unfold f_computeNullable_l31 f_computeNullable_b93
     dsimp only
     rw [Mz.1.1]
     by_cases c:(r:Int)<(g.R:Int)
     ·have hr':r<g.R:=by omega
      obtain ⟨l1,l2,l3⟩:=F.2.1 r hr'
      obtain ⟨n1,n2,n3⟩:=Mz.2.1 r hr'
      rw [if_pos c,if_pos (by omega),if_pos (by omega),n1,if_neg (by omega),if_pos (by omega),if_pos (by omega),w32_id (z:=(r:Int)+1) (by omega)]
      -- nothing is set for this rule
      have skip:(x2=0→(∀ t,t<g.len r→g.sym r t<4∧y 7 (g.sym r t:Int)≠0)→y 7 (g.lhs r:Int)≠0)→((x2=0∧(∀ x,z 7 x=y 7 x)∧∀ r',r'<r+1→(∀ t,t<g.len r'→g.sym r' t<4∧y 7 (g.sym r' t:Int)≠0)→y 7 (g.lhs r':Int)≠0)∨(x2=1∧own_Zn z+1≤own_Zn y)):=fun hs=>by
       rcases hd with ⟨a,b,d⟩ | ⟨a,b⟩
       ·refine Or.inl ⟨a,b,fun r' hr'=>?_⟩
        by_cases e:r'=r
        ·rw [e]; exact hs a
        ·exact d r' (by omega)
       ·exact Or.inr ⟨a,b⟩
      by_cases d:z 7 (g.lhs r:Int)=0
      ·rw [if_pos d]
       refine Ok.bind (own_onS F Mz r hr' (-1)) fun v hv=>?_
       rcases hv with ⟨rfl,hv⟩ | ⟨rfl,hv⟩
       ·rw [if_pos rfl]
        refine Ok.ret ⟨⟨r+1,rfl,by omega,skip fun x0 w=>absurd (fun t ht _=>?_) hv,hf⟩,by dsimp only; omega⟩
        rcases hd with ⟨a,b,_⟩ | ⟨a,_⟩
        ·rw [b]; exact w t ht
        ·omega
       ·rw [if_neg (by decide),if_pos (by omega)]
        have zz:=own_Zns l1 d
        refine Ok.ret ⟨⟨r+1,rfl,by omega,Or.inr ⟨rfl,?_⟩,fun k x u=>by dsimp only; rw [sto_k _ _ _ _ u]; exact hf k x u⟩,by dsimp only; omega⟩
        dsimp only
        have zy:own_Zn z≤own_Zn y:=by
         rcases hd with ⟨a,b,_⟩ | ⟨a,b⟩
         ·unfold own_Zn
          rw [own_ssc 4 fun k _=>by rw [b]]
          exact Nat.le_refl _
         ·omega
        omega
      ·rw [if_neg d]
       refine Ok.ret ⟨⟨r+1,rfl,by omega,skip fun x0 _=>?_,hf⟩,by dsimp only; omega⟩
       rcases hd with ⟨a,b,_⟩ | ⟨a,_⟩
       ·rw [← b]; exact d
       ·omega
     ·rw [if_neg c]
      refine Ok.ret ⟨?_,hf⟩
      rcases hd with ⟨a,b,d⟩ | ⟨a,b⟩
      ·refine Or.inl ⟨a,fun r' hr' w=>?_⟩
       dsimp only at w ⊢
       rw [b]
       exact d r' (by omega) fun t ht=>by have:=w t ht; rw [b] at this; exact this
      ·exact Or.inr ⟨a,b⟩
    ·rintro ⟨x2,z⟩ ⟨hd,hf⟩
     dsimp only at hd hf ⊢
     rcases hd with ⟨rfl,hd⟩ | ⟨rfl,hd⟩
     ·rw [if_pos rfl]
      exact Ok.ret ⟨fun w hw=>by cases hw; exact ⟨hd,hf⟩,fun w hw=>by cases hw⟩
     ·rw [if_neg (by decide),w32_id (z:=p+1) (by omega)]
      exact Ok.ret ⟨⟨by dsimp only; omega,by dsimp only; omega,hf⟩,by dsimp only; omega⟩
  ·cases e with
   | inl z=>exact Ok.ret (he.1 z rfl)
   | inr z=>exact absurd rfl (fun h=>he.2 z h)
def own_E (m:OMem) (a b:Nat):Prop:=m 8 ((a*4+b:Nat):Int)≠0
def own_oth (g:own_Gm) (nl:Nat→Prop) (r t:Nat):Prop:=∀ t',t'<g.len r→t'≠t→g.sym r t'<4∧nl (g.sym r t')
theorem own_aeS {g:own_Gm} {m:OMem} (F:own_wf g) (M:own_MG g m) (r:Nat) (hr:r<g.R):Ok (f_addEdges (r:Int) m) (fun z=>(∀ x,m 8 x≠0→z 8 x≠0)∧(∀ t,t<g.len r→g.sym r t<4→own_oth g (fun A=>m 7 (A:Int)≠0) r t→own_E z (g.lhs r) (g.sym r t))∧∀ (k:Nat) x,k≠8→z k x=m k x):=by
 have R10:=F.1.1
 obtain ⟨f1,f2,f3⟩:=F.2.1 r hr
 obtain ⟨m1,m2,m3⟩:=M.2.1 r hr
 unfold f_addEdges f_addEdges_b99
 rw [own_rex F M r hr,Option.bind_some,if_neg (by decide),if_pos (by omega),if_pos (by omega),m1,m2]
 refine Ok.bind (P:=fun z=>(∀ x,m 8 x≠0→z 8 x≠0)∧(∀ t,t<g.len r→g.sym r t<4→own_oth g (fun A=>m 7 (A:Int)≠0) r t→own_E z (g.lhs r) (g.sym r t))∧∀ (k:Nat) x,k≠8→z k x=m k x) ?_ fun z q=>Ok.ret q
 refine Ok.loop (fun s=>∃ t:Nat,s.1=(t:Int)∧t≤g.len r∧(∀ x,m 8 x≠0→s.2 8 x≠0)∧(∀ t',t'<t→g.sym r t'<4→own_oth g (fun A=>m 7 (A:Int)≠0) r t'→own_E s.2 (g.lhs r) (g.sym r t'))∧∀ (k:Nat) x,k≠8→s.2 k x=m k x) (fun s=>(4 - s.1).toNat) ⟨0,rfl,Nat.zero_le _,fun _ h=>h,fun t' h=>by omega,fun _ _ _=>rfl⟩ (by dsimp only; omega) ?_
 rintro ⟨_,z⟩ ⟨t,rfl,ht,h1,h2,h3⟩
 dsimp only at h1 h2 h3
 have Mz:own_MG g z:=own_MGt (fun k x u=>h3 k x (by omega)) M
 unfold f_addEdges_l26 f_addEdges_b93
 dsimp only
 by_cases c:(t:Int)<(g.len r:Int)
 ·have n3:=(Mz.2.1 r hr).2.2 t (by omega)
  rw [if_pos c,if_pos (by omega),w32_id (z:=(r:Int)*3) (by omega),w32_id (z:=(r:Int)*3+(t:Int)) (by omega),if_pos (by omega),show (r:Int)*3+(t:Int)=((r*3+t:Nat):Int) by omega,n3,if_neg (by omega),w32_id (z:=(t:Int)+1) (by omega)]
  have skip:(g.sym r t<4→¬ own_oth g (fun A=>m 7 (A:Int)≠0) r t)→∀ t',t'<t+1→g.sym r t'<4→own_oth g (fun A=>m 7 (A:Int)≠0) r t'→own_E z (g.lhs r) (g.sym r t'):=fun w t' a b d=>by
   by_cases e:t'=t
   ·rw [e] at b d; exact absurd d (w b)
   ·exact h2 t' (by omega) b d
  by_cases d:g.sym r t<4
  ·rw [if_pos (by omega),if_neg (by omega),if_pos (by omega)]
   refine Ok.bind (own_onS F Mz r hr (t:Int)) fun v hv=>?_
   have eq:(∀ t':Nat,t'<g.len r→(t':Int)≠(t:Int)→g.sym r t'<4∧z 7 (g.sym r t':Int)≠0)↔own_oth g (fun A=>m 7 (A:Int)≠0) r t:=by
    constructor
    ·intro w t' a b
     have:=w t' a (by omega)
     rw [h3 7 _ (by decide)] at this
     exact this
    ·intro w t' a b
     rw [h3 7 _ (by decide)]
     exact w t' a (by omega)
   rw [eq] at hv
   rcases hv with ⟨rfl,hv⟩ | ⟨rfl,hv⟩
   ·rw [if_pos rfl]
    exact Ok.ret ⟨⟨t+1,rfl,by omega,h1,skip fun _=>hv,h3⟩,by dsimp only; omega⟩
   ·rw [if_neg (by decide),w32_id (z:=(g.lhs r:Int)*4) (by omega),w32_id (z:=(g.lhs r:Int)*4+(g.sym r t:Int)) (by omega),if_pos (by omega)]
    refine Ok.ret ⟨⟨t+1,rfl,by omega,fun x u=>?_,fun t' a b e=>?_,fun k x u=>by dsimp only; rw [sto_k _ _ _ _ u]; exact h3 k x u⟩,by dsimp only; omega⟩
    ·dsimp only
     unfold sto
     split
     ·decide
     ·exact h1 x u
    ·dsimp only
     unfold own_E sto
     by_cases q:t'=t
     ·rw [q,if_pos ⟨rfl,by omega⟩]; decide
     ·split
      ·decide
      ·exact h2 t' (by omega) b e
  ·rw [if_neg (by omega)]
   exact Ok.ret ⟨⟨t+1,rfl,by omega,h1,skip fun w=>absurd w d,h3⟩,by dsimp only; omega⟩
 ·rw [if_neg c]
  exact Ok.ret ⟨h1,fun t' a=>h2 t' (by omega),h3⟩
theorem own_d4 (x:Nat) (h:x<16):div32 (x:Int) 4=((x / 4:Nat):Int)∧rem32 (x:Int) 4=((x % 4:Nat):Int):=by
 have:∀ t:Fin 16,div32 (t.val:Int) 4=((t.val / 4:Nat):Int)∧rem32 (t.val:Int) 4=((t.val % 4:Nat):Int):=by decide +kernel
 exact this ⟨x,h⟩
/- one middle -/
theorem own_waS (k:Nat) (hk:k<4) (m:OMem):Ok (lp (f_computeReach_l57 (k:Int)) NN (0,m)) (fun z=>(∀ a b,a<4→b<4→(own_E z a b↔own_E m a b∨(own_E m a k∧own_E m k b)))∧∀ (q:Nat) x,q≠8→z q x=m q x):=by
 refine Ok.loop (fun s=>∃ x:Nat,s.1=(x:Int)∧x≤16∧(∀ a b,a<4→b<4→(own_E s.2 a b↔own_E m a b∨(a*4+b<x∧own_E m a k∧own_E m k b)))∧∀ (q:Nat) y,q≠8→s.2 q y=m q y) (fun s=>(17 - s.1).toNat) ⟨0,rfl,by decide,fun a b _ _=>⟨Or.inl,fun h=>h.elim id fun h=>by omega⟩,fun _ _ _=>rfl⟩ (by dsimp only; omega) ?_
 rintro ⟨_,z⟩ ⟨x,rfl,hx,h1,h2⟩
 dsimp only at h1 h2
 unfold f_computeReach_l57 f_computeReach_b106
 dsimp only
 by_cases c:(x:Int)<16
 ·obtain ⟨d1,d2⟩:=own_d4 x (by omega)
  have e1:=h1 (x / 4) k (by omega) hk
  have e2:=h1 k (x % 4) hk (by omega)
  have e1':own_E z (x / 4) k↔own_E m (x / 4) k:=e1.trans ⟨fun h=>h.elim id fun h=>h.2.1,Or.inl⟩
  have e2':own_E z k (x % 4)↔own_E m k (x % 4):=e2.trans ⟨fun h=>h.elim id fun h=>h.2.2,Or.inl⟩
  unfold own_E at e1' e2'
  rw [if_pos c,d1,d2,w32_id (z:=((x / 4:Nat):Int)*4) (by omega),w32_id (z:=((x / 4:Nat):Int)*4+(k:Int)) (by omega),w32_id (z:=(k:Int)*4) (by omega),w32_id (z:=(k:Int)*4+((x % 4:Nat):Int)) (by omega),w32_id (z:=(x:Int)+1) (by omega),if_pos (show 0≤((x / 4:Nat):Int)*4+(k:Int)∧((x / 4:Nat):Int)*4+(k:Int)<16 by omega),if_pos (show 0≤(k:Int)*4+((x % 4:Nat):Int)∧(k:Int)*4+((x % 4:Nat):Int)<16 by omega),if_pos (show 0≤(x:Int)∧(x:Int)<16 by omega),show ((x / 4:Nat):Int)*4+(k:Int)=((x / 4*4+k:Nat):Int) by omega,show (k:Int)*4+((x % 4:Nat):Int)=((k*4+x % 4:Nat):Int) by omega]
  have skip:¬ (own_E m (x / 4) k∧own_E m k (x % 4))→∀ a b,a<4→b<4→(own_E z a b↔own_E m a b∨(a*4+b<x+1∧own_E m a k∧own_E m k b)):=fun w a b ha hb=>by
   rw [h1 a b ha hb]
   by_cases q:a*4+b=x
   ·have qa:a=x / 4:=by omega
    have qb:b=x % 4:=by omega
    rw [qa,qb]
    exact ⟨fun h=>h.elim Or.inl fun h=>absurd h.2 w,fun h=>h.elim Or.inl fun h=>absurd h.2 w⟩
   ·exact ⟨fun h=>h.elim Or.inl fun h=>Or.inr ⟨by omega,h.2⟩,fun h=>h.elim Or.inl fun h=>Or.inr ⟨by omega,h.2⟩⟩
  by_cases u:z 8 ((x / 4*4+k:Nat):Int)=0
  ·rw [if_pos u]
   exact Ok.ret ⟨⟨x+1,rfl,by omega,skip fun w=>e1'.mpr w.1 u,h2⟩,by dsimp only; omega⟩
  ·rw [if_neg u]
   by_cases v:z 8 ((k*4+x % 4:Nat):Int)=0
   ·rw [if_pos v]
    exact Ok.ret ⟨⟨x+1,rfl,by omega,skip fun w=>e2'.mpr w.2 v,h2⟩,by dsimp only; omega⟩
   ·rw [if_neg v]
    refine Ok.ret ⟨⟨x+1,rfl,by omega,fun a b ha hb=>?_,fun q y w=>by dsimp only; rw [sto_k _ _ _ _ w]; exact h2 q y w⟩,by dsimp only; omega⟩
    dsimp only
    by_cases q:a*4+b=x
    ·have qa:a=x / 4:=by omega
     have qb:b=x % 4:=by omega
     constructor
     ·intro _
      exact Or.inr ⟨by omega,by rw [qa]; exact e1'.mp u,by rw [qb]; exact e2'.mp v⟩
     ·intro _
      unfold own_E sto
      rw [if_pos ⟨rfl,by omega⟩]; decide
    ·have:own_E (sto z 8 (x:Int) 1) a b↔own_E z a b:=by
      unfold own_E
      rw [sto_i _ _ _ _ (by omega)]
     rw [this,h1 a b ha hb]
     exact ⟨fun h=>h.elim Or.inl fun h=>Or.inr ⟨by omega,h.2⟩,fun h=>h.elim Or.inl fun h=>Or.inr ⟨by omega,h.2⟩⟩
 ·rw [if_neg c]
  refine Ok.ret ⟨fun a b ha hb=>(h1 a b ha hb).trans ⟨fun h=>h.elim Or.inl fun h=>Or.inr h.2,fun h=>h.elim Or.inl fun h=>Or.inr ⟨by omega,h⟩⟩,h2⟩
theorem own_reS {g:own_Gm} {m:OMem} (F:own_wf g) (M:own_MG g m):Ok (f_computeReach m) (fun z=>(∀ r,r<g.R→∀ t,t<g.len r→g.sym r t<4→own_oth g (fun A=>m 7 (A:Int)≠0) r t→own_E z (g.lhs r) (g.sym r t))∧(∀ a b c,a<4→b<4→c<4→own_E z a b→own_E z b c→own_E z a c)∧∀ (k:Nat) x,k≠8→z k x=m k x):=by
 have R10:=F.1.1
 unfold f_computeReach f_computeReach_b48
 refine Ok.bind (P:=fun z=>∀ (k:Nat) x,k≠8→z k x=m k x) ?_ ?_
 ·refine Ok.loop (fun s=>(0≤s.1∧s.1≤16)∧∀ (k:Nat) x,k≠8→s.2 k x=m k x) (fun s=>(16 - s.1).toNat) ⟨by dsimp only; omega,fun _ _ _=>rfl⟩ (by dsimp only; omega) ?_
  rintro ⟨a,z⟩ ⟨ha,h⟩
  dsimp only at ha h
  unfold f_computeReach_l2
  dsimp only
  by_cases c:a<16
  ·rw [if_pos c,if_pos (by omega),w32_id (z:=a+1) (by omega)]
   exact Ok.ret ⟨⟨by dsimp only; omega,fun k x u=>by dsimp only; rw [sto_k _ _ _ _ u]; exact h k x u⟩,by dsimp only; omega⟩
  ·rw [if_neg c]; exact Ok.ret h
 ·intro m1 f1
  refine Ok.bind (P:=fun z=>(∀ r,r<g.R→∀ t,t<g.len r→g.sym r t<4→own_oth g (fun A=>m 7 (A:Int)≠0) r t→own_E z (g.lhs r) (g.sym r t))∧∀ (k:Nat) x,k≠8→z k x=m k x) ?_ ?_
  ·refine Ok.loop (fun s=>∃ r:Nat,s.1=(r:Int)∧r≤g.R∧(∀ r',r'<r→∀ t,t<g.len r'→g.sym r' t<4→own_oth g (fun A=>m 7 (A:Int)≠0) r' t→own_E s.2 (g.lhs r') (g.sym r' t))∧∀ (k:Nat) x,k≠8→s.2 k x=m k x) (fun s=>(11 - s.1).toNat) ⟨0,rfl,Nat.zero_le _,fun r' h=>by omega,f1⟩ (by dsimp only; omega) ?_
   rintro ⟨_,z⟩ ⟨r,rfl,hr,h1,h2⟩
   dsimp only at h1 h2
   have Mz:own_MG g z:=own_MGt (fun k x u=>h2 k x (by omega)) M
   unfold f_computeReach_l23
   dsimp only
   rw [Mz.1.1]
   by_cases c:(r:Int)<(g.R:Int)
   ·rw [if_pos c,if_pos (by omega)]
    refine Ok.bind (own_aeS F Mz r (by omega)) fun w hw=>?_
    rw [w32_id (z:=(r:Int)+1) (by omega)]
    refine Ok.ret ⟨⟨r+1,rfl,by omega,fun r' a t b d e=>?_,fun k x u=>by dsimp only; rw [hw.2.2 k x u]; exact h2 k x u⟩,by dsimp only; omega⟩
    dsimp only
    by_cases q:r'=r
    ·rw [q] at b d e ⊢
     exact hw.2.1 t b d fun t' u v=>by show g.sym r t'<4∧z 7 (g.sym r t':Int)≠0; rw [h2 7 _ (by decide)]; exact e t' u v
    ·exact hw.1 _ (h1 r' (by omega) t b d e)
   ·rw [if_neg c]
    exact Ok.ret ⟨fun r' a=>h1 r' (by omega),h2⟩
  ·rintro m2 ⟨e2,f2⟩
   refine Ok.bind (P:=fun z=>(∀ r,r<g.R→∀ t,t<g.len r→g.sym r t<4→own_oth g (fun A=>m 7 (A:Int)≠0) r t→own_E z (g.lhs r) (g.sym r t))∧(∀ a b c,a<4→b<4→c<4→own_E z a b→own_E z b c→own_E z a c)∧∀ (k:Nat) x,k≠8→z k x=m k x) ?_ fun z q=>Ok.ret q
   refine Ok.loop (fun s=>∃ k:Nat,s.1=(k:Int)∧k≤4∧(∀ r,r<g.R→∀ t,t<g.len r→g.sym r t<4→own_oth g (fun A=>m 7 (A:Int)≠0) r t→own_E s.2 (g.lhs r) (g.sym r t))∧(∀ a b c,a<4→b<k→c<4→own_E s.2 a b→own_E s.2 b c→own_E s.2 a c)∧∀ (k:Nat) x,k≠8→s.2 k x=m k x) (fun s=>(5 - s.1).toNat) ⟨0,rfl,by decide,e2,fun a b c _ h=>by omega,f2⟩ (by dsimp only; omega) ?_
   rintro ⟨_,z⟩ ⟨k,rfl,hk,h1,h2,h3⟩
   dsimp only at h1 h2 h3
   unfold f_computeReach_l50
   dsimp only
   by_cases c:(k:Int)<4
   ·rw [if_pos c]
    refine Ok.bind (own_waS k (by omega) z) fun w hw=>?_
    rw [w32_id (z:=(k:Int)+1) (by omega)]
    obtain ⟨w1,w2⟩:=hw
    refine Ok.ret ⟨⟨k+1,rfl,by omega,fun r hr t a b d=>?_,fun a b d ha hb hd x y=>?_,fun q x u=>by dsimp only; rw [w2 q x u]; exact h3 q x u⟩,by dsimp only; omega⟩
    ·dsimp only
     exact (w1 _ _ (F.2.1 r hr).1 b).mpr (Or.inl (h1 r hr t a b d))
    ·dsimp only at x y ⊢
     have b4:b<4:=by omega
     have k4:k<4:=by omega
     rw [w1 a b ha b4] at x
     rw [w1 b d b4 hd] at y
     rw [w1 a d ha hd]
     by_cases q:b=k
     ·subst q
      have x':own_E z a b:=x.elim id fun h=>h.1
      have y':own_E z b d:=y.elim id fun h=>h.2
      exact Or.inr ⟨x',y'⟩
     ·have cl:=fun a c ha hc=>h2 a b c ha (by omega) hc
      rcases x with x | ⟨x1,x2⟩
      ·rcases y with y | ⟨y1,y2⟩
       ·exact Or.inl (cl a d ha hd x y)
       ·exact Or.inr ⟨cl a k ha k4 x y1,y2⟩
      ·rcases y with y | ⟨y1,y2⟩
       ·exact Or.inr ⟨x1,cl k d k4 hd x2 y⟩
       ·exact Or.inr ⟨x1,y2⟩
   ·rw [if_neg c]
    exact Ok.ret ⟨h1,fun a b d ha hb hd=>h2 a b d ha (by omega) hd,h3⟩
theorem own_cyS (m:OMem):Ok (f_isCyclic m) (fun v=>(v=0∧∀ a,a<4→¬ own_E m a a)∨v=1):=by
 unfold f_isCyclic
 refine Ok.bind (P:=fun e=>∀ u,e=Sum.inr u→∀ a,a<4→¬ own_E m a a) ?_ fun e he=>?_
 ·refine Ok.loop (fun s=>∃ a:Nat,s=(a:Int)∧a≤4∧∀ b,b<a→¬ own_E m b b) (fun s=>(5 - s).toNat) ⟨0,rfl,by decide,fun b h=>by omega⟩ (by omega) ?_
  rintro _ ⟨a,rfl,ha,h⟩
  unfold f_isCyclic_l2
  by_cases c:(a:Int)<4
  ·rw [if_pos c,w32_id (z:=(a:Int)*5) (by omega),if_pos (by omega),w32_id (z:=(a:Int)+1) (by omega)]
   by_cases z:m 8 ((a:Int)*5)=0
   ·rw [if_pos z]
    refine Ok.ret ⟨⟨a+1,rfl,by omega,fun b hb=>?_⟩,by omega⟩
    by_cases e:b=a
    ·rw [e]
     unfold own_E
     rw [show ((a*4+a:Nat):Int)=(a:Int)*5 by omega,z]
     exact fun w=>w rfl
    ·exact h b (by omega)
   ·rw [if_neg z]
    exact Ok.ret fun u hu=>by cases hu
  ·rw [if_neg c]
   exact Ok.ret fun u _ b hb=>h b (by omega)
 ·cases e with
  | inl u=>exact Ok.ret (Or.inr rfl)
  | inr u=>exact Ok.ret (Or.inl ⟨rfl,he u rfl⟩)
/- ranks -/
theorem own_sst {f f':Nat→Nat}:∀ n k:Nat,k<n→(∀ j,j<n→f j≤f' j)→f k<f' k→own_ss f n<own_ss f' n
 | 0,k,h,_,_=>by omega
 | n+1,k,h,l,s=>by
  have ln:=l n (by omega)
  show own_ss f n+f n<own_ss f' n+f' n
  by_cases c:k=n
  ·have:own_ss f n≤own_ss f' n:=by
    have:∀ j,j≤n→own_ss f j≤own_ss f' j:=fun j=>by
     induction j with
     | zero=>exact fun _=>Nat.le_refl _
     | succ j ih=>exact fun hj=>Nat.add_le_add (ih (by omega)) (l j (by omega))
    exact this n (Nat.le_refl _)
   rw [c] at s
   omega
  ·have:=own_sst n k (by omega) (fun j hj=>l j (by omega)) s
   omega
theorem own_rkS {g:own_Gm} {nl:Nat→Prop} {m:OMem} (F:own_wf g) (e1:∀ r,r<g.R→∀ t,t<g.len r→g.sym r t<4→own_oth g nl r t→own_E m (g.lhs r) (g.sym r t)) (e2:∀ a b c,a<4→b<4→c<4→own_E m a b→own_E m b c→own_E m a c) (e3:∀ a,a<4→¬ own_E m a a):∃ ρ,own_rk g nl ρ:=by
 refine ⟨fun A=>own_ss (fun B=>if m 8 ((A*4+B:Nat):Int)=0 then 0 else 1) 4,fun A hA=>?_,fun r hr t ht hs ho=>?_⟩
 ·have l:=own_sst (f:=fun B=>if m 8 ((A*4+B:Nat):Int)=0 then 0 else 1) (f':=fun _=>1) 4 A hA (fun j _=>by split <;> omega) (by
   have:m 8 ((A*4+A:Nat):Int)=0:=Classical.byContradiction fun h=>e3 A hA h
   rw [if_pos this]; decide)
  have:own_ss (fun _=>1) 4=4:=rfl
  show own_ss (fun B=>if m 8 ((A*4+B:Nat):Int)=0 then 0 else 1) 4≤3
  omega
 ·have l4:=(F.2.1 r hr).1
  have E:=e1 r hr t ht hs ho
  refine own_sst 4 (g.sym r t) hs (fun j hj=>?_) ?_
  ·by_cases z:m 8 ((g.sym r t*4+j:Nat):Int)=0
   ·rw [if_pos z]; exact Nat.zero_le _
   ·rw [if_neg z,if_neg (e2 _ _ j l4 hs hj E z)]; exact Nat.le_refl _
  ·have:m 8 ((g.sym r t*4+g.sym r t:Nat):Int)=0:=Classical.byContradiction fun h=>e3 _ hs h
   rw [if_pos this,if_neg E]; decide
def own_cm (l i0 i j:Nat):Prop:=i≤j∧(j - i<l∨(j - i=l∧i<i0))
def own_TX (g:own_Gm) (l i0:Nat) (m:OMem) (X:Nat→Nat→Nat→Nat):Prop:=own_su g X∧(∀ A i j,A<4→j≤g.n→own_cm l i0 i j→m 5 (own_ci A i j)=own_sat (X A i j)∧X A i j=own_C g X A i j)∧∀ r t i j,r<g.R→1≤t→t≤g.len r→j≤g.n→own_cm l i0 i j→m 6 (own_wi r t i j)=own_sat (own_W g X r t i j)
theorem own_TXs {g:own_Gm} {nl:Nat→Prop} {ρ:Nat→Nat} (F:own_wf g) (N:own_nlc g nl) (K:own_rk g nl ρ) {m:OMem} (M:own_MG g m) {X:Nat→Nat→Nat→Nat} {l i:Nat} (hi:i+l≤g.n) (T:own_TX g l i m X):Ok (f_computeSpan (i:Int) ((i+l:Nat):Int) m) (fun z=>own_TX g l (i+1) z (own_up X i (i+l) (own_v g X i (i+l) 5))∧∀ (k:Nat) x,k≠5→k≠6→z k x=m k x):=by
 have n8:=F.1.2
 obtain ⟨U,t5,t6⟩:=T
 refine Ok.mono (own_csp F M X i (i+l) (by omega) hi (fun A q a b c=>(t5 A q (i+l) a hi ⟨by omega,by omega⟩).1) (fun r t q a b c d e=>t6 r t i q a b c (by omega) ⟨d,by omega⟩)) fun z q=>?_
 obtain ⟨q1,q2,q3⟩:=q
 obtain ⟨x1,x2⟩:=own_fxs N K (i:=i) (j:=i+l) (by omega) U
 have U5:=own_vsu (i:=i) (j:=i+l) (by omega) U 5
 generalize hX:own_up X i (i+l) (own_v g X i (i+l) 5)=X' at x1 x2 U5 ⊢
 have xo:∀ A a b,¬ (a=i∧b=i+l)→X' A a b=X A a b:=fun A a b h=>by rw [← hX]; exact own_upo h
 have xa:∀ A,X' A i (i+l)=own_v g X i (i+l) 5 A:=fun A=>by rw [← hX]; exact own_upa
 refine ⟨⟨U5,fun A a b hA hb hc=>?_,fun r t a b hr h1 h2 hb hc=>?_⟩,fun k x u v=>q3 k x (fun w=>u w.1) (fun w=>v w.1)⟩
 ·have hc0:=hc.1
  by_cases c:a=i∧b=i+l
  ·obtain ⟨rfl,rfl⟩:=c
   rw [xa]
   exact ⟨q1 A hA,x1 A hA⟩
  ·have hc':own_cm l i a b:=⟨hc.1,by rcases hc.2 with h | h; exact Or.inl h; exact Or.inr ⟨h.1,by omega⟩⟩
   obtain ⟨o1,o2⟩:=t5 A a b hA hb hc'
   have hc1:=hc'.1
   have hc2:=hc'.2
   rw [xo A a b c,q3 5 _ (by
    rintro ⟨-,B,hB,e⟩
    have:=(own_cix (by omega) (by omega) (by omega) (by omega)).mp e
    exact c ⟨this.2.1,this.2.2⟩) (by omega)]
   refine ⟨o1,?_⟩
   rw [o2]
   exact (own_Cc fun A a' b' _ u v w=>xo A a' b' (by omega)).symm
 ·have l3:=(F.2.1 r hr).2.1
  have hc0:=hc.1
  by_cases c:a=i∧b=i+l
  ·obtain ⟨rfl,rfl⟩:=c
   rw [← x2 r t]
   exact q2 r t hr h1 h2
  ·have hc':own_cm l i a b:=⟨hc.1,by rcases hc.2 with h | h; exact Or.inl h; exact Or.inr ⟨h.1,by omega⟩⟩
   have hc1:=hc'.1
   have hc2:=hc'.2
   rw [q3 6 _ (by omega) (by
    rintro ⟨-,r',t',a',b',e⟩
    have:=(own_wix (by omega) (by omega) (by omega) (by omega) (by omega) (by omega)).mp e
    exact c ⟨this.2.2.1,this.2.2.2⟩),t6 r t a b hr h1 h2 hb hc',own_Wc t b fun A a' b' _ u v w=>xo A a' b' (by omega)]
/- all spans -/
def own_TC (g:own_Gm) (m:OMem) (X:Nat→Nat→Nat→Nat):Prop:=own_su g X∧(∀ A i j,A<4→i≤j→j≤g.n→m 5 (own_ci A i j)=own_sat (X A i j)∧X A i j=own_C g X A i j)∧∀ r t i j,r<g.R→1≤t→t≤g.len r→i≤j→j≤g.n→m 6 (own_wi r t i j)=own_sat (own_W g X r t i j)
theorem own_TCt {g:own_Gm} {m m2:OMem} {X:Nat→Nat→Nat→Nat} (h:∀ (k:Nat) x,k=5∨k=6→m2 k x=m k x) (T:own_TC g m X):own_TC g m2 X:=⟨T.1,fun A i j a b c=>by rw [h 5 _ (by omega)]; exact T.2.1 A i j a b c,fun r t i j a b c d e=>by rw [h 6 _ (by omega)]; exact T.2.2 r t i j a b c d e⟩
/- the table,by the grammar and the input alone -/
def own_Xi (g:own_Gm) (l:Nat) (X:Nat→Nat→Nat→Nat):Nat→Nat→Nat→Nat→Nat
 | 0=>X
 | i+1=>own_up (own_Xi g l X i) i (i+l) (own_v g (own_Xi g l X i) i (i+l) 5)
def own_Xl (g:own_Gm):Nat→Nat→Nat→Nat→Nat
 | 0=>fun _ _ _=>0
 | l+1=>own_Xi g l (own_Xl g l) (g.n+1 - l)
def own_XX (g:own_Gm):Nat→Nat→Nat→Nat:=own_Xl g (g.n+1)
theorem own_ctS {g:own_Gm} {nl:Nat→Prop} {ρ:Nat→Nat} (F:own_wf g) (N:own_nlc g nl) (K:own_rk g nl ρ) {m:OMem} (M:own_MG g m):Ok (f_computeTables m) (fun z=>own_TC g z (own_XX g)∧∀ (k:Nat) x,k≠5→k≠6→z k x=m k x):=by
 have n8:=F.1.2
 unfold f_computeTables f_computeTables_b54
 refine Ok.bind (P:=fun z=>own_TC g z (own_XX g)∧∀ (k:Nat) x,k≠5→k≠6→z k x=m k x) ?_ fun z q=>Ok.ret q
 refine Ok.loop (fun s=>∃ l:Nat,s.1=(l:Int)∧l≤g.n+1∧own_TX g l 0 s.2 (own_Xl g l)∧∀ (k:Nat) x,k≠5→k≠6→s.2 k x=m k x) (fun s=>(10 - s.1).toNat) ⟨0,rfl,by omega,⟨fun A i j h=>absurd rfl h,fun A i j _ _ h=>by have:=h.2; omega,fun r t i j _ _ _ _ h=>by have:=h.2; omega⟩,fun _ _ _ _=>rfl⟩ (by dsimp only; omega) ?_
 rintro ⟨_,z⟩ ⟨l,rfl,hl,T,f⟩
 dsimp only at T f
 have Mz:own_MG g z:=own_MGt (fun k x u=>f k x (by omega) (by omega)) M
 unfold f_computeTables_l2 f_computeTables_b48
 dsimp only
 rw [Mz.1.2]
 by_cases c:(g.n:Int)<(l:Int)
 ·rw [if_pos c]
  have e:own_Xl g l=own_XX g:=by
   unfold own_XX
   rw [show l=g.n+1 by omega]
  rw [e] at T
  refine Ok.ret ⟨⟨T.1,fun A i j hA hi hj=>T.2.1 A i j hA hj ⟨hi,by omega⟩,fun r t i j hr h1 h2 hi hj=>T.2.2 r t i j hr h1 h2 hj ⟨hi,by omega⟩⟩,f⟩
 ·rw [if_neg c,if_neg (by omega)]
  refine Ok.bind (P:=fun y=>own_TX g (l+1) 0 y (own_Xl g (l+1))∧∀ (k:Nat) x,k≠5→k≠6→y k x=m k x) ?_ fun y q=>?_
  ·refine Ok.loop (fun s=>∃ i:Nat,s.1=(i:Int)∧i+l≤g.n+1∧own_TX g l i s.2 (own_Xi g l (own_Xl g l) i)∧∀ (k:Nat) x,k≠5→k≠6→s.2 k x=m k x) (fun s=>(10 - s.1).toNat) ⟨0,rfl,by omega,T,f⟩ (by dsimp only; omega) ?_
   rintro ⟨_,y⟩ ⟨i,rfl,hi,TY,fy⟩
   dsimp only at TY fy
   have My:own_MG g y:=own_MGt (fun k x u=>fy k x (by omega) (by omega)) M
   unfold f_computeTables_l18
   dsimp only
   rw [My.1.2,w32_id (z:=(i:Int)+(l:Int)) (by omega)]
   by_cases d:(g.n:Int)<(i:Int)+(l:Int)
   ·rw [if_pos d]
    have e:own_Xi g l (own_Xl g l) i=own_Xl g (l+1):=by
     show _=own_Xi g l (own_Xl g l) (g.n+1 - l)
     rw [show g.n+1 - l=i by omega]
    rw [e] at TY
    refine Ok.ret ⟨⟨TY.1,fun A a b hA hb h=>TY.2.1 A a b hA hb ⟨h.1,?_⟩,fun r t a b hr h1 h2 hb h=>TY.2.2 r t a b hr h1 h2 hb ⟨h.1,?_⟩⟩,fy⟩
    ·have h1:=h.1; have h2:=h.2; omega
    ·have h1:=h.1; have h2:=h.2; omega
   ·rw [if_neg d,if_neg (by omega),show (i:Int)+(l:Int)=((i+l:Nat):Int) from rfl]
    refine Ok.bind (own_TXs F N K My (by omega) TY) fun w hw=>?_
    rw [w32_id (z:=(i:Int)+1) (by omega)]
    exact Ok.ret ⟨⟨i+1,rfl,by omega,hw.1,fun k x u v=>by dsimp only; rw [hw.2 k x u v]; exact fy k x u v⟩,by dsimp only; omega⟩
  ·rw [w32_id (z:=(l:Int)+1) (by omega)]
   exact Ok.ret ⟨⟨l+1,rfl,by omega,q.1,q.2⟩,by dsimp only; omega⟩
theorem own_paS {g:own_Gm} {m:OMem} (F:own_wf g) (M:own_MG g m):Ok (f_parse m) (fun r=>(∀ (k:Nat) x,¬ (k=0∧24≤x∧x≤26)→¬ (5≤k∧k≤8)→r.2 k x=m k x)∧((∀ x,r.2 0 x=m 0 x)∨(own_TC g r.2 (own_XX g)∧r.2 0 25=own_sat (own_XX g 0 0 g.n))∧r.2 0 24=1∧r.2 0 26=0)):=by
 have n8:=F.1.2
 unfold f_parse
 refine Ok.bind (own_nuS F M) fun m1 q1=>?_
 have M1:own_MG g m1:=own_MGt (fun k x u=>q1.2 k x (by omega)) M
 refine Ok.bind (own_reS F M1) fun m2 q2=>?_
 have M2:own_MG g m2:=own_MGt (fun k x u=>q2.2.2 k x (by omega)) M1
 have f2:∀ (k:Nat) x,k≠7→k≠8→m2 k x=m k x:=fun k x u v=>by rw [q2.2.2 k x v,q1.2 k x u]
 refine Ok.bind (own_cyS m2) fun v hv=>?_
 rcases hv with ⟨rfl,hv⟩ | rfl
 ·rw [if_pos rfl]
  obtain ⟨ρ,K⟩:=own_rkS F q2.1 q2.2.1 hv
  refine Ok.bind (own_ctS F q1.1 K M2) fun m3 q3=>?_
  obtain ⟨T,f3⟩:=q3
  generalize own_XX g=X at *
  have e23:m3 0 23=(g.n:Int):=by rw [f3 0 23 (by decide) (by decide),f2 0 23 (by decide) (by decide)]; exact M.1.2
  have ec:=own_cAt 0 0 g.n (by decide) (by decide) n8 m3
  rw [(T.2.1 0 0 g.n (by decide) (Nat.zero_le _) (Nat.le_refl _)).1] at ec
  rw [e23,show f_cntAt 0 0 (g.n:Int) m3=some (own_sat (X 0 0 g.n)) from ec,Option.bind_some]
  have fin:∀ c:Int,(∀ (k:Nat) x,¬ (k=0∧24≤x∧x≤26)→¬ (5≤k∧k≤8)→(c,sto (sto (sto m3 0 25 (own_sat (X 0 0 g.n))) 0 24 1) 0 26 0).2 k x=m k x)∧((∀ x,(c,sto (sto (sto m3 0 25 (own_sat (X 0 0 g.n))) 0 24 1) 0 26 0).2 0 x=m 0 x)∨(own_TC g (c,sto (sto (sto m3 0 25 (own_sat (X 0 0 g.n))) 0 24 1) 0 26 0).2 X∧(c,sto (sto (sto m3 0 25 (own_sat (X 0 0 g.n))) 0 24 1) 0 26 0).2 0 25=own_sat (X 0 0 g.n))∧(c,sto (sto (sto m3 0 25 (own_sat (X 0 0 g.n))) 0 24 1) 0 26 0).2 0 24=1∧(c,sto (sto (sto m3 0 25 (own_sat (X 0 0 g.n))) 0 24 1) 0 26 0).2 0 26=0):=fun c=>by
   dsimp only
   have o:∀ (k:Nat) x,¬ (k=0∧24≤x∧x≤26)→sto (sto (sto m3 0 25 (own_sat (X 0 0 g.n))) 0 24 1) 0 26 0 k x=m3 k x:=fun k x h=>by
    simp only [sto]
    rw [if_neg (by omega),if_neg (by omega),if_neg (by omega)]
   refine ⟨fun k x u v=>by rw [o k x u,f3 k x (by omega) (by omega),f2 k x (by omega) (by omega)],Or.inr ⟨⟨own_TCt (fun k x u=>o k x (by omega)) T,?_⟩,?_,?_⟩⟩
   ·simp [sto]
   ·simp [sto]
   ·simp [sto]
  split
  ·exact Ok.ret (fin 1)
  ·exact Ok.ret (fin 0)
 ·rw [if_neg (by decide)]
  refine Ok.ret ⟨fun k x u v=>f2 k x (by omega) (by omega),Or.inl fun x=>f2 0 x (by decide) (by decide)⟩
def own_P (g:own_Gm) (X:Nat→Nat→Nat→Nat):List Nat→Nat→Nat
 | [],p=>if p=g.n then 1 else 0
 | s :: l,p=>own_ss (fun k=>own_sy g X s p (p+k)*own_P g X l (p+k)) (g.n+1 - p)
theorem own_Pt {g:own_Gm} {X:Nat→Nat→Nat→Nat} (s:Nat) (l:List Nat) (p:Nat) (hs:¬ s<4):own_P g X (s :: l) p=if p<g.n∧g.tok p=s - 4 then own_P g X l (p+1) else 0:=by
 show own_ss (fun k=>own_sy g X s p (p+k)*own_P g X l (p+k)) (g.n+1 - p)=_
 by_cases c:p<g.n∧g.tok p=s - 4
 ·rw [if_pos c,own_ss1 1 _ (by omega) fun j _ hj=>by
   have:own_sy g X s p (p+j)=0:=by
    unfold own_sy
    rw [if_neg hs,if_neg (by omega)]
   rw [this,Nat.zero_mul]]
  have:own_sy g X s p (p+1)=1:=by
   unfold own_sy
   rw [if_neg hs,if_pos ⟨rfl,c.1,c.2⟩]
  rw [this,Nat.one_mul]
 ·rw [if_neg c]
  refine own_ssz _ fun k _=>?_
  have:own_sy g X s p (p+k)=0:=by
   unfold own_sy
   rw [if_neg hs,if_neg (fun z=>c ⟨z.2.1,z.2.2⟩)]
  rw [this,Nat.zero_mul]
theorem own_tri (F:Nat→Nat→Nat):∀ N:Nat,own_ss (fun k=>own_ss (fun j=>F k (k+j)) (N - k)) N=own_ss (fun m=>own_ss (fun k=>F k m) (m+1)) N
 | 0=>rfl
 | N+1=>by
  show own_ss (fun k=>own_ss (fun j=>F k (k+j)) (N+1 - k)) N+own_ss (fun j=>F N (N+j)) (N+1 - N)=own_ss (fun m=>own_ss (fun k=>F k m) (m+1)) N+own_ss (fun k=>F k N) (N+1)
  rw [← own_tri F N]
  have e:own_ss (fun k=>own_ss (fun j=>F k (k+j)) (N+1 - k)) N=own_ss (fun k=>own_ss (fun j=>F k (k+j)) (N - k)) N+own_ss (fun k=>F k N) N:=by
   rw [← own_ssa]
   refine own_ssc _ fun k hk=>?_
   rw [show N+1 - k=(N - k)+1 by omega]
   show own_ss _ (N - k)+F k (k+(N - k))=_
   rw [show k+(N - k)=N by omega]
  rw [e,show N+1 - N=0+1 by omega]
  show _+(0+F N (N+0))=_+(own_ss (fun k=>F k N) N+F N N)
  rw [Nat.add_zero]
  omega
/- the symbols of a rule from t on -/
def own_rs (g:own_Gm) (r:Nat):Nat→Nat→List Nat
 | 0,_=>[]
 | d+1,t=>g.sym r t :: own_rs g r d (t+1)
theorem own_Pq {g:own_Gm} {X:Nat→Nat→Nat→Nat} (r p:Nat) (l:List Nat) (hp:p≤g.n):∀ d t:Nat,own_ss (fun k=>own_W g X r t p (p+k)*own_P g X (own_rs g r d t ++ l) (p+k)) (g.n+1 - p)=own_ss (fun k=>own_W g X r (t+d) p (p+k)*own_P g X l (p+k)) (g.n+1 - p)
 | 0,t=>rfl
 | d+1,t=>by
  rw [show t+(d+1)=(t+1)+d by omega,← own_Pq r p l hp d (t+1)]
  have a:=own_tri (fun k m=>own_W g X r t p (p+k)*own_sy g X (g.sym r t) (p+k) (p+m)*own_P g X (own_rs g r d (t+1) ++ l) (p+m)) (g.n+1 - p)
  refine Eq.trans (own_ssc _ fun k hk=>?_) (a.trans (own_ssc _ fun m hm=>?_))
  ·show own_W g X r t p (p+k)*own_ss (fun j=>own_sy g X (g.sym r t) (p+k) (p+k+j)*own_P g X (own_rs g r d (t+1) ++ l) (p+k+j)) (g.n+1 - (p+k))=_
   rw [Nat.mul_comm,← own_ssm,show g.n+1 - (p+k)=g.n+1 - p - k by omega]
   refine own_ssc _ fun j _=>?_
   rw [Nat.add_assoc,Nat.mul_comm,Nat.mul_assoc]
  ·show own_ss (fun k=>own_W g X r t p (p+k)*own_sy g X (g.sym r t) (p+k) (p+m)*own_P g X (own_rs g r d (t+1) ++ l) (p+m)) (m+1)=own_ss (fun k=>own_W g X r t p (p+k)*own_sy g X (g.sym r t) (p+k) (p+m)) (p+m+1 - p)*own_P g X (own_rs g r d (t+1) ++ l) (p+m)
   rw [own_ssm,show p+m+1 - p=m+1 by omega]
theorem own_Pr {g:own_Gm} {X:Nat→Nat→Nat→Nat} (r p:Nat) (l:List Nat) (hp:p≤g.n):own_P g X (own_rs g r (g.len r) 0 ++ l) p=own_ss (fun k=>own_W g X r (g.len r) p (p+k)*own_P g X l (p+k)) (g.n+1 - p):=by
 have:=own_Pq (X:=X) r p l hp (g.len r) 0
 rw [Nat.zero_add] at this
 rw [← this,own_ss1 0 _ (by omega) fun j _ hj=>by
  have:own_W g X r 0 p (p+j)=0:=if_neg (by omega)
  rw [this,Nat.zero_mul]]
 have:own_W g X r 0 p (p+0)=1:=if_pos rfl
 rw [this,Nat.one_mul]
 rfl
theorem own_Pn {g:own_Gm} {X:Nat→Nat→Nat→Nat} {m:OMem} (T:own_TC g m X) (A:Nat) (hA:A<4) (l:List Nat) (p:Nat) (hp:p≤g.n):own_P g X (A :: l) p=own_ss (fun r=>if g.lhs r=A then own_P g X (own_rs g r (g.len r) 0 ++ l) p else 0) g.R:=by
 show own_ss (fun k=>own_sy g X A p (p+k)*own_P g X l (p+k)) (g.n+1 - p)=_
 have e:∀ k,k<g.n+1 - p→own_sy g X A p (p+k)*own_P g X l (p+k)=own_ss (fun r=>(if g.lhs r=A then own_W g X r (g.len r) p (p+k) else 0)*own_P g X l (p+k)) g.R:=fun k hk=>by
  have:own_sy g X A p (p+k)=own_C g X A p (p+k):=by
   unfold own_sy
   rw [if_pos hA]
   exact (T.2.1 A p (p+k) hA (by omega) (by omega)).2
  rw [this,own_ssm]
  rfl
 rw [own_ssc _ e,own_ssx]
 refine own_ssc _ fun r _=>?_
 by_cases c:g.lhs r=A
 ·rw [if_pos c,own_Pr r p l hp]
  refine own_ssc _ fun k _=>?_
  rw [if_pos c]
 ·rw [if_neg c]
  refine own_ssz _ fun k _=>?_
  rw [if_neg c,Nat.zero_mul]
/- least lengths -/
def own_mo (ml:Nat→Nat) (s:Nat):Nat:=if s<4 then ml s else 1
def own_mlc (g:own_Gm) (ml:Nat→Nat):Prop:=∀ r,r<g.R→ml (g.lhs r)≤own_ss (fun t=>own_mo ml (g.sym r t)) (g.len r)
theorem own_spm {g:own_Gm} {ml:Nat→Nat} (r i:Nat):∀ t j,own_sp g (fun A i j=>i+ml A≤j) r t i j→i+own_ss (fun t=>own_mo ml (g.sym r t)) t≤j
 | 0,j,h=>by
  have:i=j:=h
  show i+0≤j
  omega
 | t+1,j,⟨q,hq,h1,h2,h3⟩=>by
  have:=own_spm r i t q h1
  show i+(own_ss (fun t=>own_mo ml (g.sym r t)) t+own_mo ml (g.sym r t))≤j
  unfold own_mo at this ⊢
  by_cases c:g.sym r t<4
  ·rw [if_pos c]
   have:=h2 c
   omega
  ·rw [if_neg c]
   have:=(h3 c).1
   omega
theorem own_mls {g:own_Gm} {ml:Nat→Nat} (L:own_mlc g ml):own_cl g (fun A i j=>i+ml A≤j):=fun r hr i j _ h=>by
 have:=own_spm r i _ j h
 have:=L r hr
 omega
def own_sm (ml:Nat→Nat):List Nat→Nat
 | []=>0
 | s :: l=>own_mo ml s+own_sm ml l
theorem own_Pz {g:own_Gm} {X:Nat→Nat→Nat→Nat} {ml:Nat→Nat} (U:own_su g X) (L:own_mlc g ml):∀ (l:List Nat) (p:Nat),own_P g X l p≠0→p+own_sm ml l≤g.n
 | [],p,h=>by
  by_cases c:p=g.n
  ·show p+0≤g.n; omega
  ·exact absurd (if_neg c) h
 | s :: l,p,h=>by
  obtain ⟨k,hk,z⟩:=own_ssn _ h
  have z1:own_sy g X s p (p+k)≠0:=fun e=>z (by rw [e,Nat.zero_mul])
  have z2:own_P g X l (p+k)≠0:=fun e=>z (by rw [e,Nat.mul_zero])
  have:=own_Pz U L l (p+k) z2
  show p+(own_mo ml s+own_sm ml l)≤g.n
  have:own_mo ml s≤k:=by
   unfold own_sy at z1
   unfold own_mo
   by_cases c:s<4
   ·rw [if_pos c] at z1 ⊢
    have:=(U _ _ _ z1).2 _ (own_mls L)
    omega
   ·rw [if_neg c] at z1 ⊢
    by_cases d:p+k=p+1∧p<g.n∧g.tok p=s - 4
    ·omega
    ·exact absurd (if_neg d) z1
  omega
theorem own_P0 (g:own_Gm) (X:Nat→Nat→Nat→Nat):own_P g X [0] 0=X 0 0 g.n:=by
 show own_ss (fun k=>own_sy g X 0 0 (0+k)*(if 0+k=g.n then 1 else 0)) (g.n+1 - 0)=_
 rw [own_ss1 g.n _ (by omega) fun j _ hj=>by rw [if_neg (by omega),Nat.mul_zero],Nat.zero_add,if_pos rfl,Nat.mul_one]
 rfl
def own_B (x:Int):BitVec 32:=(Int32.ofInt x).toBitVec
def own_L (x:Int):BitVec 64:=(Int64.ofInt x).toBitVec
theorem own_BN (k:Nat):own_B (k:Int)=BitVec.ofNat 32 k:=rfl
theorem own_LN (k:Nat):own_L (k:Int)=BitVec.ofNat 64 k:=rfl
theorem own_b32 {x:Int} {v:Nat} (hx:x=(own_B x).toInt) (h:own_B x=BitVec.ofNat 32 v) (hv:v<2147483648):x=(v:Int):=by
 have t:(BitVec.ofNat 32 v).toNat=v:=by rw [BitVec.toNat_ofNat,Nat.mod_eq_of_lt (by omega)]
 rw [hx,h,BitVec.toInt_eq_toNat_of_lt (by omega),t]
theorem own_b64 {x:Int} {v:Nat} (hx:x=(own_L x).toInt) (h:own_L x=BitVec.ofNat 64 v) (hv:v<9223372036854775808):x=(v:Int):=by
 have t:(BitVec.ofNat 64 v).toNat=v:=by rw [BitVec.toNat_ofNat,Nat.mod_eq_of_lt (by omega)]
 rw [hx,h,BitVec.toInt_eq_toNat_of_lt (by omega),t]
theorem own_s5l:∀ i:Fin 32,((Int32.ofInt (i.val:Int) &&& 31).toBitVec.smod 32).toNat=i.val:=by decide +kernel
theorem own_rsh (v k:Nat) (hv:v<2147483648) (hk:k<32):shr32 (v:Int) (k:Int)=((v / 2 ^ k:Nat):Int):=by
 unfold shr32
 rw [Jvm.Kit.i32_shr _ _ (own_s5l ⟨k,hk⟩),ofInt32_toInt,w32_id (by omega),Int.natCast_ediv,Int.natCast_pow]
 rfl
theorem own_lsh (v k:Nat) (hk:k<32) (h:v*2 ^ k<2147483648):shl32 (v:Int) (k:Int)=((v*2 ^ k:Nat):Int):=by
 refine own_b32 (by unfold own_B shl32; rw [Int32.ofInt_toInt]; rfl) ?_ h
 have e:own_B (shl32 (v:Int) (k:Int))=own_B (v:Int) <<< k:=by
  unfold own_B shl32
  rw [Int32.ofInt_toInt]
  have g:(Int32.ofInt (v:Int) <<< (Int32.ofInt (k:Int) &&& 31)).toBitVec=(Int32.ofInt (v:Int)).toBitVec <<< (((Int32.ofInt (k:Int) &&& 31).toBitVec.smod 32).toNat):=rfl
  rw [g,own_s5l ⟨k,hk⟩]
 have n1:v≤v*2 ^ k:=Nat.le_mul_of_pos_right _ (Nat.pow_pos (by decide))
 rw [e,own_BN]
 apply BitVec.eq_of_toNat_eq
 rw [BitVec.toNat_shiftLeft,BitVec.toNat_ofNat,BitVec.toNat_ofNat,Nat.mod_eq_of_lt (show v<2 ^ 32 by omega),Nat.shiftLeft_eq]
theorem own_or3 (a c k:Nat) (ha:a<2 ^ k) (h:a+c*2 ^ k<2147483648):or32 (a:Int) ((c*2 ^ k:Nat):Int)=((a+c*2 ^ k:Nat):Int):=by
 refine own_b32 (by unfold own_B or32; rw [Int32.ofInt_toInt]; rfl) ?_ h
 have e:own_B (or32 (a:Int) ((c*2 ^ k:Nat):Int))=own_B (a:Int) ||| own_B ((c*2 ^ k:Nat):Int):=by
  unfold own_B or32; rw [Int32.ofInt_toInt]; rfl
 rw [e,own_BN,own_BN]
 apply BitVec.eq_of_toNat_eq
 rw [BitVec.toNat_or,BitVec.toNat_ofNat,BitVec.toNat_ofNat,BitVec.toNat_ofNat,Nat.mod_eq_of_lt (show a<2 ^ 32 by omega),Nat.mod_eq_of_lt (show c*2 ^ k<2 ^ 32 by omega),Nat.mod_eq_of_lt (show a+c*2 ^ k<2 ^ 32 by omega),Nat.or_comm,Nat.mul_comm c,← Nat.two_pow_add_eq_or_of_lt ha]
 omega
theorem own_s6a:∀ i:Fin 64,(((Int32.ofInt (i.val:Int)).toInt64.toUInt64 &&& Int64.toUInt64 63).toBitVec % 64).toNat=i.val:=by decide +kernel
theorem own_s6b:∀ i:Fin 64,((((Int32.ofInt (i.val:Int)).toInt64 &&& 63:Int64)).toBitVec.smod 64).toNat=i.val:=by decide +kernel
theorem own_rs6 (v k:Nat) (hv:v<9223372036854775808) (hk:k<64):ushr64 (v:Int) (k:Int)=((v / 2 ^ k:Nat):Int):=by
 have l:v / 2 ^ k≤v:=Nat.div_le_self _ _
 refine own_b64 (by unfold own_L ushr64; rw [Int64.ofInt_toInt]; rfl) ?_ (by omega)
 have e:own_L (ushr64 (v:Int) (k:Int))=own_L (v:Int) >>> k:=by
  unfold own_L ushr64
  rw [Int64.ofInt_toInt]
  have g:(Jvm.Free.XT.ushrL (Int64.ofInt (v:Int)) (Int32.ofInt (k:Int))).toBitVec=(Int64.ofInt (v:Int)).toBitVec >>> ((((Int32.ofInt (k:Int)).toInt64.toUInt64 &&& Int64.toUInt64 63).toBitVec % 64).toNat):=rfl
  rw [g,own_s6a ⟨k,hk⟩]
 rw [e,own_LN]
 apply BitVec.eq_of_toNat_eq
 rw [BitVec.toNat_ushiftRight,BitVec.toNat_ofNat,BitVec.toNat_ofNat,Nat.mod_eq_of_lt (show v<2 ^ 64 by omega),Nat.mod_eq_of_lt (show v / 2 ^ k<2 ^ 64 by omega),Nat.shiftRight_eq_div_pow]
theorem own_ls6 (v k:Nat) (hk:k<64) (h:v*2 ^ k<9223372036854775808):shl64 (v:Int) (k:Int)=((v*2 ^ k:Nat):Int):=by
 refine own_b64 (by unfold own_L shl64; rw [Int64.ofInt_toInt]; rfl) ?_ h
 have e:own_L (shl64 (v:Int) (k:Int))=own_L (v:Int) <<< k:=by
  unfold own_L shl64
  rw [Int64.ofInt_toInt]
  have g:(Int64.ofInt (v:Int) <<< ((Int32.ofInt (k:Int)).toInt64 &&& 63)).toBitVec=(Int64.ofInt (v:Int)).toBitVec <<< ((((Int32.ofInt (k:Int)).toInt64 &&& 63:Int64)).toBitVec.smod 64).toNat:=rfl
  rw [g,own_s6b ⟨k,hk⟩]
 have n1:v≤v*2 ^ k:=Nat.le_mul_of_pos_right _ (Nat.pow_pos (by decide))
 rw [e,own_LN]
 apply BitVec.eq_of_toNat_eq
 rw [BitVec.toNat_shiftLeft,BitVec.toNat_ofNat,BitVec.toNat_ofNat,Nat.mod_eq_of_lt (show v<2 ^ 64 by omega),Nat.shiftLeft_eq]
theorem own_an6 (v j:Nat) (hv:v<9223372036854775808) (hj:j≤32):and64 (v:Int) ((2 ^ j - 1:Nat):Int)=((v % 2 ^ j:Nat):Int):=by
 have l:v % 2 ^ j≤v:=Nat.mod_le _ _
 have p:(2:Nat) ^ j≤2 ^ 32:=Nat.pow_le_pow_right (by decide) hj
 have e:own_L (and64 (v:Int) ((2 ^ j - 1:Nat):Int))=own_L (v:Int) &&& own_L ((2 ^ j - 1:Nat):Int):=by
  unfold own_L and64; rw [Int64.ofInt_toInt]; rfl
 refine own_b64 (by unfold own_L and64; rw [Int64.ofInt_toInt]; rfl) ?_ (by omega)
 rw [e,own_LN,own_LN]
 apply BitVec.eq_of_toNat_eq
 rw [BitVec.toNat_and,BitVec.toNat_ofNat,BitVec.toNat_ofNat,BitVec.toNat_ofNat,Nat.mod_eq_of_lt (show v<2 ^ 64 by omega),Nat.mod_eq_of_lt (show 2 ^ j - 1<2 ^ 64 by omega),Nat.mod_eq_of_lt (show v % 2 ^ j<2 ^ 64 by omega),Nat.and_two_pow_sub_one_eq_mod]
theorem own_or6 (a c k:Nat) (ha:a<2 ^ k) (h:a+c*2 ^ k<9223372036854775808):or64 (a:Int) ((c*2 ^ k:Nat):Int)=((a+c*2 ^ k:Nat):Int)∧or64 ((c*2 ^ k:Nat):Int) (a:Int)=((a+c*2 ^ k:Nat):Int):=by
 have e:∀ x y:Int,own_L (or64 x y)=own_L x ||| own_L y:=fun x y=>by unfold own_L or64; rw [Int64.ofInt_toInt]; rfl
 have s:∀ x y:Int,or64 x y=(own_L (or64 x y)).toInt:=fun x y=>by unfold own_L or64; rw [Int64.ofInt_toInt]; rfl
 have key:BitVec.ofNat 64 (c*2 ^ k) ||| BitVec.ofNat 64 a=BitVec.ofNat 64 (a+c*2 ^ k):=by
  apply BitVec.eq_of_toNat_eq
  rw [BitVec.toNat_or,BitVec.toNat_ofNat,BitVec.toNat_ofNat,BitVec.toNat_ofNat,Nat.mod_eq_of_lt (show a<2 ^ 64 by omega),Nat.mod_eq_of_lt (show c*2 ^ k<2 ^ 64 by omega),Nat.mod_eq_of_lt (show a+c*2 ^ k<2 ^ 64 by omega),Nat.mul_comm c,← Nat.two_pow_add_eq_or_of_lt ha]
  omega
 exact ⟨own_b64 (s _ _) (by rw [e,own_LN,own_LN,BitVec.or_comm]; exact key) h,own_b64 (s _ _) (by rw [e,own_LN,own_LN]; exact key) h⟩
/- four bits are cleared -/
theorem own_clB (w M a:Nat) (ha:a+4≤w) (i:Nat) (hi:i<w):(M.testBit i && !(decide (a≤i) && decide (i<a+4)))=(2 ^ (a+4)*(M / 2 ^ (a+4))+M % 2 ^ a).testBit i:=by
 have l:M % 2 ^ a<2 ^ (a+4):=Nat.lt_of_lt_of_le (Nat.mod_lt _ (Nat.pow_pos (by decide))) (Nat.pow_le_pow_right (by decide) (by omega))
 rw [Nat.testBit_two_pow_mul_add _ l,Nat.testBit_mod_two_pow,Nat.testBit_div_two_pow]
 by_cases c:i<a+4
 ·rw [if_pos c]
  by_cases d:i<a
  ·have:¬ a≤i:=by omega
   simp [d,this]
  ·have:a≤i:=by omega
   simp [d,this,c]
 ·rw [if_neg c,show i - (a+4)+(a+4)=i by omega]
  simp [c]
theorem own_cll (M a:Nat):2 ^ (a+4)*(M / 2 ^ (a+4))+M % 2 ^ a≤M:=by
 have h1:=Nat.div_add_mod M (2 ^ (a+4))
 have h2:M % 2 ^ a≤M % 2 ^ (a+4):=by
  have:M % 2 ^ a=M % 2 ^ (a+4) % 2 ^ a:=by
   rw [Nat.pow_add,Nat.mod_mul_right_mod]
  rw [this]
  exact Nat.mod_le _ _
 omega
theorem own_cl3 (M a:Nat) (hM:M<2147483648) (ha:a+4≤31):and32 (M:Int) (xor32 (shl32 15 (a:Int)) (-1))=((2 ^ (a+4)*(M / 2 ^ (a+4))+M % 2 ^ a:Nat):Int):=by
 have l:=own_cll M a
 have p:(15:Nat)*2 ^ a<2147483648:=by
  have:(2:Nat) ^ a≤2 ^ 27:=Nat.pow_le_pow_right (by decide) (by omega)
  omega
 have s:=own_lsh 15 a (by omega) p
 refine own_b32 (by unfold own_B and32; rw [Int32.ofInt_toInt]; rfl) ?_ (by omega)
 have e:own_B (and32 (M:Int) (xor32 (shl32 15 (a:Int)) (-1)))=own_B (M:Int) &&& ~~~ own_B (shl32 15 (a:Int)):=by
  have:own_B (xor32 (shl32 15 (a:Int)) (-1)) = ~~~ own_B (shl32 15 (a:Int)):=by
   unfold own_B xor32
   rw [Int32.ofInt_toInt,Int32.toBitVec_xor,show (Int32.ofInt (-1)).toBitVec=BitVec.allOnes 32 from by decide,BitVec.xor_allOnes]
  rw [← this]
  unfold own_B and32; rw [Int32.ofInt_toInt]; rfl
 rw [e,show (15:Int)=((15:Nat):Int) from rfl,s,own_BN,own_BN]
 apply BitVec.eq_of_getLsbD_eq
 intro i hi
 rw [BitVec.getLsbD_and,BitVec.getLsbD_not,BitVec.getLsbD_ofNat,BitVec.getLsbD_ofNat,BitVec.getLsbD_ofNat,← own_clB 32 M a (by omega) i hi,show 15*2 ^ a=2 ^ a*15+0 by omega,Nat.testBit_two_pow_mul_add 15 (Nat.pow_pos (by decide))]
 have t:∀ j,Nat.testBit 15 j=decide (j<4):=fun j=>Nat.testBit_two_pow_sub_one 4 j
 rw [t]
 by_cases c:i<a
 ·have:¬ a≤i:=by omega
  simp [c,hi,this]
 ·have c1:a≤i:=by omega
  have c2:i - a<4↔i<a+4:=by omega
  simp [c,hi,c1,c2]
def own_cd (g:own_Gm) (r:Nat):Nat:=g.lhs r+4*g.len r+(if 0<g.len r then 16*g.sym r 0 else 0)+(if 1<g.len r then 128*g.sym r 1 else 0)+(if 2<g.len r then 1024*g.sym r 2 else 0)
def own_c0 (g:own_Gm) (r:Nat):Nat:=if r<g.R then own_cd g r else 0
def own_g4 (g:own_Gm) (b:Nat):Nat:=own_c0 g b+65536*own_c0 g (b+1)+4294967296*own_c0 g (b+2)+281474976710656*own_c0 g (b+3)
theorem own_cdr {g:own_Gm} (F:own_wf g) (r:Nat) (hr:r<g.R):own_cd g r<8192:=by
 obtain ⟨f1,f2,f3⟩:=F.2.1 r hr
 unfold own_cd
 have a0:=f3 0
 have a1:=f3 1
 have a2:=f3 2
 split <;> split <;> split <;> omega
theorem own_c0r {g:own_Gm} (F:own_wf g) (r:Nat):own_c0 g r<8192:=by
 unfold own_c0
 split
 ·rename_i c; exact own_cdr F r c
 ·decide
theorem own_g4r {g:own_Gm} (F:own_wf g) (b:Nat):own_g4 g b<2305843009213693952∧∀ k,k<4→own_g4 g b / 2 ^ (k*16) % 65536=own_c0 g (b+k):=by
 have q0:=own_c0r F b
 have q1:=own_c0r F (b+1)
 have q2:=own_c0r F (b+2)
 have q3:=own_c0r F (b+3)
 unfold own_g4
 refine ⟨by omega,fun k hk=>?_⟩
 have:k=0∨k=1∨k=2∨k=3:=by omega
 rcases this with rfl | rfl | rfl | rfl
 ·show _ / 1 % 65536=own_c0 g b; omega
 ·show _ / 65536 % 65536=_; omega
 ·show _ / 4294967296 % 65536=_; omega
 ·show _ / 281474976710656 % 65536=_; omega
def own_GP (g:own_Gm) (x5 x7 x9:Int):Prop:=x5=(own_g4 g 0:Int)∧x7=(own_g4 g 4:Int)∧x9=(own_g4 g 8:Int)
theorem own_rcS {g:own_Gm} (F:own_wf g) {sl:Int} {sc:Int→Int} {x5 x7 x9:Int} (H:own_GP g x5 x7 x9) (r:Nat) (hr:r<g.R) (m0 m1:OMem):l_rc sl sc x5 x7 x9 (r:Int) m0 m1=some (own_cd g r:Int):=by
 have R10:=F.1.1
 have c8:=own_cdr F r hr
 have key:∀ b k:Nat,b+k=r→k<4→k=r % 4→l_rc_b23 sl sc (r:Int) (own_g4 g b:Int) m0 m1=some (own_cd g r:Int):=fun b k e hk ek=>by
  obtain ⟨l,d⟩:=own_g4r F b
  have d:=d k hk
  unfold l_rc_b23
  have l2:own_g4 g b / 2 ^ (k*16)≤own_g4 g b:=Nat.div_le_self _ _
  rw [and32_3,show (r:Int) % 4=(k:Int) by omega,w32_id (z:=(k:Int)*16) (by omega),show (k:Int)*16=((k*16:Nat):Int) by omega,own_rs6 _ _ (by omega) (by omega),show (65535:Int)=((2 ^ 16 - 1:Nat):Int) from rfl,own_an6 _ 16 (by omega) (by decide),show (2:Nat) ^ 16=65536 from rfl,d,e]
  unfold own_c0
  rw [if_pos hr,w32_id (by omega)]
 unfold l_rc
 rw [H.1,H.2.1,H.2.2]
 by_cases c:r<4
 ·rw [if_pos (by omega)]; exact key 0 r (by omega) c (by omega)
 ·rw [if_neg (by omega)]
  by_cases d:r<8
  ·rw [if_pos (by omega)]; exact key 4 (r - 4) (by omega) (by omega) (by omega)
  ·rw [if_neg (by omega)]; exact key 8 (r - 8) (by omega) (by omega) (by omega)
theorem own_cdd {g:own_Gm} (F:own_wf g) (r:Nat) (hr:r<g.R):and32 (own_cd g r:Int) 3=(g.lhs r:Int)∧and32 (shr32 (own_cd g r:Int) 2) 3=(g.len r:Int)∧∀ q:Nat,q<g.len r→and32 (shr32 (own_cd g r:Int) (w32 (4+w32 (3*(q:Int))))) 7=(g.sym r q:Int):=by
 obtain ⟨f1,f2,f3⟩:=F.2.1 r hr
 have c8:=own_cdr F r hr
 have a0:=f3 0
 have a1:=f3 1
 have a2:=f3 2
 have e:own_cd g r=g.lhs r+4*g.len r+(if 0<g.len r then 16*g.sym r 0 else 0)+(if 1<g.len r then 128*g.sym r 1 else 0)+(if 2<g.len r then 1024*g.sym r 2 else 0):=rfl
 refine ⟨?_,?_,fun q hq=>?_⟩
 ·rw [and32_3,e]
  (repeat' split) <;> omega
 ·have s:=own_rsh (own_cd g r) 2 (by omega) (by decide)
  rw [show (2:Int)=((2:Nat):Int) from rfl,s,and32_3]
  show ((own_cd g r / 4:Nat):Int) % 4=_
  rw [e]
  (repeat' split) <;> omega
 ·rw [w32_id (z:=3*(q:Int)) (by omega),w32_id (z:=4+3*(q:Int)) (by omega),show 4+3*(q:Int)=((4+3*q:Nat):Int) by omega,own_rsh (own_cd g r) (4+3*q) (by omega) (by omega),and32_7]
  have:q=0∨q=1∨q=2:=by omega
  rcases this with rfl | rfl | rfl
  ·show ((own_cd g r / 16:Nat):Int) % 8=_
   rw [e]
   (repeat' split) <;> omega
  ·show ((own_cd g r / 128:Nat):Int) % 8=_
   rw [e]
   (repeat' split) <;> omega
  ·show ((own_cd g r / 1024:Nat):Int) % 8=_
   rw [e]
   (repeat' split) <;> omega
/- nibbles -/
def own_nb (M A:Nat):Nat:=M / 2 ^ (4*A) % 16
theorem own_mlS {sl:Int} {sc:Int→Int} (M s:Nat) (hM:M<65536) (m0 m1:OMem):l_mlOf sl sc (M:Int) (s:Int) m0 m1=some (own_mo (own_nb M) s:Int):=by
 unfold l_mlOf l_mlOf_b17 own_mo
 by_cases c:s<4
 ·rw [if_pos (by omega),if_pos c,w32_id (z:=4*(s:Int)) (by omega),show 4*(s:Int)=((4*s:Nat):Int) by omega,own_rsh M (4*s) (by omega) (by omega),and32_15]
  unfold own_nb
  congr 1
 ·rw [if_neg (by omega),if_neg c]; rfl
theorem own_or3n (h s lo a:Nat) (hs:s<16) (hl:lo<2 ^ a) (ht:2 ^ (a+4)*h+s*2 ^ a+lo<2147483648):or32 ((2 ^ (a+4)*h+lo:Nat):Int) ((s*2 ^ a:Nat):Int)=((2 ^ (a+4)*h+s*2 ^ a+lo:Nat):Int):=by
 refine own_b32 (by unfold own_B or32; rw [Int32.ofInt_toInt]; rfl) ?_ ht
 have e:own_B (or32 ((2 ^ (a+4)*h+lo:Nat):Int) ((s*2 ^ a:Nat):Int))=own_B ((2 ^ (a+4)*h+lo:Nat):Int) ||| own_B ((s*2 ^ a:Nat):Int):=by
  unfold own_B or32; rw [Int32.ofInt_toInt]; rfl
 have p4:(2:Nat) ^ (a+4)=16*2 ^ a:=by rw [Nat.pow_add]; omega
 have sl:s*2 ^ a+lo<2 ^ (a+4):=by
  rw [p4]
  have:s*2 ^ a≤15*2 ^ a:=Nat.mul_le_mul_right _ (by omega)
  omega
 rw [e,own_BN,own_BN]
 apply BitVec.eq_of_toNat_eq
 rw [BitVec.toNat_or,BitVec.toNat_ofNat,BitVec.toNat_ofNat,BitVec.toNat_ofNat,Nat.mod_eq_of_lt (show 2 ^ (a+4)*h+lo<2 ^ 32 by omega),Nat.mod_eq_of_lt (show s*2 ^ a<2 ^ 32 by omega),Nat.mod_eq_of_lt (show 2 ^ (a+4)*h+s*2 ^ a+lo<2 ^ 32 by omega),Nat.two_pow_add_eq_or_of_lt (by omega),Nat.or_assoc,Nat.or_comm lo,Nat.mul_comm s,← Nat.two_pow_add_eq_or_of_lt hl s,Nat.mul_comm _ s,← Nat.two_pow_add_eq_or_of_lt sl h]
 omega
theorem own_nbu (M A s:Nat) (hM:M<65536) (hA:A<4) (hs:s<16):2 ^ (4*A+4)*(M / 2 ^ (4*A+4))+s*2 ^ (4*A)+M % 2 ^ (4*A)<65536∧∀ B,B<4→own_nb (2 ^ (4*A+4)*(M / 2 ^ (4*A+4))+s*2 ^ (4*A)+M % 2 ^ (4*A)) B=if B=A then s else own_nb M B:=by
 have h4:∀ B,B<4→B=0∨B=1∨B=2∨B=3:=fun B h=>by omega
 rcases h4 A hA with rfl | rfl | rfl | rfl
 ·refine ⟨by show 16*(M / 16)+s*1+M % 1<65536; omega,fun B hB=>?_⟩
  show own_nb (16*(M / 16)+s*1+M % 1) B=_
  unfold own_nb
  rcases h4 B hB with rfl | rfl | rfl | rfl
  ·show _ / 1 % 16=s; omega
  ·show _ / 16 % 16=M / 16 % 16; omega
  ·show _ / 256 % 16=M / 256 % 16; omega
  ·show _ / 4096 % 16=M / 4096 % 16; omega
 ·refine ⟨by show 256*(M / 256)+s*16+M % 16<65536; omega,fun B hB=>?_⟩
  show own_nb (256*(M / 256)+s*16+M % 16) B=_
  unfold own_nb
  rcases h4 B hB with rfl | rfl | rfl | rfl
  ·show _ / 1 % 16=M / 1 % 16; omega
  ·show _ / 16 % 16=s; omega
  ·show _ / 256 % 16=M / 256 % 16; omega
  ·show _ / 4096 % 16=M / 4096 % 16; omega
 ·refine ⟨by show 4096*(M / 4096)+s*256+M % 256<65536; omega,fun B hB=>?_⟩
  show own_nb (4096*(M / 4096)+s*256+M % 256) B=_
  unfold own_nb
  rcases h4 B hB with rfl | rfl | rfl | rfl
  ·show _ / 1 % 16=M / 1 % 16; omega
  ·show _ / 16 % 16=M / 16 % 16; omega
  ·show _ / 256 % 16=s; omega
  ·show _ / 4096 % 16=M / 4096 % 16; omega
 ·refine ⟨by show 65536*(M / 65536)+s*4096+M % 4096<65536; omega,fun B hB=>?_⟩
  show own_nb (65536*(M / 65536)+s*4096+M % 4096) B=_
  unfold own_nb
  rcases h4 B hB with rfl | rfl | rfl | rfl
  ·show _ / 1 % 16=M / 1 % 16; omega
  ·show _ / 16 % 16=M / 16 % 16; omega
  ·show _ / 256 % 16=M / 256 % 16; omega
  ·show _ / 4096 % 16=s; omega
theorem own_nbs (M A s:Nat) (hM:M<65536) (hA:A<4) (hs:s<16):∃ M':Nat,or32 (and32 (M:Int) (xor32 (shl32 15 (w32 (4*(A:Int)))) (-1))) (shl32 (s:Int) (w32 (4*(A:Int))))=(M':Int)∧M'<65536∧∀ B,B<4→own_nb M' B=if B=A then s else own_nb M B:=by
 have p:s*2 ^ (4*A)<2147483648:=by
  have:(2:Nat) ^ (4*A)≤2 ^ 12:=Nat.pow_le_pow_right (by decide) (by omega)
  have:s*2 ^ (4*A)≤15*2 ^ 12:=Nat.mul_le_mul (by omega) this
  omega
 obtain ⟨u1,u2⟩:=own_nbu M A s hM hA hs
 refine ⟨_,?_,u1,u2⟩
 rw [w32_id (z:=4*(A:Int)) (by omega),show 4*(A:Int)=((4*A:Nat):Int) by omega,own_cl3 M (4*A) (by omega) (by omega),own_lsh s (4*A) (by omega) p]
 exact own_or3n (M / 2 ^ (4*A+4)) s (M % 2 ^ (4*A)) (4*A) hs (Nat.mod_lt _ (Nat.pow_pos (by decide))) (by omega)
def own_Zm (M:Nat):Nat:=own_nb M 0+own_nb M 1+own_nb M 2+own_nb M 3
theorem own_Zmu {M M' A s:Nat} (hA:A<4) (h:∀ B,B<4→own_nb M' B=if B=A then s else own_nb M B) (hs:s<own_nb M A):own_Zm M'+1≤own_Zm M:=by
 have h0:=h 0 (by decide)
 have h1:=h 1 (by decide)
 have h2:=h 2 (by decide)
 have h3:=h 3 (by decide)
 unfold own_Zm
 have:A=0∨A=1∨A=2∨A=3:=by omega
 rcases this with rfl | rfl | rfl | rfl
 ·rw [if_pos rfl] at h0; rw [if_neg (by decide)] at h1 h2 h3; omega
 ·rw [if_pos rfl] at h1; rw [if_neg (by decide)] at h0 h2 h3; omega
 ·rw [if_pos rfl] at h2; rw [if_neg (by decide)] at h0 h1 h3; omega
 ·rw [if_pos rfl] at h3; rw [if_neg (by decide)] at h0 h1 h2; omega
theorem own_mnS {g:own_Gm} (F:own_wf g) {sl:Int} {sc:Int→Int} {x5 x7 x9:Int} (H:own_GP g x5 x7 x9) (m0 m1:OMem):Ok (l_minLens sl sc x5 x7 x9 (g.R:Int) m0 m1) (fun v=>∃ M:Nat,v=(M:Int)∧M<65536∧own_mlc g (own_nb M)):=by
 have R10:=F.1.1
 unfold l_minLens l_minLens_b161
 refine Ok.bind (P:=fun e=>(∀ v,e=Sum.inl v→∃ M:Nat,v=(M:Int)∧M<65536∧own_mlc g (own_nb M))∧∀ v,e=Sum.inr v→False) ?_ fun e he=>?_
 ·refine Ok.loop (fun s=>(0≤s.2∧s.2≤40)∧∃ M:Nat,s.1=(M:Int)∧M<65536∧(own_Zm M:Int)+s.2≤36) (fun s=>(41 - s.2).toNat) ⟨by decide,39321,rfl,by decide,by decide⟩ (by decide) ?_
  rintro ⟨_,it⟩ ⟨hit,M,rfl,hM,hZ⟩
  dsimp only at hit hZ
  unfold l_minLens_l7
  dsimp only
  rw [if_pos (by omega)]
  refine Ok.bind (P:=fun r=>∃ N:Nat,r.1=(N:Int)∧N<65536∧((r.2=0∧own_mlc g (own_nb N))∨(r.2=1∧own_Zm N+1≤own_Zm M))) ?_ ?_
  ·refine Ok.loop (fun s=>∃ r N:Nat,s.2.2=(r:Int)∧r≤g.R∧s.1=(N:Int)∧N<65536∧((s.2.1=0∧N=M∧∀ r',r'<r→own_nb M (g.lhs r')≤own_ss (fun t=>own_mo (own_nb M) (g.sym r' t)) (g.len r'))∨(s.2.1=1∧own_Zm N+1≤own_Zm M))) (fun s=>(11 - s.2.2).toNat) ⟨0,M,rfl,Nat.zero_le _,rfl,hM,Or.inl ⟨rfl,rfl,fun r' h=>by omega⟩⟩ (by dsimp only; omega) ?_
   rintro ⟨_,ch,_⟩ ⟨r,N,rfl,hr,rfl,hN,hd⟩
   dsimp only at hd
   unfold l_minLens_l20
   dsimp only
   by_cases c:(r:Int)<(g.R:Int)
   ·have hr':r<g.R:=by omega
    obtain ⟨d1,d2,d3⟩:=own_cdd F r hr'
    obtain ⟨f1,f2,f3⟩:=F.2.1 r hr'
    rw [if_pos c,own_rcS F H r hr',Option.bind_some,d1,d2]
    refine Ok.bind (P:=fun v=>v=(own_ss (fun t=>own_mo (own_nb N) (g.sym r t)) (g.len r):Int)∧v≤48) ?_ fun v hv=>?_
    ·refine Ok.loop (fun s=>∃ q:Nat,s.2=(q:Int)∧q≤g.len r∧(Unit→s.1=(own_ss (fun t=>own_mo (own_nb N) (g.sym r t)) q:Int))∧0≤s.1∧s.1≤16*s.2) (fun s=>(4 - s.2).toNat) ⟨0,rfl,Nat.zero_le _,fun _=>rfl,by decide,by decide⟩ (by dsimp only; omega) ?_
     rintro ⟨a,_⟩ ⟨q,rfl,hq,ha,ha0,ha1⟩
     dsimp only at ha ha0 ha1
     unfold l_minLens_l58
     dsimp only
     by_cases cq:(q:Int)<(g.len r:Int)
     ·have mb:own_mo (own_nb N) (g.sym r q)≤15:=by
       unfold own_mo own_nb
       split <;> omega
      rw [if_pos cq,d3 q (by omega),own_mlS N _ hN,Option.bind_some,w32_id (z:=a+(own_mo (own_nb N) (g.sym r q):Int)) (by omega),w32_id (z:=(q:Int)+1) (by omega)]
      refine Ok.ret ⟨⟨q+1,rfl,by omega,fun _=>?_,by dsimp only; omega,by dsimp only; omega⟩,by dsimp only; omega⟩
      dsimp only
      rw [ha ()]
      rfl
     ·rw [if_neg cq]
      refine Ok.ret ⟨?_,by omega⟩
      rw [ha (),show q=g.len r by omega]
    ·obtain ⟨hv,hv2⟩:=hv
     -- the rule,with its sum cut at 9
     have go:∀ s:Nat,s≤9→(s:Int)≤v→(∀ u:Nat,u≤9→(u:Int)≤v→u≤s)→Ok (l_minLens_b104 sl sc x5 x7 x9 (g.R:Int) (N:Int) it ch (r:Int) (g.lhs r:Int) (s:Int) m0 m1) (fun x=>∃ (ch':Int) (N':Nat),x=Sum.inl ((N':Int),ch',((r+1:Nat):Int))∧N'<65536∧((ch'=0∧N'=M∧∀ r',r'<r+1→own_nb M (g.lhs r')≤own_ss (fun t=>own_mo (own_nb M) (g.sym r' t)) (g.len r'))∨(ch'=1∧own_Zm N'+1≤own_Zm M))):=fun s s9 sv smax=>by
      unfold l_minLens_b104 l_minLens_b141
      rw [own_mlS N (g.lhs r) hN,Option.bind_some,w32_id (z:=(r:Int)+1) (by omega)]
      have em:own_mo (own_nb N) (g.lhs r)=own_nb N (g.lhs r):=if_pos f1
      rw [em]
      by_cases cs:(s:Int)<(own_nb N (g.lhs r):Int)
      ·rw [if_pos cs]
       obtain ⟨N',e1,e2,e3⟩:=own_nbs N (g.lhs r) s hN f1 (by omega)
       rw [e1]
       have zz:=own_Zmu f1 e3 (by omega)
       refine Ok.ret ⟨1,N',rfl,e2,Or.inr ⟨rfl,?_⟩⟩
       rcases hd with ⟨_,rfl,_⟩ | ⟨_,hd⟩
       ·exact zz
       ·omega
      ·rw [if_neg cs]
       refine Ok.ret ⟨ch,N,rfl,hN,?_⟩
       rcases hd with ⟨h1,rfl,h3⟩ | hd
       ·refine Or.inl ⟨h1,rfl,fun r' hr'=>?_⟩
        by_cases er:r'=r
        ·rw [er]; omega
        ·exact h3 r' (by omega)
       ·exact Or.inr hd
     by_cases c9:9<v
     ·rw [if_pos c9]
      refine Ok.mono (go 9 (by decide) (by omega) fun u hu _=>hu) fun x hx=>?_
      obtain ⟨ch',N',rfl,hN',hd'⟩:=hx
      exact ⟨⟨r+1,N',rfl,by omega,rfl,hN',hd'⟩,by dsimp only; omega⟩
     ·rw [if_neg c9]
      obtain ⟨s,hs⟩:∃ s:Nat,v=(s:Int):=⟨_,hv⟩
      rw [hs]
      refine Ok.mono (go s (by omega) (by omega) fun u _ hu=>by omega) fun x hx=>?_
      obtain ⟨ch',N',rfl,hN',hd'⟩:=hx
      exact ⟨⟨r+1,N',rfl,by omega,rfl,hN',hd'⟩,by dsimp only; omega⟩
   ·rw [if_neg c]
    refine Ok.ret ⟨N,rfl,hN,?_⟩
    rcases hd with ⟨h1,rfl,h3⟩ | hd
    ·exact Or.inl ⟨h1,fun r' hr'=>h3 r' (by omega)⟩
    ·exact Or.inr hd
  ·rintro ⟨_,ch⟩ ⟨N,rfl,hN,hd⟩
   dsimp only at hd ⊢
   rcases hd with ⟨rfl,hd⟩ | ⟨rfl,hd⟩
   ·rw [if_pos rfl]
    exact Ok.ret ⟨fun v hv=>by cases hv; exact ⟨N,rfl,hN,hd⟩,fun v hv=>by cases hv⟩
   ·rw [if_neg (by decide),w32_id (z:=it+1) (by omega)]
    exact Ok.ret ⟨⟨by dsimp only; omega,N,rfl,hN,by dsimp only; omega⟩,by dsimp only; omega⟩
 ·cases e with
  | inl v=>exact Ok.ret (he.1 v rfl)
  | inr v=>exact absurd rfl (fun h=>he.2 v h)
def own_nf (g:own_Gm):List Nat→Nat→Option (List Nat×Nat)
 | [],p=>some ([],p)
 | s :: l,p=>if s<4 then some (s :: l,p) else if p<g.n∧g.tok p=s - 4 then own_nf g l (p+1) else none
def own_nfo (g:own_Gm) (o:Option (List Nat×Nat)):Option (List Nat×Nat):=o.bind fun c=>own_nf g c.1 c.2
def own_sx (g:own_Gm) (d:Nat) (o:Option (List Nat×Nat)):Option (List Nat×Nat):=o.bind fun c=>if d<g.R∧c.1.head?=some (g.lhs d) then some (own_rs g d (g.len d) 0 ++ c.1.tail,c.2) else none
def own_K (g:own_Gm) (ds:Nat→Nat):Nat→Option (List Nat×Nat)
 | 0=>some ([0],0)
 | k+1=>own_sx g (ds k) (own_nfo g (own_K g ds k))
def own_Po (g:own_Gm) (X:Nat→Nat→Nat→Nat) (o:Option (List Nat×Nat)):Nat:=match o with | none=>0 | some c=>own_P g X c.1 c.2
def own_wt (g:own_Gm) (X:Nat→Nat→Nat→Nat) (ds:Nat→Nat) (k:Nat):Nat:=own_Po g X (own_K g ds k)
theorem own_nfP {g:own_Gm} {X:Nat→Nat→Nat→Nat}:∀ (l:List Nat) (p:Nat),own_Po g X (own_nf g l p)=own_P g X l p
 | [],p=>rfl
 | s :: l,p=>by
  unfold own_nf
  by_cases c:s<4
  ·rw [if_pos c]; rfl
  ·rw [if_neg c,own_Pt s l p c]
   by_cases d:p<g.n∧g.tok p=s - 4
   ·rw [if_pos d,if_pos d]; exact own_nfP l (p+1)
   ·rw [if_neg d,if_neg d]; rfl
theorem own_nfoP {g:own_Gm} {X:Nat→Nat→Nat→Nat} (o:Option (List Nat×Nat)):own_Po g X (own_nfo g o)=own_Po g X o:=by
 cases o with
 | none=>rfl
 | some c=>exact own_nfP c.1 c.2
/- the place in the input stays within it -/
theorem own_nfp {g:own_Gm}:∀ (l:List Nat) (p:Nat) (c:List Nat×Nat),p≤g.n→own_nf g l p=some c→c.2≤g.n
 | [],p,c,hp,h=>by
  have:c=([],p):=(Option.some.inj h).symm
  rw [this]; exact hp
 | s :: l,p,c,hp,h=>by
  unfold own_nf at h
  by_cases d:s<4
  ·rw [if_pos d] at h
   have:c=(s :: l,p):=(Option.some.inj h).symm
   rw [this]; exact hp
  ·rw [if_neg d] at h
   by_cases e:p<g.n∧g.tok p=s - 4
   ·rw [if_pos e] at h; exact own_nfp l (p+1) c (by omega) h
   ·rw [if_neg e] at h; cases h
theorem own_Kp {g:own_Gm} (ds:Nat→Nat):∀ (k:Nat) (c:List Nat×Nat),own_nfo g (own_K g ds k)=some c→c.2≤g.n
 | 0,c,h=>own_nfp [0] 0 c (Nat.zero_le _) h
 | k+1,c,h=>by
  unfold own_K own_sx own_nfo at h
  cases e:own_nfo g (own_K g ds k) with
  | none =>
   have e':(own_K g ds k).bind (fun c=>own_nf g c.1 c.2)=none:=e
   rw [e'] at h; cases h
  | some b =>
   have e':(own_K g ds k).bind (fun c=>own_nf g c.1 c.2)=some b:=e
   rw [e',Option.bind_some] at h
   have hb:=own_Kp ds k b e
   by_cases d:ds k<g.R∧b.1.head?=some (g.lhs (ds k))
   ·rw [if_pos d,Option.bind_some] at h
    exact own_nfp _ _ c hb h
   ·rw [if_neg d] at h; cases h
theorem own_Kc {g:own_Gm} {ds ds':Nat→Nat}:∀ k,(∀ j,j<k→ds' j=ds j)→own_K g ds' k=own_K g ds k
 | 0,_=>rfl
 | k+1,h=>by
  show own_sx g (ds' k) (own_nfo g (own_K g ds' k))=own_sx g (ds k) (own_nfo g (own_K g ds k))
  rw [own_Kc k fun j hj=>h j (by omega),h k (by omega)]
def own_upd (ds:Nat→Nat) (k d:Nat):Nat→Nat:=fun j=>if j=k then d else ds j
theorem own_wtc {g:own_Gm} {X:Nat→Nat→Nat→Nat} {ds ds':Nat→Nat} (k:Nat) (h:∀ j,j<k→ds' j=ds j):own_wt g X ds' k=own_wt g X ds k:=by unfold own_wt; rw [own_Kc k h]
/- a choice is wanted -/
def own_wc (g:own_Gm) (ds:Nat→Nat) (k:Nat):Prop:=∃ A l p,A<4∧own_nfo g (own_K g ds k)=some (A :: l,p)
theorem own_sxP {g:own_Gm} {X:Nat→Nat→Nat→Nat} {A:Nat} {l:List Nat} {p d:Nat} (hd:d<g.R):own_Po g X (own_sx g d (some (A :: l,p)))=if g.lhs d=A then own_P g X (own_rs g d (g.len d) 0 ++ l) p else 0:=by
 unfold own_sx
 rw [Option.bind_some]
 by_cases c:g.lhs d=A
 ·rw [if_pos c,if_pos ⟨hd,by rw [c]; rfl⟩]; rfl
 ·rw [if_neg c,if_neg (fun z=>c (Option.some.inj z.2).symm)]; rfl
theorem own_wts {g:own_Gm} {X:Nat→Nat→Nat→Nat} {m:OMem} (T:own_TC g m X) {ds:Nat→Nat} {k:Nat} (C:own_wc g ds k):own_wt g X ds k=own_ss (fun d=>own_wt g X (own_upd ds k d) (k+1)) g.R:=by
 obtain ⟨A,l,p,hA,e⟩:=C
 have hp:=own_Kp ds k _ e
 unfold own_wt
 rw [← own_nfoP,e]
 show own_P g X (A :: l) p=_
 rw [own_Pn T A hA l p hp]
 refine own_ssc _ fun d hd=>?_
 show _=own_Po g X (own_sx g (own_upd ds k d k) (own_nfo g (own_K g (own_upd ds k d) k)))
 rw [own_Kc (ds:=ds) (ds':=own_upd ds k d) k fun j hj=>if_neg (by omega),e,show own_upd ds k d k=d from if_pos rfl,own_sxP hd]
/- no weight,none further on -/
theorem own_wt0 {g:own_Gm} {X:Nat→Nat→Nat→Nat} {m:OMem} (T:own_TC g m X) {ds:Nat→Nat} {k:Nat} (h:own_wt g X ds k=0):own_wt g X ds (k+1)=0:=by
 show own_Po g X (own_sx g (ds k) (own_nfo g (own_K g ds k)))=0
 cases e:own_nfo g (own_K g ds k) with
 | none=>rfl
 | some c =>
  obtain ⟨l,p⟩:=c
  by_cases d:ds k<g.R∧l.head?=some (g.lhs (ds k))
  ·cases l with
   | nil=>cases d.2
   | cons A l =>
    rw [own_sxP d.1]
    have hA:A=g.lhs (ds k):=Option.some.inj d.2
    rw [if_pos hA.symm]
    have hp:=own_Kp ds k _ e
    unfold own_wt at h
    rw [← own_nfoP,e] at h
    have h:own_P g X (A :: l) p=0:=h
    by_cases hA4:A<4
    ·rw [own_Pn T A hA4 l p hp] at h
     have:=own_ssl (f:=fun r=>if g.lhs r=A then own_P g X (own_rs g r (g.len r) 0 ++ l) p else 0) (ds k) g.R d.1
     rw [h,if_pos hA.symm] at this
     omega
    ·-- a terminal doesn't stand there
     exfalso
     have nt:∀ (l':List Nat) (p':Nat),own_nf g l' p'=some (A :: l,p)→A<4:=fun l'=>by
      induction l' with
      | nil=>intro p' h; cases h
      | cons s l' ih =>
       intro p' h
       unfold own_nf at h
       by_cases c:s<4
       ·rw [if_pos c] at h
        have:=(Option.some.inj h)
        cases this
        exact c
       ·rw [if_neg c] at h
        by_cases c2:p'<g.n∧g.tok p'=s - 4
        ·rw [if_pos c2] at h; exact ih _ h
        ·rw [if_neg c2] at h; cases h
     unfold own_nfo at e
     cases eK:own_K g ds k with
     | none=>rw [eK] at e; cases e
     | some b=>rw [eK,Option.bind_some] at e; exact hA4 (nt _ _ e)
  ·have:own_sx g (ds k) (some (l,p))=none:=by
    unfold own_sx
    rw [Option.bind_some,if_neg d]
   rw [this]; rfl
theorem own_wtz {g:own_Gm} {X:Nat→Nat→Nat→Nat} {m:OMem} (T:own_TC g m X) {ds:Nat→Nat} {k:Nat} (h:own_wt g X ds k=0):∀ d,own_wt g X ds (k+d)=0
 | 0=>h
 | d+1=>own_wt0 T (own_wtz T h d)
/- packed stacks -/
def own_st:List Nat→Nat
 | []=>0
 | s :: l=>s+8*own_st l
def own_s8 (l:List Nat):Prop:=∀ s,s∈l→s<8
theorem own_stb:∀ l:List Nat,own_s8 l→own_st l<8 ^ l.length
 | [],_=>by decide
 | s :: l,h=>by
  have:=own_stb l fun x hx=>h x (List.mem_cons_of_mem _ hx)
  have hs:=h s (List.mem_cons_self ..)
  show s+8*own_st l<8 ^ (l.length+1)
  rw [Nat.pow_succ]
  omega
theorem own_stB {l:List Nat} (h:own_s8 l) (hl:l.length≤20):own_st l<1152921504606846976:=by
 have a:=own_stb l h
 have b:(8:Nat) ^ l.length≤8 ^ 20:=Nat.pow_le_pow_right (by decide) hl
 have c:(8:Nat) ^ 20=1152921504606846976:=by decide
 omega
theorem own_rs8 {g:own_Gm} (r:Nat):∀ d t:Nat,(∀ q,t≤q→q<t+d→g.sym r q<8)→own_s8 (own_rs g r d t)
 | 0,t,_=>fun s hs=>by cases hs
 | d+1,t,h=>fun s hs=>by
  rcases List.mem_cons.mp hs with e | hs
  ·rw [e]; exact h t (by omega) (by omega)
  ·exact own_rs8 r d (t+1) (fun q a b=>h q (by omega) (by omega)) s hs
theorem own_rsl {g:own_Gm} (r:Nat):∀ d t:Nat,(own_rs g r d t).length=d
 | 0,t=>rfl
 | d+1,t=>congrArg (·+1) (own_rsl r d (t+1))
theorem own_s8a {l l':List Nat} (h:own_s8 l) (h':own_s8 l'):own_s8 (l ++ l'):=fun s hs=>(List.mem_append.mp hs).elim (h s) (h' s)
def own_LP (g:own_Gm) (x5 x7 x9 inp:Int) (M:Nat):Prop:=(own_GP g x5 x7 x9)∧(∀ p:Nat,p<g.n→and32 (shr32 inp (w32 (2*(p:Int)))) 3=(g.tok p:Int))∧(M<65536)∧(own_mlc g (own_nb M))
theorem own_LP.gp {g:own_Gm} {x5 x7 x9 inp:Int} {M:Nat} (h:own_LP g x5 x7 x9 inp M):own_GP g x5 x7 x9:=h.1
theorem own_LP.ip {g:own_Gm} {x5 x7 x9 inp:Int} {M:Nat} (h:own_LP g x5 x7 x9 inp M):∀ p:Nat,p<g.n→and32 (shr32 inp (w32 (2*(p:Int)))) 3=(g.tok p:Int):=h.2.1
theorem own_LP.m1 {g:own_Gm} {x5 x7 x9 inp:Int} {M:Nat} (h:own_LP g x5 x7 x9 inp M):M<65536:=h.2.2.1
theorem own_LP.m2 {g:own_Gm} {x5 x7 x9 inp:Int} {M:Nat} (h:own_LP g x5 x7 x9 inp M):own_mlc g (own_nb M):=h.2.2.2
theorem own_s51 {sl:Int} {sc:Int→Int} {x0 x2 x4 x6 x7 x8 x10 x12 x13 x15 x16 x17 x18:Int} (M:Nat) (hM:M<65536) (m0 m1:OMem) (l:List Nat) (h8:own_s8 l) (hl:l.length≤20) (hx:x15=(l.length:Int)):Ok (lp (l_sim_l51 sl sc m0 m1 x0 x2 x4 x6 x7 x8 (M:Int) x10 x12 x13 x15 x16 x17 x18) NN (0,(own_st l:Int),0)) (fun v=>v=(own_sm (own_nb M) l:Int)):=by
 refine Ok.loop (fun s=>∃ (l1:List Nat) (a:Nat),own_s8 l1∧s.2.1=(own_st l1:Int)∧s.2.2+(l1.length:Int)=(l.length:Int)∧0≤s.2.2∧s.1=(a:Int)∧(a:Int)≤16*s.2.2∧a+own_sm (own_nb M) l1=own_sm (own_nb M) l) (fun s=>(21 - s.2.2).toNat) ⟨l,0,h8,rfl,by dsimp only; omega,by dsimp only; omega,rfl,by dsimp only; omega,by omega⟩ (by dsimp only; omega) ?_
 rintro ⟨_,_,q⟩ ⟨l1,a,g8,rfl,e1,e2,rfl,e3,e4⟩
 dsimp only at e1 e2 e3
 unfold l_sim_l51
 dsimp only
 rw [hx]
 by_cases c:q<(l.length:Int)
 ·rw [if_pos c]
  cases l1 with
  | nil =>
   have:(([]:List Nat).length:Int)=0:=rfl
   omega
  | cons s l2 =>
   have ln:((s :: l2).length:Int)=(l2.length:Int)+1:=rfl
   have s8:=g8 s (List.mem_cons_self ..)
   have h2:own_s8 l2:=fun x hx=>g8 x (List.mem_cons_of_mem _ hx)
   have sb:=own_stB g8 (by omega)
   have es:own_st (s :: l2)=s+8*own_st l2:=rfl
   have mb:own_mo (own_nb M) s≤15:=by
    unfold own_mo own_nb
    split <;> omega
   have em:own_sm (own_nb M) (s :: l2)=own_mo (own_nb M) s+own_sm (own_nb M) l2:=rfl
   rw [show (7:Int)=((2 ^ 3 - 1:Nat):Int) from rfl,own_an6 _ 3 (by omega) (by decide),show (3:Int)=((3:Nat):Int) from rfl,own_rs6 _ 3 (by omega) (by decide),show own_st (s :: l2) % 2 ^ 3=s by rw [es]; omega,show own_st (s :: l2) / 2 ^ 3=own_st l2 by rw [es]; omega,w32_id (z:=(s:Int)) (by omega),own_mlS M s hM,Option.bind_some,w32_id (z:=(a:Int)+(own_mo (own_nb M) s:Int)) (by omega),w32_id (z:=q+1) (by omega)]
   exact Ok.ret ⟨⟨l2,a+own_mo (own_nb M) s,h2,rfl,by dsimp only; omega,by dsimp only; omega,by dsimp only; omega,by dsimp only; omega,by omega⟩,by dsimp only; omega⟩
 ·rw [if_neg c]
  refine Ok.ret ?_
  cases l1 with
  | nil =>
   have:own_sm (own_nb M) []=0:=rfl
   omega
  | cons s l2 =>
   have ln:((s :: l2).length:Int)=(l2.length:Int)+1:=rfl
   omega
theorem own_s225 {sl:Int} {sc:Int→Int} {x0 x2 x4 x6 x7 x8 x9 x10 x12 x15 x16 x17 x18 x25:Int} {g:own_Gm} (F:own_wf g) (r:Nat) (hr:r<g.R) (m0 m1:OMem) (l:List Nat) (h8:own_s8 l):Ok (lp (l_sim_l225 sl sc m0 m1 x0 x2 x4 x6 x7 x8 x9 x10 x12 x15 x16 x17 x18 (own_cd g r:Int) x25) NN ((own_st l:Int),(g.len r:Int) - 1)) (fun v=>l.length+g.len r≤20→v=(own_st (own_rs g r (g.len r) 0 ++ l):Int)):=by
 obtain ⟨f1,f2,f3⟩:=F.2.1 r hr
 obtain ⟨d1,d2,d3⟩:=own_cdd F r hr
 refine Ok.loop (fun s=>∃ t:Nat,t≤g.len r∧s.2=(t:Int) - 1∧(l.length+g.len r≤20→s.1=(own_st (own_rs g r (g.len r - t) t ++ l):Int))) (fun s=>(s.2+1).toNat) ⟨g.len r,Nat.le_refl _,rfl,fun _=>by dsimp only; rw [Nat.sub_self]; rfl⟩ (by dsimp only; omega) ?_
 rintro ⟨v,_⟩ ⟨t,ht,rfl,hv⟩
 dsimp only at hv
 unfold l_sim_l225
 dsimp only
 by_cases c:(t:Int) - 1<0
 ·rw [if_pos c]
  have:t=0:=by omega
  subst this
  exact Ok.ret fun h=>by rw [hv h,Nat.sub_zero]
 ·rw [if_neg c,show (t:Int) - 1=((t - 1:Nat):Int) by omega,d3 (t - 1) (by omega),w32_id (z:=((t - 1:Nat):Int)+-1) (by omega)]
  refine Ok.ret ⟨⟨t - 1,by omega,by dsimp only; omega,fun h=>?_⟩,by dsimp only; omega⟩
  dsimp only
  have s8:=f3 (t - 1) (by omega)
  have a8:own_s8 (own_rs g r (g.len r - t) t ++ l):=own_s8a (own_rs8 r _ _ fun q a b=>f3 q (by omega)) h8
  have len:(own_rs g r (g.len r - t) t ++ l).length=g.len r - t+l.length:=by rw [List.length_append,own_rsl]
  have sb:=own_stb _ a8
  have p:(8:Nat) ^ (own_rs g r (g.len r - t) t ++ l).length≤8 ^ 19:=Nat.pow_le_pow_right (by decide) (by omega)
  have p19:(8:Nat) ^ 19=144115188075855872:=by decide
  rw [hv h,show (3:Int)=((3:Nat):Int) from rfl,own_ls6 _ 3 (by decide) (by omega)]
  have:=(own_or6 (g.sym r (t - 1)) (own_st (own_rs g r (g.len r - t) t ++ l)) 3 (by omega) (by omega)).2
  rw [this]
  have er:own_rs g r (g.len r - (t - 1)) (t - 1)=g.sym r (t - 1) :: own_rs g r (g.len r - t) t:=by
   rw [show g.len r - (t - 1)=(g.len r - t)+1 by omega]
   show g.sym r (t - 1) :: own_rs g r (g.len r - t) (t - 1+1)=_
   rw [show t - 1+1=t by omega]
  rw [er]
  show ((g.sym r (t - 1)+own_st (own_rs g r (g.len r - t) t ++ l)*8:Nat):Int)=((g.sym r (t - 1)+8*own_st (own_rs g r (g.len r - t) t ++ l):Nat):Int)
  rw [Nat.mul_comm 8]
theorem own_siS {g:own_Gm} (F:own_wf g) {X:Nat→Nat→Nat→Nat} {m:OMem} (T:own_TC g m X) {sl:Int} {sc:Int→Int} {x5 x7 x9 inp v:Int} {M:Nat} (H:own_LP g x5 x7 x9 inp M) (ds:Nat→Nat) (L:Nat) (hL:L≤16) (hv:∀ k:Nat,k<L→and64 (ushr64 v (w32 (4*(k:Int)))) 15=(ds k:Int)) (hd:∀ k,k<L→ds k<16) (C:∀ k,k<L→own_wc g ds k) (m0 m1:OMem):Ok (l_sim sl sc x5 x7 x9 (g.R:Int) inp (g.n:Int) (M:Int) v (L:Int) m0 m1) (fun r=>r=3∨(r=2∧own_wc g ds L)∨(r=1∧own_wt g X ds L=1)∨(r=0∧own_wt g X ds L=0)):=by
 have n8:=F.1.2
 have R10:=F.1.1
 have zero:∀ k,k≤L→own_wt g X ds k=0→own_wt g X ds L=0:=fun k hk h=>by
  have:=own_wtz T h (L - k)
  rw [show k+(L - k)=L by omega] at this
  exact this
 unfold l_sim l_sim_b40 l_sim_b152
 refine Ok.bind (P:=fun e=>(∀ p:Int,e=Sum.inl p→∃ P:Nat,p=(P:Int)∧own_wt g X ds L=if P=g.n then 1 else 0)∧(∀ u,e=Sum.inr (Sum.inl u)→own_wt g X ds L=0)∧(∀ u,e=Sum.inr (Sum.inr (Sum.inl u))→own_wt g X ds L=0)∧(∀ u,e=Sum.inr (Sum.inr (Sum.inr (Sum.inl u)))→own_wc g ds L)∧(∀ u,e=Sum.inr (Sum.inr (Sum.inr (Sum.inr (Sum.inl u))))→own_wt g X ds L=0)∧(∀ u,e=Sum.inr (Sum.inr (Sum.inr (Sum.inr (Sum.inr (Sum.inl u)))))→own_wt g X ds L=0)) ?_ fun e he=>?_
 ·refine Ok.loop (fun s=>∃ (l:List Nat) (p k:Nat),(own_s8 l∧l.length≤20∧p≤g.n∧k≤L)∧(s.1=(own_st l:Int)∧s.2.1=(l.length:Int)∧s.2.2.1=(p:Int)∧s.2.2.2.1=(k:Int))∧(0≤s.2.2.2.2∧s.2.2.2.2≤200)∧own_nf g l p=own_nfo g (own_K g ds k)) (fun s=>(200 - s.2.2.2.2).toNat) ⟨[0],0,0,⟨fun s hs=>by rw [List.mem_singleton.mp hs]; decide,by decide,Nat.zero_le _,Nat.zero_le _⟩,⟨rfl,rfl,rfl,rfl⟩,⟨by dsimp only; omega,by dsimp only; omega⟩,rfl⟩ (by dsimp only; omega) ?_
  rintro ⟨_,_,_,_,it⟩ ⟨l,p,k,⟨h8,hl,hp,hk⟩,⟨rfl,rfl,rfl,rfl⟩,hit,hn⟩
  dsimp only at hit
  have wk:own_wt g X ds k=own_P g X l p:=by
   unfold own_wt
   rw [← own_nfoP,← hn,own_nfP]
  unfold l_sim_l15 l_sim_b272
  dsimp only
  by_cases c:it<200
  ·rw [if_pos c,w32_id (z:=it+1) (by omega)]
   cases l with
   | nil =>
    rw [if_pos (show (([]:List Nat).length:Int)=0 from rfl)]
    refine Ok.ret ⟨fun q hq=>?_,fun u hu=>(by cases hu),fun u hu=>(by cases hu),fun u hu=>(by cases hu),fun u hu=>(by cases hu),fun u hu=>(by cases hu)⟩
    cases hq
    refine ⟨p,rfl,?_⟩
    have kL:k=L:=by
     by_cases e:k<L
     ·obtain ⟨A,l',p',-,e'⟩:=C k e
      rw [← hn] at e'
      cases e'
     ·omega
    rw [← kL,wk]; rfl
   | cons s l =>
    have ln:((s :: l).length:Int)=(l.length:Int)+1:=rfl
    have ln':(s :: l).length=l.length+1:=rfl
    have s8:=h8 s (List.mem_cons_self ..)
    have h2:own_s8 l:=fun x hx=>h8 x (List.mem_cons_of_mem _ hx)
    have sb:=own_stB h8 hl
    have es:own_st (s :: l)=s+8*own_st l:=rfl
    have q7:and64 (own_st (s :: l):Int) 7=(s:Int):=by
     rw [show (7:Int)=((2 ^ 3 - 1:Nat):Int) from rfl,own_an6 _ 3 (by omega) (by decide),show own_st (s :: l) % 2 ^ 3=s by rw [es]; omega]
    have q3:ushr64 (own_st (s :: l):Int) 3=(own_st l:Int):=by
     rw [show (3:Int)=((3:Nat):Int) from rfl,own_rs6 _ 3 (by omega) (by decide),show own_st (s :: l) / 2 ^ 3=own_st l by rw [es]; omega]
    rw [if_neg (by omega)]
    refine Ok.bind (own_s51 M H.m1 m0 m1 (s :: l) h8 hl rfl) fun sm hsm=>?_
    rw [hsm,w32_id (z:=(g.n:Int) - (p:Int)) (by omega)]
    by_cases cs:(g.n:Int) - (p:Int)<(own_sm (own_nb M) (s :: l):Int)
    ·rw [if_pos cs]
     refine Ok.ret ⟨fun q hq=>(by cases hq),fun u _=>?_,fun u hu=>(by cases hu),fun u hu=>(by cases hu),fun u hu=>(by cases hu),fun u hu=>(by cases hu)⟩
     refine zero k hk ?_
     rw [wk]
     refine Classical.byContradiction fun z=>?_
     have:=own_Pz T.1 H.m2 (s :: l) p z
     omega
    ·rw [if_neg cs,q7,q3,w32_id (z:=(s:Int)) (by omega)]
     by_cases c4:s<4
     ·have nk:own_nfo g (own_K g ds k)=some (s :: l,p):=by
       rw [← hn]
       unfold own_nf
       rw [if_pos c4]
      rw [if_pos (by omega)]
      by_cases ck:k=L
      ·rw [if_pos (by omega)]
       refine Ok.ret ⟨fun q hq=>(by cases hq),fun u hu=>(by cases hu),fun u hu=>(by cases hu),fun u _=>?_,fun u hu=>(by cases hu),fun u hu=>(by cases hu)⟩
       rw [ck] at nk
       exact ⟨s,l,p,c4,nk⟩
      ·have hkL:k<L:=by omega
       have dk:=hd k hkL
       rw [if_neg (by omega),hv k hkL,w32_id (z:=(ds k:Int)) (by omega)]
       have w1:own_K g ds (k+1)=own_sx g (ds k) (some (s :: l,p)):=by
        show own_sx g (ds k) (own_nfo g (own_K g ds k))=_
        rw [nk]
       by_cases cr:ds k<g.R
       ·obtain ⟨d1,d2,d3⟩:=own_cdd F (ds k) cr
        obtain ⟨f1,f2,f3⟩:=F.2.1 (ds k) cr
        rw [if_pos (by omega),own_rcS F H.gp (ds k) cr,Option.bind_some,d1,d2]
        by_cases cA:g.lhs (ds k)=s
        ·rw [if_pos (by omega),w32_id (z:=(g.len (ds k):Int) - 1) (by omega),w32_id (z:=((s :: l).length:Int)+-1) (by omega),w32_id (z:=(k:Int)+1) (by omega),w32_id (z:=((s :: l).length:Int)+-1+(g.len (ds k):Int)) (by omega)]
         refine Ok.bind (own_s225 F (ds k) cr m0 m1 l h2) fun w hw=>?_
         by_cases c20:20<((s :: l).length:Int)+-1+(g.len (ds k):Int)
         ·rw [if_pos c20]
          exact Ok.ret ⟨fun q hq=>(by cases hq),fun u hu=>(by cases hu),fun u hu=>(by cases hu),fun u hu=>(by cases hu),fun u hu=>(by cases hu),fun u hu=>(by cases hu)⟩
         ·rw [if_neg c20,hw (by omega)]
          have lr:(own_rs g (ds k) (g.len (ds k)) 0 ++ l).length=g.len (ds k)+l.length:=by rw [List.length_append,own_rsl]
          refine Ok.ret ⟨⟨own_rs g (ds k) (g.len (ds k)) 0 ++ l,p,k+1,⟨own_s8a (own_rs8 _ _ _ fun q _ b=>f3 q (by omega)) h2,by omega,hp,by omega⟩,⟨rfl,by dsimp only; omega,rfl,rfl⟩,by dsimp only; omega,?_⟩,by dsimp only; omega⟩
          rw [w1]
          unfold own_sx own_nfo
          rw [Option.bind_some,if_pos ⟨cr,by rw [cA]; rfl⟩,Option.bind_some]
          rfl
        ·rw [if_neg (by omega)]
         refine Ok.ret ⟨fun q hq=>(by cases hq),fun u hu=>(by cases hu),fun u hu=>(by cases hu),fun u hu=>(by cases hu),fun u hu=>(by cases hu),fun u _=>zero (k+1) (by omega) ?_⟩
         unfold own_wt
         rw [w1,own_sxP cr,if_neg cA]
       ·rw [if_neg (by omega)]
        refine Ok.ret ⟨fun q hq=>(by cases hq),fun u hu=>(by cases hu),fun u hu=>(by cases hu),fun u hu=>(by cases hu),fun u _=>zero (k+1) (by omega) ?_,fun u hu=>(by cases hu)⟩
        unfold own_wt
        rw [w1]
        unfold own_sx
        rw [Option.bind_some,if_neg (fun z=>cr z.1)]
        rfl
     ·rw [if_neg (by omega)]
      have bad:¬ (p<g.n∧g.tok p=s - 4)→own_wt g X ds L=0:=fun z=>zero k hk (by rw [wk,own_Pt s l p c4,if_neg z])
      by_cases cp:p<g.n
      ·rw [if_pos (by omega),H.ip p cp,w32_id (z:=(s:Int) - 4) (by omega),w32_id (z:=((s :: l).length:Int)+-1) (by omega),w32_id (z:=(p:Int)+1) (by omega)]
       by_cases ct:g.tok p=s - 4
       ·rw [if_pos (by omega)]
        refine Ok.ret ⟨⟨l,p+1,k,⟨h2,by omega,by omega,hk⟩,⟨rfl,by dsimp only; omega,rfl,rfl⟩,by dsimp only; omega,?_⟩,by dsimp only; omega⟩
        rw [← hn]
        show own_nf g l (p+1)=if s<4 then some (s :: l,p) else if p<g.n∧g.tok p=s - 4 then own_nf g l (p+1) else none
        rw [if_neg c4,if_pos ⟨cp,ct⟩]
       ·rw [if_neg (by omega)]
        exact Ok.ret ⟨fun q hq=>(by cases hq),fun u hu=>(by cases hu),fun u _=>bad fun z=>ct z.2,fun u hu=>(by cases hu),fun u hu=>(by cases hu),fun u hu=>(by cases hu)⟩
      ·rw [if_neg (by omega)]
       exact Ok.ret ⟨fun q hq=>(by cases hq),fun u hu=>(by cases hu),fun u _=>bad fun z=>cp z.1,fun u hu=>(by cases hu),fun u hu=>(by cases hu),fun u hu=>(by cases hu)⟩
  ·rw [if_neg c]
   exact Ok.ret ⟨fun q hq=>(by cases hq),fun u hu=>(by cases hu),fun u hu=>(by cases hu),fun u hu=>(by cases hu),fun u hu=>(by cases hu),fun u hu=>(by cases hu)⟩
 ·obtain ⟨h1,h2,h3,h4,h5,h6⟩:=he
  rcases e with p | u | u | u | u | u | u | u
  ·obtain ⟨P,rfl,hP⟩:=h1 p rfl
   dsimp only
   by_cases c:P=g.n
   ·rw [if_pos (by omega)]
    rw [if_pos c] at hP
    exact Ok.ret (Or.inr (Or.inr (Or.inl ⟨rfl,hP⟩)))
   ·rw [if_neg (by omega)]
    rw [if_neg c] at hP
    exact Ok.ret (Or.inr (Or.inr (Or.inr ⟨rfl,hP⟩)))
  ·exact Ok.ret (Or.inr (Or.inr (Or.inr ⟨rfl,h2 u rfl⟩)))
  ·exact Ok.ret (Or.inr (Or.inr (Or.inr ⟨rfl,h3 u rfl⟩)))
  ·exact Ok.ret (Or.inr (Or.inl ⟨rfl,h4 u rfl⟩))
  ·exact Ok.ret (Or.inr (Or.inr (Or.inr ⟨rfl,h5 u rfl⟩)))
  ·exact Ok.ret (Or.inr (Or.inr (Or.inr ⟨rfl,h6 u rfl⟩)))
  ·exact Ok.ret (Or.inl rfl)
  ·exact Ok.ret (Or.inl rfl)
def own_dg (U k:Nat):Nat:=U / 2 ^ (4*k) % 16
theorem own_dgS {x:Int} {U:Nat} (h:own_L x=BitVec.ofNat 64 U) (hU:U<18446744073709551616) (k:Nat) (hk:k<16):and64 (ushr64 x (w32 (4*(k:Int)))) 15=(own_dg U k:Int):=by
 have l:own_dg U k<16:=Nat.mod_lt _ (by decide)
 rw [w32_id (z:=4*(k:Int)) (by omega),show 4*(k:Int)=((4*k:Nat):Int) by omega]
 refine own_b64 (by unfold own_L and64; rw [Int64.ofInt_toInt]; rfl) ?_ (by omega)
 have e1:own_L (ushr64 x ((4*k:Nat):Int))=own_L x >>> (4*k):=by
  unfold own_L ushr64
  rw [Int64.ofInt_toInt]
  have g:(Jvm.Free.XT.ushrL (Int64.ofInt x) (Int32.ofInt ((4*k:Nat):Int))).toBitVec=(Int64.ofInt x).toBitVec >>> ((((Int32.ofInt ((4*k:Nat):Int)).toInt64.toUInt64 &&& Int64.toUInt64 63).toBitVec % 64).toNat):=rfl
  rw [g,own_s6a ⟨4*k,by omega⟩]
 have e2:own_L (and64 (ushr64 x ((4*k:Nat):Int)) 15)=own_L (ushr64 x ((4*k:Nat):Int)) &&& 15#64:=by
  unfold own_L and64; rw [Int64.ofInt_toInt]; rfl
 rw [e2,e1,h]
 apply BitVec.eq_of_toNat_eq
 rw [BitVec.toNat_and,BitVec.toNat_ushiftRight,BitVec.toNat_ofNat,BitVec.toNat_ofNat,BitVec.toNat_ofNat,Nat.mod_eq_of_lt (show U<2 ^ 64 by omega),Nat.mod_eq_of_lt (show own_dg U k<2 ^ 64 by omega),Nat.shiftRight_eq_div_pow,show (15:Nat) % 2 ^ 64=15 from rfl]
 exact Nat.and_two_pow_sub_one_eq_mod _ 4
theorem own_dgc {x:Int} {U k:Nat} (h:own_L x=BitVec.ofNat 64 U) (hk:k<16) (hU:U<2 ^ (4*k+4)):own_L (and64 x (xor64 (shl64 15 (w32 (4*(k:Int)))) (-1)))=BitVec.ofNat 64 (U % 2 ^ (4*k)):=by
 rw [w32_id (z:=4*(k:Int)) (by omega),show 4*(k:Int)=((4*k:Nat):Int) by omega]
 have e:own_L (and64 x (xor64 (shl64 15 ((4*k:Nat):Int)) (-1)))=own_L x &&& ~~~ own_L (shl64 15 ((4*k:Nat):Int)):=by
  have:own_L (xor64 (shl64 15 ((4*k:Nat):Int)) (-1)) = ~~~ own_L (shl64 15 ((4*k:Nat):Int)):=by
   unfold own_L xor64
   rw [Int64.ofInt_toInt,Int64.toBitVec_xor,show (Int64.ofInt (-1)).toBitVec=BitVec.allOnes 64 from by decide,BitVec.xor_allOnes]
  rw [← this]
  unfold own_L and64; rw [Int64.ofInt_toInt]; rfl
 have sh:own_L (shl64 15 ((4*k:Nat):Int))=15#64 <<< (4*k):=by
  unfold own_L shl64
  rw [Int64.ofInt_toInt]
  have g:(Int64.ofInt 15 <<< ((Int32.ofInt ((4*k:Nat):Int)).toInt64 &&& 63)).toBitVec=(Int64.ofInt 15).toBitVec <<< ((((Int32.ofInt ((4*k:Nat):Int)).toInt64 &&& 63:Int64)).toBitVec.smod 64).toNat:=rfl
  rw [g,own_s6b ⟨4*k,by omega⟩]
  rfl
 have z:U % 2 ^ (4*k)=2 ^ (4*k+4)*(U / 2 ^ (4*k+4))+U % 2 ^ (4*k):=by
  rw [Nat.div_eq_of_lt hU,Nat.mul_zero,Nat.zero_add]
 rw [e,sh,h,z]
 apply BitVec.eq_of_getLsbD_eq
 intro i hi
 rw [BitVec.getLsbD_and,BitVec.getLsbD_not,BitVec.getLsbD_ofNat,BitVec.getLsbD_ofNat,BitVec.getLsbD_shiftLeft,← own_clB 64 U (4*k) (by omega) i hi]
 have t:∀ j,(15#64).getLsbD j=decide (j<4):=fun j=>by
  have e:(15#64)=BitVec.ofNat 64 (2 ^ 4 - 1):=rfl
  rw [e,BitVec.getLsbD_ofNat,Nat.testBit_two_pow_sub_one]
  by_cases h:j<4
  ·simp [h]; omega
  ·simp [h]
 rw [t]
 by_cases c:i<4*k
 ·have:¬ 4*k≤i:=by omega
  simp [c,hi,this]
 ·have c1:4*k≤i:=by omega
  have c2:i - 4*k<4↔i<4*k+4:=by omega
  simp [c,hi,c1,c2]
theorem own_s1L:∀ k:Fin 16,own_L (shl64 1 (w32 (4*(k.val:Int))))=BitVec.ofNat 64 (2 ^ (4*k.val)):=by decide +kernel
theorem own_dga {x:Int} {U:Nat} (h:own_L x=BitVec.ofNat 64 U) (k:Nat) (hk:k<16):own_L (w64 (x+shl64 1 (w32 (4*(k:Int)))))=BitVec.ofNat 64 (U+2 ^ (4*k)):=by
 have e:own_L (w64 (x+shl64 1 (w32 (4*(k:Int)))))=own_L x+own_L (shl64 1 (w32 (4*(k:Int)))):=by
  unfold own_L
  rw [← ofInt64_toInt,Int64.ofInt_toInt,Int64.ofInt_add]
  rfl
 rw [e,h,own_s1L ⟨k,hk⟩,BitVec.ofNat_add]
/- a number's digits after a change of the top one -/
theorem own_dgt {U k j:Nat} (hj:j<k) (d:Nat):own_dg (U % 2 ^ (4*k)+d*2 ^ (4*k)) j=own_dg U j∧own_dg (U % 2 ^ (4*k)) j=own_dg U j:=by
 unfold own_dg
 have p:(2:Nat) ^ (4*k)=2 ^ (4*j)*(16*2 ^ (4*(k - j) - 4)):=by
  rw [show (16:Nat)=2 ^ 4 from rfl,← Nat.pow_add,← Nat.pow_add]
  congr 1; omega
 have key:∀ (a b:Nat),(a+2 ^ (4*j)*(16*b)) / 2 ^ (4*j) % 16=a / 2 ^ (4*j) % 16:=fun a b=>by
  rw [Nat.add_mul_div_left _ _ (Nat.pow_pos (by decide)),Nat.add_mul_mod_self_left]
 have e:U / 2 ^ (4*j) % 16=U % 2 ^ (4*k) / 2 ^ (4*j) % 16:=by
  have h:=Nat.mod_add_div U (2 ^ (4*k))
  have k2:=key (U % 2 ^ (4*k)) (2 ^ (4*(k - j) - 4)*(U / 2 ^ (4*k)))
  rw [← k2]
  congr 2
  rw [← Nat.mul_assoc 16,← Nat.mul_assoc,← p]
  exact h.symm
 constructor
 ·rw [e,p,show d*(2 ^ (4*j)*(16*2 ^ (4*(k - j) - 4)))=2 ^ (4*j)*(16*(d*2 ^ (4*(k - j) - 4))) by rw [Nat.mul_left_comm,Nat.mul_left_comm d]]
  exact key _ _
 ·exact e.symm
/- the weights of the right siblings -/
def own_rm (g:own_Gm) (X:Nat→Nat→Nat→Nat) (ds:Nat→Nat) (L:Nat):Nat:=own_ss (fun l=>own_ss (fun d=>if ds l<d then own_wt g X (own_upd ds l d) (l+1) else 0) g.R) L
theorem own_rmc {g:own_Gm} {X:Nat→Nat→Nat→Nat} {ds ds':Nat→Nat} (L:Nat) (h:∀ j,j<L→ds' j=ds j):own_rm g X ds' L=own_rm g X ds L:=by
 unfold own_rm
 refine own_ssc _ fun l hl=>own_ssc _ fun d _=>?_
 rw [h l hl,own_wtc (ds:=own_upd ds l d) (ds':=own_upd ds' l d) (l+1) fun j hj=>?_]
 unfold own_upd
 split
 ·rfl
 ·exact h j (by omega)
theorem own_ssd {f:Nat→Nat} (a:Nat):∀ n:Nat,a+1<n→own_ss (fun d=>if a<d then f d else 0) n=f (a+1)+own_ss (fun d=>if a+1<d then f d else 0) n
 | 0,h=>by omega
 | n+1,h=>by
  show own_ss (fun d=>if a<d then f d else 0) n+(if a<n then f n else 0)=f (a+1)+(own_ss (fun d=>if a+1<d then f d else 0) n+(if a+1<n then f n else 0))
  by_cases c:n=a+1
  ·subst c
   rw [own_ssz (f:=fun d=>if a<d then f d else 0) _ fun d hd=>if_neg (by omega),own_ssz (f:=fun d=>if a+1<d then f d else 0) _ fun d hd=>if_neg (by omega),if_pos (by omega),if_neg (by omega)]
   omega
  ·rw [own_ssd a n (by omega),if_pos (by omega),if_pos (by omega)]
   omega
theorem own_ss0d {f:Nat→Nat}:∀ n:Nat,0<n→own_ss f n=f 0+own_ss (fun d=>if 0<d then f d else 0) n
 | 0,h=>by omega
 | n+1,h=>by
  show own_ss f n+f n=f 0+(own_ss (fun d=>if 0<d then f d else 0) n+(if 0<n then f n else 0))
  by_cases c:n=0
  ·subst c
   rw [if_neg (by omega)]
   show 0+f 0=f 0+(0+0)
   omega
  ·rw [own_ss0d n (by omega),if_pos (by omega)]
   omega
theorem own_enS {g:own_Gm} (F:own_wf g) (hR:0<g.R) {X:Nat→Nat→Nat→Nat} {m:OMem} (T:own_TC g m X) {sl:Int} {sc:Int→Int} {x5 x7 x9 inp:Int} {M:Nat} (H:own_LP g x5 x7 x9 inp M) (m0 m1:OMem):Ok (l_enumerate sl sc x5 x7 x9 (g.R:Int) inp (g.n:Int) (M:Int) m0 m1) (fun v=>v=-1∨v=(X 0 0 g.n:Int)):=by
 have R10:=F.1.1
 have w0:own_wt g X (fun _=>0) 0=X 0 0 g.n:=own_P0 g X
 unfold l_enumerate
 refine Ok.bind (P:=fun e=>∀ c,e=Sum.inr (Sum.inr (Sum.inl c))→c=(X 0 0 g.n:Int)) ?_ fun e he=>?_
 ·refine Ok.loop (fun s=>∃ U L c:Nat,(own_L s.1=BitVec.ofNat 64 U∧L≤16∧U<2 ^ (4*L))∧(s.2.1=(L:Int)∧s.2.2.1=(c:Int)∧(c:Int)≤s.2.2.2∧s.2.2.2≤20000)∧(∀ k,k<L→own_wc g (own_dg U) k∧own_dg U k<g.R)∧c+own_wt g X (own_dg U) L+own_rm g X (own_dg U) L=X 0 0 g.n) (fun s=>(20000 - s.2.2.2).toNat) ⟨0,0,0,⟨rfl,by decide,by decide⟩,⟨rfl,rfl,by dsimp only; omega,by dsimp only; omega⟩,fun k h=>by omega,?_⟩ (by dsimp only; omega) ?_
  ·rw [← w0]
   show 0+own_wt g X (own_dg 0) 0+0=_
   rw [Nat.zero_add,Nat.add_zero]
   exact own_wtc 0 fun j hj=>by omega
  rintro ⟨v,_,_,it⟩ ⟨U,L,c,⟨hv,hL,hU⟩,⟨rfl,rfl,hc,hit⟩,hk,inv⟩
  dsimp only at hv hc hit
  have U64:U<18446744073709551616:=by
   have:(2:Nat) ^ (4*L)≤2 ^ 64:=Nat.pow_le_pow_right (by decide) (by omega)
   omega
  unfold l_enumerate_l12 l_enumerate_b185
  dsimp only
  by_cases ci:it<20000
  ·rw [if_pos ci,w32_id (z:=it+1) (by omega)]
   refine Ok.bind (own_siS F T H (own_dg U) L hL (fun k hk=>own_dgS hv U64 k (by omega)) (fun k hk'=>by have:=(hk k hk').2; omega) (fun k hk'=>(hk k hk').1) m0 m1) fun r hr=>?_
   -- the next sibling
   have pop:∀ c':Nat,(c':Int)≤it+1→c'+own_rm g X (own_dg U) L=X 0 0 g.n→Ok (l_enumerate_b86 sl sc x5 x7 x9 (g.R:Int) inp (g.n:Int) (M:Int) v (L:Int) (c':Int) it m0 m1) (fun x=>(∃ (v':Int) (U' L':Nat),x=Sum.inl (v',(L':Int),(c':Int),it+1)∧(own_L v'=BitVec.ofNat 64 U'∧L'≤16∧U'<2 ^ (4*L'))∧(∀ k,k<L'→own_wc g (own_dg U') k∧own_dg U' k<g.R)∧c'+own_wt g X (own_dg U') L'+own_rm g X (own_dg U') L'=X 0 0 g.n)∨(x=Sum.inr (Sum.inr (Sum.inr (Sum.inl (c':Int))))∧c'=X 0 0 g.n)):=fun c' hc' inv'=>by
    unfold l_enumerate_b86 l_enumerate_b177 l_enumerate_b185
    refine Ok.bind (P:=fun e=>(∀ p,e=Sum.inl p→∃ U' L':Nat,(own_L p.1=BitVec.ofNat 64 U'∧L'<16∧U'<2 ^ (4*(L'+1)))∧p.2=((L'+1:Nat):Int)∧(∀ k,k<L'+1→own_wc g (own_dg U') k∧own_dg U' k<g.R)∧own_dg U' L'+1<g.R∧c'+own_rm g X (own_dg U') (L'+1)=X 0 0 g.n)∧∀ p,e=Sum.inr p→c'=X 0 0 g.n) ?_ fun e he=>?_
    ·refine Ok.loop (fun s=>∃ U' L':Nat,(own_L s.1=BitVec.ofNat 64 U'∧L'≤16∧U'<2 ^ (4*L'))∧s.2.1=(L':Int)∧(0≤s.2.2∧s.2.2+(L':Int)≤16)∧(∀ k,k<L'→own_wc g (own_dg U') k∧own_dg U' k<g.R)∧c'+own_rm g X (own_dg U') L'=X 0 0 g.n) (fun s=>(17 - s.2.2).toNat) ⟨U,L,⟨hv,hL,hU⟩,rfl,by dsimp only; omega,hk,inv'⟩ (by dsimp only; omega) ?_
     rintro ⟨w,_,b⟩ ⟨U',L',⟨hw,hL',hU'⟩,rfl,hb,hk',hi'⟩
     dsimp only at hw hb
     unfold l_enumerate_l92
     dsimp only
     rw [if_pos (by omega)]
     by_cases cL:0<L'
     ·obtain ⟨l,rfl⟩:∃ l,L'=l+1:=⟨L' - 1,by omega⟩
      have V64:U'<18446744073709551616:=by
       have:(2:Nat) ^ (4*(l+1))≤2 ^ 64:=Nat.pow_le_pow_right (by decide) (by omega)
       omega
      have dl:=(hk' l (by omega)).2
      rw [if_pos (by omega),w32_id (z:=((l+1:Nat):Int) - 1) (by omega),show ((l+1:Nat):Int) - 1=(l:Int) by omega,own_dgS hw V64 l (by omega),own_w64 (z:=(own_dg U' l:Int)+1) (by omega)]
      simp only [own_lcl]
      by_cases cd:(own_dg U' l:Int)+1<(g.R:Int)
      ·rw [if_pos cd]
       exact Ok.ret ⟨fun p hp=>by cases hp; exact ⟨U',l,⟨hw,by omega,hU'⟩,rfl,hk',by omega,hi'⟩,fun p hp=>by cases hp⟩
      ·rw [if_neg cd,w32_id (z:=((l+1:Nat):Int)+-1) (by omega),w32_id (z:=b+1) (by omega)]
       have dj:∀ j,j<l→own_dg (U' % 2 ^ (4*l)) j=own_dg U' j:=fun j hj=>(own_dgt hj 0).2
       refine Ok.ret ⟨⟨U' % 2 ^ (4*l),l,⟨own_dgc hw (by omega) (by rw [show 4*l+4=4*(l+1) by omega]; exact hU'),by omega,Nat.mod_lt _ (Nat.pow_pos (by decide))⟩,by dsimp only; omega,by dsimp only; omega,fun k hk2=>?_,?_⟩,by dsimp only; omega⟩
       ·obtain ⟨⟨A,l2,p2,a1,a2⟩,a3⟩:=hk' k (by omega)
        refine ⟨⟨A,l2,p2,a1,?_⟩,by rw [dj k hk2]; exact a3⟩
        rw [own_Kc (ds:=own_dg U') k fun j hj=>dj j (by omega)]
        exact a2
       ·rw [← hi',own_rmc (ds:=own_dg U') l dj]
        show _=c'+(own_rm g X (own_dg U') l+own_ss (fun d=>if own_dg U' l<d then own_wt g X (own_upd (own_dg U') l d) (l+1) else 0) g.R)
        rw [own_ssz (f:=fun d=>if own_dg U' l<d then own_wt g X (own_upd (own_dg U') l d) (l+1) else 0) g.R fun d hd=>if_neg (by omega),Nat.add_zero]
     ·rw [if_neg (by omega)]
      have:L'=0:=by omega
      subst this
      refine Ok.ret ⟨fun p hp=>(by cases hp),fun p _=>?_⟩
      have:own_rm g X (own_dg U') 0=0:=rfl
      omega
    ·rcases e with p | p
     ·obtain ⟨U',l,⟨hw,hl,hU'⟩,e2,hk',hd,hi'⟩:=he.1 p rfl
      obtain ⟨w,L'⟩:=p
      dsimp only at hw e2
      subst e2
      dsimp only
      rw [if_neg (by decide),w32_id (z:=it+1) (by omega),w32_id (z:=((l+1:Nat):Int) - 1) (by omega),show ((l+1:Nat):Int) - 1=(l:Int) by omega]
      -- the top digit goes up
      have eU:U'=U' % 2 ^ (4*l)+own_dg U' l*2 ^ (4*l):=by
       have a:=Nat.mod_add_div U' (2 ^ (4*l))
       have q:U' / 2 ^ (4*l)<16:=Nat.div_lt_of_lt_mul (by
        rw [show 4*(l+1)=4*l+4 by omega,Nat.pow_add] at hU'
        exact hU')
       have:own_dg U' l=U' / 2 ^ (4*l):=Nat.mod_eq_of_lt q
       rw [this,Nat.mul_comm (U' / 2 ^ (4*l))]
       exact a.symm
      generalize hd0:own_dg U' l=d0 at *
      have eV:U'+2 ^ (4*l)=U' % 2 ^ (4*l)+(d0+1)*2 ^ (4*l):=by
       rw [Nat.add_mul,Nat.one_mul,← Nat.add_assoc,← eU]
      have dj:∀ j,j<l→own_dg (U'+2 ^ (4*l)) j=own_dg U' j:=fun j hj=>by rw [eV]; exact (own_dgt hj (d0+1)).1
      have dl:own_dg (U'+2 ^ (4*l)) l=d0+1:=by
       rw [eV]
       unfold own_dg
       rw [Nat.add_mul_div_right _ _ (Nat.pow_pos (by decide)),Nat.div_eq_of_lt (Nat.mod_lt _ (Nat.pow_pos (by decide))),Nat.zero_add]
       exact Nat.mod_eq_of_lt (by omega)
      have lt:U'+2 ^ (4*l)<2 ^ (4*(l+1)):=by
       rw [eV,show 4*(l+1)=4*l+4 by omega,Nat.pow_add]
       have a:=Nat.mod_lt U' (show 0<2 ^ (4*l) from Nat.pow_pos (by decide))
       have b:(d0+1)*2 ^ (4*l)≤10*2 ^ (4*l):=Nat.mul_le_mul_right _ (by omega)
       show _<2 ^ (4*l)*16
       omega
      refine Ok.ret (Or.inl ⟨_,U'+2 ^ (4*l),l+1,rfl,⟨own_dga hw l hl,by omega,lt⟩,fun k hk2=>?_,?_⟩)
      ·obtain ⟨⟨A,l2,p2,a1,a2⟩,a3⟩:=hk' k hk2
       refine ⟨⟨A,l2,p2,a1,?_⟩,?_⟩
       ·rw [own_Kc (ds:=own_dg U') k fun j hj=>dj j (by omega)]
        exact a2
       ·by_cases e:k=l
        ·rw [e,dl]; exact hd
        ·rw [dj k (by omega)]; exact a3
      ·have r1:own_rm g X (own_dg U') (l+1)=own_rm g X (own_dg U') l+own_ss (fun d=>if own_dg U' l<d then own_wt g X (own_upd (own_dg U') l d) (l+1) else 0) g.R:=rfl
       have r2:own_rm g X (own_dg (U'+2 ^ (4*l))) (l+1)=own_rm g X (own_dg (U'+2 ^ (4*l))) l+own_ss (fun d=>if own_dg (U'+2 ^ (4*l)) l<d then own_wt g X (own_upd (own_dg (U'+2 ^ (4*l))) l d) (l+1) else 0) g.R:=rfl
       have up:∀ d j,j<l+1→own_upd (own_dg (U'+2 ^ (4*l))) l d j=own_upd (own_dg U') l d j:=fun d j hj=>by
        unfold own_upd
        split
        ·rfl
        ·exact dj j (by omega)
       have wl:own_wt g X (own_dg (U'+2 ^ (4*l))) (l+1)=own_wt g X (own_upd (own_dg U') l (d0+1)) (l+1):=own_wtc (l+1) fun j hj=>by
        unfold own_upd
        split
        ·rename_i e; rw [e,dl]
        ·exact dj j (by omega)
       rw [r2,dl,own_rmc (ds:=own_dg U') l dj,own_ssc (f:=fun d=>if d0+1<d then own_wt g X (own_upd (own_dg U') l d) (l+1) else 0) g.R fun d _=>by rw [own_wtc (l+1) (up d)],wl]
       rw [r1,hd0,own_ssd (f:=fun d=>own_wt g X (own_upd (own_dg U') l d) (l+1)) d0 g.R hd] at hi'
       omega
     ·obtain ⟨w,L'⟩:=p
      dsimp only
      rw [if_pos rfl]
      exact Ok.ret (Or.inr ⟨rfl,he.2 _ rfl⟩)
   rcases hr with rfl | ⟨rfl,hw⟩ | ⟨rfl,hw⟩ | ⟨rfl,hw⟩
   ·rw [if_pos rfl]
    exact Ok.ret fun c hc=>by cases hc
   ·rw [if_neg (by decide),if_pos rfl]
    by_cases c16:(L:Int)=16
    ·rw [if_pos c16]
     exact Ok.ret fun c hc=>by cases hc
    ·rw [if_neg c16,w32_id (z:=(L:Int)+1) (by omega)]
     have dL:own_dg U L=0:=by
      unfold own_dg
      rw [Nat.div_eq_of_lt hU]
     refine Ok.ret ⟨⟨U,L+1,c,⟨hv,by omega,Nat.lt_of_lt_of_le hU (Nat.pow_le_pow_right (by decide) (by omega))⟩,⟨by dsimp only; omega,rfl,by dsimp only; omega,by dsimp only; omega⟩,fun k hk2=>?_,?_⟩,by dsimp only; omega⟩
     ·by_cases e:k=L
      ·rw [e,dL]; exact ⟨hw,hR⟩
      ·exact hk k (by omega)
     ·have r1:own_rm g X (own_dg U) (L+1)=own_rm g X (own_dg U) L+own_ss (fun d=>if own_dg U L<d then own_wt g X (own_upd (own_dg U) L d) (L+1) else 0) g.R:=rfl
      have s:=own_wts T hw
      rw [own_ss0d (f:=fun d=>own_wt g X (own_upd (own_dg U) L d) (L+1)) g.R hR] at s
      have u0:own_wt g X (own_dg U) (L+1)=own_wt g X (own_upd (own_dg U) L 0) (L+1):=own_wtc (L+1) fun j hj=>by
       unfold own_upd
       split
       ·rename_i e; rw [e,dL]
       ·rfl
      rw [r1,dL,u0]
      omega
   ·rw [if_neg (by decide),if_neg (by decide),if_pos rfl,own_w64 (z:=(c:Int)+1) (by omega),show (c:Int)+1=((c+1:Nat):Int) from rfl]
    refine Ok.mono (pop (c+1) (by omega) (by omega)) fun x hx=>?_
    rcases hx with ⟨v',U',L',rfl,a1,a2,a3⟩ | ⟨rfl,a1⟩
    ·exact ⟨⟨U',L',c+1,a1,⟨rfl,rfl,by dsimp only; omega,by dsimp only; omega⟩,a2,a3⟩,by dsimp only; omega⟩
    ·exact fun q hq=>by cases hq; rw [← a1]
   ·rw [if_neg (by decide),if_neg (by decide),if_neg (by decide)]
    refine Ok.mono (pop c (by omega) (by omega)) fun x hx=>?_
    rcases hx with ⟨v',U',L',rfl,a1,a2,a3⟩ | ⟨rfl,a1⟩
    ·exact ⟨⟨U',L',c,a1,⟨rfl,rfl,by dsimp only; omega,by dsimp only; omega⟩,a2,a3⟩,by dsimp only; omega⟩
    ·exact fun q hq=>by cases hq; rw [← a1]
  ·rw [if_neg ci]
   exact Ok.ret fun c hc=>by cases hc
 ·rcases e with u | u | c | u
  ·exact Ok.ret (Or.inl rfl)
  ·exact Ok.ret (Or.inl rfl)
  ·exact Ok.ret (Or.inr (he c rfl))
  ·exact Ok.ret (Or.inl rfl)
theorem own_wtS {g:own_Gm} {m:OMem} (F:own_wf g) {X:Nat→Nat→Nat→Nat} (T:own_TC g m X) (r t i q:Nat) (hr:r<g.R) (ht:t≤g.len r) (hi:i≤q) (hq:q≤g.n):f_wAt (r:Int) (t:Int) (i:Int) (q:Int) m=some (own_sat (own_W g X r t i q)):=by
 have R10:=F.1.1
 have n8:=F.1.2
 obtain ⟨f1,f2,f3⟩:=F.2.1 r hr
 by_cases z:t=0
 ·rw [z]; exact own_wA0 r i q m
 ·rw [own_wAt r t i q (by omega) (by omega) (by omega) (by omega),T.2.2 r t i q hr (by omega) ht hi hq]
theorem own_scS {g:own_Gm} {m:OMem} (F:own_wf g) (M:own_MG g m) {X:Nat→Nat→Nat→Nat} (T:own_TC g m X) (s a b:Nat) (hs:s<8) (ha:a≤b) (hb:b≤g.n):f_symCount (s:Int) (a:Int) (b:Int) m=some (own_sat (own_sy g X s a b)):=by
 have n8:=F.1.2
 exact own_sCt F M X s a b hs (by omega) (by omega) fun c=>(T.2.1 s a b c ha hb).1
theorem own_satn {x:Nat} (h:x<1000000):own_sat x=(x:Int):=if_pos h
def own_cs (g:own_Gm) (X:Nat→Nat→Nat→Nat) (A i j r:Nat):Nat:=own_ss (fun r=>if g.lhs r=A then own_W g X r (g.len r) i j else 0) r
theorem own_chS {g:own_Gm} {m:OMem} (F:own_wf g) (M:own_MG g m) {X:Nat→Nat→Nat→Nat} (T:own_TC g m X) (A i j k:Nat) (hA:A<4) (hi:i≤j) (hj:j≤g.n) (hk:k<X A i j) (hX:X A i j<1000000):∃ r kk:Nat,r<g.R∧g.lhs r=A∧k=own_cs g X A i j r+kk∧kk<own_W g X r (g.len r) i j∧own_W g X r (g.len r) i j≤X A i j∧f_chooseRule (A:Int) (i:Int) (j:Int) (k:Int) m=some ((r:Int),sto m 0 28 (kk:Int)):=by
 have R10:=F.1.1
 have eX:X A i j=own_cs g X A i j g.R:=(T.2.1 A i j hA hi hj).2
 have L:Ok (lp (f_chooseRule_l7 m (A:Int) (i:Int) (j:Int)) NN ((k:Int),0)) (fun e=>∃ r kk:Nat,r<g.R∧g.lhs r=A∧k=own_cs g X A i j r+kk∧kk<own_W g X r (g.len r) i j∧own_W g X r (g.len r) i j≤X A i j∧e=Sum.inl ((kk:Int),(r:Int))):=by
  refine Ok.loop (fun s=>∃ r kk:Nat,s.2=(r:Int)∧r≤g.R∧s.1=(kk:Int)∧k=own_cs g X A i j r+kk) (fun s=>(11 - s.2).toNat) ⟨0,k,rfl,Nat.zero_le _,rfl,(Nat.zero_add _).symm⟩ (by dsimp only; omega) ?_
  rintro ⟨_,_⟩ ⟨r,kk,rfl,hr,rfl,e⟩
  unfold f_chooseRule_l7 f_chooseRule_b77
  dsimp only
  rw [M.1.1]
  by_cases c:(r:Int)<(g.R:Int)
  ·have hr':r<g.R:=by omega
   obtain ⟨m1,m2,-⟩:=M.2.1 r hr'
   have sm:own_cs g X A i j (r+1)=own_cs g X A i j r+(if g.lhs r=A then own_W g X r (g.len r) i j else 0):=rfl
   rw [if_pos c,if_pos (by omega),if_pos (by omega),m1,m2,w32_id (z:=(r:Int)+1) (by omega)]
   by_cases d:g.lhs r=A
   ·have wl:own_W g X r (g.len r) i j≤X A i j:=by
     have:=own_ssl (f:=fun r=>if g.lhs r=A then own_W g X r (g.len r) i j else 0) r g.R hr'
     rw [if_pos d] at this
     rw [eX]; exact this
    rw [if_pos (by omega),if_pos (by omega),own_wtS F T r (g.len r) i j hr' (Nat.le_refl _) hi hj,Option.bind_some,own_satn (by omega)]
    by_cases q:(kk:Int)<(own_W g X r (g.len r) i j:Int)
    ·rw [if_pos q]
     exact Ok.ret ⟨r,kk,hr',d,e,by omega,wl,rfl⟩
    ·rw [if_neg q,w32_id (z:=(kk:Int) - (own_W g X r (g.len r) i j:Int)) (by omega)]
     rw [if_pos d] at sm
     exact Ok.ret ⟨⟨r+1,kk - own_W g X r (g.len r) i j,rfl,by omega,by dsimp only; omega,by omega⟩,by dsimp only; omega⟩
   ·rw [if_neg (by omega)]
    rw [if_neg d] at sm
    exact Ok.ret ⟨⟨r+1,kk,rfl,by omega,rfl,by omega⟩,by dsimp only; omega⟩
  ·exfalso
   have:r=g.R:=by omega
   rw [this,← eX] at e
   omega
 obtain ⟨e,he,r,kk,h1,h2,h3,h4,h5,rfl⟩:=L
 refine ⟨r,kk,h1,h2,h3,h4,h5,?_⟩
 unfold f_chooseRule
 rw [he]
 rfl
theorem own_dm (a b:Nat) (hb:0<b) (ha:a<2147483648):rem32 (a:Int) (b:Int)=((a % b:Nat):Int)∧div32 (a:Int) (b:Int)=((a / b:Nat):Int):=by
 have l:a / b≤a:=Nat.div_le_self _ _
 constructor
 ·unfold rem32
  rw [Int.tmod_eq_emod_of_nonneg (by omega),Int.natCast_emod]
 ·unfold div32
  rw [Int.tdiv_eq_ediv_of_nonneg (by omega),← Int.natCast_ediv]
  generalize a / b=q at *
  rw [w32_id (by omega)]
/- the ways with the last symbol's start before q -/
def own_ps (g:own_Gm) (X:Nat→Nat→Nat→Nat) (r t i q:Nat) (c:Nat):Nat:=own_ss (fun x=>own_W g X r t i (i+x)*own_sy g X (g.sym r t) (i+x) q) c
theorem own_pkS {g:own_Gm} {m:OMem} (F:own_wf g) (M:own_MG g m) {X:Nat→Nat→Nat→Nat} (T:own_TC g m X) (r t i q k:Nat) (hr:r<g.R) (ht:t<g.len r) (hi:i≤q) (hq:q≤g.n) (hk:k<own_W g X r (t+1) i q) (hW:own_W g X r (t+1) i q<1000000):∃ p kk:Nat,(i≤p∧p≤q)∧k=own_ps g X r t i q (p - i)+kk∧kk<own_W g X r t i p*own_sy g X (g.sym r t) p q∧own_W g X r t i p*own_sy g X (g.sym r t) p q<1000000∧f_pickChild (r:Int) ((t+1:Nat):Int) (i:Int) (q:Int) (k:Int) (g.sym r t:Int) m=some (1,sto (sto (sto (sto (sto m 19 (t:Int) (g.sym r t:Int)) 20 (t:Int) (p:Int)) 21 (t:Int) (q:Int)) 22 (t:Int) ((kk % own_sy g X (g.sym r t) p q:Nat):Int)) 0 28 ((kk / own_sy g X (g.sym r t) p q:Nat):Int)):=by
 have n8:=F.1.2
 obtain ⟨f1,f2,f3⟩:=F.2.1 r hr
 have eW:own_W g X r (t+1) i q=own_ps g X r t i q (q+1 - i):=rfl
 have L:Ok (lp (f_pickChild_l7 m (r:Int) ((t+1:Nat):Int) (i:Int) (q:Int) (g.sym r t:Int)) NN ((k:Int),(i:Int))) (fun e=>∃ p kk:Nat,(i≤p∧p≤q)∧k=own_ps g X r t i q (p - i)+kk∧kk<own_W g X r t i p*own_sy g X (g.sym r t) p q∧own_W g X r t i p*own_sy g X (g.sym r t) p q<1000000∧e=Sum.inl ((kk:Int),(p:Int),(own_sy g X (g.sym r t) p q:Int))):=by
  refine Ok.loop (fun s=>∃ x kk:Nat,s.2=((i+x:Nat):Int)∧i+x≤q+1∧s.1=(kk:Int)∧k=own_ps g X r t i q x+kk) (fun s=>(10 - s.2).toNat) ⟨0,k,rfl,by omega,rfl,(Nat.zero_add _).symm⟩ (by dsimp only; omega) ?_
  rintro ⟨_,_⟩ ⟨x,kk,rfl,hx,rfl,e⟩
  unfold f_pickChild_l7
  dsimp only
  by_cases c:(q:Int)<((i+x:Nat):Int)
  ·exfalso
   have:x=q+1 - i:=by omega
   rw [this,← eW] at e
   omega
  ·rw [if_neg c,if_neg (by omega),w32_id (z:=((t+1:Nat):Int) - 1) (by omega),show ((t+1:Nat):Int) - 1=(t:Int) by omega,own_wtS F T r t i (i+x) hr (by omega) (by omega) (by omega),Option.bind_some,own_scS F M T _ (i+x) q (f3 t ht) (by omega) hq,Option.bind_some,own_sM,Option.bind_some]
   have wl:own_W g X r t i (i+x)*own_sy g X (g.sym r t) (i+x) q≤own_W g X r (t+1) i q:=by
    rw [eW]
    exact own_ssl (f:=fun x=>own_W g X r t i (i+x)*own_sy g X (g.sym r t) (i+x) q) x (q+1 - i) (by omega)
   have sm:own_ps g X r t i q (x+1)=own_ps g X r t i q x+own_W g X r t i (i+x)*own_sy g X (g.sym r t) (i+x) q:=rfl
   rw [own_satn (x:=own_W g X r t i (i+x)*own_sy g X (g.sym r t) (i+x) q) (by omega)]
   generalize hwc:own_W g X r t i (i+x)*own_sy g X (g.sym r t) (i+x) q=wc at *
   by_cases d:(kk:Int)<(wc:Int)
   ·rw [if_pos d]
    have p1:1≤own_W g X r t i (i+x):=Nat.pos_of_ne_zero fun z=>by rw [z,Nat.zero_mul] at hwc; omega
    have p2:own_sy g X (g.sym r t) (i+x) q≤wc:=by
     rw [← hwc]
     exact Nat.le_mul_of_pos_left _ p1
    rw [own_satn (x:=own_sy g X (g.sym r t) (i+x) q) (by omega)]
    refine Ok.ret ⟨i+x,kk,by omega,?_,by rw [hwc]; omega,by rw [hwc]; omega,rfl⟩
    rw [show i+x - i=x by omega]; exact e
   ·rw [if_neg d,w32_id (z:=(kk:Int) - (wc:Int)) (by omega),w32_id (z:=((i+x:Nat):Int)+1) (by omega)]
    exact Ok.ret ⟨⟨x+1,kk - wc,by dsimp only; omega,by omega,by dsimp only; omega,by omega⟩,by dsimp only; omega⟩
 obtain ⟨e,he,p,kk,h1,h2,h3,h4,rfl⟩:=L
 refine ⟨p,kk,h1,h2,h3,h4,?_⟩
 have pc:0<own_sy g X (g.sym r t) p q:=Nat.pos_of_ne_zero fun z=>by rw [z,Nat.mul_zero] at h3; omega
 obtain ⟨e1,e2⟩:=own_dm kk (own_sy g X (g.sym r t) p q) pc (by omega)
 unfold f_pickChild
 rw [he,Option.bind_some]
 dsimp only
 rw [if_pos (by omega),w32_id (z:=((t+1:Nat):Int) - 1) (by omega),show ((t+1:Nat):Int) - 1=(t:Int) by omega,if_pos (by omega),if_pos (by omega),if_pos (by omega),if_neg (by omega),if_pos (by omega),if_neg (by omega),e1,e2]
/- the rank of a rule's children -/
def own_uk (g:own_Gm) (X:Nat→Nat→Nat→Nat) (r i:Nat) (qs ks:Nat→Nat):Nat→Nat
 | 0=>0
 | t+1=>own_ps g X r t i (qs (t+1)) (qs t - i)+(own_uk g X r i qs ks t*own_sy g X (g.sym r t) (qs t) (qs (t+1))+ks t)
theorem own_ukc {g:own_Gm} {X:Nat→Nat→Nat→Nat} {r i:Nat} {qs ks qs' ks':Nat→Nat}:∀ t,(∀ u,u≤t→qs' u=qs u)→(∀ u,u<t→ks' u=ks u)→own_uk g X r i qs' ks' t=own_uk g X r i qs ks t
 | 0,_,_=>rfl
 | t+1,h1,h2=>by
  show own_ps g X r t i (qs' (t+1)) (qs' t - i)+(own_uk g X r i qs' ks' t*own_sy g X (g.sym r t) (qs' t) (qs' (t+1))+ks' t)=own_ps g X r t i (qs (t+1)) (qs t - i)+(own_uk g X r i qs ks t*own_sy g X (g.sym r t) (qs t) (qs (t+1))+ks t)
  rw [own_ukc t (fun u hu=>h1 u (by omega)) (fun u hu=>h2 u (by omega)),h1 t (by omega),h1 (t+1) (by omega),h2 t (by omega)]
/- the children of a rule: places,ranks -/
def own_CH (g:own_Gm) (X:Nat→Nat→Nat→Nat) (r i:Nat) (qs ks:Nat→Nat) (t:Nat):Prop:=(qs 0=i)∧(∀ u,u<t→qs u≤qs (u+1)∧ks u<own_sy g X (g.sym r u) (qs u) (qs (u+1))∧own_sy g X (g.sym r u) (qs u) (qs (u+1))<1000000)
theorem own_CH.c0 {g:own_Gm} {X:Nat→Nat→Nat→Nat} {r i:Nat} {qs ks:Nat→Nat} {t:Nat} (h:own_CH g X r i qs ks t):qs 0=i:=h.1
theorem own_CH.c1 {g:own_Gm} {X:Nat→Nat→Nat→Nat} {r i:Nat} {qs ks:Nat→Nat} {t:Nat} (h:own_CH g X r i qs ks t):∀ u,u<t→qs u≤qs (u+1)∧ks u<own_sy g X (g.sym r u) (qs u) (qs (u+1))∧own_sy g X (g.sym r u) (qs u) (qs (u+1))<1000000:=h.2
theorem own_spl {g:own_Gm} (F:own_wf g) {X:Nat→Nat→Nat→Nat} (r i:Nat) (hr:r<g.R):∀ (t:Nat) (m:OMem) (q k N:Nat),t≤g.len r→t<N→own_MG g m→own_TC g m X→i≤q→q≤g.n→k<own_W g X r t i q→own_W g X r t i q<1000000→∃ (qs ks:Nat→Nat) (z:OMem),qs t=q∧own_CH g X r i qs ks t∧k=own_uk g X r i qs ks t∧lp (f_splitChildren_l19 (r:Int) (i:Int)) N ((q:Int),(k:Int),(t:Int),m)=some (.inr (.inr z))∧(∀ u:Nat,u<t→z 19 (u:Int)=(g.sym r u:Int)∧z 20 (u:Int)=(qs u:Int)∧z 21 (u:Int)=(qs (u+1):Int)∧z 22 (u:Int)=(ks u:Int))∧∀ (K:Nat) x,¬ (K=0∧x=28)→¬ (19≤K∧K≤22∧x<(t:Int))→z K x=m K x
 | _,m,q,k,0,_,h,_,_,_,_,_,_=>by omega
 | 0,m,q,k,N+1,ht,hN,M,T,hi,hq,hk,hW=>by
  have w0:own_W g X r 0 i q=if q=i then 1 else 0:=rfl
  have e:q=i:=by
   rw [w0] at hk
   by_cases c:q=i
   ·exact c
   ·rw [if_neg c] at hk; omega
  rw [w0,if_pos e] at hk
  refine ⟨fun _=>i,fun _=>0,m,e.symm,⟨rfl,fun u hu=>by omega⟩,?_,lp_out ?_,fun u hu=>by omega,fun K x _ _=>rfl⟩
  ·show k=0; omega
  ·unfold f_splitChildren_l19
   dsimp only
   rw [if_pos (by decide)]
 | t+1,m,q,k,N+1,ht,hN,M,T,hi,hq,hk,hW=>by
  obtain ⟨f1,f2,f3⟩:=F.2.1 r hr
  obtain ⟨p,kk,hp,h2,h3,h4,h5⟩:=own_pkS F M T r t i q k hr (by omega) hi hq hk hW
  generalize hc:own_sy g X (g.sym r t) p q=c at *
  have pc:0<c:=Nat.pos_of_ne_zero fun z=>by rw [z,Nat.mul_zero] at h3; omega
  have pa:0<own_W g X r t i p:=Nat.pos_of_ne_zero fun z=>by rw [z,Nat.zero_mul] at h3; omega
  have cl:c≤own_W g X r t i p*c:=Nat.le_mul_of_pos_left _ pa
  have al:own_W g X r t i p≤own_W g X r t i p*c:=Nat.le_mul_of_pos_right _ pc
  have kc:kk / c<own_W g X r t i p:=Nat.div_lt_of_lt_mul (by rw [Nat.mul_comm]; exact h3)
  generalize hm2:sto (sto (sto (sto (sto m 19 (t:Int) (g.sym r t:Int)) 20 (t:Int) (p:Int)) 21 (t:Int) (q:Int)) 22 (t:Int) ((kk % c:Nat):Int)) 0 28 ((kk / c:Nat):Int)=m2 at *
  have o:∀ (K:Nat) x,¬ (K=0∧x=28)→¬ (19≤K∧K≤22∧x=(t:Int))→m2 K x=m K x:=fun K x a b=>by
   rw [← hm2]
   simp only [sto]
   rw [if_neg (by omega),if_neg (by omega),if_neg (by omega),if_neg (by omega),if_neg (by omega)]
  have a19:m2 19 (t:Int)=(g.sym r t:Int):=by rw [← hm2]; simp [sto]
  have a20:m2 20 (t:Int)=(p:Int):=by rw [← hm2]; simp [sto]
  have a21:m2 21 (t:Int)=(q:Int):=by rw [← hm2]; simp [sto]
  have a22:m2 22 (t:Int)=((kk % c:Nat):Int):=by rw [← hm2]; simp [sto]
  have a28:m2 0 28=((kk / c:Nat):Int):=by rw [← hm2]; simp [sto]
  have M2:own_MG g m2:=own_MGt (fun K x u=>o K x (by omega) (by omega)) M
  have T2:own_TC g m2 X:=own_TCt (fun K x u=>o K x (by omega) (by omega)) T
  obtain ⟨qs,ks,z,e1,e2,e3,e4,e5,e6⟩:=own_spl F r i hr t m2 p (kk / c) N (by omega) (by omega) M2 T2 hp.1 (by omega) kc (by omega)
  refine ⟨fun u=>if u=t+1 then q else qs u,fun u=>if u=t then kk % c else ks u,z,if_pos rfl,⟨?_,fun u hu=>?_⟩,?_,?_,fun u hu=>?_,fun K x a b=>?_⟩
  ·show (if 0=t+1 then q else qs 0)=i
   rw [if_neg (by omega)]; exact e2.c0
  ·show (if u=t+1 then q else qs u)≤(if u+1=t+1 then q else qs (u+1))∧(if u=t then kk % c else ks u)<own_sy g X (g.sym r u) (if u=t+1 then q else qs u) (if u+1=t+1 then q else qs (u+1))∧own_sy g X (g.sym r u) (if u=t+1 then q else qs u) (if u+1=t+1 then q else qs (u+1))<1000000
   rw [if_neg (by omega)]
   by_cases d:u=t
   ·rw [if_pos (by omega),if_pos d,d,e1,hc]
    exact ⟨hp.2,Nat.mod_lt _ pc,by omega⟩
   ·rw [if_neg (by omega),if_neg d]
    exact e2.c1 u (by omega)
  ·show k=own_ps g X r t i (if t+1=t+1 then q else qs (t+1)) ((if t=t+1 then q else qs t) - i)+(own_uk g X r i (fun u=>if u=t+1 then q else qs u) (fun u=>if u=t then kk % c else ks u) t*own_sy g X (g.sym r t) (if t=t+1 then q else qs t) (if t+1=t+1 then q else qs (t+1))+(if t=t then kk % c else ks t))
   rw [if_pos rfl,if_neg (by omega),if_pos rfl,e1,hc,own_ukc (qs:=qs) (ks:=ks) t (fun u hu=>if_neg (by omega)) (fun u hu=>if_neg (by omega)),← e3,h2]
   have:=Nat.div_add_mod kk c
   rw [Nat.mul_comm] at this
   omega
  ·have b:f_splitChildren_l19 (r:Int) (i:Int) ((q:Int),(k:Int),((t+1:Nat):Int),m)=some (.inl ((p:Int),((kk / c:Nat):Int),(t:Int),m2)):=by
    unfold f_splitChildren_l19
    dsimp only
    rw [if_neg (by omega),if_neg (by omega),w32_id (z:=((t+1:Nat):Int) - 1) (by omega),show ((t+1:Nat):Int) - 1=(t:Int) by omega,own_syA F M r t hr (by omega),Option.bind_some,h5,Option.bind_some]
    dsimp only
    rw [if_neg (by decide),if_pos (by omega),a20,a28,w32_id (z:=((t+1:Nat):Int)+-1) (by omega),show ((t+1:Nat):Int)+-1=(t:Int) by omega]
   rw [lp_more b]
   exact e4
  ·show z 19 (u:Int)=(g.sym r u:Int)∧z 20 (u:Int)=((if u=t+1 then q else qs u:Nat):Int)∧z 21 (u:Int)=((if u+1=t+1 then q else qs (u+1):Nat):Int)∧z 22 (u:Int)=((if u=t then kk % c else ks u:Nat):Int)
   rw [if_neg (by omega)]
   by_cases d:u=t
   ·rw [if_pos (by omega),if_pos d,d,e1,e6 19 _ (by omega) (by omega),e6 20 _ (by omega) (by omega),e6 21 _ (by omega) (by omega),e6 22 _ (by omega) (by omega)]
    exact ⟨a19,a20,a21,a22⟩
   ·rw [if_neg (by omega),if_neg d]
    exact e5 u (by omega)
  ·rw [e6 K x a (by omega)]
   exact o K x a (by omega)
theorem own_scC {g:own_Gm} (F:own_wf g) {X:Nat→Nat→Nat→Nat} (r i j k:Nat) (hr:r<g.R) {m:OMem} (M:own_MG g m) (T:own_TC g m X) (hi:i≤j) (hj:j≤g.n) (hk:k<own_W g X r (g.len r) i j) (hW:own_W g X r (g.len r) i j<1000000):∃ (qs ks:Nat→Nat) (z:OMem),qs (g.len r)=j∧own_CH g X r i qs ks (g.len r)∧k=own_uk g X r i qs ks (g.len r)∧f_splitChildren (r:Int) (i:Int) (j:Int) (k:Int) m=some (1,z)∧(∀ u:Nat,u<g.len r→z 19 (u:Int)=(g.sym r u:Int)∧z 20 (u:Int)=(qs u:Int)∧z 21 (u:Int)=(qs (u+1):Int)∧z 22 (u:Int)=(ks u:Int))∧∀ (K:Nat) x,¬ (K=0∧x=28)→¬ (19≤K∧K≤22)→z K x=m K x:=by
 have R10:=F.1.1
 have l3:=(F.2.1 r hr).2.1
 obtain ⟨qs,ks,z,e1,e2,e3,e4,e5,e6⟩:=own_spl F r i hr (g.len r) m j k NN (Nat.le_refl _) (by simp only [NN]; omega) M T hi hj hk hW
 refine ⟨qs,ks,z,e1,e2,e3,?_,e5,fun K x a b=>e6 K x a fun w=>b ⟨w.1,w.2.1⟩⟩
 unfold f_splitChildren
 rw [if_pos (by omega),(M.2.1 r hr).2.1,e4]
 rfl
abbrev own_Nd:=Nat×Nat×Nat
def own_tf (g:own_Gm) (S:Nat→Nat→Nat→Nat→List own_Nd→Prop) (r:Nat) (qs ks:Nat→Nat):Nat→Nat→List own_Nd→Prop
 | 0,_,N=>N=[]
 | d+1,t,N=>(g.sym r t<4→∃ N1 N2,N=N1 ++ N2∧S (g.sym r t) (qs t) (qs (t+1)) (ks t) N1∧own_tf g S r qs ks d (t+1) N2)∧(¬ g.sym r t<4→own_tf g S r qs ks d (t+1) N)
theorem own_tfm {g:own_Gm} {S S':Nat→Nat→Nat→Nat→List own_Nd→Prop} (h:∀ A i j k N,S A i j k N→S' A i j k N) {r:Nat} {qs ks:Nat→Nat}:∀ d t N,own_tf g S r qs ks d t N→own_tf g S' r qs ks d t N
 | 0,_,_,z=>z
 | d+1,t,N,⟨a,b⟩=>⟨fun c=>by
   obtain ⟨N1,N2,e,s,f⟩:=a c
   exact ⟨N1,N2,e,h _ _ _ _ _ s,own_tfm h d (t+1) N2 f⟩,fun c=>own_tfm h d (t+1) N (b c)⟩
def own_o1 (g:own_Gm) (X:Nat→Nat→Nat→Nat) (r i j k:Nat) (qs ks:Nat→Nat):Prop:=(r<g.R)∧(qs (g.len r)=j)∧(own_CH g X r i qs ks (g.len r))∧(k=own_cs g X (g.lhs r) i j r+own_uk g X r i qs ks (g.len r))
theorem own_o1.o0 {g:own_Gm} {X:Nat→Nat→Nat→Nat} {r i j k:Nat} {qs ks:Nat→Nat} (h:own_o1 g X r i j k qs ks):r<g.R:=h.1
theorem own_o1.o1 {g:own_Gm} {X:Nat→Nat→Nat→Nat} {r i j k:Nat} {qs ks:Nat→Nat} (h:own_o1 g X r i j k qs ks):qs (g.len r)=j:=h.2.1
theorem own_o1.o2 {g:own_Gm} {X:Nat→Nat→Nat→Nat} {r i j k:Nat} {qs ks:Nat→Nat} (h:own_o1 g X r i j k qs ks):own_CH g X r i qs ks (g.len r):=h.2.2.1
theorem own_o1.o3 {g:own_Gm} {X:Nat→Nat→Nat→Nat} {r i j k:Nat} {qs ks:Nat→Nat} (h:own_o1 g X r i j k qs ks):k=own_cs g X (g.lhs r) i j r+own_uk g X r i qs ks (g.len r):=h.2.2.2
def own_tcl (g:own_Gm) (X:Nat→Nat→Nat→Nat) (S:Nat→Nat→Nat→Nat→List own_Nd→Prop):Prop:=∀ r i j k qs ks N,own_o1 g X r i j k qs ks→own_tf g S r qs ks (g.len r) 0 N→S (g.lhs r) i j k ((r,i,j) :: N)
def own_TR (g:own_Gm) (X:Nat→Nat→Nat→Nat) (A i j k:Nat) (N:List own_Nd):Prop:=∀ S,own_tcl g X S→S A i j k N
theorem own_TRm {g:own_Gm} {X:Nat→Nat→Nat→Nat}:own_tcl g X (own_TR g X):=fun r i j k qs ks N o f S hS=>hS r i j k qs ks N o (own_tfm (fun A i j k N h=>h S hS) _ _ _ f)
/- a terminal among the children -/
theorem own_chT {g:own_Gm} {X:Nat→Nat→Nat→Nat} {r i t:Nat} {qs ks:Nat→Nat} (C:own_CH g X r i qs ks t) (u:Nat) (hu:u<t) (h:¬ g.sym r u<4):qs (u+1)=qs u+1∧qs u<g.n∧g.tok (qs u)=g.sym r u - 4∧ks u=0:=by
 have c:=(C.c1 u hu).2.1
 unfold own_sy at c
 rw [if_neg h] at c
 by_cases d:qs (u+1)=qs u+1∧qs u<g.n∧g.tok (qs u)=g.sym r u - 4
 ·rw [if_pos d] at c
  exact ⟨d.1,d.2.1,d.2.2,by omega⟩
 ·rw [if_neg d] at c; omega
/- arities -/
def own_af (g:own_Gm) (r:Nat):Nat→Nat→Nat
 | 0,_=>0
 | d+1,t=>(if g.sym r t<4 then 1 else 0)+own_af g r d (t+1)
def own_sk (g:own_Gm):Nat→List own_Nd→Option (List own_Nd)
 | k,[]=>if k=0 then some [] else none
 | k,nd :: L=>if k=0 then some (nd :: L) else own_sk g (k - 1+own_af g nd.1 (g.len nd.1) 0) L
theorem own_sk0 (g:own_Gm):∀ L,own_sk g 0 L=some L
 | []=>rfl
 | _ :: _=>rfl
theorem own_skc (g:own_Gm) (k:Nat) (nd:own_Nd) (L:List own_Nd):own_sk g (k+1) (nd :: L)=own_sk g (k+own_af g nd.1 (g.len nd.1) 0) L:=rfl
/- the law's check of a node against what follows it -/
def own_ck (g:own_Gm) (r:Nat):Nat→Nat→Nat→List own_Nd→Nat→Prop
 | 0,_,p,_,j=>p=j
 | d+1,t,p,L,j=>(g.sym r t<4→∃ rc jc L1 L2,L=(rc,p,jc) :: L1∧rc<g.R∧g.lhs rc=g.sym r t∧own_sk g 1 L=some L2∧own_ck g r d (t+1) jc L2 j)∧(¬ g.sym r t<4→(p<g.n∧g.tok p=g.sym r t - 4)∧own_ck g r d (t+1) (p+1) L j)
def own_gd (g:own_Gm) (A i j:Nat) (N:List own_Nd):Prop:=(∃ r N',N=(r,i,j) :: N'∧r<g.R∧g.lhs r=A)∧(∀ k L,own_sk g (k+1) (N ++ L)=own_sk g k L)∧∀ L pre r' i' j' rest,N=pre ++ (r',i',j') :: rest→r'<g.R∧own_ck g r' (g.len r') 0 i' (rest ++ L) j'
theorem own_tfk {g:own_Gm} {S:Nat→Nat→Nat→Nat→List own_Nd→Prop} (hS:∀ A i j k N,S A i j k N→own_gd g A i j N) {r:Nat} {qs ks:Nat→Nat} (L:List own_Nd):∀ d t N k,own_tf g S r qs ks d t N→own_sk g (k+own_af g r d t) (N ++ L)=own_sk g k L
 | 0,_,N,k,e=>by
  have:N=[]:=e
  rw [this]; rfl
 | d+1,t,N,k,⟨a,b⟩=>by
  by_cases c:g.sym r t<4
  ·obtain ⟨N1,N2,e,s,f⟩:=a c
   rw [e,List.append_assoc]
   show own_sk g (k+((if g.sym r t<4 then 1 else 0)+own_af g r d (t+1))) _=_
   rw [if_pos c,show k+(1+own_af g r d (t+1))=(k+own_af g r d (t+1))+1 by omega,(hS _ _ _ _ _ s).2.1]
   exact own_tfk hS L d (t+1) N2 k f
  ·show own_sk g (k+((if g.sym r t<4 then 1 else 0)+own_af g r d (t+1))) _=_
   rw [if_neg c,Nat.zero_add]
   exact own_tfk hS L d (t+1) N k (b c)
theorem own_tfc {g:own_Gm} {X:Nat→Nat→Nat→Nat} {S:Nat→Nat→Nat→Nat→List own_Nd→Prop} (hS:∀ A i j k N,S A i j k N→own_gd g A i j N) {r i:Nat} {qs ks:Nat→Nat} (C:own_CH g X r i qs ks (g.len r)) (L:List own_Nd):∀ d t N,t+d=g.len r→own_tf g S r qs ks d t N→own_ck g r d t (qs t) (N ++ L) (qs (g.len r))
 | 0,t,N,h,_=>by
  show qs t=qs (g.len r)
  rw [← h]; rfl
 | d+1,t,N,h,⟨a,b⟩=>by
  refine ⟨fun c=>?_,fun c=>?_⟩
  ·obtain ⟨N1,N2,e,s,f⟩:=a c
   obtain ⟨⟨rc,N',e1,e2,e3⟩,k1,-⟩:=hS _ _ _ _ _ s
   refine ⟨rc,qs (t+1),N' ++ (N2 ++ L),N2 ++ L,?_,e2,e3,?_,own_tfc hS C L d (t+1) N2 (by omega) f⟩
   ·rw [e,e1,List.append_assoc]; rfl
   ·rw [e,List.append_assoc]
    have:=k1 0 (N2 ++ L)
    rw [this,own_sk0]
  ·obtain ⟨q1,q2,q3,-⟩:=own_chT C t (by omega) c
   refine ⟨⟨q2,q3⟩,?_⟩
   rw [← q1]
   exact own_tfc hS C L d (t+1) N (by omega) (b c)
theorem own_app {N1 N2 pre rest:List own_Nd} {x:own_Nd}:∀ (h:N1 ++ N2=pre ++ x :: rest),(∃ rest1,N1=pre ++ x :: rest1∧rest=rest1 ++ N2)∨∃ pre2,N2=pre2 ++ x :: rest:=by
 induction N1 generalizing pre with
 | nil=>exact fun h=>Or.inr ⟨pre,h⟩
 | cons y N1 ih =>
  intro h
  cases pre with
  | nil =>
   have h1:y=x:=(List.cons.inj h).1
   have h2:N1 ++ N2=rest:=(List.cons.inj h).2
   exact Or.inl ⟨N1,by rw [h1]; rfl,h2.symm⟩
  | cons z pre =>
   have h1:y=z:=(List.cons.inj h).1
   have h2:N1 ++ N2=pre ++ x :: rest:=(List.cons.inj h).2
   rcases ih h2 with ⟨r1,a,b⟩ | ⟨p2,a⟩
   ·exact Or.inl ⟨r1,by rw [h1,a]; rfl,b⟩
   ·exact Or.inr ⟨p2,a⟩
theorem own_tfi {g:own_Gm} {S:Nat→Nat→Nat→Nat→List own_Nd→Prop} (hS:∀ A i j k N,S A i j k N→own_gd g A i j N) {r:Nat} {qs ks:Nat→Nat} (L:List own_Nd):∀ d t N pre r' i' j' rest,own_tf g S r qs ks d t N→N=pre ++ (r',i',j') :: rest→r'<g.R∧own_ck g r' (g.len r') 0 i' (rest ++ L) j'
 | 0,_,N,pre,r',i',j',rest,e,h=>by
  have:N=[]:=e
  rw [this] at h
  cases pre <;> cases h
 | d+1,t,N,pre,r',i',j',rest,⟨a,b⟩,h=>by
  by_cases c:g.sym r t<4
  ·obtain ⟨N1,N2,e,s,f⟩:=a c
   rw [e] at h
   rcases own_app h with ⟨r1,u,v⟩ | ⟨p2,u⟩
   ·have:=(hS _ _ _ _ _ s).2.2 (N2 ++ L) pre r' i' j' r1 u
    rw [v,List.append_assoc]
    exact this
   ·exact own_tfi hS L d (t+1) N2 p2 r' i' j' rest f u
  ·exact own_tfi hS L d (t+1) N pre r' i' j' rest (b c) h
theorem own_gdc {g:own_Gm} {X:Nat→Nat→Nat→Nat} {S:Nat→Nat→Nat→Nat→List own_Nd→Prop} (hS:∀ A i j k N,S A i j k N→own_gd g A i j N) {r i j k:Nat} {qs ks:Nat→Nat} {N:List own_Nd} (o:own_o1 g X r i j k qs ks) (f:own_tf g S r qs ks (g.len r) 0 N):own_gd g (g.lhs r) i j ((r,i,j) :: N):=by
 refine ⟨⟨r,N,rfl,o.o0,rfl⟩,fun k' L=>?_,fun L pre r' i' j' rest h=>?_⟩
 ·rw [List.cons_append,own_skc]
  exact own_tfk hS L (g.len r) 0 N k' f
 ·cases pre with
  | nil =>
   have h1:=(List.cons.inj h).1
   have h2:=(List.cons.inj h).2
   cases h1
   rw [← h2]
   refine ⟨o.o0,?_⟩
   have:=own_tfc hS o.o2 L (g.len r) 0 N (Nat.zero_add _) f
   rw [o.o2.c0,o.o1] at this
   exact this
  | cons z pre=>exact own_tfi hS L (g.len r) 0 N pre r' i' j' rest f (List.cons.inj h).2
theorem own_TRg {g:own_Gm} {X:Nat→Nat→Nat→Nat} {A i j k:Nat} {N:List own_Nd} (T:own_TR g X A i j k N):own_gd g A i j N:=T (fun A i j _ N=>own_gd g A i j N) fun _ _ _ _ _ _ _ o f=>own_gdc (fun _ _ _ _ _ h=>h) o f
/- what a tree is made of -/
theorem own_TRi {g:own_Gm} {X:Nat→Nat→Nat→Nat} {A i j k:Nat} {N:List own_Nd} (T:own_TR g X A i j k N):∃ r qs ks N',g.lhs r=A∧N=(r,i,j) :: N'∧own_o1 g X r i j k qs ks∧own_tf g (own_TR g X) r qs ks (g.len r) 0 N' :=
 (T (fun A i j k N=>own_TR g X A i j k N∧∃ r qs ks N',g.lhs r=A∧N=(r,i,j) :: N'∧own_o1 g X r i j k qs ks∧own_tf g (own_TR g X) r qs ks (g.len r) 0 N') fun r i j k qs ks N o f=>⟨own_TRm r i j k qs ks N o (own_tfm (fun _ _ _ _ _ h=>h.1) _ _ _ f),r,qs,ks,N,rfl,rfl,o,own_tfm (fun _ _ _ _ _ h=>h.1) _ _ _ f⟩).2
/- the same list,the same rank -/
theorem own_tfu {g:own_Gm} {X:Nat→Nat→Nat→Nat} {r i i':Nat} {qs ks qs' ks':Nat→Nat} (C:own_CH g X r i qs ks (g.len r)) (C':own_CH g X r i' qs' ks' (g.len r)):∀ d t N,t+d=g.len r→own_tf g (fun A i j k N=>own_gd g A i j N∧∀ k',own_TR g X A i j k' N→k'=k) r qs ks d t N→own_tf g (own_TR g X) r qs' ks' d t N→qs' t=qs t→(∀ u,t≤u→u≤g.len r→qs' u=qs u)∧∀ u,t≤u→u<g.len r→ks' u=ks u
 | 0,t,N,h,_,_,e=>⟨fun u a b=>by rw [show u=t by omega]; exact e,fun u a b=>by omega⟩
 | d+1,t,N,h,⟨a,b⟩,⟨a',b'⟩,e=>by
  have fin:qs' (t+1)=qs (t+1)→ks' t=ks t→(∃ N2,own_tf g (fun A i j k N=>own_gd g A i j N∧∀ k',own_TR g X A i j k' N→k'=k) r qs ks d (t+1) N2∧own_tf g (own_TR g X) r qs' ks' d (t+1) N2)→(∀ u,t≤u→u≤g.len r→qs' u=qs u)∧∀ u,t≤u→u<g.len r→ks' u=ks u:=fun q1 q2 ⟨N2,f1,f2⟩=>by
   obtain ⟨r1,r2⟩:=own_tfu C C' d (t+1) N2 (by omega) f1 f2 q1
   refine ⟨fun u x y=>?_,fun u x y=>?_⟩
   ·by_cases z:u=t
    ·rw [z]; exact e
    ·exact r1 u (by omega) y
   ·by_cases z:u=t
    ·rw [z]; exact q2
    ·exact r2 u (by omega) y
  by_cases c:g.sym r t<4
  ·obtain ⟨N1,N2,e1,⟨s1,s2⟩,f⟩:=a c
   obtain ⟨N1',N2',e1',s',f'⟩:=a' c
   have g':=own_TRg s'
   obtain ⟨⟨rc,M,u1,-,-⟩,k1,-⟩:=s1
   obtain ⟨⟨rc',M',u1',-,-⟩,k1',-⟩:=g'
   have eq:N1 ++ N2=N1' ++ N2':=e1.symm.trans e1'
   have t1:=k1 0 N2
   have t2:=k1' 0 N2'
   rw [own_sk0] at t1 t2
   rw [← eq,t1] at t2
   have n2:N2=N2':=Option.some.inj t2
   have n1:N1=N1':=by
    rw [← n2] at eq
    exact List.append_cancel_right eq
   have hq:qs' (t+1)=qs (t+1):=by
    rw [n1,u1'] at u1
    have:=(List.cons.inj u1).1
    have:=(Prod.mk.inj (Prod.mk.inj this).2).2
    exact this
   refine fin hq ?_ ⟨N2,f,by rw [n2]; exact f'⟩
   rw [← n1,e,hq] at s'
   exact s2 _ s'
  ·obtain ⟨q1,-,-,q4⟩:=own_chT C t (by omega) c
   obtain ⟨q1',-,-,q4'⟩:=own_chT C' t (by omega) c
   exact fin (by rw [q1,q1',e]) (by rw [q4,q4']) ⟨N,b c,b' c⟩
theorem own_TRu {g:own_Gm} {X:Nat→Nat→Nat→Nat} {A i j k k':Nat} {N:List own_Nd} (T:own_TR g X A i j k N) (T':own_TR g X A i j k' N):k'=k:=by
 refine (T (fun A i j k N=>own_gd g A i j N∧∀ k',own_TR g X A i j k' N→k'=k) fun r i j k qs ks N o f=>⟨own_gdc (fun _ _ _ _ _ h=>h.1) o f,fun k' t'=>?_⟩).2 k' T'
 obtain ⟨r2,qs',ks',N',-,e,o',f'⟩:=own_TRi t'
 have h1:=(List.cons.inj e).1
 have h2:=(List.cons.inj e).2
 cases h1
 subst h2
 obtain ⟨u1,u2⟩:=own_tfu o.o2 o'.o2 (g.len r) 0 N (Nat.zero_add _) f f' (by rw [o.o2.c0,o'.o2.c0])
 rw [o.o3,o'.o3,own_ukc (g.len r) (fun u hu=>u1 u (Nat.zero_le _) hu) (fun u hu=>u2 u (Nat.zero_le _) hu)]
abbrev own_It:=Nat×Nat×Nat×Nat
def own_sS (m:OMem):List own_It→Prop
 | []=>True
 | a :: S=>(m 15 (S.length:Int)=(a.1:Int)∧m 16 (S.length:Int)=(a.2.1:Int)∧m 17 (S.length:Int)=(a.2.2.1:Int)∧m 18 (S.length:Int)=(a.2.2.2:Int))∧own_sS m S
theorem own_sSt {m m2:OMem}:∀ S:List own_It,(∀ (k:Nat) x,15≤k→k≤18→x<(S.length:Int)→m2 k x=m k x)→own_sS m S→own_sS m2 S
 | [],_,_=>trivial
 | a :: S,h,⟨⟨e1,e2,e3,e4⟩,r⟩=>by
  have ln:((a :: S).length:Int)=(S.length:Int)+1:=rfl
  refine ⟨⟨?_,?_,?_,?_⟩,own_sSt S (fun k x u v w=>h k x u v (by omega)) r⟩
  ·rw [h 15 _ (by decide) (by decide) (by omega)]; exact e1
  ·rw [h 16 _ (by decide) (by decide) (by omega)]; exact e2
  ·rw [h 17 _ (by decide) (by decide) (by omega)]; exact e3
  ·rw [h 18 _ (by decide) (by decide) (by omega)]; exact e4
def own_iv (g:own_Gm) (X:Nat→Nat→Nat→Nat) (a:own_It):Prop:=a.1<4∧(a.2.1≤a.2.2.1∧a.2.2.1≤g.n)∧a.2.2.2<X a.1 a.2.1 a.2.2.1∧X a.1 a.2.1 a.2.2.1<1000000
def own_TS (g:own_Gm) (X:Nat→Nat→Nat→Nat):List own_It→List own_Nd→Prop
 | [],N=>N=[]
 | a :: S,N=>∃ N1 N2,N=N1 ++ N2∧own_TR g X a.1 a.2.1 a.2.2.1 a.2.2.2 N1∧own_TS g X S N2
/- the children to be built -/
def own_cI (g:own_Gm) (r:Nat) (qs ks:Nat→Nat):Nat→Nat→List own_It
 | 0,_=>[]
 | d+1,t=>(if g.sym r t<4 then [(g.sym r t,qs t,qs (t+1),ks t)] else []) ++ own_cI g r qs ks d (t+1)
theorem own_cIl {g:own_Gm} {r:Nat} {qs ks:Nat→Nat}:∀ d t,(own_cI g r qs ks d t).length=own_af g r d t
 | 0,_=>rfl
 | d+1,t=>by
  show ((if g.sym r t<4 then [(g.sym r t,qs t,qs (t+1),ks t)] else []) ++ own_cI g r qs ks d (t+1)).length=(if g.sym r t<4 then 1 else 0)+own_af g r d (t+1)
  rw [List.length_append,own_cIl d (t+1)]
  split <;> rfl
theorem own_cIt {g:own_Gm} {X:Nat→Nat→Nat→Nat} {r:Nat} {qs ks:Nat→Nat} (S:List own_It):∀ d t N,own_TS g X (own_cI g r qs ks d t ++ S) N→∃ N1 N2,N=N1 ++ N2∧own_tf g (own_TR g X) r qs ks d t N1∧own_TS g X S N2
 | 0,t,N,h=>⟨[],N,rfl,rfl,h⟩
 | d+1,t,N,h=>by
  have e:own_cI g r qs ks (d+1) t=(if g.sym r t<4 then [(g.sym r t,qs t,qs (t+1),ks t)] else []) ++ own_cI g r qs ks d (t+1):=rfl
  rw [e] at h
  by_cases c:g.sym r t<4
  ·rw [if_pos c] at h
   obtain ⟨M1,M2,e1,t1,t2⟩:=h
   obtain ⟨N1,N2,e2,f,s⟩:=own_cIt S d (t+1) M2 t2
   exact ⟨M1 ++ N1,N2,by rw [e1,e2,List.append_assoc],⟨fun _=>⟨M1,N1,rfl,t1,f⟩,fun z=>absurd c z⟩,s⟩
  ·rw [if_neg c] at h
   obtain ⟨N1,N2,e2,f,s⟩:=own_cIt S d (t+1) N h
   exact ⟨N1,N2,e2,⟨fun z=>absurd z c,fun _=>f⟩,s⟩
theorem own_cIv {g:own_Gm} {X:Nat→Nat→Nat→Nat} {r i:Nat} {qs ks:Nat→Nat} (C:own_CH g X r i qs ks (g.len r)) (hn:qs (g.len r)≤g.n):∀ d t,t+d=g.len r→∀ a,a∈own_cI g r qs ks d t→own_iv g X a
 | 0,t,_,a,h=>by cases h
 | d+1,t,ht,a,h=>by
  rcases List.mem_append.mp h with h | h
  ·by_cases c:g.sym r t<4
   ·rw [if_pos c] at h
    rw [List.mem_singleton.mp h]
    have c1:=C.c1 t (by omega)
    have mono:∀ d u,u+d=g.len r→qs u≤qs (g.len r):=fun d=>by
     induction d with
     | zero=>intro u hu; rw [← hu]; exact Nat.le_refl _
     | succ d ih=>intro u hu; exact Nat.le_trans (C.c1 u (by omega)).1 (ih (u+1) (by omega))
    have e:own_sy g X (g.sym r t) (qs t) (qs (t+1))=X (g.sym r t) (qs t) (qs (t+1)):=if_pos c
    rw [e] at c1
    exact ⟨c,⟨c1.1,Nat.le_trans (mono d (t+1) (by omega)) hn⟩,c1.2.1,c1.2.2⟩
   ·rw [if_neg c] at h; cases h
  ·exact own_cIv C hn d (t+1) (by omega) a h
theorem own_pu (a:own_It) (m:OMem) (L:Nat) (hs:m 0 27=(L:Int)) (hL:L<64):f_push (a.1:Int) (a.2.1:Int) (a.2.2.1:Int) (a.2.2.2:Int) m=some (1,sto (sto (sto (sto (sto m 15 (L:Int) (a.1:Int)) 16 (L:Int) (a.2.1:Int)) 17 (L:Int) (a.2.2.1:Int)) 18 (L:Int) (a.2.2.2:Int)) 0 27 ((L+1:Nat):Int)):=by
 unfold f_push f_push_b16
 rw [hs,if_neg (by omega),if_pos (by omega),if_pos (by omega),if_pos (by omega),if_pos (by omega),if_pos (by omega),w32_id (z:=(L:Int)+1) (by omega)]
 rfl
theorem own_pcL {g:own_Gm} {r:Nat} {qs ks:Nat→Nat} (S:List own_It) (hr3:g.len r≤3):∀ (t:Nat) (m:OMem) (N:Nat),t≤g.len r→t<N→(∀ u:Nat,u<g.len r→m 19 (u:Int)=(g.sym r u:Int)∧m 20 (u:Int)=(qs u:Int)∧m 21 (u:Int)=(qs (u+1):Int)∧m 22 (u:Int)=(ks u:Int))→own_sS m (own_cI g r qs ks (g.len r - t) t ++ S)→m 0 27=((own_cI g r qs ks (g.len r - t) t ++ S).length:Int)→(own_cI g r qs ks (g.len r) 0 ++ S).length<64→(own_cI g r qs ks (g.len r) 0).length+S.length=own_af g r (g.len r) 0+S.length→∃ z,lp f_pushChildren_l66 N ((t:Int),m)=some (.inr z)∧own_sS z (own_cI g r qs ks (g.len r) 0 ++ S)∧z 0 27=((own_cI g r qs ks (g.len r) 0 ++ S).length:Int)∧∀ (K:Nat) x,¬ (K=0∧x=27)→¬ (15≤K∧K≤18)→z K x=m K x
 | t,m,0,_,h,_,_,_,_,_=>by omega
 | 0,m,N+1,ht,hN,hc,hS,hs,hl,_=>by
  rw [Nat.sub_zero] at hS hs
  refine ⟨m,lp_out ?_,hS,hs,fun _ _ _ _=>rfl⟩
  unfold f_pushChildren_l66
  dsimp only
  rw [if_pos (by decide)]
 | t+1,m,N+1,ht,hN,hc,hS,hs,hl,hq=>by
  obtain ⟨c19,c20,c21,c22⟩:=hc t (by omega)
  have ec:own_cI g r qs ks (g.len r - t) t=(if g.sym r t<4 then [(g.sym r t,qs t,qs (t+1),ks t)] else []) ++ own_cI g r qs ks (g.len r - (t+1)) (t+1):=by
   rw [show g.len r - t=(g.len r - (t+1))+1 by omega]
   rfl
  have ls:∀ d u,u+d=g.len r→own_af g r d u≤own_af g r (g.len r) 0:=fun d u h=>by
   have:∀ v,v≤g.len r→own_af g r (g.len r - v) v≤own_af g r (g.len r) 0:=fun v=>by
    induction v with
    | zero=>intro _; exact Nat.le_refl _
    | succ v ih =>
     intro hv
     have a:=ih (by omega)
     have e:own_af g r (g.len r - v) v=(if g.sym r v<4 then 1 else 0)+own_af g r (g.len r - (v+1)) (v+1):=by
      rw [show g.len r - v=(g.len r - (v+1))+1 by omega]
      rfl
     omega
   have:=this u (by omega)
   rw [show g.len r - u=d by omega] at this
   exact this
  by_cases c:g.sym r t<4
  ·rw [if_pos c] at ec
   have l1:(own_cI g r qs ks (g.len r - (t+1)) (t+1) ++ S).length+1≤(own_cI g r qs ks (g.len r) 0 ++ S).length:=by
    have a:=ls (g.len r - t) t (by omega)
    rw [List.length_append,List.length_append,own_cIl,own_cIl]
    have e:own_af g r (g.len r - t) t=1+own_af g r (g.len r - (t+1)) (t+1):=by
     rw [show g.len r - t=(g.len r - (t+1))+1 by omega]
     show (if g.sym r t<4 then 1 else 0)+_=_
     rw [if_pos c]
    omega
   have P:=own_pu (g.sym r t,qs t,qs (t+1),ks t) m _ hs (by omega)
   dsimp only at P
   generalize hL:(own_cI g r qs ks (g.len r - (t+1)) (t+1) ++ S).length=L at *
   generalize hm2:sto (sto (sto (sto (sto m 15 (L:Int) (g.sym r t:Int)) 16 (L:Int) (qs t:Int)) 17 (L:Int) (qs (t+1):Int)) 18 (L:Int) (ks t:Int)) 0 27 ((L+1:Nat):Int)=m2 at *
   have o:∀ (K:Nat) x,¬ (K=0∧x=27)→¬ (15≤K∧K≤18∧x=(L:Int))→m2 K x=m K x:=fun K x a b=>by
    rw [← hm2]
    simp only [sto]
    rw [if_neg (by omega),if_neg (by omega),if_neg (by omega),if_neg (by omega),if_neg (by omega)]
   have b:f_pushChildren_l66 (((t+1:Nat):Int),m)=some (.inl ((t:Int),m2)):=by
    unfold f_pushChildren_l66 f_pushChildren_b136
    dsimp only
    rw [if_neg (by omega),if_neg (by omega),w32_id (z:=((t+1:Nat):Int) - 1) (by omega),show ((t+1:Nat):Int) - 1=(t:Int) by omega,if_pos (show 0≤(t:Int)∧(t:Int)<3 by omega),c19,c20,c21,c22,if_pos (show (g.sym r t:Int)<4 by omega),if_pos (show 0≤(t:Int)∧(t:Int)<3 by omega),if_pos (show 0≤(t:Int)∧(t:Int)<3 by omega),if_pos (show 0≤(t:Int)∧(t:Int)<3 by omega),if_pos (show 0≤(t:Int)∧(t:Int)<3 by omega),P,Option.bind_some]
    dsimp only
    rw [if_neg (by decide),w32_id (z:=((t+1:Nat):Int)+-1) (by omega),show ((t+1:Nat):Int)+-1=(t:Int) by omega]
   have z27:m2 0 27=((L+1:Nat):Int):=by rw [← hm2]; simp [sto]
   obtain ⟨z,r1,r2,r3,r4⟩:=own_pcL S hr3 t m2 N (by omega) (by omega) (fun u hu=>by rw [o 19 _ (by omega) (by omega),o 20 _ (by omega) (by omega),o 21 _ (by omega) (by omega),o 22 _ (by omega) (by omega)]; exact hc u hu) (by
    rw [ec,List.append_assoc]
    show own_sS m2 ((g.sym r t,qs t,qs (t+1),ks t) :: (own_cI g r qs ks (g.len r - (t+1)) (t+1) ++ S))
    refine ⟨?_,own_sSt _ (fun k x u v w=>o k x (by omega) (by rw [hL] at w; omega)) hS⟩
    rw [hL]
    refine ⟨?_,?_,?_,?_⟩
    ·rw [← hm2]; simp [sto]
    ·rw [← hm2]; simp [sto]
    ·rw [← hm2]; simp [sto]
    ·rw [← hm2]; simp [sto]) (by rw [ec,List.append_assoc,z27,← hL]; rfl) hl hq
   exact ⟨z,by rw [lp_more b]; exact r1,r2,r3,fun K x u v=>by rw [r4 K x u v,o K x u (by omega)]⟩
  ·rw [if_neg c] at ec
   have b:f_pushChildren_l66 (((t+1:Nat):Int),m)=some (.inl ((t:Int),m)):=by
    unfold f_pushChildren_l66 f_pushChildren_b136
    dsimp only
    rw [if_neg (by omega),if_neg (by omega),w32_id (z:=((t+1:Nat):Int) - 1) (by omega),show ((t+1:Nat):Int) - 1=(t:Int) by omega,if_pos (show 0≤(t:Int)∧(t:Int)<3 by omega),c19,if_neg (show ¬ (g.sym r t:Int)<4 by omega),w32_id (z:=((t+1:Nat):Int)+-1) (by omega),show ((t+1:Nat):Int)+-1=(t:Int) by omega]
   obtain ⟨z,r1,r2,r3,r4⟩:=own_pcL S hr3 t m N (by omega) (by omega) hc (by rw [ec]; exact hS) (by rw [ec]; exact hs) hl hq
   exact ⟨z,by rw [lp_more b]; exact r1,r2,r3,r4⟩
theorem own_pcS {g:own_Gm} (F:own_wf g) {m:OMem} (M:own_MG g m) {r:Nat} (hr:r<g.R) {qs ks:Nat→Nat} (S:List own_It) (b:Nat) (hb:1≤b∧b≤64) (hc:∀ u:Nat,u<g.len r→m 19 (u:Int)=(g.sym r u:Int)∧m 20 (u:Int)=(qs u:Int)∧m 21 (u:Int)=(qs (u+1):Int)∧m 22 (u:Int)=(ks u:Int)) (hS:own_sS m S) (hs:m 0 27=(S.length:Int)) (h64:S.length≤64):Ok (f_pushChildren (r:Int) (b:Int) m) (fun x=>(∀ (K:Nat) y,¬ (K=0∧y=27)→¬ (15≤K∧K≤18)→x.2 K y=m K y)∧(x.1=0∨(x.1=1∧own_sS x.2 (own_cI g r qs ks (g.len r) 0 ++ S)∧x.2 0 27=((own_cI g r qs ks (g.len r) 0 ++ S).length:Int)∧b+(own_cI g r qs ks (g.len r) 0 ++ S).length≤64))):=by
 have R10:=F.1.1
 obtain ⟨f1,f2,f3⟩:=F.2.1 r hr
 unfold f_pushChildren f_pushChildren_b47
 rw [if_pos (by omega),(M.2.1 r hr).2.1]
 have af:∀ d t,own_af g r d t≤d:=fun d=>by
  induction d with
  | zero=>intro t; exact Nat.le_refl _
  | succ d ih =>
   intro t
   have:=ih (t+1)
   show (if g.sym r t<4 then 1 else 0)+own_af g r d (t+1)≤d+1
   split <;> omega
 refine Ok.bind (P:=fun v=>v=(own_af g r (g.len r) 0:Int)) ?_ fun v hv=>?_
 ·refine Ok.loop (fun s=>∃ t a:Nat,s.2=((t+1:Nat):Int)∧t≤g.len r∧s.1=(a:Int)∧a≤t∧a+own_af g r (g.len r - t) t=own_af g r (g.len r) 0) (fun s=>(5 - s.2).toNat) ⟨0,0,rfl,Nat.zero_le _,rfl,Nat.le_refl _,by rw [Nat.sub_zero,Nat.zero_add]⟩ (by dsimp only; omega) ?_
  rintro ⟨_,_⟩ ⟨t,a,rfl,ht,rfl,ha,e⟩
  unfold f_pushChildren_l13 f_pushChildren_b41
  dsimp only
  by_cases c:(g.len r:Int)<((t+1:Nat):Int)
  ·rw [if_pos c]
   refine Ok.ret ?_
   have:t=g.len r:=by omega
   rw [this,Nat.sub_self] at e
   have z:own_af g r 0 (g.len r)=0:=rfl
   omega
  ·have ea:own_af g r (g.len r - t) t=(if g.sym r t<4 then 1 else 0)+own_af g r (g.len r - (t+1)) (t+1):=by
    rw [show g.len r - t=(g.len r - (t+1))+1 by omega]
    rfl
   rw [if_neg c,if_neg (by omega),w32_id (z:=((t+1:Nat):Int) - 1) (by omega),show ((t+1:Nat):Int) - 1=(t:Int) by omega,if_pos (by omega),(hc t (by omega)).1,w32_id (z:=((t+1:Nat):Int)+1) (by omega),w32_id (z:=(a:Int)+1) (by omega)]
   by_cases d:g.sym r t<4
   ·rw [if_pos (by omega)]
    rw [if_pos d] at ea
    exact Ok.ret ⟨⟨t+1,a+1,rfl,by omega,rfl,by omega,by omega⟩,by dsimp only; omega⟩
   ·rw [if_neg (by omega)]
    rw [if_neg d] at ea
    exact Ok.ret ⟨⟨t+1,a,rfl,by omega,rfl,by omega,by omega⟩,by dsimp only; omega⟩
 ·have a3:=af (g.len r) 0
  rw [hv,hs,w32_id (z:=(b:Int)+(S.length:Int)) (by omega),w32_id (z:=(b:Int)+(S.length:Int)+(own_af g r (g.len r) 0:Int)) (by omega)]
  by_cases c:64<(b:Int)+(S.length:Int)+(own_af g r (g.len r) 0:Int)
  ·rw [if_pos c]
   exact Ok.ret ⟨fun _ _ _ _=>rfl,Or.inl rfl⟩
  ·have ll:(own_cI g r qs ks (g.len r) 0 ++ S).length=own_af g r (g.len r) 0+S.length:=by rw [List.length_append,own_cIl]
   rw [if_neg c]
   obtain ⟨z,z1,z2,z3,z4⟩:=own_pcL (qs:=qs) (ks:=ks) S f2 (g.len r) m NN (Nat.le_refl _) (by simp only [NN]; omega) hc (by rw [Nat.sub_self]; exact hS) (by rw [Nat.sub_self]; exact hs) (by omega) (by rw [own_cIl])
   rw [z1,Option.bind_some]
   exact Ok.ret ⟨z4,Or.inr ⟨rfl,z2,z3,by omega⟩⟩
def own_Ar (m:OMem) (k:Nat) (E:List own_Nd):Prop:=∀ (x:Nat) (nd:own_Nd),E[x]?=some nd→m k (x:Int)=(nd.1:Int)∧m (k+1) (x:Int)=(nd.2.1:Int)∧m (k+2) (x:Int)=(nd.2.2:Int)
theorem own_Art {m m2:OMem} {k:Nat} {E:List own_Nd} (h:∀ (K:Nat) x,k≤K→K≤k+2→x<(E.length:Int)→m2 K x=m K x) (A:own_Ar m k E):own_Ar m2 k E:=fun x nd e=>by
 have hx:x<E.length:=(List.getElem?_eq_some_iff.mp e).1
 obtain ⟨a,b,c⟩:=A x nd e
 rw [h k _ (by omega) (by omega) (by omega),h (k+1) _ (by omega) (by omega) (by omega),h (k+2) _ (by omega) (by omega) (by omega)]
 exact ⟨a,b,c⟩
theorem own_btS {g:own_Gm} (F:own_wf g) {m:OMem} (M:own_MG g m) {X:Nat→Nat→Nat→Nat} (T:own_TC g m X) (k:Nat) (hk:k<X 0 0 g.n) (hX:X 0 0 g.n<1000000):Ok (f_buildTree (k:Int) m) (fun r=>(∀ (K:Nat) x,¬ (K=0∧(x=27∨x=28))→¬ (12≤K∧K≤22)→r.2 K x=m K x)∧(r.1=-8∨∃ E:List own_Nd,own_TR g X 0 0 g.n k E∧E.length≤64∧r.1=(E.length:Int)∧own_Ar r.2 12 E)):=by
 have n8:=F.1.2
 have R10:=F.1.1
 have m27:sto m 0 27 0 0 27=((0:Nat):Int):=sto_at _ _ _ _
 have P:=own_pu (0,0,g.n,k) (sto m 0 27 0) 0 m27 (by decide)
 dsimp only at P
 unfold f_buildTree f_buildTree_b172
 rw [M.1.2]
 have P':f_push 0 0 (g.n:Int) (k:Int) (sto m 0 27 0)=_:=P
 rw [P',Option.bind_some]
 dsimp only
 generalize hm1:sto (sto (sto (sto (sto (sto m 0 27 0) 15 ((0:Nat):Int) ((0:Nat):Int)) 16 ((0:Nat):Int) ((0:Nat):Int)) 17 ((0:Nat):Int) (g.n:Int)) 18 ((0:Nat):Int) (k:Int)) 0 27 ((0+1:Nat):Int)=m1
 have o1:∀ (K:Nat) x,¬ (K=0∧x=27)→¬ (15≤K∧K≤18)→m1 K x=m K x:=fun K x a b=>by
  rw [← hm1]
  simp only [sto]
  rw [if_neg (by omega),if_neg (by omega),if_neg (by omega),if_neg (by omega),if_neg (by omega),if_neg (by omega)]
 have s1:own_sS m1 [(0,0,g.n,k)]:=by
  refine ⟨⟨?_,?_,?_,?_⟩,trivial⟩
  ·rw [← hm1]; rfl
  ·rw [← hm1]; rfl
  ·rw [← hm1]; rfl
  ·rw [← hm1]; rfl
 have p1:m1 0 27=1:=by rw [← hm1]; rfl
 refine Ok.bind (P:=fun e=>(∀ z,e=Sum.inl z→False)∧(∀ z,e=Sum.inr (Sum.inl z)→False)∧(∀ z,e=Sum.inr (Sum.inr (Sum.inl z))→∀ (K:Nat) x,¬ (K=0∧(x=27∨x=28))→¬ (12≤K∧K≤22)→z K x=m K x)∧∀ p,e=Sum.inr (Sum.inr (Sum.inr p))→(∀ (K:Nat) x,¬ (K=0∧(x=27∨x=28))→¬ (12≤K∧K≤22)→p.2 K x=m K x)∧∃ E:List own_Nd,E.length≤64∧p.1=(E.length:Int)∧own_Ar p.2 12 E∧(p.2 0 27≤0→own_TR g X 0 0 g.n k E)) ?_ fun e he=>?_
 ·refine Ok.loop (fun s=>∃ (E:List own_Nd) (S:List own_It),s.1=(E.length:Int)∧s.2.1=(E.length:Int)∧E.length+S.length≤64∧(own_Ar s.2.2 12 E∧own_sS s.2.2 S∧s.2.2 0 27=(S.length:Int))∧(∀ a,a∈S→own_iv g X a)∧(∀ N,own_TS g X S N→own_TR g X 0 0 g.n k (E ++ N))∧∀ (K:Nat) x,¬ (K=0∧(x=27∨x=28))→¬ (12≤K∧K≤22)→s.2.2 K x=m K x) (fun s=>(65 - s.2.1).toNat) ⟨[],[(0,0,g.n,k)],rfl,rfl,(by show 0+1≤64; omega),⟨(fun x nd e=>by cases e),s1,p1⟩,fun a ha=>by rw [List.mem_singleton.mp ha]; exact ⟨(by show (0:Nat)<4; decide),⟨Nat.zero_le _,Nat.le_refl _⟩,hk,hX⟩,fun N hN=>?_,fun K x a b=>o1 K x (by omega) (by omega)⟩ (by dsimp only; omega) ?_
  ·obtain ⟨N1,N2,e,t,z⟩:=hN
   have:N2=[]:=z
   rw [e,this,List.append_nil]
   exact t
  ·rintro ⟨_,_,y⟩ ⟨E,S,rfl,rfl,hl,⟨hA,hS,hs⟩,hv,hQ,fr⟩
   dsimp only at hA hS hs fr
   unfold f_buildTree_l21
   dsimp only
   have My:own_MG g y:=own_MGt (fun K x u=>fr K x (by omega) (by omega)) M
   have Ty:own_TC g y X:=own_TCt (fun K x u=>fr K x (by omega) (by omega)) T
   have fin:(∀ (K:Nat) x,¬ (K=0∧(x=27∨x=28))→¬ (12≤K∧K≤22)→y K x=m K x)∧∃ E':List own_Nd,E'.length≤64∧(E.length:Int)=(E'.length:Int)∧own_Ar y 12 E'∧(y 0 27≤0→own_TR g X 0 0 g.n k E'):=by
    refine ⟨fr,E,by omega,rfl,hA,fun h=>?_⟩
    have:S=[]:=by
     cases S with
     | nil=>rfl
     | cons a S =>
      have ln:((a :: S).length:Int)=(S.length:Int)+1:=rfl
      omega
    rw [this] at hQ
    have:=hQ [] rfl
    rw [List.append_nil] at this
    exact this
   by_cases c:(E.length:Int)<64
   ·rw [if_pos c]
    cases S with
    | nil =>
     have z0:y 0 27=0:=hs
     rw [if_neg (by omega)]
     exact Ok.ret ⟨fun z hz=>(by cases hz),fun z hz=>(by cases hz),fun z hz=>(by cases hz),fun p hp=>by cases hp; exact fin⟩
    | cons a S =>
     have ln:((a :: S).length:Int)=(S.length:Int)+1:=rfl
     have ln':(a :: S).length=S.length+1:=rfl
     obtain ⟨⟨a1,a2,a3,a4⟩,hS'⟩:=hS
     obtain ⟨v1,⟨v2,v3⟩,v4,v5⟩:=hv a (List.mem_cons_self ..)
     rw [if_pos (by omega),hs,w32_id (z:=((a :: S).length:Int) - 1) (by omega),show ((a :: S).length:Int) - 1=(S.length:Int) by omega,if_pos (by omega),if_pos (by omega),if_pos (by omega),if_pos (by omega),a1,a2,a3,a4]
     generalize hy1:sto y 0 27 (S.length:Int)=y1
     have oy1:∀ (K:Nat) x,¬ (K=0∧x=27)→y1 K x=y K x:=fun K x u=>by rw [← hy1]; unfold sto; rw [if_neg u]
     have y27:y1 0 27=(S.length:Int):=by rw [← hy1,sto_at]
     have M1:own_MG g y1:=own_MGt (fun K x u=>oy1 K x (by omega)) My
     have T1:own_TC g y1 X:=own_TCt (fun K x u=>oy1 K x (by omega)) Ty
     obtain ⟨r,kk,c1,c2,c3,c4,c5,c6⟩:=own_chS F M1 T1 a.1 a.2.1 a.2.2.1 a.2.2.2 v1 v2 v3 v4 v5
     rw [c6,Option.bind_some]
     dsimp only
     rw [if_neg (by omega),if_pos (by omega),if_pos (by omega),if_pos (by omega),sto_at]
     generalize hy2:sto (sto (sto (sto y1 0 28 (kk:Int)) 12 (E.length:Int) (r:Int)) 13 (E.length:Int) (a.2.1:Int)) 14 (E.length:Int) (a.2.2.1:Int)=y2
     have oy2:∀ (K:Nat) x,¬ (K=0∧x=28)→¬ (12≤K∧K≤14∧x=(E.length:Int))→y2 K x=y1 K x:=fun K x u v=>by
      rw [← hy2]
      simp only [sto]
      rw [if_neg (by omega),if_neg (by omega),if_neg (by omega),if_neg (by omega)]
     have b12:y2 12 (E.length:Int)=(r:Int):=by rw [← hy2]; simp [sto]
     have b13:y2 13 (E.length:Int)=(a.2.1:Int):=by rw [← hy2]; simp [sto]
     have b14:y2 14 (E.length:Int)=(a.2.2.1:Int):=by rw [← hy2]; simp [sto]
     have M2:own_MG g y2:=own_MGt (fun K x u=>oy2 K x (by omega) (by omega)) M1
     have T2:own_TC g y2 X:=own_TCt (fun K x u=>oy2 K x (by omega) (by omega)) T1
     obtain ⟨qs,ks,z,d1,d2,d3,d4,d5,d6⟩:=own_scC F r a.2.1 a.2.2.1 kk c1 M2 T2 v2 v3 c4 (by omega)
     rw [d4,Option.bind_some]
     dsimp only
     rw [if_neg (by decide),w32_id (z:=(E.length:Int)+1) (by omega),show (E.length:Int)+1=((E.length+1:Nat):Int) from rfl]
     have Mz:own_MG g z:=own_MGt (fun K x u=>d6 K x (by omega) (by omega)) M2
     refine Ok.bind (own_pcS F Mz c1 (qs:=qs) (ks:=ks) S (E.length+1) (by omega) d5 (own_sSt S (fun K x u v w=>by rw [d6 K x (by omega) (by omega),oy2 K x (by omega) (by omega),oy1 K x (by omega)]) hS') (by rw [d6 0 27 (by omega) (by omega),oy2 0 27 (by omega) (by omega),y27]) (by omega)) ?_
     rintro ⟨w,z2⟩ ⟨pf,pd⟩
     dsimp only at pf pd ⊢
     have fr2:∀ (K:Nat) x,¬ (K=0∧(x=27∨x=28))→¬ (12≤K∧K≤22)→z2 K x=m K x:=fun K x u v=>by
      rw [pf K x (by omega) (by omega),d6 K x (by omega) (by omega),oy2 K x (by omega) (by omega),oy1 K x (by omega),fr K x u v]
     rcases pd with rfl | ⟨rfl,pS,ps,p64⟩
     ·rw [if_pos rfl]
      exact Ok.ret ⟨fun z hz=>(by cases hz),fun z hz=>(by cases hz),fun z hz=>by cases hz; exact fr2,fun p hp=>by cases hp⟩
     ·rw [if_neg (by decide)]
      have el:(E ++ [(r,a.2.1,a.2.2.1)]).length=E.length+1:=by rw [List.length_append]; rfl
      refine Ok.ret ⟨⟨E ++ [(r,a.2.1,a.2.2.1)],own_cI g r qs ks (g.len r) 0 ++ S,by dsimp only; omega,by dsimp only; omega,by omega,⟨fun x nd e=>?_,pS,ps⟩,fun b hb=>?_,fun N hN=>?_,fr2⟩,by dsimp only; omega⟩
      ·dsimp only
       have zz:∀ K:Nat,12≤K→K≤14→z2 K (x:Int)=y2 K (x:Int):=fun K u v=>by rw [pf K _ (by omega) (by omega),d6 K _ (by omega) (by omega)]
       rw [zz 12 (by omega) (by omega),zz (12+1) (by omega) (by omega),zz (12+2) (by omega) (by omega)]
       by_cases cx:x<E.length
       ·rw [List.getElem?_append_left cx] at e
        have:=hA x nd e
        rw [oy2 12 _ (by omega) (by omega),oy2 (12+1) _ (by omega) (by omega),oy2 (12+2) _ (by omega) (by omega),oy1 12 _ (by omega),oy1 (12+1) _ (by omega),oy1 (12+2) _ (by omega)]
        exact this
       ·have hx:=(List.getElem?_eq_some_iff.mp e).1
        have:x=E.length:=by omega
        subst this
        rw [List.getElem?_append_right (Nat.le_refl _),Nat.sub_self] at e
        have:nd=(r,a.2.1,a.2.2.1):=(Option.some.inj e).symm
        rw [this]
        exact ⟨b12,b13,b14⟩
      ·rcases List.mem_append.mp hb with hb | hb
       ·exact own_cIv d2 (by rw [d1]; exact v3) (g.len r) 0 (Nat.zero_add _) b hb
       ·exact hv b (List.mem_cons_of_mem _ hb)
      ·obtain ⟨N1,N2,e1,f1,s1⟩:=own_cIt S (g.len r) 0 N hN
       have tr:own_TR g X a.1 a.2.1 a.2.2.1 a.2.2.2 ((r,a.2.1,a.2.2.1) :: N1):=by
        have:=own_TRm r a.2.1 a.2.2.1 a.2.2.2 qs ks N1 ⟨c1,d1,d2,by rw [c2,← d3]; exact c3⟩ f1
        rw [c2] at this
        exact this
       have:=hQ ((r,a.2.1,a.2.2.1) :: N1 ++ N2) ⟨_,N2,rfl,tr,s1⟩
       rw [e1,List.append_assoc]
       exact this
   ·rw [if_neg c]
    exact Ok.ret ⟨fun z hz=>(by cases hz),fun z hz=>(by cases hz),fun z hz=>(by cases hz),fun p hp=>by cases hp; exact fin⟩
 ·obtain ⟨h1,h2,h3,h4⟩:=he
  rcases e with z | z | z | p
  ·exact absurd rfl fun h=>h1 z h
  ·exact absurd rfl fun h=>h2 z h
  ·exact Ok.ret ⟨h3 z rfl,Or.inl rfl⟩
  ·obtain ⟨fr,E,e1,e2,e3,e4⟩:=h4 p rfl
   obtain ⟨b,z⟩:=p
   dsimp only at fr e2 e3 e4 ⊢
   by_cases c:0<z 0 27
   ·rw [if_pos c]
    exact Ok.ret ⟨fr,Or.inl rfl⟩
   ·rw [if_neg c]
    exact Ok.ret ⟨fr,Or.inr ⟨E,e4 (by omega),e1,e2,e3⟩⟩
/- what holds of a parser between the law's calls -/
def own_PJ (g:own_Gm) (X:Nat→Nat→Nat→Nat) (m:OMem):Prop:=(own_MG g m)∧(own_TC g m X)∧(m 0 24=1)∧(m 0 25=(X 0 0 g.n:Int)∧X 0 0 g.n<1000000)
theorem own_PJ.j1 {g:own_Gm} {X:Nat→Nat→Nat→Nat} {m:OMem} (h:own_PJ g X m):own_MG g m:=h.1
theorem own_PJ.j4 {g:own_Gm} {X:Nat→Nat→Nat→Nat} {m:OMem} (h:own_PJ g X m):m 0 25=(X 0 0 g.n:Int)∧X 0 0 g.n<1000000:=h.2.2.2
theorem own_slS {g:own_Gm} (F:own_wf g) {X:Nat→Nat→Nat→Nat} {m:OMem} (J:own_PJ g X m) (k:Nat) (hk:k<X 0 0 g.n):Ok (f_selectTree (k:Int) m) (fun r=>own_PJ g X r.2∧(r.1<1∨∃ E:List own_Nd,own_TR g X 0 0 g.n k E∧E.length≤64∧r.1=(E.length:Int)∧r.2 0 26=(E.length:Int)∧own_Ar r.2 9 E)):=by
 obtain ⟨j1,j2,j3,j4,j5⟩:=J
 have tr:∀ z:OMem,(∀ (K:Nat) x,(K=0∧22≤x∧x≤25)∨(1≤K∧K≤6)→z K x=m K x)→own_PJ g X z:=fun z h=>⟨own_MGt (fun K x u=>h K x (by omega)) j1,own_TCt (fun K x u=>h K x (by omega)) j2,by rw [h 0 24 (by omega)]; exact j3,by rw [h 0 25 (by omega)]; exact j4,j5⟩
 unfold f_selectTree f_selectTree_b34 f_selectTree_b57 f_selectTree_b113
 rw [if_neg (by omega),if_pos (by omega),if_neg (by omega),if_pos (by omega)]
 refine Ok.bind (own_btS F j1 j2 k hk j5) ?_
 rintro ⟨r,z⟩ ⟨fr,hd⟩
 dsimp only at fr hd ⊢
 rcases hd with rfl | ⟨E,e1,e2,rfl,e4⟩
 ·rw [if_neg (by decide),if_pos (by decide)]
  exact Ok.ret ⟨tr z fun K x u=>fr K x (by omega) (by omega),Or.inl (by dsimp only; decide)⟩
 ·have pos:0<E.length:=by
   obtain ⟨⟨r,N',e,-,-⟩,-,-⟩:=own_TRg e1
   rw [e]; exact Nat.succ_pos _
  rw [if_pos (by omega)]
  refine Ok.bind (P:=fun y=>own_Ar y 9 E∧∀ (K:Nat) x,¬ (9≤K∧K≤11)→y K x=z K x) ?_ fun y hy=>?_
  ·refine Ok.loop (fun s=>∃ x:Nat,s.1=(x:Int)∧x≤E.length∧(∀ u:Nat,u<x→∀ nd,E[u]?=some nd→s.2 9 (u:Int)=(nd.1:Int)∧s.2 10 (u:Int)=(nd.2.1:Int)∧s.2 11 (u:Int)=(nd.2.2:Int))∧∀ (K:Nat) x,¬ (9≤K∧K≤11)→s.2 K x=z K x) (fun s=>(65 - s.1).toNat) ⟨0,rfl,Nat.zero_le _,fun u h=>by omega,fun _ _ _=>rfl⟩ (by dsimp only; omega) ?_
   rintro ⟨_,y⟩ ⟨x,rfl,hx,h1,h2⟩
   dsimp only at h1 h2
   unfold f_selectTree_l60
   dsimp only
   by_cases c:(x:Int)<(E.length:Int)
   ·have g64:0≤(x:Int)∧(x:Int)<64:=by omega
    rw [if_pos c,if_pos (by omega),if_pos g64,if_pos g64,if_pos g64,if_pos g64,if_pos g64,if_pos g64,w32_id (z:=(x:Int)+1) (by omega)]
    refine Ok.ret ⟨⟨x+1,rfl,by omega,fun u hu nd e=>?_,fun K q w=>?_⟩,by dsimp only; omega⟩
    ·dsimp only
     by_cases ux:u=x
     ·subst ux
      obtain ⟨b1,b2,b3⟩:=e4 u nd e
      simp only [sto]
      simp only [if_pos,if_neg,show ¬ ((9:Nat)=10∧(u:Int)=(u:Int)) by omega,show ¬ ((9:Nat)=11∧(u:Int)=(u:Int)) by omega,show ¬ ((10:Nat)=11∧(u:Int)=(u:Int)) by omega,if_false,and_self,if_true]
      rw [h2 12 _ (by omega),h2 13 _ (by omega),h2 14 _ (by omega)]
      exact ⟨b1,b2,b3⟩
     ·have o:∀ K:Nat,sto (sto (sto y 9 (x:Int) (y 12 (x:Int))) 10 (x:Int) (y 13 (x:Int))) 11 (x:Int) (y 14 (x:Int)) K (u:Int)=y K (u:Int):=fun K=>by
       simp only [sto]
       rw [if_neg (by omega),if_neg (by omega),if_neg (by omega)]
      rw [o,o,o]
      exact h1 u (by omega) nd e
    ·dsimp only
     simp only [sto]
     rw [if_neg (by omega),if_neg (by omega),if_neg (by omega)]
     exact h2 K q w
   ·rw [if_neg c]
    refine Ok.ret ⟨fun u nd e=>?_,h2⟩
    have hu:=(List.getElem?_eq_some_iff.mp e).1
    exact h1 u (by omega) nd e
  ·obtain ⟨y1,y2⟩:=hy
   refine Ok.ret ?_
   dsimp only
   have o:∀ (K:Nat) x,¬ (K=0∧x=26)→sto y 0 26 (E.length:Int) K x=y K x:=fun K x u=>by unfold sto; rw [if_neg u]
   exact ⟨tr _ fun K x u=>by rw [o K x (by omega),y2 K x (by omega),fr K x (by omega) (by omega)],Or.inr ⟨E,e1,e2,rfl,sto_at _ _ _ _,own_Art (fun K x u v w=>o K x (by omega)) y1⟩⟩
def own_TT (g:own_Gm) (m:OMem) (E:List own_Nd):Prop:=(own_MG g m)∧(m 0 26=(E.length:Int))∧(E.length≤64)∧(own_Ar m 9 E)∧(∀ (x:Nat) (nd:own_Nd),E[x]?=some nd→nd.1<g.R)
theorem own_TT.t1 {g:own_Gm} {m:OMem} {E:List own_Nd} (h:own_TT g m E):own_MG g m:=h.1
theorem own_TT.t2 {g:own_Gm} {m:OMem} {E:List own_Nd} (h:own_TT g m E):m 0 26=(E.length:Int):=h.2.1
theorem own_TT.t3 {g:own_Gm} {m:OMem} {E:List own_Nd} (h:own_TT g m E):E.length≤64:=h.2.2.1
theorem own_TT.t4 {g:own_Gm} {m:OMem} {E:List own_Nd} (h:own_TT g m E):own_Ar m 9 E:=h.2.2.2.1
theorem own_TT.t5 {g:own_Gm} {m:OMem} {E:List own_Nd} (h:own_TT g m E):∀ (x:Nat) (nd:own_Nd),E[x]?=some nd→nd.1<g.R:=h.2.2.2.2
theorem own_nex {m:OMem} {E:List own_Nd} (h:m 0 26=(E.length:Int)) (h64:E.length≤64) (x:Nat) (hx:x<E.length):f_nodeExists (x:Int) m=some 1:=by
 unfold f_nodeExists f_nodeExists_b23 f_nodeExists_b22
 rw [if_neg (by omega),h,if_pos (by omega),if_pos (by omega)]
 rfl
theorem own_tgt {g:own_Gm} {m:OMem} {E:List own_Nd} (T:own_TT g m E) (x:Nat) (nd:own_Nd) (e:E[x]?=some nd):f_treeRule (x:Int) m=some (nd.1:Int)∧f_treeStart (x:Int) m=some (nd.2.1:Int)∧f_treeEnd (x:Int) m=some (nd.2.2:Int):=by
 have hx:=(List.getElem?_eq_some_iff.mp e).1
 have t3:=T.t3
 obtain ⟨a,b,c⟩:=T.t4 x nd e
 have n:=own_nex T.t2 t3 x hx
 refine ⟨?_,?_,?_⟩
 ·unfold f_treeRule; rw [n,Option.bind_some,if_neg (by decide),if_pos (by omega),a]
 ·unfold f_treeStart; rw [n,Option.bind_some,if_neg (by decide),if_pos (by omega)]; exact congrArg some b
 ·unfold f_treeEnd; rw [n,Option.bind_some,if_neg (by decide),if_pos (by omega)]; exact congrArg some c
theorem own_rgt {g:own_Gm} (F:own_wf g) {m:OMem} (M:own_MG g m) (r:Nat) (hr:r<g.R):f_ruleLhs (r:Int) m=some (g.lhs r:Int)∧f_ruleLength (r:Int) m=some (g.len r:Int)∧∀ q:Nat,q<g.len r→f_ruleSymbol (r:Int) (q:Int) m=some (g.sym r q:Int):=by
 have R10:=F.1.1
 obtain ⟨f1,f2,f3⟩:=F.2.1 r hr
 obtain ⟨m1,m2,m3⟩:=M.2.1 r hr
 have n:=own_rex F M r hr
 refine ⟨?_,?_,fun q hq=>?_⟩
 ·unfold f_ruleLhs; rw [n,Option.bind_some,if_neg (by decide),if_pos (by omega),m1]
 ·unfold f_ruleLength; rw [n,Option.bind_some,if_neg (by decide),if_pos (by omega),m2]
 ·unfold f_ruleSymbol f_ruleSymbol_b29
  rw [n,Option.bind_some,if_neg (by decide),if_neg (by omega),if_pos (by omega),m2,if_pos (by omega),if_pos (by omega),w32_id (z:=(r:Int)*3) (by omega),w32_id (z:=(r:Int)*3+(q:Int)) (by omega),if_pos (by omega),show (r:Int)*3+(q:Int)=((r*3+q:Nat):Int) by omega,m3 q hq]
theorem own_igt {g:own_Gm} (F:own_wf g) {m:OMem} (M:own_MG g m) (p:Nat) (hp:p<g.n):f_inputToken (p:Int) m=some (g.tok p:Int):=by
 have n8:=F.1.2
 unfold f_inputToken f_inputToken_b18
 rw [if_neg (by omega),M.1.2,if_pos (by omega),if_pos (by omega),if_pos (by omega),M.2.2 p hp]
theorem own_drp {E L:List own_Nd} {nd:own_Nd} {z:Nat} (h:E.drop z=nd :: L):E[z]?=some nd∧E.drop (z+1)=L:=by
 constructor
 ·have:=congrArg (fun l=>l[0]?) h
  simp only [List.getElem?_drop,Nat.add_zero] at this
  exact this
 ·have:=congrArg List.tail h
  rw [List.tail_drop] at this
  exact this
theorem own_afb {g:own_Gm} {r:Nat}:∀ d t,own_af g r d t≤d
 | 0,_=>Nat.le_refl _
 | d+1,t=>by
  have:=own_afb (g:=g) (r:=r) d (t+1)
  show (if g.sym r t<4 then 1 else 0)+own_af g r d (t+1)≤d+1
  split <;> omega
theorem own_918 {sl:Int} {sc:Int→Int} {x3 x5 x7 x9 x11 x12 x13 x16 x17 x18 x19 x20 x21 x23 x24 x25:Int} {g:own_Gm} (F:own_wf g) {m0 m1:OMem} (M:own_MG g m0) (r:Nat) (hr:r<g.R) {x22 x26 x28 x30 x31 x32:Int}:Ok (lp (l_law_l918 sl sc m0 m1 x3 x5 x7 x9 x11 x12 x13 x16 x17 x18 x19 x20 x21 x22 x23 x24 x25 x26 x28 x30 x31 x32 (r:Int) (g.len r:Int)) NN (0,0)) (fun v=>v=(own_af g r (g.len r) 0:Int)):=by
 obtain ⟨f1,f2,f3⟩:=F.2.1 r hr
 obtain ⟨-,-,g3⟩:=own_rgt F M r hr
 refine Ok.loop (fun s=>∃ t a:Nat,s.2=(t:Int)∧t≤g.len r∧s.1=(a:Int)∧a≤t∧a+own_af g r (g.len r - t) t=own_af g r (g.len r) 0) (fun s=>(5 - s.2).toNat) ⟨0,0,rfl,Nat.zero_le _,rfl,Nat.le_refl _,by rw [Nat.sub_zero,Nat.zero_add]⟩ (by dsimp only; omega) ?_
 rintro ⟨_,_⟩ ⟨t,a,rfl,ht,rfl,ha,e⟩
 unfold l_law_l918 l_law_b955
 dsimp only
 by_cases c:(t:Int)<(g.len r:Int)
 ·have ea:own_af g r (g.len r - t) t=(if g.sym r t<4 then 1 else 0)+own_af g r (g.len r - (t+1)) (t+1):=by
   rw [show g.len r - t=(g.len r - (t+1))+1 by omega]
   rfl
  rw [if_pos c,if_pos (by omega),g3 t (by omega),Option.bind_some,if_neg (by omega),w32_id (z:=(t:Int)+1) (by omega),w32_id (z:=(a:Int)+1) (by omega)]
  by_cases d:g.sym r t<4
  ·rw [if_pos (by omega)]
   rw [if_pos d] at ea
   exact Ok.ret ⟨⟨t+1,a+1,rfl,by omega,rfl,by omega,by omega⟩,by dsimp only; omega⟩
  ·rw [if_neg (by omega)]
   rw [if_neg d] at ea
   exact Ok.ret ⟨⟨t+1,a,rfl,by omega,rfl,by omega,by omega⟩,by dsimp only; omega⟩
 ·rw [if_neg c]
  refine Ok.ret ?_
  have:t=g.len r:=by omega
  rw [this,Nat.sub_self] at e
  have z:own_af g r 0 (g.len r)=0:=rfl
  omega
theorem own_889 {sl:Int} {sc:Int→Int} {x3 x5 x7 x9 x11 x12 x13 x16 x17 x18 x19 x20 x21 x23 x24 x25:Int} {g:own_Gm} (F:own_wf g) {m0 m1:OMem} {E:List own_Nd} (T:own_TT g m0 E) {x26 x28 x32:Int} (c:Nat) (L2:List own_Nd) (h:own_sk g 1 (E.drop c)=some L2):Ok (lp (l_law_l889 sl sc m0 m1 x3 x5 x7 x9 x11 x12 x13 x16 x17 x18 x19 x20 x21 (E.length:Int) x23 x24 x25 x26 x28 x32) NN (1,(c:Int))) (fun e=>∃ z:Nat,e=Sum.inl (z:Int)∧z<E.length∧E.drop (z+1)=L2):=by
 have t3:=T.t3
 refine Ok.loop (fun s=>∃ k z:Nat,s.1=((k+1:Nat):Int)∧s.2=(z:Int)∧z≤E.length+c∧k≤3*z∧own_sk g (k+1) (E.drop z)=some L2) (fun s=>((E.length:Int)+c+1 - s.2).toNat) ⟨0,c,rfl,rfl,by omega,by omega,h⟩ ?_ ?_
 ·dsimp only
  by_cases cc:c≤64
  ·omega
  ·have:E.drop c=[]:=List.drop_eq_nil_of_le (by omega)
   rw [this] at h; cases h
 rintro ⟨_,_⟩ ⟨k,z,rfl,rfl,hz,hk,e⟩
 unfold l_law_l889 l_law_b961
 dsimp only
 cases hd:E.drop z with
 | nil=>rw [hd] at e; cases e
 | cons nd L1 =>
  obtain ⟨d1,d2⟩:=own_drp hd
  have hz':=(List.getElem?_eq_some_iff.mp d1).1
  have hr:=T.t5 z nd d1
  obtain ⟨f1,f2,f3⟩:=F.2.1 nd.1 hr
  have ab:=own_afb (g:=g) (r:=nd.1) (g.len nd.1) 0
  rw [hd,own_skc] at e
  rw [if_pos (by omega),(own_tgt T z nd d1).1,Option.bind_some,(own_rgt F T.t1 nd.1 hr).2.1,Option.bind_some]
  refine Ok.bind (own_918 F T.t1 nd.1 hr) fun v hv=>?_
  rw [hv,w32_id (z:=(own_af g nd.1 (g.len nd.1) 0:Int) - 1) (by omega),w32_id (z:=((k+1:Nat):Int)+((own_af g nd.1 (g.len nd.1) 0:Int) - 1)) (by omega)]
  by_cases q:k+own_af g nd.1 (g.len nd.1) 0=0
  ·rw [if_pos (by omega)]
   rw [q,own_sk0] at e
   exact Ok.ret ⟨z,rfl,hz',d2.trans (Option.some.inj e)⟩
  ·rw [if_neg (by omega),w32_id (z:=(z:Int)+1) (by omega)]
   refine Ok.ret ⟨⟨k+own_af g nd.1 (g.len nd.1) 0 - 1,z+1,by dsimp only; omega,rfl,by omega,by omega,?_⟩,by dsimp only; omega⟩
   rw [d2,show k+own_af g nd.1 (g.len nd.1) 0 - 1+1=k+own_af g nd.1 (g.len nd.1) 0 by omega]
   exact e
theorem own_788 {sl:Int} {sc:Int→Int} {x3 x5 x7 x9 x11 x12 x13 x16 x17 x18 x19 x20 x21 x23 x24 x25:Int} {g:own_Gm} (F:own_wf g) {m0 m1:OMem} {E:List own_Nd} (T:own_TT g m0 E) (s p c q rc jc:Nat) (L1 L2:List own_Nd) (hs:s<4) (hq:q≤3) (hd:E.drop c=(rc,p,jc) :: L1) (hl:g.lhs rc=s) (h:own_sk g 1 (E.drop c)=some L2):Ok (l_law_b788 sl sc x3 x5 x7 x9 x11 x12 x13 x16 x17 x18 x19 x20 x21 (E.length:Int) x23 x24 x25 (p:Int) (c:Int) (q:Int) (s:Int) m0 m1) (fun x=>∃ c':Nat,x=Sum.inl ((jc:Int),(c':Int),((q+1:Nat):Int))∧c'≤E.length∧E.drop c'=L2):=by
 have t3:=T.t3
 obtain ⟨d1,d2⟩:=own_drp hd
 have hc:=(List.getElem?_eq_some_iff.mp d1).1
 obtain ⟨a1,a2,a3⟩:=own_tgt T c _ d1
 have hr:=T.t5 c _ d1
 unfold l_law_b788
 rw [if_pos (by omega),if_neg (by omega),if_pos (by omega),a1,Option.bind_some,(own_rgt F T.t1 rc hr).1,Option.bind_some,if_pos (by omega),a2,Option.bind_some,if_pos rfl,a3,Option.bind_some]
 refine Ok.bind (own_889 F T c L2 h) fun e he=>?_
 obtain ⟨z,rfl,hz,hz2⟩:=he
 dsimp only
 unfold l_law_b987 l_law_b1000
 rw [if_neg (by decide),w32_id (z:=(z:Int)+1) (by omega),w32_id (z:=(q:Int)+1) (by omega)]
 exact Ok.ret ⟨z+1,rfl,by omega,hz2⟩
theorem own_764 {sl:Int} {sc:Int→Int} {x3 x5 x7 x9 x11 x12 x13 x16 x17 x18 x19 x20 x21 x23:Int} {g:own_Gm} (F:own_wf g) {m0 m1:OMem} {E:List own_Nd} (T:own_TT g m0 E) (hx16:x16=(g.n:Int)) (hx23:0≤x23) (r p0 j c0:Nat) (hr:r<g.R) (hc0:c0≤E.length) (h:own_ck g r (g.len r) 0 p0 (E.drop c0) j):Ok (lp (l_law_l764 sl sc m0 m1 x3 x5 x7 x9 x11 x12 x13 x16 x17 x18 x19 x20 x21 (E.length:Int) x23 (r:Int) (g.len r:Int)) NN ((p0:Int),(c0:Int),0)) (fun e=>∃ c:Int,e=Sum.inr (Sum.inr (Sum.inr (Sum.inr ((j:Int),c))))):=by
 have n8:=F.1.2
 have t3:=T.t3
 obtain ⟨f1,f2,f3⟩:=F.2.1 r hr
 obtain ⟨-,-,g3⟩:=own_rgt F T.t1 r hr
 refine Ok.loop (fun s=>∃ p c t:Nat,s.1=(p:Int)∧s.2.1=(c:Int)∧s.2.2=(t:Int)∧t≤g.len r∧c≤E.length∧own_ck g r (g.len r - t) t p (E.drop c) j) (fun s=>(5 - s.2.2).toNat) ⟨p0,c0,0,rfl,rfl,rfl,Nat.zero_le _,hc0,by rw [Nat.sub_zero]; exact h⟩ (by dsimp only; omega) ?_
 rintro ⟨_,_,_⟩ ⟨p,c,t,rfl,rfl,rfl,ht,hc,hk⟩
 unfold l_law_l764
 dsimp only
 by_cases ct:(t:Int)<(g.len r:Int)
 ·rw [show g.len r - t=(g.len r - (t+1))+1 by omega] at hk
  obtain ⟨k1,k2⟩:=hk
  rw [if_pos ct,if_neg (by omega),g3 t (by omega),Option.bind_some]
  by_cases s4:g.sym r t<4
  ·obtain ⟨rc,jc,L1,L2,e1,e2,e3,e4,e5⟩:=k1 s4
   refine Ok.mono (own_788 F T (g.sym r t) p c t rc jc L1 L2 s4 (by omega) e1 e3 e4) fun x hx=>?_
   obtain ⟨c',rfl,hc',hd'⟩:=hx
   exact ⟨⟨jc,c',t+1,rfl,rfl,rfl,by omega,hc',by rw [hd']; exact e5⟩,by dsimp only; omega⟩
  ·obtain ⟨⟨q1,q2⟩,q3⟩:=k2 s4
   unfold l_law_b788 l_law_b1000
   rw [if_neg (by omega),if_neg (by omega),if_pos (by omega),own_igt F T.t1 p q1,Option.bind_some,w32_id (z:=(g.sym r t:Int) - 4) (by have:=f3 t (by omega); omega),if_pos (by omega),w32_id (z:=(p:Int)+1) (by omega),w32_id (z:=(t:Int)+1) (by omega)]
   exact Ok.ret ⟨⟨p+1,c,t+1,rfl,rfl,rfl,by omega,hc,q3⟩,by dsimp only; omega⟩
 ·rw [if_neg ct]
  rw [show g.len r - t=0 by omega] at hk
  have:p=j:=hk
  rw [this]
  exact Ok.ret ⟨_,rfl⟩
/- every node passes -/
theorem own_684 {sl:Int} {sc:Int→Int} {x3 x5 x7 x9 x11 x12 x13 x16 x17 x18 x19 x20 x21:Int} {g:own_Gm} (F:own_wf g) {X:Nat→Nat→Nat→Nat} {m0 m1:OMem} {E:List own_Nd} {k:Nat} (T:own_TT g m0 E) (R:own_TR g X 0 0 g.n k E) (hx16:x16=(g.n:Int)):Ok (lp (l_law_l684 sl sc m0 m1 x3 x5 x7 x9 x11 x12 x13 x16 x17 x18 x19 x20 x21 (E.length:Int)) NN (-1)) (fun e=>e=Sum.inr (Sum.inr (Sum.inr (Sum.inr (Sum.inr (Sum.inr (Sum.inr ()))))))):=by
 have t3:=T.t3
 obtain ⟨⟨r0,N0,e0,hr0,hl0⟩,sk0,nd0⟩:=own_TRg R
 refine Ok.loop (fun s=>-1≤s∧s≤(E.length:Int)) (fun s=>((E.length:Int)+1 - s).toNat) ⟨by omega,by omega⟩ (by omega) ?_
 intro x hx
 unfold l_law_l684
 by_cases c:x<(E.length:Int)
 ·rw [if_pos c]
  unfold l_law_b706 l_law_b723 l_law_b753 l_law_b1034
  by_cases cx:x<0
  ·have:x=-1:=by omega
   subst this
   rw [if_pos (show (-1:Int)<0 by decide),if_pos (show (-1:Int)<0 by decide),if_neg (by decide),if_neg (by decide),if_pos (show (-1:Int)<0 by decide),w32_id (z:=(-1:Int)+1) (by decide)]
   have s1:own_sk g 1 (E.drop 0)=some []:=by
    have:=sk0 0 []
    rw [List.append_nil,own_sk0] at this
    exact this
   refine Ok.bind (P:=fun e=>∃ p:Int,e=Sum.inr (Sum.inr (Sum.inr (Sum.inr (p,(E.length:Int)))))) ?_ ?_
   ·refine Ok.loop (fun s=>(s=(0,0,0))∨(s.2.1=(E.length:Int)∧s.2.2=1)) (fun s=>(1 - s.2.2).toNat) (Or.inl rfl) (by decide) ?_
    rintro ⟨p,ch,q⟩ hs
    unfold l_law_l764
    dsimp only
    rcases hs with hs | ⟨h1,h2⟩
    ·cases hs
     rw [if_pos (by decide),if_pos (by decide)]
     refine Ok.mono (own_788 F T 0 0 0 0 r0 g.n N0 [] (by decide) (by decide) e0 hl0 s1) fun x hx=>?_
     obtain ⟨c',rfl,hc',hd'⟩:=hx
     have:E.length≤c':=by
      have:=congrArg List.length hd'
      rw [List.length_drop] at this
      have z:([]:List own_Nd).length=0:=rfl
      omega
     exact ⟨Or.inr ⟨by dsimp only; omega,rfl⟩,by dsimp only; omega⟩
    ·dsimp only at h1 h2
     rw [h2,if_neg (by decide),h1]
     exact Ok.ret ⟨_,rfl⟩
   ·rintro e ⟨p,rfl⟩
    dsimp only
    rw [if_pos rfl]
    exact Ok.ret ⟨by omega,by omega⟩
  ·obtain ⟨y,rfl⟩:∃ y:Nat,x=(y:Int):=⟨x.toNat,by omega⟩
   have hy:y<E.length:=by omega
   obtain ⟨nd,hnd⟩:∃ nd,E[y]?=some nd:=⟨E[y],List.getElem?_eq_getElem hy⟩
   obtain ⟨r,i,j⟩:=nd
   have hr:=T.t5 y _ hnd
   obtain ⟨f1,f2,f3⟩:=F.2.1 r hr
   obtain ⟨a1,a2,a3⟩:=own_tgt T y _ hnd
   have sp:E=E.take y ++ (r,i,j) :: E.drop (y+1):=by
    have:E.drop y=(r,i,j) :: E.drop (y+1):=by
     rw [List.drop_eq_getElem_cons hy]
     have:=(List.getElem?_eq_some_iff.mp hnd).2
     rw [this]
    rw [← this,List.take_append_drop]
   obtain ⟨-,ck⟩:=nd0 [] _ r i j _ sp
   rw [List.append_nil] at ck
   rw [if_neg cx,a1,Option.bind_some,if_neg cx,(own_rgt F T.t1 r hr).2.1,Option.bind_some,if_neg (by omega),if_neg (by omega),if_neg cx,a2,Option.bind_some,w32_id (z:=(y:Int)+1) (by omega),show (y:Int)+1=((y+1:Nat):Int) from rfl]
   refine Ok.bind (own_764 F T hx16 (by omega) r i j (y+1) hr (by omega) ck) fun e he=>?_
   obtain ⟨c',rfl⟩:=he
   dsimp only
   rw [if_neg cx,a3,Option.bind_some,if_pos rfl]
   exact Ok.ret ⟨by omega,by omega⟩
 ·rw [if_neg c]; exact Ok.ret rfl
theorem own_lex {E E':List own_Nd} (hl:E'.length=E.length) (h:∀ u:Nat,u<E.length→E'[u]?=E[u]?):E'=E:=by
 refine List.ext_getElem? fun u=>?_
 by_cases c:u<E.length
 ·exact h u c
 ·rw [List.getElem?_eq_none (by omega),List.getElem?_eq_none (by omega)]
theorem own_1111 {sl:Int} {sc:Int→Int} {x3 x5 x7 x9 x11 x12 x13 x16 x17 x18 x19 x20 x21 x23:Int} {g:own_Gm} {m0 m1:OMem} {E E':List own_Nd} (T:own_TT g m0 E) (T':own_TT g m1 E') (hl:E'.length=E.length) (hne:E'≠E):Ok (lp (l_law_l1111 sl sc m0 m1 x3 x5 x7 x9 x11 x12 x13 x16 x17 x18 x19 x20 x21 (E.length:Int) x23) NN (0,0)) (fun v=>v=1):=by
 have t3:=T.t3
 refine Ok.loop (fun s=>∃ y:Nat,s.2=(y:Int)∧y≤E.length∧(s.1=1∨(s.1=0∧∀ u:Nat,u<y→E'[u]?=E[u]?))) (fun s=>((E.length:Int)+1 - s.2).toNat) ⟨0,rfl,Nat.zero_le _,Or.inr ⟨rfl,fun u h=>by omega⟩⟩ (by dsimp only; omega) ?_
 rintro ⟨d,_⟩ ⟨y,rfl,hy,hd⟩
 dsimp only at hd
 unfold l_law_l1111 l_law_b1168 l_law_b1173
 dsimp only
 by_cases c:(y:Int)<(E.length:Int)
 ·rw [if_pos c]
  rcases hd with rfl | ⟨rfl,hd⟩
  ·rw [if_neg (by decide)]; exact Ok.ret rfl
  ·have hy':y<E.length:=by omega
   have e1:E[y]?=some E[y]:=List.getElem?_eq_getElem hy'
   have e2:E'[y]?=some (E'[y]'(by omega)):=List.getElem?_eq_getElem (by omega)
   obtain ⟨a1,a2,a3⟩:=own_tgt T y _ e1
   obtain ⟨b1,b2,b3⟩:=own_tgt T' y _ e2
   generalize E[y]=p at *
   generalize (E'[y]'(by omega))=q at *
   rw [if_pos rfl,a1,Option.bind_some,b1,Option.bind_some,w32_id (z:=(y:Int)+1) (by omega)]
   by_cases c1:p.1=q.1
   ·rw [if_pos (by omega),a2,Option.bind_some,b2,Option.bind_some]
    by_cases c2:p.2.1=q.2.1
    ·rw [if_pos (by omega),a3,Option.bind_some,b3,Option.bind_some]
     by_cases c3:p.2.2=q.2.2
     ·rw [if_pos (by omega)]
      refine Ok.ret ⟨⟨y+1,rfl,by omega,Or.inr ⟨rfl,fun u hu=>?_⟩⟩,by dsimp only; omega⟩
      by_cases z:u=y
      ·rw [z,e1,e2]
       have:q=p:=Prod.ext c1.symm (Prod.ext c2.symm c3.symm)
       rw [this]
      ·exact hd u (by omega)
     ·rw [if_neg (by omega)]
      exact Ok.ret ⟨⟨y+1,rfl,by omega,Or.inl rfl⟩,by dsimp only; omega⟩
    ·rw [if_neg (by omega)]
     exact Ok.ret ⟨⟨y+1,rfl,by omega,Or.inl rfl⟩,by dsimp only; omega⟩
   ·rw [if_neg (by omega)]
    exact Ok.ret ⟨⟨y+1,rfl,by omega,Or.inl rfl⟩,by dsimp only; omega⟩
 ·rw [if_neg c]
  refine Ok.ret ?_
  rcases hd with rfl | ⟨rfl,hd⟩
  ·rfl
  ·exact absurd (own_lex hl fun u hu=>hd u (by omega)) hne
/- the second parser: parsed alike,or not at all -/
def own_PQ (g:own_Gm) (X:Nat→Nat→Nat→Nat) (m:OMem):Prop:=own_PJ g X m∨(own_MG g m∧m 0 24=0)
theorem own_slQ {g:own_Gm} (F:own_wf g) {X:Nat→Nat→Nat→Nat} {m:OMem} (J:own_PQ g X m) (k:Nat) (hk:k<X 0 0 g.n):Ok (f_selectTree (k:Int) m) (fun r=>own_PQ g X r.2∧(r.1<1∨∃ E:List own_Nd,own_TR g X 0 0 g.n k E∧E.length≤64∧r.1=(E.length:Int)∧r.2 0 26=(E.length:Int)∧own_Ar r.2 9 E)):=by
 rcases J with J | ⟨J,h⟩
 ·exact Ok.mono (own_slS F J k hk) fun r q=>⟨Or.inl q.1,q.2⟩
 ·unfold f_selectTree
  rw [if_pos h]
  exact Ok.ret ⟨Or.inr ⟨J,h⟩,Or.inl (by dsimp only; decide)⟩
theorem own_PQm {g:own_Gm} {X:Nat→Nat→Nat→Nat} {m:OMem} (J:own_PQ g X m):own_MG g m:=by
 rcases J with J | ⟨J,h⟩
 ·exact J.j1
 ·exact J
theorem own_TTm {g:own_Gm} {X:Nat→Nat→Nat→Nat} {m:OMem} {E:List own_Nd} {k:Nat} (M:own_MG g m) (R:own_TR g X 0 0 g.n k E) (h1:E.length≤64) (h2:m 0 26=(E.length:Int)) (h3:own_Ar m 9 E):own_TT g m E:=by
 refine ⟨M,h2,h1,h3,fun x nd e=>?_⟩
 have hx:=(List.getElem?_eq_some_iff.mp e).1
 obtain ⟨-,-,nd0⟩:=own_TRg R
 obtain ⟨r,i,j⟩:=nd
 have sp:E=E.take x ++ (r,i,j) :: E.drop (x+1):=by
  have:E.drop x=(r,i,j) :: E.drop (x+1):=by
   rw [List.drop_eq_getElem_cons hx]
   have:=(List.getElem?_eq_some_iff.mp e).2
   rw [this]
  rw [← this,List.take_append_drop]
 exact (nd0 [] _ r i j _ sp).1
theorem own_1043 {sl:Int} {sc:Int→Int} {x3 x5 x7 x9 x11 x12 x13 x16 x19 x20:Int} {g:own_Gm} (F:own_wf g) {X:Nat→Nat→Nat→Nat} {m0 m1:OMem} {E:List own_Nd} {k:Nat} (hX:X 0 0 g.n<1000000) (hk:k<X 0 0 g.n) (T:own_TT g m0 E) (R:own_TR g X 0 0 g.n k E) (lim:Nat) (hl:lim≤6∧lim≤X 0 0 g.n) (J:own_PQ g X m1):Ok (lp (l_law_l1043 sl sc m0 x3 x5 x7 x9 x11 x12 x13 x16 (X 0 0 g.n:Int) (lim:Int) x19 x20 (k:Int) (E.length:Int)) NN (0,m1)) (fun e=>∃ z,e=Sum.inr z∧own_PQ g X z):=by
 refine Ok.loop (fun s=>(0≤s.1∧s.1≤(lim:Int)+1)∧own_PQ g X s.2) (fun s=>((lim:Int)+1 - s.1).toNat) ⟨by dsimp only; omega,J⟩ (by dsimp only; omega) ?_
 rintro ⟨y,z⟩ ⟨hy,Jz⟩
 dsimp only at hy Jz
 have go:∀ kk:Nat,kk<X 0 0 g.n→y≤(lim:Int)→Ok (l_law_b1069 sl sc x3 x5 x7 x9 x11 x12 x13 x16 (X 0 0 g.n:Int) (lim:Int) x19 x20 (k:Int) (E.length:Int) y (kk:Int) m0 z) (fun x=>∃ z',x=Sum.inl (y+1,z')∧own_PQ g X z'):=fun kk hkk hyl=>by
  unfold l_law_b1069 l_law_b1188 l_law_b1181 l_law_b1188
  rw [w32_id (z:=y+1) (by omega)]
  by_cases c:(kk:Int)=(k:Int)
  ·rw [if_pos c]; exact Ok.ret ⟨z,rfl,Jz⟩
  ·rw [if_neg c]
   refine Ok.bind (own_slQ F Jz kk hkk) ?_
   rintro ⟨s2,w⟩ ⟨Jw,hd⟩
   dsimp only at Jw hd ⊢
   by_cases c1:s2<1
   ·rw [if_pos c1]; exact Ok.ret ⟨w,rfl,Jw⟩
   ·rw [if_neg c1]
    rcases hd with hd | ⟨E',e1,e2,rfl,e4,e5⟩
    ·exact absurd hd c1
    ·by_cases c2:(E'.length:Int)=(E.length:Int)
     ·rw [if_pos c2]
      have hne:E'≠E:=fun h=>by
       rw [h] at e1
       have:=own_TRu R e1
       omega
      refine Ok.bind (own_1111 T (own_TTm (own_PQm Jw) e1 e2 e4 e5) (by omega) hne) fun v hv=>?_
      rw [hv,if_neg (by decide)]
      exact Ok.ret ⟨w,rfl,Jw⟩
     ·rw [if_neg c2]; exact Ok.ret ⟨w,rfl,Jw⟩
 unfold l_law_l1043
 dsimp only
 by_cases c:(lim:Int)<y
 ·rw [if_pos c]; exact Ok.ret ⟨z,rfl,Jz⟩
 ·rw [if_neg c]
  by_cases c1:y<(lim:Int)
  ·rw [if_pos c1]
   obtain ⟨Y,rfl⟩:∃ Y:Nat,y=(Y:Int):=⟨y.toNat,by omega⟩
   refine Ok.mono (go Y (by omega) (by omega)) fun x hx=>?_
   obtain ⟨z',rfl,Jz'⟩:=hx
   exact ⟨⟨by dsimp only; omega,Jz'⟩,by dsimp only; omega⟩
  ·rw [if_neg c1,if_neg (by omega),w32_id (z:=(k:Int)+1) (by omega)]
   have e:=(own_dm (k+1) (X 0 0 g.n) (by omega) (by omega)).1
   rw [show (k:Int)+1=((k+1:Nat):Int) from rfl,e]
   refine Ok.mono (go ((k+1) % X 0 0 g.n) (Nat.mod_lt _ (by omega)) (by omega)) fun x hx=>?_
   obtain ⟨z',rfl,Jz'⟩:=hx
   exact ⟨⟨by dsimp only; omega,Jz'⟩,by dsimp only; omega⟩
theorem own_619 {sl:Int} {sc:Int→Int} {x3 x5 x7 x9 x11 x12 x13 x16 x19 x20:Int} {g:own_Gm} (F:own_wf g) {X:Nat→Nat→Nat→Nat} {m0 m1:OMem} (hx16:x16=(g.n:Int)) (hx20:0≤x20∧x20≤6) (k:Nat) (hk:k<X 0 0 g.n) (lim:Nat) (hl:lim≤6∧lim≤X 0 0 g.n) (J:own_PJ g X m0) (J1:own_PQ g X m1):Ok (l_law_b619 sl sc x3 x5 x7 x9 x11 x12 x13 x16 (X 0 0 g.n:Int) (lim:Int) x19 x20 (k:Int) m0 m1) (fun x=>∃ z w,x=Sum.inl (x20+1,z,w)∧own_PJ g X z∧own_PQ g X w):=by
 unfold l_law_b619 l_law_b1194
 rw [w32_id (z:=x20+1) (by omega)]
 refine Ok.bind (own_slS F J k hk) ?_
 rintro ⟨s,z⟩ ⟨Jz,hd⟩
 dsimp only at Jz hd ⊢
 by_cases c:s<1
 ·rw [if_pos c]; exact Ok.ret ⟨z,m1,rfl,Jz,J1⟩
 ·rw [if_neg c]
  rcases hd with hd | ⟨E,e1,e2,rfl,e4,e5⟩
  ·exact absurd hd c
  ·have T:=own_TTm Jz.j1 e1 e2 e4 e5
   obtain ⟨⟨r0,N0,h0,hr0,hl0⟩,-,-⟩:=own_TRg e1
   have g0:E[0]?=some (r0,0,g.n):=by rw [h0]; rfl
   obtain ⟨a1,a2,a3⟩:=own_tgt T 0 _ g0
   have ts:f_treeSize z=some (E.length:Int):=by unfold f_treeSize; rw [e4]
   have a1':f_treeRule 0 z=some (r0:Int):=a1
   have a2':f_treeStart 0 z=some ((0:Nat):Int):=a2
   have a3':f_treeEnd 0 z=some (g.n:Int):=a3
   rw [ts,Option.bind_some,if_pos rfl,a1',Option.bind_some,(own_rgt F Jz.j1 r0 hr0).1,Option.bind_some,if_pos (by omega),a2',Option.bind_some,if_pos (show ((0:Nat):Int)=0 from rfl),a3',Option.bind_some,if_pos hx16.symm]
   refine Ok.bind (own_684 F T e1 hx16) fun e he=>?_
   rw [he]
   dsimp only
   refine Ok.bind (own_1043 F Jz.j4.2 hk T e1 lim hl J1) ?_
   rintro e ⟨w,rfl,Jw⟩
   exact Ok.ret ⟨z,w,rfl,Jz,Jw⟩
theorem own_581 {sl:Int} {sc:Int→Int} {x3 x5 x7 x9 x11 x12 x13 x16:Int} {g:own_Gm} (F:own_wf g) {X:Nat→Nat→Nat→Nat} {m0 m1:OMem} (hx16:x16=(g.n:Int)) (kx:Nat) (hkx:kx<X 0 0 g.n) (lim:Nat) (hl:lim≤6∧lim≤X 0 0 g.n) (J:own_PJ g X m0) (J1:own_PQ g X m1):Ok (lp (l_law_l581 sl sc x3 x5 x7 x9 x11 x12 x13 x16 (X 0 0 g.n:Int) (lim:Int) (kx:Int)) NN (0,m0,m1)) (fun e=>∃ z w,(e=Sum.inl (z,w)∨e=Sum.inr (Sum.inr (Sum.inr (Sum.inr (Sum.inr (Sum.inr (Sum.inr (Sum.inr (Sum.inr (Sum.inr (Sum.inr (z,w))))))))))))∧own_PJ g X z∧own_PQ g X w):=by
 refine Ok.loop (fun s=>(0≤s.1∧s.1≤(lim:Int)+1)∧own_PJ g X s.2.1∧own_PQ g X s.2.2) (fun s=>((lim:Int)+1 - s.1).toNat) ⟨by dsimp only; omega,J,J1⟩ (by dsimp only; omega) ?_
 rintro ⟨t,z,w⟩ ⟨ht,Jz,Jw⟩
 dsimp only at ht Jz Jw
 unfold l_law_l581 l_law_b605
 dsimp only
 by_cases c:(lim:Int)<t
 ·rw [if_pos c]
  exact Ok.ret ⟨z,w,Or.inr rfl,Jz,Jw⟩
 ·rw [if_neg c]
  by_cases c1:t=(lim:Int)
  ·rw [if_pos c1]
   by_cases c2:(kx:Int)<(lim:Int)
   ·rw [if_pos c2]
    exact Ok.ret ⟨z,w,Or.inl rfl,Jz,Jw⟩
   ·rw [if_neg c2,if_neg (by omega)]
    refine Ok.mono (own_619 F hx16 (by omega) kx hkx lim hl Jz Jw) fun x hx=>?_
    obtain ⟨z',w',rfl,a,b⟩:=hx
    exact ⟨⟨by dsimp only; omega,a,b⟩,by dsimp only; omega⟩
  ·rw [if_neg c1,if_pos (by omega)]
   obtain ⟨Y,rfl⟩:∃ Y:Nat,t=(Y:Int):=⟨t.toNat,by omega⟩
   refine Ok.mono (own_619 F hx16 (by omega) Y (by omega) lim hl Jz Jw) fun x hx=>?_
   obtain ⟨z',w',rfl,a,b⟩:=hx
   exact ⟨⟨by dsimp only; omega,a,b⟩,by dsimp only; omega⟩
def own_RI (m:OMem) (r:Nat):Prop:=(m 0 22=(r:Int)∧m 0 23=0∧r≤10)∧∀ r':Nat,r'<r→(0≤m 1 (r':Int)∧m 1 (r':Int)<4)∧(0≤m 2 (r':Int)∧m 2 (r':Int)≤3)∧∀ q:Nat,(q:Int)<m 2 (r':Int)→0≤m 3 ((r'*3+q:Nat):Int)∧m 3 ((r'*3+q:Nat):Int)<8
theorem own_brS {m:OMem} {r:Nat} (I:own_RI m r) (hr:r<10) (a:Int) (ha:0≤a∧a<4):Ok (f_beginRule a m) (fun x=>own_RI x.2 (r+1)∧x.2 2 (r:Int)=0):=by
 obtain ⟨⟨i1,i2,i3⟩,i4⟩:=I
 unfold f_beginRule f_beginRule_b9 f_invalidate
 rw [i1,if_neg (by omega),if_pos (by omega),if_pos (by omega),if_pos (by omega),if_pos (by omega),w32_id (z:=(r:Int)+1) (by omega),Option.bind_some]
 refine Ok.ret ?_
 dsimp only
 generalize hz:sto (sto (sto (sto (sto m 1 (r:Int) a) 2 (r:Int) 0) 0 22 ((r:Int)+1)) 0 24 0) 0 26 0=z
 have o:∀ (K:Nat) x,¬ (K=0∧(x=22∨x=24∨x=26))→¬ ((K=1∨K=2)∧x=(r:Int))→z K x=m K x:=fun K x u v=>by
  rw [← hz]
  simp only [sto]
  rw [if_neg (by omega),if_neg (by omega),if_neg (by omega),if_neg (by omega),if_neg (by omega)]
 have z22:z 0 22=(r:Int)+1:=by rw [← hz]; simp [sto]
 have z1:z 1 (r:Int)=a:=by rw [← hz]; simp [sto]
 have z2:z 2 (r:Int)=0:=by rw [← hz]; simp [sto]
 refine ⟨⟨⟨by rw [z22]; omega,by rw [o 0 23 (by omega) (by omega)]; exact i2,by omega⟩,fun r' hr'=>?_⟩,z2⟩
 by_cases c:r'=r
 ·rw [c,z1,z2]
  exact ⟨ha,by omega,fun q hq=>by omega⟩
 ·rw [o 1 _ (by omega) (by omega),o 2 _ (by omega) (by omega)]
  obtain ⟨a1,a2,a3⟩:=i4 r' (by omega)
  exact ⟨a1,a2,fun q hq=>by rw [o 3 _ (by omega) (by omega)]; exact a3 q hq⟩
theorem own_asS {m:OMem} {r q:Nat} (I:own_RI m (r+1)) (hq:m 2 (r:Int)=(q:Int)) (hq3:q<3) (s:Int) (hs:0≤s∧s<8):Ok (f_addSymbol s m) (fun x=>own_RI x.2 (r+1)∧x.2 2 (r:Int)=((q+1:Nat):Int)):=by
 obtain ⟨⟨i1,i2,i3⟩,i4⟩:=I
 unfold f_addSymbol f_addSymbol_b20 f_addSymbol_b45 f_invalidate
 rw [i1,w32_id (z:=((r+1:Nat):Int) - 1) (by omega),show ((r+1:Nat):Int) - 1=(r:Int) by omega,hq,if_pos (by omega),if_neg (by omega),if_neg (by omega),if_pos (by omega),if_pos (by omega),if_neg (by omega),w32_id (z:=(r:Int)*3) (by omega),w32_id (z:=(r:Int)*3+(q:Int)) (by omega),if_pos (by omega),if_pos (by omega),w32_id (z:=(q:Int)+1) (by omega),Option.bind_some]
 refine Ok.ret ?_
 dsimp only
 generalize hz:sto (sto (sto (sto m 3 ((r:Int)*3+(q:Int)) s) 2 (r:Int) ((q:Int)+1)) 0 24 0) 0 26 0=z
 have o:∀ (K:Nat) x,¬ (K=0∧(x=24∨x=26))→¬ (K=2∧x=(r:Int))→¬ (K=3∧x=(r:Int)*3+(q:Int))→z K x=m K x:=fun K x u v w=>by
  rw [← hz]
  simp only [sto]
  rw [if_neg (by omega),if_neg (by omega),if_neg v,if_neg w]
 have z2:z 2 (r:Int)=(q:Int)+1:=by rw [← hz]; simp [sto]
 have z3:z 3 ((r:Int)*3+(q:Int))=s:=by rw [← hz]; simp [sto]
 refine ⟨⟨⟨by rw [o 0 22 (by omega) (by omega) (by omega)]; exact i1,by rw [o 0 23 (by omega) (by omega) (by omega)]; exact i2,i3⟩,fun r' hr'=>?_⟩,by rw [z2]; rfl⟩
 obtain ⟨a1,a2,a3⟩:=i4 r' hr'
 rw [o 1 _ (by omega) (by omega) (by omega)]
 by_cases c:r'=r
 ·rw [c] at a1 a3 ⊢
  rw [z2]
  refine ⟨a1,by omega,fun q' hq'=>?_⟩
  by_cases d:q'=q
  ·rw [d,show ((r*3+q:Nat):Int)=(r:Int)*3+(q:Int) by omega,z3]; exact hs
  ·rw [o 3 _ (by omega) (by omega) (by omega)]
   exact a3 q' (by rw [hq]; omega)
 ·rw [o 2 _ (by omega) (by omega) (by omega)]
  refine ⟨a1,a2,fun q' hq'=>?_⟩
  rw [o 3 _ (by omega) (by omega) (by omega)]
  exact a3 q' hq'
theorem own_ceS {sl:Int} {sc:Int→Int} (x:Int) (m0 m1:OMem) (hx:0≤x):Ok (l_cell sl sc x m0 m1) (fun _=>True):=by
 unfold l_cell l_cell_b13
 refine Ok.ite (fun h=>?_) fun _=>Ok.ret trivial
 rw [if_pos ⟨hx,h⟩]
 exact Ok.ret trivial
theorem own_l39 {sl:Int} {sc:Int→Int} (R:Nat) (hR:1≤R∧R≤10) (m:OMem) (I:own_RI m 0):Ok (lp (l_law_l39 sl sc (R:Int)) NN (1,0,m,m)) (fun e=>∃ (x:Int) (z:OMem),e=(x,z,z)∧own_RI z R∧0≤x∧x≤51):=by
 refine Ok.loop (fun s=>∃ r:Nat,s.2.1=(r:Int)∧r≤R∧s.2.2.1=s.2.2.2∧own_RI s.2.2.1 r∧0≤s.1∧s.1≤1+5*(r:Int)) (fun s=>(11 - s.2.1).toNat) ⟨0,rfl,by omega,rfl,I,by dsimp only; omega,by dsimp only; omega⟩ (by dsimp only; omega) ?_
 rintro ⟨x,_,z,z'⟩ ⟨r,rfl,hr,hz,Iz,hx0,hx1⟩
 dsimp only at hx0 hx1 hz Iz
 subst hz
 unfold l_law_l39
 dsimp only
 by_cases c:(r:Int)<(R:Int)
 ·rw [if_pos c,w32_id (z:=x+1) (by omega)]
  refine Ok.bind (own_ceS x z z hx0) fun v1 _=>Ok.bind (own_ceS (x+1) z z (by omega)) fun v2 _=>?_
  rw [w32_id (z:=x+1+1) (by omega),and32_3,and32_3]
  obtain ⟨⟨r1,z1⟩,e1,J1,J2⟩:=own_brS Iz (by omega) (v1 % 4) (by omega)
  dsimp only at J1 J2
  rw [e1,Option.bind_some]
  dsimp only
  rw [Option.bind_some]
  dsimp only
  refine Ok.bind (P:=fun e=>∃ (x':Int) (w:OMem),e=(x',w,w)∧own_RI w (r+1)∧0≤x'∧x'≤1+5*((r:Int)+1)) ?_ ?_
  ·refine Ok.loop (fun s=>∃ q:Nat,s.2.1=(q:Int)∧(q:Int)≤v2 % 4∧s.2.2.1=s.2.2.2∧own_RI s.2.2.1 (r+1)∧s.2.2.1 2 (r:Int)=(q:Int)∧0≤s.1∧s.1≤1+5*(r:Int)+2+(q:Int)) (fun s=>(4 - s.2.1).toNat) ⟨0,rfl,by omega,rfl,J1,J2,by dsimp only; omega,by dsimp only; omega⟩ (by dsimp only; omega) ?_
   rintro ⟨y,_,w,w'⟩ ⟨q,rfl,hq,hw,Iw,w2,hy0,hy1⟩
   dsimp only at hw hy0 hy1 Iw w2
   subst hw
   unfold l_law_l87 l_law_b122
   dsimp only
   by_cases cq:(q:Int)<v2 % 4
   ·rw [if_pos cq]
    refine Ok.bind (own_ceS y w w hy0) fun v3 _=>?_
    rw [w32_id (z:=y+1) (by omega),and32_7,and32_1,w32_id (z:=(q:Int)+1) (by omega),w32_id (z:=4+v3 % 8 % 2) (by omega)]
    have go:∀ s:Int,0≤s→s<8→Ok ((f_addSymbol s w).bind fun (r_105,m_106)=>((f_addSymbol s w).bind fun (r_107,m_108)=>(some (.inl (y+1,(q:Int)+1,m_106,m_108)):Option ((Int×Int×OMem×OMem)⊕((Int×OMem×OMem)))))) (fun e=>∃ u:OMem,e=Sum.inl (y+1,(q:Int)+1,u,u)∧own_RI u (r+1)∧u 2 (r:Int)=((q+1:Nat):Int)):=fun s s0 s1=>by
     obtain ⟨⟨r2,u⟩,e2,K1,K2⟩:=own_asS Iw w2 (by omega) s ⟨s0,s1⟩
     dsimp only at K1 K2
     rw [e2,Option.bind_some]
     dsimp only
     rw [Option.bind_some]
     exact Ok.ret ⟨u,rfl,K1,K2⟩
    by_cases c6:v3 % 8<6
    ·rw [if_pos c6]
     refine Ok.mono (go (v3 % 8) (by omega) (by omega)) fun e he=>?_
     obtain ⟨u,rfl,K1,K2⟩:=he
     exact ⟨⟨q+1,rfl,by omega,rfl,K1,K2,by dsimp only; omega,by dsimp only; omega⟩,by dsimp only; omega⟩
    ·rw [if_neg c6]
     refine Ok.mono (go (4+v3 % 8 % 2) (by omega) (by omega)) fun e he=>?_
     obtain ⟨u,rfl,K1,K2⟩:=he
     exact ⟨⟨q+1,rfl,by omega,rfl,K1,K2,by dsimp only; omega,by dsimp only; omega⟩,by dsimp only; omega⟩
   ·rw [if_neg cq]
    exact Ok.ret ⟨y,w,rfl,Iw,hy0,by omega⟩
  ·rintro e ⟨x',w,rfl,Iw,h0,h1⟩
   dsimp only
   rw [w32_id (z:=(r:Int)+1) (by omega)]
   exact Ok.ret ⟨⟨r+1,rfl,by omega,rfl,Iw,h0,by dsimp only; omega⟩,by dsimp only; omega⟩
 ·rw [if_neg c]
  have:r=R:=by omega
  subst this
  exact Ok.ret ⟨x,z,rfl,Iz,hx0,by omega⟩
def own_Go (m:OMem) (r:Nat):own_Gm:=⟨r,fun r=>(m 1 (r:Int)).toNat,fun r=>(m 2 (r:Int)).toNat,fun r q=>(m 3 ((r*3+q:Nat):Int)).toNat,0,fun _=>0⟩
theorem own_Gow {m:OMem} {r:Nat} (I:own_RI m r):own_wf (own_Go m r)∧own_MG (own_Go m r) m:=by
 obtain ⟨⟨i1,i2,i3⟩,i4⟩:=I
 refine ⟨⟨⟨i3,Nat.zero_le _⟩,fun r' hr'=>?_,fun p hp=>absurd hp (Nat.not_lt_zero _)⟩,⟨i1,i2⟩,fun r' hr'=>?_,fun p hp=>absurd hp (Nat.not_lt_zero _)⟩
 ·obtain ⟨a1,a2,a3⟩:=i4 r' hr'
  refine ⟨by show (m 1 (r':Int)).toNat<4; omega,by show (m 2 (r':Int)).toNat≤3; omega,fun t ht=>?_⟩
  have ht':t<(m 2 (r':Int)).toNat:=ht
  have:=a3 t (by omega)
  show (m 3 ((r'*3+t:Nat):Int)).toNat<8
  omega
 ·obtain ⟨a1,a2,a3⟩:=i4 r' hr'
  refine ⟨by show m 1 (r':Int)=((m 1 (r':Int)).toNat:Int); omega,by show m 2 (r':Int)=((m 2 (r':Int)).toNat:Int); omega,fun t ht=>?_⟩
  have ht':t<(m 2 (r':Int)).toNat:=ht
  have:=a3 t (by omega)
  show m 3 ((r'*3+t:Nat):Int)=((m 3 ((r'*3+t:Nat):Int)).toNat:Int)
  omega
def own_gR (g:own_Gm) (r:Nat):own_Gm:=⟨r,g.lhs,g.len,g.sym,g.n,g.tok⟩
theorem own_g4s {g:own_Gm} (F:own_wf g) (b k:Nat) (hk:k<4) (hr:b+k<g.R):own_g4 (own_gR g (b+k)) b<2 ^ (16*k)∧own_g4 (own_gR g (b+k+1)) b=own_g4 (own_gR g (b+k)) b+own_cd g (b+k)*2 ^ (16*k):=by
 have c:∀ x r,own_c0 (own_gR g r) x=if x<r then own_cd g x else 0:=fun x r=>rfl
 unfold own_g4
 simp only [c]
 have q:∀ x,x<g.R→own_cd g x<8192:=fun x hx=>own_cdr F x hx
 have:k=0∨k=1∨k=2∨k=3:=by omega
 rcases this with rfl | rfl | rfl | rfl
 ·rw [if_neg (by omega),if_neg (by omega),if_neg (by omega),if_neg (by omega),if_pos (by omega),if_neg (by omega),if_neg (by omega),if_neg (by omega)]
  exact ⟨by decide,by show own_cd g b+65536*0+4294967296*0+281474976710656*0=0+65536*0+4294967296*0+281474976710656*0+own_cd g b*1; omega⟩
 ·have q0:=q b (by omega)
  rw [if_pos (show b<b+1 by omega),if_neg (show ¬ b+1<b+1 by omega),if_neg (show ¬ b+2<b+1 by omega),if_neg (show ¬ b+3<b+1 by omega),if_pos (show b<b+1+1 by omega),if_pos (show b+1<b+1+1 by omega),if_neg (show ¬ b+2<b+1+1 by omega),if_neg (show ¬ b+3<b+1+1 by omega)]
  refine ⟨?_,?_⟩
  ·show own_cd g b+65536*0+4294967296*0+281474976710656*0<65536; omega
  ·show own_cd g b+65536*own_cd g (b+1)+4294967296*0+281474976710656*0=own_cd g b+65536*0+4294967296*0+281474976710656*0+own_cd g (b+1)*65536; omega
 ·have q0:=q b (by omega)
  have q1:=q (b+1) (by omega)
  rw [if_pos (show b<b+2 by omega),if_pos (show b+1<b+2 by omega),if_neg (show ¬ b+2<b+2 by omega),if_neg (show ¬ b+3<b+2 by omega),if_pos (show b<b+2+1 by omega),if_pos (show b+1<b+2+1 by omega),if_pos (show b+2<b+2+1 by omega),if_neg (show ¬ b+3<b+2+1 by omega)]
  refine ⟨?_,?_⟩
  ·show own_cd g b+65536*own_cd g (b+1)+4294967296*0+281474976710656*0<4294967296; omega
  ·show own_cd g b+65536*own_cd g (b+1)+4294967296*own_cd g (b+2)+281474976710656*0=own_cd g b+65536*own_cd g (b+1)+4294967296*0+281474976710656*0+own_cd g (b+2)*4294967296; omega
 ·have q0:=q b (by omega)
  have q1:=q (b+1) (by omega)
  have q2:=q (b+2) (by omega)
  rw [if_pos (show b<b+3 by omega),if_pos (show b+1<b+3 by omega),if_pos (show b+2<b+3 by omega),if_neg (show ¬ b+3<b+3 by omega),if_pos (show b<b+3+1 by omega),if_pos (show b+1<b+3+1 by omega),if_pos (show b+2<b+3+1 by omega),if_pos (show b+3<b+3+1 by omega)]
  refine ⟨?_,?_⟩
  ·show own_cd g b+65536*own_cd g (b+1)+4294967296*own_cd g (b+2)+281474976710656*0<281474976710656; omega
  ·show own_cd g b+65536*own_cd g (b+1)+4294967296*own_cd g (b+2)+281474976710656*own_cd g (b+3)=own_cd g b+65536*own_cd g (b+1)+4294967296*own_cd g (b+2)+281474976710656*0+own_cd g (b+3)*281474976710656; omega
theorem own_g4o {g:own_Gm} (b r:Nat) (h:r<b∨b+4≤r):own_g4 (own_gR g (r+1)) b=own_g4 (own_gR g r) b:=by
 have c:∀ x r,own_c0 (own_gR g r) x=if x<r then own_cd g x else 0:=fun x r=>rfl
 unfold own_g4
 simp only [c]
 have e:∀ x,b≤x→x<b+4→((if x<r+1 then own_cd g x else 0)=if x<r then own_cd g x else 0):=fun x a d=>by
  by_cases q:x<r
  ·rw [if_pos q,if_pos (by omega)]
  ·rw [if_neg q,if_neg (by omega)]
 rw [e b (by omega) (by omega),e (b+1) (by omega) (by omega),e (b+2) (by omega) (by omega),e (b+3) (by omega) (by omega)]
theorem own_pkb {g:own_Gm} (F:own_wf g) (b k:Nat) (hk:k<4) (hr:b+k<g.R) (hb:b % 4=0):or64 (own_g4 (own_gR g (b+k)) b:Int) (shl64 (own_cd g (b+k):Int) (w32 ((and32 ((b+k:Nat):Int) 3)*16)))=(own_g4 (own_gR g (b+k+1)) b:Int):=by
 obtain ⟨s1,s2⟩:=own_g4s F b k hk hr
 have c8:=own_cdr F (b+k) hr
 have p:own_cd g (b+k)*2 ^ (16*k)<2305843009213693952:=by
  have a:(2:Nat) ^ (16*k)≤2 ^ 48:=Nat.pow_le_pow_right (by decide) (by omega)
  have b:own_cd g (b+k)*2 ^ (16*k)≤8191*2 ^ 48:=Nat.mul_le_mul (by omega) a
  omega
 have a48:(2:Nat) ^ (16*k)≤281474976710656:=Nat.pow_le_pow_right (by decide) (show 16*k≤48 by omega)
 rw [and32_3,show ((b+k:Nat):Int) % 4=(k:Int) by omega,w32_id (z:=(k:Int)*16) (by omega),show (k:Int)*16=((16*k:Nat):Int) by omega,own_ls6 _ (16*k) (by omega) (by omega),s2]
 exact (own_or6 _ _ (16*k) s1 (by omega)).1
theorem own_l210 {sl:Int} {sc:Int→Int} {x3 x5 x7 x9:Int} {g:own_Gm} (F:own_wf g) {m0 m1:OMem} (M:own_MG g m0) (r:Nat) (hr:r<g.R):Ok (lp (l_law_l210 sl sc m0 m1 x3 x5 x7 x9 (r:Int) (g.len r:Int)) NN (or32 (g.lhs r:Int) (shl32 (g.len r:Int) 2),0)) (fun v=>v=(own_cd g r:Int)):=by
 obtain ⟨f1,f2,f3⟩:=F.2.1 r hr
 obtain ⟨-,-,g3⟩:=own_rgt F M r hr
 have a0:=f3 0
 have a1:=f3 1
 have a2:=f3 2
 have e0:or32 (g.lhs r:Int) (shl32 (g.len r:Int) 2)=((g.lhs r+4*g.len r:Nat):Int):=by
  rw [show (2:Int)=((2:Nat):Int) from rfl,own_lsh (g.len r) 2 (by decide) (by omega),own_or3 (g.lhs r) (g.len r) 2 (by omega) (by omega)]
  congr 1
  omega
 rw [e0]
 refine Ok.loop (fun s=>∃ q c:Nat,s.2=(q:Int)∧q≤g.len r∧s.1=(c:Int)∧c<2 ^ (4+3*q)∧c=g.lhs r+4*g.len r+(if 0<q then 16*g.sym r 0 else 0)+(if 1<q then 128*g.sym r 1 else 0)+(if 2<q then 1024*g.sym r 2 else 0)) (fun s=>(5 - s.2).toNat) ⟨0,g.lhs r+4*g.len r,rfl,Nat.zero_le _,rfl,by show _<16; omega,by rw [if_neg (by decide),if_neg (by decide),if_neg (by decide)]; omega⟩ (by dsimp only; omega) ?_
 rintro ⟨_,_⟩ ⟨q,c,rfl,hq,rfl,hc,ec⟩
 unfold l_law_l210
 dsimp only
 by_cases cq:(q:Int)<(g.len r:Int)
 ·have s8:=f3 q (by omega)
  have cases3:q=0∨q=1∨q=2:=by omega
  have pw:c+g.sym r q*2 ^ (4+3*q)<2 ^ (4+3*(q+1))∧c+g.sym r q*2 ^ (4+3*q)<2147483648:=by
   rcases cases3 with rfl | rfl | rfl
   ·have hc':c<16:=hc
    exact ⟨by show c+g.sym r 0*16<128; omega,by show c+g.sym r 0*16<2147483648; omega⟩
   ·have hc':c<128:=hc
    exact ⟨by show c+g.sym r 1*128<1024; omega,by show c+g.sym r 1*128<2147483648; omega⟩
   ·have hc':c<1024:=hc
    exact ⟨by show c+g.sym r 2*1024<8192; omega,by show c+g.sym r 2*1024<2147483648; omega⟩
  rw [if_pos cq,g3 q (by omega),Option.bind_some,and32_7,show (g.sym r q:Int) % 8=(g.sym r q:Int) by omega,w32_id (z:=3*(q:Int)) (by omega),w32_id (z:=4+3*(q:Int)) (by omega),show 4+3*(q:Int)=((4+3*q:Nat):Int) by omega,own_lsh (g.sym r q) (4+3*q) (by omega) (by omega),own_or3 c (g.sym r q) (4+3*q) hc pw.2,w32_id (z:=(q:Int)+1) (by omega)]
  refine Ok.ret ⟨⟨q+1,_,rfl,by omega,rfl,pw.1,?_⟩,by dsimp only; omega⟩
  rw [ec]
  rcases cases3 with rfl | rfl | rfl
  ·rw [if_neg (by decide),if_neg (by decide),if_neg (by decide),if_pos (by decide),if_neg (by decide),if_neg (by decide)]
   show _+g.sym r 0*16=_; omega
  ·rw [if_pos (by decide),if_neg (by decide),if_neg (by decide),if_pos (by decide),if_pos (by decide),if_neg (by decide)]
   show _+g.sym r 1*128=_; omega
  ·rw [if_pos (by decide),if_pos (by decide),if_neg (by decide),if_pos (by decide),if_pos (by decide),if_pos (by decide)]
   show _+g.sym r 2*1024=_; omega
 ·rw [if_neg cq]
  refine Ok.ret ?_
  rw [ec,show q=g.len r by omega]
  rfl
theorem own_l163 {sl:Int} {sc:Int→Int} {x3:Int} {g:own_Gm} (F:own_wf g) {m0 m1:OMem} (M:own_MG g m0):Ok (lp (l_law_l163 sl sc m0 m1 x3) NN (0,0,0,0,0)) (fun e=>∃ x5 x7 x9,(e=Sum.inl (x5,x7,x9,(g.R:Int))∨e=Sum.inr (x5,x7,x9,(g.R:Int)))∧own_GP g x5 x7 x9):=by
 have R10:=F.1.1
 refine Ok.loop (fun s=>∃ r:Nat,s.2.2.2.2=(r:Int)∧s.2.2.2.1=(r:Int)∧r≤g.R∧s.1=(own_g4 (own_gR g r) 0:Int)∧s.2.1=(own_g4 (own_gR g r) 4:Int)∧s.2.2.1=(own_g4 (own_gR g r) 8:Int)) (fun s=>(11 - s.2.2.2.2).toNat) ⟨0,rfl,rfl,Nat.zero_le _,rfl,rfl,rfl⟩ (by dsimp only; omega) ?_
 rintro ⟨_,_,_,_,_⟩ ⟨r,rfl,rfl,hr,rfl,rfl,rfl⟩
 unfold l_law_l163 l_law_b299
 dsimp only
 have fin:r=g.R→own_GP g (own_g4 (own_gR g r) 0:Int) (own_g4 (own_gR g r) 4:Int) (own_g4 (own_gR g r) 8:Int):=fun h=>by rw [h]; exact ⟨rfl,rfl,rfl⟩
 by_cases c:(r:Int)<10
 ·rw [if_pos c]
  by_cases d:r<g.R
  ·obtain ⟨g1,g2,g3⟩:=own_rgt F M r d
   obtain ⟨f1,f2,f3⟩:=F.2.1 r d
   rw [g1,Option.bind_some,if_neg (by omega),g2,Option.bind_some,and32_3,and32_3,show (g.lhs r:Int) % 4=(g.lhs r:Int) by omega,show (g.len r:Int) % 4=(g.len r:Int) by omega]
   refine Ok.bind (own_l210 F M r d) fun v hv=>?_
   rw [hv,w32_id (z:=(r:Int)+1) (by omega)]
   by_cases c4:(r:Int)<4
   ·have p:=own_pkb F 0 r (by omega) (by omega) rfl
    rw [Nat.zero_add] at p
    rw [if_pos c4,p]
    exact Ok.ret ⟨⟨r+1,rfl,rfl,by omega,rfl,by dsimp only; rw [own_g4o 4 r (by omega)],by dsimp only; rw [own_g4o 8 r (by omega)]⟩,by dsimp only; omega⟩
   ·rw [if_neg c4]
    by_cases c8:(r:Int)<8
    ·have p:=own_pkb F 4 (r - 4) (by omega) (by omega) rfl
     rw [show 4+(r - 4)=r by omega] at p
     rw [if_pos c8,p]
     exact Ok.ret ⟨⟨r+1,rfl,rfl,by omega,by dsimp only; rw [own_g4o 0 r (by omega)],rfl,by dsimp only; rw [own_g4o 8 r (by omega)]⟩,by dsimp only; omega⟩
    ·have p:=own_pkb F 8 (r - 8) (by omega) (by omega) rfl
     rw [show 8+(r - 8)=r by omega] at p
     rw [if_neg c8,p]
     exact Ok.ret ⟨⟨r+1,rfl,rfl,by omega,by dsimp only; rw [own_g4o 0 r (by omega)],by dsimp only; rw [own_g4o 4 r (by omega)],rfl⟩,by dsimp only; omega⟩
  ·have e:r=g.R:=by omega
   have ne:f_ruleLhs (r:Int) m0=some (-1):=by
    unfold f_ruleLhs f_ruleExists f_ruleExists_b22 f_ruleExists_b23
    rw [if_neg (by omega),M.1.1,if_neg (by omega)]
    rfl
   rw [ne,Option.bind_some,if_pos (by decide)]
   exact Ok.ret ⟨_,_,_,Or.inl (by rw [e]),fin e⟩
 ·have e:r=g.R:=by omega
  rw [if_neg c]
  exact Ok.ret ⟨_,_,_,Or.inr (by rw [e]),fin e⟩
def own_MR (G:own_Gm) (m:OMem):Prop:=m 0 22=(G.R:Int)∧∀ r:Nat,r<G.R→m 1 (r:Int)=G.lhs r∧m 2 (r:Int)=G.len r∧∀ t:Nat,t<G.len r→m 3 ((r*3+t:Nat):Int)=G.sym r t
theorem own_MRt {G:own_Gm} {m m2:OMem} (h:∀ (k:Nat) i,(k=0∧i=22)∨(1≤k∧k≤3)→m2 k i=m k i) (M:own_MR G m):own_MR G m2:=by
 refine ⟨by rw [h 0 22 (by omega)]; exact M.1,fun r hr=>?_⟩
 obtain ⟨x,y,z⟩:=M.2 r hr
 exact ⟨by rw [h 1 _ (by omega)]; exact x,by rw [h 2 _ (by omega)]; exact y,fun t ht=>by rw [h 3 _ (by omega)]; exact z t ht⟩
def own_gI (G:own_Gm) (n:Nat) (tok:Nat→Nat):own_Gm:=⟨G.R,G.lhs,G.len,G.sym,n,tok⟩
theorem own_MGr {G:own_Gm} {n:Nat} {tok:Nat→Nat} {m:OMem} (M:own_MG (own_gI G n tok) m):own_MR G m:=⟨M.1.1,M.2.1⟩
theorem own_gIw {G:own_Gm} (F:own_wf G) {n:Nat} {tok:Nat→Nat} (hn:n≤8) (ht:∀ p,p<n→tok p<4):own_wf (own_gI G n tok):=⟨⟨F.1.1,hn⟩,F.2.1,ht⟩
theorem own_ciS (m:OMem):Ok (f_clearInput m) (fun z=>z 0 23=0∧z 0 24=0∧∀ (K:Nat) x,¬ (K=0∧23≤x∧x≤26)→z K x=m K x):=by
 unfold f_clearInput f_invalidate
 rw [Option.bind_some]
 refine Ok.ret ⟨?_,?_,fun K x u=>?_⟩
 ·simp [sto]
 ·simp [sto]
 ·simp only [sto]
  rw [if_neg (by omega),if_neg (by omega),if_neg (by omega)]
theorem own_atS (m:OMem) (p:Nat) (hp:p<8) (h23:m 0 23=(p:Int)) (t:Int) (ht:0≤t∧t<2):Ok (f_addToken t m) (fun x=>x.2 0 23=((p+1:Nat):Int)∧x.2 0 24=0∧x.2 4 (p:Int)=t∧∀ (K:Nat) x',¬ (K=0∧23≤x'∧x'≤26)→¬ (K=4∧x'=(p:Int))→x.2 K x'=m K x'):=by
 unfold f_addToken f_addToken_b9 f_addToken_b27 f_invalidate
 rw [h23,if_neg (by omega),if_pos (by omega),if_pos (by omega),if_neg (by omega),if_pos (by omega),w32_id (z:=(p:Int)+1) (by omega),Option.bind_some]
 refine Ok.ret ⟨?_,?_,?_,fun K x u v=>?_⟩
 ·simp [sto]
 ·simp [sto]
 ·simp [sto]
 ·dsimp only
  simp only [sto]
  rw [if_neg (by omega),if_neg (by omega),if_neg (by omega),if_neg (by omega)]
/- the same input in both -/
def own_TK (G:own_Gm) (m0 m1:OMem) (p:Nat):Prop:=(own_MR G m0∧own_MR G m1)∧(m0 0 23=(p:Int)∧m1 0 23=(p:Int))∧(m0 0 24=0∧m1 0 24=0)∧(∀ u:Nat,u<p→(0≤m0 4 (u:Int)∧m0 4 (u:Int)<2)∧m1 4 (u:Int)=m0 4 (u:Int))
theorem own_TK.k1 {G:own_Gm} {m0 m1:OMem} {p:Nat} (h:own_TK G m0 m1 p):own_MR G m0∧own_MR G m1:=h.1
theorem own_TK.k2 {G:own_Gm} {m0 m1:OMem} {p:Nat} (h:own_TK G m0 m1 p):m0 0 23=(p:Int)∧m1 0 23=(p:Int):=h.2.1
theorem own_TK.k3 {G:own_Gm} {m0 m1:OMem} {p:Nat} (h:own_TK G m0 m1 p):m0 0 24=0∧m1 0 24=0:=h.2.2.1
theorem own_TK.k4 {G:own_Gm} {m0 m1:OMem} {p:Nat} (h:own_TK G m0 m1 p):∀ u:Nat,u<p→(0≤m0 4 (u:Int)∧m0 4 (u:Int)<2)∧m1 4 (u:Int)=m0 4 (u:Int):=h.2.2.2
theorem own_l360 {sl:Int} {sc:Int→Int} {x5 x7 x9 x11 x12 x13:Int} {G:own_Gm} (n:Nat) (hn:n≤5) (x:Int) (hx:0≤x∧x≤1000) {m0 m1:OMem} (K:own_TK G m0 m1 0):Ok (lp (l_law_l360 sl sc x5 x7 x9 x11 x12 x13 (n:Int)) NN (x,0,m0,m1)) (fun e=>∃ (x':Int) (z w:OMem),e=(x',z,w)∧(0≤x'∧x'≤x+5)∧own_TK G z w n):=by
 refine Ok.loop (fun s=>∃ p:Nat,s.2.1=(p:Int)∧p≤n∧(0≤s.1∧s.1≤x+(p:Int))∧own_TK G s.2.2.1 s.2.2.2 p) (fun s=>(6 - s.2.1).toNat) ⟨0,rfl,Nat.zero_le _,by dsimp only; omega,K⟩ (by dsimp only; omega) ?_
 rintro ⟨y,_,z,w⟩ ⟨p,rfl,hp,hy,Kz⟩
 dsimp only at hy Kz
 unfold l_law_l360
 dsimp only
 by_cases c:(p:Int)<(n:Int)
 ·rw [if_pos c]
  refine Ok.bind (own_ceS y z w hy.1) fun v _=>?_
  rw [and32_1]
  refine Ok.bind (own_atS z p (by omega) Kz.k2.1 (v % 2) (by omega)) ?_
  rintro ⟨r1,z2⟩ ⟨a1,a2,a3,a4⟩
  dsimp only at a1 a2 a3 a4 ⊢
  refine Ok.bind (own_atS w p (by omega) Kz.k2.2 (v % 2) (by omega)) ?_
  rintro ⟨r2,w2⟩ ⟨b1,b2,b3,b4⟩
  dsimp only at b1 b2 b3 b4 ⊢
  rw [w32_id (z:=y+1) (by omega),w32_id (z:=(p:Int)+1) (by omega)]
  refine Ok.ret ⟨⟨p+1,rfl,by omega,by dsimp only; omega,⟨⟨own_MRt (fun k i u=>a4 k i (by omega) (by omega)) Kz.k1.1,own_MRt (fun k i u=>b4 k i (by omega) (by omega)) Kz.k1.2⟩,⟨a1,b1⟩,⟨a2,b2⟩,fun u hu=>?_⟩⟩,by dsimp only; omega⟩
  dsimp only
  by_cases d:u=p
  ·rw [d,a3,b3]; exact ⟨by omega,rfl⟩
  ·rw [a4 4 _ (by omega) (by omega),b4 4 _ (by omega) (by omega)]
   exact Kz.k4 u (by omega)
 ·rw [if_neg c]
  have:p=n:=by omega
  subst this
  exact Ok.ret ⟨y,z,w,rfl,by omega,Kz⟩
theorem own_ipd {I p t u:Nat} (hu:u<p):(I+t*2 ^ (2*p)) / 2 ^ (2*u) % 4=I / 2 ^ (2*u) % 4:=by
 have e:(2:Nat) ^ (2*p)=2 ^ (2*u)*(4*2 ^ (2*(p - u) - 2)):=by
  rw [show (4:Nat)=2 ^ 2 from rfl,← Nat.pow_add,← Nat.pow_add]
  congr 1; omega
 rw [e,show t*(2 ^ (2*u)*(4*2 ^ (2*(p - u) - 2)))=2 ^ (2*u)*(4*(t*2 ^ (2*(p - u) - 2))) by rw [Nat.mul_left_comm,Nat.mul_left_comm t],Nat.add_mul_div_left _ _ (Nat.pow_pos (by decide)),Nat.add_mul_mod_self_left]
theorem own_l408 {sl:Int} {sc:Int→Int} {x3 x5 x7 x9 x11 x12 x13:Int} {g:own_Gm} (F:own_wf g) (hn:g.n≤5) {m0 m1:OMem} (M:own_MG g m0):Ok (lp (l_law_l408 sl sc m0 m1 x3 x5 x7 x9 x11 x12 x13) NN (0,0,0)) (fun e=>∃ inp:Int,e=Sum.inl (inp,(g.n:Int))∧∀ p:Nat,p<g.n→and32 (shr32 inp (w32 (2*(p:Int)))) 3=(g.tok p:Int)):=by
 refine Ok.loop (fun s=>∃ p I:Nat,s.2.2=(p:Int)∧s.2.1=(p:Int)∧p≤g.n∧s.1=(I:Int)∧I<2 ^ (2*p)∧∀ u:Nat,u<p→I / 2 ^ (2*u) % 4=g.tok u) (fun s=>(9 - s.2.2).toNat) ⟨0,0,rfl,rfl,Nat.zero_le _,rfl,by decide,fun u h=>by omega⟩ (by dsimp only; omega) ?_
 rintro ⟨_,_,_⟩ ⟨p,I,rfl,rfl,hp,rfl,hI,hd⟩
 unfold l_law_l408
 dsimp only
 rw [if_pos (by omega)]
 have pw:(2:Nat) ^ (2*p)≤2 ^ 10:=Nat.pow_le_pow_right (by decide) (by omega)
 by_cases c:p<g.n
 ·have t4:=F.2.2 p c
  rw [own_igt F M p c,Option.bind_some,if_neg (by omega),and32_3,show (g.tok p:Int) % 4=(g.tok p:Int) by omega,w32_id (z:=2*(p:Int)) (by omega),show 2*(p:Int)=((2*p:Nat):Int) by omega]
  have l:g.tok p*2 ^ (2*p)≤3*2 ^ (2*p):=Nat.mul_le_mul_right _ (by omega)
  have p4:(2:Nat) ^ (2*(p+1))=4*2 ^ (2*p):=by
   rw [show 2*(p+1)=2*p+2 by omega,Nat.pow_add]; omega
  rw [own_lsh (g.tok p) (2*p) (by omega) (by omega),own_or3 I (g.tok p) (2*p) hI (by omega),w32_id (z:=(p:Int)+1) (by omega)]
  refine Ok.ret ⟨⟨p+1,I+g.tok p*2 ^ (2*p),rfl,rfl,by omega,rfl,by rw [p4]; omega,fun u hu=>?_⟩,by dsimp only; omega⟩
  by_cases e:u=p
  ·rw [e,Nat.add_mul_div_right _ _ (Nat.pow_pos (by decide)),Nat.div_eq_of_lt hI,Nat.zero_add,Nat.mod_eq_of_lt t4]
  ·rw [own_ipd (show u<p by omega)]
   exact hd u (by omega)
 ·have e:p=g.n:=by omega
  have ne:f_inputToken (p:Int) m0=some (-1):=by
   unfold f_inputToken f_inputToken_b18
   rw [if_neg (by omega),M.1.2,if_neg (by omega)]
  rw [ne,Option.bind_some,if_pos (by decide)]
  refine Ok.ret ⟨(I:Int),by rw [e],fun u hu=>?_⟩
  rw [w32_id (z:=2*(u:Int)) (by omega),show 2*(u:Int)=((2*u:Nat):Int) by omega,own_rsh I (2*u) (by omega) (by omega),and32_3]
  have:=hd u (by omega)
  omega
theorem own_457 {sl:Int} {sc:Int→Int} {x3 x5 x7 x9 x13 inp:Int} {G:own_Gm} (F0:own_wf G) (hR:0<G.R) {n:Nat} {tok:Nat→Nat} (F:own_wf (own_gI G n tok)) (hn:n≤5) {M:Nat} (hM:M<65536) (hml:own_mlc G (own_nb M)) (gp:own_GP G x5 x7 x9) (ip:∀ p:Nat,p<n→and32 (shr32 inp (w32 (2*(p:Int)))) 3=(tok p:Int)) (hx3:0≤x3∧x3≤1000) (hx13:0≤x13∧x13<3) {m0 m1:OMem} (M0:own_MG (own_gI G n tok) m0) (M1:own_MG (own_gI G n tok) m1) (z0:m0 0 24=0) (z1:m1 0 24=0):Ok (l_law_b457 sl sc x3 x5 x7 x9 (G.R:Int) (M:Int) x13 inp (n:Int) m0 m1) (fun x=>∃ (x':Int) (z w:OMem),x=Sum.inl (x',x13+1,z,w)∧(0≤x'∧x'≤x3+1)∧own_MR G z∧own_MR G w):=by
 unfold l_law_b457 l_law_b524
 refine Ok.bind (own_paS F M0) ?_
 rintro ⟨r0,y0⟩ ⟨fr0,h0⟩
 dsimp only at fr0 h0 ⊢
 refine Ok.bind (own_paS F M1) ?_
 rintro ⟨r1,y1⟩ ⟨fr1,h1⟩
 dsimp only at fr1 h1 ⊢
 have N0:own_MG (own_gI G n tok) y0:=own_MGt (fun k i u=>fr0 k i (by omega) (by omega)) M0
 have N1:own_MG (own_gI G n tok) y1:=own_MGt (fun k i u=>fr1 k i (by omega) (by omega)) M1
 have skip:∀ c:Int,c<1∨1000000≤c→Ok (l_law_b530 sl sc x3 x5 x7 x9 (G.R:Int) (M:Int) x13 (n:Int) c y0 y1) (fun x=>∃ (x':Int) (z w:OMem),x=Sum.inl (x',x13+1,z,w)∧(0≤x'∧x'≤x3+1)∧own_MR G z∧own_MR G w):=fun c hc=>by
  unfold l_law_b530 l_law_b1200
  rw [w32_id (z:=x13+1) (by omega)]
  by_cases d:c<1
  ·rw [if_pos d]; exact Ok.ret ⟨x3,y0,y1,rfl,by omega,own_MGr N0,own_MGr N1⟩
  ·rw [if_neg d,if_neg (by omega)]; exact Ok.ret ⟨x3,y0,y1,rfl,by omega,own_MGr N0,own_MGr N1⟩
 rcases h0 with h0 | ⟨⟨T0,c0⟩,p0,-⟩
 ·have ec:f_count y0=some (-5):=by
   unfold f_count
   rw [h0 24,z0,if_pos rfl]
  rw [ec,Option.bind_some,if_pos (by decide)]
  exact skip (-5) (by omega)
 ·have ec:f_count y0=some (y0 0 25):=by
   unfold f_count
   rw [if_neg (by omega)]
  generalize hX:own_XX (own_gI G n tok)=X at *
  have sr:=own_satr (X 0 0 n)
  have c0':y0 0 25=own_sat (X 0 0 n):=c0
  rw [ec,Option.bind_some,c0',if_neg (by omega)]
  have cont:Ok (l_law_b530 sl sc x3 x5 x7 x9 (G.R:Int) (M:Int) x13 (n:Int) (own_sat (X 0 0 n)) y0 y1) (fun x=>∃ (x':Int) (z w:OMem),x=Sum.inl (x',x13+1,z,w)∧(0≤x'∧x'≤x3+1)∧own_MR G z∧own_MR G w):=by
   by_cases big:own_sat (X 0 0 n)<1∨1000000≤own_sat (X 0 0 n)
   ·exact skip _ big
   ·have es:own_sat (X 0 0 n)=(X 0 0 n:Int):=own_satl (by omega)
    rw [es] at big c0' ⊢
    have J0:own_PJ (own_gI G n tok) X y0:=⟨N0,T0,p0,c0',by show X 0 0 n<1000000; omega⟩
    have J1:own_PQ (own_gI G n tok) X y1:=by
     rcases h1 with h1 | ⟨⟨T1,c1⟩,p1,-⟩
     ·exact Or.inr ⟨N1,by rw [h1 24]; exact z1⟩
     ·refine Or.inl ⟨N1,T1,p1,?_,by show X 0 0 n<1000000; omega⟩
      have c1':y1 0 25=own_sat (X 0 0 n):=c1
      rw [c1',es]
      rfl
    have sel:∀ lim:Nat,(lim≤6∧lim≤X 0 0 n)→Ok (l_law_b560 sl sc x3 x5 x7 x9 (G.R:Int) (M:Int) x13 (n:Int) (X 0 0 n:Int) (lim:Int) y0 y1) (fun x=>∃ (x':Int) (z w:OMem),x=Sum.inl (x',x13+1,z,w)∧(0≤x'∧x'≤x3+1)∧own_MR G z∧own_MR G w):=fun lim hl=>by
     unfold l_law_b560 l_law_b1200
     refine Ok.bind (own_ceS x3 y0 y1 hx3.1) fun v _=>?_
     rw [if_neg (by omega),and32_max,w32_id (z:=x3+1) (by omega),w32_id (z:=x13+1) (by omega)]
     obtain ⟨V,hV⟩:∃ V:Nat,v % 2147483648=(V:Int):=⟨(v % 2147483648).toNat,by omega⟩
     rw [hV,(own_dm V (X 0 0 n) (by omega) (by omega)).1]
     refine Ok.bind (own_581 F rfl (V % X 0 0 n) (Nat.mod_lt _ (by omega)) lim hl J0 J1) fun e he=>?_
     obtain ⟨z,w,he,Jz,Jw⟩:=he
     rcases he with rfl | rfl
     ·exact Ok.ret ⟨x3+1,z,w,rfl,by omega,own_MGr Jz.j1,own_MGr (own_PQm Jw)⟩
     ·exact Ok.ret ⟨x3+1,z,w,rfl,by omega,own_MGr Jz.j1,own_MGr (own_PQm Jw)⟩
    unfold l_law_b530
    rw [if_neg (by omega),if_pos (by omega)]
    by_cases c6:(X 0 0 n:Int)<6
    ·rw [if_pos c6]; exact sel (X 0 0 n) (by omega)
    ·rw [if_neg c6]; exact sel 6 (by omega)
  refine Ok.bind (own_enS F hR T0 (⟨gp,ip,hM,hml⟩:own_LP (own_gI G n tok) x5 x7 x9 inp M) y0 y1) fun v hv=>?_
  have hv:v=-1∨v=(X 0 0 n:Int):=hv
  simp only [own_lcl,own_lcz]
  rcases hv with rfl | rfl
  ·rw [if_pos (by decide)]; exact cont
  ·rw [if_neg (by omega)]
   by_cases d:(X 0 0 n:Int)<1000000
   ·rw [if_pos d,if_pos (own_satn (by omega))]; exact cont
   ·have:own_sat (X 0 0 n)=1000000:=if_neg (by omega)
    rw [if_neg d,if_pos this]; exact cont
theorem law_true (sl:Int) (sc:Int→Int) (hl:0≤sl∧sl≤260) (hr:∀ i,-2147483648≤sc i∧sc i<2147483648):∃ W,l_law sl sc=some (1,W):=by
 refine Ok.law ?_
 unfold l_law
 have ei:f_init z0=some (sto (sto (sto (sto (sto (sto (sto z0 0 22 0) 0 23 0) 0 24 0) 0 25 0) 0 26 0) 0 27 0) 0 28 0):=rfl
 rw [ei,Option.bind_some,Option.bind_some]
 have I0:own_RI (sto (sto (sto (sto (sto (sto (sto z0 0 22 0) 0 23 0) 0 24 0) 0 25 0) 0 26 0) 0 27 0) 0 28 0) 0:=⟨⟨rfl,rfl,by decide⟩,fun r' h=>by omega⟩
 generalize sto (sto (sto (sto (sto (sto (sto z0 0 22 0) 0 23 0) 0 24 0) 0 25 0) 0 26 0) 0 27 0) 0 28 0=m at *
 refine Ok.bind (own_ceS 0 m m (by decide)) fun v _=>?_
 rw [and32_15]
 obtain ⟨V,hV⟩:∃ V:Nat,v % 16=(V:Int):=⟨(v % 16).toNat,by omega⟩
 have dm:=(own_dm V 10 (by decide) (by omega)).1
 rw [hV,show rem32 (V:Int) 10=((V % 10:Nat):Int) from dm,w32_id (z:=1+((V % 10:Nat):Int)) (by omega),show 1+((V % 10:Nat):Int)=((1+V % 10:Nat):Int) by omega]
 refine Ok.bind (own_l39 (1+V % 10) (by omega) m I0) ?_
 rintro e ⟨x,z,rfl,I,hx0,hx1⟩
 dsimp only
 obtain ⟨F0,M0⟩:=own_Gow I
 have hR:0<(own_Go z (1+V % 10)).R:=by show 0<1+V % 10; omega
 generalize own_Go z (1+V % 10)=G at *
 have MR0:own_MR G z:=⟨M0.1.1,M0.2.1⟩
 have b311:∀ x5 x7 x9,own_GP G x5 x7 x9→Ok (l_law_b311 sl sc x x5 x7 x9 (G.R:Int) z z) (fun r=>r.1=1):=fun x5 x7 x9 gp=>by
  unfold l_law_b311
  refine Ok.bind (own_mnS F0 gp z z) fun v hv=>?_
  obtain ⟨M,rfl,hM,hml⟩:=hv
  refine Ok.bind (P:=fun e=>∃ p,e=Sum.inr (Sum.inr (Sum.inr (Sum.inr (Sum.inr (Sum.inr (Sum.inr (Sum.inr (Sum.inr (Sum.inr (Sum.inr p))))))))))) ?_ ?_
  ·refine Ok.loop (fun s=>(0≤s.2.1∧s.2.1≤3)∧(0≤s.1∧s.1≤51+7*s.2.1)∧own_MR G s.2.2.1∧own_MR G s.2.2.2) (fun s=>(4 - s.2.1).toNat) ⟨by dsimp only; omega,by dsimp only; omega,MR0,MR0⟩ (by dsimp only; omega) ?_
   rintro ⟨y,rd,m0,m1⟩ ⟨hrd,hy,R0,R1⟩
   dsimp only at hrd hy R0 R1
   unfold l_law_l327
   dsimp only
   by_cases c:rd<3
   ·rw [if_pos c]
    refine Ok.bind (own_ceS y m0 m1 hy.1) fun v _=>?_
    refine Ok.bind (own_ciS m0) fun c0 q0=>Ok.bind (own_ciS m1) fun c1 q1=>?_
    rw [and32_7,w32_id (z:=y+1) (by omega)]
    obtain ⟨U,hU⟩:∃ U:Nat,v % 8=(U:Int):=⟨(v % 8).toNat,by omega⟩
    rw [hU,show rem32 (U:Int) 6=((U % 6:Nat):Int) from (own_dm U 6 (by decide) (by omega)).1]
    have TK0:own_TK G c0 c1 0:=⟨⟨own_MRt (fun k i u=>q0.2.2 k i (by omega)) R0,own_MRt (fun k i u=>q1.2.2 k i (by omega)) R1⟩,⟨q0.1,q1.1⟩,⟨q0.2.1,q1.2.1⟩,fun u h=>by omega⟩
    refine Ok.bind (own_l360 (U % 6) (by omega) (y+1) (by omega) TK0) ?_
    rintro e ⟨y',d0,d1,rfl,hy',K⟩
    dsimp only
    obtain ⟨n,hn⟩:∃ n,n=U % 6:=⟨_,rfl⟩
    rw [← hn] at K
    have n5:n≤5:=by omega
    have F:own_wf (own_gI G n fun u=>(d0 4 (u:Int)).toNat):=own_gIw F0 (by omega) fun p hp=>by
     have:=(K.k4 p hp).1
     omega
    have M0:own_MG (own_gI G n fun u=>(d0 4 (u:Int)).toNat) d0:=⟨⟨K.k1.1.1,K.k2.1⟩,K.k1.1.2,fun p hp=>by
     have:=(K.k4 p hp).1
     show d0 4 (p:Int)=((d0 4 (p:Int)).toNat:Int)
     omega⟩
    have M1:own_MG (own_gI G n fun u=>(d0 4 (u:Int)).toNat) d1:=⟨⟨K.k1.2.1,K.k2.2⟩,K.k1.2.2,fun p hp=>by
     obtain ⟨a,b⟩:=K.k4 p hp
     show d1 4 (p:Int)=((d0 4 (p:Int)).toNat:Int)
     omega⟩
    refine Ok.bind (own_l408 F n5 M0) ?_
    rintro e ⟨inp,rfl,ip⟩
    dsimp only
    refine Ok.mono (own_457 F0 hR F n5 hM hml gp ip (by omega) ⟨hrd.1,c⟩ M0 M1 K.k3.1 K.k3.2) fun x hx=>?_
    obtain ⟨x',z',w',rfl,hx',A,B⟩:=hx
    exact ⟨⟨by dsimp only; omega,by dsimp only; omega,A,B⟩,by dsimp only; omega⟩
   ·rw [if_neg c]
    exact Ok.ret ⟨_,rfl⟩
  ·rintro e ⟨p,rfl⟩
   exact Ok.ret rfl
 refine Ok.bind (own_l163 F0 M0) fun e he=>?_
 obtain ⟨x5,x7,x9,he,gp⟩:=he
 rcases he with rfl | rfl
 ·exact b311 x5 x7 x9 gp
 ·exact b311 x5 x7 x9 gp
theorem comes_1 {Post:Tables→Env→Array Value→State→Outcome→State→Prop} (hpost:∀ tb e args s v u,(limb_1_1.after args s (.returned v) u=true∧limb_1_2.after args s (.returned v) u=true∧True)→FrameEnd s (.returned v) u (Jvm.fieldLocs frame_1_writes args s ++ Jvm.arrayLocs frame_1_arrays args s ++ Jvm.staticLocs frame_1_statics s) 104 17408→Post tb e args s (.returned v) u) :
  ArmFor flags0 classFile x code maxLocals ret World_1 tables_1 room_1 Calls_1 rest_1 Pre_1 Post:=by
 intro l hfl _ _ p e ha hc hk s m args below hf hA hF happ hP
 obtain ⟨hcalls,hrest,hpre⟩:=hP
 obtain ⟨-,-,-,hnamed,-,-,-,hat⟩:=(Spec.applies_iff hf).mp happ
 obtain ⟨hg,hn⟩:=and_e (Cond.before_iff.mp (show (Jvm.Cond.and given_1 narrow_1).before args s=true from hpre))
 have hw:=fun d (hd:d∈tables_1)=>atoms_spec (ws:=Jvm.Cond.code x code maxLocals ret :: tables_1) hat d (List.mem_cons_of_mem _ hd)
 have hfit:Fit s:=fun {y c} hc i hi=>by
  obtain ⟨ha,rfl⟩:=Array.getElem?_eq_some_iff.mp hc
  have q:=List.all_eq_true.mp ((Array.all_eq_true_iff_forall_mem.mp hF) _ (Array.getElem_mem ha)) i (List.mem_range.mpr hi)
  simpa [Array.getElem?_eq_getElem hi] using q
 obtain ⟨hcnt,g0⟩:=and_e hg
 obtain ⟨w0,rfl⟩:∃ w0:Value,args=#[w0]:=by
  have hs:args.size=1:=by simpa [Cond.value,given_1] using hcnt
  obtain ⟨L⟩:=args
  match L,hs with
  | [w0],_=>exact ⟨w0,rfl⟩
 obtain ⟨hn1,hn2⟩:=and_e hn
 obtain ⟨a,ea⟩:=arr_v hn1
 obtain rfl:w0=.ref a:=Option.some.inj ea
 obtain ⟨cl,hAr⟩:=Arr.start ea hn1
 obtain ⟨hlen0,hlen⟩:=own_len hn2 ea hAr
 have hel:∀ i:Nat,i<cl.slots.size→∃ x:Int32,cl.slots[i]?=some (.int x):=fun i hi=>own_elem hfit hAr hi hlen0
 obtain ⟨W,hlaw⟩:=law_true (cl.slots.size:Int) (own_sc cl) ⟨by omega,hlen⟩ (own_sc_rng cl)
 obtain ⟨N,hN⟩:=l_law_ok (cl.slots.size:Int) (own_sc cl) _ hlaw _ ⟨0,rfl⟩
 have hM:=lawMet (sc:=(true,(cl.slots.size:Int),own_sc cl)) (mo:=2) (as:=[vr 0]) (vals:=[.ref a]) (A:=(fun _=>a)) (rm:=room_1) (n0:=s.heap.size) (h:=s.heap) (tabP hw) (tabL hw) (by decide) l (x:=x) rfl (ps:=[2]) (ml:=38) (fr:=7) (lc:=122) rfl hN (Nat.le_of_eq rfl) tables_1 (by decide) (by decide) (by decide) (by decide +kernel) (Nat.le_refl _) (fun _=>⟨(Array.getElem?_eq_some_iff.mp hAr.1).1,cl,hAr,rfl,by show (cl.slots.size:Int)<2147483648; omega,fun i hi=>by obtain ⟨x,hx⟩:=hel i hi; exact ⟨x,hx,(own_sc_at hx).symm⟩⟩) ⟨⟨Nat.le_refl _,rfl⟩,trivial⟩
 obtain ⟨n,o,h1,h2,h3,L,rfl,N,hq⟩:=hM p e ha hc hk s m _ below hf ((Spec.applies_iff_loose hf).mp happ).1 ⟨rfl,State.Warmed39.refl s,rfl⟩ trivial
 exact ⟨n,_,h1,h2,h3,hpost _ _ _ _ _ _ ⟨Cond.after_iff.mpr rfl,Cond.after_iff.mpr (eq_i res_at (Term.int_eval (1)) rfl),trivial⟩ ⟨hq.1,hq.2.1,(hq.2.2.sift fun y hy=>Or.inr (N y hy)).mono (by decide) (by decide)⟩⟩
theorem main_1_1 : Claimed_1_1 := comes_1 fun _ _ _ _ _ _ h hF => ⟨h.1, hF⟩
theorem main_1_2 : Claimed_1_2 := comes_1 fun _ _ _ _ _ _ h hF => ⟨h.2.1, hF⟩
end Jvm.Pilot.@@N@@
namespace Jvm.Pilot.@@N@@
open Jvm Jvm.ClassFile Sem Op Lib Jvm.Free Jvm.Stand Jvm.Pilot.@@N@@.Jvm.D
/-! MADE BY PROGRAM (witnessworld.py) out of the Statement's table words and the real class files: 11 classes; the members and pool entries that the words name. The judged class is class 1,her method 7. -/
namespace start1
open Jvm.ClassFile
def u (s : String) : CpInfo := .utf8 (stringToUtf16 s)
/-- a pool by its gaps: so many unusable entries,then the entry; so many at the end -/
def gap : Nat → List CpInfo → List CpInfo
  | 0,r => r
  | n + 1,r => .unusable :: gap n r
def poolList (es : List (Nat × CpInfo)) (last : Nat) : List CpInfo := es.foldr (fun e r => gap e.1 (e.2 :: r)) (gap last [])
def us (s : String) : Nat × CpInfo := (0,u s)
def nt (a b : Nat) : Nat × CpInfo := (0,.nameAndType a b)
def fr (a b : Nat) : Nat × CpInfo := (0,.fieldref a b)
def mr (a b : Nat) : Nat × CpInfo := (0,.methodref a b)
def ca (a : Nat) : Nat × CpInfo := (0,.class_ a)
def pool (es : List (Nat × CpInfo)) (last : Nat) : Array CpInfo := ⟨poolList es last⟩
def fileOf (pool : Array CpInfo) (this : Nat) (attrs : Array Attribute := #[]) (ms : Array MethodInfo := #[]) (fl : Nat := 33) (sup : Nat := 0) (ifs : Array Nat := #[]) (fds : Array FieldInfo := #[]) : ClassFile where
  minorVersion := 0
  majorVersion := 65
  constantPool := pool
  accessFlags := fl
  thisClass := this
  superClass := sup
  interfaces := ifs
  fields := fds
  methods := ms
  attributes := attrs
def plain (name : String) (sup : Option ClassId) : Class where
  name := name
  kind := .ordinary
  loader := none
  accessFlags := 33
  super := sup
  interfaces := #[]
  cf := none
  fields := #[]
  methods := #[]
  instanceTypes := #[]
  staticTypes := #[]
  resolved := #[]
  callSites := []
  init := .initialized
  statics := none
  mirror := none
def pool0 : Array CpInfo := pool [(5,u "<init>"),us "()V",(1,.class_ 10),(1,u "java/lang/Object")] 113
def k0c0 : Code := ⟨0,1,object_method_1_code,#[],#[]⟩
def k0m0 : Method := ⟨"<init>","()V",⟨[],none⟩,1,some k0c0⟩
/-- java/lang/Object -/
def k0 : Class := { plain "java/lang/Object" none with
  accessFlags := 33
  interfaces := #[]
  cf := some (fileOf pool0 8 #[] #[⟨1,5,6,#[]⟩] 33 0 #[] #[])
  fields := #[]
  methods := #[k0m0]
  instanceTypes := #[]
  staticTypes := #[]
  resolved := Array.replicate 124 none
  statics := none }
def pool1 : Array CpInfo := pool [(2,.class_ 4),nt 5 6,us "java/lang/Object",us "<init>",us "()V",(0,.long 65535),(1,.integer 39321),mr 11 12,ca 13,nt 14 15,us "GllForestParserOwnLaw",us "rc",us "(JJJI)I",mr 11 17,nt 18 19,us "mlOf",us "(II)I",(0,.long 7),(1,.long 15),(1,.methodref 11 25),nt 26 27,us "sim",us "(JJJIIIIJI)I",(0,.long 18446744073709551615),(1,.class_ 31),us "GllForestParser",mr 30 3,mr 11 34,nt 35 36,us "cell",us "([II)I",mr 30 38,nt 39 40,us "beginRule",us "(I)I",mr 30 42,nt 43 40,us "addSymbol",mr 30 45,nt 46 40,us "ruleLhs",mr 30 48,nt 49 40,us "ruleLength",mr 30 51,nt 52 19,us "ruleSymbol",mr 11 54,nt 55 15,us "minLens",mr 30 57,nt 58 6,us "clearInput",mr 30 60,nt 61 40,us "addToken",mr 30 63,nt 64 40,us "inputToken",mr 30 66,nt 67 68,us "parse",us "()I",mr 30 70,nt 71 68,us "count",mr 11 73,nt 74 75,us "enumerate",us "(JJJIIII)J",(0,.long 1000000),(1,.integer 1000000),(0,.integer 2147483647),mr 30 81,nt 82 40,us "selectTree",mr 30 84,nt 85 68,us "treeSize",mr 30 87,nt 88 40,us "treeRule",mr 30 90,nt 91 40,us "treeStart",mr 30 93,nt 94 40,us "treeEnd",(3,u "law"),us "([I)Z"] 4
def k1m0 : Method := ⟨"<init>","()V",⟨[],none⟩,1,none⟩
def k1c1 : Code := ⟨2,2,method_2_code,#[],#[]⟩
def k1m1 : Method := ⟨"cell","([II)I",⟨[(.array .int),.int],some .int⟩,10,some k1c1⟩
def k1c2 : Code := ⟨4,9,method_3_code,#[],#[]⟩
def k1m2 : Method := ⟨"rc","(JJJI)I",⟨[.long,.long,.long,.int],some .int⟩,10,some k1c2⟩
def k1c3 : Code := ⟨3,2,method_4_code,#[],#[]⟩
def k1m3 : Method := ⟨"mlOf","(II)I",⟨[.int,.int],some .int⟩,10,some k1c3⟩
def k1c4 : Code := ⟨7,16,method_5_code,#[],#[]⟩
def k1m4 : Method := ⟨"minLens","(JJJI)I",⟨[.long,.long,.long,.int],some .int⟩,10,some k1c4⟩
def k1c5 : Code := ⟨7,27,method_6_code,#[],#[]⟩
def k1m5 : Method := ⟨"sim","(JJJIIIIJI)I",⟨[.long,.long,.long,.int,.int,.int,.int,.long,.int],some .int⟩,10,some k1c5⟩
def k1c6 : Code := ⟨13,21,method_7_code,#[],#[]⟩
def k1m6 : Method := ⟨"enumerate","(JJJIIII)J",⟨[.long,.long,.long,.int,.int,.int,.int],some .long⟩,10,some k1c6⟩
def k1c7 : Code := ⟨10,38,code,#[],#[]⟩
def k1m7 : Method := ⟨"law","([I)Z",⟨[(.array .int)],some .boolean⟩,9,some k1c7⟩
/-- GllForestParserOwnLaw -/
def k1 : Class := { plain "GllForestParserOwnLaw" (some 0) with
  accessFlags := 49
  interfaces := #[]
  cf := some (fileOf pool1 11 #[] #[⟨1,5,6,#[]⟩,⟨10,35,36,#[]⟩,⟨10,14,15,#[]⟩,⟨10,18,19,#[]⟩,⟨10,55,15,#[]⟩,⟨10,26,27,#[]⟩,⟨10,74,75,#[]⟩,⟨9,98,99,#[]⟩] 49 2 #[] #[])
  fields := #[]
  methods := #[k1m0,k1m1,k1m2,k1m3,k1m4,k1m5,k1m6,k1m7]
  instanceTypes := #[]
  staticTypes := #[]
  resolved := Array.replicate 104 none
  statics := none }
def pool2 : Array CpInfo := pool [(1,.methodref 2 3),ca 4,nt 5 6,us "java/lang/Object",us "<init>",us "()V",fr 8 9,ca 10,nt 11 12,us "GllForestParser",us "rLhs",us "[I",fr 8 14,nt 15 12,us "rLen",fr 8 17,nt 18 12,us "rSym",fr 8 20,nt 21 12,us "tok",fr 8 23,nt 24 12,us "cnt",fr 8 26,nt 27 12,us "wt",fr 8 29,nt 30 31,us "nullable",us "[Z",fr 8 33,nt 34 31,us "reach",fr 8 36,nt 37 12,us "tRule",fr 8 39,nt 40 12,us "tStart",fr 8 42,nt 43 12,us "tEnd",fr 8 45,nt 46 12,us "bRule",fr 8 48,nt 49 12,us "bStart",fr 8 51,nt 52 12,us "bEnd",fr 8 54,nt 55 12,us "sA",fr 8 57,nt 58 12,us "sI",fr 8 60,nt 61 12,us "sJ",fr 8 63,nt 64 12,us "sK",fr 8 66,nt 67 12,us "cSym",fr 8 69,nt 70 12,us "cS",fr 8 72,nt 73 12,us "cE",fr 8 75,nt 76 12,us "cK",fr 8 78,nt 79 80,us "ruleCount",us "I",fr 8 82,nt 83 80,us "n",fr 8 85,nt 86 87,us "parsed",us "Z",fr 8 89,nt 90 80,us "stored",fr 8 92,nt 93 80,us "tSize",fr 8 95,nt 96 80,us "sp",fr 8 98,nt 99 80,us "selK",mr 8 101,nt 102 6,us "invalidate",mr 8 104,nt 105 106,us "ruleExists",us "(I)Z",mr 8 108,nt 109 6,us "computeNullable",mr 8 111,nt 112 6,us "computeReach",mr 8 114,nt 115 116,us "isCyclic",us "()Z",mr 8 118,nt 119 6,us "computeTables",mr 8 121,nt 122 123,us "cntAt",us "(III)I",(0,.integer 1000000),mr 8 126,nt 127 128,us "buildTree",us "(I)I",mr 8 130,nt 131 106,us "nodeExists",(0,.long 1000000),(1,.methodref 8 135),nt 136 137,us "spanOk",us "(II)Z",mr 8 139,nt 140 137,us "othersNullable",mr 8 142,nt 143 144,us "addEdges",us "(I)V",mr 8 146,nt 147 148,us "computeSpan",us "(II)V",mr 8 150,nt 151 152,us "setCnt",us "(IIII)V",mr 8 154,nt 155 156,us "computeRuleAt",us "(III)V",mr 8 158,nt 159 123,us "sumRules",mr 8 161,nt 162 163,us "symAt",us "(II)I",mr 8 165,nt 166 167,us "wAt",us "(IIII)I",mr 8 169,nt 170 123,us "symCount",mr 8 172,nt 173 163,us "satMul",mr 8 175,nt 176 163,us "satAdd",mr 8 178,nt 179 180,us "setW",us "(IIIII)V",mr 8 182,nt 183 184,us "push",us "(IIII)Z",mr 8 186,nt 187 167,us "chooseRule",mr 8 189,nt 190 184,us "splitChildren",mr 8 192,nt 193 137,us "pushChildren",mr 8 195,nt 196 197,us "pickChild",us "(IIIIII)Z",us "MAX_NONTERMINALS",(2,u "MAX_TOKENS"),us "MAX_RULES",(1,u "MAX_RULE_LEN"),(1,u "MAX_INPUT"),(1,u "MAX_TREE"),(1,u "CAP"),us "REJECT",(1,u "ACCEPT"),(1,u "ERR_RANGE"),(1,u "ERR_FULL"),(1,u "ERR_NO_RULE"),(1,u "ERR_CYCLIC"),(1,u "NOT_PARSED"),(1,u "ERR_SATURATED"),(1,u "ERR_RANK"),(1,u "ERR_TOO_BIG"),(4,u "clearInput"),us "beginRule",(1,u "addSymbol"),us "addToken",us "ruleLhs",us "ruleLength",us "ruleSymbol",us "inputToken",us "parse",us "()I",us "count",us "selectTree",us "treeSize",us "treeRule",us "treeStart",us "treeEnd"] 2
def k2c0 : Code := ⟨2,1,prog_1_method_1_code,#[],#[]⟩
def k2m0 : Method := ⟨"<init>","()V",⟨[],none⟩,1,some k2c0⟩
def k2c1 : Code := ⟨2,1,prog_1_method_3_code,#[],#[]⟩
def k2m1 : Method := ⟨"clearInput","()V",⟨[],none⟩,1,some k2c1⟩
def k2c2 : Code := ⟨3,2,prog_1_method_4_code,#[],#[]⟩
def k2m2 : Method := ⟨"beginRule","(I)I",⟨[.int],some .int⟩,1,some k2c2⟩
def k2c3 : Code := ⟨4,4,prog_1_method_5_code,#[],#[]⟩
def k2m3 : Method := ⟨"addSymbol","(I)I",⟨[.int],some .int⟩,1,some k2c3⟩
def k2c4 : Code := ⟨3,2,prog_1_method_6_code,#[],#[]⟩
def k2m4 : Method := ⟨"addToken","(I)I",⟨[.int],some .int⟩,1,some k2c4⟩
def k2c5 : Code := ⟨2,2,prog_1_method_7_code,#[],#[]⟩
def k2m5 : Method := ⟨"ruleLhs","(I)I",⟨[.int],some .int⟩,1,some k2c5⟩
def k2c6 : Code := ⟨2,2,prog_1_method_8_code,#[],#[]⟩
def k2m6 : Method := ⟨"ruleLength","(I)I",⟨[.int],some .int⟩,1,some k2c6⟩
def k2c7 : Code := ⟨3,3,prog_1_method_9_code,#[],#[]⟩
def k2m7 : Method := ⟨"ruleSymbol","(II)I",⟨[.int,.int],some .int⟩,1,some k2c7⟩
def k2c8 : Code := ⟨2,2,prog_1_method_10_code,#[],#[]⟩
def k2m8 : Method := ⟨"inputToken","(I)I",⟨[.int],some .int⟩,1,some k2c8⟩
def k2c9 : Code := ⟨5,1,prog_1_method_11_code,#[],#[]⟩
def k2m9 : Method := ⟨"parse","()I",⟨[],some .int⟩,1,some k2c9⟩
def k2c10 : Code := ⟨1,1,prog_1_method_12_code,#[],#[]⟩
def k2m10 : Method := ⟨"count","()I",⟨[],some .int⟩,1,some k2c10⟩
def k2c11 : Code := ⟨4,4,prog_1_method_13_code,#[],#[]⟩
def k2m11 : Method := ⟨"selectTree","(I)I",⟨[.int],some .int⟩,1,some k2c11⟩
def k2c12 : Code := ⟨1,1,prog_1_method_14_code,#[],#[]⟩
def k2m12 : Method := ⟨"treeSize","()I",⟨[],some .int⟩,1,some k2c12⟩
def k2c13 : Code := ⟨2,2,prog_1_method_15_code,#[],#[]⟩
def k2m13 : Method := ⟨"treeRule","(I)I",⟨[.int],some .int⟩,1,some k2c13⟩
def k2c14 : Code := ⟨2,2,prog_1_method_16_code,#[],#[]⟩
def k2m14 : Method := ⟨"treeStart","(I)I",⟨[.int],some .int⟩,1,some k2c14⟩
def k2c15 : Code := ⟨2,2,prog_1_method_17_code,#[],#[]⟩
def k2m15 : Method := ⟨"treeEnd","(I)I",⟨[.int],some .int⟩,1,some k2c15⟩
def k2c16 : Code := ⟨2,1,prog_1_method_18_code,#[],#[]⟩
def k2m16 : Method := ⟨"invalidate","()V",⟨[],none⟩,2,some k2c16⟩
def k2c17 : Code := ⟨2,2,prog_1_method_19_code,#[],#[]⟩
def k2m17 : Method := ⟨"ruleExists","(I)Z",⟨[.int],some .boolean⟩,2,some k2c17⟩
def k2c18 : Code := ⟨2,2,prog_1_method_20_code,#[],#[]⟩
def k2m18 : Method := ⟨"nodeExists","(I)Z",⟨[.int],some .boolean⟩,2,some k2c18⟩
def k2c19 : Code := ⟨4,5,prog_1_method_21_code,#[],#[]⟩
def k2m19 : Method := ⟨"satAdd","(II)I",⟨[.int,.int],some .int⟩,2,some k2c19⟩
def k2c20 : Code := ⟨4,5,prog_1_method_22_code,#[],#[]⟩
def k2m20 : Method := ⟨"satMul","(II)I",⟨[.int,.int],some .int⟩,2,some k2c20⟩
def k2c21 : Code := ⟨2,3,prog_1_method_23_code,#[],#[]⟩
def k2m21 : Method := ⟨"spanOk","(II)Z",⟨[.int,.int],some .boolean⟩,2,some k2c21⟩
def k2c22 : Code := ⟨3,4,prog_1_method_24_code,#[],#[]⟩
def k2m22 : Method := ⟨"cntAt","(III)I",⟨[.int,.int,.int],some .int⟩,2,some k2c22⟩
def k2c23 : Code := ⟨3,5,prog_1_method_25_code,#[],#[]⟩
def k2m23 : Method := ⟨"setCnt","(IIII)V",⟨[.int,.int,.int,.int],none⟩,2,some k2c23⟩
def k2c24 : Code := ⟨3,5,prog_1_method_26_code,#[],#[]⟩
def k2m24 : Method := ⟨"wAt","(IIII)I",⟨[.int,.int,.int,.int],some .int⟩,2,some k2c24⟩
def k2c25 : Code := ⟨3,6,prog_1_method_27_code,#[],#[]⟩
def k2m25 : Method := ⟨"setW","(IIIII)V",⟨[.int,.int,.int,.int,.int],none⟩,2,some k2c25⟩
def k2c26 : Code := ⟨3,3,prog_1_method_28_code,#[],#[]⟩
def k2m26 : Method := ⟨"symAt","(II)I",⟨[.int,.int],some .int⟩,2,some k2c26⟩
def k2c27 : Code := ⟨4,4,prog_1_method_29_code,#[],#[]⟩
def k2m27 : Method := ⟨"symCount","(III)I",⟨[.int,.int,.int],some .int⟩,2,some k2c27⟩
def k2c28 : Code := ⟨3,6,prog_1_method_30_code,#[],#[]⟩
def k2m28 : Method := ⟨"othersNullable","(II)Z",⟨[.int,.int],some .boolean⟩,2,some k2c28⟩
def k2c29 : Code := ⟨3,5,prog_1_method_31_code,#[],#[]⟩
def k2m29 : Method := ⟨"computeNullable","()V",⟨[],none⟩,2,some k2c29⟩
def k2c30 : Code := ⟨3,6,prog_1_method_32_code,#[],#[]⟩
def k2m30 : Method := ⟨"addEdges","(I)V",⟨[.int],none⟩,2,some k2c30⟩
def k2c31 : Code := ⟨3,5,prog_1_method_33_code,#[],#[]⟩
def k2m31 : Method := ⟨"computeReach","()V",⟨[],none⟩,2,some k2c31⟩
def k2c32 : Code := ⟨3,2,prog_1_method_34_code,#[],#[]⟩
def k2m32 : Method := ⟨"isCyclic","()Z",⟨[],some .boolean⟩,2,some k2c32⟩
def k2c33 : Code := ⟨4,3,prog_1_method_35_code,#[],#[]⟩
def k2m33 : Method := ⟨"computeTables","()V",⟨[],none⟩,2,some k2c33⟩
def k2c34 : Code := ⟨5,6,prog_1_method_36_code,#[],#[]⟩
def k2m34 : Method := ⟨"computeSpan","(II)V",⟨[.int,.int],none⟩,2,some k2c34⟩
def k2c35 : Code := ⟨6,12,prog_1_method_37_code,#[],#[]⟩
def k2m35 : Method := ⟨"computeRuleAt","(III)V",⟨[.int,.int,.int],none⟩,2,some k2c35⟩
def k2c36 : Code := ⟨5,7,prog_1_method_38_code,#[],#[]⟩
def k2m36 : Method := ⟨"sumRules","(III)I",⟨[.int,.int,.int],some .int⟩,2,some k2c36⟩
def k2c37 : Code := ⟨3,5,prog_1_method_39_code,#[],#[]⟩
def k2m37 : Method := ⟨"push","(IIII)Z",⟨[.int,.int,.int,.int],some .boolean⟩,2,some k2c37⟩
def k2c38 : Code := ⟨6,8,prog_1_method_40_code,#[],#[]⟩
def k2m38 : Method := ⟨"buildTree","(I)I",⟨[.int],some .int⟩,2,some k2c38⟩
def k2c39 : Code := ⟨5,8,prog_1_method_41_code,#[],#[]⟩
def k2m39 : Method := ⟨"chooseRule","(IIII)I",⟨[.int,.int,.int,.int],some .int⟩,2,some k2c39⟩
def k2c40 : Code := ⟨7,10,prog_1_method_42_code,#[],#[]⟩
def k2m40 : Method := ⟨"splitChildren","(IIII)Z",⟨[.int,.int,.int,.int],some .boolean⟩,2,some k2c40⟩
def k2c41 : Code := ⟨5,12,prog_1_method_43_code,#[],#[]⟩
def k2m41 : Method := ⟨"pickChild","(IIIIII)Z",⟨[.int,.int,.int,.int,.int,.int],some .boolean⟩,2,some k2c41⟩
def k2c42 : Code := ⟨7,6,prog_1_method_44_code,#[],#[]⟩
def k2m42 : Method := ⟨"pushChildren","(II)Z",⟨[.int,.int],some .boolean⟩,2,some k2c42⟩
/-- GllForestParser -/
def k2 : Class := { plain "GllForestParser" (some 0) with
  accessFlags := 49
  interfaces := #[]
  cf := some (fileOf pool2 8 #[] #[⟨1,5,6,#[]⟩,⟨1,234,6,#[]⟩,⟨1,235,128,#[]⟩,⟨1,237,128,#[]⟩,⟨1,238,128,#[]⟩,⟨1,239,128,#[]⟩,⟨1,240,128,#[]⟩,⟨1,241,163,#[]⟩,⟨1,242,128,#[]⟩,⟨1,243,244,#[]⟩,⟨1,245,244,#[]⟩,⟨1,246,128,#[]⟩,⟨1,247,244,#[]⟩,⟨1,248,128,#[]⟩,⟨1,249,128,#[]⟩,⟨1,250,128,#[]⟩,⟨2,102,6,#[]⟩,⟨2,105,106,#[]⟩,⟨2,131,106,#[]⟩,⟨2,176,163,#[]⟩,⟨2,173,163,#[]⟩,⟨2,136,137,#[]⟩,⟨2,122,123,#[]⟩,⟨2,151,152,#[]⟩,⟨2,166,167,#[]⟩,⟨2,179,180,#[]⟩,⟨2,162,163,#[]⟩,⟨2,170,123,#[]⟩,⟨2,140,137,#[]⟩,⟨2,109,6,#[]⟩,⟨2,143,144,#[]⟩,⟨2,112,6,#[]⟩,⟨2,115,116,#[]⟩,⟨2,119,6,#[]⟩,⟨2,147,148,#[]⟩,⟨2,155,156,#[]⟩,⟨2,159,123,#[]⟩,⟨2,183,184,#[]⟩,⟨2,127,128,#[]⟩,⟨2,187,167,#[]⟩,⟨2,190,184,#[]⟩,⟨2,196,197,#[]⟩,⟨2,193,137,#[]⟩] 49 2 #[] #[⟨25,198,80,#[]⟩,⟨25,201,80,#[]⟩,⟨25,202,80,#[]⟩,⟨25,204,80,#[]⟩,⟨25,206,80,#[]⟩,⟨25,208,80,#[]⟩,⟨25,210,80,#[]⟩,⟨25,211,80,#[]⟩,⟨25,213,80,#[]⟩,⟨25,215,80,#[]⟩,⟨25,217,80,#[]⟩,⟨25,219,80,#[]⟩,⟨25,221,80,#[]⟩,⟨25,223,80,#[]⟩,⟨25,225,80,#[]⟩,⟨25,227,80,#[]⟩,⟨25,229,80,#[]⟩,⟨2,11,12,#[]⟩,⟨2,15,12,#[]⟩,⟨2,18,12,#[]⟩,⟨2,79,80,#[]⟩,⟨2,21,12,#[]⟩,⟨2,83,80,#[]⟩,⟨2,86,87,#[]⟩,⟨2,90,80,#[]⟩,⟨2,24,12,#[]⟩,⟨2,27,12,#[]⟩,⟨2,30,31,#[]⟩,⟨2,34,31,#[]⟩,⟨2,37,12,#[]⟩,⟨2,40,12,#[]⟩,⟨2,43,12,#[]⟩,⟨2,93,80,#[]⟩,⟨2,46,12,#[]⟩,⟨2,49,12,#[]⟩,⟨2,52,12,#[]⟩,⟨2,55,12,#[]⟩,⟨2,58,12,#[]⟩,⟨2,61,12,#[]⟩,⟨2,64,12,#[]⟩,⟨2,96,80,#[]⟩,⟨2,67,12,#[]⟩,⟨2,70,12,#[]⟩,⟨2,73,12,#[]⟩,⟨2,76,12,#[]⟩,⟨2,99,80,#[]⟩])
  fields := #[⟨"MAX_NONTERMINALS",.int,25,0,0⟩,⟨"MAX_TOKENS",.int,25,1,0⟩,⟨"MAX_RULES",.int,25,2,0⟩,⟨"MAX_RULE_LEN",.int,25,3,0⟩,⟨"MAX_INPUT",.int,25,4,0⟩,⟨"MAX_TREE",.int,25,5,0⟩,⟨"CAP",.int,25,6,0⟩,⟨"REJECT",.int,25,7,0⟩,⟨"ACCEPT",.int,25,8,0⟩,⟨"ERR_RANGE",.int,25,9,0⟩,⟨"ERR_FULL",.int,25,10,0⟩,⟨"ERR_NO_RULE",.int,25,11,0⟩,⟨"ERR_CYCLIC",.int,25,12,0⟩,⟨"NOT_PARSED",.int,25,13,0⟩,⟨"ERR_SATURATED",.int,25,14,0⟩,⟨"ERR_RANK",.int,25,15,0⟩,⟨"ERR_TOO_BIG",.int,25,16,0⟩,⟨"rLhs",(.array .int),2,0,0⟩,⟨"rLen",(.array .int),2,1,0⟩,⟨"rSym",(.array .int),2,2,0⟩,⟨"ruleCount",.int,2,3,0⟩,⟨"tok",(.array .int),2,4,0⟩,⟨"n",.int,2,5,0⟩,⟨"parsed",.boolean,2,6,0⟩,⟨"stored",.int,2,7,0⟩,⟨"cnt",(.array .int),2,8,0⟩,⟨"wt",(.array .int),2,9,0⟩,⟨"nullable",(.array .boolean),2,10,0⟩,⟨"reach",(.array .boolean),2,11,0⟩,⟨"tRule",(.array .int),2,12,0⟩,⟨"tStart",(.array .int),2,13,0⟩,⟨"tEnd",(.array .int),2,14,0⟩,⟨"tSize",.int,2,15,0⟩,⟨"bRule",(.array .int),2,16,0⟩,⟨"bStart",(.array .int),2,17,0⟩,⟨"bEnd",(.array .int),2,18,0⟩,⟨"sA",(.array .int),2,19,0⟩,⟨"sI",(.array .int),2,20,0⟩,⟨"sJ",(.array .int),2,21,0⟩,⟨"sK",(.array .int),2,22,0⟩,⟨"sp",.int,2,23,0⟩,⟨"cSym",(.array .int),2,24,0⟩,⟨"cS",(.array .int),2,25,0⟩,⟨"cE",(.array .int),2,26,0⟩,⟨"cK",(.array .int),2,27,0⟩,⟨"selK",.int,2,28,0⟩]
  methods := #[k2m0,k2m1,k2m2,k2m3,k2m4,k2m5,k2m6,k2m7,k2m8,k2m9,k2m10,k2m11,k2m12,k2m13,k2m14,k2m15,k2m16,k2m17,k2m18,k2m19,k2m20,k2m21,k2m22,k2m23,k2m24,k2m25,k2m26,k2m27,k2m28,k2m29,k2m30,k2m31,k2m32,k2m33,k2m34,k2m35,k2m36,k2m37,k2m38,k2m39,k2m40,k2m41,k2m42]
  instanceTypes := #[(.array .int),(.array .int),(.array .int),.int,(.array .int),.int,.boolean,.int,(.array .int),(.array .int),(.array .boolean),(.array .boolean),(.array .int),(.array .int),(.array .int),.int,(.array .int),(.array .int),(.array .int),(.array .int),(.array .int),(.array .int),(.array .int),.int,(.array .int),(.array .int),(.array .int),(.array .int),.int]
  staticTypes := #[.int,.int,.int,.int,.int,.int,.int,.int,.int,.int,.int,.int,.int,.int,.int,.int,.int]
  resolved := Array.replicate 253 none
  statics := none }
def pool3 : Array CpInfo := pool [(1,u "java/lang/Cloneable"),ca 1,us "java/lang/Object",ca 3] 3
/-- java/lang/Cloneable -/
def k3 : Class := { plain "java/lang/Cloneable" (some 0) with
  accessFlags := 1537
  interfaces := #[]
  cf := some (fileOf pool3 2 #[] #[] 1537 4 #[] #[])
  fields := #[]
  methods := #[]
  instanceTypes := #[]
  staticTypes := #[]
  resolved := Array.replicate 8 none
  statics := none }
def pool4 : Array CpInfo := pool [(1,u "java/io/Serializable"),ca 1,us "java/lang/Object",ca 3] 3
/-- java/io/Serializable -/
def k4 : Class := { plain "java/io/Serializable" (some 0) with
  accessFlags := 1537
  interfaces := #[]
  cf := some (fileOf pool4 2 #[] #[] 1537 4 #[] #[])
  fields := #[]
  methods := #[]
  instanceTypes := #[]
  staticTypes := #[]
  resolved := Array.replicate 8 none
  statics := none }
/-- the primitive boolean -/
def k5 : Class := { plain "boolean" none with kind := .primitive 'Z',accessFlags := 0x411 }
/-- [Z -/
def k6 : Class := { plain "[Z" (some 0) with kind := .array 5 .boolean,interfaces := #[3,4],accessFlags := 1041 }
/-- the primitive byte -/
def k7 : Class := { plain "byte" none with kind := .primitive 'B',accessFlags := 0x411 }
/-- [B -/
def k8 : Class := { plain "[B" (some 0) with kind := .array 7 .byte,interfaces := #[3,4],accessFlags := 1041 }
/-- the primitive int -/
def k9 : Class := { plain "int" none with kind := .primitive 'I',accessFlags := 0x411 }
/-- [I -/
def k10 : Class := { plain "[I" (some 0) with kind := .array 9 .int,interfaces := #[3,4],accessFlags := 1041 }
def heap : Heap := #[{ cls := 10,slots := #[.int 0,.int 3],vm := .none }]
def classes : Array Class := #[k0,k1,k2,k3,k4,k5,k6,k7,k8,k9,k10]
def interned : List (Array UInt16 × Addr) := []
def slotsUsed : Nat := 2
def theMethod : MethodId := ⟨1,7⟩
def args0 : Array Value := #[.ref 0]
def aboutOver (below : List Frame) : State where
  vm := { classes := classes,interned := interned.toArray }
  heap := heap
  slotsUsed := slotsUsed
  threads := #[{ frames := .invoking theMethod args0 :: below }]
def below0 : List Frame := [.native { method := ⟨0,0⟩,args := #[] }]
def about1 : State := aboutOver below0
def p0 : Program := .bare "" "" ""
def e0 : Env := launch0.env 0 0 0
theorem w_frames : about1.frames = Frame.invoking theMethod args0 :: below0 := rfl
theorem w_args : argsFit about1.vm theMethod args0 = true := by decide +kernel
theorem w_heap : heapFits about1 = true := by decide +kernel
theorem w_runnable : about1.curStatus? = some .runnable := by decide +kernel
theorem w_alone : about1.alone = true := by decide +kernel
theorem w_named : about1.methodNamed? x = some theMethod := by decide +kernel
theorem w_hears : about1.hears theMethod below0 = true := by decide +kernel
theorem w_ripe : about1.ripe theMethod args0 below0 = true := by decide +kernel
theorem w_running : about1.status = .running := rfl
theorem w_room : about1.hasRoom e0.platform room_1 = true :=
  launch0.hasRoom_least _ room_1 (by decide +kernel) (by decide +kernel) (by decide +kernel) (by decide +kernel) (by decide +kernel) (by decide +kernel)
theorem allAtoms_all (ts : List Jvm.Cond) (a : Array Jvm.Value) (st : Jvm.State) : (allAtoms ts).before a st = ts.all (fun c => c.before a st) := by
  induction ts with
  | nil => rfl
  | cons c t ih =>
    show (Jvm.Cond.and c (allAtoms t)).before a st = _
    rw [Jvm.Cond.before_and,ih,List.all_cons]
def words1 : List Jvm.Cond := Jvm.Cond.code x code maxLocals ret :: tables_1
/-- a 'code' word,met by the world's own term for the bytes: nothing is compared byte by byte -/
theorem code_word {y : MethodName} {bytes : ByteArray} {mx : Nat} {rt : Option FieldType} {a : Array Value} {s : State} {m : MethodId} {meth : Method} {c : Code} (h1 : s.methodNamed? y = some m) (h2 : s.vm.method? m = some meth) (h3 : meth.code = some c) (h4 : c.code = bytes)
    (h5 : (c.maxLocals == mx && c.exceptionTable.isEmpty && decide (c.maxStack ≤ mostOperands) && decide (meth.sig.returnType = rt) && !meth.locks && decide (parseMethodDescriptor y.desc = some meth.sig)) = true) : (Jvm.Cond.code y bytes mx rt).before a s = true := by
  simp only [Bool.and_eq_true,beq_iff_eq,Bool.not_eq_true',decide_eq_true_eq] at h5
  obtain ⟨⟨⟨⟨⟨g1,g2⟩,g3⟩,g4⟩,g5⟩,g6⟩ := h5
  simp [Cond.before,Cond.holds,Cond.value,h1,h2,h3,h4,g1,g2,g3,g4,g5,g6]
def isCode : Jvm.Cond → Bool
  | .code _ _ _ _ => true
  | _ => false
theorem all_split {L : List Jvm.Cond} {P : Jvm.Cond → Bool} (h1 : L.all (fun c => isCode c || P c) = true) (h2 : ∀ c ∈ L.filter isCode,P c = true) : L.all P = true := by
  refine List.all_eq_true.mpr fun c hc => ?_
  have h := List.all_eq_true.mp h1 c hc
  rcases Bool.eq_false_or_eq_true (isCode c) with hi | hi
  · exact h2 c (List.mem_filter.mpr ⟨hc,hi⟩)
  · simpa [hi] using h
abbrev cW (n d : String) (b : ByteArray) (k : Nat) (r : Option FieldType) : Jvm.Cond := .code ⟨"GllForestParser",n,d⟩ b k r
theorem fN {P : Jvm.Cond → Prop} : ∀ c ∈ ([] : List Jvm.Cond),P c := fun _ h => nomatch h
theorem fC {P : Jvm.Cond → Prop} {a : Jvm.Cond} {l : List Jvm.Cond} (h : P a) (t : ∀ c ∈ l,P c) : ∀ c ∈ a :: l,P c := fun c hc => (List.mem_cons.mp hc).elim (fun e => e ▸ h) (t c)
theorem cw (i j : Nat) (meth : Method) (c : Code) {y : MethodName} {bytes : ByteArray} {mx : Nat} {rt : Option FieldType} (h2 : about1.vm.method? ⟨i,j⟩ = some meth) (h3 : meth.code = some c) (h4 : c.code = bytes) (h1 : about1.methodNamed? y = some ⟨i,j⟩) (h5 : (c.maxLocals == mx && c.exceptionTable.isEmpty && decide (c.maxStack ≤ mostOperands) && decide (meth.sig.returnType = rt) && !meth.locks && decide (parseMethodDescriptor y.desc = some meth.sig)) = true) : (Jvm.Cond.code y bytes mx rt).before args0 about1 = true := code_word h1 h2 h3 h4 h5
theorem chk {L : List Jvm.Cond} {P : Jvm.Cond → Bool} (h : (L.take 24).all P = true) (t : (L.drop 24).all P = true) : L.all P = true := by rw [← List.take_append_drop 24 L,List.all_append,h,t]; rfl
def codes1 : List Jvm.Cond := [Jvm.Cond.code x code maxLocals ret,cW "<init>" "()V" prog_1_method_1_code 1 none,Jvm.Cond.code ⟨"java/lang/Object","<init>","()V"⟩ object_method_1_code 1 none,Jvm.Cond.code ⟨"GllForestParserOwnLaw","cell","([II)I"⟩ method_2_code 2 (some .int),cW "beginRule" "(I)I" prog_1_method_4_code 2 (some .int),cW "invalidate" "()V" prog_1_method_18_code 1 none,cW "addSymbol" "(I)I" prog_1_method_5_code 4 (some .int),cW "ruleLhs" "(I)I" prog_1_method_7_code 2 (some .int),cW "ruleExists" "(I)Z" prog_1_method_19_code 2 (some .boolean),cW "ruleLength" "(I)I" prog_1_method_8_code 2 (some .int),cW "ruleSymbol" "(II)I" prog_1_method_9_code 3 (some .int),Jvm.Cond.code ⟨"GllForestParserOwnLaw","minLens","(JJJI)I"⟩ method_5_code 16 (some .int),Jvm.Cond.code ⟨"GllForestParserOwnLaw","rc","(JJJI)I"⟩ method_3_code 9 (some .int),Jvm.Cond.code ⟨"GllForestParserOwnLaw","mlOf","(II)I"⟩ method_4_code 2 (some .int),cW "clearInput" "()V" prog_1_method_3_code 1 none,cW "addToken" "(I)I" prog_1_method_6_code 2 (some .int),cW "inputToken" "(I)I" prog_1_method_10_code 2 (some .int),cW "parse" "()I" prog_1_method_11_code 1 (some .int),cW "computeNullable" "()V" prog_1_method_31_code 5 none,cW "othersNullable" "(II)Z" prog_1_method_30_code 6 (some .boolean),cW "computeReach" "()V" prog_1_method_33_code 5 none,cW "addEdges" "(I)V" prog_1_method_32_code 6 none,cW "isCyclic" "()Z" prog_1_method_34_code 2 (some .boolean),cW "computeTables" "()V" prog_1_method_35_code 3 none,cW "computeSpan" "(II)V" prog_1_method_36_code 6 none,cW "setCnt" "(IIII)V" prog_1_method_25_code 5 none,cW "spanOk" "(II)Z" prog_1_method_23_code 3 (some .boolean),cW "computeRuleAt" "(III)V" prog_1_method_37_code 12 none,cW "symAt" "(II)I" prog_1_method_28_code 3 (some .int),cW "wAt" "(IIII)I" prog_1_method_26_code 5 (some .int),cW "symCount" "(III)I" prog_1_method_29_code 4 (some .int),cW "cntAt" "(III)I" prog_1_method_24_code 4 (some .int),cW "satMul" "(II)I" prog_1_method_22_code 5 (some .int),cW "satAdd" "(II)I" prog_1_method_21_code 5 (some .int),cW "setW" "(IIIII)V" prog_1_method_27_code 6 none,cW "sumRules" "(III)I" prog_1_method_38_code 7 (some .int),cW "count" "()I" prog_1_method_12_code 1 (some .int),Jvm.Cond.code ⟨"GllForestParserOwnLaw","enumerate","(JJJIIII)J"⟩ method_7_code 21 (some .long),Jvm.Cond.code ⟨"GllForestParserOwnLaw","sim","(JJJIIIIJI)I"⟩ method_6_code 27 (some .int),cW "selectTree" "(I)I" prog_1_method_13_code 4 (some .int),cW "buildTree" "(I)I" prog_1_method_40_code 8 (some .int),cW "push" "(IIII)Z" prog_1_method_39_code 5 (some .boolean),cW "chooseRule" "(IIII)I" prog_1_method_41_code 8 (some .int),cW "splitChildren" "(IIII)Z" prog_1_method_42_code 10 (some .boolean),cW "pushChildren" "(II)Z" prog_1_method_44_code 6 (some .boolean),cW "treeSize" "()I" prog_1_method_14_code 1 (some .int),cW "treeRule" "(I)I" prog_1_method_15_code 2 (some .int),cW "nodeExists" "(I)Z" prog_1_method_20_code 2 (some .boolean),cW "treeStart" "(I)I" prog_1_method_16_code 2 (some .int),cW "treeEnd" "(I)I" prog_1_method_17_code 2 (some .int),cW "pickChild" "(IIIIII)Z" prog_1_method_43_code 12 (some .boolean)]
theorem codes_eq : words1.filter isCode = codes1 := rfl
theorem w_codes : ∀ c ∈ words1.filter isCode,c.before args0 about1 = true := by
  rw [codes_eq]
  refine fC (cw 1 7 k1m7 k1c7 rfl rfl rfl (by decide +kernel) (by decide +kernel)) ?_
  refine fC (cw 2 0 k2m0 k2c0 rfl rfl rfl (by decide +kernel) (by decide +kernel)) ?_
  refine fC (cw 0 0 k0m0 k0c0 rfl rfl rfl (by decide +kernel) (by decide +kernel)) ?_
  refine fC (cw 1 1 k1m1 k1c1 rfl rfl rfl (by decide +kernel) (by decide +kernel)) ?_
  refine fC (cw 2 2 k2m2 k2c2 rfl rfl rfl (by decide +kernel) (by decide +kernel)) ?_
  refine fC (cw 2 16 k2m16 k2c16 rfl rfl rfl (by decide +kernel) (by decide +kernel)) ?_
  refine fC (cw 2 3 k2m3 k2c3 rfl rfl rfl (by decide +kernel) (by decide +kernel)) ?_
  refine fC (cw 2 5 k2m5 k2c5 rfl rfl rfl (by decide +kernel) (by decide +kernel)) ?_
  refine fC (cw 2 17 k2m17 k2c17 rfl rfl rfl (by decide +kernel) (by decide +kernel)) ?_
  refine fC (cw 2 6 k2m6 k2c6 rfl rfl rfl (by decide +kernel) (by decide +kernel)) ?_
  refine fC (cw 2 7 k2m7 k2c7 rfl rfl rfl (by decide +kernel) (by decide +kernel)) ?_
  refine fC (cw 1 4 k1m4 k1c4 rfl rfl rfl (by decide +kernel) (by decide +kernel)) ?_
  refine fC (cw 1 2 k1m2 k1c2 rfl rfl rfl (by decide +kernel) (by decide +kernel)) ?_
  refine fC (cw 1 3 k1m3 k1c3 rfl rfl rfl (by decide +kernel) (by decide +kernel)) ?_
  refine fC (cw 2 1 k2m1 k2c1 rfl rfl rfl (by decide +kernel) (by decide +kernel)) ?_
  refine fC (cw 2 4 k2m4 k2c4 rfl rfl rfl (by decide +kernel) (by decide +kernel)) ?_
  refine fC (cw 2 8 k2m8 k2c8 rfl rfl rfl (by decide +kernel) (by decide +kernel)) ?_
  refine fC (cw 2 9 k2m9 k2c9 rfl rfl rfl (by decide +kernel) (by decide +kernel)) ?_
  refine fC (cw 2 29 k2m29 k2c29 rfl rfl rfl (by decide +kernel) (by decide +kernel)) ?_
  refine fC (cw 2 28 k2m28 k2c28 rfl rfl rfl (by decide +kernel) (by decide +kernel)) ?_
  refine fC (cw 2 31 k2m31 k2c31 rfl rfl rfl (by decide +kernel) (by decide +kernel)) ?_
  refine fC (cw 2 30 k2m30 k2c30 rfl rfl rfl (by decide +kernel) (by decide +kernel)) ?_
  refine fC (cw 2 32 k2m32 k2c32 rfl rfl rfl (by decide +kernel) (by decide +kernel)) ?_
  refine fC (cw 2 33 k2m33 k2c33 rfl rfl rfl (by decide +kernel) (by decide +kernel)) ?_
  refine fC (cw 2 34 k2m34 k2c34 rfl rfl rfl (by decide +kernel) (by decide +kernel)) ?_
  refine fC (cw 2 23 k2m23 k2c23 rfl rfl rfl (by decide +kernel) (by decide +kernel)) ?_
  refine fC (cw 2 21 k2m21 k2c21 rfl rfl rfl (by decide +kernel) (by decide +kernel)) ?_
  refine fC (cw 2 35 k2m35 k2c35 rfl rfl rfl (by decide +kernel) (by decide +kernel)) ?_
  refine fC (cw 2 26 k2m26 k2c26 rfl rfl rfl (by decide +kernel) (by decide +kernel)) ?_
  refine fC (cw 2 24 k2m24 k2c24 rfl rfl rfl (by decide +kernel) (by decide +kernel)) ?_
  refine fC (cw 2 27 k2m27 k2c27 rfl rfl rfl (by decide +kernel) (by decide +kernel)) ?_
  refine fC (cw 2 22 k2m22 k2c22 rfl rfl rfl (by decide +kernel) (by decide +kernel)) ?_
  refine fC (cw 2 20 k2m20 k2c20 rfl rfl rfl (by decide +kernel) (by decide +kernel)) ?_
  refine fC (cw 2 19 k2m19 k2c19 rfl rfl rfl (by decide +kernel) (by decide +kernel)) ?_
  refine fC (cw 2 25 k2m25 k2c25 rfl rfl rfl (by decide +kernel) (by decide +kernel)) ?_
  refine fC (cw 2 36 k2m36 k2c36 rfl rfl rfl (by decide +kernel) (by decide +kernel)) ?_
  refine fC (cw 2 10 k2m10 k2c10 rfl rfl rfl (by decide +kernel) (by decide +kernel)) ?_
  refine fC (cw 1 6 k1m6 k1c6 rfl rfl rfl (by decide +kernel) (by decide +kernel)) ?_
  refine fC (cw 1 5 k1m5 k1c5 rfl rfl rfl (by decide +kernel) (by decide +kernel)) ?_
  refine fC (cw 2 11 k2m11 k2c11 rfl rfl rfl (by decide +kernel) (by decide +kernel)) ?_
  refine fC (cw 2 38 k2m38 k2c38 rfl rfl rfl (by decide +kernel) (by decide +kernel)) ?_
  refine fC (cw 2 37 k2m37 k2c37 rfl rfl rfl (by decide +kernel) (by decide +kernel)) ?_
  refine fC (cw 2 39 k2m39 k2c39 rfl rfl rfl (by decide +kernel) (by decide +kernel)) ?_
  refine fC (cw 2 40 k2m40 k2c40 rfl rfl rfl (by decide +kernel) (by decide +kernel)) ?_
  refine fC (cw 2 42 k2m42 k2c42 rfl rfl rfl (by decide +kernel) (by decide +kernel)) ?_
  refine fC (cw 2 12 k2m12 k2c12 rfl rfl rfl (by decide +kernel) (by decide +kernel)) ?_
  refine fC (cw 2 13 k2m13 k2c13 rfl rfl rfl (by decide +kernel) (by decide +kernel)) ?_
  refine fC (cw 2 18 k2m18 k2c18 rfl rfl rfl (by decide +kernel) (by decide +kernel)) ?_
  refine fC (cw 2 14 k2m14 k2c14 rfl rfl rfl (by decide +kernel) (by decide +kernel)) ?_
  refine fC (cw 2 15 k2m15 k2c15 rfl rfl rfl (by decide +kernel) (by decide +kernel)) ?_
  refine fC (cw 2 41 k2m41 k2c41 rfl rfl rfl (by decide +kernel) (by decide +kernel)) ?_
  exact fN
theorem w_tables : (allAtoms (Jvm.Cond.code x code maxLocals ret :: tables_1)).before args0 about1 = true := by
  rw [allAtoms_all]
  show words1.all (fun c => c.before args0 about1) = true
  refine all_split ?_ w_codes
  refine chk (by decide +kernel) ?_
  refine chk (by decide +kernel) ?_
  refine chk (by decide +kernel) ?_
  refine chk (by decide +kernel) ?_
  refine chk (by decide +kernel) ?_
  refine chk (by decide +kernel) ?_
  refine chk (by decide +kernel) ?_
  refine chk (by decide +kernel) ?_
  refine chk (by decide +kernel) ?_
  refine chk (by decide +kernel) ?_
  refine chk (by decide +kernel) ?_
  decide +kernel
theorem w_rest : rest_1_c.before args0 about1 = true := by decide +kernel
theorem w_case : (Jvm.Cond.and given_1 narrow_1).before args0 about1 = true := by decide +kernel
theorem w_applies : (headSpec (Jvm.Cond.code x code maxLocals ret :: tables_1) room_1).applies x e0.platform about1 = true :=
  (Spec.applies_iff w_frames).mpr ⟨w_running,w_runnable,w_alone,w_named,w_hears,w_ripe,w_room,w_tables⟩
theorem atStart : AtStart classFile x code maxLocals ret World_1 tables_1 room_1 Calls_1 rest_1 Pre_1 launch0 p0 e0 about1 theMethod args0 below0 :=
  ⟨lists_1,trivial,launch0.admits_env _ _ _,launch0.least_env,fairChoices_fair.cas,fairChoices_fair.clock,w_frames,w_args,w_heap,w_applies,trivial,w_rest,w_case⟩
end start1
theorem witness_1 : WitnessClaimed_1 := ⟨start1.p0,start1.e0,start1.about1,start1.theMethod,start1.args0,start1.below0,start1.atStart⟩
end Jvm.Pilot.@@N@@
