/- The plain law of CodePrints: what it answers is true,whatever it is handed (part 1 of 1). -/
import Derived.Test.YtoobnbnmmkkioaaCodePrintsWv
set_option linter.unusedVariables false
set_option linter.unusedSimpArgs false
set_option linter.unusedSectionVars false
set_option maxRecDepth 100000
namespace Loom
open Go
theorem zpy (n:Nat):f231 (n+100) ()=some true:=by kernel_rfl
theorem znl {n:Nat} (h:100≤n):f231 n ()=some true:=by
 obtain ⟨m,rfl⟩:∃ m,n=m+100:=⟨n - 100,by omega⟩
 exact zpy m
@[simp] theorem orRet_inl {S R:Type} {A:S→Option R} {s:S}:z3b A (.inl s)=A s:=rfl
@[simp] theorem orRet_inr {S R:Type} {A:S→Option R} {r:R}:z3b A (.inr r)=some r:=rfl
theorem zrs {R:Type} {p:Prop} [Decidable p] {x:Option R} (h:p):need p x=x:=by unfold need; rw [if_pos h]
def mayT (l:List Xa) (t:Xb):Bool :=
 bif t.Kind_==3 then decide (t.Param_≥0) && decide (t.Param_<(l.length:Int)) else (t.Kind_==1 || t.Kind_==2) && t.Param_==0
theorem zqa {n:Nat} (c:Xe) (t:Xb):f31 n (c,t)=some (mayT c.Sign_ t):=by
 rw [zq9]
 unfold mayT
 by_cases h1:t.Kind_=1
 ·simp [h1]
 ·by_cases h2:t.Kind_=2
  ·simp [h2]
  ·by_cases h3:t.Kind_=3
   ·by_cases h4:t.Param_≥0 <;> simp [h3,h4]
   ·have e1:(t.Kind_==1)=false:=by simpa using h1
    have e2:(t.Kind_==2)=false:=by simpa using h2
    have e3:(t.Kind_==3)=false:=by simpa using h3
    simp [e1,e2,e3]
def ziq (x:Int):Bool:=decide (x % 2147483648≤2139095040) || x==2143289344
theorem zjo {m:Nat} (h:m<4294967296):IntKind.u32.wrap (m:Int)=m:=by
 have:IntKind.u32.wrap (m:Int)=(m:Int) % 4294967296:=by simp [IntKind.wrap,IntKind.bits,IntKind.signed]
 omega
theorem zsb (x:Int) (h0:0≤x) (h1:x<4294967296):(BitVec.ofInt IntKind.u32.bits x &&& ~~~BitVec.ofInt IntKind.u32.bits 2147483648).toNat=x.toNat % 2147483648:=by
 show (BitVec.ofInt 32 x &&& ~~~BitVec.ofInt 32 2147483648).toNat=_
 have e:(~~~BitVec.ofInt 32 2147483648:BitVec 32)=2147483647#32:=by decide
 rw [e,BitVec.toNat_and]
 have e2:(2147483647#32).toNat=2 ^ 31 - 1:=by decide
 rw [e2,Nat.and_two_pow_sub_one_eq_mod]
 have e3:(BitVec.ofInt 32 x).toNat=x.toNat:=by
  rw [BitVec.toNat_ofInt]
  omega
 rw [e3]
theorem zqd {n:Nat} (x:Int) (h0:0≤x) (h1:x<4294967296):f52 n x=some (ziq x):=by
 rw [zqc,zsb x h0 h1,zjo (by omega)]
 unfold ziq
 have:((x.toNat % 2147483648:Nat):Int)=x % 2147483648:=by omega
 rw [this]
 cases decide (x % 2147483648≤2139095040) <;> rfl
theorem za5 {m:Int} (h0:0≤m) (h:m<18446744073709551616):IntKind.u64.wrap m=m:=by
 have:IntKind.u64.wrap m=m % 18446744073709551616:=by simp [IntKind.wrap,IntKind.bits,IntKind.signed]
 omega
theorem zsc (x:Int) (k:Nat) (hk:k<64) (h0:0≤x) (h1:x<18446744073709551616):(BitVec.ofInt IntKind.u64.bits x &&& BitVec.ofInt IntKind.u64.bits ((2 ^ k - 1:Nat):Int)).toNat=x.toNat % 2 ^ k:=by
 show (BitVec.ofInt 64 x &&& BitVec.ofInt 64 _).toNat=_
 rw [BitVec.toNat_and]
 have hp:2 ^ k<2 ^ 64:=Nat.pow_lt_pow_right (by decide) hk
 have e2:(BitVec.ofInt 64 ((2 ^ k - 1:Nat):Int)).toNat=2 ^ k - 1:=by
  rw [BitVec.toNat_ofInt]
  have:(0:Nat)<2 ^ k:=Nat.two_pow_pos k
  omega
 have e3:(BitVec.ofInt 64 x).toNat=x.toNat:=by
  rw [BitVec.toNat_ofInt]
  omega
 rw [e2,e3,Nat.and_two_pow_sub_one_eq_mod]
def mayS (l:List Xa) (s:Xc):Bool :=
 mayT l s.Type_ && (bif s.Type_.Kind_==2 then s.Bits_==0 && (decide (s.Int_≥0) && decide (s.Int_≤2147483647)) else s.Int_==0 && ziq s.Bits_)
theorem zul {n:Nat} (c:Xe) (s:Xc) (h0:0≤s.Bits_) (h1:s.Bits_<4294967296):f34 n (c,s)=some (mayS c.Sign_ s):=by
 rw [zqb,zqa,zqd _ h0 h1]
 unfold mayS
 simp only [Option.bind_some]
 cases mayT c.Sign_ s.Type_ <;> cases (s.Type_.Kind_==2) <;> cases (s.Bits_==0) <;> cases (s.Int_==0) <;> cases decide (s.Int_≥0) <;> rfl
structure znn where
 d:Int
 a:Int
 b:Int
 c:Int
 n:Int
def rowD (op:Int):Option znn :=
 bif op==1 then some ⟨1,0,0,0,0⟩ else
 bif op==2 then some ⟨2,0,0,0,1⟩ else
 bif op==3 then some ⟨8,7,0,0,0⟩ else
 bif op==4 then some ⟨4,5,5,0,0⟩ else
 bif op==5 then some ⟨4,5,5,0,0⟩ else
 bif op==6 then some ⟨4,5,5,0,0⟩ else
 bif op==7 then some ⟨4,5,5,0,0⟩ else
 bif op==8 then some ⟨4,5,5,0,0⟩ else
 bif op==9 then some ⟨4,5,5,0,0⟩ else
 bif op==10 then some ⟨4,5,5,0,0⟩ else
 bif op==11 then some ⟨4,5,0,0,0⟩ else
 bif op==12 then some ⟨4,5,0,0,0⟩ else
 bif op==13 then some ⟨4,5,0,0,0⟩ else
 bif op==14 then some ⟨4,5,0,0,0⟩ else
 bif op==15 then some ⟨4,5,5,5,0⟩ else
 bif op==16 then some ⟨1,1,2,0,0⟩ else
 bif op==17 then some ⟨1,2,0,0,0⟩ else
 bif op==18 then some ⟨2,1,0,0,0⟩ else
 bif op==19 then some ⟨1,3,0,0,0⟩ else
 bif op==20 then some ⟨1,3,0,0,0⟩ else
 bif op==21 then some ⟨2,2,0,0,0⟩ else
 bif op==22 then some ⟨2,2,2,0,0⟩ else
 bif op==23 then some ⟨2,2,2,0,0⟩ else
 bif op==24 then some ⟨2,2,2,0,0⟩ else
 bif op==25 then some ⟨2,2,0,0,0⟩ else
 bif op==26 then some ⟨2,2,2,2,0⟩ else
 bif op==27 then some ⟨2,2,2,0,0⟩ else
 bif op==28 then some ⟨2,2,2,0,0⟩ else
 bif op==29 then some ⟨3,0,0,0,2⟩ else
 bif op==30 then some ⟨3,0,0,0,2⟩ else
 bif op==31 then some ⟨0,3,0,0,2⟩ else
 bif op==32 then some ⟨8,0,0,0,3⟩ else
 bif op==33 then some ⟨0,8,0,0,3⟩ else
 bif op==34 then some ⟨0,2,0,0,0⟩ else
 bif op==35 then some ⟨0,0,0,0,0⟩ else
 bif op==36 then some ⟨0,0,0,0,4⟩ else
 bif op==37 then some ⟨0,0,0,0,0⟩ else
 none
theorem zrv (op:Int):(op=1∨op=2∨op=3∨op=4∨op=5∨op=6∨op=7∨op=8∨op=9∨op=10∨op=11∨op=12∨op=13∨op=14∨op=15∨op=16∨op=17∨op=18∨op=19∨op=20∨op=21∨op=22∨op=23∨op=24∨op=25∨op=26∨op=27∨op=28∨op=29∨op=30∨op=31∨op=32∨op=33∨op=34∨op=35∨op=36∨op=37)∨(∀ k:Int,1≤k→k≤37→(op==k)=false):=by
 by_cases h:1≤op∧op≤37
 ·left; omega
 ·right
  intro k h1 h2
  simp only [beq_eq_false_iff_ne,ne_eq]
  omega
theorem zuk {n:Nat} (op:Int):f26 n op=some (match rowD op with | some r=>(true,r.d,r.a,r.b,r.c,r.n) | none=>(false,0,0,0,0,0)):=by
 rw [zq8]
 rcases zrv op with (rfl | rfl | rfl | rfl | rfl | rfl | rfl | rfl | rfl | rfl | rfl | rfl | rfl | rfl | rfl | rfl | rfl | rfl | rfl | rfl | rfl | rfl | rfl | rfl | rfl | rfl | rfl | rfl | rfl | rfl | rfl | rfl | rfl | rfl | rfl | rfl | rfl) | h
 iterate 37 (· kernel_rfl)
 simp only [rowD,h 1 (by decide) (by decide),h 2 (by decide) (by decide),h 3 (by decide) (by decide),h 4 (by decide) (by decide),h 5 (by decide) (by decide),h 6 (by decide) (by decide),h 7 (by decide) (by decide),h 8 (by decide) (by decide),h 9 (by decide) (by decide),h 10 (by decide) (by decide),h 11 (by decide) (by decide),h 12 (by decide) (by decide),h 13 (by decide) (by decide),h 14 (by decide) (by decide),h 15 (by decide) (by decide),h 16 (by decide) (by decide),h 17 (by decide) (by decide),h 18 (by decide) (by decide),h 19 (by decide) (by decide),h 20 (by decide) (by decide),h 21 (by decide) (by decide),h 22 (by decide) (by decide),h 23 (by decide) (by decide),h 24 (by decide) (by decide),h 25 (by decide) (by decide),h 26 (by decide) (by decide),h 27 (by decide) (by decide),h 28 (by decide) (by decide),h 29 (by decide) (by decide),h 30 (by decide) (by decide),h 31 (by decide) (by decide),h 32 (by decide) (by decide),h 33 (by decide) (by decide),h 34 (by decide) (by decide),h 35 (by decide) (by decide),h 36 (by decide) (by decide),h 37 (by decide) (by decide),cond_false,Option.bind_some,orRet_inl]
def zd5 (s:Int):UInt8:=bif s==1 then 110 else bif s==2 then 119 else bif s==3 then 118 else bif s==4 then 100 else bif s==5 then 120 else bif s==7 then 99 else bif s==8 then 97 else 45
def zpn (s:Int):UInt8:=bif s==1 then 105 else bif s==2 then 112 else bif s==3 then 115 else bif s==4 then 113 else 45
def zun (r:znn):ByteArray:=⟨#[zd5 r.d,zd5 r.a,zd5 r.b,zd5 r.c,zpn r.n]⟩
def Byt (l:List Int):Prop:=∀ b ∈ l,0≤b∧b<256
theorem zbg (s:ByteArray):(bytesOf s).length=s.size:=by simp [bytesOf]
theorem zbf (s:ByteArray):Byt (bytesOf s):=fun b hb=>by
 obtain ⟨u,_,rfl⟩:=List.mem_map.1 hb
 have:=u.toNat_lt
 omega
theorem z4e (l:List Int):(z2o l).data.toList=l.map fun n=>UInt8.ofNat n.toNat:=by
 have:∀ (l:List Int) (r:ByteArray),(l.foldl (fun r n=>r.push (UInt8.ofNat n.toNat)) r).data.toList=r.data.toList++l.map fun n=>UInt8.ofNat n.toNat:=by
  intro l
  induction l with
  | nil=>intro r; simp
  | cons a l ih=>intro r; rw [List.foldl_cons,ih]; simp [ByteArray.push]
 have h:=this l ByteArray.empty
 simpa [z2o] using h
theorem zju {s t:ByteArray} (h:s.data.toList=t.data.toList):s=t:=by
 cases s; cases t
 congr 1
 exact Array.ext' h
theorem zpz {l:List Int} (h:Byt l):bytesOf (z2o l)=l:=by
 unfold bytesOf
 rw [z4e,List.map_map]
 conv=>rhs; rw [← List.map_id l]
 refine List.map_congr_left fun b hb=>?_
 have:=h b hb
 simp only [Function.comp,id,UInt8.toNat_ofNat']
 omega
theorem za6 (s:ByteArray):z2o (bytesOf s)=s:=by
 apply zju
 rw [z4e]
 unfold bytesOf
 rw [List.map_map]
 conv=>rhs; rw [← List.map_id s.data.toList]
 refine List.map_congr_left fun b hb=>?_
 simp
theorem zs8 {s t:ByteArray} (h:bytesOf s=bytesOf t):s=t:=by rw [← za6 s,h,za6]
theorem zu3 (l:List Int):(z2o l).size=l.length:=by
 have:=congrArg List.length (z4e l)
 simpa using this
theorem zow (s t:ByteArray):bytesOf (s++t)=bytesOf s++bytesOf t:=by
 simp [bytesOf]
theorem zs2 (a b:List Int):z2o (a++b)=z2o a++z2o b:=by
 apply zju
 rw [ByteArray.data_append,Array.toList_append,z4e,z4e,z4e,List.map_append]
theorem znp (s:ByteArray) (a b:Nat):bytesOf (s.extract a b)=((bytesOf s).take b).drop a:=by
 simp [bytesOf,ByteArray.data_extract,List.map_drop,List.map_take,List.extract_eq_take_drop,List.drop_take]
theorem zio {s:ByteArray} {i:Nat} (h:i<(bytesOf s).length):z2l s (i:Int)=(bytesOf s)[i]:=by
 have h2:i<s.data.toList.length:=by simpa [bytesOf] using h
 simp only [z2l,bytesOf,Int.toNat_natCast,List.getElem_map]
 rw [List.getD_eq_getElem?_getD,List.getElem?_eq_getElem h2]
 rfl
theorem zro {α:Type} {l:List α} {i:Nat} (h:i<l.length):idx l (i:Int)=some l[i]:=by
 unfold idx
 rw [if_pos (by omega),Int.toNat_natCast,List.getElem?_eq_getElem h]
theorem zar {i:Nat} (h:i<9223372036854775806):IntKind.i64.wrap ((i:Int)+1)=((i+1:Nat):Int):=by
 rw [zor (by omega) (by omega)]; omega
theorem zag {α S T R St:Type} (xs:List α) (hm:xs.length<9223372036854775806) (mk:Int→S→St) (P:Nat→S→Prop) (g:S→α→S) (out:S→T) (body:St→Option (Bo St T R))
  (hgo:∀ (i:Nat) (h:i<xs.length) (s:S),P i s→body (mk i s)=some (.go (mk (IntKind.i64.wrap ((i:Int)+1)) (g s xs[i])))∧P (i+1) (g s xs[i])) (hend:∀ s,P xs.length s→body (mk xs.length s)=some (.out (out s))) :
  ∀ (k i:Nat) (s:S) (fuel:Nat),i+k=xs.length→k<fuel→P i s→iter body fuel (mk i s)=some (.out (out ((xs.drop i).foldl g s)))∧P xs.length ((xs.drop i).foldl g s)
 | 0,i,s,fuel+1,h,hf,hp=>by
  obtain rfl:i=xs.length:=by omega
  rw [List.drop_length,List.foldl_nil]
  exact ⟨by simp only [iter,hend s hp],hp⟩
 | k+1,i,s,fuel+1,h,hf,hp=>by
  have hi:i<xs.length:=by omega
  rw [List.drop_eq_getElem_cons hi]
  obtain ⟨h1,h2⟩:=hgo i hi s hp
  rw [zar (by omega)] at h1
  simp only [iter,h1,List.foldl_cons]
  exact zag xs hm mk P g out body hgo hend k (i+1) _ fuel (by omega) (by omega) h2
def bs (c:BitVec 64):BitVec 64:=bif c.getLsbD 0 then (c >>> 1) ^^^ 14514072000185962306#64 else c >>> 1
def bs8 (c:BitVec 64):BitVec 64:=bs (bs (bs (bs (bs (bs (bs (bs c)))))))
def bb (c:BitVec 64) (b:Int):BitVec 64:=bs8 (c ^^^ BitVec.ofInt 64 b)
def crc0 (l:List Int):BitVec 64:=l.foldl bb (18446744073709551615#64)
def crcL (l:List Int):Int:=((~~~ crc0 l).toNat:Int)
theorem zpm (c:BitVec 64):c.getLsbD 0=(c.toNat % 2==1):=by
 rw [BitVec.getLsbD,Nat.testBit_zero]
 by_cases h:c.toNat % 2=1 <;> simp [h]
theorem ofI (c:BitVec 64):BitVec.ofInt IntKind.u64.bits (c.toNat:Int)=c:=by
 show BitVec.ofInt 64 (c.toNat:Int)=c
 rw [BitVec.ofInt_natCast]; simp
theorem zoq (c:BitVec 64):IntKind.u64.wrap (c.toNat:Int)=(c.toNat:Int):=za5 (by omega) (by have:=c.isLt; omega)
theorem half (c:BitVec 64):(c.toNat:Int).fdiv (2 ^ min (1:Int).toNat IntKind.u64.bits)=((c >>> 1).toNat:Int):=by
 show (c.toNat:Int).fdiv 2=_
 rw [Int.fdiv_eq_ediv_of_nonneg _ (by decide),BitVec.toNat_ushiftRight,Nat.shiftRight_eq_div_pow]
 omega
theorem zjw (c:BitVec 64):(bs c).toNat=if c.toNat % 2=1 then ((c >>> 1) ^^^ 14514072000185962306#64).toNat else (c >>> 1).toNat:=by
 unfold bs
 rw [zpm]
 by_cases h:c.toNat % 2=1
 ·simp [h]
 ·have:(c.toNat % 2==1)=false:=by simpa using h
  rw [this,cond_false,if_neg h]
theorem xorB (x y:Int):IntKind.u64.wrap (BitVec.ofInt IntKind.u64.bits x ^^^ BitVec.ofInt IntKind.u64.bits y).toNat=((BitVec.ofInt 64 x ^^^ BitVec.ofInt 64 y).toNat:Int):=zoq (BitVec.ofInt 64 x ^^^ BitVec.ofInt 64 y)
theorem ofI' (c:BitVec 64):BitVec.ofInt 64 (c.toNat:Int)=c:=ofI c
theorem ziv {n:Nat} {x:ByteArray} {v1:Unit} {q1:Int×Int} {v2:Unit} (c:BitVec 64) (k:Nat) (hk:k<8):zax n x v1 q1 v2 ((c.toNat:Int),(k:Int))=some (.go (((bs c).toNat:Int),((k+1:Nat):Int))):=by
 rw [zcw,zar (by omega),half,xorB,ofI']
 have e1:decide ((k:Int)<8)=true:=by simp; omega
 have e2:((c.toNat:Int).tmod 2==1)=(c.toNat % 2==1):=by
  rw [Int.tmod_eq_emod_of_nonneg (by omega)]
  by_cases h:c.toNat % 2=1
  ·rw [h]; simp; omega
  ·have:(c.toNat % 2==1)=false:=by simpa using h
   rw [this]; simp; omega
 have e3:(BitVec.ofInt 64 14514072000185962306)=14514072000185962306#64:=rfl
 rw [e1,cond_true,e2,e3,zjw]
 by_cases h:c.toNat % 2=1
 ·simp [h]
 ·have:(c.toNat % 2==1)=false:=by simpa using h
  rw [this,cond_false,if_neg h]
theorem zgm {n:Nat} {x:ByteArray} {v1:Unit} {q1:Int×Int} {v2:Unit} (c:BitVec 64):zax n x v1 q1 v2 ((c.toNat:Int),((8:Nat):Int))=some (.out ((c.toNat:Int),8)):=by
 rw [zcw]; rfl
theorem zoi {body:Int×Int→Option (Bo (Yaa) (Yaa) Empty)} (h:∀ (c:BitVec 64) (k:Nat),k<8→body ((c.toNat:Int),(k:Int))=some (.go (((bs c).toNat:Int),((k+1:Nat):Int)))) (he:∀ c:BitVec 64,body ((c.toNat:Int),((8:Nat):Int))=some (.out ((c.toNat:Int),8))) {n:Nat} (hn:10≤n) (c:BitVec 64) :
  iter body n ((c.toNat:Int),0)=some (.out (((bs8 c).toNat:Int),8)):=by
 obtain ⟨m,rfl⟩:∃ m,n=m+9:=⟨n - 9,by omega⟩
 have h0:=h c 0 (by omega)
 simp only [Int.natCast_zero] at h0
 simp only [iter,h0,h _ 1 (by omega),h _ 2 (by omega),h _ 3 (by omega),h _ 4 (by omega),h _ 5 (by omega),h _ 6 (by omega),h _ 7 (by omega),he,bs8]
theorem ziw {n:Nat} {x:ByteArray} {v1:Unit} {q1:Int×Int} {v2:Unit} (c:BitVec 64) (k:Nat) (hk:k<8):zay n x v1 q1 v2 ((c.toNat:Int),(k:Int))=some (.go (((bs c).toNat:Int),((k+1:Nat):Int))):=by
 rw [zcy,zar (by omega),half,xorB,ofI']
 have e1:decide ((k:Int)<8)=true:=by simp; omega
 have e2:(IntKind.u64.wrap (BitVec.ofInt IntKind.u64.bits (c.toNat:Int) &&& BitVec.ofInt IntKind.u64.bits 1).toNat==1)=(c.toNat % 2==1):=by
  have:=zsc (c.toNat:Int) 1 (by decide) (by omega) (by have:=c.isLt; omega)
  have e:((2 ^ 1 - 1:Nat):Int)=1:=rfl
  rw [e] at this
  rw [this,Int.toNat_natCast,za5 (by omega) (by omega)]
  by_cases h:c.toNat % 2=1
  ·have h':c.toNat % 2 ^ 1=1:=h
   simp only [h,h']; rfl
  ·have:(c.toNat % 2==1)=false:=by simpa using h
   rw [this]
   have h':c.toNat % 2 ^ 1=0:=by omega
   simp only [h']; rfl
 have e3:(BitVec.ofInt 64 14514072000185962306)=14514072000185962306#64:=rfl
 rw [e1,cond_true,e2,e3,zjw]
 by_cases h:c.toNat % 2=1
 ·simp [h]
 ·have:(c.toNat % 2==1)=false:=by simpa using h
  rw [this,cond_false,if_neg h]
theorem zgn {n:Nat} {x:ByteArray} {v1:Unit} {q1:Int×Int} {v2:Unit} (c:BitVec 64):zay n x v1 q1 v2 ((c.toNat:Int),((8:Nat):Int))=some (.out ((c.toNat:Int),8)):=by
 rw [zcy]; rfl
theorem znq (c:BitVec 64):cmpl .u64 (c.toNat:Int)=((~~~ c).toNat:Int):=by
 unfold cmpl
 rw [ofI]
 have:BitVec.ofInt IntKind.u64.bits (if IntKind.u64.signed then -1 else IntKind.u64.max)=18446744073709551615#64:=rfl
 rw [this]
 have e:(18446744073709551615#64 ^^^ c) = ~~~ c:=by
  rw [show (18446744073709551615#64:BitVec 64)=BitVec.allOnes 64 from rfl,BitVec.xor_comm,BitVec.xor_allOnes]
 have e2:((18446744073709551615#64 ^^^ c:BitVec 64).toNat)=(~~~ c).toNat:=by rw [e]
 exact (congrArg (fun k:Nat=>IntKind.u64.wrap (k:Int)) e2).trans (zoq _)
theorem zp1 {n:Nat} {x:ByteArray} (hx:x.size<9223372036854775000) (hn:x.size+10<n):f198 n x=some (crcL (bytesOf x)):=by
 rw [zp0]
 have hl:=zbg x
 have:=(zag (bytesOf x) (by omega) (fun i (c:BitVec 64)=>((c.toNat:Int),i)) (fun _ _=>True) bb (fun c=>((c.toNat:Int),((bytesOf x).length:Int))) (zdy n x ()) (R:=Empty) (fun i hi c _=>⟨by
  rw [zcv]
  have e1:decide ((i:Int)<(x.size:Int))=true:=by simp; omega
  have hb:=zbf x _ (List.getElem_mem hi)
  rw [e1,cond_true,zrs (by simp; omega),zio hi,za5 hb.1 (by omega),xorB,ofI',zoi ziv zgm (by omega)]
  rfl,trivial⟩) (fun c _=>by
  rw [zcv]
  have e1:decide (((bytesOf x).length:Int)<(x.size:Int))=false:=by simp; omega
  simp only [e1,cond_false]) (bytesOf x).length 0 (18446744073709551615#64) n (by omega) (by omega) trivial).1
 have e0:((18446744073709551615#64).toNat:Int)=18446744073709551615:=rfl
 simp only [Int.natCast_zero,e0] at this
 rw [this]
 simp only [Option.bind_some,Bo.then,znq,List.drop_zero]
 rfl
theorem zp3 {n:Nat} {x:ByteArray} (hx:x.size<9223372036854775000) (hn:x.size+10<n):f199 n x=some (crcL (bytesOf x)):=by
 rw [zp2]
 have hl:=zbg x
 have:=(zag (bytesOf x) (by omega) (fun i (c:BitVec 64)=>((c.toNat:Int),i)) (fun _ _=>True) bb (fun c=>((c.toNat:Int),((bytesOf x).length:Int))) (zdz n x ()) (R:=Empty) (fun i hi c _=>⟨by
  rw [zcx]
  have e1:decide ((i:Int)<((bytesOf x).length:Int))=true:=by simp; omega
  have hb:=zbf x _ (List.getElem_mem hi)
  rw [e1,cond_true]
  simp only [zro hi,Option.bind_some]
  rw [za5 hb.1 (by omega),xorB,ofI',zoi ziw zgn (by omega)]
  rfl,trivial⟩) (fun c _=>by
  rw [zcx]
  have e1:decide (((bytesOf x).length:Int)<((bytesOf x).length:Int))=false:=by simp
  simp only [e1,cond_false]) (bytesOf x).length 0 (18446744073709551615#64) n (by omega) (by omega) trivial).1
 have e0:((18446744073709551615#64).toNat:Int)=18446744073709551615:=rfl
 simp only [Int.natCast_zero,e0] at this
 rw [this]
 simp only [Option.bind_some,Bo.then,znq,List.drop_zero]
 rfl
abbrev y_str:Ty:=.str
def zop (R:Nat→Nat→Prop) (x:ByteArray):Prop:=R x.size 1
theorem r_str {R:Nat→Nat→Prop} {cs:List AV} (h:OfTy R y_str cs):∃ x:ByteArray,zop R x∧[.sc (.string x)]=cs:=by
 obtain ⟨b,rfl,h⟩:=h
 exact ⟨b,h,rfl⟩
theorem pureCodePrints (x:ByteArray) (h:zop RSaid x):∃ n,f232 n x=some true:=by
 have h:x.size * 1≤reachBytes:=h
 rw [Nat.mul_one] at h
 have hs:x.size<9223372036854775000:=Nat.lt_of_le_of_lt h (by decide)
 refine ⟨x.size+100,?_⟩
 rw [zp4,zp3 hs (by omega),zp1 hs (by omega),znl (by omega)]
 simp
end Loom
