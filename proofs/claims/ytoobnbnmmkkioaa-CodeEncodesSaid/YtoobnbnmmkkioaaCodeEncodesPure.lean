/- The plain law of CodeEncodes: what it answers is true,whatever it is handed (part 1 of 1). -/
import Derived.Test.YtoobnbnmmkkioaaCodeEncodesWvB
set_option linter.unusedVariables false
set_option linter.unusedSimpArgs false
set_option linter.unusedSectionVars false
set_option maxRecDepth 100000
namespace Loom
open Go
theorem y3k (n:Nat):f231 (n+100) ()=some true:=by kernel_rfl
theorem zye {n:Nat} (h:100≤n):f231 n ()=some true:=by
 obtain ⟨m,rfl⟩:∃ m,n=m+100:=⟨n - 100,by omega⟩
 exact y3k m
@[simp] theorem orRet_inl {S R:Type} {A:S→Option R} {s:S}:zp A (.inl s)=A s:=rfl
@[simp] theorem orRet_inr {S R:Type} {A:S→Option R} {r:R}:zp A (.inr r)=some r:=rfl
theorem zi {R:Type} {p:Prop} [Decidable p] {x:Option R} (h:p):need p x=x:=by unfold need; rw [if_pos h]
def mayT (l:List Xa) (t:Xb):Bool :=
 bif t.Kind_==3 then decide (t.Param_≥0) && decide (t.Param_<(l.length:Int)) else (t.Kind_==1 || t.Kind_==2) && t.Param_==0
theorem zrv {n:Nat} (c:Xe) (t:Xb):f31 n (c,t)=some (mayT c.Sign_ t):=by
 rw [y4l]
 unfold mayT
 by_cases h1:t.Kind_=1
 ·simp [h1]
 ·by_cases h2:t.Kind_=2
  ·simp [h2]
  ·by_cases h3:t.Kind_=3
   ·by_cases h4:t.Param_≥0 <;> simp [h3,h4]
   ·have e1:(t.Kind_==1)=false:=by simpa using h1
    have e2:(t.Kind_==2)=false:=by simpa using h2
    have e3:(t.Kind_==3)=false:=by simpa using h3
    simp [e1,e2,e3]
theorem zrx {n:Nat} (l:List Xa) (t:Xb):f39 n (t,l)=some (mayT l t):=by
 rw [y4v]
 unfold mayT
 by_cases h1:t.Kind_=1
 ·simp [h1]
 ·by_cases h2:t.Kind_=2
  ·simp [h2]
  ·by_cases h3:t.Kind_=3
   ·by_cases h4:t.Param_≥0 <;> simp [h3,h4]
   ·have e1:(t.Kind_==1)=false:=by simpa using h1
    have e2:(t.Kind_==2)=false:=by simpa using h2
    have e3:(t.Kind_==3)=false:=by simpa using h3
    simp [e1,e2,e3]
def z5u (x:Int):Bool:=decide (x % 2147483648≤2139095040) || x==2143289344
theorem zr7 {m:Nat} (h:m<4294967296):IntKind.u32.wrap (m:Int)=m:=by
 have:IntKind.u32.wrap (m:Int)=(m:Int) % 4294967296:=by simp [IntKind.wrap,IntKind.bits,IntKind.signed]
 omega
theorem y7r (x:Int) (h0:0≤x) (h1:x<4294967296):(BitVec.ofInt IntKind.u32.bits x &&& ~~~BitVec.ofInt IntKind.u32.bits 2147483648).toNat=x.toNat % 2147483648:=by
 show (BitVec.ofInt 32 x &&& ~~~BitVec.ofInt 32 2147483648).toNat=_
 have e:(~~~BitVec.ofInt 32 2147483648:BitVec 32)=2147483647#32:=by decide
 rw [e,BitVec.toNat_and]
 have e2:(2147483647#32).toNat=2 ^ 31 - 1:=by decide
 rw [e2,Nat.and_two_pow_sub_one_eq_mod]
 have e3:(BitVec.ofInt 32 x).toNat=x.toNat:=by
  rw [BitVec.toNat_ofInt]
  omega
 rw [e3]
theorem zs0 {n:Nat} (x:Int) (h0:0≤x) (h1:x<4294967296):f52 n x=some (z5u x):=by
 rw [y56,y7r x h0 h1,zr7 (by omega)]
 unfold z5u
 have:((x.toNat % 2147483648:Nat):Int)=x % 2147483648:=by omega
 rw [this]
 cases decide (x % 2147483648≤2139095040) <;> rfl
theorem z58 {m:Int} (h0:0≤m) (h:m<18446744073709551616):IntKind.u64.wrap m=m:=by
 have:IntKind.u64.wrap m=m % 18446744073709551616:=by simp [IntKind.wrap,IntKind.bits,IntKind.signed]
 omega
theorem zq1 (x:Int) (k:Nat) (hk:k<64) (h0:0≤x) (h1:x<18446744073709551616):(BitVec.ofInt IntKind.u64.bits x &&& BitVec.ofInt IntKind.u64.bits ((2 ^ k - 1:Nat):Int)).toNat=x.toNat % 2 ^ k:=by
 show (BitVec.ofInt 64 x &&& BitVec.ofInt 64 _).toNat=_
 rw [BitVec.toNat_and]
 have hp:2 ^ k<2 ^ 64:=Nat.pow_lt_pow_right (by decide) hk
 have e2:(BitVec.ofInt 64 ((2 ^ k - 1:Nat):Int)).toNat=2 ^ k - 1:=by
  rw [BitVec.toNat_ofInt]
  have:(0:Nat)<2 ^ k:=Nat.two_pow_pos k
  omega
 have e3:(BitVec.ofInt 64 x).toNat=x.toNat:=by
  rw [BitVec.toNat_ofInt]
  omega
 rw [e2,e3,Nat.and_two_pow_sub_one_eq_mod]
theorem y2n {n:Nat} (x:Int) (h0:0≤x) (h1:x<4294967296):∃ r,f69 n x=some r∧r.2.2.2.2=(decide (x / 8388608 % 256=255) && decide (x % 8388608 ≠ 0)):=by
 rw [y5z]
 have e0:IntKind.u64.wrap x=x:=z58 h0 (by omega)
 have e1:x.fdiv (2 ^ min (23:Int).toNat IntKind.u64.bits)=x / 8388608:=by
  show x.fdiv 8388608=_
  rw [Int.fdiv_eq_ediv_of_nonneg _ (by decide)]
 have e2:(BitVec.ofInt IntKind.u64.bits (x / 8388608) &&& BitVec.ofInt IntKind.u64.bits (255:Int)).toNat=(x / 8388608).toNat % 256:=zq1 (x / 8388608) 8 (by decide) (by omega) (by omega)
 have e3:(BitVec.ofInt IntKind.u64.bits x &&& BitVec.ofInt IntKind.u64.bits (8388607:Int)).toNat=x.toNat % 8388608:=zq1 x 23 (by decide) (by omega) (by omega)
 simp only [e0,e1,e2,e3]
 rw [z58 (m:=(((x / 8388608).toNat % 256:Nat):Int)) (by omega) (by omega),z58 (m:=((x.toNat % 8388608:Nat):Int)) (by omega) (by omega),zaa (by omega) (by omega)]
 have c1:(((x / 8388608).toNat % 256:Nat):Int)=x / 8388608 % 256:=by omega
 have c2:((x.toNat % 8388608:Nat):Int)=x % 8388608:=by omega
 rw [c1,c2]
 by_cases h:x / 8388608 % 256=255
 ·have q:(x / 8388608 % 256==255)=true:=by simp [h]
  simp only [q,cond_true,Option.bind_some,orRet_inl]
  refine ⟨_,rfl,?_⟩
  rw [decide_eq_true h,Bool.true_and]
  show (x % 8388608 != 0)=_
  by_cases h3:x % 8388608=0 <;> simp [h3]
 ·have q:(x / 8388608 % 256==255)=false:=by simp [h]
  simp only [q,cond_false]
  cases (x / 8388608 % 256==0)
  all_goals
   simp only [cond_false,cond_true,Option.bind_some,orRet_inl]
   refine ⟨_,rfl,?_⟩
   rw [decide_eq_false h,Bool.false_and]
theorem zs2 {n:Nat} (x:Int) (h0:0≤x) (h1:x<4294967296):f58 n x=some (z5u x):=by
 have w:IntKind.i64.wrap x=x:=zaa (by omega) (by omega)
 obtain ⟨r,e,e'⟩:=y2n (n:=n) x h0 h1
 rw [y5g,w,y5t,e]
 simp only [Option.bind_some,e']
 unfold z5u
 by_cases h:x / 8388608 % 256=255∧x % 8388608 ≠ 0
 ·have q:(decide (x / 8388608 % 256=255) && decide (x % 8388608 ≠ 0))=true:=by simp [h]
  have q2:decide (x % 2147483648≤2139095040)=false:=by simp; omega
  rw [q,q2]
  simp only [cond_true,Option.bind_some,Bool.false_or]
  congr 1
  rw [Bool.eq_iff_iff]
  simp
  omega
 ·have q:(decide (x / 8388608 % 256=255) && decide (x % 8388608 ≠ 0))=false:=by
   rw [Bool.eq_false_iff]
   intro hb
   simp only [Bool.and_eq_true,decide_eq_true_eq] at hb
   exact h hb
  have q2:decide (x % 2147483648≤2139095040)=true:=by simp; omega
  rw [q,q2]
  simp
def mayS (l:List Xa) (s:Xc):Bool :=
 mayT l s.Type_ && (bif s.Type_.Kind_==2 then s.Bits_==0 && (decide (s.Int_≥0) && decide (s.Int_≤2147483647)) else s.Int_==0 && z5u s.Bits_)
theorem y4q {n:Nat} (c:Xe) (s:Xc) (h0:0≤s.Bits_) (h1:s.Bits_<4294967296):f34 n (c,s)=some (mayS c.Sign_ s):=by
 rw [y4p,zrv,zs0 _ h0 h1]
 unfold mayS
 simp only [Option.bind_some]
 cases mayT c.Sign_ s.Type_ <;> cases (s.Type_.Kind_==2) <;> cases (s.Bits_==0) <;> cases (s.Int_==0) <;> cases decide (s.Int_≥0) <;> rfl
theorem y4x {n:Nat} (l:List Xa) (s:Xc) (h0:0≤s.Bits_) (h1:s.Bits_<4294967296):f40 n (s,l)=some (mayS l s):=by
 rw [y4w,zrx,zs2 _ h0 h1]
 unfold mayS
 simp only [Option.bind_some]
 cases mayT l s.Type_ <;> cases (s.Type_.Kind_==2) <;> cases (s.Bits_==0) <;> cases (s.Int_==0) <;> cases decide (s.Int_≥0) <;> rfl
structure z3m where
 d:Int
 a:Int
 b:Int
 c:Int
 n:Int
def rowD (op:Int):Option z3m :=
 bif op==1 then some ⟨1,0,0,0,0⟩ else
 bif op==2 then some ⟨2,0,0,0,1⟩ else
 bif op==3 then some ⟨8,7,0,0,0⟩ else
 bif op==4 then some ⟨4,5,5,0,0⟩ else
 bif op==5 then some ⟨4,5,5,0,0⟩ else
 bif op==6 then some ⟨4,5,5,0,0⟩ else
 bif op==7 then some ⟨4,5,5,0,0⟩ else
 bif op==8 then some ⟨4,5,5,0,0⟩ else
 bif op==9 then some ⟨4,5,5,0,0⟩ else
 bif op==10 then some ⟨4,5,5,0,0⟩ else
 bif op==11 then some ⟨4,5,0,0,0⟩ else
 bif op==12 then some ⟨4,5,0,0,0⟩ else
 bif op==13 then some ⟨4,5,0,0,0⟩ else
 bif op==14 then some ⟨4,5,0,0,0⟩ else
 bif op==15 then some ⟨4,5,5,5,0⟩ else
 bif op==16 then some ⟨1,1,2,0,0⟩ else
 bif op==17 then some ⟨1,2,0,0,0⟩ else
 bif op==18 then some ⟨2,1,0,0,0⟩ else
 bif op==19 then some ⟨1,3,0,0,0⟩ else
 bif op==20 then some ⟨1,3,0,0,0⟩ else
 bif op==21 then some ⟨2,2,0,0,0⟩ else
 bif op==22 then some ⟨2,2,2,0,0⟩ else
 bif op==23 then some ⟨2,2,2,0,0⟩ else
 bif op==24 then some ⟨2,2,2,0,0⟩ else
 bif op==25 then some ⟨2,2,0,0,0⟩ else
 bif op==26 then some ⟨2,2,2,2,0⟩ else
 bif op==27 then some ⟨2,2,2,0,0⟩ else
 bif op==28 then some ⟨2,2,2,0,0⟩ else
 bif op==29 then some ⟨3,0,0,0,2⟩ else
 bif op==30 then some ⟨3,0,0,0,2⟩ else
 bif op==31 then some ⟨0,3,0,0,2⟩ else
 bif op==32 then some ⟨8,0,0,0,3⟩ else
 bif op==33 then some ⟨0,8,0,0,3⟩ else
 bif op==34 then some ⟨0,2,0,0,0⟩ else
 bif op==35 then some ⟨0,0,0,0,0⟩ else
 bif op==36 then some ⟨0,0,0,0,4⟩ else
 bif op==37 then some ⟨0,0,0,0,0⟩ else
 none
theorem z5q (op:Int):(op=1∨op=2∨op=3∨op=4∨op=5∨op=6∨op=7∨op=8∨op=9∨op=10∨op=11∨op=12∨op=13∨op=14∨op=15∨op=16∨op=17∨op=18∨op=19∨op=20∨op=21∨op=22∨op=23∨op=24∨op=25∨op=26∨op=27∨op=28∨op=29∨op=30∨op=31∨op=32∨op=33∨op=34∨op=35∨op=36∨op=37)∨(∀ k:Int,1≤k→k≤37→(op==k)=false):=by
 by_cases h:1≤op∧op≤37
 ·left; omega
 ·right
  intro k h1 h2
  simp only [beq_eq_false_iff_ne,ne_eq]
  omega
theorem zlb {n:Nat} (op:Int):f26 n op=some (match rowD op with | some r=>(true,r.d,r.a,r.b,r.c,r.n) | none=>(false,0,0,0,0,0)):=by
 rw [y4f]
 rcases z5q op with (rfl | rfl | rfl | rfl | rfl | rfl | rfl | rfl | rfl | rfl | rfl | rfl | rfl | rfl | rfl | rfl | rfl | rfl | rfl | rfl | rfl | rfl | rfl | rfl | rfl | rfl | rfl | rfl | rfl | rfl | rfl | rfl | rfl | rfl | rfl | rfl | rfl) | h
 iterate 37 (· kernel_rfl)
 simp only [rowD,h 1 (by decide) (by decide),h 2 (by decide) (by decide),h 3 (by decide) (by decide),h 4 (by decide) (by decide),h 5 (by decide) (by decide),h 6 (by decide) (by decide),h 7 (by decide) (by decide),h 8 (by decide) (by decide),h 9 (by decide) (by decide),h 10 (by decide) (by decide),h 11 (by decide) (by decide),h 12 (by decide) (by decide),h 13 (by decide) (by decide),h 14 (by decide) (by decide),h 15 (by decide) (by decide),h 16 (by decide) (by decide),h 17 (by decide) (by decide),h 18 (by decide) (by decide),h 19 (by decide) (by decide),h 20 (by decide) (by decide),h 21 (by decide) (by decide),h 22 (by decide) (by decide),h 23 (by decide) (by decide),h 24 (by decide) (by decide),h 25 (by decide) (by decide),h 26 (by decide) (by decide),h 27 (by decide) (by decide),h 28 (by decide) (by decide),h 29 (by decide) (by decide),h 30 (by decide) (by decide),h 31 (by decide) (by decide),h 32 (by decide) (by decide),h 33 (by decide) (by decide),h 34 (by decide) (by decide),h 35 (by decide) (by decide),h 36 (by decide) (by decide),h 37 (by decide) (by decide),cond_false,Option.bind_some,orRet_inl]
def z45 (s:Int):UInt8:=bif s==1 then 110 else bif s==2 then 119 else bif s==3 then 118 else bif s==4 then 100 else bif s==5 then 120 else bif s==7 then 99 else bif s==8 then 97 else 45
def z6b (s:Int):UInt8:=bif s==1 then 105 else bif s==2 then 112 else bif s==3 then 115 else bif s==4 then 113 else 45
def z2d (r:z3m):ByteArray:=⟨#[z45 r.d,z45 r.a,z45 r.b,z45 r.c,z6b r.n]⟩
theorem zgs {n:Nat} (op:Int):f27 n op=some (match rowD op with | some r=>(z2d r,true) | none=>(⟨#[]⟩,false)):=by
 rw [y4g]
 rcases z5q op with (rfl | rfl | rfl | rfl | rfl | rfl | rfl | rfl | rfl | rfl | rfl | rfl | rfl | rfl | rfl | rfl | rfl | rfl | rfl | rfl | rfl | rfl | rfl | rfl | rfl | rfl | rfl | rfl | rfl | rfl | rfl | rfl | rfl | rfl | rfl | rfl | rfl) | h
 iterate 37 (· kernel_rfl)
 simp only [rowD,h 1 (by decide) (by decide),h 2 (by decide) (by decide),h 3 (by decide) (by decide),h 4 (by decide) (by decide),h 5 (by decide) (by decide),h 6 (by decide) (by decide),h 7 (by decide) (by decide),h 8 (by decide) (by decide),h 9 (by decide) (by decide),h 10 (by decide) (by decide),h 11 (by decide) (by decide),h 12 (by decide) (by decide),h 13 (by decide) (by decide),h 14 (by decide) (by decide),h 15 (by decide) (by decide),h 16 (by decide) (by decide),h 17 (by decide) (by decide),h 18 (by decide) (by decide),h 19 (by decide) (by decide),h 20 (by decide) (by decide),h 21 (by decide) (by decide),h 22 (by decide) (by decide),h 23 (by decide) (by decide),h 24 (by decide) (by decide),h 25 (by decide) (by decide),h 26 (by decide) (by decide),h 27 (by decide) (by decide),h 28 (by decide) (by decide),h 29 (by decide) (by decide),h 30 (by decide) (by decide),h 31 (by decide) (by decide),h 32 (by decide) (by decide),h 33 (by decide) (by decide),h 34 (by decide) (by decide),h 35 (by decide) (by decide),h 36 (by decide) (by decide),h 37 (by decide) (by decide),cond_false,Option.bind_some,orRet_inl]
theorem z3d {op:Int} (h:∀ k:Int,1≤k→k≤37→(op==k)=false):rowD op=none:=by
 simp only [rowD,h 1 (by decide) (by decide),h 2 (by decide) (by decide),h 3 (by decide) (by decide),h 4 (by decide) (by decide),h 5 (by decide) (by decide),h 6 (by decide) (by decide),h 7 (by decide) (by decide),h 8 (by decide) (by decide),h 9 (by decide) (by decide),h 10 (by decide) (by decide),h 11 (by decide) (by decide),h 12 (by decide) (by decide),h 13 (by decide) (by decide),h 14 (by decide) (by decide),h 15 (by decide) (by decide),h 16 (by decide) (by decide),h 17 (by decide) (by decide),h 18 (by decide) (by decide),h 19 (by decide) (by decide),h 20 (by decide) (by decide),h 21 (by decide) (by decide),h 22 (by decide) (by decide),h 23 (by decide) (by decide),h 24 (by decide) (by decide),h 25 (by decide) (by decide),h 26 (by decide) (by decide),h 27 (by decide) (by decide),h 28 (by decide) (by decide),h 29 (by decide) (by decide),h 30 (by decide) (by decide),h 31 (by decide) (by decide),h 32 (by decide) (by decide),h 33 (by decide) (by decide),h 34 (by decide) (by decide),h 35 (by decide) (by decide),h 36 (by decide) (by decide),h 37 (by decide) (by decide),cond_false]
def z1o (i:Xd):List Int:=match rowD i.Op_ with
 | some r=>(bif r.a==0 then [] else [i.A_])++((bif r.b==0 then [] else [i.B_])++(bif r.c==0 then [] else [i.C_]))
 | none=>[]
def sets (i:Xd):Bool:=match rowD i.Op_ with | some r=>!(r.d==0) | none=>false
theorem zqc (m:Nat) (i:Xd):f9 (m+4) i=some (z1o i):=by
 obtain ⟨op,d,a,b,c,N,bits⟩:=i
 rcases z5q op with (rfl | rfl | rfl | rfl | rfl | rfl | rfl | rfl | rfl | rfl | rfl | rfl | rfl | rfl | rfl | rfl | rfl | rfl | rfl | rfl | rfl | rfl | rfl | rfl | rfl | rfl | rfl | rfl | rfl | rfl | rfl | rfl | rfl | rfl | rfl | rfl | rfl) | h
 iterate 37 (· kernel_rfl)
 rw [y7v,zlb]
 simp only [z1o,z3d h]
 kernel_rfl
theorem y3w (m:Nat) (i:Xd):f10 (m+4) i=some (z1o i):=by
 obtain ⟨op,d,a,b,c,N,bits⟩:=i
 rcases z5q op with (rfl | rfl | rfl | rfl | rfl | rfl | rfl | rfl | rfl | rfl | rfl | rfl | rfl | rfl | rfl | rfl | rfl | rfl | rfl | rfl | rfl | rfl | rfl | rfl | rfl | rfl | rfl | rfl | rfl | rfl | rfl | rfl | rfl | rfl | rfl | rfl | rfl) | h
 iterate 37 (· kernel_rfl)
 rw [y3v,zgs]
 simp only [z1o,z3d h]
 kernel_rfl
theorem zl2 (n:Nat) (i:Xd):f11 n i=some (sets i):=by
 obtain ⟨op,d,a,b,c,N,bits⟩:=i
 rcases z5q op with (rfl | rfl | rfl | rfl | rfl | rfl | rfl | rfl | rfl | rfl | rfl | rfl | rfl | rfl | rfl | rfl | rfl | rfl | rfl | rfl | rfl | rfl | rfl | rfl | rfl | rfl | rfl | rfl | rfl | rfl | rfl | rfl | rfl | rfl | rfl | rfl | rfl) | h
 iterate 37 (· kernel_rfl)
 rw [y3x,zlb]
 simp only [sets,z3d h]
 kernel_rfl
theorem y3z (n:Nat) (i:Xd):f12 n i=some (sets i):=by
 obtain ⟨op,d,a,b,c,N,bits⟩:=i
 rcases z5q op with (rfl | rfl | rfl | rfl | rfl | rfl | rfl | rfl | rfl | rfl | rfl | rfl | rfl | rfl | rfl | rfl | rfl | rfl | rfl | rfl | rfl | rfl | rfl | rfl | rfl | rfl | rfl | rfl | rfl | rfl | rfl | rfl | rfl | rfl | rfl | rfl | rfl) | h
 iterate 37 (· kernel_rfl)
 rw [y3y,zgs]
 simp only [sets,z3d h]
 kernel_rfl
def elem (op:Int):Bool:=bif decide (op≥3) then decide (op≤15) else false
theorem y41 (n:Nat) (op:Int):f13 n op=some (elem op):=by
 rw [y40]; unfold elem; cases decide (op≥3) <;> rfl
theorem y43 (n:Nat) (op:Int):f14 n op=some (elem op):=by
 rw [y42]; unfold elem; cases decide (op≥3) <;> rfl
abbrev ty0:Xb:=⟨0,0⟩
def eqTy (t d:Xb):Bool:=t.Kind_==d.Kind_ && (t.Param_==d.Param_ && true)
def isS (t:Xb) (s:Int) (d:Xb):Bool :=
 bif s==1 then t.Kind_==1 else bif s==2 then t.Kind_==2 else bif s==3 then t.Kind_==3 else bif s==4 then t.Kind_ != 2 else
 bif s==5 then (t.Kind_==1 || eqTy t d) else bif s==7 then (eqTy t d || (t.Kind_==1 && d.Kind_==3)) else true
theorem y5a {n:Nat} (t:Xb) (s:Int) (d:Xb) (h:s ≠ 6):f54 n (t,s,d)=some (isS t s d):=by
 have h6:(s==6)=false:=by simpa using h
 rw [y59]
 unfold isS eqTy
 simp only [h6,cond_false]
 cases (s==1) <;> cases (s==2) <;> cases (s==3) <;> cases (s==4) <;> cases (s==5) <;> cases (s==7) <;> cases (t.Kind_==1) <;> cases (t.Kind_==d.Kind_ && (t.Param_==d.Param_ && true)) <;> cases (d.Kind_==3) <;> rfl
theorem z34 {α:Type} {l:List α} {n:Int} (h:n<0∨n≥l.length):idx l n=none:=by
 unfold idx
 split
 ·rcases h with h | h
  ·omega
  ·rw [List.getElem?_eq_none]; omega
 ·rfl
theorem z74 {α:Type} {l:List α} {n:Int} (h0:0≤n) (h1:n<l.length):∃ y,idx l n=some y∧y ∈ l:=by
 unfold idx
 rw [if_pos h0]
 have:n.toNat<l.length:=by omega
 exact ⟨l[n.toNat],by simp [this],List.getElem_mem this⟩
theorem zi9 {α:Type} {l:List α} {n:Int} {y:α} (h:idx l n=some y):y ∈ l∧0≤n∧n<l.length:=by
 unfold idx at h
 split at h
 ·rename_i h0
  obtain ⟨h1,h2⟩:=List.getElem?_eq_some_iff.1 h
  exact ⟨h2 ▸ List.getElem_mem h1,h0,by omega⟩
 ·cases h
theorem y58 {n:Nat} (a:List Xa) (b:List Xb) (c:List Xc) (d:List Xd) (e:List Bool) (f:List (List Int)) (g:List Int) (k:Int) :
  f53 n (a,b,c,d,e,f,g,k)=some (match idx b k with | some t=>(true,a,b,c,d,e,f,g,t.Kind_,t.Param_) | none=>(false,a,b,c,d,e,f,g,0,0)):=by
 rw [y57]
 by_cases h:k<0
 ·rw [z34 (.inl h)]; simp [h]
 ·by_cases h2:k≥b.length
  ·rw [z34 (.inr h2)]; simp [h,h2]
  ·obtain ⟨y,hy,_⟩:=z74 (l:=b) (n:=k) (by omega) (by omega)
   rw [hy]
   have e1:decide (k<0)=false:=by simpa using h
   have e2:decide (k≥(b.length:Int))=false:=by simp; omega
   simp [e1,e2,hy]
theorem y61 {n:Nat} (c:Xe) (k:Int):f70 n (c,k)=some (match idx c.Regs_ k with | some t=>(true,t.Kind_,t.Param_) | none=>(false,0,0)):=by
 rw [y60]
 by_cases h:k<0
 ·rw [z34 (.inl h)]; simp [h]
 ·by_cases h2:k≥c.Regs_.length
  ·rw [z34 (.inr h2)]; simp [h,h2]
  ·obtain ⟨y,hy,_⟩:=z74 (l:=c.Regs_) (n:=k) (by omega) (by omega)
   rw [hy]
   have e1:decide (k<0)=false:=by simpa using h
   have e2:decide (k≥(c.Regs_.length:Int))=false:=by simp; omega
   simp [e1,e2,hy]
theorem zjq {l:List Xa} {t:Xb} (h:mayT l t=true):t.Kind_=1∨t.Kind_=2∨(t.Kind_=3∧0≤t.Param_∧t.Param_<l.length):=by
 unfold mayT at h
 by_cases h3:t.Kind_=3
 ·simp [h3] at h
  exact .inr (.inr ⟨h3,h.1,h.2⟩)
 ·have e3:(t.Kind_==3)=false:=by simpa using h3
  rw [e3] at h
  simp at h
  rcases h.1 with h | h
  ·exact .inl h
  ·exact .inr (.inl h)
def z1j (c:Xe) (s k:Int) (d:Xb):Bool:=bif s==0 then k==0 else match idx c.Regs_ k with | none=>false | some t=>isS t s d
def z38 (s:Int):Prop:=s=0∨s=1∨s=2∨s=3∨s=4∨s=5∨s=7∨s=8
theorem zgt {n:Nat} {c:Xe} {s k:Int} {d:Xb} (hs:z38 s) (hr:∀ t ∈ c.Regs_,mayT c.Sign_ t=true):f66 n (c,((z45 s).toNat:Int),k,d)=some (z1j c s k d):=by
 rw [y5u,y61]
 unfold z1j
 cases hi:idx c.Regs_ k with
 | none=>rcases hs with rfl | rfl | rfl | rfl | rfl | rfl | rfl | rfl <;> kernel_rfl
 | some t =>
  have hk:=zjq (hr t (zi9 hi).1)
  rcases hs with rfl | rfl | rfl | rfl | rfl | rfl | rfl | rfl
  ·rfl
  ·rfl
  ·rfl
  ·rfl
  ·rcases hk with h | h | ⟨h,_⟩ <;> simp [h,z45,isS]
  ·show (bif t.Kind_==1 then some true else some (eqTy t d))=some (t.Kind_==1 || eqTy t d)
   cases (t.Kind_==1) <;> rfl
  ·show (bif eqTy t d then some true else bif t.Kind_==1 then some (d.Kind_==3) else some false)=some (eqTy t d || (t.Kind_==1 && d.Kind_==3))
   cases eqTy t d <;> cases (t.Kind_==1) <;> rfl
  ·rfl
theorem zej {op:Int} {r:z3m} (h:rowD op=some r):(z38 r.d∧z38 r.a∧z38 r.b∧z38 r.c)∧((r.n=0∨r.n=1∨r.n=3∨r.n=4)∨r.n=2∧(r.d=3∨r.d=0∧r.a=3)):=by
 rcases z5q op with (rfl | rfl | rfl | rfl | rfl | rfl | rfl | rfl | rfl | rfl | rfl | rfl | rfl | rfl | rfl | rfl | rfl | rfl | rfl | rfl | rfl | rfl | rfl | rfl | rfl | rfl | rfl | rfl | rfl | rfl | rfl | rfl | rfl | rfl | rfl | rfl | rfl) | h0
 iterate 37 (· cases h; simp [z38])
 rw [z3d h0] at h; cases h
def tyD (c:Xe) (r:z3m) (i:Xd):Xb:=bif r.d==0 then ty0 else (idx c.Regs_ i.D_).getD ty0
def tyF (c:Xe) (r:z3m) (i:Xd):Xb:=bif r.d==0 then (bif r.a==0 then ty0 else (idx c.Regs_ i.A_).getD ty0) else (idx c.Regs_ i.D_).getD ty0
def nOk (c:Xe) (s N:Int) (t:Xb):Bool :=
 bif s==1 then decide (N≥0) && decide (N≤2147483647) else
 bif s==2 then (N==0 || (N==1 && (match idx c.Sign_ t.Param_ with | some p=>p.Kind_==2 | none=>false))) else
 bif s==3 then (match idx c.Slots_ N with | some z=>eqTy z.Type_ t | none=>false) else
 bif s==4 then decide (N≥0) && decide (N<(c.Sign_.length:Int)) else N==0
def z90 (i:Xd):Bool:=bif i.Op_==1 then z5u i.Bits_ else i.Bits_==0
def fits (c:Xe) (i:Xd):Bool:=match rowD i.Op_ with
 | none=>false
 | some r=>z1j c r.d i.D_ ty0 && (z1j c r.a i.A_ (tyD c r i) && (z1j c r.b i.B_ (tyD c r i) && (z1j c r.c i.C_ (tyD c r i) && (z90 i && nOk c r.n i.N_ (tyF c r i)))))
theorem y5w {n:Nat} {c:Xe} {N p:Int} (hp:0≤p∧p<c.Sign_.length):f67 n (c,N,p)=some (N==0 || (N==1 && (match idx c.Sign_ p with | some p=>p.Kind_==2 | none=>false))):=by
 rw [y5v]
 obtain ⟨y,hy,_⟩:=z74 (l:=c.Sign_) hp.1 hp.2
 rw [hy]
 cases (N==0) <;> cases (N==1) <;> simp
theorem isS3 {t d:Xb} (h:isS t 3 d=true):t.Kind_=3:=by simpa [isS] using h
theorem zpm {c:Xe} {i:Xd} {r:z3m} (hr:∀ t ∈ c.Regs_,mayT c.Sign_ t=true) (hp:r.d=3∨r.d=0∧r.a=3) (h1:z1j c r.d i.D_ ty0=true) (h2:z1j c r.a i.A_ (tyD c r i)=true):0≤(tyF c r i).Param_∧(tyF c r i).Param_<c.Sign_.length:=by
 have key:∀ (k:Int) (d:Xb),z1j c 3 k d=true→∃ t,idx c.Regs_ k=some t∧0≤t.Param_∧t.Param_<c.Sign_.length:=fun k d h=>by
  unfold z1j at h
  have e:((3:Int)==0)=false:=by decide
  rw [e,cond_false] at h
  split at h
  ·cases h
  ·rename_i t ht
   have h3:=isS3 h
   rcases zjq (hr t (zi9 ht).1) with q | q | q
   ·omega
   ·omega
   ·exact ⟨t,ht,q.2⟩
 rcases hp with hp | ⟨hp,hq⟩
 ·rw [hp] at h1
  obtain ⟨t,ht,h⟩:=key _ _ h1
  unfold tyF
  rw [hp]
  simpa [ht] using h
 ·rw [hq] at h2
  obtain ⟨t,ht,h⟩:=key _ _ h2
  unfold tyF
  rw [hp,hq]
  simpa [ht] using h
theorem zjp {s:Int} (h:z38 s):(((z45 s).toNat:Int) != 45) = !(s==0):=by
 rcases h with rfl | rfl | rfl | rfl | rfl | rfl | rfl | rfl <;> rfl
theorem zw5 {s:Int} (h:z38 s):(((z45 s).toNat:Int)==45)=(s==0):=by
 rcases h with rfl | rfl | rfl | rfl | rfl | rfl | rfl | rfl <;> rfl
theorem za5 (r:z3m):((z2d r).size:Int)=5:=rfl
theorem y0z (r:z3m):zc (z2d r) 0=((z45 r.d).toNat:Int):=rfl
theorem y1a (r:z3m):zc (z2d r) 1=((z45 r.a).toNat:Int):=rfl
theorem y9v (r:z3m):zc (z2d r) 2=((z45 r.b).toNat:Int):=rfl
theorem y9w (r:z3m):zc (z2d r) 3=((z45 r.c).toNat:Int):=rfl
theorem y1b (r:z3m):zc (z2d r) 4=((z6b r.n).toNat:Int):=rfl
theorem z7z {c:Xe} {s k:Int} {d:Xb} (h:z1j c s k d=true) (hs:(s==0)=false):∃ t,idx c.Regs_ k=some t:=by
 unfold z1j at h
 rw [hs,cond_false] at h
 split at h
 ·cases h
 ·rename_i t ht; exact ⟨t,ht⟩
theorem y5i {n:Nat} {c:Xe} {i:Xd} (hr:∀ t ∈ c.Regs_,mayT c.Sign_ t=true) (h0:0≤i.Bits_) (h1:i.Bits_<4294967296):f59 n (c,i)=some (fits c i):=by
 rw [y5h,zgs]
 unfold fits
 cases h:rowD i.Op_ with
 | none=>rfl
 | some r =>
  obtain ⟨⟨s1,s2,s3,s4⟩,hn⟩:=zej h
  have n1:(0:Int)≤0∧(0:Int)<5:=by decide
  have n2:(0:Int)≤1∧(1:Int)<5:=by decide
  have n3:(0:Int)≤2∧(2:Int)<5:=by decide
  have n4:(0:Int)≤3∧(3:Int)<5:=by decide
  have n5:(0:Int)≤4∧(4:Int)<5:=by decide
  simp only [Option.bind_some,Bool.not_true,cond_false,zs2 _ h0 h1]
  have hB:(bif (i.Op_ != 1) then (bif (i.Bits_ != 0) then some (Sum.inl (z2d r,true)) else some (Sum.inl (z2d r,!z5u i.Bits_))) else some (Sum.inl (z2d r,!z5u i.Bits_)):Option (ByteArray×Bool⊕Bool))=some (.inl (z2d r,!(z90 i))):=by
   unfold z90
   by_cases q:i.Op_=1
   ·simp [q]
   ·by_cases q2:i.Bits_=0
    ·have:z5u 0=true:=by decide
     simp [q,q2,this]
    ·have e1:(i.Op_==1)=false:=by simpa using q
     have e2:(i.Bits_==0)=false:=by simpa using q2
     simp [bne,e1,e2]
  rw [hB,Option.bind_some,orRet_inl]
  dsimp only
  cases hb:z90 i with
  | false=>simp
  | true =>
   simp only [Bool.not_true,cond_false,za5,zi n1,y0z,zjp s1,zgt s1 hr,Option.bind_some]
   have hD:(bif !(r.d==0) then (bif !(z1j c r.d i.D_ ty0) then some (Sum.inr false) else (idx c.Regs_ i.D_).bind fun y5=>some (Sum.inl (z2d r,y5.Kind_,y5.Param_))) else (bif i.D_ != 0 then some (Sum.inr false) else some (Sum.inl (z2d r,0,0))):Option (ByteArray×Int×Int⊕Bool))
     = bif z1j c r.d i.D_ ty0 then some (.inl (z2d r,(tyD c r i).Kind_,(tyD c r i).Param_)) else some (.inr false):=by
    cases hz:r.d==0 with
    | true =>
     have:z1j c r.d i.D_ ty0=(i.D_==0):=by unfold z1j; rw [hz]; rfl
     rw [this]
     unfold tyD
     rw [hz]
     have e:(i.D_ != 0) = !(i.D_==0):=rfl
     rw [e]
     cases i.D_==0 <;> rfl
    | false =>
     cases hq:z1j c r.d i.D_ ty0 with
     | false=>simp
     | true =>
      obtain ⟨t,ht⟩:=z7z hq hz
      unfold tyD
      rw [hz,ht]
      simp
   rw [hD]
   cases hd:z1j c r.d i.D_ ty0 with
   | false=>simp
   | true =>
    simp only [cond_true,Option.bind_some,orRet_inl,za5,zi n2,zi n3,zi n4,y1a,y9v,y9w,zgt s2 hr,zgt s3 hr,zgt s4 hr,Bool.true_and]
    cases ha:z1j c r.a i.A_ (tyD c r i) with
    | false=>simp
    | true =>
     cases hbb:z1j c r.b i.B_ (tyD c r i) with
     | false=>simp
     | true =>
      cases hcc:z1j c r.c i.C_ (tyD c r i) with
      | false=>simp
      | true =>
       simp only [cond_true,cond_false,Bool.not_true,Option.bind_some,orRet_inl,za5,zi n1,zi n2,zi n5,y0z,y1a,y1b,zw5 s1,zjp s2,Bool.true_and]
       have hF:((bif r.d==0 then some (Sum.inl (z2d r,!(r.a==0),(tyD c r i).Kind_,(tyD c r i).Param_)) else some (Sum.inl (z2d r,false,(tyD c r i).Kind_,(tyD c r i).Param_)):Option (ByteArray×Bool×Int×Int⊕(ByteArray×Int×Int⊕Bool))).bind (zp fun s4=>bif s4.2.1 then (idx c.Regs_ i.A_).bind fun y9=>some (Sum.inl (s4.1,y9.Kind_,y9.Param_)) else some (Sum.inl (s4.1,s4.2.2.1,s4.2.2.2))))
         = some (.inl (z2d r,(tyF c r i).Kind_,(tyF c r i).Param_)):=by
        unfold tyF tyD
        cases hz:r.d==0 with
        | false=>simp
        | true =>
         cases hza:r.a==0 with
         | true=>simp
         | false =>
          obtain ⟨t,ht⟩:=z7z ha hza
          simp [ht]
       rw [hF]
       simp only [Option.bind_some,orRet_inl,za5,zi n5,y1b]
       unfold nOk
       rcases hn with (hn | hn | hn | hn) | ⟨hn,hp⟩
       ·simp only [hn,z6b]
        rfl
       ·simp only [hn,z6b]
        show (bif decide (i.N_≥0) then some (decide (i.N_≤2147483647)) else some false)=some (decide (i.N_≥0) && decide (i.N_≤2147483647))
        cases decide (i.N_≥0) <;> rfl
       ·simp only [hn,z6b]
        show (bif decide (i.N_≥0) then bif decide (i.N_<(c.Slots_.length:Int)) then (idx c.Slots_ i.N_).bind fun y11=>some (eqTy y11.Type_ (tyF c r i)) else some false else some false)=some (match idx c.Slots_ i.N_ with | some z=>eqTy z.Type_ (tyF c r i) | none=>false)
        by_cases q:i.N_≥0
        ·by_cases q2:i.N_<c.Slots_.length
         ·obtain ⟨y,hy,_⟩:=z74 (l:=c.Slots_) q q2
          simp [q,q2,hy]
         ·rw [z34 (by omega)]
          simp [q,q2]
        ·rw [z34 (by omega)]
         simp [q]
       ·simp only [hn,z6b]
        show (bif decide (i.N_≥0) then some (decide (i.N_<(c.Sign_.length:Int))) else some false)=some (decide (i.N_≥0) && decide (i.N_<(c.Sign_.length:Int)))
        cases decide (i.N_≥0) <;> rfl
       ·have:=zpm hr hp hd ha
        simp only [hn,z6b]
        show ((f67 n (c,i.N_,(tyF c r i).Param_)).bind fun y10=>some y10)=_
        rw [y5w this]
        rfl
section
variable {n:Nat} {c:Xe} {i:Xd} {set:List Bool} {news:List (List Int)} {op:List Int}
theorem ze7 {a b cc d e k dk dp fk fp s m:Int} (hk:k<4) (h1:idx [a,b,cc,d] k=some s) (h2:idx [i.D_,i.A_,i.B_,i.C_] k=some m) (hs:s ≠ 6) :
  zd2 n (c.Sign_,c.Regs_,c.Slots_,c.List_,set,news,op,i) (a,b,cc,d,e) (k,c.Sign_,c.Regs_,c.Slots_,c.List_,set,news,op,dk,dp,fk,fp) =
   some (bif z1j c s m ⟨dk,dp⟩ then .go (IntKind.i64.wrap (k+1),c.Sign_,c.Regs_,c.Slots_,c.List_,set,news,op,
    (bif s==0 then dk else bif k==0 then ((idx c.Regs_ m).getD ty0).Kind_ else dk),(bif s==0 then dp else bif k==0 then ((idx c.Regs_ m).getD ty0).Param_ else dp),
    (bif s==0 then fk else bif k==0 then ((idx c.Regs_ m).getD ty0).Kind_ else bif k==1 then (bif a==0 then ((idx c.Regs_ m).getD ty0).Kind_ else fk) else fk),
    (bif s==0 then fp else bif k==0 then ((idx c.Regs_ m).getD ty0).Param_ else bif k==1 then (bif a==0 then ((idx c.Regs_ m).getD ty0).Param_ else fp) else fp))
    else .ret (c.Sign_,c.Regs_,c.Slots_,c.List_,set,news,op)):=by
 rw [zj0]
 have hk':decide (k<4)=true:=by simpa using hk
 simp only [hk',cond_true,h1,h2,Option.bind_some]
 unfold z1j
 cases hz:s==0 with
 | true =>
  simp only [cond_true]
  have e1:(m != 0) = !(m==0):=rfl
  rw [e1]
  cases m==0 <;> rfl
 | false =>
  simp only [cond_false,y58]
  cases hi:idx c.Regs_ m with
  | none=>rfl
  | some t =>
   simp only [Option.bind_some,Bool.not_true,cond_false,y5a _ _ _ hs]
   have e2:(⟨t.Kind_,t.Param_⟩:Xb)=t:=rfl
   simp only [e2,Option.bind_some,orRet_inl]
   cases isS t s ⟨dk,dp⟩ <;> cases (k==0) <;> cases (k==1) <;> cases (a==0) <;> rfl
theorem zkg {s:Int} (h:z38 s):s ≠ 6:=by
 rcases h with rfl | rfl | rfl | rfl | rfl | rfl | rfl | rfl <;> decide
theorem w1:IntKind.i64.wrap (0+1)=1:=by decide
theorem w2:IntKind.i64.wrap (1+1)=2:=by decide
theorem w3:IntKind.i64.wrap (2+1)=3:=by decide
theorem w4:IntKind.i64.wrap (3+1)=4:=by decide
theorem y2l {a b cc d e dk dp fk fp:Int} :
  zd2 n (c.Sign_,c.Regs_,c.Slots_,c.List_,set,news,op,i) (a,b,cc,d,e) (4,c.Sign_,c.Regs_,c.Slots_,c.List_,set,news,op,dk,dp,fk,fp)=some (.out (4,c.Sign_,c.Regs_,c.Slots_,c.List_,set,news,op,dk,dp,fk,fp)):=by
 rw [zj0]; rfl
theorem zxk {r:z3m} (m:Nat) (h:z38 r.d∧z38 r.a∧z38 r.b∧z38 r.c) :
  iter (zd2 n (c.Sign_,c.Regs_,c.Slots_,c.List_,set,news,op,i) (r.d,r.a,r.b,r.c,r.n)) (m+5) (0,c.Sign_,c.Regs_,c.Slots_,c.List_,set,news,op,0,0,0,0) =
   some (bif z1j c r.d i.D_ ty0 && (z1j c r.a i.A_ (tyD c r i) && (z1j c r.b i.B_ (tyD c r i) && z1j c r.c i.C_ (tyD c r i))) then
    .out (4,c.Sign_,c.Regs_,c.Slots_,c.List_,set,news,op,(tyD c r i).Kind_,(tyD c r i).Param_,(tyF c r i).Kind_,(tyF c r i).Param_) else .ret (c.Sign_,c.Regs_,c.Slots_,c.List_,set,news,op)):=by
 obtain ⟨h1,h2,h3,h4⟩:=h
 have eD:∀ b:Bool,b=(r.d==0)→(⟨bif b then 0 else ((idx c.Regs_ i.D_).getD ty0).Kind_,bif b then 0 else ((idx c.Regs_ i.D_).getD ty0).Param_⟩:Xb)=tyD c r i:=by
  intro b hb; unfold tyD; rw [← hb]; cases b <;> rfl
 unfold iter
 rw [ze7 (s:=r.d) (m:=i.D_) (by decide) rfl rfl (zkg h1)]
 have e0:(⟨0,0⟩:Xb)=ty0:=rfl
 rw [e0]
 cases z1j c r.d i.D_ ty0 with
 | false=>rfl
 | true =>
  have k0:((0:Int)==0)=true:=by decide
  simp only [cond_true,w1,k0,Bool.true_and]
  unfold iter
  rw [ze7 (s:=r.a) (m:=i.A_) (by decide) rfl rfl (zkg h2),eD _ rfl]
  cases z1j c r.a i.A_ (tyD c r i) with
  | false=>rfl
  | true =>
   have k1:((1:Int)==0)=false:=by decide
   have k2:((1:Int)==1)=true:=by decide
   simp only [cond_true,w2,k1,k2,cond_false,Bool.true_and,Bool.cond_self]
   unfold iter
   rw [ze7 (s:=r.b) (m:=i.B_) (by decide) rfl rfl (zkg h3),eD _ rfl]
   cases z1j c r.b i.B_ (tyD c r i) with
   | false=>rfl
   | true =>
    have k3:((2:Int)==0)=false:=by decide
    have k4:((2:Int)==1)=false:=by decide
    simp only [cond_true,w3,k3,k4,cond_false,Bool.true_and,Bool.cond_self]
    unfold iter
    rw [ze7 (s:=r.c) (m:=i.C_) (by decide) rfl rfl (zkg h4),eD _ rfl]
    cases z1j c r.c i.C_ (tyD c r i) with
    | false=>rfl
    | true =>
     have k5:((3:Int)==0)=false:=by decide
     have k6:((3:Int)==1)=false:=by decide
     simp only [cond_true,w4,k5,k6,cond_false,Bool.true_and,Bool.cond_self]
     unfold iter
     rw [y2l]
     simp only
     congr 13
     all_goals
      first
      | (unfold tyD; cases r.d==0 <;> rfl)
      | (unfold tyF; cases r.d==0 <;> cases r.a==0 <;> rfl)
theorem y4s (m:Nat) (hr:∀ t ∈ c.Regs_,mayT c.Sign_ t=true) (h0:0≤i.Bits_) (h1:i.Bits_<4294967296) :
  f35 (m+5) (c.Sign_,c.Regs_,c.Slots_,c.List_,set,news,op,i)=some (fits c i,c.Sign_,c.Regs_,c.Slots_,c.List_,set,news,op):=by
 rw [y4r,zlb]
 unfold fits
 cases h:rowD i.Op_ with
 | none=>rfl
 | some r =>
  obtain ⟨hs,hn⟩:=zej h
  simp only [Option.bind_some,Bool.not_true,cond_false,zxk m hs,zs0 _ h0 h1]
  cases hd:z1j c r.d i.D_ ty0 with
  | false=>rfl
  | true =>
  cases ha:z1j c r.a i.A_ (tyD c r i) with
  | false=>rfl
  | true =>
  cases hbb:z1j c r.b i.B_ (tyD c r i) with
  | false=>rfl
  | true =>
  cases hcc:z1j c r.c i.C_ (tyD c r i) with
  | false=>rfl
  | true =>
   simp only [Bool.true_and,cond_true,Option.bind_some,Bo.then]
   have hB:(bif (i.Op_==1) then (bif (!z5u i.Bits_) then some (Sum.inl (true,c.Sign_,c.Regs_,c.Slots_,c.List_,set,news,op,r.d,r.a,r.b,r.c,r.n,(tyF c r i).Kind_,(tyF c r i).Param_))
     else (bif i.Op_ != 1 then some (.inl (i.Bits_ != 0,c.Sign_,c.Regs_,c.Slots_,c.List_,set,news,op,r.d,r.a,r.b,r.c,r.n,(tyF c r i).Kind_,(tyF c r i).Param_)) else some (.inl (false,c.Sign_,c.Regs_,c.Slots_,c.List_,set,news,op,r.d,r.a,r.b,r.c,r.n,(tyF c r i).Kind_,(tyF c r i).Param_))))
     else (bif i.Op_ != 1 then some (.inl (i.Bits_ != 0,c.Sign_,c.Regs_,c.Slots_,c.List_,set,news,op,r.d,r.a,r.b,r.c,r.n,(tyF c r i).Kind_,(tyF c r i).Param_)) else some (.inl (false,c.Sign_,c.Regs_,c.Slots_,c.List_,set,news,op,r.d,r.a,r.b,r.c,r.n,(tyF c r i).Kind_,(tyF c r i).Param_))) :
      Option ((Bool×List Xa×List Xb×List Xc×List Xd×List Bool×List (List Int)×List Int×Int×Int×Int×Int×Int×Int×Int)⊕(Bool×List Xa×List Xb×List Xc×List Xd×List Bool×List (List Int)×List Int)))
     = some (.inl (!(z90 i),c.Sign_,c.Regs_,c.Slots_,c.List_,set,news,op,r.d,r.a,r.b,r.c,r.n,(tyF c r i).Kind_,(tyF c r i).Param_)):=by
    unfold z90
    have e1:(i.Op_ != 1) = !(i.Op_==1):=rfl
    have e2:(i.Bits_ != 0) = !(i.Bits_==0):=rfl
    rw [e1,e2]
    cases i.Op_==1 <;> cases z5u i.Bits_ <;> rfl
   rw [hB,Option.bind_some,orRet_inl]
   dsimp only
   cases hb:z90 i with
   | false=>rfl
   | true =>
    simp only [Bool.not_true,cond_false,Bool.true_and]
    unfold nOk
    rcases hn with (hn | hn | hn | hn) | ⟨hn,hp⟩
    ·rw [hn]; rfl
    ·rw [hn]
     show (bif decide (i.N_≥0) then some (decide (i.N_≤2147483647),c.Sign_,c.Regs_,c.Slots_,c.List_,set,news,op) else some (false,c.Sign_,c.Regs_,c.Slots_,c.List_,set,news,op))=some (decide (i.N_≥0) && decide (i.N_≤2147483647),c.Sign_,c.Regs_,c.Slots_,c.List_,set,news,op)
     cases decide (i.N_≥0) <;> rfl
    ·rw [hn]
     show (bif decide (i.N_≥0) then bif decide (i.N_<(c.Slots_.length:Int)) then (idx c.Slots_ i.N_).bind fun y11=>some (eqTy y11.Type_ (tyF c r i),c.Sign_,c.Regs_,c.Slots_,c.List_,set,news,op) else some (false,c.Sign_,c.Regs_,c.Slots_,c.List_,set,news,op) else some (false,c.Sign_,c.Regs_,c.Slots_,c.List_,set,news,op))=some ((match idx c.Slots_ i.N_ with | some z=>eqTy z.Type_ (tyF c r i) | none=>false),c.Sign_,c.Regs_,c.Slots_,c.List_,set,news,op)
     by_cases q:i.N_≥0
     ·by_cases q2:i.N_<c.Slots_.length
      ·obtain ⟨y,hy,_⟩:=z74 (l:=c.Slots_) q q2
       simp [q,q2,hy]
      ·rw [z34 (by omega)]
       simp [q,q2]
     ·rw [z34 (by omega)]
      simp [q]
    ·rw [hn]
     show (bif decide (i.N_≥0) then some (decide (i.N_<(c.Sign_.length:Int)),c.Sign_,c.Regs_,c.Slots_,c.List_,set,news,op) else some (false,c.Sign_,c.Regs_,c.Slots_,c.List_,set,news,op))=some (decide (i.N_≥0) && decide (i.N_<(c.Sign_.length:Int)),c.Sign_,c.Regs_,c.Slots_,c.List_,set,news,op)
     cases decide (i.N_≥0) <;> rfl
    ·obtain ⟨p1,p2⟩:=zpm hr hp hd ha
     obtain ⟨y,hy,_⟩:=z74 (l:=c.Sign_) p1 p2
     rw [hn]
     show (bif i.N_==0 then some (true,c.Sign_,c.Regs_,c.Slots_,c.List_,set,news,op) else bif i.N_==1 then (idx c.Sign_ (tyF c r i).Param_).bind fun y8=>some (y8.Kind_==2,c.Sign_,c.Regs_,c.Slots_,c.List_,set,news,op) else some (false,c.Sign_,c.Regs_,c.Slots_,c.List_,set,news,op))=some ((i.N_==0 || (i.N_==1 && (match idx c.Sign_ (tyF c r i).Param_ with | some p=>p.Kind_==2 | none=>false))),c.Sign_,c.Regs_,c.Slots_,c.List_,set,news,op)
     rw [hy]
     cases (i.N_==0) <;> cases (i.N_==1) <;> simp
end
theorem zh0 {α Y Z:Type} {l:List α} {p:α→Bool} {body:Int→Option (Bo Int Y Z)} {z:Int→Z} {y:Y}
  (hb:∀ (k:Nat) (h:k<l.length),body k=some (bif p l[k] then .go ((k+1:Nat):Int) else .ret (z k))) (he:body l.length=some (.out y)) :
  ∀ (j k f:Nat),k+j=l.length→j<f→iter body f (k:Int)=some (match (l.drop k).findIdx? (fun x=>!p x) with | none=>.out y | some i=>.ret (z ((k+i:Nat):Int)))
 | 0,k,f+1,hk,hf=>by
  obtain rfl:k=l.length:=by omega
  unfold iter
  rw [he]
  simp
 | j+1,k,f+1,hk,hf=>by
  have h:k<l.length:=by omega
  unfold iter
  rw [hb k h,List.drop_eq_getElem_cons h]
  cases hp:p l[k] with
  | false =>
   simp only [cond_false,List.findIdx?_cons,hp,Bool.not_false,if_true]
   rfl
  | true =>
   simp only [cond_true]
   rw [zh0 hb he j (k+1) f (by omega) (by omega)]
   rw [List.findIdx?_cons]
   simp only [hp,Bool.not_true,cond_false,Bool.false_eq_true,if_false]
   cases (l.drop (k+1)).findIdx? (fun x=>!p x) with
   | none=>rfl
   | some i=>simp only [Option.map_some]; congr 4; omega
theorem zxw {α Y Z:Type} {l:List α} {p:α→Bool} {body:Int→Option (Bo Int Y Z)} {z:Int→Z} {y:Y} {f:Nat}
  (hb:∀ (k:Nat) (h:k<l.length),body k=some (bif p l[k] then .go ((k+1:Nat):Int) else .ret (z k))) (he:body l.length=some (.out y)) (hf:l.length<f) :
  iter body f 0=some (match l.findIdx? (fun x=>!p x) with | none=>.out y | some i=>.ret (z (i:Int))):=by
 have:=zh0 hb he l.length 0 f (by omega) hf
 simpa using this
theorem zf8 {α:Type} (l:List α) (p:α→Bool):(l.findIdx? (fun x=>!p x)).isNone=l.all p:=by
 induction l with
 | nil=>rfl
 | cons x l ih =>
  rw [List.findIdx?_cons,List.all_cons,← ih]
  cases p x <;> simp
theorem z47 {α Y Z:Type} {l:List α} {p:α→Bool} {body:Int→Option (Bo Int Y Z)} {z:Z} {y:Y} {f:Nat}
  (hb:∀ (k:Nat) (h:k<l.length),body k=some (bif p l[k] then .go ((k+1:Nat):Int) else .ret z)) (he:body l.length=some (.out y)) (hf:l.length<f) :
  iter body f 0=some (bif l.all p then .out y else .ret z):=by
 rw [zxw (z:=fun _=>z) hb he hf,← zf8]
 cases l.findIdx? (fun x=>!p x) <;> rfl
theorem zez {α S Z:Type} {l:List α} {F:S→α→S} {Inv:S→Prop} {body:Int×S→Option (Bo (Int×S) (Int×S) Z)}
  (hb:∀ (k:Nat) (s:S) (h:k<l.length),Inv s→body (k,s)=some (.go (((k+1:Nat):Int),F s l[k]))∧Inv (F s l[k])) (he:∀ s,Inv s→body (l.length,s)=some (.out ((l.length:Int),s))) :
  ∀ (j k f:Nat) (s:S),k+j=l.length→j<f→Inv s→iter body f ((k:Int),s)=some (.out ((l.length:Int),(l.drop k).foldl F s))
 | 0,k,f+1,s,hk,hf,hi=>by
  obtain rfl:k=l.length:=by omega
  unfold iter
  rw [he s hi]
  simp
 | j+1,k,f+1,s,hk,hf,hi=>by
  have h:k<l.length:=by omega
  obtain ⟨h1,h2⟩:=hb k s h hi
  unfold iter
  rw [h1,List.drop_eq_getElem_cons h]
  exact zez hb he j (k+1) f _ (by omega) (by omega) h2
theorem zw2 {α S Z:Type} {l:List α} {F:S→α→S} {Inv:S→Prop} {body:Int×S→Option (Bo (Int×S) (Int×S) Z)} {f:Nat} {s:S}
  (hb:∀ (k:Nat) (s:S) (h:k<l.length),Inv s→body (k,s)=some (.go (((k+1:Nat):Int),F s l[k]))∧Inv (F s l[k])) (he:∀ s,Inv s→body (l.length,s)=some (.out ((l.length:Int),s)))
  (hf:l.length<f) (hi:Inv s):iter body f (0,s)=some (.out ((l.length:Int),l.foldl F s)):=by
 have:=zez hb he l.length 0 f s (by omega) hf hi
 simpa using this
theorem z2h {k:Nat} (h:k<4611686018427387904):IntKind.i64.wrap ((k:Int)+1)=((k+1:Nat):Int):=by
 rw [zaa (by omega) (by omega)]; simp
theorem ya9 {k:Nat} (h:k<4611686018427387904):IntKind.i64.wrap ((k:Int) - 1)=(k:Int) - 1:=zaa (by omega) (by omega)
theorem za2 (i:Xd):(z1o i).length≤3:=by
 unfold z1o
 split
 ·rename_i r _
  cases r.a==0 <;> cases r.b==0 <;> cases r.c==0 <;> simp
 ·simp
theorem zbs {c:Xe} {i:Xd} (h:fits c i=true):∃ r,rowD i.Op_=some r∧z1j c r.d i.D_ ty0=true∧z1j c r.a i.A_ (tyD c r i)=true∧z1j c r.b i.B_ (tyD c r i)=true∧z1j c r.c i.C_ (tyD c r i)=true:=by
 unfold fits at h
 split at h
 ·cases h
 ·rename_i r hr
  simp only [Bool.and_eq_true] at h
  exact ⟨r,hr,h.1,h.2.1,h.2.2.1,h.2.2.2.1⟩
theorem zcf {c:Xe} {s k:Int} {d:Xb} (h:z1j c s k d=true) (hs:(s==0)=false):0≤k∧k<c.Regs_.length:=by
 obtain ⟨t,ht⟩:=z7z h hs
 exact (zi9 ht).2
theorem zml {c:Xe} {i:Xd} (h:fits c i=true):∀ y ∈ z1o i,0≤y∧y<c.Regs_.length:=by
 obtain ⟨r,hr,h1,h2,h3,h4⟩:=zbs h
 intro y hy
 unfold z1o at hy
 rw [hr] at hy
 simp only [List.mem_append] at hy
 rcases hy with hy | hy | hy
 ·cases hz:r.a==0 with
  | true=>rw [hz] at hy; cases hy
  | false =>
   rw [hz] at hy
   simp only [cond_false,List.mem_singleton] at hy
   subst hy; exact zcf h2 hz
 ·cases hz:r.b==0 with
  | true=>rw [hz] at hy; cases hy
  | false =>
   rw [hz] at hy
   simp only [cond_false,List.mem_singleton] at hy
   subst hy; exact zcf h3 hz
 ·cases hz:r.c==0 with
  | true=>rw [hz] at hy; cases hy
  | false =>
   rw [hz] at hy
   simp only [cond_false,List.mem_singleton] at hy
   subst hy; exact zcf h4 hz
theorem zid {c:Xe} {i:Xd} (h:fits c i=true) (hs:sets i=true):0≤i.D_∧i.D_<c.Regs_.length:=by
 obtain ⟨r,hr,h1,_⟩:=zbs h
 unfold sets at hs
 rw [hr] at hs
 simp only [Bool.not_eq_true'] at hs
 exact zcf h1 hs
def rdOk (set:List Bool) (i:Xd):Bool:=(z1o i).all fun y=>(set[y.toNat]?).getD false
theorem zaw {α:Type} {l:List α} {y:Int} (h0:0≤y) (h1:y<l.length):∃ b,l[y.toNat]? = some b:=by
 have:y.toNat<l.length:=by omega
 exact ⟨_,List.getElem?_eq_getElem this⟩
theorem zle {n m:Nat} {c:Xe} {i:Xd} {set:List Bool} {news:List (List Int)} {op:List Int}
  (h:∀ y ∈ z1o i,0≤y∧y<set.length) :
  iter (zld n (c.Sign_,c.Regs_,c.Slots_,c.List_,set,news,op,i) (((z1o i).length:Int),z1o i)) (m+4) 0=some (bif rdOk set i then .out ((z1o i).length:Int) else .ret ()):=by
 refine z47 (fun k hk=>?_) ?_ (by have:=za2 i; omega)
 ·have h3:=za2 i
  obtain ⟨y0,y1⟩:=h _ (List.getElem_mem hk)
  obtain ⟨b,hb⟩:=zaw y0 y1
  rw [zj2]
  have e1:decide ((k:Int)<((z1o i).length:Int))=true:=by simp; omega
  have e2:(z1o i)[(k:Int).toNat]? = some (z1o i)[k]:=by simp [hk]
  simp only [e1,cond_true]
  rw [zi (by omega),e2]
  simp only [Option.bind_some]
  rw [zi ⟨y0,y1⟩,hb,z2h (by omega)]
  cases b <;> rfl
 ·rw [zj2]; simp
theorem zxq {n m:Nat} {c:Xe} {i:Xd} {set:List Bool} {op:List Xf} {b0:Bool} (h:∀ y ∈ z1o i,0≤y∧y<set.length) :
  iter (zlh n (c,i,set,op) (b0,z1o i)) (m+4) 0=some (bif rdOk set i then .out ((z1o i).length:Int) else .ret ()):=by
 refine z47 (fun k hk=>?_) ?_ (by have:=za2 i; omega)
 ·have h3:=za2 i
  obtain ⟨y0,y1⟩:=h _ (List.getElem_mem hk)
  obtain ⟨b,hb⟩:=zaw y0 y1
  rw [zj5]
  have e1:decide ((k:Int)<((z1o i).length:Int))=true:=by simp; omega
  have e2:(z1o i)[(k:Int).toNat]? = some (z1o i)[k]:=by simp [hk]
  have e3:idx set (z1o i)[k]=some b:=by unfold idx; rw [if_pos y0,hb]
  simp only [e1,cond_true]
  rw [zi (by omega),e2]
  simp only [Option.bind_some]
  rw [e3,z2h (by omega),hb]
  cases b <;> rfl
 ·rw [zj5]; simp
def lst (op:List Int):Int:=match op.getLast? with | some x=>x | none=>-1
def undo (set:List Bool) (l:List Int):List Bool:=l.foldl (fun s r=>s.set r.toNat false) set
def zeo (c:Xe) (k p:Int):Bool:=match idx c.Regs_ k with | some t=>t.Kind_==3 && (t.Param_==p && true) | none=>false
def onD (i:Xd):Bool:=elem i.Op_ || (i.Op_==29 || (i.Op_==30 || i.Op_==32))
def onA (i:Xd):Bool:=i.Op_==31 || i.Op_==33
def zcj (c:Xe) (i:Xd) (p:Int):Bool:=bif onD i then zeo c i.D_ p else bif onA i then zeo c i.A_ p else false
theorem z63 {α:Type} (l:List α) (h:0<l.length):∃ x,l.getLast? = some x∧l[l.length - 1]? = some x:=by
 rw [List.getLast?_eq_getElem?]
 exact ⟨l[l.length - 1],by simp [h],by simp [h]⟩
theorem z8r {k:Nat} (h0:0<k) (h:k<4611686018427387904):(IntKind.i64.wrap ((k:Int) - 1)).toNat=k - 1∧0≤IntKind.i64.wrap ((k:Int) - 1)∧IntKind.i64.wrap ((k:Int) - 1)<k:=by
 rw [ya9 h]; omega
theorem zh3 {R:Type} (op:List Int) (h:op.length<4611686018427387904):(bif (decide ((op.length:Int) > (0:Int))) then (need (0≤(IntKind.i64.wrap ((op.length:Int) - (1:Int)))∧(IntKind.i64.wrap ((op.length:Int) - (1:Int)))<(op.length:Int)) ((op[(IntKind.i64.wrap ((op.length:Int) - (1:Int))).toNat]?).bind fun y1=>some (.inl y1))) else (some (.inl (-1:Int))):Option (Int⊕R))=some (.inl (lst op)):=by
 by_cases h0:0<op.length
 ·have e:decide ((op.length:Int) > 0)=true:=by simp; omega
  obtain ⟨w1,w2,w3⟩:=z8r h0 h
  obtain ⟨x,x1,x2⟩:=z63 op h0
  rw [e,cond_true,zi ⟨w2,w3⟩,w1,x2]
  unfold lst
  rw [x1]; rfl
 ·have:op=[]:=List.eq_nil_of_length_eq_zero (by omega)
  subst this
  rfl
section
variable {n:Nat} {c:Xe} {i:Xd} {set:List Bool} {news:List (List Int)} {op:List Int}
theorem zxo (ho:op.length<4611686018427387904) (h:i.Op_=34):f36 n (c.Sign_,c.Regs_,c.Slots_,c.List_,set,news,op,i)=some (!(decide (lst op≥0) || (op.length:Int)==64),c.Sign_,c.Regs_,c.Slots_,c.List_,set,news,op):=by
 rw [zd3]
 dsimp only
 rw [zh3 op ho,h]
 have e1:((34:Int)==34)=true:=rfl
 have e2:((34:Int)==36)=false:=rfl
 simp only [Option.bind_some,orRet_inl,e1,e2,cond_true,cond_false]
 cases decide (lst op≥0) <;> cases ((op.length:Int)==64) <;> rfl
theorem zxm (ho:op.length≤64) (h:i.Op_=36):f36 n (c.Sign_,c.Regs_,c.Slots_,c.List_,set,news,op,i)=some (!(decide (lst op≥0) || (op.length:Int)==64),c.Sign_,c.Regs_,c.Slots_,c.List_,set,news,bif (decide (lst op≥0) || (op.length:Int)==64) then op else op++[i.N_]):=by
 rw [zd3]
 dsimp only
 rw [zh3 op (by omega),h]
 have e1:((36:Int)==34)=false:=rfl
 have e2:((36:Int)==36)=true:=rfl
 simp only [Option.bind_some,orRet_inl,e1,e2,cond_true,cond_false]
 rw [zi (by simp; omega)]
 cases decide (lst op≥0) <;> cases ((op.length:Int)==64) <;> rfl
theorem zxn (ho:op.length≤64) (h:i.Op_=37):f36 n (c.Sign_,c.Regs_,c.Slots_,c.List_,set,news,op,i)=some (!(decide (lst op<0)),c.Sign_,c.Regs_,c.Slots_,c.List_,set,news,bif decide (lst op<0) then op else op.dropLast):=by
 rw [zd3]
 dsimp only
 rw [zh3 op (by omega),h]
 have e1:((37:Int)==34)=false:=rfl
 have e2:((37:Int)==36)=false:=rfl
 have e3:((37:Int)==35)=false:=rfl
 have e4:((37:Int)==37)=true:=rfl
 simp only [Option.bind_some,orRet_inl,e1,e2,e3,e4,cond_true,cond_false]
 cases hl:decide (lst op<0) with
 | true=>rfl
 | false =>
  have h0:0<op.length:=by
   cases op with
   | nil=>simp [lst] at hl
   | cons _ _=>simp
  obtain ⟨w1,w2,w3⟩:=z8r h0 (by omega)
  rw [cond_false,zi ⟨w2,by omega⟩,w1,zi (by omega)]
  simp [List.dropLast_eq_take]
theorem zxl (ho:op.length≤64) (hf:fits c i=true) (h1:i.Op_ ≠ 34) (h2:i.Op_ ≠ 35) (h3:i.Op_ ≠ 36) (h4:i.Op_ ≠ 37) (hD:onD i=true→∃ t,idx c.Regs_ i.D_=some t) (hA:onA i=true→∃ t,idx c.Regs_ i.A_=some t) :
  f36 n (c.Sign_,c.Regs_,c.Slots_,c.List_,set,news,op,i)=some ((bif decide (lst op<0) then true else zcj c i (lst op)),c.Sign_,c.Regs_,c.Slots_,c.List_,set,news,op):=by
 rw [zd3]
 dsimp only
 rw [zh3 op (by omega)]
 have e1:(i.Op_==34)=false:=by simpa using h1
 have e2:(i.Op_==36)=false:=by simpa using h3
 have e3:(i.Op_==35)=false:=by simpa using h2
 have e4:(i.Op_==37)=false:=by simpa using h4
 simp only [Option.bind_some,orRet_inl,e1,e2,e3,e4,cond_true,cond_false,y41]
 cases hl:decide (lst op<0) with
 | true=>rfl
 | false =>
  simp only [cond_false]
  have hB:(bif elem i.Op_ then some (Sum.inl (true,lst op)) else bif i.Op_==29 then some (.inl (true,lst op)) else bif i.Op_==30 then some (.inl (true,lst op)) else some (.inl (i.Op_==32,lst op)):Option (Bool×Int⊕(Bool×List Xa×List Xb×List Xc×List Xd×List Bool×List (List Int)×List Int)))=some (.inl (onD i,lst op)):=by
   unfold onD
   cases elem i.Op_ <;> cases i.Op_==29 <;> cases i.Op_==30 <;> rfl
  rw [hB,Option.bind_some,orRet_inl]
  dsimp only
  unfold zcj
  cases hd:onD i with
  | true =>
   obtain ⟨t,ht⟩:=hD hd
   simp only [cond_true,zeo,ht,Option.bind_some]
  | false =>
   simp only [cond_false]
   have hB2:(bif i.Op_==31 then some (Sum.inl (true,lst op)) else some (.inl (i.Op_==33,lst op)):Option (Bool×Int⊕(Bool×List Xa×List Xb×List Xc×List Xd×List Bool×List (List Int)×List Int)))=some (.inl (onA i,lst op)):=by
    unfold onA
    cases i.Op_==31 <;> rfl
   rw [hB2,Option.bind_some,orRet_inl]
   dsimp only
   cases ha:onA i with
   | true =>
    obtain ⟨t,ht⟩:=hA ha
    simp only [cond_true,zeo,ht,Option.bind_some]
   | false=>rfl
theorem zmz (set:List Bool) (l:List Int):(undo set l).length=set.length:=by
 unfold undo
 induction l generalizing set with
 | nil=>rfl
 | cons x l ih=>simp only [List.foldl_cons]; rw [ih]; simp
theorem y2m {m:Nat} {nl:List Int} (ho:op.length≤64) (h:i.Op_=35) (hn:0<op.length→lst op<0→news.getLast? = some nl∧news.length<4611686018427387904∧nl.length<m+4∧nl.length<4611686018427387904∧∀ r ∈ nl,0≤r∧r<set.length) :
  f36 (m+4) (c.Sign_,c.Regs_,c.Slots_,c.List_,set,news,op,i)=some (!((op.length:Int)==0 || decide (lst op≥0)),c.Sign_,c.Regs_,c.Slots_,c.List_,bif ((op.length:Int)==0 || decide (lst op≥0)) then (set,news,op) else (undo set nl,news.dropLast,op.dropLast)):=by
 rw [zd3]
 dsimp only
 rw [zh3 op (by omega),h]
 have e1:((35:Int)==34)=false:=rfl
 have e2:((35:Int)==36)=false:=rfl
 have e3:((35:Int)==35)=true:=rfl
 simp only [Option.bind_some,orRet_inl,e1,e2,e3,cond_true,cond_false]
 have hB:(bif ((op.length:Int)==0) then some (Sum.inl true) else some (.inl (decide (lst op≥0))):Option (Bool⊕(Bool×List Xa×List Xb×List Xc×List Xd×List Bool×List (List Int)×List Int)))=some (.inl ((op.length:Int)==0 || decide (lst op≥0))):=by
  cases (op.length:Int)==0 <;> rfl
 rw [hB,Option.bind_some,orRet_inl]
 cases hq:((op.length:Int)==0 || decide (lst op≥0)) with
 | true=>rfl
 | false =>
  simp only [Bool.or_eq_false_iff,beq_eq_false_iff_ne,ne_eq,decide_eq_false_iff_not] at hq
  have h0:0<op.length:=by omega
  obtain ⟨n1,n2,n3,n4,n5⟩:=hn h0 (by omega)
  have hnl:0<news.length:=by
   cases news with
   | nil=>simp at n1
   | cons _ _=>simp
  obtain ⟨w1,w2,w3⟩:=z8r h0 (by omega)
  obtain ⟨v1,v2,v3⟩:=z8r hnl n2
  have hg:news[news.length - 1]? = some nl:=by rw [← List.getLast?_eq_getElem?]; exact n1
  simp only [cond_false]
  rw [zi ⟨v2,v3⟩,v1,hg]
  simp only [Option.bind_some]
  have hit:iter (zlc (m+4) (c.Sign_,c.Regs_,c.Slots_,c.List_,set,news,op,i) (nl.length:Int)) (m+4) (0,set)=some (.out ((nl.length:Int),undo set nl)):=by
   refine zw2 (F:=fun (s:List Bool) (r:Int)=>s.set r.toNat false) (Inv:=fun (s:List Bool)=>s.length=set.length) (fun k s hk hs=>?_) (fun s hs=>?_) n3 rfl
   ·obtain ⟨r0,r1⟩:=n5 _ (List.getElem_mem hk)
    obtain ⟨b,hb⟩:=zaw (l:=s) r0 (by omega)
    rw [zj1]
    have e1:decide ((k:Int)<(nl.length:Int))=true:=by simp; omega
    have e2:nl[(k:Int).toNat]? = some nl[k]:=by simp [hk]
    dsimp only
    rw [e1,v1,hg]
    simp only [cond_true,Option.bind_some]
    rw [zi (by omega),e2]
    simp only [Option.bind_some]
    rw [zi ⟨r0,by omega⟩,hb,z2h (by omega)]
    exact ⟨rfl,by simpa using hs⟩
   ·rw [zj1]; simp
  rw [hit]
  simp only [Option.bind_some,Bo.then]
  rw [zi ⟨v2,by omega⟩,zi (by omega),zi ⟨w2,by omega⟩,w1,zi (by omega)]
  simp [List.dropLast_eq_take]
end
def z8t (news:List (List Int)) (d:Int):List (List Int):=match news.getLast? with | some l=>news.set (news.length - 1) (l++[d]) | none=>news
section
variable {n:Nat} {c:Xe} {i:Xd} {set:List Bool} {news:List (List Int)} {op:List Int}
theorem zxp {m:Nat} (h:i.Op_=34) (hr:∀ y ∈ z1o i,0≤y∧y<set.length) (ho:op.length≤64) (hn:news.length≤64) :
  f37 (m+4) (c.Sign_,c.Regs_,c.Slots_,c.List_,set,news,op,i)=some (rdOk set i,c.Sign_,c.Regs_,c.Slots_,c.List_,set,bif rdOk set i then news++[[]] else news,bif rdOk set i then op++[-1] else op):=by
 rw [zrw]
 dsimp only
 rw [zqc]
 simp only [Option.bind_some]
 rw [zle hr]
 cases rdOk set i with
 | false=>rfl
 | true =>
  have e1:((34:Int)==34)=true:=rfl
  have hs:sets i=false:=by
   unfold sets; rw [h]; rfl
  simp only [cond_true,Option.bind_some,Bo.then,h,e1]
  rw [zi (by simp; omega),zi (by simp; omega)]
  simp only [Option.bind_some,orRet_inl,zl2,hs,cond_false]
theorem zbm {m:Nat} (h:i.Op_ ≠ 34) (hr:∀ y ∈ z1o i,0≤y∧y<set.length) (hD:sets i=true→0≤i.D_∧i.D_<set.length) (hn:news.length≤64) (hnl:∀ l ∈ news,l.length<1000000) :
  f37 (m+4) (c.Sign_,c.Regs_,c.Slots_,c.List_,set,news,op,i)=some (rdOk set i,c.Sign_,c.Regs_,c.Slots_,c.List_,bif rdOk set i && (sets i && !((set[i.D_.toNat]?).getD false)) then (set.set i.D_.toNat true,z8t news i.D_,op) else (set,news,op)):=by
 rw [zrw]
 dsimp only
 rw [zqc]
 simp only [Option.bind_some]
 rw [zle hr]
 cases rdOk set i with
 | false=>rfl
 | true =>
  have e1:(i.Op_==34)=false:=by simpa using h
  simp only [cond_true,Option.bind_some,Bo.then,e1,cond_false,orRet_inl,zl2]
  cases hs:sets i with
  | false=>rfl
  | true =>
   obtain ⟨d0,d1⟩:=hD hs
   obtain ⟨b,hb⟩:=zaw d0 d1
   simp only [cond_true]
   rw [zi ⟨d0,d1⟩,hb]
   simp only [Option.bind_some,orRet_inl,Option.getD_some]
   cases b with
   | true=>rfl
   | false =>
    simp only [Bool.not_false,cond_true,Bool.and_self]
    rw [zi ⟨d0,d1⟩]
    by_cases h0:0<news.length
    ·obtain ⟨w1,w2,w3⟩:=z8r h0 (by omega)
     obtain ⟨l,l1,l2⟩:=z63 news h0
     have e2:decide (IntKind.i64.wrap ((news.length:Int) - 1)≥0)=true:=by simpa using w2
     have hl:l.length<1000000:=hnl l (List.mem_of_getLast? l1)
     rw [e2,cond_true,zi ⟨w2,w3⟩,w1,l2]
     simp only [Option.bind_some]
     rw [zi (by simp; omega),zi ⟨w2,w3⟩,zi (p:=True∧news.length - 1<news.length) ⟨trivial,by omega⟩]
     unfold z8t
     rw [l1]
    ·have:news=[]:=List.eq_nil_of_length_eq_zero (by omega)
     subst this
     rfl
end
def vecP (c:Xe) (i:Xd):Int:=match idx c.Regs_ (bif onD i then i.D_ else bif onA i then i.A_ else -1) with | some t=>bif t.Kind_==3 then t.Param_ else -1 | none=>-1
theorem y5k {n:Nat} {c:Xe} {i:Xd}:f60 n (c,i)=some (vecP c i):=by
 rw [y5j]
 simp only [y43,Option.bind_some]
 have hB:((bif elem i.Op_ then some (Sum.inl true) else bif i.Op_==29 then some (.inl true) else bif i.Op_==30 then some (.inl true) else some (.inl (i.Op_==32)):Option (Bool⊕(Int⊕Int))).bind (zp fun s1=>bif s1 then some (Sum.inl i.D_) else (bif i.Op_==31 then some (Sum.inl true) else some (.inl (i.Op_==33)):Option (Bool⊕(Int⊕Int))).bind (zp fun s2=>bif s2 then some (Sum.inl i.A_) else some (.inl (-1:Int)))))
   = some (.inl (bif onD i then i.D_ else bif onA i then i.A_ else -1)):=by
  unfold onD onA
  cases elem i.Op_ <;> cases i.Op_==29 <;> cases i.Op_==30 <;> cases i.Op_==32 <;> cases i.Op_==31 <;> cases i.Op_==33 <;> rfl
 rw [hB,Option.bind_some,orRet_inl]
 unfold vecP
 generalize (bif onD i then i.D_ else bif onA i then i.A_ else -1)=k
 by_cases h0:k<0
 ·rw [z34 (.inl h0)]
  simp [h0]
 ·by_cases h1:k≥c.Regs_.length
  ·rw [z34 (.inr h1)]
   simp [h0,h1]
  ·obtain ⟨t,ht,_⟩:=z74 (l:=c.Regs_) (n:=k) (by omega) (by omega)
   have e1:decide (k<0)=false:=by simpa using h0
   have e2:decide (k≥(c.Regs_.length:Int))=false:=by simp; omega
   have e3:(t.Kind_ != 3) = !(t.Kind_==3):=rfl
   simp only [e1,e2,ht,cond_false,Option.bind_some,orRet_inl,e3]
   cases t.Kind_==3 <;> rfl
theorem y7l {c:Xe} {i:Xd} {p:Int} (hp:0≤p):(vecP c i != p) = !(zcj c i p):=by
 have key:∀ k:Int,((match idx c.Regs_ k with | some t=>bif t.Kind_==3 then t.Param_ else -1 | none=>-1) != p) = !(zeo c k p):=fun k=>by
  unfold zeo
  have e:((-1:Int) != p)=true:=by simp; omega
  cases idx c.Regs_ k with
  | none=>exact e
  | some t =>
   simp only
   cases t.Kind_==3 with
   | false=>exact e
   | true=>simp [bne]
 have e:((-1:Int) != p)=true:=by simp; omega
 unfold vecP zcj
 cases onD i with
 | true=>exact key _
 | false =>
  simp only [cond_false]
  cases onA i with
  | true=>exact key _
  | false =>
   simp only [cond_false,Bool.not_false]
   rw [z34 (.inl (by decide))]
   exact e
def z1v (o:List Xf):Bool:=match o.getLast? with | some x=>x.Op_==36 | none=>false
def lstP (o:List Xf):Int:=match o.getLast? with | some x=>x.Param_ | none=>0
def zb3 (i:Xd) (o:List Xf):Bool :=
 bif i.Op_==34 || i.Op_==36 then decide ((o.length:Int)<64) else bif i.Op_==35 then (decide ((o.length:Int) > 0) && !(z1v o)) else bif i.Op_==37 then z1v o else true
def z46 (c:Xe) (i:Xd) (set:List Bool) (o:List Xf):Bool :=
 fits c i && (!(z1v o && (!(i.Op_==37) && vecP c i != lstP o)) && (rdOk set i && zb3 i o))
theorem y4z {m:Nat} {c:Xe} {i:Xd} {set:List Bool} {o:List Xf} (hr:∀ t ∈ c.Regs_,mayT c.Sign_ t=true) (h0:0≤i.Bits_) (h1:i.Bits_<4294967296)
  (hs:set.length=c.Regs_.length) (ho:o.length<4611686018427387904):f41 (m+4) (c,i,set,o)=some (z46 c i set o):=by
 rw [y4y]
 have hL:(bif (decide ((o.length:Int) > (0:Int))) then ((idx o (IntKind.i64.wrap ((o.length:Int) - (1:Int)))).bind fun y1=>some (Sum.inl (y1.Op_==36))) else (some (.inl false)):Option (Bool⊕Bool))=some (.inl (z1v o)):=by
  by_cases q:0<o.length
  ·have e:decide ((o.length:Int) > 0)=true:=by simp; omega
   obtain ⟨w1,w2,w3⟩:=z8r q ho
   obtain ⟨x,x1,x2⟩:=z63 o q
   have e2:idx o (IntKind.i64.wrap ((o.length:Int) - 1))=some x:=by unfold idx; rw [if_pos w2,w1,x2]
   rw [e,e2]
   unfold z1v
   rw [x1]; rfl
  ·have:o=[]:=List.eq_nil_of_length_eq_zero (by omega)
   subst this; rfl
 have hP:z1v o=true→idx o (IntKind.i64.wrap ((o.length:Int) - 1))=o.getLast?:=fun hl=>by
  have q:0<o.length:=by
   cases o with
   | nil=>cases hl
   | cons _ _=>simp
  obtain ⟨w1,w2,w3⟩:=z8r q ho
  obtain ⟨x,x1,x2⟩:=z63 o q
  unfold idx
  rw [if_pos w2,w1,x2,x1]
 dsimp only
 rw [hL,Option.bind_some,orRet_inl]
 simp only [y5i hr h0 h1,y5k,Option.bind_some]
 unfold z46
 cases hf:fits c i with
 | false=>rfl
 | true =>
  have hB:(bif z1v o then (bif i.Op_ != 37 then ((idx o (IntKind.i64.wrap ((o.length:Int) - 1))).bind fun y4=>some (Sum.inl (z1v o,vecP c i != y4.Param_))) else some (.inl (z1v o,false))) else some (.inl (z1v o,false)):Option (Bool×Bool⊕Bool))=some (.inl (z1v o,z1v o && (!(i.Op_==37) && vecP c i != lstP o))):=by
   have e1:(i.Op_ != 37) = !(i.Op_==37):=rfl
   rw [e1]
   cases hl:z1v o with
   | false=>rfl
   | true =>
    rw [hP hl]
    cases i.Op_==37 with
    | true=>rfl
    | false =>
     unfold lstP
     cases hg:o.getLast? with
     | none=>unfold z1v at hl; rw [hg] at hl; cases hl
     | some x=>rfl
  simp only [Bool.not_true,cond_false]
  rw [hB,Option.bind_some,orRet_inl]
  dsimp only
  cases hb:(z1v o && (!(i.Op_==37) && vecP c i != lstP o)) with
  | true=>rfl
  | false =>
   simp only [cond_false,y3w,Option.bind_some,Bool.not_false,Bool.true_and]
   rw [zxq (fun y hy=>by rw [hs]; exact zml hf y hy)]
   cases rdOk set i with
   | false=>rfl
   | true =>
    simp only [cond_true,Option.bind_some,Bo.then,Bool.true_and]
    unfold zb3
    cases i.Op_==34 <;> cases i.Op_==36 <;> cases i.Op_==35 <;> cases i.Op_==37 <;> cases decide ((o.length:Int) > 0) <;> rfl
def code (o:Xf):Int:=bif o.Op_==36 then o.Param_ else -1
def z44 (o:Xf):Bool:=o.Op_==34
def z9l (N:Nat):List Bool→List (List Int)→List Xf→Prop
 | _,[],[]=>True
 | set,l::ls,w::ws=>undo set l=w.Set_∧l.length≤N∧(∀ r ∈ l,0≤r∧r<set.length)∧z9l N w.Set_ ls ws
 | _,_,_=>False
structure Two (c:Xe) (N:Nat) (set:List Bool) (news:List (List Int)) (op:List Int) (o:List Xf):Prop where
 len:set.length=c.Regs_.length
 op:op=o.map code
 le:o.length≤64
 ok:∀ x ∈ o,x.Op_=34∨(x.Op_=36∧0≤x.Param_)
 ch:z9l N set news.reverse (o.filter z44).reverse
theorem y35 {i:Xd} {r:z3m} (h:rowD i.Op_=some r) (hd:onD i=true):(r.d==0)=false:=by
 obtain ⟨op,d,a,b,c,N,bits⟩:=i
 dsimp only at h
 rcases z5q op with (rfl | rfl | rfl | rfl | rfl | rfl | rfl | rfl | rfl | rfl | rfl | rfl | rfl | rfl | rfl | rfl | rfl | rfl | rfl | rfl | rfl | rfl | rfl | rfl | rfl | rfl | rfl | rfl | rfl | rfl | rfl | rfl | rfl | rfl | rfl | rfl | rfl) | h0
 iterate 37 (· first | (cases h; rfl) | (exact absurd hd (by decide)) | (cases h; revert hd; simp [onD,elem]))
 rw [z3d h0] at h; cases h
theorem y33 {i:Xd} {r:z3m} (h:rowD i.Op_=some r) (hd:onA i=true):(r.a==0)=false:=by
 obtain ⟨op,d,a,b,c,N,bits⟩:=i
 dsimp only at h
 rcases z5q op with (rfl | rfl | rfl | rfl | rfl | rfl | rfl | rfl | rfl | rfl | rfl | rfl | rfl | rfl | rfl | rfl | rfl | rfl | rfl | rfl | rfl | rfl | rfl | rfl | rfl | rfl | rfl | rfl | rfl | rfl | rfl | rfl | rfl | rfl | rfl | rfl | rfl) | h0
 iterate 37 (· first | (cases h; rfl) | (exact absurd hd (by decide)) | (cases h; revert hd; simp [onA]))
 rw [z3d h0] at h; cases h
theorem y34 {c:Xe} {i:Xd} (h:fits c i=true) (hd:onD i=true):∃ t,idx c.Regs_ i.D_=some t:=by
 obtain ⟨r,hr,h1,_⟩:=zbs h
 exact z7z h1 (y35 hr hd)
theorem y32 {c:Xe} {i:Xd} (h:fits c i=true) (hd:onA i=true):∃ t,idx c.Regs_ i.A_=some t:=by
 obtain ⟨r,hr,_,h1,_⟩:=zbs h
 exact z7z h1 (y33 hr hd)
section
variable {c:Xe} {N:Nat} {set:List Bool} {news:List (List Int)} {op:List Int} {o:List Xf} {i:Xd}
theorem Two.lst (h:Two c N set news op o):lst op=(match o.getLast? with | some x=>code x | none=>-1):=by
 unfold Loom.lst
 rw [h.op,List.getLast?_map]
 cases o.getLast? <;> rfl
theorem Two.loop (h:Two c N set news op o):decide (Loom.lst op≥0)=z1v o∧(z1v o=true→Loom.lst op=lstP o∧0≤lstP o):=by
 rw [h.lst]
 unfold z1v lstP
 cases hg:o.getLast? with
 | none=>exact ⟨by decide,fun h=>by cases h⟩
 | some x =>
  have hx:=h.ok x (List.mem_of_getLast? hg)
  rcases hx with hx | ⟨hx,hp⟩
  ·have e:code x = -1:=by unfold code; rw [hx]; rfl
   have e2:(x.Op_==36)=false:=by rw [hx]; rfl
   simp only [e,e2]
   exact ⟨by decide,fun h=>by cases h⟩
  ·have e:code x=x.Param_:=by unfold code; rw [hx]; rfl
   have e2:(x.Op_==36)=true:=by rw [hx]; rfl
   simp only [e,e2]
   exact ⟨by simpa using hp,fun _=>⟨by trivial,hp⟩⟩
theorem y0v (x:Int):decide (x<0) = !(decide (x≥0)):=by
 by_cases h:x<0
 ·have:¬ x≥0:=by omega
  simp [h]
 ·have:x≥0:=by omega
  simp [h,this]
theorem z3o {N M:Nat} (hNM:N≤M):∀ (set:List Bool) (ls:List (List Int)) (ws:List Xf),z9l N set ls ws→z9l M set ls ws
 | _,[],[],_=>trivial
 | set,l::ls,w::ws,h=>⟨h.1,Nat.le_trans h.2.1 hNM,h.2.2.1,z3o hNM _ ls ws h.2.2.2⟩
 | _,[],_::_,h=>h.elim
 | _,_::_,[],h=>h.elim
theorem zil {N:Nat}:∀ (set:List Bool) (ls:List (List Int)) (ws:List Xf),z9l N set ls ws→ls.length=ws.length
 | _,[],[],_=>rfl
 | set,l::ls,w::ws,h=>by simp [zil _ ls ws h.2.2.2]
 | _,[],_::_,h=>h.elim
 | _,_::_,[],h=>h.elim
theorem zkt {N:Nat}:∀ (set:List Bool) (ls:List (List Int)) (ws:List Xf),z9l N set ls ws→∀ l ∈ ls,l.length≤N
 | _,[],[],_,l,hl=>by cases hl
 | set,l::ls,w::ws,h,x,hx=>by
  rcases List.mem_cons.1 hx with rfl | hx
  ·exact h.2.1
  ·exact zkt _ ls ws h.2.2.2 x hx
 | _,[],_::_,h,_,_=>h.elim
 | _,_::_,[],h,_,_=>h.elim
theorem Two.newsOk (h:Two c N set news op o):news.length≤64∧∀ l ∈ news,l.length≤N:=by
 have h1:=zil _ _ _ h.ch
 simp only [List.length_reverse] at h1
 have h2:=List.length_filter_le z44 o
 have:=h.le
 exact ⟨by omega,fun l hl=>zkt _ _ _ h.ch l (by simpa using hl)⟩
def zdd (c:Xe) (i:Xd) (op:List Int):Bool :=
 bif i.Op_==34 || i.Op_==36 then !(decide (Loom.lst op≥0) || (op.length:Int)==64) else bif i.Op_==35 then !((op.length:Int)==0 || decide (Loom.lst op≥0)) else bif i.Op_==37 then !(decide (Loom.lst op<0)) else
  bif decide (Loom.lst op<0) then true else zcj c i (Loom.lst op)
theorem zpl {k:Int} (h:i.Op_=k) (hk:k=34∨k=35∨k=36):vecP c i = -1:=by
 unfold vecP onD onA elem
 rw [h]
 rcases hk with rfl | rfl | rfl
 all_goals
  show (match idx c.Regs_ (-1) with | some t=>bif t.Kind_==3 then t.Param_ else -1 | none=>-1)=_
  rw [z34 (.inl (by decide))]
theorem Two.place (h:Two c N set news op o):zdd c i op=(!(z1v o && (!(i.Op_==37) && vecP c i != lstP o)) && zb3 i o):=by
 obtain ⟨h1,h2⟩:=h.loop
 have hlen:op.length=o.length:=by rw [h.op]; simp
 have hle:=h.le
 unfold zdd zb3
 rw [y0v,h1,hlen]
 by_cases q4:i.Op_=34∨i.Op_=36
 ·have e1:(i.Op_==34 || i.Op_==36)=true:=by rcases q4 with q | q <;> rw [q] <;> rfl
  have e2:(i.Op_==37)=false:=by rcases q4 with q | q <;> rw [q] <;> rfl
  have e3:vecP c i = -1:=by rcases q4 with q | q <;> exact zpl q (by simp)
  have e4:((o.length:Int)==64) = !(decide ((o.length:Int)<64)):=by
   by_cases q:o.length<64
   ·have:¬ (o.length:Int)=64:=by omega
    have q':(o.length:Int)<64:=by omega
    simp [this,q']
   ·have:(o.length:Int)=64:=by omega
    simp [this]
  rw [e1,e2,e3,e4]
  simp only [cond_true]
  cases hl:z1v o with
  | false=>simp
  | true =>
   have:=(h2 hl).2
   have e5:((-1:Int) != lstP o)=true:=by simp; omega
   rw [e5]; simp
 ·have e1:(i.Op_==34 || i.Op_==36)=false:=by
   have a1:¬ i.Op_=34:=fun q=>q4 (.inl q)
   have a2:¬ i.Op_=36:=fun q=>q4 (.inr q)
   simp [a1,a2]
  rw [e1]
  simp only [cond_false]
  by_cases q5:i.Op_=35
  ·have e2:(i.Op_==35)=true:=by rw [q5]; rfl
   have e3:(i.Op_==37)=false:=by rw [q5]; rfl
   have e4:vecP c i = -1:=zpl q5 (by simp)
   have e6:((o.length:Int)==0) = !(decide ((o.length:Int) > 0)):=by
    by_cases q:0<o.length
    ·have a1:((o.length:Int)==0)=false:=by simp only [beq_eq_false_iff_ne,ne_eq]; omega
     have a2:decide ((o.length:Int) > 0)=true:=by simp only [decide_eq_true_eq]; omega
     rw [a1,a2]; rfl
    ·have:(o.length:Int)=0:=by omega
     simp [this]
   rw [e2,e3,e4,e6]
   simp only [cond_true]
   cases hl:z1v o with
   | false=>simp
   | true =>
    have:=(h2 hl).2
    have e5:((-1:Int) != lstP o)=true:=by simp; omega
    rw [e5]; simp
  ·have e2:(i.Op_==35)=false:=by simpa using q5
   rw [e2]
   simp only [cond_false]
   cases i.Op_==37 with
   | true =>
    simp only [cond_true]
    cases z1v o <;> rfl
   | false =>
    simp only [cond_false]
    cases hl:z1v o with
    | false=>rfl
    | true =>
     obtain ⟨p1,p2⟩:=h2 hl
     rw [p1,y7l p2]
     cases zcj c i (lstP o) <;> rfl
end
def z9z (i:Xd) (set:List Bool) (news:List (List Int)) (op:List Int):List Bool×List (List Int)×List Int :=
 bif i.Op_==34 then (set,news++[[]],op++[-1]) else bif i.Op_==36 then (set,news,op++[i.N_]) else
 bif i.Op_==35 then (undo set (news.getLast?.getD []),news.dropLast,op.dropLast) else bif i.Op_==37 then (set,news,op.dropLast) else
 bif sets i && !((set[i.D_.toNat]?).getD false) then (set.set i.D_.toNat true,z8t news i.D_,op) else (set,news,op)
def okI (c:Xe) (i:Xd) (set:List Bool) (op:List Int):Bool:=fits c i && (zdd c i op && rdOk set i)
section
variable {c:Xe} {N:Nat} {set:List Bool} {news:List (List Int)} {op:List Int} {o:List Xf} {i:Xd}
theorem zfg {k:Int} (h:i.Op_=k) (hk:k=35∨k=36∨k=37):z1o i=[]∧sets i=false:=by
 unfold z1o sets
 rw [h]
 rcases hk with rfl | rfl | rfl <;> exact ⟨rfl,rfl⟩
theorem Two.last (h:Two c N set news op o) (h0:0<op.length) (h1:Loom.lst op<0):∃ l w,news.getLast? = some l∧o.getLast? = some w∧w.Op_=34∧undo set l=w.Set_∧l.length≤N∧(∀ r ∈ l,0≤r∧r<set.length)∧z9l N w.Set_ news.dropLast.reverse (o.dropLast.filter z44).reverse:=by
 have hlen:op.length=o.length:=by rw [h.op]; simp
 obtain ⟨w,w1,w2⟩:=z63 o (by omega)
 have hw:w.Op_=34:=by
  rcases h.ok w (List.mem_of_getLast? w1) with q | ⟨q,p⟩
  ·exact q
  ·rw [h.lst,w1] at h1
   simp only [code,q] at h1
   have:(bif ((36:Int)==36) then w.Param_ else -1)=w.Param_:=rfl
   omega
 have ho:o=o.dropLast++[w]:=by
  have hne:o ≠ []:=fun e=>by rw [e] at w1; cases w1
  have:=List.dropLast_concat_getLast hne
  rw [List.getLast?_eq_some_getLast hne] at w1
  rw [← Option.some.inj w1]; exact this.symm
 have hc:=h.ch
 rw [ho,List.filter_append] at hc
 have e:[w].filter z44=[w]:=by simp [z44,hw]
 rw [e,List.reverse_append,List.reverse_singleton,List.singleton_append] at hc
 cases hn:news.reverse with
 | nil=>rw [hn] at hc; exact hc.elim
 | cons l ls =>
  rw [hn] at hc
  have hnews:news=ls.reverse++[l]:=by
   have:=congrArg List.reverse hn
   simpa using this
  refine ⟨l,w,by rw [hnews]; simp,w1,hw,hc.1,hc.2.1,hc.2.2.1,?_⟩
  have:news.dropLast=ls.reverse:=by rw [hnews]; simp
  rw [this,List.reverse_reverse]
  exact hc.2.2.2
theorem zxf {m k:Nat} {x:Xe} {v:List Xd×Int×List Xa×List Xb×List Xc} (h:Two c N set news op o) (hN:N<1000000) (hm:N<m) (hr:∀ t ∈ c.Regs_,mayT c.Sign_ t=true) (h0:0≤i.Bits_) (h1:i.Bits_<4294967296)
  (hk:k<1000000) (hv:decide ((k:Int)<v.2.1)=true) (hi:idx v.1 (k:Int)=some i) :
  zd0 (m+5) x v ((k:Int),c.Sign_,c.Regs_,c.Slots_,c.List_,set,news,op)=some (bif okI c i set op then .go (((k+1:Nat):Int),c.Sign_,c.Regs_,c.Slots_,c.List_,z9z i set news op) else .ret (k:Int)):=by
 rw [ziq]
 dsimp only
 rw [hv,hi]
 simp only [cond_true,Option.bind_some]
 rw [y4s m hr h0 h1]
 unfold okI
 cases hf:fits c i with
 | false=>rfl
 | true =>
  have hle:op.length≤64:=by rw [h.op]; simpa using h.le
  obtain ⟨n1,n2⟩:=h.newsOk
  have hrd:∀ y ∈ z1o i,0≤y∧y<set.length:=fun y hy=>by rw [h.len]; exact zml hf y hy
  have hD:sets i=true→0≤i.D_∧i.D_<set.length:=fun hs=>by rw [h.len]; exact zid hf hs
  simp only [Option.bind_some,Bool.not_true,cond_false,Bool.true_and]
  unfold zdd z9z
  by_cases q34:i.Op_=34
  ·have e1:(i.Op_==34)=true:=by simpa using q34
   rw [zxo (n:=m+5) (by omega) q34]
   simp only [e1,Bool.true_or,cond_true,Option.bind_some]
   cases hp:(decide (Loom.lst op≥0) || (op.length:Int)==64) with
   | true=>rfl
   | false =>
    simp only [Bool.not_false,Bool.not_true,cond_false,Bool.true_and]
    rw [zxp (m:=m+1) q34 hrd hle n1]
    cases rdOk set i with
    | false=>rfl
    | true =>
     simp only [Option.bind_some,orRet_inl,Bool.not_true,cond_false,cond_true,z2h (show k<4611686018427387904 by omega)]
  ·have e1:(i.Op_==34)=false:=by simpa using q34
   by_cases q36:i.Op_=36
   ·have e2:(i.Op_==36)=true:=by simpa using q36
    obtain ⟨r1,r2⟩:=zfg q36 (by simp)
    have r3:rdOk set i=true:=by unfold rdOk; rw [r1]; rfl
    rw [zxm (n:=m+5) hle q36]
    simp only [e1,e2,Bool.false_or,cond_true,cond_false,Option.bind_some]
    cases hp:(decide (Loom.lst op≥0) || (op.length:Int)==64) with
    | true=>rfl
    | false =>
     simp only [Bool.not_false,Bool.not_true,cond_false,Bool.true_and]
     rw [zbm (m:=m+1) q34 hrd hD n1 (fun l hl=>by have:=n2 l hl; omega)]
     simp only [r2,r3,Bool.false_and,Bool.and_false,Option.bind_some,orRet_inl,Bool.not_true,cond_false,cond_true,z2h (show k<4611686018427387904 by omega)]
   ·have e2:(i.Op_==36)=false:=by simpa using q36
    by_cases q35:i.Op_=35
    ·have e3:(i.Op_==35)=true:=by simpa using q35
     obtain ⟨r1,r2⟩:=zfg q35 (by simp)
     rw [y2m (m:=m+1) (nl:=news.getLast?.getD []) hle q35 (fun z1 z2=>by
      obtain ⟨l,w,a1,a2,a3,a4,a5,a6,a7⟩:=h.last z1 z2
      rw [a1]
      exact ⟨rfl,by omega,by simp only [Option.getD_some]; omega,by simp only [Option.getD_some]; omega,a6⟩)]
     simp only [e1,e2,e3,Bool.false_or,cond_true,cond_false,Option.bind_some]
     cases hp:((op.length:Int)==0 || decide (Loom.lst op≥0)) with
     | true=>rfl
     | false =>
      have r3:rdOk set i=true:=by unfold rdOk; rw [r1]; rfl
      simp only [Bool.not_false,Bool.not_true,cond_false,Bool.true_and,r3]
      rw [zbm (m:=m+1) q34 (fun y hy=>by rw [r1] at hy; cases hy) (fun hs=>by rw [r2] at hs; cases hs) (by simp; omega) (fun l hl=>by
       have:=n2 l ((List.dropLast_sublist _).subset hl); omega)]
      have r4:rdOk (undo set (news.getLast?.getD [])) i=true:=by unfold rdOk; rw [r1]; rfl
      simp only [r2,r4,Bool.false_and,Bool.and_false,Option.bind_some,orRet_inl,Bool.not_true,cond_false,cond_true,z2h (show k<4611686018427387904 by omega)]
    ·have e3:(i.Op_==35)=false:=by simpa using q35
     by_cases q37:i.Op_=37
     ·have e4:(i.Op_==37)=true:=by simpa using q37
      obtain ⟨r1,r2⟩:=zfg q37 (by simp)
      have r3:rdOk set i=true:=by unfold rdOk; rw [r1]; rfl
      rw [zxn (n:=m+5) hle q37]
      simp only [e1,e2,e3,e4,Bool.false_or,cond_true,cond_false,Option.bind_some]
      cases hp:decide (Loom.lst op<0) with
      | true=>rfl
      | false =>
       simp only [Bool.not_false,Bool.not_true,cond_false,Bool.true_and]
       rw [zbm (m:=m+1) q34 hrd hD n1 (fun l hl=>by have:=n2 l hl; omega)]
       simp only [r2,r3,Bool.false_and,Bool.and_false,Option.bind_some,orRet_inl,Bool.not_true,cond_false,cond_true,z2h (show k<4611686018427387904 by omega)]
     ·have e4:(i.Op_==37)=false:=by simpa using q37
      rw [zxl (n:=m+5) hle hf q34 q35 q36 q37 (y34 hf) (y32 hf)]
      simp only [e1,e2,e3,e4,Bool.false_or,cond_true,cond_false,Option.bind_some]
      cases hp:(bif decide (Loom.lst op<0) then true else zcj c i (Loom.lst op)) with
      | false=>rfl
      | true =>
       simp only [Bool.not_false,Bool.not_true,cond_false,Bool.true_and]
       rw [zbm (m:=m+1) q34 hrd hD n1 (fun l hl=>by have:=n2 l hl; omega)]
       cases rdOk set i with
       | false=>rfl
       | true =>
        simp only [Bool.true_and,Option.bind_some,orRet_inl,Bool.not_true,cond_false,cond_true,z2h (show k<4611686018427387904 by omega)]
end
def z6s (i:Xd) (set:List Bool) (o:List Xf):List Bool×List Xf :=
 bif i.Op_==34 || i.Op_==36 then (set,o++[⟨i.Op_,i.N_,set⟩]) else bif i.Op_==35 then ((o.getLast?.getD ⟨0,0,[]⟩).Set_,o.dropLast) else bif i.Op_==37 then (set,o.dropLast) else
  bif sets i then (set.set i.D_.toNat true,o) else (set,o)
theorem zry {n:Nat} {s:List Bool} (h:s.length≤140737488355328):f42 n s=some s:=by
 rw [y50,zi (by omega)]
section
variable {c:Xe} {N:Nat} {set:List Bool} {news:List (List Int)} {op:List Int} {o:List Xf} {i:Xd}
theorem zxh {m k:Nat} (h:Two c N set news op o) (hr:∀ t ∈ c.Regs_,mayT c.Sign_ t=true) (hR:c.Regs_.length≤1000000) (h0:0≤i.Bits_) (h1:i.Bits_<4294967296)
  (hk:k<1000000) (hv:k<c.List_.length) (hi:idx c.List_ (k:Int)=some i) :
  zd1 (m+4) c () ((k:Int),set,o)=some (bif z46 c i set o then .go (((k+1:Nat):Int),z6s i set o) else .ret (k:Int)):=by
 have hle:=h.le
 have hlen:=h.len
 rw [ziv]
 have e1:decide ((k:Int)<(c.List_.length:Int))=true:=by simp; omega
 dsimp only
 rw [e1,hi]
 simp only [cond_true,Option.bind_some]
 rw [y4z hr h0 h1 hlen (by omega)]
 have w:IntKind.i64.wrap ((k:Int)+1)=((k+1:Nat):Int):=z2h (by omega)
 cases hs:z46 c i set o with
 | false=>rfl
 | true =>
  simp only [Option.bind_some,Bool.not_true,cond_false,cond_true]
  have hs':=hs
  unfold z46 at hs'
  simp only [Bool.and_eq_true] at hs'
  obtain ⟨hf,hv1,hrd,hp⟩:=hs'
  unfold z6s
  have hB:(bif i.Op_==34 then some (Sum.inl (true,i.Op_,i.D_,i.A_,i.B_,i.C_,i.N_,i.Bits_)) else some (.inl (i.Op_==36,i.Op_,i.D_,i.A_,i.B_,i.C_,i.N_,i.Bits_)):Option (Bool×Int×Int×Int×Int×Int×Int×Int⊕Bo (Int×List Bool×List Xf) (Int×List Bool×List Xf) Int))
    = some (.inl (i.Op_==34 || i.Op_==36,i.Op_,i.D_,i.A_,i.B_,i.C_,i.N_,i.Bits_)):=by
   cases i.Op_==34 <;> rfl
  rw [hB,Option.bind_some,orRet_inl]
  dsimp only
  cases q1:(i.Op_==34 || i.Op_==36) with
  | true =>
   simp only [cond_true]
   rw [zry (by omega)]
   simp only [Option.bind_some]
   rw [zi (by simp; omega),w]
  | false =>
   simp only [cond_false]
   unfold zb3 at hp
   rw [q1] at hp
   simp only [cond_false] at hp
   cases q2:i.Op_==35 with
   | true =>
    rw [q2] at hp
    simp only [cond_true,Bool.and_eq_true,decide_eq_true_eq] at hp
    have hpos:0<o.length:=by omega
    obtain ⟨w1,w2,w3⟩:=z8r hpos (by omega)
    obtain ⟨x,x1,x2⟩:=z63 o hpos
    simp only [cond_true]
    rw [zi ⟨w2,w3⟩,w1,x2,x1]
    simp only [Option.bind_some,Option.getD_some]
    have hx:x.Set_.length≤140737488355328:=by
     have hl0:Loom.lst op<0:=by
      have:=h.loop.1
      rw [← this] at hp
      simp at hp; omega
     obtain ⟨l,wv,a1,a2,a3,a4,_⟩:=h.last (by rw [h.op]; simpa using hpos) hl0
     rw [x1] at a2
     cases a2
     rw [← a4,zmz]; omega
    rw [zry hx]
    simp only [Option.bind_some]
    rw [zi ⟨w2,by omega⟩,zi (by omega),w]
    simp [List.dropLast_eq_take]
   | false =>
    rw [q2] at hp
    simp only [cond_false] at hp ⊢
    cases q3:i.Op_==37 with
    | true =>
     rw [q3] at hp
     simp only [cond_true] at hp ⊢
     have hpos:0<o.length:=by
      cases o with
      | nil=>cases hp
      | cons _ _=>simp
     obtain ⟨w1,w2,w3⟩:=z8r hpos (by omega)
     rw [zi ⟨w2,by omega⟩,w1,zi (by omega),w]
     simp [List.dropLast_eq_take]
    | false =>
     have e:(⟨i.Op_,i.D_,i.A_,i.B_,i.C_,i.N_,i.Bits_⟩:Xd)=i:=rfl
     simp only [cond_false,e,y3z,Option.bind_some]
     cases hss:sets i with
     | false=>simp only [cond_false,w]
     | true =>
      obtain ⟨d0,d1⟩:=zid hf hss
      obtain ⟨b,hb⟩:=zaw (l:=set) d0 (by omega)
      simp only [cond_true]
      rw [zi ⟨d0,by omega⟩,hb]
      simp only [Option.bind_some,w]
theorem zmy (l:List Int):∀ (set:List Bool) (j:Nat),(undo set l)[j]? = if l.any (fun r=>r.toNat==j) then (set[j]?).map (fun _=>false) else set[j]?:=by
 unfold undo
 induction l with
 | nil=>intro set j; simp
 | cons r l ih =>
  intro set j
  simp only [List.foldl_cons]
  rw [ih,List.any_cons]
  by_cases h:r.toNat=j
  ·subst h
   simp only [beq_self_eq_true,Bool.true_or,if_true]
   split
   ·by_cases hj:r.toNat<set.length
    ·simp [hj]
    ·simp [hj]
   ·by_cases hj:r.toNat<set.length
    ·simp [hj]
    ·simp [hj]
  ·have e:(r.toNat==j)=false:=by simpa using h
   rw [e,Bool.false_or,List.getElem?_set_ne h]
theorem zyd {l:List Int} {set:List Bool} {d:Int} (hd:set[d.toNat]? = some false):undo (set.set d.toNat true) (l++[d])=undo set l:=by
 apply List.ext_getElem?
 intro j
 have hlt:d.toNat<set.length:=by
  obtain ⟨h,_⟩:=List.getElem?_eq_some_iff.1 hd
  exact h
 rw [zmy,zmy,List.any_append]
 by_cases h:d.toNat=j
 ·subst h
  simp only [List.any_cons,beq_self_eq_true,Bool.true_or,Bool.or_true,if_true,hd]
  rw [List.getElem?_set_self hlt]
  simp
 ·have e:(d.toNat==j)=false:=by simpa using h
  rw [List.getElem?_set_ne h]
  simp [e]
theorem zwi {set:List Bool} {d:Nat} (h:set[d]? = some true):set.set d true=set:=by
 apply List.ext_getElem?
 intro j
 by_cases hj:d=j
 ·subst hj
  obtain ⟨hl,_⟩:=List.getElem?_eq_some_iff.1 h
  rw [List.getElem?_set_self hl,h]
 ·rw [List.getElem?_set_ne hj]
end
section
variable {c:Xe} {N:Nat} {set:List Bool} {news:List (List Int)} {op:List Int} {o:List Xf} {i:Xd}
theorem y72 (hf:fits c i=true) (h:i.Op_=36):0≤i.N_:=by
 unfold fits at hf
 rw [h] at hf
 have e:rowD 36=some ⟨0,0,0,0,4⟩:=rfl
 rw [e] at hf
 simp only [Bool.and_eq_true] at hf
 have:=hf.2.2.2.2.2
 have e2:nOk c 4 i.N_ (tyF c ⟨0,0,0,0,4⟩ i)=(decide (i.N_≥0) && decide (i.N_<(c.Sign_.length:Int))):=rfl
 rw [e2] at this
 simp at this
 exact this.1
theorem zh5 {α:Type} {l:List α} {w:α} (h:l.getLast? = some w):l=l.dropLast++[w]:=by
 have hne:l ≠ []:=fun e=>by rw [e] at h; cases h
 have:=List.dropLast_concat_getLast hne
 rw [List.getLast?_eq_some_getLast hne] at h
 rw [← Option.some.inj h]; exact this.symm
theorem Two.next (h:Two c N set news op o) (hok:okI c i set op=true):(z6s i set o).1=(z9z i set news op).1∧Two c (N+1) (z9z i set news op).1 (z9z i set news op).2.1 (z9z i set news op).2.2 (z6s i set o).2:=by
 unfold okI at hok
 simp only [Bool.and_eq_true] at hok
 obtain ⟨hf,hp,hrd⟩:=hok
 have hlen:op.length=o.length:=by rw [h.op]; simp
 unfold zdd at hp
 unfold z9z z6s
 by_cases q34:i.Op_=34
 ·have e1:(i.Op_==34)=true:=by simpa using q34
  rw [e1] at hp
  simp only [Bool.true_or,cond_true,Bool.not_eq_true',Bool.or_eq_false_iff,beq_eq_false_iff_ne,ne_eq] at hp
  have hle:=h.le
  simp only [e1,Bool.true_or,cond_true]
  refine ⟨by trivial,h.len,?_,?_,?_,?_⟩
  ·rw [List.map_append,h.op]; simp [code,q34]
  ·simp; omega
  ·intro x hx
   rcases List.mem_append.1 hx with hx | hx
   ·exact h.ok x hx
   ·simp only [List.mem_singleton] at hx
    subst hx; exact .inl q34
  ·rw [List.filter_append]
   have e:[(⟨i.Op_,i.N_,set⟩:Xf)].filter z44=[⟨i.Op_,i.N_,set⟩]:=by simp [z44,q34]
   rw [e,List.reverse_append,List.reverse_append]
   exact ⟨rfl,Nat.zero_le _,fun r hr=>(by cases hr),z3o (Nat.le_succ N) _ _ _ h.ch⟩
 ·have e1:(i.Op_==34)=false:=by simpa using q34
  rw [e1] at hp
  by_cases q36:i.Op_=36
  ·have e2:(i.Op_==36)=true:=by simpa using q36
   rw [e2] at hp
   simp only [Bool.false_or,cond_true,Bool.not_eq_true',Bool.or_eq_false_iff,beq_eq_false_iff_ne,ne_eq] at hp
   have hle:=h.le
   simp only [e1,e2,Bool.false_or,cond_true,cond_false]
   refine ⟨by trivial,h.len,?_,?_,?_,?_⟩
   ·rw [List.map_append,h.op]; simp [code,q36]
   ·simp; omega
   ·intro x hx
    rcases List.mem_append.1 hx with hx | hx
    ·exact h.ok x hx
    ·simp only [List.mem_singleton] at hx
     subst hx; exact .inr ⟨q36,y72 hf q36⟩
   ·rw [List.filter_append]
    have e:[(⟨i.Op_,i.N_,set⟩:Xf)].filter z44=[]:=by simp [z44,q36]
    rw [e,List.append_nil]
    exact z3o (Nat.le_succ N) _ _ _ h.ch
  ·have e2:(i.Op_==36)=false:=by simpa using q36
   rw [e2] at hp
   simp only [Bool.false_or,cond_false] at hp
   simp only [e1,e2,Bool.false_or,cond_false]
   by_cases q35:i.Op_=35
   ·have e3:(i.Op_==35)=true:=by simpa using q35
    rw [e3] at hp
    simp only [cond_true,Bool.not_eq_true',Bool.or_eq_false_iff,beq_eq_false_iff_ne,ne_eq,decide_eq_false_iff_not] at hp
    obtain ⟨l,w,a1,a2,a3,a4,a5,a6,a7⟩:=h.last (by omega) (by omega)
    simp only [e3,cond_true,a1,a2,Option.getD_some]
    have hle:=h.le
    refine ⟨a4.symm,?_,?_,?_,?_,?_⟩
    ·rw [zmz]; exact h.len
    ·rw [h.op,List.map_dropLast]
    ·simp; omega
    ·exact fun x hx=>h.ok x ((List.dropLast_sublist _).subset hx)
    ·rw [a4]; exact z3o (Nat.le_succ N) _ _ _ a7
   ·have e3:(i.Op_==35)=false:=by simpa using q35
    rw [e3] at hp
    simp only [cond_false] at hp
    by_cases q37:i.Op_=37
    ·have e4:(i.Op_==37)=true:=by simpa using q37
     rw [e4,y0v,h.loop.1] at hp
     simp only [cond_true,Bool.not_not] at hp
     simp only [e3,e4,cond_true,cond_false]
     have hle:=h.le
     obtain ⟨w,hw⟩:∃ w,o.getLast? = some w:=by
      unfold z1v at hp
      split at hp
      ·exact ⟨_,by assumption⟩
      ·cases hp
     have hww:w.Op_=36:=by
      unfold z1v at hp
      rw [hw] at hp
      simpa using hp
     refine ⟨by trivial,h.len,?_,?_,?_,?_⟩
     ·rw [h.op,List.map_dropLast]
     ·simp; omega
     ·exact fun x hx=>h.ok x ((List.dropLast_sublist _).subset hx)
     ·have:=h.ch
      rw [zh5 hw,List.filter_append] at this
      have e:[w].filter z44=[]:=by simp [z44,hww]
      rw [e,List.append_nil] at this
      exact z3o (Nat.le_succ N) _ _ _ this
    ·have e4:(i.Op_==37)=false:=by simpa using q37
     simp only [e3,e4,cond_false]
     cases hs:sets i with
     | false =>
      simp only [Bool.false_and,cond_false]
      exact ⟨by trivial,h.len,h.op,h.le,h.ok,z3o (Nat.le_succ N) _ _ _ h.ch⟩
     | true =>
      obtain ⟨d0,d1⟩:=zid hf hs
      obtain ⟨b,hb⟩:=zaw (l:=set) d0 (by rw [h.len]; exact d1)
      simp only [hb,Option.getD_some,Bool.true_and,cond_true]
      cases b with
      | true =>
       rw [zwi hb]
       exact ⟨rfl,h.len,h.op,h.le,h.ok,z3o (Nat.le_succ N) _ _ _ h.ch⟩
      | false =>
       simp only [Bool.not_false,cond_true]
       refine ⟨by trivial,by simpa using h.len,h.op,h.le,h.ok,?_⟩
       have hc:=h.ch
       cases hn:news.reverse with
       | nil =>
        rw [hn] at hc
        have:news=[]:=by simpa using hn
        subst this
        cases hw:(o.filter z44).reverse with
        | nil=>simp [z8t,z9l]
        | cons w ws=>rw [hw] at hc; exact hc.elim
       | cons l ls =>
        rw [hn] at hc
        cases hw:(o.filter z44).reverse with
        | nil=>rw [hw] at hc; exact hc.elim
        | cons w ws =>
         rw [hw] at hc
         obtain ⟨c1,c2,c3,c4⟩:=hc
         have hnews:news=ls.reverse++[l]:=by
          have:=congrArg List.reverse hn
          simpa using this
         have ha:(z8t news i.D_).reverse=(l++[i.D_])::ls:=by
          unfold z8t
          rw [hnews]
          simp
         rw [ha]
         refine ⟨by rw [zyd hb]; exact c1,by simp; omega,fun r hr=>?_,z3o (Nat.le_succ N) _ _ _ c4⟩
         rcases List.mem_append.1 hr with hr | hr
         ·simpa using c3 r hr
         ·simp only [List.mem_singleton] at hr
          subst hr
          refine ⟨d0,?_⟩
          simp only [List.length_set]
          rw [h.len]; exact d1
end
theorem zm7 {α S Y Z:Type} {l:List α} {p:α→Bool} {g:Nat→S} {body:S→Option (Bo S Y Z)} {z:Nat→Z} {y:Y}
  (hb:∀ (k:Nat) (h:k<l.length),body (g k)=some (bif p l[k] then .go (g (k+1)) else .ret (z k))) (he:body (g l.length)=some (.out y)) :
  ∀ (j k f:Nat),k+j=l.length→j<f→iter body f (g k)=some (match (l.drop k).findIdx? (fun x=>!p x) with | none=>.out y | some i=>.ret (z (k+i)))
 | 0,k,f+1,hk,hf=>by
  obtain rfl:k=l.length:=by omega
  unfold iter
  rw [he]
  simp
 | j+1,k,f+1,hk,hf=>by
  have h:k<l.length:=by omega
  unfold iter
  rw [hb k h,List.drop_eq_getElem_cons h]
  cases hp:p l[k] with
  | false =>
   simp only [cond_false,List.findIdx?_cons,hp,Bool.not_false,if_true]
   rfl
  | true =>
   simp only [cond_true]
   rw [zm7 hb he j (k+1) f (by omega) (by omega)]
   rw [List.findIdx?_cons]
   simp only [hp,Bool.not_true,cond_false,Bool.false_eq_true,if_false]
   cases (l.drop (k+1)).findIdx? (fun x=>!p x) with
   | none=>rfl
   | some i=>simp only [Option.map_some]; congr 3; omega
theorem zm6 {α S Y Z:Type} {l:List α} {p:α→Bool} (g:Nat→S) {body:S→Option (Bo S Y Z)} (z:Nat→Z) {y:Y} {f:Nat}
  (hb:∀ (k:Nat) (h:k<l.length),body (g k)=some (bif p l[k] then .go (g (k+1)) else .ret (z k))) (he:body (g l.length)=some (.out y)) (hf:l.length<f) :
  iter body f (g 0)=some (match l.findIdx? (fun x=>!p x) with | none=>.out y | some i=>.ret (z i)):=by
 have:=zm7 hb he l.length 0 f (by omega) hf
 simpa using this
section
variable {c:Xe}
theorem z2q {α:Type} {l:List α} {k:Nat} (h:k<l.length):idx l (k:Int)=some l[k]:=by simp [idx,h]
theorem y4j {n:Nat} (h:c.Regs_.length<n) (h2:c.Regs_.length<1000000):f29 n (c.Regs_,c.Sign_,c.Regs_,c.Slots_,c.List_)=some (!(c.Regs_.all (mayT c.Sign_)),c.Sign_,c.Regs_,c.Slots_,c.List_):=by
 have hit:iter (zlj n (c.Regs_,c.Sign_,c.Regs_,c.Slots_,c.List_) ()) n ((0:Int),c.Sign_,c.Regs_,c.Slots_,c.List_)=some (match c.Regs_.findIdx? (fun x=>!mayT c.Sign_ x) with | none=>.out ((c.Regs_.length:Int),c.Sign_,c.Regs_,c.Slots_,c.List_) | some i=>.ret ((i:Int),c.Sign_,c.Regs_,c.Slots_,c.List_)):=by
  refine zm6 (p:=mayT c.Sign_) (fun k=>((k:Int),c.Sign_,c.Regs_,c.Slots_,c.List_)) (fun k=>((k:Int),c.Sign_,c.Regs_,c.Slots_,c.List_)) (fun k hk=>?_) ?_ h
  ·rw [zj7]
   have e1:decide ((k:Int)<(c.Regs_.length:Int))=true:=by simp; omega
   dsimp only
   rw [e1,z2q hk]
   simp only [cond_true,Option.bind_some,y4k,zrv,z2h (show k<4611686018427387904 by omega)]
   cases mayT c.Sign_ c.Regs_[k] <;> rfl
  ·rw [zj7]; simp
 rw [y4i,y54]
 dsimp only
 rw [hit,← zf8]
 cases c.Regs_.findIdx? (fun x=>!mayT c.Sign_ x) with
 | none=>rfl
 | some i=>simp [Bo.then]
theorem y4n {n:Nat} (h:c.Slots_.length<n) (h2:c.Slots_.length<1000000) (hb:∀ s ∈ c.Slots_,0≤s.Bits_∧s.Bits_<4294967296):f32 n (c.Slots_,c.Sign_,c.Regs_,c.Slots_,c.List_)=some (!(c.Slots_.all (mayS c.Sign_)),c.Sign_,c.Regs_,c.Slots_,c.List_):=by
 have hit:iter (zlk n (c.Slots_,c.Sign_,c.Regs_,c.Slots_,c.List_) ()) n ((0:Int),c.Sign_,c.Regs_,c.Slots_,c.List_)=some (match c.Slots_.findIdx? (fun x=>!mayS c.Sign_ x) with | none=>.out ((c.Slots_.length:Int),c.Sign_,c.Regs_,c.Slots_,c.List_) | some i=>.ret ((i:Int),c.Sign_,c.Regs_,c.Slots_,c.List_)):=by
  refine zm6 (p:=mayS c.Sign_) (fun k=>((k:Int),c.Sign_,c.Regs_,c.Slots_,c.List_)) (fun k=>((k:Int),c.Sign_,c.Regs_,c.Slots_,c.List_)) (fun k hk=>?_) ?_ h
  ·rw [zj8]
   have e1:decide ((k:Int)<(c.Slots_.length:Int))=true:=by simp; omega
   obtain ⟨b0,b1⟩:=hb _ (List.getElem_mem hk)
   dsimp only
   rw [e1,z2q hk]
   simp only [cond_true,Option.bind_some,y4o,y4q _ _ b0 b1,z2h (show k<4611686018427387904 by omega)]
   cases mayS c.Sign_ c.Slots_[k] <;> rfl
  ·rw [zj8]; simp
 rw [y4m,y55]
 dsimp only
 rw [hit,← zf8]
 cases c.Slots_.findIdx? (fun x=>!mayS c.Sign_ x) with
 | none=>rfl
 | some i=>simp [Bo.then]
theorem zxg {n m:Nat} (h:c.Regs_.length<m) (h2:c.Regs_.length<1000000):iter (zl4 n c ()) m 0=some (bif c.Regs_.all (mayT c.Sign_) then .out (c.Regs_.length:Int) else .ret ()):=by
 refine z47 (fun k hk=>?_) ?_ h
 ·rw [zis]
  have e1:decide ((k:Int)<(c.Regs_.length:Int))=true:=by simp; omega
  rw [e1,z2q hk]
  simp only [cond_true,Option.bind_some,zrx,z2h (show k<4611686018427387904 by omega)]
  cases mayT c.Sign_ c.Regs_[k] <;> rfl
 ·rw [zis]; simp
theorem zrs {n m:Nat} (h:c.Slots_.length<m) (h2:c.Slots_.length<1000000) (hb:∀ s ∈ c.Slots_,0≤s.Bits_∧s.Bits_<4294967296):iter (zl5 n c ()) m 0=some (bif c.Slots_.all (mayS c.Sign_) then .out (c.Slots_.length:Int) else .ret ()):=by
 refine z47 (fun k hk=>?_) ?_ h
 ·rw [zit]
  have e1:decide ((k:Int)<(c.Slots_.length:Int))=true:=by simp; omega
  obtain ⟨b0,b1⟩:=hb _ (List.getElem_mem hk)
  rw [e1,z2q hk]
  simp only [cond_true,Option.bind_some,y4x _ _ b0 b1,z2h (show k<4611686018427387904 by omega)]
  cases mayS c.Sign_ c.Slots_[k] <;> rfl
 ·rw [zit]; simp
theorem z48 {S Y Z:Type} {L:Nat} (g:Nat→S) {body:S→Option (Bo S Y Z)} {y:Y} (hb:∀ k,k<L→body (g k)=some (.go (g (k+1)))) (he:body (g L)=some (.out y)) :
  ∀ (j k f:Nat),k+j=L→j<f→iter body f (g k)=some (.out y)
 | 0,k,f+1,hk,hf=>by
  obtain rfl:k=L:=by omega
  unfold iter
  rw [he]
 | j+1,k,f+1,hk,hf=>by
  unfold iter
  rw [hb k (by omega)]
  exact z48 g hb he j (k+1) f (by omega) (by omega)
theorem y2i {n m:Nat} (h:c.Regs_.length<m) (h2:c.Regs_.length<1000000):iter (zl6 n c ()) m (0,[])=some (.out ((c.Regs_.length:Int),List.replicate c.Regs_.length false)):=by
 refine z48 (L:=c.Regs_.length) (fun k=>((k:Int),List.replicate k false)) (fun k hk=>?_) ?_ c.Regs_.length 0 m (by omega) h
 ·rw [ziu]
  have e1:decide ((k:Int)<(c.Regs_.length:Int))=true:=by simp; omega
  dsimp only
  rw [e1,cond_true,zi (by simp; omega),z2h (by omega),← List.replicate_succ']
 ·rw [ziu]; simp
end
def okB (y:Int):Bool:=(decide (y≥65) && decide (y≤90)) || ((decide (y≥97) && decide (y≤122)) || ((decide (y≥48) && decide (y≤57)) || (y==95 || (y==46 || (y==47 || y==45)))))
theorem idxB (y:Int) (h0:0≤y) (h1:y<256):decide ((Lib.indexByte [95,46,47,45] y.toNat.toUInt8:Int)≥0)=(y==95 || (y==46 || (y==47 || y==45))):=by
 have h:(List.range 256).all (fun k=>decide ((Lib.indexByte [95,46,47,45] k.toUInt8:Int)≥0)==((k:Int)==95 || ((k:Int)==46 || ((k:Int)==47 || (k:Int)==45))))=true:=by kernel_rfl
 have:=List.all_eq_true.1 h y.toNat (by simp; omega)
 have e:((y.toNat:Nat):Int)=y:=by omega
 rw [e] at this
 simpa using this
theorem y5y {n:Nat} (y:Int) (h0:0≤y) (h1:y<256):∃ r,f68 n (⟨#[95,46,47,45]⟩,y)=some r∧decide (r≥0)=(y==95 || (y==46 || (y==47 || y==45))) :=
 ⟨_,by rw [y5x]; rfl,idxB y h0 h1⟩
theorem zkr {x:ByteArray} {k:Nat} (h:k<(bytesOf x).length):0≤(bytesOf x)[k]∧(bytesOf x)[k]<256∧zc x (k:Int)=(bytesOf x)[k]:=by
 have hl:k<x.data.toList.length:=by simpa [bytesOf] using h
 have e:(bytesOf x)[k]=((x.data.toList[k]).toNat:Int):=by simp [bytesOf]
 have hb:=UInt8.toNat_lt (x.data.toList[k])
 refine ⟨by rw [e]; omega,by rw [e]; omega,?_⟩
 rw [e]
 unfold zc
 rw [List.getD_eq_getElem?_getD,show ((k:Int).toNat)=k from rfl,List.getElem?_eq_getElem hl]
 rfl
theorem zij (x:ByteArray):(bytesOf x).length=x.size:=by
 unfold bytesOf
 rw [List.length_map]
 rfl
def z7r (x:ByteArray):Bool:=!(x==⟨#[]⟩ || decide ((x.size:Int) > 64)) && (bytesOf x).all okB
theorem y5m {n:Nat} (x:ByteArray) (hn:64<n):f61 n x=some (z7r x):=by
 rw [y5l]
 have hB:(bif (x==⟨#[]⟩) then some (Sum.inl true) else some (.inl (decide ((x.size:Int) > 64))):Option (Bool⊕Bool))=some (.inl (x==⟨#[]⟩ || decide ((x.size:Int) > 64))):=by
  cases (x==(⟨#[]⟩:ByteArray)) <;> rfl
 rw [hB,Option.bind_some,orRet_inl]
 unfold z7r
 cases hq:(x==⟨#[]⟩ || decide ((x.size:Int) > 64)) with
 | true=>rfl
 | false =>
  have hs:x.size≤64:=by
   simp only [Bool.or_eq_false_iff,decide_eq_false_iff_not] at hq
   omega
  have hl:=zij x
  have hit:iter (zln n x ()) n 0=some (bif (bytesOf x).all okB then .out ((bytesOf x).length:Int) else .ret ()):=by
   refine z47 (fun k hk=>?_) ?_ (by omega)
   ·obtain ⟨b0,b1,_⟩:=zkr hk
    obtain ⟨r,r1,r2⟩:=y5y (n:=n) _ b0 b1
    rw [zjb]
    have e1:decide ((k:Int)<((bytesOf x).length:Int))=true:=by simp; omega
    rw [e1,z2q hk]
    simp only [cond_true,Option.bind_some]
    generalize (bytesOf x)[k]=y at *
    rw [z2h (by omega)]
    unfold okB
    cases a1:decide (y≥65) <;> cases a2:decide (y≤90) <;> cases a3:decide (y≥97) <;> cases a4:decide (y≤122) <;> cases a5:decide (y≥48) <;> cases a6:decide (y≤57) <;> simp only [a1,a2,a3,a4,a5,a6,cond_true,cond_false,Option.bind_some,orRet_inl,r1,r2] <;> cases (y==95 || (y==46 || (y==47 || y==45))) <;> rfl
   ·rw [zjb]; simp
  rw [hit]
  cases (bytesOf x).all okB <;> rfl
set_option maxHeartbeats 4000000 in
theorem y5q {n:Nat} (x:ByteArray) (hn:64<n):f63 n x=some (z7r x):=by
 rw [y5p]
 have hB:(bif (x==⟨#[]⟩) then some (Sum.inl true) else some (.inl (decide ((x.size:Int) > 64))):Option (Bool⊕Bool))=some (.inl (x==⟨#[]⟩ || decide ((x.size:Int) > 64))):=by
  cases (x==(⟨#[]⟩:ByteArray)) <;> rfl
 rw [hB,Option.bind_some,orRet_inl]
 unfold z7r
 cases hq:(x==⟨#[]⟩ || decide ((x.size:Int) > 64)) with
 | true=>rfl
 | false =>
  have hs:x.size≤64:=by
   simp only [Bool.or_eq_false_iff,decide_eq_false_iff_not] at hq
   omega
  have hl:=zij x
  have hit:iter (zlo n x ()) n 0=some (bif (bytesOf x).all okB then .out ((bytesOf x).length:Int) else .ret ()):=by
   refine z47 (fun k hk=>?_) ?_ (by omega)
   ·obtain ⟨_,_,b2⟩:=zkr hk
    rw [zjc]
    have e1:decide ((k:Int)<(x.size:Int))=true:=by simp; omega
    rw [e1,b2,cond_true,zi (by omega),z2h (by omega)]
    generalize (bytesOf x)[k]=y
    unfold okB
    cases decide (y≥97) <;> cases decide (y≤122) <;> cases decide (y≥65) <;> cases decide (y≤90) <;> cases decide (y≥48) <;> cases decide (y≤57) <;> cases (y==95) <;> cases (y==46) <;> cases (y==47) <;> cases (y==45) <;> rfl
   ·rw [zjc,hl]; simp
  rw [hit]
  cases (bytesOf x).all okB <;> rfl
def mayP (p:Xa):Bool:=z7r p.Name_ && ((p.Kind_==1 || p.Kind_==2) && (decide (p.Len_≥1) && decide (p.Len_≤4096)))
theorem zrz {n:Nat} (p:Xa) (hn:64<n):f48 n p=some (mayP p):=by
 rw [y51,y5m _ hn]
 unfold mayP
 simp only [Option.bind_some]
 cases z7r p.Name_ <;> cases (p.Kind_==1) <;> cases (p.Kind_==2) <;> cases decide (p.Len_≥1) <;> rfl
theorem zs1 {n:Nat} (p:Xa) (hn:64<n):f55 n p=some (mayP p):=by
 rw [y5b,y5q _ hn]
 unfold mayP
 simp only [Option.bind_some]
 cases z7r p.Name_ <;> cases (p.Kind_==1) <;> cases (p.Kind_==2) <;> cases decide (p.Len_≥1) <;> rfl
theorem znh {a b:ByteArray}:(a==b)=true↔a=b:=MapKept.bytes_beq a b
theorem z5x (a:ByteArray):(a==a)=true:=znh.2 rfl
def addP (ks:List ByteArray) (p:Xa):List ByteArray:=bif has p.Name_ ks then ks else ks++[p.Name_]
theorem zm0 {n:Nat} (hn:64<n):∀ (l:List Xa) (ks:List ByteArray),z9t n l ks=some (bif l.all mayP then some (l.foldl addP ks) else none)
 | [],ks=>rfl
 | p::l,ks=>by
  unfold z9t
  have e:zgy n p=some (mayP p):=zrz p hn
  rw [e]
  simp only [Option.bind_some,List.all_cons,List.foldl_cons]
  cases mayP p with
  | false=>rfl
  | true =>
   simp only [cond_true,Bool.true_and]
   exact zm0 hn l _
theorem y2x (s:ByteArray) (ks:List ByteArray) (p:Xa):has s (addP ks p)=(has s ks || p.Name_==s):=by
 unfold addP
 cases h:has p.Name_ ks with
 | false=>simp [has]
 | true =>
  simp only [cond_true]
  cases hq:p.Name_==s with
  | false=>simp
  | true =>
   rw [znh] at hq
   subst hq
   simp [h]
theorem zjf {x:List Xa} {k:Nat} (h:k<x.length):(x.take (k+1)).foldl addP []=addP ((x.take k).foldl addP []) x[k]:=by
 rw [List.take_succ_eq_append_getElem h,List.foldl_append]
 rfl
theorem zm2 {x:List Xa} (s:ByteArray):∀ k,k≤x.length→has s ((x.take k).foldl addP [])=(x.take k).any (fun p=>p.Name_==s)
 | 0,_=>by simp [has]
 | k+1,h=>by
  rw [zjf (by omega),y2x,zm2 s k (by omega),List.take_succ_eq_append_getElem (by omega),List.any_append]
  simp only [List.any_cons,List.any_nil,Bool.or_false]
def z40 (x:List Xa) (k:Nat):Bool:=match x[k]? with | some p=>!((x.take k).any fun q=>q.Name_==p.Name_) | none=>true
theorem zm9 {x:List Xa}:∀ k,k≤x.length→((x.take k).foldl addP []).length=(List.range k).countP (z40 x)
 | 0,_=>by simp
 | k+1,h=>by
  have hk:k<x.length:=by omega
  rw [zjf hk,List.range_succ,List.countP_append,← zm9 k (by omega)]
  have e:z40 x k = !(has x[k].Name_ ((x.take k).foldl addP [])):=by
   unfold z40
   rw [List.getElem?_eq_getElem hk,zm2 _ k (by omega)]
  have e2:addP ((x.take k).foldl addP []) x[k]=bif has x[k].Name_ ((x.take k).foldl addP []) then (x.take k).foldl addP [] else (x.take k).foldl addP []++[x[k].Name_]:=rfl
  rw [e2]
  cases hh:has x[k].Name_ ((x.take k).foldl addP []) with
  | true=>rw [hh] at e; simp [List.countP_cons,e]
  | false=>rw [hh] at e; simp [List.countP_cons,e]
theorem y3s (x:List Xa):decide (((x.foldl addP []).length:Int)<(x.length:Int)) = !((List.range x.length).all (z40 x)):=by
 have h:=zm9 (x:=x) x.length (Nat.le_refl _)
 rw [List.take_length] at h
 rw [h]
 have hle:=List.countP_le_length (p:=z40 x) (l:=List.range x.length)
 simp only [List.length_range] at hle
 cases ha:(List.range x.length).all (z40 x) with
 | true =>
  have:(List.range x.length).countP (z40 x)=(List.range x.length).length:=List.countP_eq_length.2 (List.all_eq_true.1 ha)
  rw [this]; simp
 | false =>
  have:(List.range x.length).countP (z40 x) ≠ (List.range x.length).length:=fun e=>by
   have:=List.countP_eq_length.1 e
   have:(List.range x.length).all (z40 x)=true:=List.all_eq_true.2 this
   rw [ha] at this; cases this
  simp only [List.length_range] at this
  simp only [Bool.not_false,decide_eq_true_eq]
  omega
def fnd (x:List Xa) (s:ByteArray):Int×Bool:=match x.findIdx? (fun p=>p.Name_==s) with | none=>(0,false) | some i=>((i:Int),true)
theorem y5d {n:Nat} {x:List Xa} {s:ByteArray} (h:x.length<n) (h2:x.length<1000000):f56 n (x,s)=some (fnd x s):=by
 have hit:iter (zll n (x,s) ()) n 0=some (match x.findIdx? (fun p=>!(!(p.Name_==s))) with | none=>.out (x.length:Int) | some i=>.ret (i:Int)):=by
  refine zm6 (p:=fun p=>!(p.Name_==s)) (fun k=>(k:Int)) (fun k=>(k:Int)) (fun k hk=>?_) ?_ h
  ·rw [zj9]
   have e1:decide ((k:Int)<(x.length:Int))=true:=by simp; omega
   dsimp only
   rw [e1,z2q hk]
   simp only [cond_true,Option.bind_some,z2h (show k<4611686018427387904 by omega)]
   cases x[k].Name_==s <;> rfl
  ·rw [zj9]; simp
 rw [y5c,hit]
 unfold fnd
 simp only [Bool.not_not]
 cases x.findIdx? (fun p=>p.Name_==s) <;> rfl
theorem zxr {x:List Xa} {k:Nat} (hk:k<x.length):(fnd x x[k].Name_).1=(k:Int)↔z40 x k=true:=by
 unfold z40 fnd
 rw [List.getElem?_eq_getElem hk]
 simp only [Bool.not_eq_true']
 cases hf:x.findIdx? (fun p=>p.Name_==x[k].Name_) with
 | none =>
  rw [List.findIdx?_eq_none_iff] at hf
  have:=hf x[k] (List.getElem_mem hk)
  rw [z5x] at this; cases this
 | some i =>
  obtain ⟨hi,h1,h2⟩:=List.findIdx?_eq_some_iff_getElem.1 hf
  simp only
  constructor
  ·intro e
   have e:i=k:=by omega
   subst e
   rw [Bool.eq_false_iff]
   intro ha
   obtain ⟨q,hq,hq2⟩:=List.any_eq_true.1 ha
   obtain ⟨j,hj,rfl⟩:=List.getElem_of_mem hq
   simp only [List.length_take] at hj
   have:=h2 j (by omega)
   rw [List.getElem_take] at hq2
   rw [hq2] at this
   simp at this
  ·intro ha
   by_cases hik:i<k
   ·exfalso
    have:(x.take k).any (fun q=>q.Name_==x[k].Name_)=true:=by
     rw [List.any_eq_true]
     exact ⟨x[i],List.mem_take_iff_getElem.2 ⟨i,by omega,rfl⟩,h1⟩
    rw [ha] at this; cases this
   ·by_cases hki:k<i
    ·exfalso
     have:=h2 k hki
     rw [z5x] at this; simp at this
    ·omega
def numP (p:Xa):Int:=bif mayP p then (bif p.Kind_==2 then IntKind.i64.wrap (2 * p.Len_) else p.Len_) else 0
theorem y5o {n:Nat} (p:Xa) (hn:64<n):f62 n p=some (numP p):=by
 rw [y5n,zrz _ hn]
 unfold numP
 simp only [Option.bind_some]
 cases mayP p <;> cases (p.Kind_==2) <;> rfl
theorem y5s {n:Nat} (p:Xa) (hn:64<n):f64 n p=some (numP p):=by
 rw [y5r,zs1 _ hn]
 unfold numP
 simp only [Option.bind_some]
 cases mayP p <;> cases (p.Kind_==2) <;> rfl
def z5h (x:List Xa) (k:Nat):Int:=(x.take k).foldl (fun s p=>IntKind.i64.wrap (s+numP p)) 0
theorem zmu {x:List Xa} {k:Nat} (h:k<x.length):z5h x (k+1)=IntKind.i64.wrap (z5h x k+numP x[k]):=by
 unfold z5h
 rw [List.take_succ_eq_append_getElem h,List.foldl_append]
 rfl
theorem y53 {n:Nat} {x:List Xa} (hn:64<n) (hl:x.length≤64):f49 n x=some (z5h x x.length):=by
 have hit:iter (zli n x ()) n (0,0)=some (.out (z5h x x.length,(x.length:Int))):=by
  refine z48 (L:=x.length) (fun k=>(z5h x k,(k:Int))) (fun k hk=>?_) ?_ x.length 0 n (by omega) (by omega)
  ·rw [zj6]
   have e1:decide ((k:Int)<(x.length:Int))=true:=by simp; omega
   dsimp only
   rw [e1,z2q hk]
   simp only [cond_true,Option.bind_some,y5o _ hn,z2h (show k<4611686018427387904 by omega),zmu hk]
  ·rw [zj6]; simp
 rw [y52,hit]
 rfl
theorem y5f {n:Nat} {x:List Xa} (hn:64<n) (hl:x.length≤64):f57 n x=some (z5h x x.length):=by
 have hit:iter (zlm n x ()) n (0,0)=some (.out (z5h x x.length,(x.length:Int))):=by
  refine z48 (L:=x.length) (fun k=>(z5h x k,(k:Int))) (fun k hk=>?_) ?_ x.length 0 n (by omega) (by omega)
  ·rw [zja]
   have e1:decide ((k:Int)<(x.length:Int))=true:=by simp; omega
   dsimp only
   rw [e1,z2q hk]
   simp only [cond_true,Option.bind_some,y5s _ hn,z2h (show k<4611686018427387904 by omega),zmu hk]
  ·rw [zja]; simp
 rw [y5e,hit]
 rfl
def sgn (x:List Xa):Int:=bif decide ((x.length:Int) > 64) then 2 else bif x.all mayP then (bif (List.range x.length).all (z40 x) then (bif decide (z5h x x.length > 65536) then 102 else 0) else 101) else 100
theorem y4h {n:Nat} (x:List Xa) (hn:64<n):f28 n x=some (sgn x):=by
 show g28 n x=_
 unfold g28 sgn
 simp only [List.length_map]
 cases hl:decide ((x.length:Int) > 64) with
 | true=>rfl
 | false =>
  have hl':x.length≤64:=by simp only [decide_eq_false_iff_not] at hl; omega
  rw [zm0 hn]
  cases x.all mayP with
  | false=>rfl
  | true =>
   have e:zu6 n x=some (z5h x x.length):=y53 hn hl'
   simp only [cond_false,cond_true,Option.bind_some,z8g,List.length_map,y3s,e]
   cases (List.range x.length).all (z40 x) <;> cases decide (z5h x x.length > 65536) <;> rfl
theorem y4u {n:Nat} (x:List Xa) (hn:64<n):f38 n x=some (sgn x):=by
 rw [y4t]
 unfold sgn
 cases hl:decide ((x.length:Int) > 64) with
 | true=>rfl
 | false =>
  have hl':x.length≤64:=by simp only [decide_eq_false_iff_not] at hl; omega
  have h1:iter (zlf n x ()) n 0=some (bif x.all mayP then .out (x.length:Int) else .ret ()):=by
   refine z47 (fun k hk=>?_) ?_ (by omega)
   ·rw [zj3]
    have e1:decide ((k:Int)<(x.length:Int))=true:=by simp; omega
    rw [e1,z2q hk]
    simp only [cond_true,Option.bind_some,zs1 _ hn,z2h (show k<4611686018427387904 by omega)]
    cases mayP x[k] <;> rfl
   ·rw [zj3]; simp
  have h2:iter (zlg n x ()) n 0=some (bif (List.range x.length).all (z40 x) then .out (x.length:Int) else .ret ()):=by
   refine z47 (l:=List.range x.length) (fun k hk=>?_) ?_ (by simp; omega)
   ·simp only [List.length_range] at hk
    rw [zj4]
    have e1:decide ((k:Int)<(x.length:Int))=true:=by simp; omega
    rw [e1,z2q hk]
    simp only [cond_true,Option.bind_some,y5d (n:=n) (x:=x) (s:=x[k].Name_) (by omega) (by omega),z2h (show k<4611686018427387904 by omega),List.getElem_range]
    have:=zxr hk
    cases hq:z40 x k with
    | true =>
     have e:=this.2 hq
     rw [e]
     simp
    | false =>
     have e:(fnd x x[k].Name_).1 ≠ (k:Int):=fun e=>by
      have:=this.1 e
      rw [hq] at this; cases this
     have e2:((fnd x x[k].Name_).1 != (k:Int))=true:=by simpa using e
     rw [e2]; rfl
   ·rw [List.length_range,zj4]; simp
  rw [h1]
  simp only [cond_false]
  cases x.all mayP with
  | false=>rfl
  | true =>
   simp only [cond_true,Option.bind_some,Bo.then]
   rw [h2]
   cases (List.range x.length).all (z40 x) with
   | false=>rfl
   | true =>
    simp only [cond_true,Option.bind_some,Bo.then,y5f hn hl']
    cases decide (z5h x x.length > 65536) <;> rfl
theorem zds (a:Int):(a==a)=true:=by simp
theorem zx5 (a:Bool):(a==a)=true:=by simp
structure zk9 (a:Xe):Prop where
 s:a.Sign_.length * 32≤140737488355328
 r:a.Regs_.length * 16≤140737488355328
 l:a.Slots_.length * 32≤140737488355328
 i:a.List_.length * 56≤140737488355328
def fuel (a:Xe):Nat:=a.Sign_.length+a.Regs_.length+a.Slots_.length+a.List_.length+100001
theorem zxj {n:Nat} {c:Xe} (h1:c.Sign_.length<n) (h2:c.Regs_.length<n) (h3:c.Slots_.length<n) (h4:c.List_.length<n)
  (k1:c.Sign_.length<4611686018427387904) (k2:c.Regs_.length<4611686018427387904) (k3:c.Slots_.length<4611686018427387904) (k4:c.List_.length<4611686018427387904):f23 n (c,c)=some true:=by
 have i1:iter (zl7 n (c,c) ()) n 0=some (.out (c.Sign_.length:Int)):=by
  refine z48 (L:=c.Sign_.length) (fun k=>(k:Int)) (fun k hk=>?_) ?_ c.Sign_.length 0 n (by omega) h1
  ·rw [ziw]
   have e1:decide ((k:Int)<(c.Sign_.length:Int))=true:=by simp; omega
   dsimp only
   rw [e1,z2q hk]
   simp only [cond_true,Option.bind_some,z2h (show k<4611686018427387904 by omega),zds,z5x,Bool.and_self,Bool.not_true,cond_false]
  ·rw [ziw]; simp
 have i2:iter (zl8 n (c,c) ()) n 0=some (.out (c.Regs_.length:Int)):=by
  refine z48 (L:=c.Regs_.length) (fun k=>(k:Int)) (fun k hk=>?_) ?_ c.Regs_.length 0 n (by omega) h2
  ·rw [zix]
   have e1:decide ((k:Int)<(c.Regs_.length:Int))=true:=by simp; omega
   dsimp only
   rw [e1,z2q hk]
   simp only [cond_true,Option.bind_some,z2h (show k<4611686018427387904 by omega),zds,z5x,Bool.and_self,Bool.not_true,cond_false]
  ·rw [zix]; simp
 have i3:iter (zl9 n (c,c) ()) n 0=some (.out (c.Slots_.length:Int)):=by
  refine z48 (L:=c.Slots_.length) (fun k=>(k:Int)) (fun k hk=>?_) ?_ c.Slots_.length 0 n (by omega) h3
  ·rw [ziy]
   have e1:decide ((k:Int)<(c.Slots_.length:Int))=true:=by simp; omega
   dsimp only
   rw [e1,z2q hk]
   simp only [cond_true,Option.bind_some,z2h (show k<4611686018427387904 by omega),zds,zx5,z5x,Bool.and_self,Bool.not_true,cond_false]
  ·rw [ziy]; simp
 have i4:iter (zla n (c,c) ()) n 0=some (.out (c.List_.length:Int)):=by
  refine z48 (L:=c.List_.length) (fun k=>(k:Int)) (fun k hk=>?_) ?_ c.List_.length 0 n (by omega) h4
  ·rw [ziz]
   have e1:decide ((k:Int)<(c.List_.length:Int))=true:=by simp; omega
   dsimp only
   rw [e1,z2q hk]
   simp only [cond_true,Option.bind_some,z2h (show k<4611686018427387904 by omega),zds,z5x,Bool.and_self,Bool.not_true,cond_false]
  ·rw [ziz]; simp
 rw [y4e,i1,i2,i3,i4]
 simp [bne,Bo.then]
def y1g (l:List Xa) (t:Xb):Int:=bif t.Kind_ != 3 then 1 else match idx l t.Param_ with | some p=>p.Len_ | none=>0
def goR (c:Xe):List Xd→Nat→List Bool→List Xf→Nat⊕(List Bool×List Xf)
 | [],_,set,o=>.inr (set,o)
 | i::l,k,set,o=>bif z46 c i set o then goR c l (k+1) (z6s i set o).1 (z6s i set o).2 else .inl k
section
variable {c:Xe}
theorem zyh {m m':Nat} {x:Xe} (hr:∀ t ∈ c.Regs_,mayT c.Sign_ t=true) (hR:c.Regs_.length≤1000000) (hL:c.List_.length<1000000) (hm:c.List_.length<m) (hb:∀ i ∈ c.List_,0≤i.Bits_∧i.Bits_<4294967296) :
  ∀ (j k f f':Nat) (set:List Bool) (news:List (List Int)) (op:List Int) (o:List Xf),k+j=c.List_.length→j<f→j<f'→Two c k set news op o →
   ∃ news' op',(∀ r,goR c (c.List_.drop k) k set o = .inr r→op'.length=r.2.length) ∧
    iter (zd0 (m+5) x (c.List_,(c.List_.length:Int),c.Sign_,c.Regs_,c.Slots_)) f ((k:Int),c.Sign_,c.Regs_,c.Slots_,c.List_,set,news,op)=some (match goR c (c.List_.drop k) k set o with | .inl k'=>.ret (k':Int) | .inr r=>.out ((c.List_.length:Int),c.Sign_,c.Regs_,c.Slots_,c.List_,r.1,news',op')) ∧
    iter (zd1 (m'+4) c ()) f' ((k:Int),set,o)=some (match goR c (c.List_.drop k) k set o with | .inl k'=>.ret (k':Int) | .inr r=>.out ((c.List_.length:Int),r.1,r.2))
 | 0,k,f+1,f'+1,set,news,op,o,hk,_,_,h=>by
  obtain rfl:k=c.List_.length:=by omega
  rw [List.drop_length]
  refine ⟨news,op,fun r hr=>?_,?_,?_⟩
  ·cases hr; rw [h.op]; simp
  ·unfold iter
   rw [ziq]; simp [goR]
  ·unfold iter
   rw [ziv]; simp [goR]
 | j+1,k,f+1,f'+1,set,news,op,o,hk,hf,hf',h=>by
  have hkl:k<c.List_.length:=by omega
  obtain ⟨b0,b1⟩:=hb _ (List.getElem_mem hkl)
  have e1:decide ((k:Int)<(c.List_.length:Int))=true:=by simp; omega
  have s1:=zxf (m:=m) (x:=x) (v:=(c.List_,(c.List_.length:Int),c.Sign_,c.Regs_,c.Slots_)) h (by omega) (by omega) hr b0 b1 (by omega) e1 (z2q hkl)
  have s2:=zxh (m:=m') h hr hR b0 b1 (by omega) hkl (z2q hkl)
  have e2:z46 c c.List_[k] set o=okI c c.List_[k] set op:=by
   unfold z46 okI
   rw [h.place]
   cases fits c c.List_[k] <;> cases rdOk set c.List_[k] <;> cases zb3 c.List_[k] o <;> simp
  rw [List.drop_eq_getElem_cons hkl]
  have eg:goR c (c.List_[k]::c.List_.drop (k+1)) k set o=bif z46 c c.List_[k] set o then goR c (c.List_.drop (k+1)) (k+1) (z6s c.List_[k] set o).1 (z6s c.List_[k] set o).2 else .inl k:=rfl
  rw [eg]
  rw [e2] at s2 ⊢
  unfold iter
  rw [s1,s2]
  cases hok:okI c c.List_[k] set op with
  | false=>exact ⟨[],[],fun r hr=>(by cases hr),rfl,rfl⟩
  | true =>
   obtain ⟨q1,q2⟩:=h.next hok
   simp only [cond_true]
   have e3:z6s c.List_[k] set o=((z9z c.List_[k] set news op).1,(z6s c.List_[k] set o).2):=by rw [← q1]
   rw [e3]
   exact zyh hr hR hL hm hb j (k+1) f f' _ _ _ _ (by omega) (by omega) (by omega) q2
end
def chk (c:Xe):Int×Int :=
 bif sgn c.Sign_ != 0 then (sgn c.Sign_,-1) else bif (decide ((c.Regs_.length:Int) > 16384) || decide ((c.List_.length:Int) > 32768)) then (181,-1) else bif decide ((c.Slots_.length:Int) > 4096) then (180,-1) else
 bif c.Regs_.all (mayT c.Sign_) then (bif c.Slots_.all (mayS c.Sign_) then (match goR c c.List_ 0 (List.replicate c.Regs_.length false) [] with | .inl k=>(160,(k:Int)) | .inr r=>bif decide ((r.2.length:Int) > 0) then (160,(c.List_.length:Int)) else (0,0)) else (160,-1)) else (160,-1)
theorem zku {n:Nat} {c:Xe} (hn:100000<n) (hs:∀ s ∈ c.Slots_,0≤s.Bits_∧s.Bits_<4294967296) (hb:∀ i ∈ c.List_,0≤i.Bits_∧i.Bits_<4294967296):f16 n c=some (chk c)∧f21 n c=some (chk c):=by
 unfold chk
 obtain ⟨m,rfl⟩:∃ m,n=m+5:=⟨n - 5,by omega⟩
 rw [y44,y4d,y4h _ (by omega),y4u _ (by omega)]
 simp only [Option.bind_some]
 cases sgn c.Sign_ != 0 with
 | true=>exact ⟨rfl,rfl⟩
 | false =>
  have hB:∀ {R:Type},(bif (decide ((c.Regs_.length:Int) > 16384)) then some (Sum.inl true) else some (.inl (decide ((c.List_.length:Int) > 32768))):Option (Bool⊕R))=some (.inl (decide ((c.Regs_.length:Int) > 16384) || decide ((c.List_.length:Int) > 32768))):=by
   intro R
   cases decide ((c.Regs_.length:Int) > 16384) <;> rfl
  simp only [cond_false]
  rw [hB,Option.bind_some,orRet_inl]
  cases hz:(decide ((c.Regs_.length:Int) > 16384) || decide ((c.List_.length:Int) > 32768)) with
  | true=>exact ⟨rfl,rfl⟩
  | false =>
   simp only [Bool.or_eq_false_iff,decide_eq_false_iff_not] at hz
   simp only [cond_false]
   cases hy:decide ((c.Slots_.length:Int) > 4096) with
   | true=>exact ⟨rfl,rfl⟩
   | false =>
    simp only [decide_eq_false_iff_not] at hy
    simp only [cond_false]
    rw [y4j (by omega) (by omega),zxg (by omega) (by omega)]
    cases hr:c.Regs_.all (mayT c.Sign_) with
    | false=>exact ⟨rfl,rfl⟩
    | true =>
     have hr':∀ t ∈ c.Regs_,mayT c.Sign_ t=true:=List.all_eq_true.1 hr
     simp only [Option.bind_some,Bool.not_true,cond_false,cond_true,Bo.then]
     rw [y4n (by omega) (by omega) hs,zrs (by omega) (by omega) hs]
     cases c.Slots_.all (mayS c.Sign_) with
     | false=>exact ⟨rfl,rfl⟩
     | true =>
      simp only [Option.bind_some,orRet_inl,Bool.not_true,cond_false,cond_true,Bo.then]
      rw [zi (by omega),y2i (by omega) (by omega)]
      simp only [Option.bind_some,Bo.then]
      have h0:Two c 0 (List.replicate c.Regs_.length false) [] [] []:=⟨by simp,rfl,by simp,fun x hx=>(by cases hx),trivial⟩
      have hset:List.replicate ((c.Regs_.length:Int)).toNat false=List.replicate c.Regs_.length false:=by rw [Int.toNat_natCast]
      rw [hset]
      obtain ⟨news',op',q0,q1,q2⟩:=zyh (m:=m) (m':=m+1) (x:=c) hr' (by omega) (by omega) (by omega) hb c.List_.length 0 (m+5) (m+5) _ _ _ _ (by omega) (by omega) (by omega) h0
      rw [List.drop_zero] at q0 q1 q2
      have q1:iter (zd0 (m+5) c (c.List_,(c.List_.length:Int),c.Sign_,c.Regs_,c.Slots_)) (m+5) (0,c.Sign_,c.Regs_,c.Slots_,c.List_,List.replicate c.Regs_.length false,[],[])=_:=q1
      have q2:iter (zd1 (m+5) c ()) (m+5) (0,List.replicate c.Regs_.length false,[])=_:=q2
      rw [q1,q2]
      cases hg:goR c c.List_ 0 (List.replicate c.Regs_.length false) [] with
      | inl k=>exact ⟨rfl,rfl⟩
      | inr r =>
       have:=q0 r hg
       simp only [Option.bind_some,Bo.then,this]
       cases decide ((r.2.length:Int) > 0) <;> exact ⟨rfl,rfl⟩
def opn1 (i:Xd):Int:=bif i.Op_==34 || i.Op_==36 then 1 else bif i.Op_==35 || i.Op_==37 then -1 else 0
def opn (l:List Xd):Int:=l.foldl (fun s i=>s+opn1 i) 0
def za6 (d:Nat) (s t:List Bool):Prop:=s.length=t.length∧∀ j,j ≠ d→s[j]? = t[j]?
inductive z6w (d:Nat):List Xf→List Xf→Prop
 | nil:z6w d [] []
 | snoc {o p:List Xf} {x y:Xf}:z6w d o p→x.Op_=y.Op_→x.Param_=y.Param_→za6 d x.Set_ y.Set_→z6w d (o++[x]) (p++[y])
theorem z6w.inv {d:Nat} {o p:List Xf} (h:z6w d o p):(o=[]∧p=[])∨∃ o' p' x y,o=o'++[x]∧p=p'++[y]∧z6w d o' p'∧x.Op_=y.Op_∧x.Param_=y.Param_∧za6 d x.Set_ y.Set_:=by
 cases h with
 | nil=>exact .inl ⟨rfl,rfl⟩
 | snoc h1 h2 h3 h4=>exact .inr ⟨_,_,_,_,rfl,rfl,h1,h2,h3,h4⟩
theorem z6w.len {d:Nat} {o p:List Xf} (h:z6w d o p):o.length=p.length:=by
 induction h with
 | nil=>rfl
 | snoc _ _ _ _ ih=>simp [ih]
theorem za6.refl (d:Nat) (s:List Bool):za6 d s s:=⟨rfl,fun _ _=>rfl⟩
theorem z6w.refl (d:Nat) (o:List Xf):z6w d o o:=by
 have:∀ (n:Nat) (o:List Xf),o.length=n→z6w d o o:=by
  intro n
  induction n with
  | zero=>intro o h; rw [List.eq_nil_of_length_eq_zero h]; exact .nil
  | succ n ih =>
   intro o h
   obtain ⟨x,x1,_⟩:=z63 o (by omega)
   rw [zh5 x1]
   exact .snoc (ih _ (by simp; omega)) rfl rfl (za6.refl d _)
 exact this _ o rfl
theorem za6.set {d:Nat} {s t:List Bool} (h:za6 d s t) (j:Nat) (b:Bool):za6 d (s.set j b) (t.set j b):=by
 refine ⟨by simp [h.1],fun k hk=>?_⟩
 rw [List.getElem?_set,List.getElem?_set,h.1,h.2 k hk]
abbrev zqt (c:Xe):List Bool:=List.replicate c.Regs_.length false
theorem zrl {c:Xe} (h:(chk c).1=0):(sgn c.Sign_ != 0)=false∧decide ((c.Regs_.length:Int) > 16384)=false∧decide ((c.List_.length:Int) > 32768)=false∧decide ((c.Slots_.length:Int) > 4096)=false∧c.Regs_.all (mayT c.Sign_)=true∧c.Slots_.all (mayS c.Sign_)=true ∧
  ∃ r,goR c c.List_ 0 (zqt c) [] = .inr r∧r.2=[]:=by
 unfold chk at h
 cases h1:sgn c.Sign_ != 0 with
 | true =>
  rw [h1] at h
  have h:sgn c.Sign_=0:=h
  rw [h] at h1; cases h1
 | false =>
  rw [h1] at h
  cases h2:decide ((c.Regs_.length:Int) > 16384) with
  | true=>rw [h2] at h; exact absurd (show (181:Int)=0 from h) (by decide)
  | false =>
   cases h3:decide ((c.List_.length:Int) > 32768) with
   | true=>rw [h2,h3] at h; exact absurd (show (181:Int)=0 from h) (by decide)
   | false =>
    rw [h2,h3] at h
    cases h4:decide ((c.Slots_.length:Int) > 4096) with
    | true=>rw [h4] at h; exact absurd (show (180:Int)=0 from h) (by decide)
    | false =>
     rw [h4] at h
     cases h5:c.Regs_.all (mayT c.Sign_) with
     | false=>rw [h5] at h; exact absurd (show (160:Int)=0 from h) (by decide)
     | true =>
      rw [h5] at h
      cases h6:c.Slots_.all (mayS c.Sign_) with
      | false=>rw [h6] at h; exact absurd (show (160:Int)=0 from h) (by decide)
      | true =>
       rw [h6] at h
       refine ⟨rfl,rfl,rfl,rfl,rfl,rfl,?_⟩
       simp only [Bool.or_self,cond_false,cond_true] at h
       cases h7:goR c c.List_ 0 (zqt c) [] with
       | inl k=>rw [h7] at h; exact absurd h (by simp)
       | inr r =>
        rw [h7] at h
        refine ⟨r,rfl,?_⟩
        cases h8:decide ((r.2.length:Int) > 0) with
        | true=>simp only [h8,cond_true] at h; exact absurd h (by simp)
        | false =>
         simp only [decide_eq_false_iff_not] at h8
         exact List.eq_nil_of_length_eq_zero (by omega)
theorem zm1 (c:Xe) (l':List Xd):∀ (l:List Xd) (k:Nat) (s:List Bool) (o:List Xf),goR ⟨c.Sign_,c.Regs_,c.Slots_,l'⟩ l k s o=goR c l k s o
 | [],_,_,_=>rfl
 | i::l,k,s,o=>by
  simp only [goR]
  have e:z46 ⟨c.Sign_,c.Regs_,c.Slots_,l'⟩ i s o=z46 c i s o:=rfl
  rw [e,zm1 c l' l]
theorem yah {c:Xe} (h:(chk c).1=0) (l:List Xd) (hl:l.length≤32768):chk ⟨c.Sign_,c.Regs_,c.Slots_,l⟩=match goR c l 0 (zqt c) [] with | .inl k=>(160,(k:Int)) | .inr r=>bif decide ((r.2.length:Int) > 0) then (160,(l.length:Int)) else (0,0):=by
 obtain ⟨h1,h2,h3,h4,h5,h6,_⟩:=zrl h
 have h3':decide ((l.length:Int) > 32768)=false:=by simp; omega
 unfold chk
 dsimp only
 rw [h1,h2,h3',h4,h5,h6,zm1]
 rfl
theorem ya8 {x:Int} (h0 : -1000000≤x) (h1:x≤1000000):IntKind.i64.wrap x=x:=zaa (by omega) (by omega)
def regT (c:Xe) (k:Int):Xb:=(idx c.Regs_ k).getD ty0
def yai (c:Xe) (i:Xd):Int :=
 bif i.Op_==16 then 62 else bif elem i.Op_ || (i.Op_==29 || (i.Op_==30 || i.Op_==32)) then y1g c.Sign_ (regT c i.D_) else
 bif i.Op_==31 || (i.Op_==33 || (i.Op_==19 || i.Op_==20)) then y1g c.Sign_ (regT c i.A_) else 1
def totR {α:Type} (w:α→Int):List α→Int
 | []=>0
 | x::l=>w x+totR w l
theorem y7h {α:Type} {w:α→Int} (h:∀ x,0≤w x):∀ l:List α,0≤totR w l
 | []=>Int.le_refl _
 | x::l=>by have:=h x; have:=y7h h l; show 0≤w x+totR w l; omega
abbrev U32s (c:Xe):Prop:=(∀ s ∈ c.Slots_,0≤s.Bits_∧s.Bits_<4294967296)∧∀ i ∈ c.List_,0≤i.Bits_∧i.Bits_<4294967296
theorem y3j {n:Nat} {c:Xe} (h:zk9 c):f101 n c=some (c.Sign_,c.Regs_,c.Slots_,c.List_):=by
 rw [y1r,zi h.s,zi h.r,zi h.l,zi h.i]
def Byt (l:List Int):Prop:=∀ b ∈ l,0≤b∧b<256
theorem z5m (s:ByteArray):(bytesOf s).length=s.size:=by simp [bytesOf]
theorem zad (s:ByteArray):Byt (bytesOf s):=fun b hb=>by
 obtain ⟨u,_,rfl⟩:=List.mem_map.1 hb
 have:=u.toNat_lt
 omega
theorem z5g (l:List Int):(zj l).data.toList=l.map fun n=>UInt8.ofNat n.toNat:=by
 have:∀ (l:List Int) (r:ByteArray),(l.foldl (fun r n=>r.push (UInt8.ofNat n.toNat)) r).data.toList=r.data.toList++l.map fun n=>UInt8.ofNat n.toNat:=by
  intro l
  induction l with
  | nil=>intro r; simp
  | cons a l ih=>intro r; rw [List.foldl_cons,ih]; simp [ByteArray.push]
 have h:=this l ByteArray.empty
 simpa [zj] using h
theorem zre {s t:ByteArray} (h:s.data.toList=t.data.toList):s=t:=by
 cases s; cases t
 congr 1
 exact Array.ext' h
theorem zk3 {l:List Int} (h:Byt l):bytesOf (zj l)=l:=by
 unfold bytesOf
 rw [z5g,List.map_map]
 conv=>rhs; rw [← List.map_id l]
 refine List.map_congr_left fun b hb=>?_
 have:=h b hb
 simp only [Function.comp,id,UInt8.toNat_ofNat']
 omega
theorem z87 (s:ByteArray):zj (bytesOf s)=s:=by
 apply zre
 rw [z5g]
 unfold bytesOf
 rw [List.map_map]
 conv=>rhs; rw [← List.map_id s.data.toList]
 refine List.map_congr_left fun b hb=>?_
 simp
theorem y7o {s t:ByteArray} (h:bytesOf s=bytesOf t):s=t:=by rw [← z87 s,h,z87]
theorem zl (l:List Int):(zj l).size=l.length:=by
 have:=congrArg List.length (z5g l)
 simpa using this
theorem y1n (s t:ByteArray):bytesOf (s++t)=bytesOf s++bytesOf t:=by
 simp [bytesOf]
theorem z1b (a b:List Int):zj (a++b)=zj a++zj b:=by
 apply zre
 rw [ByteArray.data_append,Array.toList_append,z5g,z5g,z5g,List.map_append]
theorem zyi (s:ByteArray) (a b:Nat):bytesOf (s.extract a b)=((bytesOf s).take b).drop a:=by
 simp [bytesOf,ByteArray.data_extract,List.map_drop,List.map_take,List.extract_eq_take_drop,List.drop_take]
theorem zq2 {s:ByteArray} {i:Nat} (h:i<(bytesOf s).length):zc s (i:Int)=(bytesOf s)[i]:=by
 have h2:i<s.data.toList.length:=by simpa [bytesOf] using h
 simp only [zc,bytesOf,Int.toNat_natCast,List.getElem_map]
 rw [List.getD_eq_getElem?_getD,List.getElem?_eq_getElem h2]
 rfl
theorem z6n {α:Type} {l:List α} {i:Nat} (h:i<l.length):idx l (i:Int)=some l[i]:=by
 unfold idx
 rw [if_pos (by omega),Int.toNat_natCast,List.getElem?_eq_getElem h]
theorem z6g {i:Nat} (h:i<9223372036854775806):IntKind.i64.wrap ((i:Int)+1)=((i+1:Nat):Int):=by
 rw [zaa (by omega) (by omega)]; omega
theorem z2t {α S T R St:Type} (xs:List α) (hm:xs.length<9223372036854775806) (mk:Int→S→St) (P:Nat→S→Prop) (g:S→α→S) (out:S→T) (body:St→Option (Bo St T R))
  (hgo:∀ (i:Nat) (h:i<xs.length) (s:S),P i s→body (mk i s)=some (.go (mk (IntKind.i64.wrap ((i:Int)+1)) (g s xs[i])))∧P (i+1) (g s xs[i])) (hend:∀ s,P xs.length s→body (mk xs.length s)=some (.out (out s))) :
  ∀ (k i:Nat) (s:S) (fuel:Nat),i+k=xs.length→k<fuel→P i s→iter body fuel (mk i s)=some (.out (out ((xs.drop i).foldl g s)))∧P xs.length ((xs.drop i).foldl g s)
 | 0,i,s,fuel+1,h,hf,hp=>by
  obtain rfl:i=xs.length:=by omega
  rw [List.drop_length,List.foldl_nil]
  exact ⟨by simp only [iter,hend s hp],hp⟩
 | k+1,i,s,fuel+1,h,hf,hp=>by
  have hi:i<xs.length:=by omega
  rw [List.drop_eq_getElem_cons hi]
  obtain ⟨h1,h2⟩:=hgo i hi s hp
  rw [z6g (by omega)] at h1
  simp only [iter,h1,List.foldl_cons]
  exact z2t xs hm mk P g out body hgo hend k (i+1) _ fuel (by omega) (by omega) h2
def bs (c:BitVec 64):BitVec 64:=bif c.getLsbD 0 then (c >>> 1) ^^^ 14514072000185962306#64 else c >>> 1
def bs8 (c:BitVec 64):BitVec 64:=bs (bs (bs (bs (bs (bs (bs (bs c)))))))
def bb (c:BitVec 64) (b:Int):BitVec 64:=bs8 (c ^^^ BitVec.ofInt 64 b)
def crc0 (l:List Int):BitVec 64:=l.foldl bb (18446744073709551615#64)
def crcL (l:List Int):Int:=((~~~ crc0 l).toNat:Int)
theorem y2z (c:BitVec 64):c.getLsbD 0=(c.toNat % 2==1):=by
 rw [BitVec.getLsbD,Nat.testBit_zero]
 by_cases h:c.toNat % 2=1 <;> simp [h]
theorem ofI (c:BitVec 64):BitVec.ofInt IntKind.u64.bits (c.toNat:Int)=c:=by
 show BitVec.ofInt 64 (c.toNat:Int)=c
 rw [BitVec.ofInt_natCast]; simp
theorem y1h (c:BitVec 64):IntKind.u64.wrap (c.toNat:Int)=(c.toNat:Int):=z58 (by omega) (by have:=c.isLt; omega)
theorem half (c:BitVec 64):(c.toNat:Int).fdiv (2 ^ min (1:Int).toNat IntKind.u64.bits)=((c >>> 1).toNat:Int):=by
 show (c.toNat:Int).fdiv 2=_
 rw [Int.fdiv_eq_ediv_of_nonneg _ (by decide),BitVec.toNat_ushiftRight,Nat.shiftRight_eq_div_pow]
 omega
theorem zrg (c:BitVec 64):(bs c).toNat=if c.toNat % 2=1 then ((c >>> 1) ^^^ 14514072000185962306#64).toNat else (c >>> 1).toNat:=by
 unfold bs
 rw [y2z]
 by_cases h:c.toNat % 2=1
 ·simp [h]
 ·have:(c.toNat % 2==1)=false:=by simpa using h
  rw [this,cond_false,if_neg h]
theorem xorB (x y:Int):IntKind.u64.wrap (BitVec.ofInt IntKind.u64.bits x ^^^ BitVec.ofInt IntKind.u64.bits y).toNat=((BitVec.ofInt 64 x ^^^ BitVec.ofInt 64 y).toNat:Int):=y1h (BitVec.ofInt 64 x ^^^ BitVec.ofInt 64 y)
theorem ofI' (c:BitVec 64):BitVec.ofInt 64 (c.toNat:Int)=c:=ofI c
theorem zq8 {n:Nat} {x:ByteArray} {v1:Unit} {q1:Int×Int} {v2:Unit} (c:BitVec 64) (k:Nat) (hk:k<8):zdv n x v1 q1 v2 ((c.toNat:Int),(k:Int))=some (.go (((bs c).toNat:Int),((k+1:Nat):Int))):=by
 rw [zge,z6g (by omega),half,xorB,ofI']
 have e1:decide ((k:Int)<8)=true:=by simp; omega
 have e2:((c.toNat:Int).tmod 2==1)=(c.toNat % 2==1):=by
  rw [Int.tmod_eq_emod_of_nonneg (by omega)]
  by_cases h:c.toNat % 2=1
  ·rw [h]; simp; omega
  ·have:(c.toNat % 2==1)=false:=by simpa using h
   rw [this]; simp; omega
 have e3:(BitVec.ofInt 64 14514072000185962306)=14514072000185962306#64:=rfl
 rw [e1,cond_true,e2,e3,zrg]
 by_cases h:c.toNat % 2=1
 ·simp [h]
 ·have:(c.toNat % 2==1)=false:=by simpa using h
  rw [this,cond_false,if_neg h]
theorem zn5 {n:Nat} {x:ByteArray} {v1:Unit} {q1:Int×Int} {v2:Unit} (c:BitVec 64):zdv n x v1 q1 v2 ((c.toNat:Int),((8:Nat):Int))=some (.out ((c.toNat:Int),8)):=by
 rw [zge]; rfl
theorem y0t {body:Int×Int→Option (Bo (Yaa) (Yaa) Empty)} (h:∀ (c:BitVec 64) (k:Nat),k<8→body ((c.toNat:Int),(k:Int))=some (.go (((bs c).toNat:Int),((k+1:Nat):Int)))) (he:∀ c:BitVec 64,body ((c.toNat:Int),((8:Nat):Int))=some (.out ((c.toNat:Int),8))) {n:Nat} (hn:10≤n) (c:BitVec 64) :
  iter body n ((c.toNat:Int),0)=some (.out (((bs8 c).toNat:Int),8)):=by
 obtain ⟨m,rfl⟩:∃ m,n=m+9:=⟨n - 9,by omega⟩
 have h0:=h c 0 (by omega)
 simp only [Int.natCast_zero] at h0
 simp only [iter,h0,h _ 1 (by omega),h _ 2 (by omega),h _ 3 (by omega),h _ 4 (by omega),h _ 5 (by omega),h _ 6 (by omega),h _ 7 (by omega),he,bs8]
theorem zq9 {n:Nat} {x:ByteArray} {v1:Unit} {q1:Int×Int} {v2:Unit} (c:BitVec 64) (k:Nat) (hk:k<8):zdw n x v1 q1 v2 ((c.toNat:Int),(k:Int))=some (.go (((bs c).toNat:Int),((k+1:Nat):Int))):=by
 rw [zgg,z6g (by omega),half,xorB,ofI']
 have e1:decide ((k:Int)<8)=true:=by simp; omega
 have e2:(IntKind.u64.wrap (BitVec.ofInt IntKind.u64.bits (c.toNat:Int) &&& BitVec.ofInt IntKind.u64.bits 1).toNat==1)=(c.toNat % 2==1):=by
  have:=zq1 (c.toNat:Int) 1 (by decide) (by omega) (by have:=c.isLt; omega)
  have e:((2 ^ 1 - 1:Nat):Int)=1:=rfl
  rw [e] at this
  rw [this,Int.toNat_natCast,z58 (by omega) (by omega)]
  by_cases h:c.toNat % 2=1
  ·have h':c.toNat % 2 ^ 1=1:=h
   simp only [h,h']; rfl
  ·have:(c.toNat % 2==1)=false:=by simpa using h
   rw [this]
   have h':c.toNat % 2 ^ 1=0:=by omega
   simp only [h']; rfl
 have e3:(BitVec.ofInt 64 14514072000185962306)=14514072000185962306#64:=rfl
 rw [e1,cond_true,e2,e3,zrg]
 by_cases h:c.toNat % 2=1
 ·simp [h]
 ·have:(c.toNat % 2==1)=false:=by simpa using h
  rw [this,cond_false,if_neg h]
theorem zn6 {n:Nat} {x:ByteArray} {v1:Unit} {q1:Int×Int} {v2:Unit} (c:BitVec 64):zdw n x v1 q1 v2 ((c.toNat:Int),((8:Nat):Int))=some (.out ((c.toNat:Int),8)):=by
 rw [zgg]; rfl
theorem zyj (c:BitVec 64):cmpl .u64 (c.toNat:Int)=((~~~ c).toNat:Int):=by
 unfold cmpl
 rw [ofI]
 have:BitVec.ofInt IntKind.u64.bits (if IntKind.u64.signed then -1 else IntKind.u64.max)=18446744073709551615#64:=rfl
 rw [this]
 have e:(18446744073709551615#64 ^^^ c) = ~~~ c:=by
  rw [show (18446744073709551615#64:BitVec 64)=BitVec.allOnes 64 from rfl,BitVec.xor_comm,BitVec.xor_allOnes]
 have e2:((18446744073709551615#64 ^^^ c:BitVec 64).toNat)=(~~~ c).toNat:=by rw [e]
 exact (congrArg (fun k:Nat=>IntKind.u64.wrap (k:Int)) e2).trans (y1h _)
theorem y1t {n:Nat} {x:ByteArray} (hx:x.size<9223372036854775000) (hn:x.size+10<n):f198 n x=some (crcL (bytesOf x)):=by
 rw [y1s]
 have hl:=z5m x
 have:=(z2t (bytesOf x) (by omega) (fun i (c:BitVec 64)=>((c.toNat:Int),i)) (fun _ _=>True) bb (fun c=>((c.toNat:Int),((bytesOf x).length:Int))) (zi0 n x ()) (R:=Empty) (fun i hi c _=>⟨by
  rw [zgd]
  have e1:decide ((i:Int)<(x.size:Int))=true:=by simp; omega
  have hb:=zad x _ (List.getElem_mem hi)
  rw [e1,cond_true,zi (by simp; omega),zq2 hi,z58 hb.1 (by omega),xorB,ofI',y0t zq8 zn5 (by omega)]
  rfl,trivial⟩) (fun c _=>by
  rw [zgd]
  have e1:decide (((bytesOf x).length:Int)<(x.size:Int))=false:=by simp; omega
  simp only [e1,cond_false]) (bytesOf x).length 0 (18446744073709551615#64) n (by omega) (by omega) trivial).1
 have e0:((18446744073709551615#64).toNat:Int)=18446744073709551615:=rfl
 simp only [Int.natCast_zero,e0] at this
 rw [this]
 simp only [Option.bind_some,Bo.then,zyj,List.drop_zero]
 rfl
theorem y1v {n:Nat} {x:ByteArray} (hx:x.size<9223372036854775000) (hn:x.size+10<n):f199 n x=some (crcL (bytesOf x)):=by
 rw [y1u]
 have hl:=z5m x
 have:=(z2t (bytesOf x) (by omega) (fun i (c:BitVec 64)=>((c.toNat:Int),i)) (fun _ _=>True) bb (fun c=>((c.toNat:Int),((bytesOf x).length:Int))) (zi1 n x ()) (R:=Empty) (fun i hi c _=>⟨by
  rw [zgf]
  have e1:decide ((i:Int)<((bytesOf x).length:Int))=true:=by simp; omega
  have hb:=zad x _ (List.getElem_mem hi)
  rw [e1,cond_true]
  simp only [z6n hi,Option.bind_some]
  rw [z58 hb.1 (by omega),xorB,ofI',y0t zq9 zn6 (by omega)]
  rfl,trivial⟩) (fun c _=>by
  rw [zgf]
  have e1:decide (((bytesOf x).length:Int)<((bytesOf x).length:Int))=false:=by simp
  simp only [e1,cond_false]) (bytesOf x).length 0 (18446744073709551615#64) n (by omega) (by omega) trivial).1
 have e0:((18446744073709551615#64).toNat:Int)=18446744073709551615:=rfl
 simp only [Int.natCast_zero,e0] at this
 rw [this]
 simp only [Option.bind_some,Bo.then,zyj,List.drop_zero]
 rfl
def numN (v:Nat):List Int:=if h:v<128 then [(v:Int)] else ((v % 128+128:Nat):Int)::numN (v / 128)
termination_by v
decreasing_by omega
def num (v:Int):List Int:=if v<128 then [IntKind.u8.wrap v] else numN v.toNat
theorem zhq (x:Int):IntKind.u8.wrap x=x % 256:=by simp [IntKind.wrap,IntKind.bits,IntKind.signed]
theorem zhp (x:Int):0≤IntKind.u8.wrap x∧IntKind.u8.wrap x<256:=by rw [zhq]; omega
theorem zem {x:Int} (h0:0≤x) (h1:x<256):IntKind.u8.wrap x=x:=by rw [zhq]; omega
theorem z3a {v:Nat} (h:v<128):numN v=[(v:Int)]:=by rw [numN,dif_pos h]
theorem zca {v:Nat} (h:¬ v<128):numN v=((v % 128+128:Nat):Int)::numN (v / 128):=by rw [numN,dif_neg h]
theorem yaf (v:Nat):num (v:Int)=numN v:=by
 unfold num
 split
 ·rw [z3a (by omega),zem (by omega) (by omega)]
 ·rw [Int.toNat_natCast]
theorem zcb:∀ (f v:Nat),v<128 ^ (f+1)→(numN v).length≤f+1
 | 0,v,h=>by rw [z3a (by omega)]; simp
 | f+1,v,h=>by
  by_cases hv:v<128
  ·rw [z3a hv]; simp
  ·rw [zca hv,List.length_cons]
   have:=zcb f (v / 128) (by rw [Nat.pow_succ] at h; omega)
   omega
theorem z2k {v:Int} (h:v<9223372036854775808):(num v).length≤10:=by
 unfold num
 split
 ·simp
 ·exact zcb 9 v.toNat (by have:(128:Nat) ^ (9+1)=1180591620717411303424:=rfl; omega)
theorem zmf:∀ (f v:Nat),v<128 ^ (f+1)→Byt (numN v)
 | 0,v,h=>by rw [z3a (by omega)]; intro b hb; simp at hb; omega
 | f+1,v,h=>by
  by_cases hv:v<128
  ·rw [z3a hv]; intro b hb; simp at hb; omega
  ·rw [zca hv]
   have:=zmf f (v / 128) (by rw [Nat.pow_succ] at h; omega)
   intro b hb
   rcases List.mem_cons.1 hb with rfl | hb
   ·omega
   ·exact this b hb
theorem z5e {v:Int} (h:v<9223372036854775808):Byt (num v):=by
 unfold num
 split
 ·intro b hb; simp at hb; rw [hb]; exact zhp v
 ·exact zmf 9 v.toNat (by have:(128:Nat) ^ (9+1)=1180591620717411303424:=rfl; omega)
theorem y9s:∀ b:BitVec 8,(b ||| 128#8).toNat=b.toNat % 128+128:=by decide
theorem zwa (v:Int) (hv:0≤v):IntKind.u8.wrap ((BitVec.ofInt IntKind.u8.bits (IntKind.u8.wrap v) ||| BitVec.ofInt IntKind.u8.bits 128).toNat:Int)=((v.toNat % 128+128:Nat):Int):=by
 have h:=y9s (BitVec.ofInt 8 (IntKind.u8.wrap v))
 have e:((BitVec.ofInt IntKind.u8.bits (IntKind.u8.wrap v) ||| BitVec.ofInt IntKind.u8.bits 128).toNat)=(BitVec.ofInt 8 (IntKind.u8.wrap v) ||| 128#8).toNat:=rfl
 rw [e,h]
 have e2:(BitVec.ofInt 8 (IntKind.u8.wrap v)).toNat=v.toNat % 256:=by
  rw [BitVec.toNat_ofInt,zhq]; omega
 rw [e2,zhq]
 omega
theorem shr7 (v:Int) (hv:0≤v):v.fdiv (2 ^ min (7:Int).toNat IntKind.i64.bits)=((v.toNat / 128:Nat):Int):=by
 show v.fdiv 128=_
 rw [Int.fdiv_eq_ediv_of_nonneg _ (by decide)]; omega
theorem zir {n:Nat} {x:List Int×Int}:∀ (f v m:Nat) (l:List Int),v<128 ^ (f+1)→l.length+f+2≤140737488355328 →
  ∃ w:Nat,∃ l',iter (zi4 n x ()) (f+1+m) ((v:Int),l)=some (.out ((w:Int),l'))∧l'++[(w:Int)]=l++numN v∧w<128
 | 0,v,m,l,h,hl=>by
  refine ⟨v,l,?_,by rw [z3a (by omega)],by omega⟩
  have e:decide ((v:Int)≥128)=false:=by simp; omega
  rw [show 0+1+m=m+1 by omega,iter,z8e]
  simp only [e,cond_false]
 | f+1,v,m,l,h,hl=>by
  by_cases hv:v<128
  ·refine ⟨v,l,?_,by rw [z3a hv],hv⟩
   have e:decide ((v:Int)≥128)=false:=by simp; omega
   rw [show f+1+1+m=(f+1+m)+1 by omega,iter,z8e]
   simp only [e,cond_false]
  ·obtain ⟨w,l',h1,h2,h3⟩:=zir (n:=n) (x:=x) f (v / 128) m (l++[((v % 128+128:Nat):Int)]) (by rw [Nat.pow_succ] at h; omega) (by simp; omega)
   refine ⟨w,l',?_,by rw [h2,zca hv]; simp,h3⟩
   have e:decide ((v:Int)≥128)=true:=by simp; omega
   rw [show f+1+1+m=(f+1+m)+1 by omega,iter,z8e]
   simp only [e,cond_true]
   rw [zi (by simp; omega),zwa _ (by omega),shr7 _ (by omega),Int.toNat_natCast]
   exact h1
theorem z5d {n:Nat} {l:List Int} {v:Int} (hn:20≤n) (hv:v<9223372036854775808) (hl:l.length+20≤140737488355328):f217 n (l,v)=some (l++num v):=by
 rw [y2f]
 unfold num
 split
 ·rename_i h
  have e:decide (v≥128)=false:=by simp; omega
  obtain ⟨m,rfl⟩:∃ m,n=m+1:=⟨n - 1,by omega⟩
  rw [iter,z8e]
  simp only [e,cond_false,Option.bind_some,Bo.then]
  rw [zi (by simp; omega)]
 ·rename_i h
  obtain ⟨k,rfl⟩:∃ k:Nat,v=k:=⟨v.toNat,by omega⟩
  obtain ⟨w,l',h1,h2,h3⟩:=zir (n:=n) (x:=(l,(k:Int))) 9 k (n - 10) l (by have:(128:Nat) ^ (9+1)=1180591620717411303424:=rfl; omega) (by omega)
  rw [show 9+1+(n - 10)=n by omega] at h1
  rw [h1]
  simp only [Option.bind_some,Bo.then]
  have hl':=congrArg List.length h2
  simp only [List.length_append,List.length_cons,List.length_nil] at hl'
  have:=zcb 9 k (by have:(128:Nat) ^ (9+1)=1180591620717411303424:=rfl; omega)
  rw [zi (by simp; omega),zem (by omega) (by omega),h2,Int.toNat_natCast]
theorem str1 (b:Int):zj [b]=zj [b]:=rfl
theorem y3i (v:Int) (hv:0≤v):v.tmod 128=((v.toNat % 128:Nat):Int):=by
 rw [Int.tmod_eq_emod_of_nonneg hv]; omega
theorem zpa {n:Nat}:∀ (f v m:Nat),v<128 ^ (f+1)→f<100→h200 n (f+1+m) (v:Int)=some (zj (numN v))
 | 0,v,m,h,hf=>by
  have e:decide ((v:Int)<128)=true:=by simp; omega
  rw [show 0+1+m=m+1 by omega,zdx,e,cond_true,z3a (by omega),zem (by omega) (by omega)]
 | f+1,v,m,h,hf=>by
  by_cases hv:v<128
  ·have e:decide ((v:Int)<128)=true:=by simp; omega
   rw [show f+1+1+m=(f+1+m)+1 by omega,zdx,e,cond_true,z3a hv,zem (by omega) (by omega)]
  ·have e:decide ((v:Int)<128)=false:=by simp; omega
   have hq:v / 128<128 ^ (f+1):=by rw [Nat.pow_succ] at h; omega
   have hl:=zcb f (v / 128) hq
   rw [show f+1+1+m=(f+1+m)+1 by omega,zdx,e,cond_false,shr7 _ (by omega),Int.toNat_natCast,zpa f (v / 128) m hq (by omega),y3i _ (by omega),zwa _ (by omega)]
   simp only [Option.bind_some]
   rw [zi (by rw [zl,zl,List.length_cons,List.length_nil]; omega),← z1b,zca hv]
   congr 3
   simp only [List.cons_append,List.nil_append,List.cons.injEq,and_true]
   omega
theorem z5c {n:Nat} {v:Int} (hn:20≤n) (hv:v<9223372036854775808):f200 n v=some (zj (num v)):=by
 show h200 n n v=_
 unfold num
 split
 ·rename_i h
  have e:decide (v<128)=true:=by simp; omega
  obtain ⟨m,hm⟩:∃ m,n=m+1:=⟨n - 1,by omega⟩
  rw [show h200 n n v=h200 n (m+1) v by rw [← hm],zdx,e,cond_true]
 ·obtain ⟨k,rfl⟩:∃ k:Nat,v=k:=⟨v.toNat,by omega⟩
  have:=zpa (n:=n) 9 k (n - 10) (by have:(128:Nat) ^ (9+1)=1180591620717411303424:=rfl; omega) (by omega)
  rw [show 9+1+(n - 10)=n by omega] at this
  rw [this,Int.toNat_natCast]
def low (v:Int) (k:Nat):List Int:=(List.range k).map fun i=>IntKind.u8.wrap (v.fdiv (2 ^ (8 * i)))
theorem z8v (v:Int) (k:Nat):(low v k).length=k:=by simp [low]
theorem zpg (v:Int) (k:Nat):Byt (low v k):=fun b hb=>by
 obtain ⟨i,_,rfl⟩:=List.mem_map.1 hb
 exact zhp _
theorem zxy (v:Int) (k:Nat):low v (k+1)=low v k++[IntKind.u8.wrap (v.fdiv (2 ^ (8 * k)))]:=by simp [low,List.range_succ]
theorem w8 {i:Nat} (h:i<8):IntKind.i64.wrap (8 * (i:Int))=((8 * i:Nat):Int):=by rw [zaa (by omega) (by omega)]; omega
theorem zff {v:Int} {k:Nat} (hk:k≤8) {l:List Int} {body:Int×List Int→Option (Bo (Int×List Int) (Int×List Int) Empty)}
  (hb:∀ (i:Nat) (m:List Int),i<k→m.length≤l.length+i→body ((i:Int),m)=some (.go (((i+1:Nat):Int),m++[IntKind.u8.wrap (v.fdiv (2 ^ (8 * i)))]))) (he:∀ m,body ((k:Int),m)=some (.out ((k:Int),m))) :
  ∀ (j i n:Nat),i+j=k→j<n→iter body n ((i:Int),l++low v i)=some (.out ((k:Int),l++low v k))
 | 0,i,n+1,h,hn=>by
  obtain rfl:i=k:=by omega
  rw [iter,he]
 | j+1,i,n+1,h,hn=>by
  rw [iter,hb i _ (by omega) (by rw [List.length_append,z8v]; omega),List.append_assoc,← zxy]
  exact zff hk hb he j (i+1) n (by omega) (by omega)
theorem zwj (v:Int) (i:Nat) (hi:i<8):v.fdiv (2 ^ min ((8 * i:Nat):Int).toNat IntKind.u64.bits)=v.fdiv (2 ^ (8 * i)):=by
 rw [Int.toNat_natCast,show min (8 * i) IntKind.u64.bits=8 * i from Nat.min_eq_left (by show 8 * i≤64; omega)]
theorem zi6 {n:Nat} {l:List Int} {v:Int} {k:Nat} (hk:k≤8) (hn:20≤n) (hl:l.length+20≤140737488355328):f219 n (l,v,(k:Int))=some (l++low v k):=by
 rw [y2h]
 have:=zff (v:=v) hk (l:=l) (body:=zi5 n (l,v,(k:Int)) ()) (fun i m hi hm=>by
  rw [zgr]
  have e:decide ((i:Int)<(k:Int))=true:=by simp; omega
  simp only [e,cond_true,w8 (show i<8 by omega),z6g (show i<9223372036854775806 by omega),zwj v i (by omega)]
  rw [zi (by omega),zi (by simp; omega)]) (fun m=>by
  rw [zgr]
  have e:decide ((k:Int)<(k:Int))=false:=by simp
  simp only [e,cond_false]) k 0 n (by omega) (by omega)
 have e0:low v 0=[]:=rfl
 rw [e0,List.append_nil] at this
 rw [show ((0:Nat):Int)=0 from rfl] at this
 rw [this]; rfl
theorem zi3 {n:Nat} {v:Int} {k:Nat} (hk:k≤8) (hn:20≤n):f201 n (v,(k:Int))=some (zj (low v k)):=by
 rw [y1w]
 have:=zff (v:=v) hk (l:=[]) (body:=zi2 n (v,(k:Int)) ()) (fun i m hi hm=>by
  rw [zgh]
  have e:decide ((i:Int)<(k:Int))=true:=by simp; omega
  have e2:IntKind.u64.wrap ((8 * i:Nat):Int)=((8 * i:Nat):Int):=z58 (by omega) (by omega)
  simp only [e,cond_true,w8 (show i<8 by omega),e2,z6g (show i<9223372036854775806 by omega),zwj v i (by omega)]
  rw [zi (by omega),zi (by simp at hm ⊢; omega)]) (fun m=>by
  rw [zgh]
  have e:decide ((k:Int)<(k:Int))=false:=by simp
  simp only [e,cond_false]) k 0 n (by omega) (by omega)
 have e0:low v 0=[]:=rfl
 rw [e0,List.append_nil] at this
 rw [show ((0:Nat):Int)=0 from rfl] at this
 rw [this]; rfl
def off (op:Int):List Nat:=match rowD op with
 | some r=>(bif r.d==0 then [] else [1])++((bif r.a==0 then [] else [2])++((bif r.b==0 then [] else [3])++((bif r.c==0 then [] else [4])++(bif r.n==0 then [] else [5]))))
 | none=>[]
def fv (i:Xd) (k:Nat):Int:=if k=1 then i.D_ else if k=2 then i.A_ else if k=3 then i.B_ else if k=4 then i.C_ else i.N_
theorem zy1 {op:Int} (h:∀ k:Int,1≤k→k≤37→(op==k)=false):off op=[]:=by simp only [off,z3d h]
theorem y77 (op:Int):∀ k ∈ off op,1≤k∧k≤5:=by
 unfold off
 split
 ·rename_i r _
  intro k hk
  have one:∀ (b:Bool) (j:Nat),k ∈ (bif b then [] else [j])→k=j:=fun b j h=>by
   cases b
   ·exact List.mem_singleton.1 h
   ·exact nomatch h
  simp only [List.mem_append] at hk
  rcases hk with h | h | h | h | h <;> have:=one _ _ h <;> omega
 ·simp
theorem zpk (op:Int):(off op).length≤5:=by
 unfold off
 split
 ·rename_i r _
  cases r.d==0 <;> cases r.a==0 <;> cases r.b==0 <;> cases r.c==0 <;> cases r.n==0 <;> simp
 ·simp
theorem zxi (n:Nat) (x:Ycb):f220 n x=(zrt n (0,x)).map fun l=>(l.map (·.off),x):=rfl
theorem y2j (m:Nat) (x:Ycb):f220 (m+4) x=some (off x.1,x):=by
 obtain ⟨op,d,a,b,c,N,bits⟩:=x
 rcases z5q op with (rfl | rfl | rfl | rfl | rfl | rfl | rfl | rfl | rfl | rfl | rfl | rfl | rfl | rfl | rfl | rfl | rfl | rfl | rfl | rfl | rfl | rfl | rfl | rfl | rfl | rfl | rfl | rfl | rfl | rfl | rfl | rfl | rfl | rfl | rfl | rfl | rfl) | h
 iterate 37 (· kernel_rfl)
 rw [zxi,zru,zl2,zqc,y2c]
 have hs:sets ⟨op,d,a,b,c,N,bits⟩=false:=by simp only [sets,z3d h]
 have hr:z1o ⟨op,d,a,b,c,N,bits⟩=[]:=by simp only [z1o,z3d h]
 simp only [hs,hr,zy1 h,h 2 (by decide) (by decide),h 29 (by decide) (by decide),h 30 (by decide) (by decide),h 31 (by decide) (by decide),h 32 (by decide) (by decide),h 33 (by decide) (by decide),h 36 (by decide) (by decide),cond_false,Option.bind_some,orRet_inl]
 rfl
def typB (t:Xb):List Int:=IntKind.u8.wrap t.Kind_::(bif t.Kind_==3 then num t.Param_ else [])
def fldB (i:Xd):List Int:=(off i.Op_).flatMap fun k=>num (fv i k)
def z3z (i:Xd):List Int:=IntKind.u8.wrap i.Op_::(fldB i++(bif i.Op_==1 then low (IntKind.u64.wrap i.Bits_) 4 else []))
abbrev LIM:Int:=9223372036854775808
structure z4t (i:Xd):Prop where
 d:i.D_<LIM
 a:i.A_<LIM
 b:i.B_<LIM
 c:i.C_<LIM
 n:i.N_<LIM
theorem z4t.fv {i:Xd} (h:z4t i) (k:Nat):fv i k<LIM:=by
 unfold Loom.fv
 split
 ·exact h.d
 ·split
  ·exact h.a
  ·split
   ·exact h.b
   ·split
    ·exact h.c
    ·exact h.n
theorem z77 {t:Xb} (h:t.Param_<LIM):(typB t).length≤11:=by
 unfold typB
 cases t.Kind_==3
 ·simp
 ·have:=z2k h; simp; omega
theorem z4n {α:Type} (f:α→List Int) (K:Nat):∀ (l:List α),(∀ x ∈ l,(f x).length≤K)→(l.flatMap f).length≤K * l.length
 | [],_=>by simp
 | x::l,h=>by
  rw [List.flatMap_cons,List.length_append,List.length_cons,Nat.mul_succ]
  have:=h x (by simp)
  have:=z4n f K l fun y hy=>h y (by simp [hy])
  omega
theorem zlt {i:Xd} (h:z4t i):(fldB i).length≤50:=by
 have:=z4n (fun k=>num (fv i k)) 10 (off i.Op_) fun k _=>z2k (h.fv k)
 have:=zpk i.Op_
 unfold fldB; omega
theorem zd7 {i:Xd} (h:z4t i):(z3z i).length≤55:=by
 have:=zlt h
 unfold z3z
 cases i.Op_==1 <;> simp [z8v] <;> omega
theorem z5p {α:Type} {f:α→List Int} {l:List α} (h:∀ x ∈ l,Byt (f x)):Byt (l.flatMap f):=fun b hb=>by
 obtain ⟨x,hx,hb⟩:=List.mem_flatMap.1 hb
 exact h x hx b hb
theorem Byt.app {a b:List Int} (ha:Byt a) (hb:Byt b):Byt (a++b):=fun x hx=>(List.mem_append.1 hx).elim (ha x) (hb x)
theorem Byt.cons {a:Int} {b:List Int} (ha:0≤a∧a<256) (hb:Byt b):Byt (a::b):=fun x hx=>(List.mem_cons.1 hx).elim (fun e=>e ▸ ha) (hb x)
theorem Byt.nil:Byt []:=fun _ h=>nomatch h
theorem zmx {t:Xb} (h:t.Param_<LIM):Byt (typB t):=by
 refine Byt.cons (zhp _) ?_
 cases t.Kind_==3
 ·exact Byt.nil
 ·exact z5e h
theorem zw0 {i:Xd} (h:z4t i):Byt (z3z i):=by
 refine Byt.cons (zhp _) (Byt.app (z5p fun k _=>z5e (h.fv k)) ?_)
 cases i.Op_==1
 ·exact Byt.nil
 ·exact zpg _ _
abbrev MAXB:Nat:=140737488355328
theorem znm {n:Nat} {l:List Int} {t:Xb} (hn:20≤n) (ht:t.Param_<LIM) (hl:l.length+30≤MAXB):f218 n (l,t)=some (l++typB t):=by
 have hl:l.length+30≤140737488355328:=hl
 rw [y2g,zi (by simp; omega)]
 unfold typB
 cases t.Kind_==3 with
 | false=>rfl
 | true =>
  simp only [cond_true]
  rw [z5d hn ht (by simp; omega)]
  simp
theorem znl {n:Nat} {t:Xb} (hn:20≤n) (ht:t.Param_<LIM):f202 n t=some (zj (typB t)):=by
 rw [y1x]
 unfold typB
 cases t.Kind_==3 with
 | false=>rfl
 | true =>
  simp only [cond_true]
  rw [z5c hn ht]
  have:=z2k ht
  simp only [Option.bind_some]
  rw [zi (by rw [zl,zl]; simp; omega),← z1b]
  rfl
theorem y37 (i:Xd) {k:Nat} (h:1≤k∧k≤5):z3i [some i.Op_,some i.D_,some i.A_,some i.B_,some i.C_,some i.N_,none] k=some (fv i k):=by
 have:k=1∨k=2∨k=3∨k=4∨k=5:=by omega
 rcases this with rfl | rfl | rfl | rfl | rfl <;> rfl
theorem z3b {α:Type} (f:α→List Int):∀ (l:List α) (a:List Int),l.foldl (fun s x=>s++f x) a=a++l.flatMap f
 | [],a=>by simp
 | x::l,a=>by rw [List.foldl_cons,z3b f l,List.flatMap_cons,List.append_assoc]
theorem zl3 {n:Nat} {x:Xe} {v4:Unit} {q4:Int×List Int} {i:Xd} {l:List Int} (hn:20≤n) (hi:z4t i) (hl:l.length+100≤MAXB) :
  iter (ze6 n x v4 q4 (off i.Op_,((off i.Op_).length:Int),i.Op_,i.D_,i.A_,i.B_,i.C_,i.N_,i.Bits_)) n ((0:Int),l)=some (.out (((off i.Op_).length:Int),l++fldB i)):=by
 have h5:=zpk i.Op_
 have hl:l.length+100≤140737488355328:=hl
 have:=(z2t (off i.Op_) (by omega) (fun (j:Int) (s:List Int)=>(j,s)) (fun j s=>s.length≤l.length+10 * j) (fun s k=>s++num (fv i k)) (fun s=>(((off i.Op_).length:Int),s)) (ze6 n x v4 q4 (off i.Op_,((off i.Op_).length:Int),i.Op_,i.D_,i.A_,i.B_,i.C_,i.N_,i.Bits_)) (R:=Empty) (fun j hj s hs=>by
  have hb:=z2k (hi.fv ((off i.Op_)[j]))
  refine ⟨?_,by rw [List.length_append]; omega⟩
  rw [zgq]
  have e:decide ((j:Int)<((off i.Op_).length:Int))=true:=by simp; omega
  simp only [e,cond_true,Int.toNat_natCast,List.getElem?_eq_getElem hj]
  rw [zi (by omega)]
  simp only [Option.bind_some,y37 i (y77 i.Op_ _ (List.getElem_mem hj))]
  rw [z5d hn (hi.fv _) (by omega)]
  rfl) (fun s _=>by
  rw [zgq]
  have e:decide (((off i.Op_).length:Int)<((off i.Op_).length:Int))=false:=by simp
  simp only [e,cond_false]) (off i.Op_).length 0 l n (by omega) (by omega) (by omega)).1
 rw [show ((0:Nat):Int)=0 from rfl] at this
 rw [this,List.drop_zero,z3b]
 rfl
theorem z9y {s:Int} (h:z38 s) (h6:s ≠ 6):(((z45 s).toNat:Int) != 45) = !(s==0):=by
 unfold z38 at h
 have:s=0∨s=1∨s=2∨s=3∨s=4∨s=5∨s=7∨s=8:=by omega
 rcases this with rfl | rfl | rfl | rfl | rfl | rfl | rfl | rfl <;> rfl
theorem zqr {s:Int} (h:s=0∨s=1∨s=3∨s=4∨s=2):(((z6b s).toNat:Int) != 45) = !(s==0):=by
 rcases h with rfl | rfl | rfl | rfl | rfl <;> rfl
theorem z7o {n:Nat} {i:Xd} {R:ByteArray} {j:Nat} {s v:Int} {l:List Int} (hn:20≤n) (hj:j<5) (hR:R.size=5) (hb:(zc R (j:Int) != 45) = !(s==0)) (hv:([i.D_,i.A_,i.B_,i.C_,i.N_]:List Int)[j]? = some v) (hv2:v<LIM) (hl:l.length≤1000) :
  z66 n i R (zj l,(j:Int))=some (.go (zj (l++(bif s==0 then [] else num v)),((j+1:Nat):Int))):=by
 rw [zbl]
 have e1:decide ((j:Int)<(R.size:Int))=true:=by simp; omega
 simp only [e1,cond_true,hb,z6g (show j<9223372036854775806 by omega),Int.toNat_natCast,hv]
 rw [zi (by omega)]
 cases s==0 with
 | true=>simp
 | false =>
  have:=z2k hv2
  rw [zi (by simp; omega)]
  simp only [Bool.not_false,cond_true,Option.bind_some,cond_false]
  rw [z5c hn hv2]
  simp only [Option.bind_some]
  rw [zi (by rw [zl,zl]; omega),← z1b]
theorem y63 {i:Xd} {r:z3m} (h:rowD i.Op_=some r):fldB i=(bif r.d==0 then [] else num i.D_)++((bif r.a==0 then [] else num i.A_)++((bif r.b==0 then [] else num i.B_)++((bif r.c==0 then [] else num i.C_)++(bif r.n==0 then [] else num i.N_)))):=by
 simp only [fldB,off,h,List.flatMap_append]
 have one:∀ (b:Bool) (k:Nat) (v:Int),fv i k=v→(bif b then [] else [k]:List Nat).flatMap (fun k=>num (fv i k))=bif b then [] else num v:=fun b k v hv=>by
  cases b
  ·simp [hv]
  ·rfl
 rw [one _ 1 _ rfl,one _ 2 _ rfl,one _ 3 _ rfl,one _ 4 _ rfl,one _ 5 _ rfl]
 rfl
theorem row6 {op:Int} {r:z3m} (h:rowD op=some r):r.d ≠ 6∧r.a ≠ 6∧r.b ≠ 6∧r.c ≠ 6:=by
 obtain ⟨⟨h1,h2,h3,h4⟩,_⟩:=zej h
 unfold z38 at h1 h2 h3 h4
 omega
theorem y1z {n:Nat} {i:Xd} (hn:20≤n) (hi:z4t i):f203 n i=some (zj (z3z i)):=by
 have tail:∀ l:List Int,l.length≤1000→(bif i.Op_==1 then ((f201 n (IntKind.u64.wrap i.Bits_,4)).bind fun y5=>need ((zj l).size+y5.size≤9223372036854775807) (some (zj l++y5))) else some (zj l))=some (zj (l++(bif i.Op_==1 then low (IntKind.u64.wrap i.Bits_) 4 else []))):=fun l hl=>by
  cases i.Op_==1 with
  | false=>simp
  | true =>
   have:=zi3 (n:=n) (v:=IntKind.u64.wrap i.Bits_) (k:=4) (by omega) hn
   rw [show ((4:Nat):Int)=4 from rfl] at this
   rw [cond_true,cond_true,this]
   simp only [Option.bind_some]
   rw [zi (by rw [zl,zl,z8v]; omega),← z1b]
 rw [y1y,zgs]
 cases hr:rowD i.Op_ with
 | none =>
  obtain ⟨m,hm⟩:∃ m,n=m+1:=⟨n - 1,by omega⟩
  have e:iter (z66 n i ⟨#[]⟩) n (zj [IntKind.u8.wrap i.Op_],(0:Int))=some (.out (zj [IntKind.u8.wrap i.Op_],(0:Int))):=by
   conv=>lhs; rw [hm]
   rw [iter,zbl]; rfl
  simp only [Option.bind_some,e,Bo.then]
  refine (tail [IntKind.u8.wrap i.Op_] (by simp)).trans ?_
  have:fldB i=[]:=by simp only [fldB,off,hr]; rfl
  unfold z3z
  rw [this]; rfl
 | some r =>
  obtain ⟨⟨s1,s2,s3,s4⟩,sN⟩:=zej hr
  obtain ⟨t1,t2,t3,t4⟩:=row6 hr
  have sN':r.n=0∨r.n=1∨r.n=3∨r.n=4∨r.n=2:=by rcases sN with h | h
                                             ·omega
                                             ·omega
  have L:∀ (b:Bool) (v:Int),v<LIM→(bif b then [] else num v:List Int).length≤10:=fun b v hv=>by
   cases b
   ·exact z2k hv
   ·simp
  have l1:=L (r.d==0) _ hi.d
  have l2:=L (r.a==0) _ hi.a
  have l3:=L (r.b==0) _ hi.b
  have l4:=L (r.c==0) _ hi.c
  have q0:=z7o (n:=n) (i:=i) (R:=z2d r) (j:=0) (s:=r.d) (v:=i.D_) (l:=[IntKind.u8.wrap i.Op_]) hn (by omega) rfl (z9y s1 t1) rfl hi.d (by simp)
  have q1:=z7o (n:=n) (i:=i) (R:=z2d r) (j:=1) (s:=r.a) (v:=i.A_) (l:=[IntKind.u8.wrap i.Op_]++(bif r.d==0 then [] else num i.D_)) hn (by omega) rfl (z9y s2 t2) rfl hi.a (by simp; omega)
  have q2:=z7o (n:=n) (i:=i) (R:=z2d r) (j:=2) (s:=r.b) (v:=i.B_) (l:=[IntKind.u8.wrap i.Op_]++(bif r.d==0 then [] else num i.D_)++(bif r.a==0 then [] else num i.A_)) hn (by omega) rfl (z9y s3 t3) rfl hi.b (by simp; omega)
  have q3:=z7o (n:=n) (i:=i) (R:=z2d r) (j:=3) (s:=r.c) (v:=i.C_) (l:=[IntKind.u8.wrap i.Op_]++(bif r.d==0 then [] else num i.D_)++(bif r.a==0 then [] else num i.A_)++(bif r.b==0 then [] else num i.B_)) hn (by omega) rfl (z9y s4 t4) rfl hi.c (by simp; omega)
  have q4:=z7o (n:=n) (i:=i) (R:=z2d r) (j:=4) (s:=r.n) (v:=i.N_) (l:=[IntKind.u8.wrap i.Op_]++(bif r.d==0 then [] else num i.D_)++(bif r.a==0 then [] else num i.A_)++(bif r.b==0 then [] else num i.B_)++(bif r.c==0 then [] else num i.C_)) hn (by omega) rfl (zqr sN') rfl hi.n (by simp; omega)
  have qe:∀ l:ByteArray,z66 n i (z2d r) (l,((5:Nat):Int))=some (.out (l,5)):=fun l=>by rw [zbl]; rfl
  have e:iter (z66 n i (z2d r)) n (zj [IntKind.u8.wrap i.Op_],(0:Int))=some (.out (zj ([IntKind.u8.wrap i.Op_]++(bif r.d==0 then [] else num i.D_)++(bif r.a==0 then [] else num i.A_)++(bif r.b==0 then [] else num i.B_)++(bif r.c==0 then [] else num i.C_)++(bif r.n==0 then [] else num i.N_)),(5:Int))):=by
   obtain ⟨m,hm⟩:∃ m,n=m+6:=⟨n - 6,by omega⟩
   conv=>lhs; rw [show iter (z66 n i (z2d r)) n=iter (z66 n i (z2d r)) (m+6) from congrArg _ hm]
   rw [show ((0:Nat):Int)=0 from rfl] at q0
   simp only [iter,q0,q1,q2,q3,q4,qe]
  simp only [Option.bind_some,e,Bo.then]
  have l5:=L (r.n==0) _ hi.n
  refine (tail _ (by simp; omega)).trans ?_
  unfold z3z
  rw [y63 hr]
  simp
def parB (p:Xa):List Int:=IntKind.u8.wrap p.Kind_::(num (p.Name_.size:Int)++(bytesOf p.Name_++num p.Len_))
def z4s (s:Xc):List Int:=(bif s.Keep_ then 1 else 0)::(typB s.Type_++(bif s.Type_.Kind_==2 then num s.Int_ else low (IntKind.u64.wrap s.Bits_) 4))
def z79 (c:Xe):List Int :=
 [108,116,104,49]++num (c.Sign_.length:Int)++c.Sign_.flatMap parB++num (c.Regs_.length:Int)++c.Regs_.flatMap typB++num (c.Slots_.length:Int)++c.Slots_.flatMap z4s++num (c.List_.length:Int)++c.List_.flatMap z3z
def bytC (c:Xe):List Int:=z79 c++low (crcL (z79 c)) 8
structure zpy (p:Xa):Prop where
 name:p.Name_.size≤64
 len:p.Len_<LIM
structure zkm (x:Xc):Prop where
 par:x.Type_.Param_<LIM
 int:x.Int_<LIM
structure z3l (c:Xe):Prop where
 sl:c.Sign_.length≤64
 rl:c.Regs_.length≤16384
 ol:c.Slots_.length≤4096
 ll:c.List_.length≤32768
 s:∀ p ∈ c.Sign_,zpy p
 r:∀ t ∈ c.Regs_,t.Param_<LIM
 o:∀ x ∈ c.Slots_,zkm x
 l:∀ i ∈ c.List_,z4t i
theorem z1t {k:Nat} (h:k≤1000000):(k:Int)<LIM:=by show (k:Int)<9223372036854775808; omega
theorem zfh {p:Xa} (h:zpy p):(parB p).length≤85:=by
 have h1:=z2k (z1t (show p.Name_.size≤1000000 by have:=h.name; omega))
 have h2:=z2k h.len
 have h3:=z5m p.Name_
 have:=h.name
 simp [parB]; omega
theorem zdh {x:Xc} (h:zkm x):(z4s x).length≤25:=by
 have h1:=z77 h.par
 have h2:=z2k h.int
 unfold z4s
 cases x.Type_.Kind_==2 <;> simp [z8v] <;> omega
theorem zy2 {p:Xa} (h:zpy p):Byt (parB p) :=
 Byt.cons (zhp _) (Byt.app (z5e (z1t (show p.Name_.size≤1000000 by have:=h.name; omega))) (Byt.app (zad _) (z5e h.len)))
theorem zwl {x:Xc} (h:zkm x):Byt (z4s x):=by
 refine Byt.cons (by cases x.Keep_ <;> simp) (Byt.app (zmx h.par) ?_)
 cases x.Type_.Kind_==2
 ·exact zpg _ _
 ·exact z5e h.int
theorem zim {c:Xe} (h:z3l c):Byt (z79 c):=by
 have k1:=z1t (show c.Sign_.length≤1000000 by have:=h.sl; omega)
 have k2:=z1t (show c.Regs_.length≤1000000 by have:=h.rl; omega)
 have k3:=z1t (show c.Slots_.length≤1000000 by have:=h.ol; omega)
 have k4:=z1t (show c.List_.length≤1000000 by have:=h.ll; omega)
 have hm:Byt [108,116,104,49]:=fun b hb=>by simp at hb; omega
 exact (((((((hm.app (z5e k1)).app (z5p fun p hp=>zy2 (h.s p hp))).app (z5e k2)).app (z5p fun t ht=>zmx (h.r t ht))).app (z5e k3)).app (z5p fun x hx=>zwl (h.o x hx))).app (z5e k4)).app (z5p fun i hi=>zw0 (h.l i hi))
theorem yak {α:Type} (l:List α):l.drop 0=l:=rfl
theorem y4c {n:Nat} {c:Xe} {l:List Int} (hn:100000<n) (h:z3l c) (hl:l.length≤10000000):iter (ze2 n c ()) n ((0:Int),l)=some (.out ((c.Sign_.length:Int),l++c.Sign_.flatMap parB)):=by
 have hsl:=h.sl
 have:=(z2t c.Sign_ (by omega) (fun (j:Int) (s:List Int)=>(j,s)) (fun j s=>s.length≤l.length+85 * j) (fun s p=>s++parB p) (fun s=>((c.Sign_.length:Int),s)) (ze2 n c ()) (R:=Empty) (fun j hj s hs=>by
  have hp:=h.s _ (List.getElem_mem hj)
  have hb:=zfh hp
  refine ⟨?_,by rw [List.length_append]; omega⟩
  have k1:=z1t (show c.Sign_[j].Name_.size≤1000000 by have:=hp.name; omega)
  have k2:=z2k k1
  have k3:=z5m c.Sign_[j].Name_
  have k4:=hp.name
  rw [zgm]
  have e:decide ((j:Int)<(c.Sign_.length:Int))=true:=by simp; omega
  simp only [e,cond_true,z6n hj,Option.bind_some]
  rw [zi (by simp; omega),z5d (by omega) k1 (by simp; omega)]
  simp only [Option.bind_some]
  rw [zi (by simp; omega),z5d (by omega) hp.len (by simp; omega)]
  simp [parB]) (fun s _=>by
  rw [zgm]
  have e:decide ((c.Sign_.length:Int)<(c.Sign_.length:Int))=false:=by simp
  simp only [e,cond_false]) c.Sign_.length 0 l n (by omega) (by omega) (by omega)).1
 rw [show ((0:Nat):Int)=0 from rfl] at this
 rw [this,List.drop_zero,z3b]
theorem y4b {n:Nat} {c:Xe} {l:List Int} (hn:100000<n) (h:z3l c) (hl:l.length≤10000000):iter (ze3 n c ()) n ((0:Int),l)=some (.out ((c.Regs_.length:Int),l++c.Regs_.flatMap typB)):=by
 have hsl:=h.rl
 have:=(z2t c.Regs_ (by omega) (fun (j:Int) (s:List Int)=>(j,s)) (fun j s=>s.length≤l.length+11 * j) (fun s p=>s++typB p) (fun s=>((c.Regs_.length:Int),s)) (ze3 n c ()) (R:=Empty) (fun j hj s hs=>by
  have hp:=h.r _ (List.getElem_mem hj)
  have hb:=z77 hp
  refine ⟨?_,by rw [List.length_append]; omega⟩
  rw [zgn]
  have e:decide ((j:Int)<(c.Regs_.length:Int))=true:=by simp; omega
  simp only [e,cond_true,z6n hj,Option.bind_some]
  rw [znm (by omega) hp (by show _≤140737488355328; omega)]
  rfl) (fun s _=>by
  rw [zgn]
  have e:decide ((c.Regs_.length:Int)<(c.Regs_.length:Int))=false:=by simp
  simp only [e,cond_false]) c.Regs_.length 0 l n (by omega) (by omega) (by omega)).1
 rw [show ((0:Nat):Int)=0 from rfl] at this
 rw [this,List.drop_zero,z3b]
theorem y4a {n:Nat} {c:Xe} {l:List Int} (hn:100000<n) (h:z3l c) (hl:l.length≤10000000):iter (ze4 n c ()) n ((0:Int),l)=some (.out ((c.Slots_.length:Int),l++c.Slots_.flatMap z4s)):=by
 have hsl:=h.ol
 have:=(z2t c.Slots_ (by omega) (fun (j:Int) (s:List Int)=>(j,s)) (fun j s=>s.length≤l.length+25 * j) (fun s p=>s++z4s p) (fun s=>((c.Slots_.length:Int),s)) (ze4 n c ()) (R:=Empty) (fun j hj s hs=>by
  have hp:=h.o _ (List.getElem_mem hj)
  have hb:=zdh hp
  have ht:=z77 hp.par
  refine ⟨?_,by rw [List.length_append]; omega⟩
  rw [zgo]
  have e:decide ((j:Int)<(c.Slots_.length:Int))=true:=by simp; omega
  have eT:(⟨c.Slots_[j].Type_.Kind_,c.Slots_[j].Type_.Param_⟩:Xb)=c.Slots_[j].Type_:=rfl
  have fin:∀ k:Int,(need ((s.length+([k]:List Int).length) * 1≤140737488355328) ((f218 n ((s++([k]:List Int)),(⟨c.Slots_[j].Type_.Kind_,c.Slots_[j].Type_.Param_⟩:Xb))).bind fun y13=>bif (c.Slots_[j].Type_.Kind_==2) then ((f217 n (y13,c.Slots_[j].Int_)).bind fun y14=>some (.go ((IntKind.i64.wrap ((j:Int)+1)),y14))) else ((f219 n (y13,(IntKind.u64.wrap c.Slots_[j].Bits_),4)).bind fun y15=>some (.go ((IntKind.i64.wrap ((j:Int)+1)),y15)))):Option (Bo (Int×List Int) (Int×List Int) Empty)) =
    some (.go (IntKind.i64.wrap ((j:Int)+1),s++(k::(typB c.Slots_[j].Type_++(bif c.Slots_[j].Type_.Kind_==2 then num c.Slots_[j].Int_ else low (IntKind.u64.wrap c.Slots_[j].Bits_) 4))))):=fun k=>by
   rw [zi (by simp; omega),eT,znm (by omega) hp.par (by show _≤140737488355328; simp; omega)]
   simp only [Option.bind_some]
   cases c.Slots_[j].Type_.Kind_==2 with
   | true =>
    simp only [cond_true]
    rw [z5d (by omega) hp.int (by simp; omega)]
    simp
   | false =>
    simp only [cond_false]
    have:=zi6 (n:=n) (l:=s++[k]++typB c.Slots_[j].Type_) (v:=IntKind.u64.wrap c.Slots_[j].Bits_) (k:=4) (by omega) (by omega) (by simp; omega)
    rw [show ((4:Nat):Int)=4 from rfl] at this
    rw [this]
    simp
  simp only [e,cond_true,z6n hj,Option.bind_some]
  unfold z4s
  cases c.Slots_[j].Keep_ with
  | true =>
   simp only [cond_true,Option.bind_some,orRet_inl]
   exact fin 1
  | false =>
   simp only [cond_false,Option.bind_some,orRet_inl]
   exact fin 0) (fun s _=>by
  rw [zgo]
  have e:decide ((c.Slots_.length:Int)<(c.Slots_.length:Int))=false:=by simp
  simp only [e,cond_false]) c.Slots_.length 0 l n (by omega) (by omega) (by omega)).1
 rw [show ((0:Nat):Int)=0 from rfl] at this
 rw [this,List.drop_zero,z3b]
theorem y49 {n:Nat} {c:Xe} {l:List Int} (hn:100000<n) (h:z3l c) (hl:l.length≤10000000):iter (ze5 n c ()) n ((0:Int),l)=some (.out ((c.List_.length:Int),l++c.List_.flatMap z3z)):=by
 have hsl:=h.ll
 obtain ⟨m,hm⟩:∃ m,n=m+4:=⟨n - 4,by omega⟩
 have:=(z2t c.List_ (by omega) (fun (j:Int) (s:List Int)=>(j,s)) (fun j s=>s.length≤l.length+55 * j) (fun s p=>s++z3z p) (fun s=>((c.List_.length:Int),s)) (ze5 n c ()) (R:=Empty) (fun j hj s hs=>by
  have hp:=h.l _ (List.getElem_mem hj)
  have hb:=zd7 hp
  have hf:=zlt hp
  refine ⟨?_,by rw [List.length_append]; omega⟩
  rw [zgp]
  have e:decide ((j:Int)<(c.List_.length:Int))=true:=by simp; omega
  have e2:∀ x,f220 n x=some (off x.1,x):=fun x=>by rw [hm]; exact y2j m x
  simp only [e,cond_true,z6n hj,Option.bind_some,e2]
  rw [zi (by simp; omega),zl3 (by omega) hp (by show _≤140737488355328; simp; omega)]
  simp only [Option.bind_some,Bo.then]
  unfold z3z
  cases c.List_[j].Op_==1 with
  | true =>
   simp only [cond_true]
   have:=zi6 (n:=n) (l:=s++[IntKind.u8.wrap c.List_[j].Op_]++fldB c.List_[j]) (v:=IntKind.u64.wrap c.List_[j].Bits_) (k:=4) (by omega) (by omega) (by simp; omega)
   rw [show ((4:Nat):Int)=4 from rfl] at this
   rw [this]
   simp
  | false=>simp) (fun s _=>by
  rw [zgp]
  have e:decide ((c.List_.length:Int)<(c.List_.length:Int))=false:=by simp
  simp only [e,cond_false]) c.List_.length 0 l n (by omega) (by omega) (by omega)).1
 rw [show ((0:Nat):Int)=0 from rfl] at this
 rw [this,List.drop_zero,z3b]
theorem y48 {n:Nat} {c:Xe} {l:List Int} (hn:100000<n) (h:z3l c) (hl:l.length≤10000000):iter (zdy n c ()) n (zj l,(0:Int))=some (.out (zj (l++c.Sign_.flatMap parB),(c.Sign_.length:Int))):=by
 have hsl:=h.sl
 have:=(z2t c.Sign_ (by omega) (fun (j:Int) (s:List Int)=>(zj s,j)) (fun j s=>s.length≤l.length+85 * j) (fun s p=>s++parB p) (fun s=>(zj s,(c.Sign_.length:Int))) (zdy n c ()) (R:=Empty) (fun j hj s hs=>by
  have hp:=h.s _ (List.getElem_mem hj)
  have hb:=zfh hp
  refine ⟨?_,by rw [List.length_append]; omega⟩
  have k1:=z1t (show c.Sign_[j].Name_.size≤1000000 by have:=hp.name; omega)
  have k2:=z2k k1
  have k5:=z2k hp.len
  have k4:=hp.name
  rw [zgi]
  have e:decide ((j:Int)<(c.Sign_.length:Int))=true:=by simp; omega
  simp only [e,cond_true,z6n hj,Option.bind_some,z5c (show 20≤n by omega) k1,z5c (show 20≤n by omega) hp.len]
  have eN:c.Sign_[j].Name_=zj (bytesOf c.Sign_[j].Name_):=(z87 _).symm
  have k3:=z5m c.Sign_[j].Name_
  rw [zi (by rw [zl,zl]; simp; omega),← z1b,zi (by rw [zl,zl]; simp; omega),← z1b,zi (by rw [zl]; simp; omega)]
  generalize hN:c.Sign_[j].Name_=N at *
  have eS:zj (s++[IntKind.u8.wrap c.Sign_[j].Kind_]++num (N.size:Int))++N=zj (s++[IntKind.u8.wrap c.Sign_[j].Kind_]++num (N.size:Int)++bytesOf N):=by
   conv=>lhs; rw [eN]
   rw [← z1b,← eN]
  rw [eS,zi (by rw [zl,zl]; simp; omega),← z1b]
  simp [parB,hN]) (fun s _=>by
  rw [zgi]
  have e:decide ((c.Sign_.length:Int)<(c.Sign_.length:Int))=false:=by simp
  simp only [e,cond_false]) c.Sign_.length 0 l n (by omega) (by omega) (by omega)).1
 rw [show ((0:Nat):Int)=0 from rfl] at this
 rw [this,List.drop_zero,z3b]
theorem y47 {n:Nat} {c:Xe} {l:List Int} (hn:100000<n) (h:z3l c) (hl:l.length≤10000000):iter (zdz n c ()) n (zj l,(0:Int))=some (.out (zj (l++c.Regs_.flatMap typB),(c.Regs_.length:Int))):=by
 have hsl:=h.rl
 have:=(z2t c.Regs_ (by omega) (fun (j:Int) (s:List Int)=>(zj s,j)) (fun j s=>s.length≤l.length+11 * j) (fun s p=>s++typB p) (fun s=>(zj s,(c.Regs_.length:Int))) (zdz n c ()) (R:=Empty) (fun j hj s hs=>by
  have hp:=h.r _ (List.getElem_mem hj)
  have hb:=z77 hp
  refine ⟨?_,by rw [List.length_append]; omega⟩
  rw [zgj]
  have e:decide ((j:Int)<(c.Regs_.length:Int))=true:=by simp; omega
  simp only [e,cond_true,z6n hj,Option.bind_some,znl (show 20≤n by omega) hp]
  rw [zi (by rw [zl,zl]; omega),← z1b]) (fun s _=>by
  rw [zgj]
  have e:decide ((c.Regs_.length:Int)<(c.Regs_.length:Int))=false:=by simp
  simp only [e,cond_false]) c.Regs_.length 0 l n (by omega) (by omega) (by omega)).1
 rw [show ((0:Nat):Int)=0 from rfl] at this
 rw [this,List.drop_zero,z3b]
theorem y45 {n:Nat} {c:Xe} {l:List Int} (hn:100000<n) (h:z3l c) (hl:l.length≤10000000):iter (ze1 n c ()) n (zj l,(0:Int))=some (.out (zj (l++c.List_.flatMap z3z),(c.List_.length:Int))):=by
 have hsl:=h.ll
 have:=(z2t c.List_ (by omega) (fun (j:Int) (s:List Int)=>(zj s,j)) (fun j s=>s.length≤l.length+55 * j) (fun s p=>s++z3z p) (fun s=>(zj s,(c.List_.length:Int))) (ze1 n c ()) (R:=Empty) (fun j hj s hs=>by
  have hp:=h.l _ (List.getElem_mem hj)
  have hb:=zd7 hp
  refine ⟨?_,by rw [List.length_append]; omega⟩
  rw [zgl]
  have e:decide ((j:Int)<(c.List_.length:Int))=true:=by simp; omega
  simp only [e,cond_true,z6n hj,Option.bind_some,y1z (show 20≤n by omega) hp]
  rw [zi (by rw [zl,zl]; omega),← z1b]) (fun s _=>by
  rw [zgl]
  have e:decide ((c.List_.length:Int)<(c.List_.length:Int))=false:=by simp
  simp only [e,cond_false]) c.List_.length 0 l n (by omega) (by omega) (by omega)).1
 rw [show ((0:Nat):Int)=0 from rfl] at this
 rw [this,List.drop_zero,z3b]
theorem y46 {n:Nat} {c:Xe} {l:List Int} (hn:100000<n) (h:z3l c) (hl:l.length≤10000000):iter (ze0 n c ()) n (zj l,(0:Int))=some (.out (zj (l++c.Slots_.flatMap z4s),(c.Slots_.length:Int))):=by
 have hsl:=h.ol
 have:=(z2t c.Slots_ (by omega) (fun (j:Int) (s:List Int)=>(zj s,j)) (fun j s=>s.length≤l.length+25 * j) (fun s p=>s++z4s p) (fun s=>(zj s,(c.Slots_.length:Int))) (ze0 n c ()) (R:=Empty) (fun j hj s hs=>by
  have hp:=h.o _ (List.getElem_mem hj)
  have hb:=zdh hp
  have ht:=z77 hp.par
  have hi:=z2k hp.int
  refine ⟨?_,by rw [List.length_append]; omega⟩
  rw [zgk]
  have e:decide ((j:Int)<(c.Slots_.length:Int))=true:=by simp; omega
  have eT:(⟨c.Slots_[j].Type_.Kind_,c.Slots_[j].Type_.Param_⟩:Xb)=c.Slots_[j].Type_:=rfl
  have hL:f201 n (IntKind.u64.wrap c.Slots_[j].Bits_,4)=some (zj (low (IntKind.u64.wrap c.Slots_[j].Bits_) 4)):=zi3 (k:=4) (by omega) (by omega)
  have fin:∀ (k:Int) (K:ByteArray),K=zj [k]→(need ((zj s).size+K.size≤9223372036854775807) ((f202 n (⟨c.Slots_[j].Type_.Kind_,c.Slots_[j].Type_.Param_⟩:Xb)).bind fun y13=>need ((zj s++K).size+y13.size≤9223372036854775807) (bif (c.Slots_[j].Type_.Kind_==2) then ((f200 n c.Slots_[j].Int_).bind fun y14=>need (((zj s++K)++y13).size+y14.size≤9223372036854775807) (some (.go ((((zj s++K)++y13)++y14),(IntKind.i64.wrap ((j:Int)+1)))))) else ((f201 n ((IntKind.u64.wrap c.Slots_[j].Bits_),4)).bind fun y15=>need (((zj s++K)++y13).size+y15.size≤9223372036854775807) (some (.go ((((zj s++K)++y13)++y15),(IntKind.i64.wrap ((j:Int)+1)))))))):Option (Bo (Yac) (Yac) Empty)) =
    some (.go (zj (s++(k::(typB c.Slots_[j].Type_++(bif c.Slots_[j].Type_.Kind_==2 then num c.Slots_[j].Int_ else low (IntKind.u64.wrap c.Slots_[j].Bits_) 4)))),IntKind.i64.wrap ((j:Int)+1))):=fun k K hK=>by
   subst hK
   rw [zi (by rw [zl,zl]; simp; omega),eT,znl (by omega) hp.par,← z1b]
   simp only [Option.bind_some]
   rw [zi (by rw [zl,zl]; simp; omega),← z1b,hL,z5c (by omega) hp.int]
   cases c.Slots_[j].Type_.Kind_==2 with
   | true =>
    simp only [cond_true,Option.bind_some]
    rw [zi (by rw [zl,zl]; simp; omega),← z1b]
    simp
   | false =>
    simp only [cond_false,Option.bind_some]
    rw [zi (by rw [zl,zl]; simp [z8v]; omega),← z1b]
    simp
  simp only [e,cond_true,z6n hj,Option.bind_some]
  unfold z4s
  cases c.Slots_[j].Keep_ with
  | true =>
   simp only [cond_true,Option.bind_some,orRet_inl]
   exact fin 1 _ rfl
  | false =>
   simp only [cond_false,Option.bind_some,orRet_inl]
   exact fin 0 _ rfl) (fun s _=>by
  rw [zgk]
  have e:decide ((c.Slots_.length:Int)<(c.Slots_.length:Int))=false:=by simp
  simp only [e,cond_false]) c.Slots_.length 0 l n (by omega) (by omega) (by omega)).1
 rw [show ((0:Nat):Int)=0 from rfl] at this
 rw [this,List.drop_zero,z3b]
def zga (c:Xe):ByteArray×Int:=if (chk c).1=0 then (zj (bytC c),0) else (⟨#[]⟩,(chk c).1)
theorem zcw {c:Xe} (h:z3l c):(c.Sign_.flatMap parB).length≤5440∧(c.Regs_.flatMap typB).length≤180224∧(c.Slots_.flatMap z4s).length≤102400∧(c.List_.flatMap z3z).length≤1802240∧(num (c.Sign_.length:Int)).length≤10∧(num (c.Regs_.length:Int)).length≤10∧(num (c.Slots_.length:Int)).length≤10∧(num (c.List_.length:Int)).length≤10:=by
 have a1:=z4n parB 85 c.Sign_ fun p hp=>zfh (h.s p hp)
 have a2:=z4n typB 11 c.Regs_ fun p hp=>z77 (h.r p hp)
 have a3:=z4n z4s 25 c.Slots_ fun p hp=>zdh (h.o p hp)
 have a4:=z4n z3z 55 c.List_ fun p hp=>zd7 (h.l p hp)
 have:=h.sl
 have:=h.rl
 have:=h.ol
 have:=h.ll
 exact ⟨by omega,by omega,by omega,by omega,z2k (z1t (by omega)),z2k (z1t (by omega)),z2k (z1t (by omega)),z2k (z1t (by omega))⟩
theorem zin {c:Xe} (h:z3l c):(z79 c).length≤3000000:=by
 obtain ⟨h1,h2,h3,h4,h5,h6,h7,h8⟩:=zcw h
 simp only [z79,List.length_append,List.length_cons,List.length_nil]
 omega
theorem zio {l:List Int} (h:Byt l):crcL (bytesOf (zj l))=crcL l:=by rw [zk3 h]
theorem y2e {n:Nat} {c:Xe} (hn:10000000<n) (hs:∀ s ∈ c.Slots_,0≤s.Bits_∧s.Bits_<4294967296) (hb:∀ i ∈ c.List_,0≤i.Bits_∧i.Bits_<4294967296) (h:(chk c).1=0→z3l c):f216 n c=some (zga c):=by
 rw [y2d,(zku (by omega) hs hb).1]
 unfold zga
 simp only [Option.bind_some]
 by_cases h0:(chk c).1=0
 ·have hC:=h h0
  obtain ⟨h1,h2,h3,h4,h5,h6,h7,h8⟩:=zcw hC
  have hsl:=hC.sl
  have hrl:=hC.rl
  have hol:=hC.ol
  have hll:=hC.ll
  rw [if_pos h0,h0]
  simp only [bne_self_eq_false,cond_false]
  have hcl:=zin hC
  have hby:=zim hC
  rw [z5d (by omega) (z1t (by omega)) (by simp)]
  simp only [Option.bind_some]
  rw [y4c (by omega) hC (by simp only [List.length_append,List.length_cons,List.length_nil]; omega)]
  simp only [Option.bind_some,Bo.then]
  rw [z5d (by omega) (z1t (by omega)) (by simp only [List.length_append,List.length_cons,List.length_nil]; omega)]
  simp only [Option.bind_some]
  rw [y4b (by omega) hC (by simp only [List.length_append,List.length_cons,List.length_nil]; omega)]
  simp only [Option.bind_some,Bo.then]
  rw [z5d (by omega) (z1t (by omega)) (by simp only [List.length_append,List.length_cons,List.length_nil]; omega)]
  simp only [Option.bind_some]
  rw [y4a (by omega) hC (by simp only [List.length_append,List.length_cons,List.length_nil]; omega)]
  simp only [Option.bind_some,Bo.then]
  rw [z5d (by omega) (z1t (by omega)) (by simp only [List.length_append,List.length_cons,List.length_nil]; omega)]
  simp only [Option.bind_some]
  rw [y49 (by omega) hC (by simp only [List.length_append,List.length_cons,List.length_nil]; omega)]
  simp only [Option.bind_some,Bo.then]
  have e:[108,116,104,49]++num (c.Sign_.length:Int)++c.Sign_.flatMap parB++num (c.Regs_.length:Int)++c.Regs_.flatMap typB++num (c.Slots_.length:Int)++c.Slots_.flatMap z4s++num (c.List_.length:Int)++c.List_.flatMap z3z=z79 c:=rfl
  rw [e,y1v (by rw [zl]; omega) (by rw [zl]; omega),zio hby]
  simp only [Option.bind_some]
  have:=zi6 (n:=n) (l:=z79 c) (v:=crcL (z79 c)) (k:=8) (by omega) (by omega) (by omega)
  rw [show ((8:Nat):Int)=8 from rfl] at this
  rw [this]
  rfl
 ·have hb:((chk c).1 != 0)=true:=by simpa using h0
  rw [if_neg h0,hb,cond_true]
set_option maxHeartbeats 2000000 in
theorem y2b {n:Nat} {c:Xe} (hn:10000000<n) (hs:∀ s ∈ c.Slots_,0≤s.Bits_∧s.Bits_<4294967296) (hb:∀ i ∈ c.List_,0≤i.Bits_∧i.Bits_<4294967296) (h:(chk c).1=0→z3l c):f204 n c=some (zga c):=by
 rw [y2a,(zku (by omega) hs hb).2]
 unfold zga
 simp only [Option.bind_some]
 by_cases h0:(chk c).1=0
 ·have hC:=h h0
  obtain ⟨h1,h2,h3,h4,h5,h6,h7,h8⟩:=zcw hC
  have hsl:=hC.sl
  have hrl:=hC.rl
  have hol:=hC.ol
  have hll:=hC.ll
  rw [if_pos h0,h0]
  simp only [bne_self_eq_false,cond_false]
  have hcl:=zin hC
  have hby:=zim hC
  have em:(⟨#[108,116,104,49]⟩:ByteArray)=zj [108,116,104,49]:=rfl
  rw [z5c (by omega) (z1t (by omega)),em]
  simp only [Option.bind_some]
  rw [zi (by rw [zl,zl]; simp only [List.length_append,List.length_cons,List.length_nil]; omega),← z1b,y48 (by omega) hC (by simp only [List.length_append,List.length_cons,List.length_nil]; omega)]
  simp only [Option.bind_some,Bo.then]
  rw [z5c (by omega) (z1t (by omega))]
  simp only [Option.bind_some]
  rw [zi (by rw [zl,zl]; simp only [List.length_append,List.length_cons,List.length_nil]; omega),← z1b,y47 (by omega) hC (by simp only [List.length_append,List.length_cons,List.length_nil]; omega)]
  simp only [Option.bind_some,Bo.then]
  rw [z5c (by omega) (z1t (by omega))]
  simp only [Option.bind_some]
  rw [zi (by rw [zl,zl]; simp only [List.length_append,List.length_cons,List.length_nil]; omega),← z1b,y46 (by omega) hC (by simp only [List.length_append,List.length_cons,List.length_nil]; omega)]
  simp only [Option.bind_some,Bo.then]
  rw [z5c (by omega) (z1t (by omega))]
  simp only [Option.bind_some]
  rw [zi (by rw [zl,zl]; simp only [List.length_append,List.length_cons,List.length_nil]; omega),← z1b,y45 (by omega) hC (by simp only [List.length_append,List.length_cons,List.length_nil]; omega)]
  simp only [Option.bind_some,Bo.then]
  have e:[108,116,104,49]++num (c.Sign_.length:Int)++c.Sign_.flatMap parB++num (c.Regs_.length:Int)++c.Regs_.flatMap typB++num (c.Slots_.length:Int)++c.Slots_.flatMap z4s++num (c.List_.length:Int)++c.List_.flatMap z3z=z79 c:=rfl
  rw [e,y1t (by rw [zl]; omega) (by rw [zl]; omega),zio hby]
  simp only [Option.bind_some]
  have:=zi3 (n:=n) (v:=crcL (z79 c)) (k:=8) (by omega) (by omega)
  rw [show ((8:Nat):Int)=8 from rfl] at this
  rw [this]
  simp only [Option.bind_some]
  rw [zi (by rw [zl,zl,z8v]; omega),← z1b]
  rfl
 ·have hb:((chk c).1 != 0)=true:=by simpa using h0
  rw [if_neg h0,hb,cond_true]
theorem y7e {l:List Xa} (h:(sgn l != 0)=false):l.length≤64∧l.all mayP=true:=by
 unfold sgn at h
 cases h1:decide ((l.length:Int) > 64) with
 | true=>rw [h1,cond_true] at h; exact absurd h (by decide)
 | false =>
  rw [h1,cond_false] at h
  simp only [decide_eq_false_iff_not] at h1
  refine ⟨by omega,?_⟩
  cases h2:l.all mayP with
  | true=>rfl
  | false=>rw [h2,cond_false] at h; exact absurd h (by decide)
theorem y30 {p:Xa} (h:mayP p=true):p.Name_.size≤64∧(p.Kind_=1∨p.Kind_=2)∧1≤p.Len_∧p.Len_≤4096:=by
 unfold mayP z7r at h
 simp only [Bool.and_eq_true,Bool.not_eq_true',Bool.or_eq_false_iff,decide_eq_false_iff_not,Bool.or_eq_true,beq_iff_eq,decide_eq_true_eq] at h
 obtain ⟨⟨⟨_,h1⟩,_⟩,h2,h3,h4⟩:=h
 exact ⟨by omega,h2,h3,h4⟩
theorem y31 {l:List Xa} {s:Xc} (h:mayS l s=true):mayT l s.Type_=true∧((s.Type_.Kind_=2∧s.Bits_=0∧0≤s.Int_∧s.Int_≤2147483647)∨(s.Type_.Kind_ ≠ 2∧s.Int_=0∧z5u s.Bits_=true)):=by
 unfold mayS at h
 rw [Bool.and_eq_true] at h
 refine ⟨h.1,?_⟩
 by_cases hk:s.Type_.Kind_=2
 ·have e:(s.Type_.Kind_==2)=true:=by simp [hk]
  have h2:=h.2
  rw [e,cond_true] at h2
  simp only [Bool.and_eq_true,beq_iff_eq,decide_eq_true_eq] at h2
  exact .inl ⟨hk,h2.1,h2.2.1,h2.2.2⟩
 ·have e:(s.Type_.Kind_==2)=false:=by simp [hk]
  have h2:=h.2
  rw [e,cond_false] at h2
  simp only [Bool.and_eq_true,beq_iff_eq] at h2
  exact .inr ⟨hk,h2.1,h2.2⟩
theorem zph {l:List Xa} {t:Xb} (hl:l.length≤64) (h:mayT l t=true):(t.Kind_=1∨t.Kind_=2∨t.Kind_=3)∧0≤t.Param_∧t.Param_<64∧(t.Kind_ ≠ 3→t.Param_=0):=by
 unfold mayT at h
 by_cases hk:t.Kind_=3
 ·have e:(t.Kind_==3)=true:=by simp [hk]
  rw [e,cond_true] at h
  simp only [Bool.and_eq_true,decide_eq_true_eq] at h
  exact ⟨.inr (.inr hk),h.1,by omega,fun h=>absurd hk h⟩
 ·have e:(t.Kind_==3)=false:=by simp [hk]
  rw [e,cond_false] at h
  simp only [Bool.and_eq_true,Bool.or_eq_true,beq_iff_eq] at h
  exact ⟨by omega,by omega,by omega,fun _=>h.2⟩
theorem zrn {c:Xe} (h:(chk c).1=0) (hl:∀ i ∈ c.List_,z4t i):z3l c:=by
 obtain ⟨h1,h2,h3,h4,h5,h6,_⟩:=zrl h
 obtain ⟨s1,s2⟩:=y7e h1
 simp only [decide_eq_false_iff_not] at h2 h3 h4
 rw [List.all_eq_true] at s2 h5 h6
 refine ⟨s1,by omega,by omega,by omega,fun p hp=>?_,fun t ht=>?_,fun x hx=>?_,hl⟩
 ·obtain ⟨q1,_,_,q2⟩:=y30 (s2 p hp)
  exact ⟨q1,by show p.Len_<9223372036854775808; omega⟩
 ·obtain ⟨_,_,q,_⟩:=zph s1 (h5 t ht)
  show t.Param_<9223372036854775808; omega
 ·obtain ⟨q1,q2⟩:=y31 (h6 x hx)
  obtain ⟨_,_,q,_⟩:=zph s1 q1
  refine ⟨by show x.Type_.Param_<9223372036854775808; omega,?_⟩
  show x.Int_<9223372036854775808
  rcases q2 with h | h <;> omega
theorem zr2 {c:Xe} (h:zk9 c):c.Sign_.length<4611686018427387904∧c.Regs_.length<4611686018427387904∧c.Slots_.length<4611686018427387904∧c.List_.length<4611686018427387904:=by
 have:=h.s
 have:=h.r
 have:=h.l
 have:=h.i
 exact ⟨by omega,by omega,by omega,by omega⟩
theorem y38 (c:Xe) (hS:zk9 c) (hU:U32s c) (hl:∀ i ∈ c.List_,z4t i):f230 (fuel c+10000000) c=some true:=by
 have hf:fuel c=c.Sign_.length+c.Regs_.length+c.Slots_.length+c.List_.length+100001:=rfl
 obtain ⟨k1,k2,k3,k4⟩:=zr2 hS
 have h0:=fun h=>zrn h hl
 rw [y2k,y3j hS]
 have eC:(⟨c.Sign_,c.Regs_,c.Slots_,c.List_⟩:Xe)=c:=rfl
 simp only [Option.bind_some,eC]
 rw [y2e (by omega) hU.1 hU.2 h0,y2b (by omega) hU.1 hU.2 h0,zxj (by omega) (by omega) (by omega) (by omega) k1 k2 k3 k4,zye (by omega)]
 simp [z5x]
abbrev y1i:Ty:=.str
def y1f (R:Nat→Nat→Prop) (x:ByteArray):Prop:=R x.size 1
theorem y9t {R:Nat→Nat→Prop} {cs:List AV} (h:OfTy R y1i cs):∃ x:ByteArray,y1f R x∧[.sc (.string x)]=cs:=by
 obtain ⟨b,rfl,h⟩:=h
 exact ⟨b,h,rfl⟩
abbrev z5w:Ty:=.int .i64
def z5j (_:Nat→Nat→Prop) (x:Int):Prop:=(Lit.int .i64 x).wf=true
theorem z6u {R:Nat→Nat→Prop} {cs:List AV} (h:OfTy R z5w cs):∃ x:Int,z5j R x∧[.sc (.int .i64 x)]=cs:=by
 obtain ⟨n,rfl,h⟩:=h
 exact ⟨n,h,rfl⟩
abbrev zcr:Ty:=.st (.cons y1i (.cons z5w (.cons z5w (.nil))))
structure zcn (R:Nat→Nat→Prop) (x:Xa):Prop where
 Name_:y1f R x.Name_
 Kind_:z5j R x.Kind_
 Len_:z5j R x.Len_
theorem zk8 {R:Nat→Nat→Prop} {cs:List AV} (h:OfTy R zcr cs):∃ x:Xa,zcn R x∧(c1 false) x=cs:=by
 obtain ⟨_,_,rfl,h0,h⟩:=h
 obtain ⟨_,_,rfl,h1,h⟩:=h
 obtain ⟨_,_,rfl,h2,h⟩:=h
 obtain rfl:=h
 obtain ⟨x0,w0,rfl⟩:=y9t h0
 obtain ⟨x1,w1,rfl⟩:=z6u h1
 obtain ⟨x2,w2,rfl⟩:=z6u h2
 exact ⟨⟨x0,x1,x2⟩,⟨w0,w1,w2⟩,rfl⟩
abbrev zb9:Ty:=.sl 3 32 zcr
def zb8 (R:Nat→Nat→Prop) (x:List Xa):Prop:=R x.length 32∧∀ y ∈ x,zcn R y
theorem zib {R:Nat→Nat→Prop} {cs:List AV} (h:OfTy R zb9 cs):∃ x:List Xa,zb8 R x∧[.im 3 (x.map (c1 false))]=cs:=by
 obtain ⟨xs,rfl,h1,h2⟩:=h
 obtain ⟨ys,h3,rfl⟩:=z96 (c:=(c1 false)) (fun _ h=>zk8 h) h1
 exact ⟨ys,⟨by simpa using h2,h3⟩,rfl⟩
abbrev z9g:Ty:=.st (.cons z5w (.cons z5w (.nil)))
structure z9f (R:Nat→Nat→Prop) (x:Xb):Prop where
 Kind_:z5j R x.Kind_
 Param_:z5j R x.Param_
theorem zde {R:Nat→Nat→Prop} {cs:List AV} (h:OfTy R z9g cs):∃ x:Xb,z9f R x∧(c2 false) x=cs:=by
 obtain ⟨_,_,rfl,h0,h⟩:=h
 obtain ⟨_,_,rfl,h1,h⟩:=h
 obtain rfl:=h
 obtain ⟨x0,w0,rfl⟩:=z6u h0
 obtain ⟨x1,w1,rfl⟩:=z6u h1
 exact ⟨⟨x0,x1⟩,⟨w0,w1⟩,rfl⟩
abbrev zcq:Ty:=.sl 2 16 z9g
def zcm (R:Nat→Nat→Prop) (x:List Xb):Prop:=R x.length 16∧∀ y ∈ x,z9f R y
theorem zk7 {R:Nat→Nat→Prop} {cs:List AV} (h:OfTy R zcq cs):∃ x:List Xb,zcm R x∧[.im 2 (x.map (c2 false))]=cs:=by
 obtain ⟨xs,rfl,h1,h2⟩:=h
 obtain ⟨ys,h3,rfl⟩:=z96 (c:=(c2 false)) (fun _ h=>zde h) h1
 exact ⟨ys,⟨by simpa using h2,h3⟩,rfl⟩
abbrev zwv:Ty:=.bool
def zwu (_:Nat→Nat→Prop) (x:Bool):Prop:=True
theorem y7a {R:Nat→Nat→Prop} {cs:List AV} (h:OfTy R zwv cs):∃ x:Bool,zwu R x∧[.sc (.bool x)]=cs:=by
 obtain ⟨b,rfl⟩:=h
 exact ⟨b,trivial,rfl⟩
abbrev zr8:Ty:=.int .u32
def zki (_:Nat→Nat→Prop) (x:Int):Prop:=(Lit.int .u32 x).wf=true
theorem y0w {R:Nat→Nat→Prop} {cs:List AV} (h:OfTy R zr8 cs):∃ x:Int,zki R x∧[.sc (.int .u32 x)]=cs:=by
 obtain ⟨n,rfl,h⟩:=h
 exact ⟨n,h,rfl⟩
abbrev zdo:Ty:=.st (.cons z9g (.cons zwv (.cons zr8 (.cons z5w (.nil)))))
structure zdm (R:Nat→Nat→Prop) (x:Xc):Prop where
 Type_:z9f R x.Type_
 Keep_:zwu R x.Keep_
 Bits_:zki R x.Bits_
 Int_:z5j R x.Int_
theorem zmj {R:Nat→Nat→Prop} {cs:List AV} (h:OfTy R zdo cs):∃ x:Xc,zdm R x∧(c3 false) x=cs:=by
 obtain ⟨_,_,rfl,h0,h⟩:=h
 obtain ⟨_,_,rfl,h1,h⟩:=h
 obtain ⟨_,_,rfl,h2,h⟩:=h
 obtain ⟨_,_,rfl,h3,h⟩:=h
 obtain rfl:=h
 obtain ⟨x0,w0,rfl⟩:=zde h0
 obtain ⟨x1,w1,rfl⟩:=y7a h1
 obtain ⟨x2,w2,rfl⟩:=y0w h2
 obtain ⟨x3,w3,rfl⟩:=z6u h3
 exact ⟨⟨x0,x1,x2,x3⟩,⟨w0,w1,w2,w3⟩,rfl⟩
abbrev zcp:Ty:=.sl 5 32 zdo
def zcl (R:Nat→Nat→Prop) (x:List Xc):Prop:=R x.length 32∧∀ y ∈ x,zdm R y
theorem zk6 {R:Nat→Nat→Prop} {cs:List AV} (h:OfTy R zcp cs):∃ x:List Xc,zcl R x∧[.im 5 (x.map (c3 false))]=cs:=by
 obtain ⟨xs,rfl,h1,h2⟩:=h
 obtain ⟨ys,h3,rfl⟩:=z96 (c:=(c3 false)) (fun _ h=>zmj h) h1
 exact ⟨ys,⟨by simpa using h2,h3⟩,rfl⟩
abbrev zdn:Ty:=.st (.cons z5w (.cons z5w (.cons z5w (.cons z5w (.cons z5w (.cons z5w (.cons zr8 (.nil))))))))
structure zdl (R:Nat→Nat→Prop) (x:Xd):Prop where
 Op_:z5j R x.Op_
 D_:z5j R x.D_
 A_:z5j R x.A_
 B_:z5j R x.B_
 C_:z5j R x.C_
 N_:z5j R x.N_
 Bits_:zki R x.Bits_
theorem zmi {R:Nat→Nat→Prop} {cs:List AV} (h:OfTy R zdn cs):∃ x:Xd,zdl R x∧(c4 false) x=cs:=by
 obtain ⟨_,_,rfl,h0,h⟩:=h
 obtain ⟨_,_,rfl,h1,h⟩:=h
 obtain ⟨_,_,rfl,h2,h⟩:=h
 obtain ⟨_,_,rfl,h3,h⟩:=h
 obtain ⟨_,_,rfl,h4,h⟩:=h
 obtain ⟨_,_,rfl,h5,h⟩:=h
 obtain ⟨_,_,rfl,h6,h⟩:=h
 obtain rfl:=h
 obtain ⟨x0,w0,rfl⟩:=z6u h0
 obtain ⟨x1,w1,rfl⟩:=z6u h1
 obtain ⟨x2,w2,rfl⟩:=z6u h2
 obtain ⟨x3,w3,rfl⟩:=z6u h3
 obtain ⟨x4,w4,rfl⟩:=z6u h4
 obtain ⟨x5,w5,rfl⟩:=z6u h5
 obtain ⟨x6,w6,rfl⟩:=y0w h6
 exact ⟨⟨x0,x1,x2,x3,x4,x5,x6⟩,⟨w0,w1,w2,w3,w4,w5,w6⟩,rfl⟩
abbrev zco:Ty:=.sl 7 56 zdn
def zck (R:Nat→Nat→Prop) (x:List Xd):Prop:=R x.length 56∧∀ y ∈ x,zdl R y
theorem zk5 {R:Nat→Nat→Prop} {cs:List AV} (h:OfTy R zco cs):∃ x:List Xd,zck R x∧[.im 7 (x.map (c4 false))]=cs:=by
 obtain ⟨xs,rfl,h1,h2⟩:=h
 obtain ⟨ys,h3,rfl⟩:=z96 (c:=(c4 false)) (fun _ h=>zmi h) h1
 exact ⟨ys,⟨by simpa using h2,h3⟩,rfl⟩
abbrev y_T_api_Code:Ty:=.st (.cons zb9 (.cons zcq (.cons zcp (.cons zco (.nil)))))
structure z9e (R:Nat→Nat→Prop) (x:Xe):Prop where
 Sign_:zb8 R x.Sign_
 Regs_:zcm R x.Regs_
 Slots_:zcl R x.Slots_
 List_:zck R x.List_
theorem r_T_api_Code {R:Nat→Nat→Prop} {cs:List AV} (h:OfTy R y_T_api_Code cs):∃ x:Xe,z9e R x∧(c10 false) x=cs:=by
 obtain ⟨_,_,rfl,h0,h⟩:=h
 obtain ⟨_,_,rfl,h1,h⟩:=h
 obtain ⟨_,_,rfl,h2,h⟩:=h
 obtain ⟨_,_,rfl,h3,h⟩:=h
 obtain rfl:=h
 obtain ⟨x0,w0,rfl⟩:=zib h0
 obtain ⟨x1,w1,rfl⟩:=zk7 h1
 obtain ⟨x2,w2,rfl⟩:=zk6 h2
 obtain ⟨x3,w3,rfl⟩:=zk5 h3
 exact ⟨⟨x0,x1,x2,x3⟩,⟨w0,w1,w2,w3⟩,rfl⟩
theorem zwt {R:Nat→Nat→Prop} {x:Int} (h:zki R x):0≤x∧x<4294967296:=by
 have h:(Lit.int .u32 x).wf=true:=h
 simp [Lit.wf] at h
 have e1:IntKind.u32.min=0:=by decide
 have e2:IntKind.u32.max=4294967295:=by decide
 omega
theorem i64_in {R:Nat→Nat→Prop} {x:Int} (h:z5j R x):x<9223372036854775808:=by
 have h:(Lit.int .i64 x).wf=true:=h
 simp [Lit.wf] at h
 have e2:IntKind.i64.max=9223372036854775807:=by decide
 omega
theorem zfk {a:Xe} (h:z9e RSaid a):zk9 a∧U32s a∧∀ i ∈ a.List_,z4t i :=
 ⟨⟨Nat.le_trans h.Sign_.1 (by decide),Nat.le_trans h.Regs_.1 (by decide),Nat.le_trans h.Slots_.1 (by decide),Nat.le_trans h.List_.1 (by decide)⟩,⟨fun s hs=>zwt (h.Slots_.2 s hs).Bits_,fun i hi=>zwt (h.List_.2 i hi).Bits_⟩,
  fun i hi=>let w:=h.List_.2 i hi; ⟨i64_in w.D_,i64_in w.A_,i64_in w.B_,i64_in w.C_,i64_in w.N_⟩⟩
theorem pureCodeEncodes (a:Xe) (h:z9e RSaid a):∃ n,f230 n a=some true:=⟨_,y38 a (zfk h).1 (zfk h).2.1 (zfk h).2.2⟩
end Loom
