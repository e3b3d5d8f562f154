/- The plain law of FuseMeans: what it answers is true,whatever it is handed (part 1 of 2). -/
import Derived.Test.YtkdodmdcmakdgaaGreatFuseMeansWvB
set_option linter.unusedVariables false
set_option linter.unusedSimpArgs false
set_option maxRecDepth 100000
namespace Loom
open Go
@[simp] theorem orRet_inl {S R:Type} {A:S→Option R} {s:S}:zm A (.inl s)=A s:=rfl
@[simp] theorem orRet_inr {S R:Type} {A:S→Option R} {r:R}:zm A (.inr r)=some r:=rfl
theorem zo {R:Type} {p:Prop} [Decidable p] {x:Option R} (h:p):need p x=x:=by unfold need; rw [if_pos h]
def mayT (l:List Xa) (t:Xb):Bool :=
 bif t.Kind_==3 then decide (t.Param_≥0) && decide (t.Param_<(l.length:Int)) else (t.Kind_==1 || t.Kind_==2) && t.Param_==0
theorem zs7 {n:Nat} (c:Xe) (t:Xb):f31 n (c,t)=some (mayT c.Sign_ t):=by
 rw [y4f]
 unfold mayT
 by_cases h1:t.Kind_=1
 ·simp [h1]
 ·by_cases h2:t.Kind_=2
  ·simp [h2]
  ·by_cases h3:t.Kind_=3
   ·by_cases h4:t.Param_≥0 <;> simp [h3,h4]
   ·have e1:(t.Kind_==1)=false:=by simpa using h1
    have e2:(t.Kind_==2)=false:=by simpa using h2
    have e3:(t.Kind_==3)=false:=by simpa using h3
    simp [e1,e2,e3]
theorem zs9 {n:Nat} (l:List Xa) (t:Xb):f39 n (t,l)=some (mayT l t):=by
 rw [y4p]
 unfold mayT
 by_cases h1:t.Kind_=1
 ·simp [h1]
 ·by_cases h2:t.Kind_=2
  ·simp [h2]
  ·by_cases h3:t.Kind_=3
   ·by_cases h4:t.Param_≥0 <;> simp [h3,h4]
   ·have e1:(t.Kind_==1)=false:=by simpa using h1
    have e2:(t.Kind_==2)=false:=by simpa using h2
    have e3:(t.Kind_==3)=false:=by simpa using h3
    simp [e1,e2,e3]
def z5r (x:Int):Bool:=decide (x % 2147483648≤2139095040) || x==2143289344
theorem zrk {m:Nat} (h:m<4294967296):IntKind.u32.wrap (m:Int)=m:=by
 have:IntKind.u32.wrap (m:Int)=(m:Int) % 4294967296:=by simp [IntKind.wrap,IntKind.bits,IntKind.signed]
 omega
theorem y98 (x:Int) (h0:0≤x) (h1:x<4294967296):(BitVec.ofInt IntKind.u32.bits x &&& ~~~BitVec.ofInt IntKind.u32.bits 2147483648).toNat=x.toNat % 2147483648:=by
 show (BitVec.ofInt 32 x &&& ~~~BitVec.ofInt 32 2147483648).toNat=_
 have e:(~~~BitVec.ofInt 32 2147483648:BitVec 32)=2147483647#32:=by decide
 rw [e,BitVec.toNat_and]
 have e2:(2147483647#32).toNat=2 ^ 31 - 1:=by decide
 rw [e2,Nat.and_two_pow_sub_one_eq_mod]
 have e3:(BitVec.ofInt 32 x).toNat=x.toNat:=by
  rw [BitVec.toNat_ofInt]
  omega
 rw [e3]
theorem zsc {n:Nat} (x:Int) (h0:0≤x) (h1:x<4294967296):f52 n x=some (z5r x):=by
 rw [y50,y98 x h0 h1,zrk (by omega)]
 unfold z5r
 have:((x.toNat % 2147483648:Nat):Int)=x % 2147483648:=by omega
 rw [this]
 cases decide (x % 2147483648≤2139095040) <;> rfl
theorem zew {m:Int} (h0:0≤m) (h:m<18446744073709551616):IntKind.u64.wrap m=m:=by
 have:IntKind.u64.wrap m=m % 18446744073709551616:=by simp [IntKind.wrap,IntKind.bits,IntKind.signed]
 omega
theorem zz0 (x:Int) (k:Nat) (hk:k<64) (h0:0≤x) (h1:x<18446744073709551616):(BitVec.ofInt IntKind.u64.bits x &&& BitVec.ofInt IntKind.u64.bits ((2 ^ k - 1:Nat):Int)).toNat=x.toNat % 2 ^ k:=by
 show (BitVec.ofInt 64 x &&& BitVec.ofInt 64 _).toNat=_
 rw [BitVec.toNat_and]
 have hp:2 ^ k<2 ^ 64:=Nat.pow_lt_pow_right (by decide) hk
 have e2:(BitVec.ofInt 64 ((2 ^ k - 1:Nat):Int)).toNat=2 ^ k - 1:=by
  rw [BitVec.toNat_ofInt]
  have:(0:Nat)<2 ^ k:=Nat.two_pow_pos k
  omega
 have e3:(BitVec.ofInt 64 x).toNat=x.toNat:=by
  rw [BitVec.toNat_ofInt]
  omega
 rw [e2,e3,Nat.and_two_pow_sub_one_eq_mod]
theorem y2r {n:Nat} (x:Int) (h0:0≤x) (h1:x<4294967296):∃ r,f69 n x=some r∧r.2.2.2.2=(decide (x / 8388608 % 256=255) && decide (x % 8388608 ≠ 0)):=by
 rw [y5s]
 have e0:IntKind.u64.wrap x=x:=zew h0 (by omega)
 have e1:x.fdiv (2 ^ min (23:Int).toNat IntKind.u64.bits)=x / 8388608:=by
  show x.fdiv 8388608=_
  rw [Int.fdiv_eq_ediv_of_nonneg _ (by decide)]
 have e2:(BitVec.ofInt IntKind.u64.bits (x / 8388608) &&& BitVec.ofInt IntKind.u64.bits (255:Int)).toNat=(x / 8388608).toNat % 256:=zz0 (x / 8388608) 8 (by decide) (by omega) (by omega)
 have e3:(BitVec.ofInt IntKind.u64.bits x &&& BitVec.ofInt IntKind.u64.bits (8388607:Int)).toNat=x.toNat % 8388608:=zz0 x 23 (by decide) (by omega) (by omega)
 simp only [e0,e1,e2,e3]
 rw [zew (m:=(((x / 8388608).toNat % 256:Nat):Int)) (by omega) (by omega),zew (m:=((x.toNat % 8388608:Nat):Int)) (by omega) (by omega),zc1 (by omega) (by omega)]
 have c1:(((x / 8388608).toNat % 256:Nat):Int)=x / 8388608 % 256:=by omega
 have c2:((x.toNat % 8388608:Nat):Int)=x % 8388608:=by omega
 rw [c1,c2]
 by_cases h:x / 8388608 % 256=255
 ·have q:(x / 8388608 % 256==255)=true:=by simp [h]
  simp only [q,cond_true,Option.bind_some,orRet_inl]
  refine ⟨_,rfl,?_⟩
  rw [decide_eq_true h,Bool.true_and]
  show (x % 8388608 != 0)=_
  by_cases h3:x % 8388608=0 <;> simp [h3]
 ·have q:(x / 8388608 % 256==255)=false:=by simp [h]
  simp only [q,cond_false]
  cases (x / 8388608 % 256==0)
  all_goals
   simp only [cond_false,cond_true,Option.bind_some,orRet_inl]
   refine ⟨_,rfl,?_⟩
   rw [decide_eq_false h,Bool.false_and]
theorem zse {n:Nat} (x:Int) (h0:0≤x) (h1:x<4294967296):f58 n x=some (z5r x):=by
 have w:IntKind.i64.wrap x=x:=zc1 (by omega) (by omega)
 obtain ⟨r,e,e'⟩:=y2r (n:=n) x h0 h1
 rw [y5a,w,y5m,e]
 simp only [Option.bind_some,e']
 unfold z5r
 by_cases h:x / 8388608 % 256=255∧x % 8388608 ≠ 0
 ·have q:(decide (x / 8388608 % 256=255) && decide (x % 8388608 ≠ 0))=true:=by simp [h]
  have q2:decide (x % 2147483648≤2139095040)=false:=by simp; omega
  rw [q,q2]
  simp only [cond_true,Option.bind_some,Bool.false_or]
  congr 1
  rw [Bool.eq_iff_iff]
  simp
  omega
 ·have q:(decide (x / 8388608 % 256=255) && decide (x % 8388608 ≠ 0))=false:=by
   rw [Bool.eq_false_iff]
   intro hb
   simp only [Bool.and_eq_true,decide_eq_true_eq] at hb
   exact h hb
  have q2:decide (x % 2147483648≤2139095040)=true:=by simp; omega
  rw [q,q2]
  simp
def mayS (l:List Xa) (s:Xc):Bool :=
 mayT l s.Type_ && (bif s.Type_.Kind_==2 then s.Bits_==0 && (decide (s.Int_≥0) && decide (s.Int_≤2147483647)) else s.Int_==0 && z5r s.Bits_)
theorem y4k {n:Nat} (c:Xe) (s:Xc) (h0:0≤s.Bits_) (h1:s.Bits_<4294967296):f34 n (c,s)=some (mayS c.Sign_ s):=by
 rw [y4j,zs7,zsc _ h0 h1]
 unfold mayS
 simp only [Option.bind_some]
 cases mayT c.Sign_ s.Type_ <;> cases (s.Type_.Kind_==2) <;> cases (s.Bits_==0) <;> cases (s.Int_==0) <;> cases decide (s.Int_≥0) <;> rfl
theorem y4r {n:Nat} (l:List Xa) (s:Xc) (h0:0≤s.Bits_) (h1:s.Bits_<4294967296):f40 n (s,l)=some (mayS l s):=by
 rw [y4q,zs9,zse _ h0 h1]
 unfold mayS
 simp only [Option.bind_some]
 cases mayT l s.Type_ <;> cases (s.Type_.Kind_==2) <;> cases (s.Bits_==0) <;> cases (s.Int_==0) <;> cases decide (s.Int_≥0) <;> rfl
structure z2n where
 d:Int
 a:Int
 b:Int
 c:Int
 n:Int
def rowD (op:Int):Option z2n :=
 bif op==1 then some ⟨1,0,0,0,0⟩ else
 bif op==2 then some ⟨2,0,0,0,1⟩ else
 bif op==3 then some ⟨8,7,0,0,0⟩ else
 bif op==4 then some ⟨4,5,5,0,0⟩ else
 bif op==5 then some ⟨4,5,5,0,0⟩ else
 bif op==6 then some ⟨4,5,5,0,0⟩ else
 bif op==7 then some ⟨4,5,5,0,0⟩ else
 bif op==8 then some ⟨4,5,5,0,0⟩ else
 bif op==9 then some ⟨4,5,5,0,0⟩ else
 bif op==10 then some ⟨4,5,5,0,0⟩ else
 bif op==11 then some ⟨4,5,0,0,0⟩ else
 bif op==12 then some ⟨4,5,0,0,0⟩ else
 bif op==13 then some ⟨4,5,0,0,0⟩ else
 bif op==14 then some ⟨4,5,0,0,0⟩ else
 bif op==15 then some ⟨4,5,5,5,0⟩ else
 bif op==16 then some ⟨1,1,2,0,0⟩ else
 bif op==17 then some ⟨1,2,0,0,0⟩ else
 bif op==18 then some ⟨2,1,0,0,0⟩ else
 bif op==19 then some ⟨1,3,0,0,0⟩ else
 bif op==20 then some ⟨1,3,0,0,0⟩ else
 bif op==21 then some ⟨2,2,0,0,0⟩ else
 bif op==22 then some ⟨2,2,2,0,0⟩ else
 bif op==23 then some ⟨2,2,2,0,0⟩ else
 bif op==24 then some ⟨2,2,2,0,0⟩ else
 bif op==25 then some ⟨2,2,0,0,0⟩ else
 bif op==26 then some ⟨2,2,2,2,0⟩ else
 bif op==27 then some ⟨2,2,2,0,0⟩ else
 bif op==28 then some ⟨2,2,2,0,0⟩ else
 bif op==29 then some ⟨3,0,0,0,2⟩ else
 bif op==30 then some ⟨3,0,0,0,2⟩ else
 bif op==31 then some ⟨0,3,0,0,2⟩ else
 bif op==32 then some ⟨8,0,0,0,3⟩ else
 bif op==33 then some ⟨0,8,0,0,3⟩ else
 bif op==34 then some ⟨0,2,0,0,0⟩ else
 bif op==35 then some ⟨0,0,0,0,0⟩ else
 bif op==36 then some ⟨0,0,0,0,4⟩ else
 bif op==37 then some ⟨0,0,0,0,0⟩ else
 none
theorem z4a (op:Int):(op=1∨op=2∨op=3∨op=4∨op=5∨op=6∨op=7∨op=8∨op=9∨op=10∨op=11∨op=12∨op=13∨op=14∨op=15∨op=16∨op=17∨op=18∨op=19∨op=20∨op=21∨op=22∨op=23∨op=24∨op=25∨op=26∨op=27∨op=28∨op=29∨op=30∨op=31∨op=32∨op=33∨op=34∨op=35∨op=36∨op=37)∨(∀ k:Int,1≤k→k≤37→(op==k)=false):=by
 by_cases h:1≤op∧op≤37
 ·left; omega
 ·right
  intro k h1 h2
  simp only [beq_eq_false_iff_ne,ne_eq]
  omega
theorem zjs {n:Nat} (op:Int):f26 n op=some (match rowD op with | some r=>(true,r.d,r.a,r.b,r.c,r.n) | none=>(false,0,0,0,0,0)):=by
 rw [y49]
 rcases z4a op with (rfl | rfl | rfl | rfl | rfl | rfl | rfl | rfl | rfl | rfl | rfl | rfl | rfl | rfl | rfl | rfl | rfl | rfl | rfl | rfl | rfl | rfl | rfl | rfl | rfl | rfl | rfl | rfl | rfl | rfl | rfl | rfl | rfl | rfl | rfl | rfl | rfl) | h
 iterate 37 (· kernel_rfl)
 simp only [rowD,h 1 (by decide) (by decide),h 2 (by decide) (by decide),h 3 (by decide) (by decide),h 4 (by decide) (by decide),h 5 (by decide) (by decide),h 6 (by decide) (by decide),h 7 (by decide) (by decide),h 8 (by decide) (by decide),h 9 (by decide) (by decide),h 10 (by decide) (by decide),h 11 (by decide) (by decide),h 12 (by decide) (by decide),h 13 (by decide) (by decide),h 14 (by decide) (by decide),h 15 (by decide) (by decide),h 16 (by decide) (by decide),h 17 (by decide) (by decide),h 18 (by decide) (by decide),h 19 (by decide) (by decide),h 20 (by decide) (by decide),h 21 (by decide) (by decide),h 22 (by decide) (by decide),h 23 (by decide) (by decide),h 24 (by decide) (by decide),h 25 (by decide) (by decide),h 26 (by decide) (by decide),h 27 (by decide) (by decide),h 28 (by decide) (by decide),h 29 (by decide) (by decide),h 30 (by decide) (by decide),h 31 (by decide) (by decide),h 32 (by decide) (by decide),h 33 (by decide) (by decide),h 34 (by decide) (by decide),h 35 (by decide) (by decide),h 36 (by decide) (by decide),h 37 (by decide) (by decide),cond_false,Option.bind_some,orRet_inl]
def z3z (s:Int):UInt8:=bif s==1 then 110 else bif s==2 then 119 else bif s==3 then 118 else bif s==4 then 100 else bif s==5 then 120 else bif s==7 then 99 else bif s==8 then 97 else 45
def z68 (s:Int):UInt8:=bif s==1 then 105 else bif s==2 then 112 else bif s==3 then 115 else bif s==4 then 113 else 45
def z38 (r:z2n):ByteArray:=⟨#[z3z r.d,z3z r.a,z3z r.b,z3z r.c,z68 r.n]⟩
theorem zjt {n:Nat} (op:Int):f27 n op=some (match rowD op with | some r=>(z38 r,true) | none=>(⟨#[]⟩,false)):=by
 rw [y4a]
 rcases z4a op with (rfl | rfl | rfl | rfl | rfl | rfl | rfl | rfl | rfl | rfl | rfl | rfl | rfl | rfl | rfl | rfl | rfl | rfl | rfl | rfl | rfl | rfl | rfl | rfl | rfl | rfl | rfl | rfl | rfl | rfl | rfl | rfl | rfl | rfl | rfl | rfl | rfl) | h
 iterate 37 (· kernel_rfl)
 simp only [rowD,h 1 (by decide) (by decide),h 2 (by decide) (by decide),h 3 (by decide) (by decide),h 4 (by decide) (by decide),h 5 (by decide) (by decide),h 6 (by decide) (by decide),h 7 (by decide) (by decide),h 8 (by decide) (by decide),h 9 (by decide) (by decide),h 10 (by decide) (by decide),h 11 (by decide) (by decide),h 12 (by decide) (by decide),h 13 (by decide) (by decide),h 14 (by decide) (by decide),h 15 (by decide) (by decide),h 16 (by decide) (by decide),h 17 (by decide) (by decide),h 18 (by decide) (by decide),h 19 (by decide) (by decide),h 20 (by decide) (by decide),h 21 (by decide) (by decide),h 22 (by decide) (by decide),h 23 (by decide) (by decide),h 24 (by decide) (by decide),h 25 (by decide) (by decide),h 26 (by decide) (by decide),h 27 (by decide) (by decide),h 28 (by decide) (by decide),h 29 (by decide) (by decide),h 30 (by decide) (by decide),h 31 (by decide) (by decide),h 32 (by decide) (by decide),h 33 (by decide) (by decide),h 34 (by decide) (by decide),h 35 (by decide) (by decide),h 36 (by decide) (by decide),h 37 (by decide) (by decide),cond_false,Option.bind_some,orRet_inl]
theorem z4d {op:Int} (h:∀ k:Int,1≤k→k≤37→(op==k)=false):rowD op=none:=by
 simp only [rowD,h 1 (by decide) (by decide),h 2 (by decide) (by decide),h 3 (by decide) (by decide),h 4 (by decide) (by decide),h 5 (by decide) (by decide),h 6 (by decide) (by decide),h 7 (by decide) (by decide),h 8 (by decide) (by decide),h 9 (by decide) (by decide),h 10 (by decide) (by decide),h 11 (by decide) (by decide),h 12 (by decide) (by decide),h 13 (by decide) (by decide),h 14 (by decide) (by decide),h 15 (by decide) (by decide),h 16 (by decide) (by decide),h 17 (by decide) (by decide),h 18 (by decide) (by decide),h 19 (by decide) (by decide),h 20 (by decide) (by decide),h 21 (by decide) (by decide),h 22 (by decide) (by decide),h 23 (by decide) (by decide),h 24 (by decide) (by decide),h 25 (by decide) (by decide),h 26 (by decide) (by decide),h 27 (by decide) (by decide),h 28 (by decide) (by decide),h 29 (by decide) (by decide),h 30 (by decide) (by decide),h 31 (by decide) (by decide),h 32 (by decide) (by decide),h 33 (by decide) (by decide),h 34 (by decide) (by decide),h 35 (by decide) (by decide),h 36 (by decide) (by decide),h 37 (by decide) (by decide),cond_false]
def z1b (i:Xd):List Int:=match rowD i.Op_ with
 | some r=>(bif r.a==0 then [] else [i.A_])++((bif r.b==0 then [] else [i.B_])++(bif r.c==0 then [] else [i.C_]))
 | none=>[]
def sets (i:Xd):Bool:=match rowD i.Op_ with | some r=>!(r.d==0) | none=>false
theorem zz4 (m:Nat) (i:Xd):f9 (m+4) i=some (z1b i):=by
 obtain ⟨op,d,a,b,c,N,bits⟩:=i
 rcases z4a op with (rfl | rfl | rfl | rfl | rfl | rfl | rfl | rfl | rfl | rfl | rfl | rfl | rfl | rfl | rfl | rfl | rfl | rfl | rfl | rfl | rfl | rfl | rfl | rfl | rfl | rfl | rfl | rfl | rfl | rfl | rfl | rfl | rfl | rfl | rfl | rfl | rfl) | h
 iterate 37 (· kernel_rfl)
 rw [y9c,zjs]
 simp only [z1b,z4d h]
 kernel_rfl
theorem y41 (m:Nat) (i:Xd):f10 (m+4) i=some (z1b i):=by
 obtain ⟨op,d,a,b,c,N,bits⟩:=i
 rcases z4a op with (rfl | rfl | rfl | rfl | rfl | rfl | rfl | rfl | rfl | rfl | rfl | rfl | rfl | rfl | rfl | rfl | rfl | rfl | rfl | rfl | rfl | rfl | rfl | rfl | rfl | rfl | rfl | rfl | rfl | rfl | rfl | rfl | rfl | rfl | rfl | rfl | rfl) | h
 iterate 37 (· kernel_rfl)
 rw [y40,zjt]
 simp only [z1b,z4d h]
 kernel_rfl
theorem zs0 (n:Nat) (i:Xd):f11 n i=some (sets i):=by
 obtain ⟨op,d,a,b,c,N,bits⟩:=i
 rcases z4a op with (rfl | rfl | rfl | rfl | rfl | rfl | rfl | rfl | rfl | rfl | rfl | rfl | rfl | rfl | rfl | rfl | rfl | rfl | rfl | rfl | rfl | rfl | rfl | rfl | rfl | rfl | rfl | rfl | rfl | rfl | rfl | rfl | rfl | rfl | rfl | rfl | rfl) | h
 iterate 37 (· kernel_rfl)
 rw [y42,zjs]
 simp only [sets,z4d h]
 kernel_rfl
theorem zs3 (n:Nat) (i:Xd):f12 n i=some (sets i):=by
 obtain ⟨op,d,a,b,c,N,bits⟩:=i
 rcases z4a op with (rfl | rfl | rfl | rfl | rfl | rfl | rfl | rfl | rfl | rfl | rfl | rfl | rfl | rfl | rfl | rfl | rfl | rfl | rfl | rfl | rfl | rfl | rfl | rfl | rfl | rfl | rfl | rfl | rfl | rfl | rfl | rfl | rfl | rfl | rfl | rfl | rfl) | h
 iterate 37 (· kernel_rfl)
 rw [y43,zjt]
 simp only [sets,z4d h]
 kernel_rfl
def elem (op:Int):Bool:=bif decide (op≥3) then decide (op≤15) else false
theorem zs4 (n:Nat) (op:Int):f13 n op=some (elem op):=by
 rw [y44]; unfold elem; cases decide (op≥3) <;> rfl
theorem y46 (n:Nat) (op:Int):f14 n op=some (elem op):=by
 rw [y45]; unfold elem; cases decide (op≥3) <;> rfl
abbrev ty0:Xb:=⟨0,0⟩
def eqTy (t d:Xb):Bool:=t.Kind_==d.Kind_ && (t.Param_==d.Param_ && true)
def isS (t:Xb) (s:Int) (d:Xb):Bool :=
 bif s==1 then t.Kind_==1 else bif s==2 then t.Kind_==2 else bif s==3 then t.Kind_==3 else bif s==4 then t.Kind_ != 2 else
 bif s==5 then (t.Kind_==1 || eqTy t d) else bif s==7 then (eqTy t d || (t.Kind_==1 && d.Kind_==3)) else true
theorem y54 {n:Nat} (t:Xb) (s:Int) (d:Xb) (h:s ≠ 6):f54 n (t,s,d)=some (isS t s d):=by
 have h6:(s==6)=false:=by simpa using h
 rw [y53]
 unfold isS eqTy
 simp only [h6,cond_false]
 cases (s==1) <;> cases (s==2) <;> cases (s==3) <;> cases (s==4) <;> cases (s==5) <;> cases (s==7) <;> cases (t.Kind_==1) <;> cases (t.Kind_==d.Kind_ && (t.Param_==d.Param_ && true)) <;> cases (d.Kind_==3) <;> rfl
theorem z27 {α:Type} {l:List α} {n:Int} (h:n<0∨n≥l.length):idx l n=none:=by
 unfold idx
 split
 ·rcases h with h | h
  ·omega
  ·rw [List.getElem?_eq_none]; omega
 ·rfl
theorem z2z {α:Type} {l:List α} {n:Int} (h0:0≤n) (h1:n<l.length):∃ y,idx l n=some y∧y ∈ l:=by
 unfold idx
 rw [if_pos h0]
 have:n.toNat<l.length:=by omega
 exact ⟨l[n.toNat],by simp [this],List.getElem_mem this⟩
theorem z1s {α:Type} {l:List α} {n:Int} {y:α} (h:idx l n=some y):y ∈ l∧0≤n∧n<l.length:=by
 unfold idx at h
 split at h
 ·rename_i h0
  obtain ⟨h1,h2⟩:=List.getElem?_eq_some_iff.1 h
  exact ⟨h2 ▸ List.getElem_mem h1,h0,by omega⟩
 ·cases h
theorem y52 {n:Nat} (a:List Xa) (b:List Xb) (c:List Xc) (d:List Xd) (e:List Bool) (f:List (List Int)) (g:List Int) (k:Int) :
  f53 n (a,b,c,d,e,f,g,k)=some (match idx b k with | some t=>(true,a,b,c,d,e,f,g,t.Kind_,t.Param_) | none=>(false,a,b,c,d,e,f,g,0,0)):=by
 rw [y51]
 by_cases h:k<0
 ·rw [z27 (.inl h)]; simp [h]
 ·by_cases h2:k≥b.length
  ·rw [z27 (.inr h2)]; simp [h,h2]
  ·obtain ⟨y,hy,_⟩:=z2z (l:=b) (n:=k) (by omega) (by omega)
   rw [hy]
   have e1:decide (k<0)=false:=by simpa using h
   have e2:decide (k≥(b.length:Int))=false:=by simp; omega
   simp [e1,e2,hy]
theorem y5u {n:Nat} (c:Xe) (k:Int):f70 n (c,k)=some (match idx c.Regs_ k with | some t=>(true,t.Kind_,t.Param_) | none=>(false,0,0)):=by
 rw [y5t]
 by_cases h:k<0
 ·rw [z27 (.inl h)]; simp [h]
 ·by_cases h2:k≥c.Regs_.length
  ·rw [z27 (.inr h2)]; simp [h,h2]
  ·obtain ⟨y,hy,_⟩:=z2z (l:=c.Regs_) (n:=k) (by omega) (by omega)
   rw [hy]
   have e1:decide (k<0)=false:=by simpa using h
   have e2:decide (k≥(c.Regs_.length:Int))=false:=by simp; omega
   simp [e1,e2,hy]
theorem zid {l:List Xa} {t:Xb} (h:mayT l t=true):t.Kind_=1∨t.Kind_=2∨(t.Kind_=3∧0≤t.Param_∧t.Param_<l.length):=by
 unfold mayT at h
 by_cases h3:t.Kind_=3
 ·simp [h3] at h
  exact .inr (.inr ⟨h3,h.1,h.2⟩)
 ·have e3:(t.Kind_==3)=false:=by simpa using h3
  rw [e3] at h
  simp at h
  rcases h.1 with h | h
  ·exact .inl h
  ·exact .inr (.inl h)
def zr (c:Xe) (s k:Int) (d:Xb):Bool:=bif s==0 then k==0 else match idx c.Regs_ k with | none=>false | some t=>isS t s d
def z3o (s:Int):Prop:=s=0∨s=1∨s=2∨s=3∨s=4∨s=5∨s=7∨s=8
theorem zfn {n:Nat} {c:Xe} {s k:Int} {d:Xb} (hs:z3o s) (hr:∀ t ∈ c.Regs_,mayT c.Sign_ t=true):f66 n (c,((z3z s).toNat:Int),k,d)=some (zr c s k d):=by
 rw [y5n,y5u]
 unfold zr
 cases hi:idx c.Regs_ k with
 | none=>rcases hs with rfl | rfl | rfl | rfl | rfl | rfl | rfl | rfl <;> kernel_rfl
 | some t =>
  have hk:=zid (hr t (z1s hi).1)
  rcases hs with rfl | rfl | rfl | rfl | rfl | rfl | rfl | rfl
  ·rfl
  ·rfl
  ·rfl
  ·rfl
  ·rcases hk with h | h | ⟨h,_⟩ <;> simp [h,z3z,isS]
  ·show (bif t.Kind_==1 then some true else some (eqTy t d))=some (t.Kind_==1 || eqTy t d)
   cases (t.Kind_==1) <;> rfl
  ·show (bif eqTy t d then some true else bif t.Kind_==1 then some (d.Kind_==3) else some false)=some (eqTy t d || (t.Kind_==1 && d.Kind_==3))
   cases eqTy t d <;> cases (t.Kind_==1) <;> rfl
  ·rfl
theorem zq8 {op:Int} {r:z2n} (h:rowD op=some r):(z3o r.d∧z3o r.a∧z3o r.b∧z3o r.c)∧((r.n=0∨r.n=1∨r.n=3∨r.n=4)∨r.n=2∧(r.d=3∨r.d=0∧r.a=3)):=by
 rcases z4a op with (rfl | rfl | rfl | rfl | rfl | rfl | rfl | rfl | rfl | rfl | rfl | rfl | rfl | rfl | rfl | rfl | rfl | rfl | rfl | rfl | rfl | rfl | rfl | rfl | rfl | rfl | rfl | rfl | rfl | rfl | rfl | rfl | rfl | rfl | rfl | rfl | rfl) | h0
 iterate 37 (· cases h; simp [z3o])
 rw [z4d h0] at h; cases h
def tyD (c:Xe) (r:z2n) (i:Xd):Xb:=bif r.d==0 then ty0 else (idx c.Regs_ i.D_).getD ty0
def tyF (c:Xe) (r:z2n) (i:Xd):Xb:=bif r.d==0 then (bif r.a==0 then ty0 else (idx c.Regs_ i.A_).getD ty0) else (idx c.Regs_ i.D_).getD ty0
def nOk (c:Xe) (s N:Int) (t:Xb):Bool :=
 bif s==1 then decide (N≥0) && decide (N≤2147483647) else
 bif s==2 then (N==0 || (N==1 && (match idx c.Sign_ t.Param_ with | some p=>p.Kind_==2 | none=>false))) else
 bif s==3 then (match idx c.Slots_ N with | some z=>eqTy z.Type_ t | none=>false) else
 bif s==4 then decide (N≥0) && decide (N<(c.Sign_.length:Int)) else N==0
def z6r (i:Xd):Bool:=bif i.Op_==1 then z5r i.Bits_ else i.Bits_==0
def fits (c:Xe) (i:Xd):Bool:=match rowD i.Op_ with
 | none=>false
 | some r=>zr c r.d i.D_ ty0 && (zr c r.a i.A_ (tyD c r i) && (zr c r.b i.B_ (tyD c r i) && (zr c r.c i.C_ (tyD c r i) && (z6r i && nOk c r.n i.N_ (tyF c r i)))))
theorem y5p {n:Nat} {c:Xe} {N p:Int} (hp:0≤p∧p<c.Sign_.length):f67 n (c,N,p)=some (N==0 || (N==1 && (match idx c.Sign_ p with | some p=>p.Kind_==2 | none=>false))):=by
 rw [y5o]
 obtain ⟨y,hy,_⟩:=z2z (l:=c.Sign_) hp.1 hp.2
 rw [hy]
 cases (N==0) <;> cases (N==1) <;> simp
theorem isS3 {t d:Xb} (h:isS t 3 d=true):t.Kind_=3:=by simpa [isS] using h
theorem zq2 {c:Xe} {i:Xd} {r:z2n} (hr:∀ t ∈ c.Regs_,mayT c.Sign_ t=true) (hp:r.d=3∨r.d=0∧r.a=3) (h1:zr c r.d i.D_ ty0=true) (h2:zr c r.a i.A_ (tyD c r i)=true):0≤(tyF c r i).Param_∧(tyF c r i).Param_<c.Sign_.length:=by
 have key:∀ (k:Int) (d:Xb),zr c 3 k d=true→∃ t,idx c.Regs_ k=some t∧0≤t.Param_∧t.Param_<c.Sign_.length:=fun k d h=>by
  unfold zr at h
  have e:((3:Int)==0)=false:=by decide
  rw [e,cond_false] at h
  split at h
  ·cases h
  ·rename_i t ht
   have h3:=isS3 h
   rcases zid (hr t (z1s ht).1) with q | q | q
   ·omega
   ·omega
   ·exact ⟨t,ht,q.2⟩
 rcases hp with hp | ⟨hp,hq⟩
 ·rw [hp] at h1
  obtain ⟨t,ht,h⟩:=key _ _ h1
  unfold tyF
  rw [hp]
  simpa [ht] using h
 ·rw [hq] at h2
  obtain ⟨t,ht,h⟩:=key _ _ h2
  unfold tyF
  rw [hp,hq]
  simpa [ht] using h
theorem zic {s:Int} (h:z3o s):(((z3z s).toNat:Int) != 45) = !(s==0):=by
 rcases h with rfl | rfl | rfl | rfl | rfl | rfl | rfl | rfl <;> rfl
theorem zwh {s:Int} (h:z3o s):(((z3z s).toNat:Int)==45)=(s==0):=by
 rcases h with rfl | rfl | rfl | rfl | rfl | rfl | rfl | rfl <;> rfl
theorem z9e (r:z2n):((z38 r).size:Int)=5:=rfl
theorem y1o (r:z2n):za (z38 r) 0=((z3z r.d).toNat:Int):=rfl
theorem y1p (r:z2n):za (z38 r) 1=((z3z r.a).toNat:Int):=rfl
theorem yb7 (r:z2n):za (z38 r) 2=((z3z r.b).toNat:Int):=rfl
theorem yb8 (r:z2n):za (z38 r) 3=((z3z r.c).toNat:Int):=rfl
theorem y1q (r:z2n):za (z38 r) 4=((z68 r.n).toNat:Int):=rfl
theorem z3s {c:Xe} {s k:Int} {d:Xb} (h:zr c s k d=true) (hs:(s==0)=false):∃ t,idx c.Regs_ k=some t:=by
 unfold zr at h
 rw [hs,cond_false] at h
 split at h
 ·cases h
 ·rename_i t ht; exact ⟨t,ht⟩
theorem y5c {n:Nat} {c:Xe} {i:Xd} (hr:∀ t ∈ c.Regs_,mayT c.Sign_ t=true) (h0:0≤i.Bits_) (h1:i.Bits_<4294967296):f59 n (c,i)=some (fits c i):=by
 rw [y5b,zjt]
 unfold fits
 cases h:rowD i.Op_ with
 | none=>rfl
 | some r =>
  obtain ⟨⟨s1,s2,s3,s4⟩,hn⟩:=zq8 h
  have n1:(0:Int)≤0∧(0:Int)<5:=by decide
  have n2:(0:Int)≤1∧(1:Int)<5:=by decide
  have n3:(0:Int)≤2∧(2:Int)<5:=by decide
  have n4:(0:Int)≤3∧(3:Int)<5:=by decide
  have n5:(0:Int)≤4∧(4:Int)<5:=by decide
  simp only [Option.bind_some,Bool.not_true,cond_false,zse _ h0 h1]
  have hB:(bif (i.Op_ != 1) then (bif (i.Bits_ != 0) then some (Sum.inl (z38 r,true)) else some (Sum.inl (z38 r,!z5r i.Bits_))) else some (Sum.inl (z38 r,!z5r i.Bits_)):Option (ByteArray×Bool⊕Bool))=some (.inl (z38 r,!(z6r i))):=by
   unfold z6r
   by_cases q:i.Op_=1
   ·simp [q]
   ·by_cases q2:i.Bits_=0
    ·have:z5r 0=true:=by decide
     simp [q,q2,this]
    ·have e1:(i.Op_==1)=false:=by simpa using q
     have e2:(i.Bits_==0)=false:=by simpa using q2
     simp [bne,e1,e2]
  rw [hB,Option.bind_some,orRet_inl]
  dsimp only
  cases hb:z6r i with
  | false=>simp
  | true =>
   simp only [Bool.not_true,cond_false,z9e,zo n1,y1o,zic s1,zfn s1 hr,Option.bind_some]
   have hD:(bif !(r.d==0) then (bif !(zr c r.d i.D_ ty0) then some (Sum.inr false) else (idx c.Regs_ i.D_).bind fun y5=>some (Sum.inl (z38 r,y5.Kind_,y5.Param_))) else (bif i.D_ != 0 then some (Sum.inr false) else some (Sum.inl (z38 r,0,0))):Option (ByteArray×Int×Int⊕Bool))
     = bif zr c r.d i.D_ ty0 then some (.inl (z38 r,(tyD c r i).Kind_,(tyD c r i).Param_)) else some (.inr false):=by
    cases hz:r.d==0 with
    | true =>
     have:zr c r.d i.D_ ty0=(i.D_==0):=by unfold zr; rw [hz]; rfl
     rw [this]
     unfold tyD
     rw [hz]
     have e:(i.D_ != 0) = !(i.D_==0):=rfl
     rw [e]
     cases i.D_==0 <;> rfl
    | false =>
     cases hq:zr c r.d i.D_ ty0 with
     | false=>simp
     | true =>
      obtain ⟨t,ht⟩:=z3s hq hz
      unfold tyD
      rw [hz,ht]
      simp
   rw [hD]
   cases hd:zr c r.d i.D_ ty0 with
   | false=>simp
   | true =>
    simp only [cond_true,Option.bind_some,orRet_inl,z9e,zo n2,zo n3,zo n4,y1p,yb7,yb8,zfn s2 hr,zfn s3 hr,zfn s4 hr,Bool.true_and]
    cases ha:zr c r.a i.A_ (tyD c r i) with
    | false=>simp
    | true =>
     cases hbb:zr c r.b i.B_ (tyD c r i) with
     | false=>simp
     | true =>
      cases hcc:zr c r.c i.C_ (tyD c r i) with
      | false=>simp
      | true =>
       simp only [cond_true,cond_false,Bool.not_true,Option.bind_some,orRet_inl,z9e,zo n1,zo n2,zo n5,y1o,y1p,y1q,zwh s1,zic s2,Bool.true_and]
       have hF:((bif r.d==0 then some (Sum.inl (z38 r,!(r.a==0),(tyD c r i).Kind_,(tyD c r i).Param_)) else some (Sum.inl (z38 r,false,(tyD c r i).Kind_,(tyD c r i).Param_)):Option (ByteArray×Bool×Int×Int⊕(ByteArray×Int×Int⊕Bool))).bind (zm fun s4=>bif s4.2.1 then (idx c.Regs_ i.A_).bind fun y9=>some (Sum.inl (s4.1,y9.Kind_,y9.Param_)) else some (Sum.inl (s4.1,s4.2.2.1,s4.2.2.2))))
         = some (.inl (z38 r,(tyF c r i).Kind_,(tyF c r i).Param_)):=by
        unfold tyF tyD
        cases hz:r.d==0 with
        | false=>simp
        | true =>
         cases hza:r.a==0 with
         | true=>simp
         | false =>
          obtain ⟨t,ht⟩:=z3s ha hza
          simp [ht]
       rw [hF]
       simp only [Option.bind_some,orRet_inl,z9e,zo n5,y1q]
       unfold nOk
       rcases hn with (hn | hn | hn | hn) | ⟨hn,hp⟩
       ·simp only [hn,z68]
        rfl
       ·simp only [hn,z68]
        show (bif decide (i.N_≥0) then some (decide (i.N_≤2147483647)) else some false)=some (decide (i.N_≥0) && decide (i.N_≤2147483647))
        cases decide (i.N_≥0) <;> rfl
       ·simp only [hn,z68]
        show (bif decide (i.N_≥0) then bif decide (i.N_<(c.Slots_.length:Int)) then (idx c.Slots_ i.N_).bind fun y11=>some (eqTy y11.Type_ (tyF c r i)) else some false else some false)=some (match idx c.Slots_ i.N_ with | some z=>eqTy z.Type_ (tyF c r i) | none=>false)
        by_cases q:i.N_≥0
        ·by_cases q2:i.N_<c.Slots_.length
         ·obtain ⟨y,hy,_⟩:=z2z (l:=c.Slots_) q q2
          simp [q,q2,hy]
         ·rw [z27 (by omega)]
          simp [q,q2]
        ·rw [z27 (by omega)]
         simp [q]
       ·simp only [hn,z68]
        show (bif decide (i.N_≥0) then some (decide (i.N_<(c.Sign_.length:Int))) else some false)=some (decide (i.N_≥0) && decide (i.N_<(c.Sign_.length:Int)))
        cases decide (i.N_≥0) <;> rfl
       ·have:=zq2 hr hp hd ha
        simp only [hn,z68]
        show ((f67 n (c,i.N_,(tyF c r i).Param_)).bind fun y10=>some y10)=_
        rw [y5p this]
        rfl
section
variable {n:Nat} {c:Xe} {i:Xd} {set:List Bool} {news:List (List Int)} {op:List Int}
theorem zdi {a b cc d e k dk dp fk fp s m:Int} (hk:k<4) (h1:idx [a,b,cc,d] k=some s) (h2:idx [i.D_,i.A_,i.B_,i.C_] k=some m) (hs:s ≠ 6) :
  zco n (c.Sign_,c.Regs_,c.Slots_,c.List_,set,news,op,i) (a,b,cc,d,e) (k,c.Sign_,c.Regs_,c.Slots_,c.List_,set,news,op,dk,dp,fk,fp) =
   some (bif zr c s m ⟨dk,dp⟩ then .go (IntKind.i64.wrap (k+1),c.Sign_,c.Regs_,c.Slots_,c.List_,set,news,op,
    (bif s==0 then dk else bif k==0 then ((idx c.Regs_ m).getD ty0).Kind_ else dk),(bif s==0 then dp else bif k==0 then ((idx c.Regs_ m).getD ty0).Param_ else dp),
    (bif s==0 then fk else bif k==0 then ((idx c.Regs_ m).getD ty0).Kind_ else bif k==1 then (bif a==0 then ((idx c.Regs_ m).getD ty0).Kind_ else fk) else fk),
    (bif s==0 then fp else bif k==0 then ((idx c.Regs_ m).getD ty0).Param_ else bif k==1 then (bif a==0 then ((idx c.Regs_ m).getD ty0).Param_ else fp) else fp))
    else .ret (c.Sign_,c.Regs_,c.Slots_,c.List_,set,news,op)):=by
 rw [zho]
 have hk':decide (k<4)=true:=by simpa using hk
 simp only [hk',cond_true,h1,h2,Option.bind_some]
 unfold zr
 cases hz:s==0 with
 | true =>
  simp only [cond_true]
  have e1:(m != 0) = !(m==0):=rfl
  rw [e1]
  cases m==0 <;> rfl
 | false =>
  simp only [cond_false,y52]
  cases hi:idx c.Regs_ m with
  | none=>rfl
  | some t =>
   simp only [Option.bind_some,Bool.not_true,cond_false,y54 _ _ _ hs]
   have e2:(⟨t.Kind_,t.Param_⟩:Xb)=t:=rfl
   simp only [e2,Option.bind_some,orRet_inl]
   cases isS t s ⟨dk,dp⟩ <;> cases (k==0) <;> cases (k==1) <;> cases (a==0) <;> rfl
theorem zj2 {s:Int} (h:z3o s):s ≠ 6:=by
 rcases h with rfl | rfl | rfl | rfl | rfl | rfl | rfl | rfl <;> decide
theorem w1:IntKind.i64.wrap (0+1)=1:=by decide
theorem w2:IntKind.i64.wrap (1+1)=2:=by decide
theorem w3:IntKind.i64.wrap (2+1)=3:=by decide
theorem w4:IntKind.i64.wrap (3+1)=4:=by decide
theorem y2p {a b cc d e dk dp fk fp:Int} :
  zco n (c.Sign_,c.Regs_,c.Slots_,c.List_,set,news,op,i) (a,b,cc,d,e) (4,c.Sign_,c.Regs_,c.Slots_,c.List_,set,news,op,dk,dp,fk,fp)=some (.out (4,c.Sign_,c.Regs_,c.Slots_,c.List_,set,news,op,dk,dp,fk,fp)):=by
 rw [zho]; rfl
theorem zxu {r:z2n} (m:Nat) (h:z3o r.d∧z3o r.a∧z3o r.b∧z3o r.c) :
  iter (zco n (c.Sign_,c.Regs_,c.Slots_,c.List_,set,news,op,i) (r.d,r.a,r.b,r.c,r.n)) (m+5) (0,c.Sign_,c.Regs_,c.Slots_,c.List_,set,news,op,0,0,0,0) =
   some (bif zr c r.d i.D_ ty0 && (zr c r.a i.A_ (tyD c r i) && (zr c r.b i.B_ (tyD c r i) && zr c r.c i.C_ (tyD c r i))) then
    .out (4,c.Sign_,c.Regs_,c.Slots_,c.List_,set,news,op,(tyD c r i).Kind_,(tyD c r i).Param_,(tyF c r i).Kind_,(tyF c r i).Param_) else .ret (c.Sign_,c.Regs_,c.Slots_,c.List_,set,news,op)):=by
 obtain ⟨h1,h2,h3,h4⟩:=h
 have eD:∀ b:Bool,b=(r.d==0)→(⟨bif b then 0 else ((idx c.Regs_ i.D_).getD ty0).Kind_,bif b then 0 else ((idx c.Regs_ i.D_).getD ty0).Param_⟩:Xb)=tyD c r i:=by
  intro b hb; unfold tyD; rw [← hb]; cases b <;> rfl
 unfold iter
 rw [zdi (s:=r.d) (m:=i.D_) (by decide) rfl rfl (zj2 h1)]
 have e0:(⟨0,0⟩:Xb)=ty0:=rfl
 rw [e0]
 cases zr c r.d i.D_ ty0 with
 | false=>rfl
 | true =>
  have k0:((0:Int)==0)=true:=by decide
  simp only [cond_true,w1,k0,Bool.true_and]
  unfold iter
  rw [zdi (s:=r.a) (m:=i.A_) (by decide) rfl rfl (zj2 h2),eD _ rfl]
  cases zr c r.a i.A_ (tyD c r i) with
  | false=>rfl
  | true =>
   have k1:((1:Int)==0)=false:=by decide
   have k2:((1:Int)==1)=true:=by decide
   simp only [cond_true,w2,k1,k2,cond_false,Bool.true_and,Bool.cond_self]
   unfold iter
   rw [zdi (s:=r.b) (m:=i.B_) (by decide) rfl rfl (zj2 h3),eD _ rfl]
   cases zr c r.b i.B_ (tyD c r i) with
   | false=>rfl
   | true =>
    have k3:((2:Int)==0)=false:=by decide
    have k4:((2:Int)==1)=false:=by decide
    simp only [cond_true,w3,k3,k4,cond_false,Bool.true_and,Bool.cond_self]
    unfold iter
    rw [zdi (s:=r.c) (m:=i.C_) (by decide) rfl rfl (zj2 h4),eD _ rfl]
    cases zr c r.c i.C_ (tyD c r i) with
    | false=>rfl
    | true =>
     have k5:((3:Int)==0)=false:=by decide
     have k6:((3:Int)==1)=false:=by decide
     simp only [cond_true,w4,k5,k6,cond_false,Bool.true_and,Bool.cond_self]
     unfold iter
     rw [y2p]
     simp only
     congr 13
     all_goals
      first
      | (unfold tyD; cases r.d==0 <;> rfl)
      | (unfold tyF; cases r.d==0 <;> cases r.a==0 <;> rfl)
theorem y4m (m:Nat) (hr:∀ t ∈ c.Regs_,mayT c.Sign_ t=true) (h0:0≤i.Bits_) (h1:i.Bits_<4294967296) :
  f35 (m+5) (c.Sign_,c.Regs_,c.Slots_,c.List_,set,news,op,i)=some (fits c i,c.Sign_,c.Regs_,c.Slots_,c.List_,set,news,op):=by
 rw [y4l,zjs]
 unfold fits
 cases h:rowD i.Op_ with
 | none=>rfl
 | some r =>
  obtain ⟨hs,hn⟩:=zq8 h
  simp only [Option.bind_some,Bool.not_true,cond_false,zxu m hs,zsc _ h0 h1]
  cases hd:zr c r.d i.D_ ty0 with
  | false=>rfl
  | true =>
  cases ha:zr c r.a i.A_ (tyD c r i) with
  | false=>rfl
  | true =>
  cases hbb:zr c r.b i.B_ (tyD c r i) with
  | false=>rfl
  | true =>
  cases hcc:zr c r.c i.C_ (tyD c r i) with
  | false=>rfl
  | true =>
   simp only [Bool.true_and,cond_true,Option.bind_some,Bo.then]
   have hB:(bif (i.Op_==1) then (bif (!z5r i.Bits_) then some (Sum.inl (true,c.Sign_,c.Regs_,c.Slots_,c.List_,set,news,op,r.d,r.a,r.b,r.c,r.n,(tyF c r i).Kind_,(tyF c r i).Param_))
     else (bif i.Op_ != 1 then some (.inl (i.Bits_ != 0,c.Sign_,c.Regs_,c.Slots_,c.List_,set,news,op,r.d,r.a,r.b,r.c,r.n,(tyF c r i).Kind_,(tyF c r i).Param_)) else some (.inl (false,c.Sign_,c.Regs_,c.Slots_,c.List_,set,news,op,r.d,r.a,r.b,r.c,r.n,(tyF c r i).Kind_,(tyF c r i).Param_))))
     else (bif i.Op_ != 1 then some (.inl (i.Bits_ != 0,c.Sign_,c.Regs_,c.Slots_,c.List_,set,news,op,r.d,r.a,r.b,r.c,r.n,(tyF c r i).Kind_,(tyF c r i).Param_)) else some (.inl (false,c.Sign_,c.Regs_,c.Slots_,c.List_,set,news,op,r.d,r.a,r.b,r.c,r.n,(tyF c r i).Kind_,(tyF c r i).Param_))) :
      Option ((Bool×List Xa×List Xb×List Xc×List Xd×List Bool×List (List Int)×List Int×Int×Int×Int×Int×Int×Int×Int)⊕(Bool×List Xa×List Xb×List Xc×List Xd×List Bool×List (List Int)×List Int)))
     = some (.inl (!(z6r i),c.Sign_,c.Regs_,c.Slots_,c.List_,set,news,op,r.d,r.a,r.b,r.c,r.n,(tyF c r i).Kind_,(tyF c r i).Param_)):=by
    unfold z6r
    have e1:(i.Op_ != 1) = !(i.Op_==1):=rfl
    have e2:(i.Bits_ != 0) = !(i.Bits_==0):=rfl
    rw [e1,e2]
    cases i.Op_==1 <;> cases z5r i.Bits_ <;> rfl
   rw [hB,Option.bind_some,orRet_inl]
   dsimp only
   cases hb:z6r i with
   | false=>rfl
   | true =>
    simp only [Bool.not_true,cond_false,Bool.true_and]
    unfold nOk
    rcases hn with (hn | hn | hn | hn) | ⟨hn,hp⟩
    ·rw [hn]; rfl
    ·rw [hn]
     show (bif decide (i.N_≥0) then some (decide (i.N_≤2147483647),c.Sign_,c.Regs_,c.Slots_,c.List_,set,news,op) else some (false,c.Sign_,c.Regs_,c.Slots_,c.List_,set,news,op))=some (decide (i.N_≥0) && decide (i.N_≤2147483647),c.Sign_,c.Regs_,c.Slots_,c.List_,set,news,op)
     cases decide (i.N_≥0) <;> rfl
    ·rw [hn]
     show (bif decide (i.N_≥0) then bif decide (i.N_<(c.Slots_.length:Int)) then (idx c.Slots_ i.N_).bind fun y11=>some (eqTy y11.Type_ (tyF c r i),c.Sign_,c.Regs_,c.Slots_,c.List_,set,news,op) else some (false,c.Sign_,c.Regs_,c.Slots_,c.List_,set,news,op) else some (false,c.Sign_,c.Regs_,c.Slots_,c.List_,set,news,op))=some ((match idx c.Slots_ i.N_ with | some z=>eqTy z.Type_ (tyF c r i) | none=>false),c.Sign_,c.Regs_,c.Slots_,c.List_,set,news,op)
     by_cases q:i.N_≥0
     ·by_cases q2:i.N_<c.Slots_.length
      ·obtain ⟨y,hy,_⟩:=z2z (l:=c.Slots_) q q2
       simp [q,q2,hy]
      ·rw [z27 (by omega)]
       simp [q,q2]
     ·rw [z27 (by omega)]
      simp [q]
    ·rw [hn]
     show (bif decide (i.N_≥0) then some (decide (i.N_<(c.Sign_.length:Int)),c.Sign_,c.Regs_,c.Slots_,c.List_,set,news,op) else some (false,c.Sign_,c.Regs_,c.Slots_,c.List_,set,news,op))=some (decide (i.N_≥0) && decide (i.N_<(c.Sign_.length:Int)),c.Sign_,c.Regs_,c.Slots_,c.List_,set,news,op)
     cases decide (i.N_≥0) <;> rfl
    ·obtain ⟨p1,p2⟩:=zq2 hr hp hd ha
     obtain ⟨y,hy,_⟩:=z2z (l:=c.Sign_) p1 p2
     rw [hn]
     show (bif i.N_==0 then some (true,c.Sign_,c.Regs_,c.Slots_,c.List_,set,news,op) else bif i.N_==1 then (idx c.Sign_ (tyF c r i).Param_).bind fun y8=>some (y8.Kind_==2,c.Sign_,c.Regs_,c.Slots_,c.List_,set,news,op) else some (false,c.Sign_,c.Regs_,c.Slots_,c.List_,set,news,op))=some ((i.N_==0 || (i.N_==1 && (match idx c.Sign_ (tyF c r i).Param_ with | some p=>p.Kind_==2 | none=>false))),c.Sign_,c.Regs_,c.Slots_,c.List_,set,news,op)
     rw [hy]
     cases (i.N_==0) <;> cases (i.N_==1) <;> simp
end
theorem zfy {α Y Z:Type} {l:List α} {p:α→Bool} {body:Int→Option (Bo Int Y Z)} {z:Int→Z} {y:Y}
  (hb:∀ (k:Nat) (h:k<l.length),body k=some (bif p l[k] then .go ((k+1:Nat):Int) else .ret (z k))) (he:body l.length=some (.out y)) :
  ∀ (j k f:Nat),k+j=l.length→j<f→iter body f (k:Int)=some (match (l.drop k).findIdx? (fun x=>!p x) with | none=>.out y | some i=>.ret (z ((k+i:Nat):Int)))
 | 0,k,f+1,hk,hf=>by
  obtain rfl:k=l.length:=by omega
  unfold iter
  rw [he]
  simp
 | j+1,k,f+1,hk,hf=>by
  have h:k<l.length:=by omega
  unfold iter
  rw [hb k h,List.drop_eq_getElem_cons h]
  cases hp:p l[k] with
  | false =>
   simp only [cond_false,List.findIdx?_cons,hp,Bool.not_false,if_true]
   rfl
  | true =>
   simp only [cond_true]
   rw [zfy hb he j (k+1) f (by omega) (by omega)]
   rw [List.findIdx?_cons]
   simp only [hp,Bool.not_true,cond_false,Bool.false_eq_true,if_false]
   cases (l.drop (k+1)).findIdx? (fun x=>!p x) with
   | none=>rfl
   | some i=>simp only [Option.map_some]; congr 4; omega
theorem zy5 {α Y Z:Type} {l:List α} {p:α→Bool} {body:Int→Option (Bo Int Y Z)} {z:Int→Z} {y:Y} {f:Nat}
  (hb:∀ (k:Nat) (h:k<l.length),body k=some (bif p l[k] then .go ((k+1:Nat):Int) else .ret (z k))) (he:body l.length=some (.out y)) (hf:l.length<f) :
  iter body f 0=some (match l.findIdx? (fun x=>!p x) with | none=>.out y | some i=>.ret (z (i:Int))):=by
 have:=zfy hb he l.length 0 f (by omega) hf
 simpa using this
theorem zej {α:Type} (l:List α) (p:α→Bool):(l.findIdx? (fun x=>!p x)).isNone=l.all p:=by
 induction l with
 | nil=>rfl
 | cons x l ih =>
  rw [List.findIdx?_cons,List.all_cons,← ih]
  cases p x <;> simp
theorem z3q {α Y Z:Type} {l:List α} {p:α→Bool} {body:Int→Option (Bo Int Y Z)} {z:Z} {y:Y} {f:Nat}
  (hb:∀ (k:Nat) (h:k<l.length),body k=some (bif p l[k] then .go ((k+1:Nat):Int) else .ret z)) (he:body l.length=some (.out y)) (hf:l.length<f) :
  iter body f 0=some (bif l.all p then .out y else .ret z):=by
 rw [zy5 (z:=fun _=>z) hb he hf,← zej]
 cases l.findIdx? (fun x=>!p x) <;> rfl
theorem ze9 {α S Z:Type} {l:List α} {F:S→α→S} {Inv:S→Prop} {body:Int×S→Option (Bo (Int×S) (Int×S) Z)}
  (hb:∀ (k:Nat) (s:S) (h:k<l.length),Inv s→body (k,s)=some (.go (((k+1:Nat):Int),F s l[k]))∧Inv (F s l[k])) (he:∀ s,Inv s→body (l.length,s)=some (.out ((l.length:Int),s))) :
  ∀ (j k f:Nat) (s:S),k+j=l.length→j<f→Inv s→iter body f ((k:Int),s)=some (.out ((l.length:Int),(l.drop k).foldl F s))
 | 0,k,f+1,s,hk,hf,hi=>by
  obtain rfl:k=l.length:=by omega
  unfold iter
  rw [he s hi]
  simp
 | j+1,k,f+1,s,hk,hf,hi=>by
  have h:k<l.length:=by omega
  obtain ⟨h1,h2⟩:=hb k s h hi
  unfold iter
  rw [h1,List.drop_eq_getElem_cons h]
  exact ze9 hb he j (k+1) f _ (by omega) (by omega) h2
theorem zwe {α S Z:Type} {l:List α} {F:S→α→S} {Inv:S→Prop} {body:Int×S→Option (Bo (Int×S) (Int×S) Z)} {f:Nat} {s:S}
  (hb:∀ (k:Nat) (s:S) (h:k<l.length),Inv s→body (k,s)=some (.go (((k+1:Nat):Int),F s l[k]))∧Inv (F s l[k])) (he:∀ s,Inv s→body (l.length,s)=some (.out ((l.length:Int),s)))
  (hf:l.length<f) (hi:Inv s):iter body f (0,s)=some (.out ((l.length:Int),l.foldl F s)):=by
 have:=ze9 hb he l.length 0 f s (by omega) hf hi
 simpa using this
theorem z11 {k:Nat} (h:k<4611686018427387904):IntKind.i64.wrap ((k:Int)+1)=((k+1:Nat):Int):=by
 rw [zc1 (by omega) (by omega)]; simp
theorem ybl {k:Nat} (h:k<4611686018427387904):IntKind.i64.wrap ((k:Int) - 1)=(k:Int) - 1:=zc1 (by omega) (by omega)
theorem z9a (i:Xd):(z1b i).length≤3:=by
 unfold z1b
 split
 ·rename_i r _
  cases r.a==0 <;> cases r.b==0 <;> cases r.c==0 <;> simp
 ·simp
theorem zbc {c:Xe} {i:Xd} (h:fits c i=true):∃ r,rowD i.Op_=some r∧zr c r.d i.D_ ty0=true∧zr c r.a i.A_ (tyD c r i)=true∧zr c r.b i.B_ (tyD c r i)=true∧zr c r.c i.C_ (tyD c r i)=true:=by
 unfold fits at h
 split at h
 ·cases h
 ·rename_i r hr
  simp only [Bool.and_eq_true] at h
  exact ⟨r,hr,h.1,h.2.1,h.2.2.1,h.2.2.2.1⟩
theorem zbw {c:Xe} {s k:Int} {d:Xb} (h:zr c s k d=true) (hs:(s==0)=false):0≤k∧k<c.Regs_.length:=by
 obtain ⟨t,ht⟩:=z3s h hs
 exact (z1s ht).2
theorem zmh {c:Xe} {i:Xd} (h:fits c i=true):∀ y ∈ z1b i,0≤y∧y<c.Regs_.length:=by
 obtain ⟨r,hr,h1,h2,h3,h4⟩:=zbc h
 intro y hy
 unfold z1b at hy
 rw [hr] at hy
 simp only [List.mem_append] at hy
 rcases hy with hy | hy | hy
 ·cases hz:r.a==0 with
  | true=>rw [hz] at hy; cases hy
  | false =>
   rw [hz] at hy
   simp only [cond_false,List.mem_singleton] at hy
   subst hy; exact zbw h2 hz
 ·cases hz:r.b==0 with
  | true=>rw [hz] at hy; cases hy
  | false =>
   rw [hz] at hy
   simp only [cond_false,List.mem_singleton] at hy
   subst hy; exact zbw h3 hz
 ·cases hz:r.c==0 with
  | true=>rw [hz] at hy; cases hy
  | false =>
   rw [hz] at hy
   simp only [cond_false,List.mem_singleton] at hy
   subst hy; exact zbw h4 hz
theorem zh8 {c:Xe} {i:Xd} (h:fits c i=true) (hs:sets i=true):0≤i.D_∧i.D_<c.Regs_.length:=by
 obtain ⟨r,hr,h1,_⟩:=zbc h
 unfold sets at hs
 rw [hr] at hs
 simp only [Bool.not_eq_true'] at hs
 exact zbw h1 hs
def rdOk (set:List Bool) (i:Xd):Bool:=(z1b i).all fun y=>(set[y.toNat]?).getD false
theorem zah {α:Type} {l:List α} {y:Int} (h0:0≤y) (h1:y<l.length):∃ b,l[y.toNat]? = some b:=by
 have:y.toNat<l.length:=by omega
 exact ⟨_,List.getElem?_eq_getElem this⟩
theorem zjw {n m:Nat} {c:Xe} {i:Xd} {set:List Bool} {news:List (List Int)} {op:List Int}
  (h:∀ y ∈ z1b i,0≤y∧y<set.length) :
  iter (zjv n (c.Sign_,c.Regs_,c.Slots_,c.List_,set,news,op,i) (((z1b i).length:Int),z1b i)) (m+4) 0=some (bif rdOk set i then .out ((z1b i).length:Int) else .ret ()):=by
 refine z3q (fun k hk=>?_) ?_ (by have:=z9a i; omega)
 ·have h3:=z9a i
  obtain ⟨y0,y1⟩:=h _ (List.getElem_mem hk)
  obtain ⟨b,hb⟩:=zah y0 y1
  rw [zhq]
  have e1:decide ((k:Int)<((z1b i).length:Int))=true:=by simp; omega
  have e2:(z1b i)[(k:Int).toNat]? = some (z1b i)[k]:=by simp [hk]
  simp only [e1,cond_true]
  rw [zo (by omega),e2]
  simp only [Option.bind_some]
  rw [zo ⟨y0,y1⟩,hb,z11 (by omega)]
  cases b <;> rfl
 ·rw [zhq]; simp
theorem zy0 {n m:Nat} {c:Xe} {i:Xd} {set:List Bool} {op:List Xg} {b0:Bool} (h:∀ y ∈ z1b i,0≤y∧y<set.length) :
  iter (zjz n (c,i,set,op) (b0,z1b i)) (m+4) 0=some (bif rdOk set i then .out ((z1b i).length:Int) else .ret ()):=by
 refine z3q (fun k hk=>?_) ?_ (by have:=z9a i; omega)
 ·have h3:=z9a i
  obtain ⟨y0,y1⟩:=h _ (List.getElem_mem hk)
  obtain ⟨b,hb⟩:=zah y0 y1
  rw [zht]
  have e1:decide ((k:Int)<((z1b i).length:Int))=true:=by simp; omega
  have e2:(z1b i)[(k:Int).toNat]? = some (z1b i)[k]:=by simp [hk]
  have e3:idx set (z1b i)[k]=some b:=by unfold idx; rw [if_pos y0,hb]
  simp only [e1,cond_true]
  rw [zo (by omega),e2]
  simp only [Option.bind_some]
  rw [e3,z11 (by omega),hb]
  cases b <;> rfl
 ·rw [zht]; simp
def lst (op:List Int):Int:=match op.getLast? with | some x=>x | none=>-1
def undo (set:List Bool) (l:List Int):List Bool:=l.foldl (fun s r=>s.set r.toNat false) set
def zdz (c:Xe) (k p:Int):Bool:=match idx c.Regs_ k with | some t=>t.Kind_==3 && (t.Param_==p && true) | none=>false
def onD (i:Xd):Bool:=elem i.Op_ || (i.Op_==29 || (i.Op_==30 || i.Op_==32))
def onA (i:Xd):Bool:=i.Op_==31 || i.Op_==33
def zbz (c:Xe) (i:Xd) (p:Int):Bool:=bif onD i then zdz c i.D_ p else bif onA i then zdz c i.A_ p else false
theorem z58 {α:Type} (l:List α) (h:0<l.length):∃ x,l.getLast? = some x∧l[l.length - 1]? = some x:=by
 rw [List.getLast?_eq_getElem?]
 exact ⟨l[l.length - 1],by simp [h],by simp [h]⟩
theorem z7u {k:Nat} (h0:0<k) (h:k<4611686018427387904):(IntKind.i64.wrap ((k:Int) - 1)).toNat=k - 1∧0≤IntKind.i64.wrap ((k:Int) - 1)∧IntKind.i64.wrap ((k:Int) - 1)<k:=by
 rw [ybl h]; omega
theorem zg1 {R:Type} (op:List Int) (h:op.length<4611686018427387904):(bif (decide ((op.length:Int) > (0:Int))) then (need (0≤(IntKind.i64.wrap ((op.length:Int) - (1:Int)))∧(IntKind.i64.wrap ((op.length:Int) - (1:Int)))<(op.length:Int)) ((op[(IntKind.i64.wrap ((op.length:Int) - (1:Int))).toNat]?).bind fun y1=>some (.inl y1))) else (some (.inl (-1:Int))):Option (Int⊕R))=some (.inl (lst op)):=by
 by_cases h0:0<op.length
 ·have e:decide ((op.length:Int) > 0)=true:=by simp; omega
  obtain ⟨w1,w2,w3⟩:=z7u h0 h
  obtain ⟨x,x1,x2⟩:=z58 op h0
  rw [e,cond_true,zo ⟨w2,w3⟩,w1,x2]
  unfold lst
  rw [x1]; rfl
 ·have:op=[]:=List.eq_nil_of_length_eq_zero (by omega)
  subst this
  rfl
section
variable {n:Nat} {c:Xe} {i:Xd} {set:List Bool} {news:List (List Int)} {op:List Int}
theorem zxy (ho:op.length<4611686018427387904) (h:i.Op_=34):f36 n (c.Sign_,c.Regs_,c.Slots_,c.List_,set,news,op,i)=some (!(decide (lst op≥0) || (op.length:Int)==64),c.Sign_,c.Regs_,c.Slots_,c.List_,set,news,op):=by
 rw [zcp]
 dsimp only
 rw [zg1 op ho,h]
 have e1:((34:Int)==34)=true:=rfl
 have e2:((34:Int)==36)=false:=rfl
 simp only [Option.bind_some,orRet_inl,e1,e2,cond_true,cond_false]
 cases decide (lst op≥0) <;> cases ((op.length:Int)==64) <;> rfl
theorem zxw (ho:op.length≤64) (h:i.Op_=36):f36 n (c.Sign_,c.Regs_,c.Slots_,c.List_,set,news,op,i)=some (!(decide (lst op≥0) || (op.length:Int)==64),c.Sign_,c.Regs_,c.Slots_,c.List_,set,news,bif (decide (lst op≥0) || (op.length:Int)==64) then op else op++[i.N_]):=by
 rw [zcp]
 dsimp only
 rw [zg1 op (by omega),h]
 have e1:((36:Int)==34)=false:=rfl
 have e2:((36:Int)==36)=true:=rfl
 simp only [Option.bind_some,orRet_inl,e1,e2,cond_true,cond_false]
 rw [zo (by simp; omega)]
 cases decide (lst op≥0) <;> cases ((op.length:Int)==64) <;> rfl
theorem zxx (ho:op.length≤64) (h:i.Op_=37):f36 n (c.Sign_,c.Regs_,c.Slots_,c.List_,set,news,op,i)=some (!(decide (lst op<0)),c.Sign_,c.Regs_,c.Slots_,c.List_,set,news,bif decide (lst op<0) then op else op.dropLast):=by
 rw [zcp]
 dsimp only
 rw [zg1 op (by omega),h]
 have e1:((37:Int)==34)=false:=rfl
 have e2:((37:Int)==36)=false:=rfl
 have e3:((37:Int)==35)=false:=rfl
 have e4:((37:Int)==37)=true:=rfl
 simp only [Option.bind_some,orRet_inl,e1,e2,e3,e4,cond_true,cond_false]
 cases hl:decide (lst op<0) with
 | true=>rfl
 | false =>
  have h0:0<op.length:=by
   cases op with
   | nil=>simp [lst] at hl
   | cons _ _=>simp
  obtain ⟨w1,w2,w3⟩:=z7u h0 (by omega)
  rw [cond_false,zo ⟨w2,by omega⟩,w1,zo (by omega)]
  simp [List.dropLast_eq_take]
theorem zxv (ho:op.length≤64) (hf:fits c i=true) (h1:i.Op_ ≠ 34) (h2:i.Op_ ≠ 35) (h3:i.Op_ ≠ 36) (h4:i.Op_ ≠ 37) (hD:onD i=true→∃ t,idx c.Regs_ i.D_=some t) (hA:onA i=true→∃ t,idx c.Regs_ i.A_=some t) :
  f36 n (c.Sign_,c.Regs_,c.Slots_,c.List_,set,news,op,i)=some ((bif decide (lst op<0) then true else zbz c i (lst op)),c.Sign_,c.Regs_,c.Slots_,c.List_,set,news,op):=by
 rw [zcp]
 dsimp only
 rw [zg1 op (by omega)]
 have e1:(i.Op_==34)=false:=by simpa using h1
 have e2:(i.Op_==36)=false:=by simpa using h3
 have e3:(i.Op_==35)=false:=by simpa using h2
 have e4:(i.Op_==37)=false:=by simpa using h4
 simp only [Option.bind_some,orRet_inl,e1,e2,e3,e4,cond_true,cond_false,zs4]
 cases hl:decide (lst op<0) with
 | true=>rfl
 | false =>
  simp only [cond_false]
  have hB:(bif elem i.Op_ then some (Sum.inl (true,lst op)) else bif i.Op_==29 then some (.inl (true,lst op)) else bif i.Op_==30 then some (.inl (true,lst op)) else some (.inl (i.Op_==32,lst op)):Option (Bool×Int⊕(Bool×List Xa×List Xb×List Xc×List Xd×List Bool×List (List Int)×List Int)))=some (.inl (onD i,lst op)):=by
   unfold onD
   cases elem i.Op_ <;> cases i.Op_==29 <;> cases i.Op_==30 <;> rfl
  rw [hB,Option.bind_some,orRet_inl]
  dsimp only
  unfold zbz
  cases hd:onD i with
  | true =>
   obtain ⟨t,ht⟩:=hD hd
   simp only [cond_true,zdz,ht,Option.bind_some]
  | false =>
   simp only [cond_false]
   have hB2:(bif i.Op_==31 then some (Sum.inl (true,lst op)) else some (.inl (i.Op_==33,lst op)):Option (Bool×Int⊕(Bool×List Xa×List Xb×List Xc×List Xd×List Bool×List (List Int)×List Int)))=some (.inl (onA i,lst op)):=by
    unfold onA
    cases i.Op_==31 <;> rfl
   rw [hB2,Option.bind_some,orRet_inl]
   dsimp only
   cases ha:onA i with
   | true =>
    obtain ⟨t,ht⟩:=hA ha
    simp only [cond_true,zdz,ht,Option.bind_some]
   | false=>rfl
theorem zms (set:List Bool) (l:List Int):(undo set l).length=set.length:=by
 unfold undo
 induction l generalizing set with
 | nil=>rfl
 | cons x l ih=>simp only [List.foldl_cons]; rw [ih]; simp
theorem y2q {m:Nat} {nl:List Int} (ho:op.length≤64) (h:i.Op_=35) (hn:0<op.length→lst op<0→news.getLast? = some nl∧news.length<4611686018427387904∧nl.length<m+4∧nl.length<4611686018427387904∧∀ r ∈ nl,0≤r∧r<set.length) :
  f36 (m+4) (c.Sign_,c.Regs_,c.Slots_,c.List_,set,news,op,i)=some (!((op.length:Int)==0 || decide (lst op≥0)),c.Sign_,c.Regs_,c.Slots_,c.List_,bif ((op.length:Int)==0 || decide (lst op≥0)) then (set,news,op) else (undo set nl,news.dropLast,op.dropLast)):=by
 rw [zcp]
 dsimp only
 rw [zg1 op (by omega),h]
 have e1:((35:Int)==34)=false:=rfl
 have e2:((35:Int)==36)=false:=rfl
 have e3:((35:Int)==35)=true:=rfl
 simp only [Option.bind_some,orRet_inl,e1,e2,e3,cond_true,cond_false]
 have hB:(bif ((op.length:Int)==0) then some (Sum.inl true) else some (.inl (decide (lst op≥0))):Option (Bool⊕(Bool×List Xa×List Xb×List Xc×List Xd×List Bool×List (List Int)×List Int)))=some (.inl ((op.length:Int)==0 || decide (lst op≥0))):=by
  cases (op.length:Int)==0 <;> rfl
 rw [hB,Option.bind_some,orRet_inl]
 cases hq:((op.length:Int)==0 || decide (lst op≥0)) with
 | true=>rfl
 | false =>
  simp only [Bool.or_eq_false_iff,beq_eq_false_iff_ne,ne_eq,decide_eq_false_iff_not] at hq
  have h0:0<op.length:=by omega
  obtain ⟨n1,n2,n3,n4,n5⟩:=hn h0 (by omega)
  have hnl:0<news.length:=by
   cases news with
   | nil=>simp at n1
   | cons _ _=>simp
  obtain ⟨w1,w2,w3⟩:=z7u h0 (by omega)
  obtain ⟨v1,v2,v3⟩:=z7u hnl n2
  have hg:news[news.length - 1]? = some nl:=by rw [← List.getLast?_eq_getElem?]; exact n1
  simp only [cond_false]
  rw [zo ⟨v2,v3⟩,v1,hg]
  simp only [Option.bind_some]
  have hit:iter (zju (m+4) (c.Sign_,c.Regs_,c.Slots_,c.List_,set,news,op,i) (nl.length:Int)) (m+4) (0,set)=some (.out ((nl.length:Int),undo set nl)):=by
   refine zwe (F:=fun (s:List Bool) (r:Int)=>s.set r.toNat false) (Inv:=fun (s:List Bool)=>s.length=set.length) (fun k s hk hs=>?_) (fun s hs=>?_) n3 rfl
   ·obtain ⟨r0,r1⟩:=n5 _ (List.getElem_mem hk)
    obtain ⟨b,hb⟩:=zah (l:=s) r0 (by omega)
    rw [zhp]
    have e1:decide ((k:Int)<(nl.length:Int))=true:=by simp; omega
    have e2:nl[(k:Int).toNat]? = some nl[k]:=by simp [hk]
    dsimp only
    rw [e1,v1,hg]
    simp only [cond_true,Option.bind_some]
    rw [zo (by omega),e2]
    simp only [Option.bind_some]
    rw [zo ⟨r0,by omega⟩,hb,z11 (by omega)]
    exact ⟨rfl,by simpa using hs⟩
   ·rw [zhp]; simp
  rw [hit]
  simp only [Option.bind_some,Bo.then]
  rw [zo ⟨v2,by omega⟩,zo (by omega),zo ⟨w2,by omega⟩,w1,zo (by omega)]
  simp [List.dropLast_eq_take]
end
def z7w (news:List (List Int)) (d:Int):List (List Int):=match news.getLast? with | some l=>news.set (news.length - 1) (l++[d]) | none=>news
section
variable {n:Nat} {c:Xe} {i:Xd} {set:List Bool} {news:List (List Int)} {op:List Int}
theorem zxz {m:Nat} (h:i.Op_=34) (hr:∀ y ∈ z1b i,0≤y∧y<set.length) (ho:op.length≤64) (hn:news.length≤64) :
  f37 (m+4) (c.Sign_,c.Regs_,c.Slots_,c.List_,set,news,op,i)=some (rdOk set i,c.Sign_,c.Regs_,c.Slots_,c.List_,set,bif rdOk set i then news++[[]] else news,bif rdOk set i then op++[-1] else op):=by
 rw [zs8]
 dsimp only
 rw [zz4]
 simp only [Option.bind_some]
 rw [zjw hr]
 cases rdOk set i with
 | false=>rfl
 | true =>
  have e1:((34:Int)==34)=true:=rfl
  have hs:sets i=false:=by
   unfold sets; rw [h]; rfl
  simp only [cond_true,Option.bind_some,Bo.then,h,e1]
  rw [zo (by simp; omega),zo (by simp; omega)]
  simp only [Option.bind_some,orRet_inl,zs0,hs,cond_false]
theorem zb6 {m:Nat} (h:i.Op_ ≠ 34) (hr:∀ y ∈ z1b i,0≤y∧y<set.length) (hD:sets i=true→0≤i.D_∧i.D_<set.length) (hn:news.length≤64) (hnl:∀ l ∈ news,l.length<1000000) :
  f37 (m+4) (c.Sign_,c.Regs_,c.Slots_,c.List_,set,news,op,i)=some (rdOk set i,c.Sign_,c.Regs_,c.Slots_,c.List_,bif rdOk set i && (sets i && !((set[i.D_.toNat]?).getD false)) then (set.set i.D_.toNat true,z7w news i.D_,op) else (set,news,op)):=by
 rw [zs8]
 dsimp only
 rw [zz4]
 simp only [Option.bind_some]
 rw [zjw hr]
 cases rdOk set i with
 | false=>rfl
 | true =>
  have e1:(i.Op_==34)=false:=by simpa using h
  simp only [cond_true,Option.bind_some,Bo.then,e1,cond_false,orRet_inl,zs0]
  cases hs:sets i with
  | false=>rfl
  | true =>
   obtain ⟨d0,d1⟩:=hD hs
   obtain ⟨b,hb⟩:=zah d0 d1
   simp only [cond_true]
   rw [zo ⟨d0,d1⟩,hb]
   simp only [Option.bind_some,orRet_inl,Option.getD_some]
   cases b with
   | true=>rfl
   | false =>
    simp only [Bool.not_false,cond_true,Bool.and_self]
    rw [zo ⟨d0,d1⟩]
    by_cases h0:0<news.length
    ·obtain ⟨w1,w2,w3⟩:=z7u h0 (by omega)
     obtain ⟨l,l1,l2⟩:=z58 news h0
     have e2:decide (IntKind.i64.wrap ((news.length:Int) - 1)≥0)=true:=by simpa using w2
     have hl:l.length<1000000:=hnl l (List.mem_of_getLast? l1)
     rw [e2,cond_true,zo ⟨w2,w3⟩,w1,l2]
     simp only [Option.bind_some]
     rw [zo (by simp; omega),zo ⟨w2,w3⟩,zo (p:=True∧news.length - 1<news.length) ⟨trivial,by omega⟩]
     unfold z7w
     rw [l1]
    ·have:news=[]:=List.eq_nil_of_length_eq_zero (by omega)
     subst this
     rfl
end
def vecP (c:Xe) (i:Xd):Int:=match idx c.Regs_ (bif onD i then i.D_ else bif onA i then i.A_ else -1) with | some t=>bif t.Kind_==3 then t.Param_ else -1 | none=>-1
theorem y5e {n:Nat} {c:Xe} {i:Xd}:f60 n (c,i)=some (vecP c i):=by
 rw [y5d]
 simp only [y46,Option.bind_some]
 have hB:((bif elem i.Op_ then some (Sum.inl true) else bif i.Op_==29 then some (.inl true) else bif i.Op_==30 then some (.inl true) else some (.inl (i.Op_==32)):Option (Bool⊕(Int⊕Int))).bind (zm fun s1=>bif s1 then some (Sum.inl i.D_) else (bif i.Op_==31 then some (Sum.inl true) else some (.inl (i.Op_==33)):Option (Bool⊕(Int⊕Int))).bind (zm fun s2=>bif s2 then some (Sum.inl i.A_) else some (.inl (-1:Int)))))
   = some (.inl (bif onD i then i.D_ else bif onA i then i.A_ else -1)):=by
  unfold onD onA
  cases elem i.Op_ <;> cases i.Op_==29 <;> cases i.Op_==30 <;> cases i.Op_==32 <;> cases i.Op_==31 <;> cases i.Op_==33 <;> rfl
 rw [hB,Option.bind_some,orRet_inl]
 unfold vecP
 generalize (bif onD i then i.D_ else bif onA i then i.A_ else -1)=k
 by_cases h0:k<0
 ·rw [z27 (.inl h0)]
  simp [h0]
 ·by_cases h1:k≥c.Regs_.length
  ·rw [z27 (.inr h1)]
   simp [h0,h1]
  ·obtain ⟨t,ht,_⟩:=z2z (l:=c.Regs_) (n:=k) (by omega) (by omega)
   have e1:decide (k<0)=false:=by simpa using h0
   have e2:decide (k≥(c.Regs_.length:Int))=false:=by simp; omega
   have e3:(t.Kind_ != 3) = !(t.Kind_==3):=rfl
   simp only [e1,e2,ht,cond_false,Option.bind_some,orRet_inl,e3]
   cases t.Kind_==3 <;> rfl
theorem y94 {c:Xe} {i:Xd} {p:Int} (hp:0≤p):(vecP c i != p) = !(zbz c i p):=by
 have key:∀ k:Int,((match idx c.Regs_ k with | some t=>bif t.Kind_==3 then t.Param_ else -1 | none=>-1) != p) = !(zdz c k p):=fun k=>by
  unfold zdz
  have e:((-1:Int) != p)=true:=by simp; omega
  cases idx c.Regs_ k with
  | none=>exact e
  | some t =>
   simp only
   cases t.Kind_==3 with
   | false=>exact e
   | true=>simp [bne]
 have e:((-1:Int) != p)=true:=by simp; omega
 unfold vecP zbz
 cases onD i with
 | true=>exact key _
 | false =>
  simp only [cond_false]
  cases onA i with
  | true=>exact key _
  | false =>
   simp only [cond_false,Bool.not_false]
   rw [z27 (.inl (by decide))]
   exact e
def z12 (o:List Xg):Bool:=match o.getLast? with | some x=>x.Op_==36 | none=>false
def lstP (o:List Xg):Int:=match o.getLast? with | some x=>x.Param_ | none=>0
def z3n (i:Xd) (o:List Xg):Bool :=
 bif i.Op_==34 || i.Op_==36 then decide ((o.length:Int)<64) else bif i.Op_==35 then (decide ((o.length:Int) > 0) && !(z12 o)) else bif i.Op_==37 then z12 o else true
def z1d (c:Xe) (i:Xd) (set:List Bool) (o:List Xg):Bool :=
 fits c i && (!(z12 o && (!(i.Op_==37) && vecP c i != lstP o)) && (rdOk set i && z3n i o))
theorem y4t {m:Nat} {c:Xe} {i:Xd} {set:List Bool} {o:List Xg} (hr:∀ t ∈ c.Regs_,mayT c.Sign_ t=true) (h0:0≤i.Bits_) (h1:i.Bits_<4294967296)
  (hs:set.length=c.Regs_.length) (ho:o.length<4611686018427387904):f41 (m+4) (c,i,set,o)=some (z1d c i set o):=by
 rw [y4s]
 have hL:(bif (decide ((o.length:Int) > (0:Int))) then ((idx o (IntKind.i64.wrap ((o.length:Int) - (1:Int)))).bind fun y1=>some (Sum.inl (y1.Op_==36))) else (some (.inl false)):Option (Bool⊕Bool))=some (.inl (z12 o)):=by
  by_cases q:0<o.length
  ·have e:decide ((o.length:Int) > 0)=true:=by simp; omega
   obtain ⟨w1,w2,w3⟩:=z7u q ho
   obtain ⟨x,x1,x2⟩:=z58 o q
   have e2:idx o (IntKind.i64.wrap ((o.length:Int) - 1))=some x:=by unfold idx; rw [if_pos w2,w1,x2]
   rw [e,e2]
   unfold z12
   rw [x1]; rfl
  ·have:o=[]:=List.eq_nil_of_length_eq_zero (by omega)
   subst this; rfl
 have hP:z12 o=true→idx o (IntKind.i64.wrap ((o.length:Int) - 1))=o.getLast?:=fun hl=>by
  have q:0<o.length:=by
   cases o with
   | nil=>cases hl
   | cons _ _=>simp
  obtain ⟨w1,w2,w3⟩:=z7u q ho
  obtain ⟨x,x1,x2⟩:=z58 o q
  unfold idx
  rw [if_pos w2,w1,x2,x1]
 dsimp only
 rw [hL,Option.bind_some,orRet_inl]
 simp only [y5c hr h0 h1,y5e,Option.bind_some]
 unfold z1d
 cases hf:fits c i with
 | false=>rfl
 | true =>
  have hB:(bif z12 o then (bif i.Op_ != 37 then ((idx o (IntKind.i64.wrap ((o.length:Int) - 1))).bind fun y4=>some (Sum.inl (z12 o,vecP c i != y4.Param_))) else some (.inl (z12 o,false))) else some (.inl (z12 o,false)):Option (Bool×Bool⊕Bool))=some (.inl (z12 o,z12 o && (!(i.Op_==37) && vecP c i != lstP o))):=by
   have e1:(i.Op_ != 37) = !(i.Op_==37):=rfl
   rw [e1]
   cases hl:z12 o with
   | false=>rfl
   | true =>
    rw [hP hl]
    cases i.Op_==37 with
    | true=>rfl
    | false =>
     unfold lstP
     cases hg:o.getLast? with
     | none=>unfold z12 at hl; rw [hg] at hl; cases hl
     | some x=>rfl
  simp only [Bool.not_true,cond_false]
  rw [hB,Option.bind_some,orRet_inl]
  dsimp only
  cases hb:(z12 o && (!(i.Op_==37) && vecP c i != lstP o)) with
  | true=>rfl
  | false =>
   simp only [cond_false,y41,Option.bind_some,Bool.not_false,Bool.true_and]
   rw [zy0 (fun y hy=>by rw [hs]; exact zmh hf y hy)]
   cases rdOk set i with
   | false=>rfl
   | true =>
    simp only [cond_true,Option.bind_some,Bo.then,Bool.true_and]
    unfold z3n
    cases i.Op_==34 <;> cases i.Op_==36 <;> cases i.Op_==35 <;> cases i.Op_==37 <;> cases decide ((o.length:Int) > 0) <;> rfl
def code (o:Xg):Int:=bif o.Op_==36 then o.Param_ else -1
def z3l (o:Xg):Bool:=o.Op_==34
def z8t (N:Nat):List Bool→List (List Int)→List Xg→Prop
 | _,[],[]=>True
 | set,l::ls,w::ws=>undo set l=w.Set_∧l.length≤N∧(∀ r ∈ l,0≤r∧r<set.length)∧z8t N w.Set_ ls ws
 | _,_,_=>False
structure Two (c:Xe) (N:Nat) (set:List Bool) (news:List (List Int)) (op:List Int) (o:List Xg):Prop where
 len:set.length=c.Regs_.length
 op:op=o.map code
 le:o.length≤64
 ok:∀ x ∈ o,x.Op_=34∨(x.Op_=36∧0≤x.Param_)
 ch:z8t N set news.reverse (o.filter z3l).reverse
theorem y3b {i:Xd} {r:z2n} (h:rowD i.Op_=some r) (hd:onD i=true):(r.d==0)=false:=by
 obtain ⟨op,d,a,b,c,N,bits⟩:=i
 dsimp only at h
 rcases z4a op with (rfl | rfl | rfl | rfl | rfl | rfl | rfl | rfl | rfl | rfl | rfl | rfl | rfl | rfl | rfl | rfl | rfl | rfl | rfl | rfl | rfl | rfl | rfl | rfl | rfl | rfl | rfl | rfl | rfl | rfl | rfl | rfl | rfl | rfl | rfl | rfl | rfl) | h0
 iterate 37 (· first | (cases h; rfl) | (exact absurd hd (by decide)) | (cases h; revert hd; simp [onD,elem]))
 rw [z4d h0] at h; cases h
theorem y39 {i:Xd} {r:z2n} (h:rowD i.Op_=some r) (hd:onA i=true):(r.a==0)=false:=by
 obtain ⟨op,d,a,b,c,N,bits⟩:=i
 dsimp only at h
 rcases z4a op with (rfl | rfl | rfl | rfl | rfl | rfl | rfl | rfl | rfl | rfl | rfl | rfl | rfl | rfl | rfl | rfl | rfl | rfl | rfl | rfl | rfl | rfl | rfl | rfl | rfl | rfl | rfl | rfl | rfl | rfl | rfl | rfl | rfl | rfl | rfl | rfl | rfl) | h0
 iterate 37 (· first | (cases h; rfl) | (exact absurd hd (by decide)) | (cases h; revert hd; simp [onA]))
 rw [z4d h0] at h; cases h
theorem y3a {c:Xe} {i:Xd} (h:fits c i=true) (hd:onD i=true):∃ t,idx c.Regs_ i.D_=some t:=by
 obtain ⟨r,hr,h1,_⟩:=zbc h
 exact z3s h1 (y3b hr hd)
theorem y38 {c:Xe} {i:Xd} (h:fits c i=true) (hd:onA i=true):∃ t,idx c.Regs_ i.A_=some t:=by
 obtain ⟨r,hr,_,h1,_⟩:=zbc h
 exact z3s h1 (y39 hr hd)
section
variable {c:Xe} {N:Nat} {set:List Bool} {news:List (List Int)} {op:List Int} {o:List Xg} {i:Xd}
theorem Two.lst (h:Two c N set news op o):lst op=(match o.getLast? with | some x=>code x | none=>-1):=by
 unfold Loom.lst
 rw [h.op,List.getLast?_map]
 cases o.getLast? <;> rfl
theorem Two.loop (h:Two c N set news op o):decide (Loom.lst op≥0)=z12 o∧(z12 o=true→Loom.lst op=lstP o∧0≤lstP o):=by
 rw [h.lst]
 unfold z12 lstP
 cases hg:o.getLast? with
 | none=>exact ⟨by decide,fun h=>by cases h⟩
 | some x =>
  have hx:=h.ok x (List.mem_of_getLast? hg)
  rcases hx with hx | ⟨hx,hp⟩
  ·have e:code x = -1:=by unfold code; rw [hx]; rfl
   have e2:(x.Op_==36)=false:=by rw [hx]; rfl
   simp only [e,e2]
   exact ⟨by decide,fun h=>by cases h⟩
  ·have e:code x=x.Param_:=by unfold code; rw [hx]; rfl
   have e2:(x.Op_==36)=true:=by rw [hx]; rfl
   simp only [e,e2]
   exact ⟨by simpa using hp,fun _=>⟨by trivial,hp⟩⟩
theorem y1m (x:Int):decide (x<0) = !(decide (x≥0)):=by
 by_cases h:x<0
 ·have:¬ x≥0:=by omega
  simp [h]
 ·have:x≥0:=by omega
  simp [h,this]
theorem z34 {N M:Nat} (hNM:N≤M):∀ (set:List Bool) (ls:List (List Int)) (ws:List Xg),z8t N set ls ws→z8t M set ls ws
 | _,[],[],_=>trivial
 | set,l::ls,w::ws,h=>⟨h.1,Nat.le_trans h.2.1 hNM,h.2.2.1,z34 hNM _ ls ws h.2.2.2⟩
 | _,[],_::_,h=>h.elim
 | _,_::_,[],h=>h.elim
theorem zhh {N:Nat}:∀ (set:List Bool) (ls:List (List Int)) (ws:List Xg),z8t N set ls ws→ls.length=ws.length
 | _,[],[],_=>rfl
 | set,l::ls,w::ws,h=>by simp [zhh _ ls ws h.2.2.2]
 | _,[],_::_,h=>h.elim
 | _,_::_,[],h=>h.elim
theorem zjh {N:Nat}:∀ (set:List Bool) (ls:List (List Int)) (ws:List Xg),z8t N set ls ws→∀ l ∈ ls,l.length≤N
 | _,[],[],_,l,hl=>by cases hl
 | set,l::ls,w::ws,h,x,hx=>by
  rcases List.mem_cons.1 hx with rfl | hx
  ·exact h.2.1
  ·exact zjh _ ls ws h.2.2.2 x hx
 | _,[],_::_,h,_,_=>h.elim
 | _,_::_,[],h,_,_=>h.elim
theorem Two.newsOk (h:Two c N set news op o):news.length≤64∧∀ l ∈ news,l.length≤N:=by
 have h1:=zhh _ _ _ h.ch
 simp only [List.length_reverse] at h1
 have h2:=List.length_filter_le z3l o
 have:=h.le
 exact ⟨by omega,fun l hl=>zjh _ _ _ h.ch l (by simpa using hl)⟩
def zcy (c:Xe) (i:Xd) (op:List Int):Bool :=
 bif i.Op_==34 || i.Op_==36 then !(decide (Loom.lst op≥0) || (op.length:Int)==64) else bif i.Op_==35 then !((op.length:Int)==0 || decide (Loom.lst op≥0)) else bif i.Op_==37 then !(decide (Loom.lst op<0)) else
  bif decide (Loom.lst op<0) then true else zbz c i (Loom.lst op)
theorem zq1 {k:Int} (h:i.Op_=k) (hk:k=34∨k=35∨k=36):vecP c i = -1:=by
 unfold vecP onD onA elem
 rw [h]
 rcases hk with rfl | rfl | rfl
 all_goals
  show (match idx c.Regs_ (-1) with | some t=>bif t.Kind_==3 then t.Param_ else -1 | none=>-1)=_
  rw [z27 (.inl (by decide))]
theorem Two.place (h:Two c N set news op o):zcy c i op=(!(z12 o && (!(i.Op_==37) && vecP c i != lstP o)) && z3n i o):=by
 obtain ⟨h1,h2⟩:=h.loop
 have hlen:op.length=o.length:=by rw [h.op]; simp
 have hle:=h.le
 unfold zcy z3n
 rw [y1m,h1,hlen]
 by_cases q4:i.Op_=34∨i.Op_=36
 ·have e1:(i.Op_==34 || i.Op_==36)=true:=by rcases q4 with q | q <;> rw [q] <;> rfl
  have e2:(i.Op_==37)=false:=by rcases q4 with q | q <;> rw [q] <;> rfl
  have e3:vecP c i = -1:=by rcases q4 with q | q <;> exact zq1 q (by simp)
  have e4:((o.length:Int)==64) = !(decide ((o.length:Int)<64)):=by
   by_cases q:o.length<64
   ·have:¬ (o.length:Int)=64:=by omega
    have q':(o.length:Int)<64:=by omega
    simp [this,q']
   ·have:(o.length:Int)=64:=by omega
    simp [this]
  rw [e1,e2,e3,e4]
  simp only [cond_true]
  cases hl:z12 o with
  | false=>simp
  | true =>
   have:=(h2 hl).2
   have e5:((-1:Int) != lstP o)=true:=by simp; omega
   rw [e5]; simp
 ·have e1:(i.Op_==34 || i.Op_==36)=false:=by
   have a1:¬ i.Op_=34:=fun q=>q4 (.inl q)
   have a2:¬ i.Op_=36:=fun q=>q4 (.inr q)
   simp [a1,a2]
  rw [e1]
  simp only [cond_false]
  by_cases q5:i.Op_=35
  ·have e2:(i.Op_==35)=true:=by rw [q5]; rfl
   have e3:(i.Op_==37)=false:=by rw [q5]; rfl
   have e4:vecP c i = -1:=zq1 q5 (by simp)
   have e6:((o.length:Int)==0) = !(decide ((o.length:Int) > 0)):=by
    by_cases q:0<o.length
    ·have a1:((o.length:Int)==0)=false:=by simp only [beq_eq_false_iff_ne,ne_eq]; omega
     have a2:decide ((o.length:Int) > 0)=true:=by simp only [decide_eq_true_eq]; omega
     rw [a1,a2]; rfl
    ·have:(o.length:Int)=0:=by omega
     simp [this]
   rw [e2,e3,e4,e6]
   simp only [cond_true]
   cases hl:z12 o with
   | false=>simp
   | true =>
    have:=(h2 hl).2
    have e5:((-1:Int) != lstP o)=true:=by simp; omega
    rw [e5]; simp
  ·have e2:(i.Op_==35)=false:=by simpa using q5
   rw [e2]
   simp only [cond_false]
   cases i.Op_==37 with
   | true =>
    simp only [cond_true]
    cases z12 o <;> rfl
   | false =>
    simp only [cond_false]
    cases hl:z12 o with
    | false=>rfl
    | true =>
     obtain ⟨p1,p2⟩:=h2 hl
     rw [p1,y94 p2]
     cases zbz c i (lstP o) <;> rfl
end
def z95 (i:Xd) (set:List Bool) (news:List (List Int)) (op:List Int):List Bool×List (List Int)×List Int :=
 bif i.Op_==34 then (set,news++[[]],op++[-1]) else bif i.Op_==36 then (set,news,op++[i.N_]) else
 bif i.Op_==35 then (undo set (news.getLast?.getD []),news.dropLast,op.dropLast) else bif i.Op_==37 then (set,news,op.dropLast) else
 bif sets i && !((set[i.D_.toNat]?).getD false) then (set.set i.D_.toNat true,z7w news i.D_,op) else (set,news,op)
def okI (c:Xe) (i:Xd) (set:List Bool) (op:List Int):Bool:=fits c i && (zcy c i op && rdOk set i)
section
variable {c:Xe} {N:Nat} {set:List Bool} {news:List (List Int)} {op:List Int} {o:List Xg} {i:Xd}
theorem zeq {k:Int} (h:i.Op_=k) (hk:k=35∨k=36∨k=37):z1b i=[]∧sets i=false:=by
 unfold z1b sets
 rw [h]
 rcases hk with rfl | rfl | rfl <;> exact ⟨rfl,rfl⟩
theorem Two.last (h:Two c N set news op o) (h0:0<op.length) (h1:Loom.lst op<0):∃ l w,news.getLast? = some l∧o.getLast? = some w∧w.Op_=34∧undo set l=w.Set_∧l.length≤N∧(∀ r ∈ l,0≤r∧r<set.length)∧z8t N w.Set_ news.dropLast.reverse (o.dropLast.filter z3l).reverse:=by
 have hlen:op.length=o.length:=by rw [h.op]; simp
 obtain ⟨w,w1,w2⟩:=z58 o (by omega)
 have hw:w.Op_=34:=by
  rcases h.ok w (List.mem_of_getLast? w1) with q | ⟨q,p⟩
  ·exact q
  ·rw [h.lst,w1] at h1
   simp only [code,q] at h1
   have:(bif ((36:Int)==36) then w.Param_ else -1)=w.Param_:=rfl
   omega
 have ho:o=o.dropLast++[w]:=by
  have hne:o ≠ []:=fun e=>by rw [e] at w1; cases w1
  have:=List.dropLast_concat_getLast hne
  rw [List.getLast?_eq_some_getLast hne] at w1
  rw [← Option.some.inj w1]; exact this.symm
 have hc:=h.ch
 rw [ho,List.filter_append] at hc
 have e:[w].filter z3l=[w]:=by simp [z3l,hw]
 rw [e,List.reverse_append,List.reverse_singleton,List.singleton_append] at hc
 cases hn:news.reverse with
 | nil=>rw [hn] at hc; exact hc.elim
 | cons l ls =>
  rw [hn] at hc
  have hnews:news=ls.reverse++[l]:=by
   have:=congrArg List.reverse hn
   simpa using this
  refine ⟨l,w,by rw [hnews]; simp,w1,hw,hc.1,hc.2.1,hc.2.2.1,?_⟩
  have:news.dropLast=ls.reverse:=by rw [hnews]; simp
  rw [this,List.reverse_reverse]
  exact hc.2.2.2
theorem zxr {m k:Nat} {x:Xe} {v:List Xd×Int×List Xa×List Xb×List Xc} (h:Two c N set news op o) (hN:N<1000000) (hm:N<m) (hr:∀ t ∈ c.Regs_,mayT c.Sign_ t=true) (h0:0≤i.Bits_) (h1:i.Bits_<4294967296)
  (hk:k<1000000) (hv:decide ((k:Int)<v.2.1)=true) (hi:idx v.1 (k:Int)=some i) :
  zcm (m+5) x v ((k:Int),c.Sign_,c.Regs_,c.Slots_,c.List_,set,news,op)=some (bif okI c i set op then .go (((k+1:Nat):Int),c.Sign_,c.Regs_,c.Slots_,c.List_,z95 i set news op) else .ret (k:Int)):=by
 rw [zhj]
 dsimp only
 rw [hv,hi]
 simp only [cond_true,Option.bind_some]
 rw [y4m m hr h0 h1]
 unfold okI
 cases hf:fits c i with
 | false=>rfl
 | true =>
  have hle:op.length≤64:=by rw [h.op]; simpa using h.le
  obtain ⟨n1,n2⟩:=h.newsOk
  have hrd:∀ y ∈ z1b i,0≤y∧y<set.length:=fun y hy=>by rw [h.len]; exact zmh hf y hy
  have hD:sets i=true→0≤i.D_∧i.D_<set.length:=fun hs=>by rw [h.len]; exact zh8 hf hs
  simp only [Option.bind_some,Bool.not_true,cond_false,Bool.true_and]
  unfold zcy z95
  by_cases q34:i.Op_=34
  ·have e1:(i.Op_==34)=true:=by simpa using q34
   rw [zxy (n:=m+5) (by omega) q34]
   simp only [e1,Bool.true_or,cond_true,Option.bind_some]
   cases hp:(decide (Loom.lst op≥0) || (op.length:Int)==64) with
   | true=>rfl
   | false =>
    simp only [Bool.not_false,Bool.not_true,cond_false,Bool.true_and]
    rw [zxz (m:=m+1) q34 hrd hle n1]
    cases rdOk set i with
    | false=>rfl
    | true =>
     simp only [Option.bind_some,orRet_inl,Bool.not_true,cond_false,cond_true,z11 (show k<4611686018427387904 by omega)]
  ·have e1:(i.Op_==34)=false:=by simpa using q34
   by_cases q36:i.Op_=36
   ·have e2:(i.Op_==36)=true:=by simpa using q36
    obtain ⟨r1,r2⟩:=zeq q36 (by simp)
    have r3:rdOk set i=true:=by unfold rdOk; rw [r1]; rfl
    rw [zxw (n:=m+5) hle q36]
    simp only [e1,e2,Bool.false_or,cond_true,cond_false,Option.bind_some]
    cases hp:(decide (Loom.lst op≥0) || (op.length:Int)==64) with
    | true=>rfl
    | false =>
     simp only [Bool.not_false,Bool.not_true,cond_false,Bool.true_and]
     rw [zb6 (m:=m+1) q34 hrd hD n1 (fun l hl=>by have:=n2 l hl; omega)]
     simp only [r2,r3,Bool.false_and,Bool.and_false,Option.bind_some,orRet_inl,Bool.not_true,cond_false,cond_true,z11 (show k<4611686018427387904 by omega)]
   ·have e2:(i.Op_==36)=false:=by simpa using q36
    by_cases q35:i.Op_=35
    ·have e3:(i.Op_==35)=true:=by simpa using q35
     obtain ⟨r1,r2⟩:=zeq q35 (by simp)
     rw [y2q (m:=m+1) (nl:=news.getLast?.getD []) hle q35 (fun z1 z2=>by
      obtain ⟨l,w,a1,a2,a3,a4,a5,a6,a7⟩:=h.last z1 z2
      rw [a1]
      exact ⟨rfl,by omega,by simp only [Option.getD_some]; omega,by simp only [Option.getD_some]; omega,a6⟩)]
     simp only [e1,e2,e3,Bool.false_or,cond_true,cond_false,Option.bind_some]
     cases hp:((op.length:Int)==0 || decide (Loom.lst op≥0)) with
     | true=>rfl
     | false =>
      have r3:rdOk set i=true:=by unfold rdOk; rw [r1]; rfl
      simp only [Bool.not_false,Bool.not_true,cond_false,Bool.true_and,r3]
      rw [zb6 (m:=m+1) q34 (fun y hy=>by rw [r1] at hy; cases hy) (fun hs=>by rw [r2] at hs; cases hs) (by simp; omega) (fun l hl=>by
       have:=n2 l ((List.dropLast_sublist _).subset hl); omega)]
      have r4:rdOk (undo set (news.getLast?.getD [])) i=true:=by unfold rdOk; rw [r1]; rfl
      simp only [r2,r4,Bool.false_and,Bool.and_false,Option.bind_some,orRet_inl,Bool.not_true,cond_false,cond_true,z11 (show k<4611686018427387904 by omega)]
    ·have e3:(i.Op_==35)=false:=by simpa using q35
     by_cases q37:i.Op_=37
     ·have e4:(i.Op_==37)=true:=by simpa using q37
      obtain ⟨r1,r2⟩:=zeq q37 (by simp)
      have r3:rdOk set i=true:=by unfold rdOk; rw [r1]; rfl
      rw [zxx (n:=m+5) hle q37]
      simp only [e1,e2,e3,e4,Bool.false_or,cond_true,cond_false,Option.bind_some]
      cases hp:decide (Loom.lst op<0) with
      | true=>rfl
      | false =>
       simp only [Bool.not_false,Bool.not_true,cond_false,Bool.true_and]
       rw [zb6 (m:=m+1) q34 hrd hD n1 (fun l hl=>by have:=n2 l hl; omega)]
       simp only [r2,r3,Bool.false_and,Bool.and_false,Option.bind_some,orRet_inl,Bool.not_true,cond_false,cond_true,z11 (show k<4611686018427387904 by omega)]
     ·have e4:(i.Op_==37)=false:=by simpa using q37
      rw [zxv (n:=m+5) hle hf q34 q35 q36 q37 (y3a hf) (y38 hf)]
      simp only [e1,e2,e3,e4,Bool.false_or,cond_true,cond_false,Option.bind_some]
      cases hp:(bif decide (Loom.lst op<0) then true else zbz c i (Loom.lst op)) with
      | false=>rfl
      | true =>
       simp only [Bool.not_false,Bool.not_true,cond_false,Bool.true_and]
       rw [zb6 (m:=m+1) q34 hrd hD n1 (fun l hl=>by have:=n2 l hl; omega)]
       cases rdOk set i with
       | false=>rfl
       | true =>
        simp only [Bool.true_and,Option.bind_some,orRet_inl,Bool.not_true,cond_false,cond_true,z11 (show k<4611686018427387904 by omega)]
end
def z1t (i:Xd) (set:List Bool) (o:List Xg):List Bool×List Xg :=
 bif i.Op_==34 || i.Op_==36 then (set,o++[⟨i.Op_,i.N_,set⟩]) else bif i.Op_==35 then ((o.getLast?.getD ⟨0,0,[]⟩).Set_,o.dropLast) else bif i.Op_==37 then (set,o.dropLast) else
  bif sets i then (set.set i.D_.toNat true,o) else (set,o)
theorem zsa {n:Nat} {s:List Bool} (h:s.length≤140737488355328):f42 n s=some s:=by
 rw [y4u,zo (by omega)]
section
variable {c:Xe} {N:Nat} {set:List Bool} {news:List (List Int)} {op:List Int} {o:List Xg} {i:Xd}
theorem zxt {m k:Nat} (h:Two c N set news op o) (hr:∀ t ∈ c.Regs_,mayT c.Sign_ t=true) (hR:c.Regs_.length≤1000000) (h0:0≤i.Bits_) (h1:i.Bits_<4294967296)
  (hk:k<1000000) (hv:k<c.List_.length) (hi:idx c.List_ (k:Int)=some i) :
  zcn (m+4) c () ((k:Int),set,o)=some (bif z1d c i set o then .go (((k+1:Nat):Int),z1t i set o) else .ret (k:Int)):=by
 have hle:=h.le
 have hlen:=h.len
 rw [zhn]
 have e1:decide ((k:Int)<(c.List_.length:Int))=true:=by simp; omega
 dsimp only
 rw [e1,hi]
 simp only [cond_true,Option.bind_some]
 rw [y4t hr h0 h1 hlen (by omega)]
 have w:IntKind.i64.wrap ((k:Int)+1)=((k+1:Nat):Int):=z11 (by omega)
 cases hs:z1d c i set o with
 | false=>rfl
 | true =>
  simp only [Option.bind_some,Bool.not_true,cond_false,cond_true]
  have hs':=hs
  unfold z1d at hs'
  simp only [Bool.and_eq_true] at hs'
  obtain ⟨hf,hv1,hrd,hp⟩:=hs'
  unfold z1t
  have hB:(bif i.Op_==34 then some (Sum.inl (true,i.Op_,i.D_,i.A_,i.B_,i.C_,i.N_,i.Bits_)) else some (.inl (i.Op_==36,i.Op_,i.D_,i.A_,i.B_,i.C_,i.N_,i.Bits_)):Option (Bool×Int×Int×Int×Int×Int×Int×Int⊕Bo (Int×List Bool×List Xg) (Int×List Bool×List Xg) Int))
    = some (.inl (i.Op_==34 || i.Op_==36,i.Op_,i.D_,i.A_,i.B_,i.C_,i.N_,i.Bits_)):=by
   cases i.Op_==34 <;> rfl
  rw [hB,Option.bind_some,orRet_inl]
  dsimp only
  cases q1:(i.Op_==34 || i.Op_==36) with
  | true =>
   simp only [cond_true]
   rw [zsa (by omega)]
   simp only [Option.bind_some]
   rw [zo (by simp; omega),w]
  | false =>
   simp only [cond_false]
   unfold z3n at hp
   rw [q1] at hp
   simp only [cond_false] at hp
   cases q2:i.Op_==35 with
   | true =>
    rw [q2] at hp
    simp only [cond_true,Bool.and_eq_true,decide_eq_true_eq] at hp
    have hpos:0<o.length:=by omega
    obtain ⟨w1,w2,w3⟩:=z7u hpos (by omega)
    obtain ⟨x,x1,x2⟩:=z58 o hpos
    simp only [cond_true]
    rw [zo ⟨w2,w3⟩,w1,x2,x1]
    simp only [Option.bind_some,Option.getD_some]
    have hx:x.Set_.length≤140737488355328:=by
     have hl0:Loom.lst op<0:=by
      have:=h.loop.1
      rw [← this] at hp
      simp at hp; omega
     obtain ⟨l,wv,a1,a2,a3,a4,_⟩:=h.last (by rw [h.op]; simpa using hpos) hl0
     rw [x1] at a2
     cases a2
     rw [← a4,zms]; omega
    rw [zsa hx]
    simp only [Option.bind_some]
    rw [zo ⟨w2,by omega⟩,zo (by omega),w]
    simp [List.dropLast_eq_take]
   | false =>
    rw [q2] at hp
    simp only [cond_false] at hp ⊢
    cases q3:i.Op_==37 with
    | true =>
     rw [q3] at hp
     simp only [cond_true] at hp ⊢
     have hpos:0<o.length:=by
      cases o with
      | nil=>cases hp
      | cons _ _=>simp
     obtain ⟨w1,w2,w3⟩:=z7u hpos (by omega)
     rw [zo ⟨w2,by omega⟩,w1,zo (by omega),w]
     simp [List.dropLast_eq_take]
    | false =>
     have e:(⟨i.Op_,i.D_,i.A_,i.B_,i.C_,i.N_,i.Bits_⟩:Xd)=i:=rfl
     simp only [cond_false,e,zs3,Option.bind_some]
     cases hss:sets i with
     | false=>simp only [cond_false,w]
     | true =>
      obtain ⟨d0,d1⟩:=zh8 hf hss
      obtain ⟨b,hb⟩:=zah (l:=set) d0 (by omega)
      simp only [cond_true]
      rw [zo ⟨d0,by omega⟩,hb]
      simp only [Option.bind_some,w]
theorem zmr (l:List Int):∀ (set:List Bool) (j:Nat),(undo set l)[j]? = if l.any (fun r=>r.toNat==j) then (set[j]?).map (fun _=>false) else set[j]?:=by
 unfold undo
 induction l with
 | nil=>intro set j; simp
 | cons r l ih =>
  intro set j
  simp only [List.foldl_cons]
  rw [ih,List.any_cons]
  by_cases h:r.toNat=j
  ·subst h
   simp only [beq_self_eq_true,Bool.true_or,if_true]
   split
   ·by_cases hj:r.toNat<set.length
    ·simp [hj]
    ·simp [hj]
   ·by_cases hj:r.toNat<set.length
    ·simp [hj]
    ·simp [hj]
  ·have e:(r.toNat==j)=false:=by simpa using h
   rw [e,Bool.false_or,List.getElem?_set_ne h]
theorem zyy {l:List Int} {set:List Bool} {d:Int} (hd:set[d.toNat]? = some false):undo (set.set d.toNat true) (l++[d])=undo set l:=by
 apply List.ext_getElem?
 intro j
 have hlt:d.toNat<set.length:=by
  obtain ⟨h,_⟩:=List.getElem?_eq_some_iff.1 hd
  exact h
 rw [zmr,zmr,List.any_append]
 by_cases h:d.toNat=j
 ·subst h
  simp only [List.any_cons,beq_self_eq_true,Bool.true_or,Bool.or_true,if_true,hd]
  rw [List.getElem?_set_self hlt]
  simp
 ·have e:(d.toNat==j)=false:=by simpa using h
  rw [List.getElem?_set_ne h]
  simp [e]
theorem zwo {set:List Bool} {d:Nat} (h:set[d]? = some true):set.set d true=set:=by
 apply List.ext_getElem?
 intro j
 by_cases hj:d=j
 ·subst hj
  obtain ⟨hl,_⟩:=List.getElem?_eq_some_iff.1 h
  rw [List.getElem?_set_self hl,h]
 ·rw [List.getElem?_set_ne hj]
end
section
variable {c:Xe} {N:Nat} {set:List Bool} {news:List (List Int)} {op:List Int} {o:List Xg} {i:Xd}
theorem y8l (hf:fits c i=true) (h:i.Op_=36):0≤i.N_:=by
 unfold fits at hf
 rw [h] at hf
 have e:rowD 36=some ⟨0,0,0,0,4⟩:=rfl
 rw [e] at hf
 simp only [Bool.and_eq_true] at hf
 have:=hf.2.2.2.2.2
 have e2:nOk c 4 i.N_ (tyF c ⟨0,0,0,0,4⟩ i)=(decide (i.N_≥0) && decide (i.N_<(c.Sign_.length:Int))):=rfl
 rw [e2] at this
 simp at this
 exact this.1
theorem zg3 {α:Type} {l:List α} {w:α} (h:l.getLast? = some w):l=l.dropLast++[w]:=by
 have hne:l ≠ []:=fun e=>by rw [e] at h; cases h
 have:=List.dropLast_concat_getLast hne
 rw [List.getLast?_eq_some_getLast hne] at h
 rw [← Option.some.inj h]; exact this.symm
theorem Two.next (h:Two c N set news op o) (hok:okI c i set op=true):(z1t i set o).1=(z95 i set news op).1∧Two c (N+1) (z95 i set news op).1 (z95 i set news op).2.1 (z95 i set news op).2.2 (z1t i set o).2:=by
 unfold okI at hok
 simp only [Bool.and_eq_true] at hok
 obtain ⟨hf,hp,hrd⟩:=hok
 have hlen:op.length=o.length:=by rw [h.op]; simp
 unfold zcy at hp
 unfold z95 z1t
 by_cases q34:i.Op_=34
 ·have e1:(i.Op_==34)=true:=by simpa using q34
  rw [e1] at hp
  simp only [Bool.true_or,cond_true,Bool.not_eq_true',Bool.or_eq_false_iff,beq_eq_false_iff_ne,ne_eq] at hp
  have hle:=h.le
  simp only [e1,Bool.true_or,cond_true]
  refine ⟨by trivial,h.len,?_,?_,?_,?_⟩
  ·rw [List.map_append,h.op]; simp [code,q34]
  ·simp; omega
  ·intro x hx
   rcases List.mem_append.1 hx with hx | hx
   ·exact h.ok x hx
   ·simp only [List.mem_singleton] at hx
    subst hx; exact .inl q34
  ·rw [List.filter_append]
   have e:[(⟨i.Op_,i.N_,set⟩:Xg)].filter z3l=[⟨i.Op_,i.N_,set⟩]:=by simp [z3l,q34]
   rw [e,List.reverse_append,List.reverse_append]
   exact ⟨rfl,Nat.zero_le _,fun r hr=>(by cases hr),z34 (Nat.le_succ N) _ _ _ h.ch⟩
 ·have e1:(i.Op_==34)=false:=by simpa using q34
  rw [e1] at hp
  by_cases q36:i.Op_=36
  ·have e2:(i.Op_==36)=true:=by simpa using q36
   rw [e2] at hp
   simp only [Bool.false_or,cond_true,Bool.not_eq_true',Bool.or_eq_false_iff,beq_eq_false_iff_ne,ne_eq] at hp
   have hle:=h.le
   simp only [e1,e2,Bool.false_or,cond_true,cond_false]
   refine ⟨by trivial,h.len,?_,?_,?_,?_⟩
   ·rw [List.map_append,h.op]; simp [code,q36]
   ·simp; omega
   ·intro x hx
    rcases List.mem_append.1 hx with hx | hx
    ·exact h.ok x hx
    ·simp only [List.mem_singleton] at hx
     subst hx; exact .inr ⟨q36,y8l hf q36⟩
   ·rw [List.filter_append]
    have e:[(⟨i.Op_,i.N_,set⟩:Xg)].filter z3l=[]:=by simp [z3l,q36]
    rw [e,List.append_nil]
    exact z34 (Nat.le_succ N) _ _ _ h.ch
  ·have e2:(i.Op_==36)=false:=by simpa using q36
   rw [e2] at hp
   simp only [Bool.false_or,cond_false] at hp
   simp only [e1,e2,Bool.false_or,cond_false]
   by_cases q35:i.Op_=35
   ·have e3:(i.Op_==35)=true:=by simpa using q35
    rw [e3] at hp
    simp only [cond_true,Bool.not_eq_true',Bool.or_eq_false_iff,beq_eq_false_iff_ne,ne_eq,decide_eq_false_iff_not] at hp
    obtain ⟨l,w,a1,a2,a3,a4,a5,a6,a7⟩:=h.last (by omega) (by omega)
    simp only [e3,cond_true,a1,a2,Option.getD_some]
    have hle:=h.le
    refine ⟨a4.symm,?_,?_,?_,?_,?_⟩
    ·rw [zms]; exact h.len
    ·rw [h.op,List.map_dropLast]
    ·simp; omega
    ·exact fun x hx=>h.ok x ((List.dropLast_sublist _).subset hx)
    ·rw [a4]; exact z34 (Nat.le_succ N) _ _ _ a7
   ·have e3:(i.Op_==35)=false:=by simpa using q35
    rw [e3] at hp
    simp only [cond_false] at hp
    by_cases q37:i.Op_=37
    ·have e4:(i.Op_==37)=true:=by simpa using q37
     rw [e4,y1m,h.loop.1] at hp
     simp only [cond_true,Bool.not_not] at hp
     simp only [e3,e4,cond_true,cond_false]
     have hle:=h.le
     obtain ⟨w,hw⟩:∃ w,o.getLast? = some w:=by
      unfold z12 at hp
      split at hp
      ·exact ⟨_,by assumption⟩
      ·cases hp
     have hww:w.Op_=36:=by
      unfold z12 at hp
      rw [hw] at hp
      simpa using hp
     refine ⟨by trivial,h.len,?_,?_,?_,?_⟩
     ·rw [h.op,List.map_dropLast]
     ·simp; omega
     ·exact fun x hx=>h.ok x ((List.dropLast_sublist _).subset hx)
     ·have:=h.ch
      rw [zg3 hw,List.filter_append] at this
      have e:[w].filter z3l=[]:=by simp [z3l,hww]
      rw [e,List.append_nil] at this
      exact z34 (Nat.le_succ N) _ _ _ this
    ·have e4:(i.Op_==37)=false:=by simpa using q37
     simp only [e3,e4,cond_false]
     cases hs:sets i with
     | false =>
      simp only [Bool.false_and,cond_false]
      exact ⟨by trivial,h.len,h.op,h.le,h.ok,z34 (Nat.le_succ N) _ _ _ h.ch⟩
     | true =>
      obtain ⟨d0,d1⟩:=zh8 hf hs
      obtain ⟨b,hb⟩:=zah (l:=set) d0 (by rw [h.len]; exact d1)
      simp only [hb,Option.getD_some,Bool.true_and,cond_true]
      cases b with
      | true =>
       rw [zwo hb]
       exact ⟨rfl,h.len,h.op,h.le,h.ok,z34 (Nat.le_succ N) _ _ _ h.ch⟩
      | false =>
       simp only [Bool.not_false,cond_true]
       refine ⟨by trivial,by simpa using h.len,h.op,h.le,h.ok,?_⟩
       have hc:=h.ch
       cases hn:news.reverse with
       | nil =>
        rw [hn] at hc
        have:news=[]:=by simpa using hn
        subst this
        cases hw:(o.filter z3l).reverse with
        | nil=>simp [z7w,z8t]
        | cons w ws=>rw [hw] at hc; exact hc.elim
       | cons l ls =>
        rw [hn] at hc
        cases hw:(o.filter z3l).reverse with
        | nil=>rw [hw] at hc; exact hc.elim
        | cons w ws =>
         rw [hw] at hc
         obtain ⟨c1,c2,c3,c4⟩:=hc
         have hnews:news=ls.reverse++[l]:=by
          have:=congrArg List.reverse hn
          simpa using this
         have ha:(z7w news i.D_).reverse=(l++[i.D_])::ls:=by
          unfold z7w
          rw [hnews]
          simp
         rw [ha]
         refine ⟨by rw [zyy hb]; exact c1,by simp; omega,fun r hr=>?_,z34 (Nat.le_succ N) _ _ _ c4⟩
         rcases List.mem_append.1 hr with hr | hr
         ·simpa using c3 r hr
         ·simp only [List.mem_singleton] at hr
          subst hr
          refine ⟨d0,?_⟩
          simp only [List.length_set]
          rw [h.len]; exact d1
end
theorem zm0 {α S Y Z:Type} {l:List α} {p:α→Bool} {g:Nat→S} {body:S→Option (Bo S Y Z)} {z:Nat→Z} {y:Y}
  (hb:∀ (k:Nat) (h:k<l.length),body (g k)=some (bif p l[k] then .go (g (k+1)) else .ret (z k))) (he:body (g l.length)=some (.out y)) :
  ∀ (j k f:Nat),k+j=l.length→j<f→iter body f (g k)=some (match (l.drop k).findIdx? (fun x=>!p x) with | none=>.out y | some i=>.ret (z (k+i)))
 | 0,k,f+1,hk,hf=>by
  obtain rfl:k=l.length:=by omega
  unfold iter
  rw [he]
  simp
 | j+1,k,f+1,hk,hf=>by
  have h:k<l.length:=by omega
  unfold iter
  rw [hb k h,List.drop_eq_getElem_cons h]
  cases hp:p l[k] with
  | false =>
   simp only [cond_false,List.findIdx?_cons,hp,Bool.not_false,if_true]
   rfl
  | true =>
   simp only [cond_true]
   rw [zm0 hb he j (k+1) f (by omega) (by omega)]
   rw [List.findIdx?_cons]
   simp only [hp,Bool.not_true,cond_false,Bool.false_eq_true,if_false]
   cases (l.drop (k+1)).findIdx? (fun x=>!p x) with
   | none=>rfl
   | some i=>simp only [Option.map_some]; congr 3; omega
theorem zlz {α S Y Z:Type} {l:List α} {p:α→Bool} (g:Nat→S) {body:S→Option (Bo S Y Z)} (z:Nat→Z) {y:Y} {f:Nat}
  (hb:∀ (k:Nat) (h:k<l.length),body (g k)=some (bif p l[k] then .go (g (k+1)) else .ret (z k))) (he:body (g l.length)=some (.out y)) (hf:l.length<f) :
  iter body f (g 0)=some (match l.findIdx? (fun x=>!p x) with | none=>.out y | some i=>.ret (z i)):=by
 have:=zm0 hb he l.length 0 f (by omega) hf
 simpa using this
section
variable {c:Xe}
theorem zy {α:Type} {l:List α} {k:Nat} (h:k<l.length):idx l (k:Int)=some l[k]:=by simp [idx,h]
theorem y4d {n:Nat} (h:c.Regs_.length<n) (h2:c.Regs_.length<1000000):f29 n (c.Regs_,c.Sign_,c.Regs_,c.Slots_,c.List_)=some (!(c.Regs_.all (mayT c.Sign_)),c.Sign_,c.Regs_,c.Slots_,c.List_):=by
 have hit:iter (zk1 n (c.Regs_,c.Sign_,c.Regs_,c.Slots_,c.List_) ()) n ((0:Int),c.Sign_,c.Regs_,c.Slots_,c.List_)=some (match c.Regs_.findIdx? (fun x=>!mayT c.Sign_ x) with | none=>.out ((c.Regs_.length:Int),c.Sign_,c.Regs_,c.Slots_,c.List_) | some i=>.ret ((i:Int),c.Sign_,c.Regs_,c.Slots_,c.List_)):=by
  refine zlz (p:=mayT c.Sign_) (fun k=>((k:Int),c.Sign_,c.Regs_,c.Slots_,c.List_)) (fun k=>((k:Int),c.Sign_,c.Regs_,c.Slots_,c.List_)) (fun k hk=>?_) ?_ h
  ·rw [zhv]
   have e1:decide ((k:Int)<(c.Regs_.length:Int))=true:=by simp; omega
   dsimp only
   rw [e1,zy hk]
   simp only [cond_true,Option.bind_some,y4e,zs7,z11 (show k<4611686018427387904 by omega)]
   cases mayT c.Sign_ c.Regs_[k] <;> rfl
  ·rw [zhv]; simp
 rw [y4c,y4y]
 dsimp only
 rw [hit,← zej]
 cases c.Regs_.findIdx? (fun x=>!mayT c.Sign_ x) with
 | none=>rfl
 | some i=>simp [Bo.then]
theorem y4h {n:Nat} (h:c.Slots_.length<n) (h2:c.Slots_.length<1000000) (hb:∀ s ∈ c.Slots_,0≤s.Bits_∧s.Bits_<4294967296):f32 n (c.Slots_,c.Sign_,c.Regs_,c.Slots_,c.List_)=some (!(c.Slots_.all (mayS c.Sign_)),c.Sign_,c.Regs_,c.Slots_,c.List_):=by
 have hit:iter (zk2 n (c.Slots_,c.Sign_,c.Regs_,c.Slots_,c.List_) ()) n ((0:Int),c.Sign_,c.Regs_,c.Slots_,c.List_)=some (match c.Slots_.findIdx? (fun x=>!mayS c.Sign_ x) with | none=>.out ((c.Slots_.length:Int),c.Sign_,c.Regs_,c.Slots_,c.List_) | some i=>.ret ((i:Int),c.Sign_,c.Regs_,c.Slots_,c.List_)):=by
  refine zlz (p:=mayS c.Sign_) (fun k=>((k:Int),c.Sign_,c.Regs_,c.Slots_,c.List_)) (fun k=>((k:Int),c.Sign_,c.Regs_,c.Slots_,c.List_)) (fun k hk=>?_) ?_ h
  ·rw [zhw]
   have e1:decide ((k:Int)<(c.Slots_.length:Int))=true:=by simp; omega
   obtain ⟨b0,b1⟩:=hb _ (List.getElem_mem hk)
   dsimp only
   rw [e1,zy hk]
   simp only [cond_true,Option.bind_some,y4i,y4k _ _ b0 b1,z11 (show k<4611686018427387904 by omega)]
   cases mayS c.Sign_ c.Slots_[k] <;> rfl
  ·rw [zhw]; simp
 rw [y4g,y4z]
 dsimp only
 rw [hit,← zej]
 cases c.Slots_.findIdx? (fun x=>!mayS c.Sign_ x) with
 | none=>rfl
 | some i=>simp [Bo.then]
theorem zxs {n m:Nat} (h:c.Regs_.length<m) (h2:c.Regs_.length<1000000):iter (zjp n c ()) m 0=some (bif c.Regs_.all (mayT c.Sign_) then .out (c.Regs_.length:Int) else .ret ()):=by
 refine z3q (fun k hk=>?_) ?_ h
 ·rw [zhk]
  have e1:decide ((k:Int)<(c.Regs_.length:Int))=true:=by simp; omega
  rw [e1,zy hk]
  simp only [cond_true,Option.bind_some,zs9,z11 (show k<4611686018427387904 by omega)]
  cases mayT c.Sign_ c.Regs_[k] <;> rfl
 ·rw [zhk]; simp
theorem zs6 {n m:Nat} (h:c.Slots_.length<m) (h2:c.Slots_.length<1000000) (hb:∀ s ∈ c.Slots_,0≤s.Bits_∧s.Bits_<4294967296):iter (zjq n c ()) m 0=some (bif c.Slots_.all (mayS c.Sign_) then .out (c.Slots_.length:Int) else .ret ()):=by
 refine z3q (fun k hk=>?_) ?_ h
 ·rw [zhl]
  have e1:decide ((k:Int)<(c.Slots_.length:Int))=true:=by simp; omega
  obtain ⟨b0,b1⟩:=hb _ (List.getElem_mem hk)
  rw [e1,zy hk]
  simp only [cond_true,Option.bind_some,y4r _ _ b0 b1,z11 (show k<4611686018427387904 by omega)]
  cases mayS c.Sign_ c.Slots_[k] <;> rfl
 ·rw [zhl]; simp
theorem z70 {S Y Z:Type} {L:Nat} (g:Nat→S) {body:S→Option (Bo S Y Z)} {y:Y} (hb:∀ k,k<L→body (g k)=some (.go (g (k+1)))) (he:body (g L)=some (.out y)) :
  ∀ (j k f:Nat),k+j=L→j<f→iter body f (g k)=some (.out y)
 | 0,k,f+1,hk,hf=>by
  obtain rfl:k=L:=by omega
  unfold iter
  rw [he]
 | j+1,k,f+1,hk,hf=>by
  unfold iter
  rw [hb k (by omega)]
  exact z70 g hb he j (k+1) f (by omega) (by omega)
theorem y2o {n m:Nat} (h:c.Regs_.length<m) (h2:c.Regs_.length<1000000):iter (zjr n c ()) m (0,[])=some (.out ((c.Regs_.length:Int),List.replicate c.Regs_.length false)):=by
 refine z70 (L:=c.Regs_.length) (fun k=>((k:Int),List.replicate k false)) (fun k hk=>?_) ?_ c.Regs_.length 0 m (by omega) h
 ·rw [zhm]
  have e1:decide ((k:Int)<(c.Regs_.length:Int))=true:=by simp; omega
  dsimp only
  rw [e1,cond_true,zo (by simp; omega),z11 (by omega),← List.replicate_succ']
 ·rw [zhm]; simp
end
def okB (y:Int):Bool:=(decide (y≥65) && decide (y≤90)) || ((decide (y≥97) && decide (y≤122)) || ((decide (y≥48) && decide (y≤57)) || (y==95 || (y==46 || (y==47 || y==45)))))
theorem idxB (y:Int) (h0:0≤y) (h1:y<256):decide ((Lib.indexByte [95,46,47,45] y.toNat.toUInt8:Int)≥0)=(y==95 || (y==46 || (y==47 || y==45))):=by
 have h:(List.range 256).all (fun k=>decide ((Lib.indexByte [95,46,47,45] k.toUInt8:Int)≥0)==((k:Int)==95 || ((k:Int)==46 || ((k:Int)==47 || (k:Int)==45))))=true:=by kernel_rfl
 have:=List.all_eq_true.1 h y.toNat (by simp; omega)
 have e:((y.toNat:Nat):Int)=y:=by omega
 rw [e] at this
 simpa using this
theorem y5r {n:Nat} (y:Int) (h0:0≤y) (h1:y<256):∃ r,f68 n (⟨#[95,46,47,45]⟩,y)=some r∧decide (r≥0)=(y==95 || (y==46 || (y==47 || y==45))) :=
 ⟨_,by rw [y5q]; rfl,idxB y h0 h1⟩
theorem zjg {x:ByteArray} {k:Nat} (h:k<(bytesOf x).length):0≤(bytesOf x)[k]∧(bytesOf x)[k]<256∧za x (k:Int)=(bytesOf x)[k]:=by
 have hl:k<x.data.toList.length:=by simpa [bytesOf] using h
 have e:(bytesOf x)[k]=((x.data.toList[k]).toNat:Int):=by simp [bytesOf]
 have hb:=UInt8.toNat_lt (x.data.toList[k])
 refine ⟨by rw [e]; omega,by rw [e]; omega,?_⟩
 rw [e]
 unfold za
 rw [List.getD_eq_getElem?_getD,show ((k:Int).toNat)=k from rfl,List.getElem?_eq_getElem hl]
 rfl
theorem zhg (x:ByteArray):(bytesOf x).length=x.size:=by
 unfold bytesOf
 rw [List.length_map]
 rfl
def z8f (x:ByteArray):Bool:=!(x==⟨#[]⟩ || decide ((x.size:Int) > 64)) && (bytesOf x).all okB
theorem y5g {n:Nat} (x:ByteArray) (hn:64<n):f61 n x=some (z8f x):=by
 rw [y5f]
 have hB:(bif (x==⟨#[]⟩) then some (Sum.inl true) else some (.inl (decide ((x.size:Int) > 64))):Option (Bool⊕Bool))=some (.inl (x==⟨#[]⟩ || decide ((x.size:Int) > 64))):=by
  cases (x==(⟨#[]⟩:ByteArray)) <;> rfl
 rw [hB,Option.bind_some,orRet_inl]
 unfold z8f
 cases hq:(x==⟨#[]⟩ || decide ((x.size:Int) > 64)) with
 | true=>rfl
 | false =>
  have hs:x.size≤64:=by
   simp only [Bool.or_eq_false_iff,decide_eq_false_iff_not] at hq
   omega
  have hl:=zhg x
  have hit:iter (zk5 n x ()) n 0=some (bif (bytesOf x).all okB then .out ((bytesOf x).length:Int) else .ret ()):=by
   refine z3q (fun k hk=>?_) ?_ (by omega)
   ·obtain ⟨b0,b1,_⟩:=zjg hk
    obtain ⟨r,r1,r2⟩:=y5r (n:=n) _ b0 b1
    rw [zhz]
    have e1:decide ((k:Int)<((bytesOf x).length:Int))=true:=by simp; omega
    rw [e1,zy hk]
    simp only [cond_true,Option.bind_some]
    generalize (bytesOf x)[k]=y at *
    rw [z11 (by omega)]
    unfold okB
    cases a1:decide (y≥65) <;> cases a2:decide (y≤90) <;> cases a3:decide (y≥97) <;> cases a4:decide (y≤122) <;> cases a5:decide (y≥48) <;> cases a6:decide (y≤57) <;> simp only [a1,a2,a3,a4,a5,a6,cond_true,cond_false,Option.bind_some,orRet_inl,r1,r2] <;> cases (y==95 || (y==46 || (y==47 || y==45))) <;> rfl
   ·rw [zhz]; simp
  rw [hit]
  cases (bytesOf x).all okB <;> rfl
set_option maxHeartbeats 4000000 in
theorem y5k {n:Nat} (x:ByteArray) (hn:64<n):f63 n x=some (z8f x):=by
 rw [y5j]
 have hB:(bif (x==⟨#[]⟩) then some (Sum.inl true) else some (.inl (decide ((x.size:Int) > 64))):Option (Bool⊕Bool))=some (.inl (x==⟨#[]⟩ || decide ((x.size:Int) > 64))):=by
  cases (x==(⟨#[]⟩:ByteArray)) <;> rfl
 rw [hB,Option.bind_some,orRet_inl]
 unfold z8f
 cases hq:(x==⟨#[]⟩ || decide ((x.size:Int) > 64)) with
 | true=>rfl
 | false =>
  have hs:x.size≤64:=by
   simp only [Bool.or_eq_false_iff,decide_eq_false_iff_not] at hq
   omega
  have hl:=zhg x
  have hit:iter (zk6 n x ()) n 0=some (bif (bytesOf x).all okB then .out ((bytesOf x).length:Int) else .ret ()):=by
   refine z3q (fun k hk=>?_) ?_ (by omega)
   ·obtain ⟨_,_,b2⟩:=zjg hk
    rw [zi0]
    have e1:decide ((k:Int)<(x.size:Int))=true:=by simp; omega
    rw [e1,b2,cond_true,zo (by omega),z11 (by omega)]
    generalize (bytesOf x)[k]=y
    unfold okB
    cases decide (y≥97) <;> cases decide (y≤122) <;> cases decide (y≥65) <;> cases decide (y≤90) <;> cases decide (y≥48) <;> cases decide (y≤57) <;> cases (y==95) <;> cases (y==46) <;> cases (y==47) <;> cases (y==45) <;> rfl
   ·rw [zi0,hl]; simp
  rw [hit]
  cases (bytesOf x).all okB <;> rfl
def mayP (p:Xa):Bool:=z8f p.Name_ && ((p.Kind_==1 || p.Kind_==2) && (decide (p.Len_≥1) && decide (p.Len_≤4096)))
theorem zsb {n:Nat} (p:Xa) (hn:64<n):f48 n p=some (mayP p):=by
 rw [y4v,y5g _ hn]
 unfold mayP
 simp only [Option.bind_some]
 cases z8f p.Name_ <;> cases (p.Kind_==1) <;> cases (p.Kind_==2) <;> cases decide (p.Len_≥1) <;> rfl
theorem zsd {n:Nat} (p:Xa) (hn:64<n):f55 n p=some (mayP p):=by
 rw [y55,y5k _ hn]
 unfold mayP
 simp only [Option.bind_some]
 cases z8f p.Name_ <;> cases (p.Kind_==1) <;> cases (p.Kind_==2) <;> cases decide (p.Len_≥1) <;> rfl
theorem zn7 {a b:ByteArray}:(a==b)=true↔a=b:=MapKept.bytes_beq a b
theorem zjd (a:ByteArray):(a==a)=true:=zn7.2 rfl
def addP (ks:List ByteArray) (p:Xa):List ByteArray:=bif has p.Name_ ks then ks else ks++[p.Name_]
theorem zlx {n:Nat} (hn:64<n):∀ (l:List Xa) (ks:List ByteArray),z91 n l ks=some (bif l.all mayP then some (l.foldl addP ks) else none)
 | [],ks=>rfl
 | p::l,ks=>by
  unfold z91
  have e:zfv n p=some (mayP p):=zsb p hn
  rw [e]
  simp only [Option.bind_some,List.all_cons,List.foldl_cons]
  cases mayP p with
  | false=>rfl
  | true =>
   simp only [cond_true,Bool.true_and]
   exact zlx hn l _
theorem y2z (s:ByteArray) (ks:List ByteArray) (p:Xa):has s (addP ks p)=(has s ks || p.Name_==s):=by
 unfold addP
 cases h:has p.Name_ ks with
 | false=>simp [has]
 | true =>
  simp only [cond_true]
  cases hq:p.Name_==s with
  | false=>simp
  | true =>
   rw [zn7] at hq
   subst hq
   simp [h]
theorem zi2 {x:List Xa} {k:Nat} (h:k<x.length):(x.take (k+1)).foldl addP []=addP ((x.take k).foldl addP []) x[k]:=by
 rw [List.take_succ_eq_append_getElem h,List.foldl_append]
 rfl
theorem zly {x:List Xa} (s:ByteArray):∀ k,k≤x.length→has s ((x.take k).foldl addP [])=(x.take k).any (fun p=>p.Name_==s)
 | 0,_=>by simp [has]
 | k+1,h=>by
  rw [zi2 (by omega),y2z,zly s k (by omega),List.take_succ_eq_append_getElem (by omega),List.any_append]
  simp only [List.any_cons,List.any_nil,Bool.or_false]
def z3g (x:List Xa) (k:Nat):Bool:=match x[k]? with | some p=>!((x.take k).any fun q=>q.Name_==p.Name_) | none=>true
theorem zm5 {x:List Xa}:∀ k,k≤x.length→((x.take k).foldl addP []).length=(List.range k).countP (z3g x)
 | 0,_=>by simp
 | k+1,h=>by
  have hk:k<x.length:=by omega
  rw [zi2 hk,List.range_succ,List.countP_append,← zm5 k (by omega)]
  have e:z3g x k = !(has x[k].Name_ ((x.take k).foldl addP [])):=by
   unfold z3g
   rw [List.getElem?_eq_getElem hk,zly _ k (by omega)]
  have e2:addP ((x.take k).foldl addP []) x[k]=bif has x[k].Name_ ((x.take k).foldl addP []) then (x.take k).foldl addP [] else (x.take k).foldl addP []++[x[k].Name_]:=rfl
  rw [e2]
  cases hh:has x[k].Name_ ((x.take k).foldl addP []) with
  | true=>rw [hh] at e; simp [List.countP_cons,e]
  | false=>rw [hh] at e; simp [List.countP_cons,e]
theorem y3x (x:List Xa):decide (((x.foldl addP []).length:Int)<(x.length:Int)) = !((List.range x.length).all (z3g x)):=by
 have h:=zm5 (x:=x) x.length (Nat.le_refl _)
 rw [List.take_length] at h
 rw [h]
 have hle:=List.countP_le_length (p:=z3g x) (l:=List.range x.length)
 simp only [List.length_range] at hle
 cases ha:(List.range x.length).all (z3g x) with
 | true =>
  have:(List.range x.length).countP (z3g x)=(List.range x.length).length:=List.countP_eq_length.2 (List.all_eq_true.1 ha)
  rw [this]; simp
 | false =>
  have:(List.range x.length).countP (z3g x) ≠ (List.range x.length).length:=fun e=>by
   have:=List.countP_eq_length.1 e
   have:(List.range x.length).all (z3g x)=true:=List.all_eq_true.2 this
   rw [ha] at this; cases this
  simp only [List.length_range] at this
  simp only [Bool.not_false,decide_eq_true_eq]
  omega
def fnd (x:List Xa) (s:ByteArray):Int×Bool:=match x.findIdx? (fun p=>p.Name_==s) with | none=>(0,false) | some i=>((i:Int),true)
theorem y57 {n:Nat} {x:List Xa} {s:ByteArray} (h:x.length<n) (h2:x.length<1000000):f56 n (x,s)=some (fnd x s):=by
 have hit:iter (zk3 n (x,s) ()) n 0=some (match x.findIdx? (fun p=>!(!(p.Name_==s))) with | none=>.out (x.length:Int) | some i=>.ret (i:Int)):=by
  refine zlz (p:=fun p=>!(p.Name_==s)) (fun k=>(k:Int)) (fun k=>(k:Int)) (fun k hk=>?_) ?_ h
  ·rw [zhx]
   have e1:decide ((k:Int)<(x.length:Int))=true:=by simp; omega
   dsimp only
   rw [e1,zy hk]
   simp only [cond_true,Option.bind_some,z11 (show k<4611686018427387904 by omega)]
   cases x[k].Name_==s <;> rfl
  ·rw [zhx]; simp
 rw [y56,hit]
 unfold fnd
 simp only [Bool.not_not]
 cases x.findIdx? (fun p=>p.Name_==s) <;> rfl
theorem zy1 {x:List Xa} {k:Nat} (hk:k<x.length):(fnd x x[k].Name_).1=(k:Int)↔z3g x k=true:=by
 unfold z3g fnd
 rw [List.getElem?_eq_getElem hk]
 simp only [Bool.not_eq_true']
 cases hf:x.findIdx? (fun p=>p.Name_==x[k].Name_) with
 | none =>
  rw [List.findIdx?_eq_none_iff] at hf
  have:=hf x[k] (List.getElem_mem hk)
  rw [zjd] at this; cases this
 | some i =>
  obtain ⟨hi,h1,h2⟩:=List.findIdx?_eq_some_iff_getElem.1 hf
  simp only
  constructor
  ·intro e
   have e:i=k:=by omega
   subst e
   rw [Bool.eq_false_iff]
   intro ha
   obtain ⟨q,hq,hq2⟩:=List.any_eq_true.1 ha
   obtain ⟨j,hj,rfl⟩:=List.getElem_of_mem hq
   simp only [List.length_take] at hj
   have:=h2 j (by omega)
   rw [List.getElem_take] at hq2
   rw [hq2] at this
   simp at this
  ·intro ha
   by_cases hik:i<k
   ·exfalso
    have:(x.take k).any (fun q=>q.Name_==x[k].Name_)=true:=by
     rw [List.any_eq_true]
     exact ⟨x[i],List.mem_take_iff_getElem.2 ⟨i,by omega,rfl⟩,h1⟩
    rw [ha] at this; cases this
   ·by_cases hki:k<i
    ·exfalso
     have:=h2 k hki
     rw [zjd] at this; simp at this
    ·omega
def numP (p:Xa):Int:=bif mayP p then (bif p.Kind_==2 then IntKind.i64.wrap (2 * p.Len_) else p.Len_) else 0
theorem y5i {n:Nat} (p:Xa) (hn:64<n):f62 n p=some (numP p):=by
 rw [y5h,zsb _ hn]
 unfold numP
 simp only [Option.bind_some]
 cases mayP p <;> cases (p.Kind_==2) <;> rfl
theorem zsf {n:Nat} (p:Xa) (hn:64<n):f64 n p=some (numP p):=by
 rw [y5l,zsd _ hn]
 unfold numP
 simp only [Option.bind_some]
 cases mayP p <;> cases (p.Kind_==2) <;> rfl
def z4n (x:List Xa) (k:Nat):Int:=(x.take k).foldl (fun s p=>IntKind.i64.wrap (s+numP p)) 0
theorem zmp {x:List Xa} {k:Nat} (h:k<x.length):z4n x (k+1)=IntKind.i64.wrap (z4n x k+numP x[k]):=by
 unfold z4n
 rw [List.take_succ_eq_append_getElem h,List.foldl_append]
 rfl
theorem y4x {n:Nat} {x:List Xa} (hn:64<n) (hl:x.length≤64):f49 n x=some (z4n x x.length):=by
 have hit:iter (zk0 n x ()) n (0,0)=some (.out (z4n x x.length,(x.length:Int))):=by
  refine z70 (L:=x.length) (fun k=>(z4n x k,(k:Int))) (fun k hk=>?_) ?_ x.length 0 n (by omega) (by omega)
  ·rw [zhu]
   have e1:decide ((k:Int)<(x.length:Int))=true:=by simp; omega
   dsimp only
   rw [e1,zy hk]
   simp only [cond_true,Option.bind_some,y5i _ hn,z11 (show k<4611686018427387904 by omega),zmp hk]
  ·rw [zhu]; simp
 rw [y4w,hit]
 rfl
theorem y59 {n:Nat} {x:List Xa} (hn:64<n) (hl:x.length≤64):f57 n x=some (z4n x x.length):=by
 have hit:iter (zk4 n x ()) n (0,0)=some (.out (z4n x x.length,(x.length:Int))):=by
  refine z70 (L:=x.length) (fun k=>(z4n x k,(k:Int))) (fun k hk=>?_) ?_ x.length 0 n (by omega) (by omega)
  ·rw [zhy]
   have e1:decide ((k:Int)<(x.length:Int))=true:=by simp; omega
   dsimp only
   rw [e1,zy hk]
   simp only [cond_true,Option.bind_some,zsf _ hn,z11 (show k<4611686018427387904 by omega),zmp hk]
  ·rw [zhy]; simp
 rw [y58,hit]
 rfl
def sgn (x:List Xa):Int:=bif decide ((x.length:Int) > 64) then 2 else bif x.all mayP then (bif (List.range x.length).all (z3g x) then (bif decide (z4n x x.length > 65536) then 102 else 0) else 101) else 100
theorem y4b {n:Nat} (x:List Xa) (hn:64<n):f28 n x=some (sgn x):=by
 show g28 n x=_
 unfold g28 sgn
 simp only [List.length_map]
 cases hl:decide ((x.length:Int) > 64) with
 | true=>rfl
 | false =>
  have hl':x.length≤64:=by simp only [decide_eq_false_iff_not] at hl; omega
  rw [zlx hn]
  cases x.all mayP with
  | false=>rfl
  | true =>
   have e:zuj n x=some (z4n x x.length):=y4x hn hl'
   simp only [cond_false,cond_true,Option.bind_some,z7k,List.length_map,y3x,e]
   cases (List.range x.length).all (z3g x) <;> cases decide (z4n x x.length > 65536) <;> rfl
theorem y4o {n:Nat} (x:List Xa) (hn:64<n):f38 n x=some (sgn x):=by
 rw [y4n]
 unfold sgn
 cases hl:decide ((x.length:Int) > 64) with
 | true=>rfl
 | false =>
  have hl':x.length≤64:=by simp only [decide_eq_false_iff_not] at hl; omega
  have h1:iter (zjx n x ()) n 0=some (bif x.all mayP then .out (x.length:Int) else .ret ()):=by
   refine z3q (fun k hk=>?_) ?_ (by omega)
   ·rw [zhr]
    have e1:decide ((k:Int)<(x.length:Int))=true:=by simp; omega
    rw [e1,zy hk]
    simp only [cond_true,Option.bind_some,zsd _ hn,z11 (show k<4611686018427387904 by omega)]
    cases mayP x[k] <;> rfl
   ·rw [zhr]; simp
  have h2:iter (zjy n x ()) n 0=some (bif (List.range x.length).all (z3g x) then .out (x.length:Int) else .ret ()):=by
   refine z3q (l:=List.range x.length) (fun k hk=>?_) ?_ (by simp; omega)
   ·simp only [List.length_range] at hk
    rw [zhs]
    have e1:decide ((k:Int)<(x.length:Int))=true:=by simp; omega
    rw [e1,zy hk]
    simp only [cond_true,Option.bind_some,y57 (n:=n) (x:=x) (s:=x[k].Name_) (by omega) (by omega),z11 (show k<4611686018427387904 by omega),List.getElem_range]
    have:=zy1 hk
    cases hq:z3g x k with
    | true =>
     have e:=this.2 hq
     rw [e]
     simp
    | false =>
     have e:(fnd x x[k].Name_).1 ≠ (k:Int):=fun e=>by
      have:=this.1 e
      rw [hq] at this; cases this
     have e2:((fnd x x[k].Name_).1 != (k:Int))=true:=by simpa using e
     rw [e2]; rfl
   ·rw [List.length_range,zhs]; simp
  rw [h1]
  simp only [cond_false]
  cases x.all mayP with
  | false=>rfl
  | true =>
   simp only [cond_true,Option.bind_some,Bo.then]
   rw [h2]
   cases (List.range x.length).all (z3g x) with
   | false=>rfl
   | true =>
    simp only [cond_true,Option.bind_some,Bo.then,y59 hn hl']
    cases decide (z4n x x.length > 65536) <;> rfl
theorem y1y (a:Int):(a==a)=true:=by simp
structure z7d (a:Xe):Prop where
 s:a.Sign_.length * 32≤140737488355328
 r:a.Regs_.length * 16≤140737488355328
 l:a.Slots_.length * 32≤140737488355328
 i:a.List_.length * 56≤140737488355328
def fuel (a:Xe):Nat:=a.Sign_.length+a.Regs_.length+a.Slots_.length+a.List_.length+100001
def z20 (l:List Xa) (t:Xb):Int:=bif t.Kind_ != 3 then 1 else match idx l t.Param_ with | some p=>p.Len_ | none=>0
def goR (c:Xe):List Xd→Nat→List Bool→List Xg→Nat⊕(List Bool×List Xg)
 | [],_,set,o=>.inr (set,o)
 | i::l,k,set,o=>bif z1d c i set o then goR c l (k+1) (z1t i set o).1 (z1t i set o).2 else .inl k
section
variable {c:Xe}
theorem zz2 {m m':Nat} {x:Xe} (hr:∀ t ∈ c.Regs_,mayT c.Sign_ t=true) (hR:c.Regs_.length≤1000000) (hL:c.List_.length<1000000) (hm:c.List_.length<m) (hb:∀ i ∈ c.List_,0≤i.Bits_∧i.Bits_<4294967296) :
  ∀ (j k f f':Nat) (set:List Bool) (news:List (List Int)) (op:List Int) (o:List Xg),k+j=c.List_.length→j<f→j<f'→Two c k set news op o →
   ∃ news' op',(∀ r,goR c (c.List_.drop k) k set o = .inr r→op'.length=r.2.length) ∧
    iter (zcm (m+5) x (c.List_,(c.List_.length:Int),c.Sign_,c.Regs_,c.Slots_)) f ((k:Int),c.Sign_,c.Regs_,c.Slots_,c.List_,set,news,op)=some (match goR c (c.List_.drop k) k set o with | .inl k'=>.ret (k':Int) | .inr r=>.out ((c.List_.length:Int),c.Sign_,c.Regs_,c.Slots_,c.List_,r.1,news',op')) ∧
    iter (zcn (m'+4) c ()) f' ((k:Int),set,o)=some (match goR c (c.List_.drop k) k set o with | .inl k'=>.ret (k':Int) | .inr r=>.out ((c.List_.length:Int),r.1,r.2))
 | 0,k,f+1,f'+1,set,news,op,o,hk,_,_,h=>by
  obtain rfl:k=c.List_.length:=by omega
  rw [List.drop_length]
  refine ⟨news,op,fun r hr=>?_,?_,?_⟩
  ·cases hr; rw [h.op]; simp
  ·unfold iter
   rw [zhj]; simp [goR]
  ·unfold iter
   rw [zhn]; simp [goR]
 | j+1,k,f+1,f'+1,set,news,op,o,hk,hf,hf',h=>by
  have hkl:k<c.List_.length:=by omega
  obtain ⟨b0,b1⟩:=hb _ (List.getElem_mem hkl)
  have e1:decide ((k:Int)<(c.List_.length:Int))=true:=by simp; omega
  have s1:=zxr (m:=m) (x:=x) (v:=(c.List_,(c.List_.length:Int),c.Sign_,c.Regs_,c.Slots_)) h (by omega) (by omega) hr b0 b1 (by omega) e1 (zy hkl)
  have s2:=zxt (m:=m') h hr hR b0 b1 (by omega) hkl (zy hkl)
  have e2:z1d c c.List_[k] set o=okI c c.List_[k] set op:=by
   unfold z1d okI
   rw [h.place]
   cases fits c c.List_[k] <;> cases rdOk set c.List_[k] <;> cases z3n c.List_[k] o <;> simp
  rw [List.drop_eq_getElem_cons hkl]
  have eg:goR c (c.List_[k]::c.List_.drop (k+1)) k set o=bif z1d c c.List_[k] set o then goR c (c.List_.drop (k+1)) (k+1) (z1t c.List_[k] set o).1 (z1t c.List_[k] set o).2 else .inl k:=rfl
  rw [eg]
  rw [e2] at s2 ⊢
  unfold iter
  rw [s1,s2]
  cases hok:okI c c.List_[k] set op with
  | false=>exact ⟨[],[],fun r hr=>(by cases hr),rfl,rfl⟩
  | true =>
   obtain ⟨q1,q2⟩:=h.next hok
   simp only [cond_true]
   have e3:z1t c.List_[k] set o=((z95 c.List_[k] set news op).1,(z1t c.List_[k] set o).2):=by rw [← q1]
   rw [e3]
   exact zz2 hr hR hL hm hb j (k+1) f f' _ _ _ _ (by omega) (by omega) (by omega) q2
end
def chk (c:Xe):Int×Int :=
 bif sgn c.Sign_ != 0 then (sgn c.Sign_,-1) else bif (decide ((c.Regs_.length:Int) > 16384) || decide ((c.List_.length:Int) > 32768)) then (181,-1) else bif decide ((c.Slots_.length:Int) > 4096) then (180,-1) else
 bif c.Regs_.all (mayT c.Sign_) then (bif c.Slots_.all (mayS c.Sign_) then (match goR c c.List_ 0 (List.replicate c.Regs_.length false) [] with | .inl k=>(160,(k:Int)) | .inr r=>bif decide ((r.2.length:Int) > 0) then (160,(c.List_.length:Int)) else (0,0)) else (160,-1)) else (160,-1)
theorem zef {n:Nat} {c:Xe} (hn:100000<n) (hs:∀ s ∈ c.Slots_,0≤s.Bits_∧s.Bits_<4294967296) (hb:∀ i ∈ c.List_,0≤i.Bits_∧i.Bits_<4294967296):f16 n c=some (chk c)∧f21 n c=some (chk c):=by
 unfold chk
 obtain ⟨m,rfl⟩:∃ m,n=m+5:=⟨n - 5,by omega⟩
 rw [y47,y48,y4b _ (by omega),y4o _ (by omega)]
 simp only [Option.bind_some]
 cases sgn c.Sign_ != 0 with
 | true=>exact ⟨rfl,rfl⟩
 | false =>
  have hB:∀ {R:Type},(bif (decide ((c.Regs_.length:Int) > 16384)) then some (Sum.inl true) else some (.inl (decide ((c.List_.length:Int) > 32768))):Option (Bool⊕R))=some (.inl (decide ((c.Regs_.length:Int) > 16384) || decide ((c.List_.length:Int) > 32768))):=by
   intro R
   cases decide ((c.Regs_.length:Int) > 16384) <;> rfl
  simp only [cond_false]
  rw [hB,Option.bind_some,orRet_inl]
  cases hz:(decide ((c.Regs_.length:Int) > 16384) || decide ((c.List_.length:Int) > 32768)) with
  | true=>exact ⟨rfl,rfl⟩
  | false =>
   simp only [Bool.or_eq_false_iff,decide_eq_false_iff_not] at hz
   simp only [cond_false]
   cases hy:decide ((c.Slots_.length:Int) > 4096) with
   | true=>exact ⟨rfl,rfl⟩
   | false =>
    simp only [decide_eq_false_iff_not] at hy
    simp only [cond_false]
    rw [y4d (by omega) (by omega),zxs (by omega) (by omega)]
    cases hr:c.Regs_.all (mayT c.Sign_) with
    | false=>exact ⟨rfl,rfl⟩
    | true =>
     have hr':∀ t ∈ c.Regs_,mayT c.Sign_ t=true:=List.all_eq_true.1 hr
     simp only [Option.bind_some,Bool.not_true,cond_false,cond_true,Bo.then]
     rw [y4h (by omega) (by omega) hs,zs6 (by omega) (by omega) hs]
     cases c.Slots_.all (mayS c.Sign_) with
     | false=>exact ⟨rfl,rfl⟩
     | true =>
      simp only [Option.bind_some,orRet_inl,Bool.not_true,cond_false,cond_true,Bo.then]
      rw [zo (by omega),y2o (by omega) (by omega)]
      simp only [Option.bind_some,Bo.then]
      have h0:Two c 0 (List.replicate c.Regs_.length false) [] [] []:=⟨by simp,rfl,by simp,fun x hx=>(by cases hx),trivial⟩
      have hset:List.replicate ((c.Regs_.length:Int)).toNat false=List.replicate c.Regs_.length false:=by rw [Int.toNat_natCast]
      rw [hset]
      obtain ⟨news',op',q0,q1,q2⟩:=zz2 (m:=m) (m':=m+1) (x:=c) hr' (by omega) (by omega) (by omega) hb c.List_.length 0 (m+5) (m+5) _ _ _ _ (by omega) (by omega) (by omega) h0
      rw [List.drop_zero] at q0 q1 q2
      have q1:iter (zcm (m+5) c (c.List_,(c.List_.length:Int),c.Sign_,c.Regs_,c.Slots_)) (m+5) (0,c.Sign_,c.Regs_,c.Slots_,c.List_,List.replicate c.Regs_.length false,[],[])=_:=q1
      have q2:iter (zcn (m+5) c ()) (m+5) (0,List.replicate c.Regs_.length false,[])=_:=q2
      rw [q1,q2]
      cases hg:goR c c.List_ 0 (List.replicate c.Regs_.length false) [] with
      | inl k=>exact ⟨rfl,rfl⟩
      | inr r =>
       have:=q0 r hg
       simp only [Option.bind_some,Bo.then,this]
       cases decide ((r.2.length:Int) > 0) <;> exact ⟨rfl,rfl⟩
def opn1 (i:Xd):Int:=bif i.Op_==34 || i.Op_==36 then 1 else bif i.Op_==35 || i.Op_==37 then -1 else 0
def opn (l:List Xd):Int:=l.foldl (fun s i=>s+opn1 i) 0
def z9g (d:Nat) (s t:List Bool):Prop:=s.length=t.length∧∀ j,j ≠ d→s[j]? = t[j]?
inductive z5y (d:Nat):List Xg→List Xg→Prop
 | nil:z5y d [] []
 | snoc {o p:List Xg} {x y:Xg}:z5y d o p→x.Op_=y.Op_→x.Param_=y.Param_→z9g d x.Set_ y.Set_→z5y d (o++[x]) (p++[y])
theorem z5y.inv {d:Nat} {o p:List Xg} (h:z5y d o p):(o=[]∧p=[])∨∃ o' p' x y,o=o'++[x]∧p=p'++[y]∧z5y d o' p'∧x.Op_=y.Op_∧x.Param_=y.Param_∧z9g d x.Set_ y.Set_:=by
 cases h with
 | nil=>exact .inl ⟨rfl,rfl⟩
 | snoc h1 h2 h3 h4=>exact .inr ⟨_,_,_,_,rfl,rfl,h1,h2,h3,h4⟩
theorem z5y.len {d:Nat} {o p:List Xg} (h:z5y d o p):o.length=p.length:=by
 induction h with
 | nil=>rfl
 | snoc _ _ _ _ ih=>simp [ih]
theorem z9g.refl (d:Nat) (s:List Bool):z9g d s s:=⟨rfl,fun _ _=>rfl⟩
theorem z5y.refl (d:Nat) (o:List Xg):z5y d o o:=by
 have:∀ (n:Nat) (o:List Xg),o.length=n→z5y d o o:=by
  intro n
  induction n with
  | zero=>intro o h; rw [List.eq_nil_of_length_eq_zero h]; exact .nil
  | succ n ih =>
   intro o h
   obtain ⟨x,x1,_⟩:=z58 o (by omega)
   rw [zg3 x1]
   exact .snoc (ih _ (by simp; omega)) rfl rfl (z9g.refl d _)
 exact this _ o rfl
theorem z9g.set {d:Nat} {s t:List Bool} (h:z9g d s t) (j:Nat) (b:Bool):z9g d (s.set j b) (t.set j b):=by
 refine ⟨by simp [h.1],fun k hk=>?_⟩
 rw [List.getElem?_set,List.getElem?_set,h.1,h.2 k hk]
abbrev z29 (c:Xe):List Bool:=List.replicate c.Regs_.length false
theorem z85 {c:Xe} (h:(chk c).1=0):(sgn c.Sign_ != 0)=false∧decide ((c.Regs_.length:Int) > 16384)=false∧decide ((c.List_.length:Int) > 32768)=false∧decide ((c.Slots_.length:Int) > 4096)=false∧c.Regs_.all (mayT c.Sign_)=true∧c.Slots_.all (mayS c.Sign_)=true ∧
  ∃ r,goR c c.List_ 0 (z29 c) [] = .inr r∧r.2=[]:=by
 unfold chk at h
 cases h1:sgn c.Sign_ != 0 with
 | true =>
  rw [h1] at h
  have h:sgn c.Sign_=0:=h
  rw [h] at h1; cases h1
 | false =>
  rw [h1] at h
  cases h2:decide ((c.Regs_.length:Int) > 16384) with
  | true=>rw [h2] at h; exact absurd (show (181:Int)=0 from h) (by decide)
  | false =>
   cases h3:decide ((c.List_.length:Int) > 32768) with
   | true=>rw [h2,h3] at h; exact absurd (show (181:Int)=0 from h) (by decide)
   | false =>
    rw [h2,h3] at h
    cases h4:decide ((c.Slots_.length:Int) > 4096) with
    | true=>rw [h4] at h; exact absurd (show (180:Int)=0 from h) (by decide)
    | false =>
     rw [h4] at h
     cases h5:c.Regs_.all (mayT c.Sign_) with
     | false=>rw [h5] at h; exact absurd (show (160:Int)=0 from h) (by decide)
     | true =>
      rw [h5] at h
      cases h6:c.Slots_.all (mayS c.Sign_) with
      | false=>rw [h6] at h; exact absurd (show (160:Int)=0 from h) (by decide)
      | true =>
       rw [h6] at h
       refine ⟨rfl,rfl,rfl,rfl,rfl,rfl,?_⟩
       simp only [Bool.or_self,cond_false,cond_true] at h
       cases h7:goR c c.List_ 0 (z29 c) [] with
       | inl k=>rw [h7] at h; exact absurd h (by simp)
       | inr r =>
        rw [h7] at h
        refine ⟨r,rfl,?_⟩
        cases h8:decide ((r.2.length:Int) > 0) with
        | true=>simp only [h8,cond_true] at h; exact absurd h (by simp)
        | false =>
         simp only [decide_eq_false_iff_not] at h8
         exact List.eq_nil_of_length_eq_zero (by omega)
theorem zen (c:Xe) (l':List Xd):∀ (l:List Xd) (k:Nat) (s:List Bool) (o:List Xg),goR ⟨c.Sign_,c.Regs_,c.Slots_,l'⟩ l k s o=goR c l k s o
 | [],_,_,_=>rfl
 | i::l,k,s,o=>by
  simp only [goR]
  have e:z1d ⟨c.Sign_,c.Regs_,c.Slots_,l'⟩ i s o=z1d c i s o:=rfl
  rw [e,zen c l' l]
theorem y3q {c:Xe} (h:(chk c).1=0) (l:List Xd) (hl:l.length≤32768):chk ⟨c.Sign_,c.Regs_,c.Slots_,l⟩=match goR c l 0 (z29 c) [] with | .inl k=>(160,(k:Int)) | .inr r=>bif decide ((r.2.length:Int) > 0) then (160,(l.length:Int)) else (0,0):=by
 obtain ⟨h1,h2,h3,h4,h5,h6,_⟩:=z85 h
 have h3':decide ((l.length:Int) > 32768)=false:=by simp; omega
 unfold chk
 dsimp only
 rw [h1,h2,h3',h4,h5,h6,zen]
 rfl
theorem z1h {x:Int} (h0 : -1000000≤x) (h1:x≤1000000):IntKind.i64.wrap x=x:=zc1 (by omega) (by omega)
theorem z8b (c:Xe):∀ (l:List Xd) (k:Nat) (s:List Bool) (o:List Xg) (r:List Bool×List Xg),goR c l k s o = .inr r→∀ i ∈ l,fits c i=true
 | [],_,_,_,_,_,i,hi=>by cases hi
 | j::l,k,s,o,r,h,i,hi=>by
  simp only [goR] at h
  cases hs:z1d c j s o with
  | false=>rw [hs] at h; cases h
  | true =>
   rw [hs,cond_true] at h
   rcases List.mem_cons.1 hi with rfl | hi
   ·unfold z1d at hs
    simp only [Bool.and_eq_true] at hs
    exact hs.1
   ·exact z8b c l _ _ _ r h i hi
section
variable {c d:Xe} {i:Xd}
theorem z8z {c:Xe} {i:Xd} (h:fits c i=true) (ho:sets i=true):∃ t,idx c.Regs_ i.D_=some t∧t ∈ c.Regs_:=by
 unfold fits at h
 unfold sets at ho
 split at h
 ·cases h
 ·rename_i r hr
  rw [hr] at ho
  simp only [Bool.and_eq_true] at h
  obtain ⟨t,ht⟩:=z3s h.1 (by simpa using ho)
  exact ⟨t,ht,(z1s ht).1⟩
def zan (i:Xd):Bool:=match rowD i.Op_ with | some r=>!(r.a==0) | none=>false
theorem zfo {c:Xe} {i:Xd} (h:fits c i=true) (ho:zan i=true):∃ t,idx c.Regs_ i.A_=some t∧t ∈ c.Regs_:=by
 unfold fits at h
 unfold zan at ho
 split at h
 ·cases h
 ·rename_i r hr
  rw [hr] at ho
  simp only [Bool.and_eq_true] at h
  obtain ⟨t,ht⟩:=z3s h.2.1 (by simpa using ho)
  exact ⟨t,ht,(z1s ht).1⟩
theorem zye (i:Xd):(onD i=true→sets i=true)∧(onA i=true→zan i=true):=by
 obtain ⟨op,d,a,b,cc,N,bits⟩:=i
 rcases z4a op with (rfl | rfl | rfl | rfl | rfl | rfl | rfl | rfl | rfl | rfl | rfl | rfl | rfl | rfl | rfl | rfl | rfl | rfl | rfl | rfl | rfl | rfl | rfl | rfl | rfl | rfl | rfl | rfl | rfl | rfl | rfl | rfl | rfl | rfl | rfl | rfl | rfl) | h
 iterate 37 (· simp [onD,onA,elem,sets,zan,rowD])
 have he:elem op=false:=by
  cases he:elem op with
  | false=>rfl
  | true =>
   exfalso
   unfold elem at he
   have:3≤op∧op≤15:=by
    by_cases q:op≥3
    ·simp [q] at he; omega
    ·simp [q] at he
   have:=h op (by omega) (by omega)
   simp at this
 simp only [onD,onA,he,h 29 (by decide) (by decide),h 30 (by decide) (by decide),h 31 (by decide) (by decide),h 32 (by decide) (by decide),h 33 (by decide) (by decide)]
 constructor <;> intro h <;> cases h
end
abbrev U32s (c:Xe):Prop:=(∀ s ∈ c.Slots_,0≤s.Bits_∧s.Bits_<4294967296)∧∀ i ∈ c.List_,0≤i.Bits_∧i.Bits_<4294967296
theorem y3n {n:Nat} (h:100≤n):f126 n ()=some true:=by
 obtain ⟨m,rfl⟩:∃ m,n=m+100:=⟨n - 100,by omega⟩
 kernel_rfl
theorem y3l {n:Nat} {c:Xe} (h:z7d c):f101 n c=some (c.Sign_,c.Regs_,c.Slots_,c.List_):=by
 rw [y2g,zo h.s,zo h.r,zo h.l,zo h.i]
theorem zna {n:Nat} {c:Xe} (hn:100000<n) (hu:U32s c):f125 n c=some ((chk c).1==0):=by
 rw [y2j,(zef hn hu.1 hu.2).2]
 rfl
theorem zqc {n:Nat} {c:Xe} (h:z7d c):f144 n c=some (c.Sign_,c.Regs_,c.Slots_,c.List_):=by
 rw [y2l]
 have e1:f193 n c.Sign_=need (c.Sign_.length * 32≤140737488355328) (some c.Sign_):=rfl
 have e2:f194 n c.Regs_=need (c.Regs_.length * 16≤140737488355328) (some c.Regs_):=rfl
 have e3:f195 n c.Slots_=need (c.Slots_.length * 32≤140737488355328) (some c.Slots_):=rfl
 have e4:f196 n c.List_=need (c.List_.length * 56≤140737488355328) (some c.List_):=rfl
 rw [e1,e2,e3,e4,zo h.s,zo h.r,zo h.l,zo h.i]
 rfl
def mark (i:Xd):Bool:=i.Op_==36 || i.Op_==37
def bare (l:List Xd):List Xd:=l.filter fun i=>!mark i
abbrev lpE:Xd:=⟨37,0,0,0,0,0,0⟩
abbrev lpB (p:Int):Xd:=⟨36,0,0,0,0,p,0⟩
def preF (o v:Int):List Xd:=(bif decide (o≥0) && v != o then [lpE] else [])++(bif decide (v≥0) && v != o then [lpB v] else [])
def fzL (c:Xe):Int→List Xd→List Xd
 | o,[]=>bif decide (o≥0) then [lpE] else []
 | o,i::l=>preF o (vecP c i)++i::fzL c (vecP c i) l
def deep:Int→List Xd→Bool
 | _,[]=>false
 | d,i::l=>bif i.Op_==34 then (d+1==64 || deep (d+1) l) else bif i.Op_==35 then deep (d - 1) l else deep d l
theorem zci (d:Int) (i:Xd) (l:List Xd):deep d (i::l)=bif i.Op_==34 then (d+1==64 || deep (d+1) l) else bif i.Op_==35 then deep (d - 1) l else deep d l:=rfl
theorem zc0 {c:Xe} (hr:∀ t ∈ c.Regs_,mayT c.Sign_ t=true) (i:Xd):vecP c i = -1∨(0≤vecP c i∧vecP c i<c.Sign_.length):=by
 unfold vecP
 split
 ·rename_i t ht
  have hm:=hr t (z1s ht).1
  unfold mayT at hm
  cases hk:t.Kind_==3 with
  | false=>left; rfl
  | true=>right; rw [hk] at hm; simpa using hm
 ·left; rfl
theorem y2n {n:Nat} {c:Xe} {i:Xd} (hr:∀ t ∈ c.Regs_,mayT c.Sign_ t=true) (hf:fits c i=true):∃ p,f146 n (c,i)=some (p,decide (vecP c i≥0))∧(0≤vecP c i→p=vecP c i):=by
 obtain ⟨h1,h2⟩:=zye i
 rw [y2m,zs4]
 have eD:∀ {R:Type},((some (elem i.Op_)).bind fun y1=>bif y1 then (some (.inl true)) else (bif (i.Op_==29) then (some (.inl true)) else (bif (i.Op_==30) then (some (.inl true)) else (some (.inl (i.Op_==32))))):Option (Bool⊕R))=some (.inl (onD i)):=by
  intro R
  unfold onD
  cases elem i.Op_ <;> cases i.Op_==29 <;> cases i.Op_==30 <;> rfl
 have eA:∀ {R:Type},((bif (i.Op_==31) then (some (.inl true)) else (some (.inl (i.Op_==33)))):Option (Bool⊕R))=some (.inl (onA i)):=by
  intro R
  unfold onA
  cases i.Op_==31 <;> rfl
 simp only [eD,eA,Option.bind_some,orRet_inl]
 have key:∀ t:Xb,t ∈ c.Regs_→∃ p,(some (t.Param_,(t.Kind_==3)):Option (Yag))=some (p,decide ((bif t.Kind_==3 then t.Param_ else -1)≥0))∧(0≤(bif t.Kind_==3 then t.Param_ else -1)→p=(bif t.Kind_==3 then t.Param_ else -1)):=by
  intro t ht
  have hm:=hr t ht
  unfold mayT at hm
  cases hk:t.Kind_==3 with
  | false=>exact ⟨_,rfl,fun h=>by simp at h⟩
  | true =>
   rw [hk] at hm
   simp only [cond_true,Bool.and_eq_true,decide_eq_true_eq] at hm
   exact ⟨t.Param_,by simp [hm.1],fun _=>rfl⟩
 unfold vecP
 cases hd:onD i with
 | true =>
  obtain ⟨t,ht,hm⟩:=z8z hf (h1 hd)
  simp only [cond_true,ht,Option.bind_some,orRet_inl]
  exact key t hm
 | false =>
  cases ha:onA i with
  | true =>
   obtain ⟨t,ht,hm⟩:=zfo hf (h2 ha)
   simp only [cond_true,cond_false,ht,Option.bind_some,orRet_inl]
   exact key t hm
  | false =>
   have e:idx c.Regs_ (-1)=none:=by unfold idx; simp
   simp only [cond_false,e]
   exact ⟨0,rfl,fun h=>by simp at h⟩
theorem zjn {n:Nat} {o:Int} {a:List Xa} {b:List Xb} {s:List Xc} {l:List Xd} (hl:l.length≤200000) :
  zfm n (o,a,b,s,l)=some (bif decide (o≥0) then -1 else o,a,b,s,l++bif decide (o≥0) then [lpE] else []):=by
 rw [zs5]
 cases decide (o≥0) with
 | true=>simp only [cond_true]; rw [zo (by simp; omega)]
 | false=>simp
section
variable {n:Nat} {c:Xe}
theorem zs1 {i:Xd} {k nest o:Int} {S:List Xa} {R:List Xb} {Z:List Xc} {out:List Xd} (hm:mark i=true) (e1:decide (k<(c.List_.length:Int))=true) (hi:idx c.List_ k=some i) :
  z5b n c () (nest,k,S,R,Z,out,o)=some (.go (nest,IntKind.i64.wrap (k+1),S,R,Z,out,o)):=by
 rw [zb5]
 unfold mark at hm
 simp only [e1,cond_true,hi,Option.bind_some]
 cases h:i.Op_==36 with
 | true=>rfl
 | false=>rw [h,Bool.false_or] at hm; simp only [hm,cond_false,Option.bind_some,orRet_inl,cond_true]
theorem zs2 {i:Xd} {k nest o:Int} {S:List Xa} {R:List Xb} {Z:List Xc} {out:List Xd} (hs:z7d c) (hr:∀ t ∈ c.Regs_,mayT c.Sign_ t=true) (hf:fits c i=true) (hm:mark i=false) (e1:decide (k<(c.List_.length:Int))=true) (hi:idx c.List_ k=some i)
  (ho:out.length≤100000) (hv:o = -1∨0≤o) :
  z5b n c () (nest,k,S,R,Z,out,o)=bif i.Op_==34 && IntKind.i64.wrap (nest+1)==64 then some (.ret (c.Sign_,c.Regs_,c.Slots_,c.List_)) else
   some (.go (bif i.Op_==34 then IntKind.i64.wrap (nest+1) else bif i.Op_==35 then IntKind.i64.wrap (nest - 1) else nest,IntKind.i64.wrap (k+1),S,R,Z,out++preF o (vecP c i)++[i],vecP c i)):=by
 rw [zb5]
 unfold mark at hm
 simp only [Bool.or_eq_false_iff] at hm
 have eta:(⟨i.Op_,i.D_,i.A_,i.B_,i.C_,i.N_,i.Bits_⟩:Xd)=i:=rfl
 obtain ⟨p,hp,hpv⟩:=y2n (n:=n) hr hf
 simp only [e1,cond_true,hi,Option.bind_some,hm.1,hm.2,cond_false,orRet_inl,eta,hp]
 have fin:∀ l:List Xd,l.length≤150000 →
   (bif (i.Op_==34) then (bif ((IntKind.i64.wrap (nest+(1:Int)))==64) then ((f144 n c).bind fun y6=>some (.inr (.ret (y6.1,y6.2.1,y6.2.2.1,y6.2.2.2)))) else (some (.inl ((IntKind.i64.wrap (nest+(1:Int))),S,R,Z,l,vecP c i,i.Op_,i.D_,i.A_,i.B_,i.C_,i.N_,i.Bits_)))) else (bif (i.Op_==35) then (some (.inl ((IntKind.i64.wrap (nest - (1:Int))),S,R,Z,l,vecP c i,i.Op_,i.D_,i.A_,i.B_,i.C_,i.N_,i.Bits_))) else (some (.inl (nest,S,R,Z,l,vecP c i,i.Op_,i.D_,i.A_,i.B_,i.C_,i.N_,i.Bits_)))):Option ((Yce)⊕Bo (Yak) (Yak) (Yao))).bind
    (zm fun s6=>need ((s6.2.2.2.2.1.length+([(⟨s6.2.2.2.2.2.2.1,s6.2.2.2.2.2.2.2.1,s6.2.2.2.2.2.2.2.2.1,s6.2.2.2.2.2.2.2.2.2.1,s6.2.2.2.2.2.2.2.2.2.2.1,s6.2.2.2.2.2.2.2.2.2.2.2.1,s6.2.2.2.2.2.2.2.2.2.2.2.2⟩:Xd)]:List Xd).length) * 56≤140737488355328) (some (.go (s6.1,(IntKind.i64.wrap (k+(1:Int))),s6.2.1,s6.2.2.1,s6.2.2.2.1,(s6.2.2.2.2.1++([(⟨s6.2.2.2.2.2.2.1,s6.2.2.2.2.2.2.2.1,s6.2.2.2.2.2.2.2.2.1,s6.2.2.2.2.2.2.2.2.2.1,s6.2.2.2.2.2.2.2.2.2.2.1,s6.2.2.2.2.2.2.2.2.2.2.2.1,s6.2.2.2.2.2.2.2.2.2.2.2.2⟩:Xd)]:List Xd)),s6.2.2.2.2.2.1)))) =
   bif i.Op_==34 && IntKind.i64.wrap (nest+1)==64 then some (.ret (c.Sign_,c.Regs_,c.Slots_,c.List_)) else
    some (.go (bif i.Op_==34 then IntKind.i64.wrap (nest+1) else bif i.Op_==35 then IntKind.i64.wrap (nest - 1) else nest,IntKind.i64.wrap (k+1),S,R,Z,l++[i],vecP c i)):=by
  intro l hl
  have hn:∀ {β:Type} (x:Option β),need ((l.length+([i]:List Xd).length) * 56≤140737488355328) x=x:=fun x=>zo (by simp; omega)
  cases h34:i.Op_==34 with
  | true =>
   cases h64:IntKind.i64.wrap (nest+1)==64 with
   | true=>simp [zqc hs]
   | false=>simp only [cond_true,cond_false,Option.bind_some,orRet_inl,eta,hn,Bool.and_false]
  | false =>
   cases h35:i.Op_==35 <;> simp only [cond_true,cond_false,Option.bind_some,orRet_inl,eta,hn,Bool.false_and]
 rcases zc0 hr i with hvp | ⟨hvp,_⟩
 ·have d1:decide (vecP c i≥0)=false:=by simp; omega
  simp only [d1,Bool.not_false,cond_true,cond_false,Option.bind_some,orRet_inl]
  rw [zjn (by omega)]
  simp only [Option.bind_some,orRet_inl,cond_false]
  have e2:(bif decide (o≥0) then -1 else o)=vecP c i:=by
   rcases hv with rfl | h
   ·rw [hvp]; rfl
   ·simp [h,hvp]
  have e3:preF o (vecP c i)=(bif decide (o≥0) then [lpE] else []):=by
   unfold preF
   rw [d1,Bool.false_and,cond_false,List.append_nil]
   by_cases h:0≤o
   ·have:(vecP c i != o)=true:=by simp; omega
    simp [h,this]
   ·simp [h]
  rw [e2,e3]
  have hl:(out++(bif decide (o≥0) then [lpE] else [])).length≤150000:=by
   cases decide (o≥0) <;> simp <;> omega
  exact fin _ hl
 ·have d1:decide (vecP c i≥0)=true:=by simp; omega
  obtain rfl:=hpv hvp
  simp only [d1,Bool.not_true,cond_true,cond_false,Option.bind_some,orRet_inl]
  cases hne:vecP c i != o with
  | true =>
   simp only [cond_true,Option.bind_some,orRet_inl]
   rw [zjn (by omega)]
   simp only [Option.bind_some,orRet_inl,cond_true]
   have e2:decide ((bif decide (o≥0) then -1 else o)<0)=true:=by
    rcases hv with rfl | h
    ·rfl
    ·simp [h]
   simp only [e2,cond_true]
   have e3:preF o (vecP c i)=(bif decide (o≥0) then [lpE] else [])++[lpB (vecP c i)]:=by
    unfold preF
    rw [d1,hne]; simp
   have hl:(out++(bif decide (o≥0) then [lpE] else [])).length≤140000:=by
    cases decide (o≥0) <;> simp <;> omega
   rw [zo (by simp at hl ⊢; omega)]
   simp only [Option.bind_some,orRet_inl]
   rw [e3,← List.append_assoc]
   refine fin _ ?_
   rw [List.length_append]; simp only [List.length_singleton]; omega
  | false =>
   have he:vecP c i=o:=by simpa using hne
   have e2:decide (o<0)=false:=by simp; omega
   simp only [cond_false,Option.bind_some,orRet_inl,e2]
   have e3:preF o (vecP c i)=[]:=by
    unfold preF
    rw [hne]; simp
   rw [e3,List.append_nil]
   have:=fin out (by omega)
   rw [he] at this ⊢
   exact this
theorem zyh (o v:Int):(preF o v).length≤2:=by
 unfold preF
 cases decide (o≥0) && v != o <;> cases decide (v≥0) && v != o <;> simp
theorem zcl (hs:z7d c) (hr:∀ t ∈ c.Regs_,mayT c.Sign_ t=true) (hL:c.List_.length≤32768) (hf:∀ i ∈ c.List_,fits c i=true):∀ (j k f:Nat) (nest o:Int) (S:List Xa) (R:List Xb) (Z:List Xc) (out:List Xd),
  k+j=c.List_.length→j<f→-(k:Int)≤nest→nest≤k→out.length≤3 * k→(o = -1∨0≤o) →
  (deep nest (c.List_.drop k)=true∧iter (z5b n c ()) f (nest,(k:Int),S,R,Z,out,o)=some (.ret (c.Sign_,c.Regs_,c.Slots_,c.List_))) ∨
  (deep nest (c.List_.drop k)=false∧∃ nest' out' o',iter (z5b n c ()) f (nest,(k:Int),S,R,Z,out,o)=some (.out (nest',(c.List_.length:Int),S,R,Z,out',o'))∧out'.length≤100000∧out'++(bif decide (o'≥0) then [lpE] else [])=out++fzL c o (bare (c.List_.drop k)))
 | 0,k,f+1,nest,o,S,R,Z,out,hk,_,h1,h2,h3,h4=>by
  obtain rfl:k=c.List_.length:=by omega
  rw [List.drop_length]
  refine .inr ⟨rfl,nest,out,o,?_,by omega,rfl⟩
  unfold iter
  rw [zb5]; simp
 | j+1,k,f+1,nest,o,S,R,Z,out,hk,hj,h1,h2,h3,h4=>by
  have hkl:k<c.List_.length:=by omega
  have e1:decide ((k:Int)<(c.List_.length:Int))=true:=by simp; omega
  have ew:IntKind.i64.wrap ((k:Int)+1)=((k+1:Nat):Int):=by rw [z1h (by omega) (by omega)]; simp
  rw [List.drop_eq_getElem_cons hkl]
  unfold iter
  cases hm:mark c.List_[k] with
  | true =>
   rw [zs1 hm e1 (zy hkl),ew]
   have e34:(c.List_[k].Op_==34)=false∧(c.List_[k].Op_==35)=false:=by
    unfold mark at hm
    simp only [Bool.or_eq_true,beq_iff_eq] at hm
    rcases hm with hm | hm <;> rw [hm] <;> decide
   have ed:deep nest (c.List_[k]::c.List_.drop (k+1))=deep nest (c.List_.drop (k+1)):=by
    rw [zci,e34.1,e34.2]; rfl
   have eb:bare (c.List_[k]::c.List_.drop (k+1))=bare (c.List_.drop (k+1)):=by
    unfold bare
    rw [List.filter_cons,hm]; rfl
   rw [ed,eb]
   exact zcl hs hr hL hf j (k+1) f nest o S R Z out (by omega) (by omega) (by omega) (by omega) (by omega) h4
  | false =>
   have eb:bare (c.List_[k]::c.List_.drop (k+1))=c.List_[k]::bare (c.List_.drop (k+1)):=by
    unfold bare
    rw [List.filter_cons,hm]; rfl
   have hp:=zyh o (vecP c c.List_[k])
   rw [zs2 hs hr (hf _ (List.getElem_mem hkl)) hm e1 (zy hkl) (by omega) h4,ew,z1h (x:=nest+1) (by omega) (by omega),z1h (x:=nest - 1) (by omega) (by omega),eb]
   have go:∀ nest':Int,-((k+1:Nat):Int)≤nest'→nest'≤((k+1:Nat):Int)→_:=fun nest' q1 q2=>zcl hs hr hL hf j (k+1) f nest' (vecP c c.List_[k]) S R Z (out++preF o (vecP c c.List_[k])++[c.List_[k]]) (by omega) (by omega) q1 q2 (by simp only [List.length_append,List.length_singleton]; omega) (by rcases zc0 hr c.List_[k] with h | h; exact .inl h; exact .inr h.1)
   have ef:∀ l,out++fzL c o (c.List_[k]::l)=(out++preF o (vecP c c.List_[k])++[c.List_[k]])++fzL c (vecP c c.List_[k]) l:=by
    intro l
    show out++(preF o (vecP c c.List_[k])++c.List_[k]::fzL c (vecP c c.List_[k]) l)=_
    simp
   rw [ef,zci]
   cases h34:c.List_[k].Op_==34 with
   | true =>
    cases h64:nest+1==64 with
    | true=>exact .inl ⟨rfl,rfl⟩
    | false =>
     simp only [Bool.and_false,cond_true,cond_false,Bool.false_or]
     exact go (nest+1) (by omega) (by omega)
   | false =>
    cases h35:c.List_[k].Op_==35 with
    | true =>
     simp only [Bool.false_and,cond_true,cond_false]
     exact go (nest - 1) (by omega) (by omega)
    | false =>
     simp only [Bool.false_and,cond_false]
     exact go nest (by omega) (by omega)
def fzR (c:Xe):List Xd:=bif deep 0 c.List_ || decide (((fzL c (-1) (bare c.List_)).length:Int) > 32768) then c.List_ else fzL c (-1) (bare c.List_)
def zdm (c:Xe):Int×List Xa×List Xb×List Xc×List Xd :=
 bif (chk c).1 != 0 then (160,[],[],[],[]) else (0,c.Sign_,c.Regs_,c.Slots_,fzR c)
theorem y2w (hn:100000<n) (hs:z7d c) (hu:U32s c):f120 n c=some (zdm c):=by
 rw [y2h,(zef hn hu.1 hu.2).1]
 unfold zdm
 cases hc:(chk c).1 != 0 with
 | true=>simp [hc]
 | false =>
  obtain ⟨_,q1,q2,q3,q4,q5,r,q6,q7⟩:=z85 (by simpa using hc)
  have hr:∀ t ∈ c.Regs_,mayT c.Sign_ t=true:=List.all_eq_true.1 q4
  simp only [decide_eq_false_iff_not] at q1 q2 q3
  have hL:c.List_.length≤32768:=by omega
  simp only [Option.bind_some,hc,cond_false,zqc hs]
  unfold fzR
  rcases zcl (n:=n) hs hr hL (z8b c _ _ _ _ _ q6) c.List_.length 0 n 0 (-1) c.Sign_ c.Regs_ c.Slots_ [] (by omega) (by omega) (by omega) (by omega) (by simp) (.inl rfl) with ⟨h1,h2⟩ | ⟨h1,nest',out',o',h2,h3,h4⟩
  ·have h2:iter (z5b n c ()) n (0,0,c.Sign_,c.Regs_,c.Slots_,[],-1)=_:=h2
   rw [List.drop_zero] at h1
   rw [h2,h1]; rfl
  ·have h2:iter (z5b n c ()) n (0,0,c.Sign_,c.Regs_,c.Slots_,[],-1)=_:=h2
   rw [List.drop_zero] at h1 h4
   rw [h2,h1]
   simp only [Option.bind_some,Bo.then]
   rw [zjn (by omega),h4]
   simp only [Option.bind_some,List.nil_append,Bool.false_or]
   cases decide (((fzL c (-1) (bare c.List_)).length:Int) > 32768) <;> rfl
end
def base (o:List Xg):List Xg:=o.filter fun x=>!(x.Op_==36)
theorem z44 (a b:List Xg):base (a++b)=base a++base b:=by unfold base; rw [List.filter_append]
theorem z4l (o:List Xg) (x:Xg):z12 (o++[x])=(x.Op_==36)∧lstP (o++[x])=x.Param_:=by
 unfold z12 lstP; simp
theorem z6i (o:List Xg):z12 (base o)=false:=by
 unfold z12
 split
 ·rename_i x hx
  have:=List.mem_of_getLast? hx
  unfold base at this
  simpa using (List.mem_filter.1 this).2
 ·rfl
theorem z8a (c:Xe) (i:Xd) (l:List Xd) (k:Nat) (s:List Bool) (o:List Xg):goR c (i::l) k s o=bif z1d c i s o then goR c l (k+1) (z1t i s o).1 (z1t i s o).2 else .inl k:=rfl
def Top (c:Xe) (v:Int) (t:List Xg):Prop:=(v = -1∧t=[])∨(0≤v∧v<c.Sign_.length∧∃ st,t=[⟨36,v,st⟩])
theorem y5w (c:Xe):fits c lpE=true:=by kernel_rfl
theorem y5v {c:Xe} {v:Int} (h0:0≤v) (h1:v<c.Sign_.length):fits c (lpB v)=true:=by
 have e:rowD 36=some ⟨0,0,0,0,4⟩:=by kernel_rfl
 unfold fits lpB
 simp only [e]
 simp [zr,z6r,nOk,h0,h1]
section
variable {c:Xe}
theorem go_E {b:List Xg} {v:Int} {st s:List Bool} (l:List Xd) (k:Nat):goR c (lpE::l) k s (b++[⟨36,v,st⟩])=goR c l (k+1) s b:=by
 obtain ⟨q1,q2⟩:=z4l b ⟨36,v,st⟩
 have q1:z12 (b++[⟨36,v,st⟩])=true:=q1
 have e1:z1d c lpE s (b++[⟨36,v,st⟩])=true:=by
  unfold z1d
  rw [y5w,q1]
  have:rdOk s lpE=true:=by kernel_rfl
  rw [this]
  unfold z3n
  rw [q1]; rfl
 have e2:z1t lpE s (b++[⟨36,v,st⟩])=(s,b):=by
  unfold z1t
  simp
 rw [z8a,e1,e2]; rfl
theorem go_B {b:List Xg} {v:Int} {s:List Bool} (hb:b.length<64) (hl:z12 b=false) (h0:0≤v) (h1:v<c.Sign_.length) (l:List Xd) (k:Nat):goR c (lpB v::l) k s b=goR c l (k+1) s (b++[⟨36,v,s⟩]):=by
 have e1:z1d c (lpB v) s b=true:=by
  unfold z1d
  rw [y5v h0 h1,hl]
  have:rdOk s (lpB v)=true:=rfl
  rw [this]
  unfold z3n
  simp; omega
 rw [z8a,e1]
 rfl
theorem y8j {o:List Xg} {w v:Int} {t:List Xg} {s:List Bool} (hb:(base o).length<64) (hw:Top c w t) (hv:v = -1∨(0≤v∧v<c.Sign_.length)) (l:List Xd) (k:Nat) :
  ∃ t' k',Top c v t'∧goR c (preF w v++l) k s (base o++t)=goR c l k' s (base o++t'):=by
 unfold preF
 by_cases hvw:v=w
 ·subst hvw
  exact ⟨t,k,hw,by simp⟩
 ·have e:(v != w)=true:=by simpa using hvw
  rw [e]
  rcases hw with ⟨rfl,rfl⟩ | ⟨w0,w1,st,rfl⟩
  ·rcases hv with rfl | ⟨v0,v1⟩
   ·exact absurd rfl hvw
   ·refine ⟨[⟨36,v,s⟩],k+1,.inr ⟨v0,v1,s,rfl⟩,?_⟩
    have d:decide (v≥0)=true:=by simpa using v0
    rw [d]
    simp only [show decide ((-1:Int)≥0)=false from rfl,Bool.false_and,Bool.true_and,cond_true,cond_false,List.nil_append,List.append_nil,List.singleton_append]
    exact go_B hb (z6i o) v0 v1 l k
  ·have dw:decide (w≥0)=true:=by simpa using w0
   rw [dw]
   rcases hv with rfl | ⟨v0,v1⟩
   ·refine ⟨[],k+1,.inl ⟨rfl,rfl⟩,?_⟩
    simp only [show decide ((-1:Int)≥0)=false from rfl,Bool.false_and,Bool.true_and,cond_true,cond_false,List.append_nil,List.singleton_append]
    exact go_E l k
   ·refine ⟨[⟨36,v,s⟩],k+1+1,.inr ⟨v0,v1,s,rfl⟩,?_⟩
    have d:decide (v≥0)=true:=by simpa using v0
    rw [d]
    simp only [Bool.true_and,cond_true,List.cons_append,List.nil_append]
    rw [go_E,go_B hb (z6i o) v0 v1]
theorem zai (hr:∀ t ∈ c.Regs_,mayT c.Sign_ t=true):∀ (l:List Xd) (k k':Nat) (s:List Bool) (o:List Xg) (r:List Bool×List Xg) (w:Int) (t:List Xg),
  goR c l k s o = .inr r→deep ((base o).length:Int) l=false→(base o).length<64→Top c w t→goR c (fzL c w (bare l)) k' s (base o++t) = .inr (r.1,base r.2)
 | [],k,k',s,o,r,w,t,hg,hd,hb,ht=>by
  obtain rfl:(s,o)=r:=Sum.inr.inj hg
  rcases ht with ⟨rfl,rfl⟩ | ⟨w0,w1,st,rfl⟩
  ·show Sum.inr (s,base o++[])=_
   rw [List.append_nil]
  ·have d:decide (w≥0)=true:=by simpa using w0
   show goR c (bif decide (w≥0) then [lpE] else []) k' s _=_
   rw [d]
   exact go_E [] k'
 | i::l,k,k',s,o,r,w,t,hg,hd,hb,ht=>by
  rw [z8a] at hg
  cases hst:z1d c i s o with
  | false=>rw [hst] at hg; cases hg
  | true =>
   rw [hst,cond_true] at hg
   have hst':=hst
   unfold z1d at hst'
   simp only [Bool.and_eq_true] at hst'
   obtain ⟨hfit,hlp,hrd,hpl⟩:=hst'
   rw [zci] at hd
   cases hm:mark i with
   | true =>
    have eb:bare (i::l)=bare l:=by unfold bare; rw [List.filter_cons,hm]; rfl
    rw [eb]
    unfold mark at hm
    have en:(z1t i s o).1=s∧base (z1t i s o).2=base o:=by
     simp only [Bool.or_eq_true,beq_iff_eq] at hm
     unfold z1t
     rcases hm with hm | hm
     ·rw [hm]
      refine ⟨rfl,?_⟩
      show base (o++[⟨36,i.N_,s⟩])=base o
      rw [z44]
      show base o++[]=_
      rw [List.append_nil]
     ·rw [hm]
      refine ⟨rfl,?_⟩
      show base o.dropLast=base o
      unfold z3n at hpl
      rw [hm] at hpl
      have hpl:z12 o=true:=hpl
      rcases List.eq_nil_or_concat o with rfl | ⟨o',x,rfl⟩
      ·rfl
      ·rw [List.concat_eq_append] at hpl ⊢
       rw [(z4l o' x).1] at hpl
       rw [List.dropLast_concat,z44]
       have:base [x]=[]:=by unfold base; simp [hpl]
       rw [this,List.append_nil]
    have e34:(i.Op_==34)=false∧(i.Op_==35)=false:=by
     simp only [Bool.or_eq_true,beq_iff_eq] at hm
     rcases hm with hm | hm <;> rw [hm] <;> decide
    rw [e34.1,e34.2] at hd
    have hd:deep ((base o).length:Int) l=false:=hd
    rw [← en.2] at hd hb ⊢
    rw [en.1] at hg
    exact zai hr l _ _ s _ r w t hg hd hb ht
   | false =>
    have eb:bare (i::l)=i::bare l:=by unfold bare; rw [List.filter_cons,hm]; rfl
    rw [eb]
    show goR c (preF w (vecP c i)++i::fzL c (vecP c i) (bare l)) k' s (base o++t)=_
    have hvc:=zc0 hr i
    obtain ⟨t',k2,ht',e⟩:=y8j (s:=s) hb ht hvc (i::fzL c (vecP c i) (bare l)) k'
    rw [e]
    unfold mark at hm
    simp only [Bool.or_eq_false_iff] at hm
    have hv34:(i.Op_==34)=true∨(i.Op_==35)=true→vecP c i = -1:=by
     intro h
     simp only [beq_iff_eq] at h
     have e1:onD i=false:=by rcases h with h | h <;> unfold onD elem <;> rw [h] <;> decide
     have e2:onA i=false:=by rcases h with h | h <;> unfold onA <;> rw [h] <;> decide
     unfold vecP
     have e3:idx c.Regs_ (-1)=none:=by unfold idx; simp
     rw [e1,e2]
     simp only [cond_false,e3]
    have hlp':(!(z12 (base o++t') && (!(i.Op_==37) && vecP c i != lstP (base o++t'))))=true:=by
     rcases ht' with ⟨q,rfl⟩ | ⟨v0,v1,st,rfl⟩
     ·rw [List.append_nil,z6i]; rfl
     ·rw [(z4l _ _).2]; simp
    have htop:vecP c i = -1→t'=[]:=by
     intro h
     rcases ht' with ⟨_,q⟩ | ⟨v0,_⟩
     ·exact q
     ·omega
    have h35:(i.Op_==35)=true→∃ o' x,o=o'++[x]∧base o=base o'++[x]:=by
     intro h
     unfold z3n at hpl
     simp only [beq_iff_eq] at h
     rw [h] at hpl
     have hpl:(decide ((o.length:Int) > 0) && !(z12 o))=true:=hpl
     rcases List.eq_nil_or_concat o with rfl | ⟨o',x,rfl⟩
     ·simp at hpl
     ·rw [List.concat_eq_append] at hpl ⊢
      rw [(z4l o' x).1] at hpl
      simp only [Bool.and_eq_true] at hpl
      refine ⟨o',x,rfl,?_⟩
      rw [z44]
      congr 1
      unfold base
      rw [List.filter_cons,hpl.2]; rfl
    have hst2:z1d c i s (base o++t')=true:=by
     unfold z1d
     rw [hfit,hlp',hrd]
     unfold z3n
     rw [hm.1,hm.2]
     cases h34:i.Op_==34 with
     | true =>
      rw [htop (hv34 (.inl h34)),List.append_nil]
      simp; omega
     | false =>
      cases h5:i.Op_==35 with
      | true =>
       rw [htop (hv34 (.inr h5)),List.append_nil,z6i]
       obtain ⟨o',x,_,q⟩:=h35 h5
       rw [q]; simp
      | false=>rfl
    rw [z8a,hst2,cond_true]
    unfold z1t at hg ⊢
    rw [hm.1,hm.2] at hg ⊢
    cases h34:i.Op_==34 with
    | true =>
     have et:=htop (hv34 (.inl h34))
     have ev:=hv34 (.inl h34)
     subst et
     rw [h34] at hg hd
     simp only [Bool.true_or,cond_true,Bool.or_eq_false_iff] at hg hd ⊢
     rw [List.append_nil]
     have eb2:base (o++[⟨i.Op_,i.N_,s⟩])=base o++[⟨i.Op_,i.N_,s⟩]:=by
      rw [z44]
      congr 1
      unfold base
      rw [List.filter_cons]
      simp only [hm.1]; rfl
     have:=zai hr l (k+1) (k2+1) s (o++[⟨i.Op_,i.N_,s⟩]) r (vecP c i) [] hg (by rw [eb2]; simpa using hd.2) (by
      rw [eb2]
      have:=hd.1
      simp at this ⊢
      omega) (.inl ⟨ev,rfl⟩)
     rw [eb2,List.append_nil] at this
     exact this
    | false =>
     rw [h34] at hg hd
     cases h5:i.Op_==35 with
     | true =>
      have et:=htop (hv34 (.inr h5))
      have ev:=hv34 (.inr h5)
      subst et
      rw [h5] at hg hd
      obtain ⟨o',x,q1,q2⟩:=h35 h5
      rw [List.append_nil]
      simp only [Bool.false_or,Bool.or_self,cond_true,cond_false] at hg hd ⊢
      rw [q2] at hd hb ⊢
      rw [q1] at hg
      simp only [List.getLast?_concat,Option.getD_some,List.dropLast_concat] at hg ⊢
      have:=zai hr l (k+1) (k2+1) x.Set_ o' r (vecP c i) [] hg (by
       have e:(((base o'++[x]).length:Nat):Int) - 1=(base o').length:=by simp
       rw [← e]; exact hd) (by simp at hb; omega) (.inl ⟨ev,rfl⟩)
      rw [List.append_nil] at this
      exact this
     | false =>
      rw [h5] at hg hd
      simp only [Bool.false_or,Bool.or_self,cond_true,cond_false] at hg hd ⊢
      cases hs:sets i with
      | true =>
       rw [hs] at hg
       exact zai hr l (k+1) (k2+1) _ o r (vecP c i) t' hg hd hb ht'
      | false =>
       rw [hs] at hg
       exact zai hr l (k+1) (k2+1) _ o r (vecP c i) t' hg hd hb ht'
end
abbrev fusC (c:Xe):Xe:=⟨c.Sign_,c.Regs_,c.Slots_,fzR c⟩
theorem zgt {c:Xe} (h:(chk c).1=0):(chk (fusC c)).1=0:=by
 unfold fusC fzR
 cases hd:deep 0 c.List_ || decide (((fzL c (-1) (bare c.List_)).length:Int) > 32768) with
 | true=>exact h
 | false =>
  simp only [Bool.or_eq_false_iff,decide_eq_false_iff_not] at hd
  obtain ⟨_,q1,q2,q3,q4,q5,r,q6,q7⟩:=z85 h
  have hr:∀ t ∈ c.Regs_,mayT c.Sign_ t=true:=List.all_eq_true.1 q4
  have:=zai hr c.List_ 0 0 (z29 c) [] r (-1) [] q6 hd.1 (by decide) (.inl ⟨rfl,rfl⟩)
  have e:goR c (fzL c (-1) (bare c.List_)) 0 (z29 c) [] = .inr (r.1,base r.2):=this
  rw [cond_false,y3q h _ (by omega),e,q7]
  rfl
theorem zjb (a b:List Xd):bare (a++b)=bare a++bare b:=by unfold bare; rw [List.filter_append]
theorem zxg (o v:Int):bare (preF o v)=[]:=by
 unfold preF
 rw [zjb]
 have e1:bare [lpE]=[]:=rfl
 have e2:bare [lpB v]=[]:=rfl
 cases decide (o≥0) && v != o <;> cases decide (v≥0) && v != o <;> simp only [cond_true,cond_false,e1,e2] <;> rfl
theorem zgs (c:Xe):∀ (l:List Xd) (o:Int),bare (fzL c o (bare l))=bare l
 | [],o=>by
  show bare (bif decide (o≥0) then [lpE] else [])=[]
  cases decide (o≥0) <;> rfl
 | i::l,o=>by
  cases hm:mark i with
  | true =>
   have eb:bare (i::l)=bare l:=by unfold bare; rw [List.filter_cons,hm]; rfl
   rw [eb]; exact zgs c l o
  | false =>
   have eb:∀ l,bare (i::l)=i::bare l:=fun l=>by unfold bare; rw [List.filter_cons,hm]; rfl
   rw [eb]
   show bare (preF o (vecP c i)++i::fzL c (vecP c i) (bare l))=_
   rw [zjb,zxg,eb,zgs c l]; rfl
theorem zjc (c:Xe):bare (fzR c)=bare c.List_:=by
 unfold fzR
 cases deep 0 c.List_ || decide (((fzL c (-1) (bare c.List_)).length:Int) > 32768) with
 | true=>rfl
 | false=>exact zgs c c.List_ (-1)
theorem y2x {c:Xe} (h:c.List_.length≤32768):(fzR c).length≤32768:=by
 unfold fzR
 cases hd:deep 0 c.List_ || decide (((fzL c (-1) (bare c.List_)).length:Int) > 32768) with
 | true=>exact h
 | false=>simp only [Bool.or_eq_false_iff,decide_eq_false_iff_not] at hd; simp only [cond_false]; omega
def za0 (a:Xe):Nat:=a.Sign_.length+a.Regs_.length+a.Slots_.length+a.List_.length+200001
theorem zws {c:Xe} (hs:z7d c) (h:(chk c).1=0):z7d (fusC c)∧(fzR c).length≤32768:=by
 obtain ⟨_,q1,q2,q3,q4,q5,r,q6,q7⟩:=z85 h
 simp only [decide_eq_false_iff_not] at q2
 have:=y2x (c:=c) (by omega)
 exact ⟨⟨hs.s,hs.r,hs.l,by show (fzR c).length * 56≤_; omega⟩,this⟩
theorem zx1 {c:Xe}:∀ (l:List Xd) (o:Int),(∀ i ∈ l,0≤i.Bits_∧i.Bits_<4294967296)→∀ i ∈ fzL c o l,0≤i.Bits_∧i.Bits_<4294967296
 | [],o,h,i,hi=>by
  have hi:i ∈ (bif decide (o≥0) then [lpE] else []):=hi
  cases hd:decide (o≥0) <;> rw [hd] at hi
  ·cases hi
  ·obtain rfl:=List.mem_singleton.1 hi; exact ⟨show (0:Int)≤0 by decide,show (0:Int)<4294967296 by decide⟩
 | j::l,o,h,i,hi=>by
  have hi:i ∈ preF o (vecP c j)++j::fzL c (vecP c j) l:=hi
  rcases List.mem_append.1 hi with hi | hi
  ·unfold preF at hi
   rcases List.mem_append.1 hi with hi | hi
   ·cases hd:decide (o≥0) && vecP c j != o <;> rw [hd] at hi
    ·cases hi
    ·obtain rfl:=List.mem_singleton.1 hi; exact ⟨show (0:Int)≤0 by decide,show (0:Int)<4294967296 by decide⟩
   ·cases hd:decide (vecP c j≥0) && vecP c j != o <;> rw [hd] at hi
    ·cases hi
    ·obtain rfl:=List.mem_singleton.1 hi; exact ⟨show (0:Int)≤0 by decide,show (0:Int)<4294967296 by decide⟩
  ·rcases List.mem_cons.1 hi with rfl | hi
   ·exact h _ List.mem_cons_self
   ·exact zx1 l _ (fun i hi=>h i (List.mem_cons_of_mem _ hi)) i hi
theorem zqe {c:Xe} (hu:U32s c):U32s (fusC c):=by
 refine ⟨hu.1,?_⟩
 show ∀ i ∈ fzR c,_
 unfold fzR
 cases deep 0 c.List_ || decide (((fzL c (-1) (bare c.List_)).length:Int) > 32768) with
 | true=>exact hu.2
 | false=>exact zx1 _ _ fun i hi=>hu.2 i (List.mem_filter.1 hi).1
theorem zsm {c:Xe} (h:(chk c).1=0):zdm c=(0,c.Sign_,c.Regs_,c.Slots_,fzR c):=by
 unfold zdm
 rw [h]; rfl
def Got {α:Type} (o:Option α) (Q:α→Prop):Prop:=∃ y,o=some y∧Q y
theorem z8c {α:Type} {o:Option α} {Q Q':α→Prop} (h:Got o Q) (hq:∀ y,Q y→Q' y):Got o Q':=by
 obtain ⟨y,e,q⟩:=h
 exact ⟨y,e,hq y q⟩
section
variable {P:Program} {T:TT} {pro:List Nat} {R S A V:Type} {Q:R→Prop}
def Ans (t:Pt P T pro R) (Q:R→Prop):Prop:=Got t.run Q
theorem z0 {x:R} (h:Q x):Ans (.leaf x:Pt P T pro R) Q:=⟨x,rfl,h⟩
theorem z6 {b:Bool} {x y:Pt P T pro R} (h1:b=true→Ans x Q) (h2:b=false→Ans y Q):Ans (.ite b x y) Q:=by
 cases b with
 | true=>exact h1 rfl
 | false=>exact h2 rfl
theorem zk {p:Prop} [Decidable p] {K:Pt P T pro R} (hp:p) (h:Ans K Q):Ans (.need p K) Q:=by
 obtain ⟨y,e,q⟩:=h
 exact ⟨y,by show need p K.run=_; rw [zo hp,e],q⟩
theorem zg {x:Option A} {K:A→Pt P T pro R} {a:A} (hx:x=some a) (h:Ans (K a) Q):Ans (.bnd x K) Q:=by
 obtain ⟨y,e,q⟩:=h
 exact ⟨y,by show (x.bind fun a=>(K a).run)=_; rw [hx,Option.bind_some,e],q⟩
theorem zi (J:S→Prop) {enc:S→EH T} {B:Pt P T pro (S⊕R)} {K:S→Pt P T pro R} (h:Ans B (fun s=>match s with | .inl s=>J s | .inr r=>Q r)) (hk:∀ s,J s→Ans (K s) Q):Ans (.join enc B K) Q:=by
 obtain ⟨y,e,q⟩:=h
 cases y with
 | inl s =>
  obtain ⟨z,e2,q2⟩:=hk s q
  exact ⟨z,by show (B.run.bind (zm fun s=>(K s).run))=_; rw [e,Option.bind_some,orRet_inl,e2],q2⟩
 | inr r=>exact ⟨r,by show (B.run.bind (zm fun s=>(K s).run))=_; rw [e]; rfl,q⟩
theorem z8 {C:Con P T} (J:C.Y→Prop) {x:C.X} {K:C.Y→Pt P T pro R} (h:Got (C.G x) J) (hk:∀ y,J y→Ans (K y) Q):Ans (.call C x K) Q:=by
 obtain ⟨y,e,q⟩:=h
 obtain ⟨z,e2,q2⟩:=hk y q
 exact ⟨z,by show ((C.G x).bind fun y=>(K y).run)=_; rw [e,Option.bind_some,e2],q2⟩
theorem z1m {c:V→LCon P T pro} {v:V} {x:(c v).X} {KY:(v:V)→(c v).Y→Pt P T pro R} (hr:(c v).ret=false) (J:(c v).Y→Prop) (h:Got ((c v).G x) (fun b=>match b with | .out y=>J y | _=>False)) (hk:∀ y,J y→Ans (KY v y) Q):Ans (.loop c v x KY) Q:=by
 obtain ⟨b,e,q⟩:=h
 cases b with
 | out y =>
  obtain ⟨z,e2,q2⟩:=hk y q
  exact ⟨z,by show ((c v).G x).bind (Bo.then (fun y=>bif (c v).ret then none else (KY v y).run) (fun _=>none))=_; rw [e,Option.bind_some]; show (bif (c v).ret then none else (KY v y).run)=_; rw [hr,cond_false,e2],q2⟩
 | go s=>exact q.elim
 | ret z=>exact q.elim
theorem z6q {c:V→LCon P T pro} {v:V} {x:(c v).X} {KY:(v:V)→(c v).Y→Pt P T pro R} {KZ:(v:V)→(c v).Z→Pt P T pro R} (J:(c v).Y→Prop) (J':(c v).Z→Prop) (h:Got ((c v).G x) (fun b=>match b with | .out y=>J y | .ret z=>J' z | _=>False)) (hk:∀ y,J y→Ans (KY v y) Q) (hz:∀ z,J' z→Ans (KZ v z) Q):Ans (.loopR c v x KY KZ) Q:=by
 obtain ⟨b,e,q⟩:=h
 cases b with
 | out y =>
  obtain ⟨z,e2,q2⟩:=hk y q
  exact ⟨z,by show ((c v).G x).bind (Bo.then (fun y=>(KY v y).run) (fun z=>(KZ v z).run))=_; rw [e,Option.bind_some]; exact e2,q2⟩
 | go s=>exact q.elim
 | ret y =>
  obtain ⟨z,e2,q2⟩:=hz y q
  exact ⟨z,by show ((c v).G x).bind (Bo.then (fun y=>(KY v y).run) (fun z=>(KZ v z).run))=_; rw [e,Option.bind_some]; exact e2,q2⟩
end
theorem z56 {S Y Z:Type} {body:S→Option (Bo S Y Z)} {Q:Bo S Y Z→Prop} (I:Nat→S→Prop) (hb:∀ k s,I k s→Got (body s) (fun b=>match b with | .go s'=>∃ k',k'<k∧I k' s' | .out y=>Q (.out y) | .ret z=>Q (.ret z))) :
  ∀ (k f:Nat) (s:S),I k s→k<f→Got (iter body f s) Q
 | k,0,s,hi,hk=>by omega
 | k,f+1,s,hi,hk=>by
  obtain ⟨b,e,q⟩:=hb k s hi
  unfold iter
  rw [e]
  cases b with
  | go s' =>
   obtain ⟨k',h1,h2⟩:=q
   exact z56 I hb k' f s' h2 (by omega)
  | out y=>exact ⟨_,rfl,q⟩
  | ret z=>exact ⟨_,rfl,q⟩
theorem z1j (x:Int):0≤IntKind.u64.wrap x:=by
 simp [IntKind.wrap,IntKind.bits,IntKind.signed]; omega
theorem z78 (x:Int):IntKind.u64.wrap x<18446744073709551616:=by
 simp [IntKind.wrap,IntKind.bits,IntKind.signed]; omega
theorem y3p (a b:BitVec 64) {m:Nat} (h:b.toNat<m):(a &&& b).toNat<m:=by
 rw [BitVec.toNat_and]
 exact Nat.lt_of_le_of_lt Nat.and_le_right h
theorem y3m (a:Int) {b:Int} {m:Nat} (h:(BitVec.ofInt IntKind.u64.bits b).toNat<m) (hm:m≤18446744073709551616):0≤IntKind.u64.wrap (((BitVec.ofInt IntKind.u64.bits a &&& BitVec.ofInt IntKind.u64.bits b).toNat:Nat):Int)∧IntKind.u64.wrap (((BitVec.ofInt IntKind.u64.bits a &&& BitVec.ofInt IntKind.u64.bits b).toNat:Nat):Int)<m:=by
 have h1:(BitVec.ofInt IntKind.u64.bits a &&& BitVec.ofInt IntKind.u64.bits b).toNat<m:=y3p (BitVec.ofInt IntKind.u64.bits a) (BitVec.ofInt IntKind.u64.bits b) h
 generalize (BitVec.ofInt IntKind.u64.bits a &&& BitVec.ofInt IntKind.u64.bits b).toNat=z at h1 ⊢
 have e:IntKind.u64.wrap (z:Int)=z:=by
  simp [IntKind.wrap,IntKind.bits,IntKind.signed]; omega
 rw [e]; omega
def zdc (m:Int):Prop:=0≤m∧m<16777216
theorem y2u (a:Int):0≤IntKind.u64.wrap (((BitVec.ofInt IntKind.u64.bits a &&& BitVec.ofInt IntKind.u64.bits (8388607:Int)).toNat:Nat):Int)∧IntKind.u64.wrap (((BitVec.ofInt IntKind.u64.bits a &&& BitVec.ofInt IntKind.u64.bits (8388607:Int)).toNat:Nat):Int)<8388608:=y3m a (m:=8388608) (by decide) (by decide)
theorem t69 {n:Nat} (x:Int):Got ((k69 n).G x) (fun y=>zdc y.2.1):=by
 show Ans (zj0 n x) _
 unfold zj0
 have h:=y2u (IntKind.u64.wrap x)
 refine zi (fun s=>zdc s.1) ?_ (fun s hs=>z0 hs)
 refine z6 (fun _=>z0 ⟨show (0:Int)≤0 by decide,show (0:Int)<16777216 by decide⟩) (fun _=>z6 (fun _=>z0 ⟨h.1,by omega⟩) (fun _=>z0 ?_))
 have e:∀ z:Int,0≤z∧z<8388608→IntKind.u64.wrap (8388608+z)=8388608+z:=fun z hz=>by
  simp [IntKind.wrap,IntKind.bits,IntKind.signed]; omega
 show zdc (IntKind.u64.wrap (8388608+_))
 rw [e _ h]
 exact ⟨by omega,by omega⟩
theorem y2y {a:Int} {k:Nat} (h:a<2 ^ (k+1)):a.fdiv (2 ^ min (1:Int).toNat IntKind.u64.bits)<2 ^ k:=by
 have e:((2:Int) ^ min (1:Int).toNat IntKind.u64.bits)=2:=by decide
 rw [e,Int.fdiv_eq_ediv_of_nonneg _ (by decide)]
 rw [Int.pow_succ] at h
 omega
theorem y1s {n:Nat} (hn:1000<n) {x:Int} (hx:x<18446744073709551616):Got ((k157 n).G x) (fun (y:Int)=>0≤y∧y≤64):=by
 show Ans (zky n x) _
 unfold zky
 refine z1m rfl (fun (q:Yaa)=>0≤q.2∧q.2≤64) ?_ (fun _ h=>z0 h)
 refine z56 (fun k (q:Yaa)=>q.1<2 ^ k∧0≤q.2∧q.2+k≤64) (fun k q hq=>?_) 64 n (x,0) ⟨by simpa using hx,show (0:Int)≤0 by decide,show (0:Int)+((64:Nat):Int)≤64 by decide⟩ (by omega)
 show Ans (zh3 n x () q) _
 unfold zh3
 obtain ⟨h1,h2,h3⟩:=hq
 refine z6 (fun h=>z0 ?_) (fun _=>z0 ⟨h2,show q.2≤64 by omega⟩)
 match k,h1,h3 with
 | 0,h1,h3=>simp at h h1; omega
 | k+1,h1,h3 =>
  have e:IntKind.i64.wrap (q.2+1)=q.2+1:=z1h (by omega) (by omega)
  exact ⟨k,by omega,y2y h1,show 0≤IntKind.i64.wrap (q.2+1) by rw [e]; omega,show IntKind.i64.wrap (q.2+1)+(k:Int)≤64 by rw [e]; omega⟩
theorem t157 {n:Nat} (hn:1000<n) {x:Int} (hx:x<18446744073709551616):Got ((k157 n).G x) (fun _=>True):=z8c (y1s hn hx) fun _ _=>trivial
theorem t137 {n:Nat} (hn:1000<n) (x:Int):Got ((k137 n).G x) (fun _=>True):=by
 show Ans (zki n x) _
 unfold zki
 repeat' first
  | exact z0 True.intro
  | refine z6 (fun _=>?_) (fun _=>?_)
  | refine zk (z1j _) ?_
  | refine zi (fun _=>True) ?_ (fun _ _=>?_)
theorem t136 {n:Nat} (hn:1000<n) (x:Int):Got ((k136 n).G x) (fun _=>True):=by
 show Ans (zkh n x) _
 unfold zkh
 repeat' first
  | exact z0 True.intro
  | refine z6 (fun _=>?_) (fun _=>?_)
  | refine zk (z1j _) ?_
  | refine zi (fun _=>True) ?_ (fun _ _=>?_)
  | refine z8 (fun _=>True) (t137 hn _) (fun _ _=>?_)
theorem t159 {n:Nat} (hn:1000<n) (x:Ybd):Got ((k159 n).G x) (fun _=>True):=by
 show Ans (zl0 n x) _
 unfold zl0
 repeat' first
  | exact z0 True.intro
  | refine z6 (fun _=>?_) (fun _=>?_)
  | refine zk (z1j _) ?_
  | refine zi (fun _=>True) ?_ (fun _ _=>?_)
theorem t161 {n:Nat} (hn:1000<n) (x:Bool):Got ((k161 n).G x) (fun _=>True):=by
 show Ans (zl2 n x) _
 unfold zl2
 repeat' first
  | exact z0 True.intro
  | refine z6 (fun _=>?_) (fun _=>?_)
  | refine zk (z1j _) ?_
  | refine zi (fun _=>True) ?_ (fun _ _=>?_)
theorem t160 {n:Nat} (hn:1000<n) (x:Bool):Got ((k160 n).G x) (fun _=>True):=by
 show Ans (zl1 n x) _
 unfold zl1
 repeat' first
  | exact z0 True.intro
  | refine z6 (fun _=>?_) (fun _=>?_)
  | refine zk (z1j _) ?_
  | refine zi (fun _=>True) ?_ (fun _ _=>?_)
  | refine z8 (fun _=>True) (t161 hn _) (fun _ _=>?_)
theorem t163 {n:Nat} (hn:1000<n) (x:Bool):Got ((k163 n).G x) (fun _=>True):=by
 show Ans (zl4 n x) _
 unfold zl4
 repeat' first
  | exact z0 True.intro
  | refine z6 (fun _=>?_) (fun _=>?_)
  | refine zk (z1j _) ?_
  | refine zi (fun _=>True) ?_ (fun _ _=>?_)
  | refine z8 (fun _=>True) (t161 hn _) (fun _ _=>?_)
theorem t164 {n:Nat} (hn:1000<n) (x:Yaa):Got ((k164 n).G x) (fun _=>True):=by
 show Ans (zl5 n x) _
 unfold zl5
 repeat' first
  | exact z0 True.intro
  | refine z6 (fun _=>?_) (fun _=>?_)
  | refine zk (z1j _) ?_
  | refine zi (fun _=>True) ?_ (fun _ _=>?_)
theorem t162 {n:Nat} (hn:1000<n) {x:Bool×Int×Int} (hx:x.2.1<18446744073709551616):Got ((k162 n).G x) (fun _=>True):=by
 show Ans (zl3 n x) _
 unfold zl3
 repeat' first
  | exact z0 True.intro
  | refine z6 (fun _=>?_) (fun _=>?_)
  | refine zk (z1j _) ?_
  | refine z8 (fun _=>True) (t157 hn hx) (fun _ _=>?_)
  | refine zi (fun _=>True) ?_ (fun _ _=>?_)
  | refine z8 (fun _=>True) (t163 hn _) (fun _ _=>?_)
  | refine z8 (fun _=>True) (t164 hn _) (fun _ _=>?_)
  | refine z8 (fun _=>True) (t161 hn _) (fun _ _=>?_)
  | refine z8 (fun _=>True) (t160 hn _) (fun _ _=>?_)
theorem t69t {n:Nat} (hn:1000<n) (x:Int):Got ((k69 n).G x) (fun _=>True):=z8c (t69 x) fun _ _=>trivial
theorem t65 {n:Nat} (hn:1000<n) (x:Int):Got ((k65 n).G x) (fun _=>True):=by
 show Ans (ziz n x) _
 unfold ziz
 repeat' first
  | exact z0 True.intro
  | refine z6 (fun _=>?_) (fun _=>?_)
  | refine zk (z1j _) ?_
  | refine z8 (fun _=>True) (t69t hn _) (fun _ _=>?_)
  | refine zi (fun _=>True) ?_ (fun _ _=>?_)
theorem t158 {n:Nat} (hn:1000<n) (x:Yaa):Got ((k158 n).G x) (fun _=>True):=by
 show Ans (zkz n x) _
 unfold zkz
 repeat' first
  | exact z0 True.intro
  | refine z6 (fun _=>?_) (fun _=>?_)
  | refine zk (z1j _) ?_
  | refine z8 (fun _=>True) (t69t hn _) (fun _ _=>?_)
  | refine z8 (fun _=>True) (t162 hn (z78 _)) (fun _ _=>?_)
  | refine zi (fun _=>True) ?_ (fun _ _=>?_)
  | refine z8 (fun _=>True) (t159 hn _) (fun _ _=>?_)
  | refine z8 (fun _=>True) (t160 hn _) (fun _ _=>?_)
theorem t169 {n:Nat} (hn:1000<n) (x:Ybd):Got ((k169 n).G x) (fun _=>True):=by
 show Ans (zla n x) _
 unfold zla
 repeat' first
  | exact z0 True.intro
  | refine z6 (fun _=>?_) (fun _=>?_)
  | refine zk (z1j _) ?_
  | refine z8 (fun _=>True) (t162 hn (z78 _)) (fun _ _=>?_)
  | refine zi (fun _=>True) ?_ (fun _ _=>?_)
  | refine z8 (fun _=>True) (t163 hn _) (fun _ _=>?_)
theorem t165 {n:Nat} (hn:1000<n) (x:Int):Got ((k165 n).G x) (fun _=>True):=by
 show Ans (zl6 n x) _
 unfold zl6
 repeat' first
  | exact z0 True.intro
  | refine z6 (fun _=>?_) (fun _=>?_)
  | refine zk (z1j _) ?_
  | refine z8 (fun _=>True) (t162 hn (z78 _)) (fun _ _=>?_)
  | refine zi (fun _=>True) ?_ (fun _ _=>?_)
  | refine z8 (fun _=>True) (t163 hn _) (fun _ _=>?_)
theorem t166 {n:Nat} (hn:1000<n) (x:Bool):Got ((k166 n).G x) (fun _=>True):=by
 show Ans (zl7 n x) _
 unfold zl7
 repeat' first
  | exact z0 True.intro
  | refine z6 (fun _=>?_) (fun _=>?_)
  | refine zk (z1j _) ?_
  | refine zi (fun _=>True) ?_ (fun _ _=>?_)
theorem t172 {n:Nat} (hn:1000<n) (x:Int):Got ((k172 n).G x) (fun _=>True):=by
 show Ans (zld n x) _
 unfold zld
 repeat' first
  | exact z0 True.intro
  | refine z6 (fun _=>?_) (fun _=>?_)
  | refine zk (z1j _) ?_
  | refine zi (fun _=>True) ?_ (fun _ _=>?_)
theorem t171 {n:Nat} (hn:1000<n) (x:Yaa):Got ((k171 n).G x) (fun _=>True):=by
 show Ans (zlc n x) _
 unfold zlc
 repeat' first
  | exact z0 True.intro
  | refine z6 (fun _=>?_) (fun _=>?_)
  | refine zk (z1j _) ?_
  | refine z8 (fun _=>True) (t69t hn _) (fun _ _=>?_)
  | refine zi (fun _=>True) ?_ (fun _ _=>?_)
  | refine z8 (fun _=>True) (t159 hn _) (fun _ _=>?_)
  | refine z8 (fun _=>True) (t172 hn _) (fun _ _=>?_)
theorem t187 {n:Nat} (hn:1000<n) (x:Yaa):Got ((k187 n).G x) (fun _=>True):=by
 show Ans (zlr n x) _
 unfold zlr
 repeat' first
  | exact z0 True.intro
  | refine z6 (fun _=>?_) (fun _=>?_)
  | refine zk (z1j _) ?_
  | refine z8 (fun _=>True) (t69t hn _) (fun _ _=>?_)
  | refine zi (fun _=>True) ?_ (fun _ _=>?_)
  | refine z8 (fun _=>True) (t159 hn _) (fun _ _=>?_)
  | refine z8 (fun _=>True) (t172 hn _) (fun _ _=>?_)
theorem t189 {n:Nat} (hn:1000<n) (x:Int):Got ((k189 n).G x) (fun _=>True):=by
 show Ans (zlt n x) _
 unfold zlt
 repeat' first
  | exact z0 True.intro
  | refine z6 (fun _=>?_) (fun _=>?_)
  | refine zk (z1j _) ?_
  | refine zi (fun _=>True) ?_ (fun _ _=>?_)
theorem t188 {n:Nat} (hn:1000<n) (x:Yaa):Got ((k188 n).G x) (fun _=>True):=by
 show Ans (zls n x) _
 unfold zls
 repeat' first
  | exact z0 True.intro
  | refine z6 (fun _=>?_) (fun _=>?_)
  | refine zk (z1j _) ?_
  | refine z8 (fun _=>True) (t69t hn _) (fun _ _=>?_)
  | refine zi (fun _=>True) ?_ (fun _ _=>?_)
  | refine z8 (fun _=>True) (t159 hn _) (fun _ _=>?_)
  | refine z8 (fun _=>True) (t172 hn _) (fun _ _=>?_)
  | refine z8 (fun _=>True) (t189 hn _) (fun _ _=>?_)
theorem t181 {n:Nat} (hn:1000<n) (x:Int):Got ((k181 n).G x) (fun _=>True):=by
 show Ans (zll n x) _
 unfold zll
 repeat' first
  | exact z0 True.intro
  | refine z6 (fun _=>?_) (fun _=>?_)
  | refine zk (z1j _) ?_
  | refine z8 (fun _=>True) (t69t hn _) (fun _ _=>?_)
  | refine zi (fun _=>True) ?_ (fun _ _=>?_)
theorem t182 {n:Nat} (hn:1000<n) (x:Int):Got ((k182 n).G x) (fun _=>True):=by
 show Ans (zlm n x) _
 unfold zlm
 repeat' first
  | exact z0 True.intro
  | refine z6 (fun _=>?_) (fun _=>?_)
  | refine zk (z1j _) ?_
  | refine z8 (fun _=>True) (t69t hn _) (fun _ _=>?_)
  | refine zi (fun _=>True) ?_ (fun _ _=>?_)
theorem t183 {n:Nat} (hn:1000<n) (x:Int):Got ((k183 n).G x) (fun _=>True):=by
 show Ans (zln n x) _
 unfold zln
 repeat' first
  | exact z0 True.intro
  | refine z6 (fun _=>?_) (fun _=>?_)
  | refine zk (z1j _) ?_
  | refine zi (fun _=>True) ?_ (fun _ _=>?_)
theorem t184 {n:Nat} (hn:1000<n) (x:Bool):Got ((k184 n).G x) (fun _=>True):=by
 show Ans (zlo n x) _
 unfold zlo
 repeat' first
  | exact z0 True.intro
  | refine z6 (fun _=>?_) (fun _=>?_)
  | refine zk (z1j _) ?_
  | refine zi (fun _=>True) ?_ (fun _ _=>?_)
theorem t190 {n:Nat} (hn:1000<n) (x:Yal):Got ((k190 n).G x) (fun _=>True):=by
 show Ans (zlu n x) _
 unfold zlu
 repeat' first
  | exact z0 True.intro
  | refine z6 (fun _=>?_) (fun _=>?_)
  | refine zk (z1j _) ?_
  | refine z8 (fun _=>True) (t69t hn _) (fun _ _=>?_)
  | refine zi (fun _=>True) ?_ (fun _ _=>?_)
  | refine z8 (fun _=>True) (t189 hn _) (fun _ _=>?_)
  | refine z8 (fun _=>True) (t65 hn _) (fun _ _=>?_)
theorem t168 {n:Nat} (hn:1000<n) (x:Yaa):Got ((k168 n).G x) (fun _=>True):=by
 show Ans (zl9 n x) _
 unfold zl9
 refine z8 _ (t69 _) (fun y1 h1=>?_)
 refine z8 _ (t69 _) (fun y2 h2=>?_)
 have l1:y1.2.1<18446744073709551616:=by have:=h1.2; omega
 have l2:y2.2.1<18446744073709551616:=by have:=h2.2; omega
 repeat' first
  | exact z0 True.intro
  | exact z0 ⟨l1,l2⟩
  | refine z6 (fun _=>?_) (fun _=>?_)
  | refine z8 (fun _=>True) (t159 hn _) (fun _ _=>?_)
  | refine z8 (fun _=>True) (t160 hn _) (fun _ _=>?_)
  | refine z8 (fun _=>True) (t163 hn _) (fun _ _=>?_)
  | refine z8 (fun _=>True) (t169 hn _) (fun _ _=>?_)
  | refine z8 (fun _=>True) (t162 hn l1) (fun _ _=>?_)
  | refine z8 (fun _=>True) (t162 hn l2) (fun _ _=>?_)
  | refine z8 (fun _=>True) (t162 hn ‹_›) (fun _ _=>?_)
  | refine zi (fun (s:Ybo)=>s.2.2.1<18446744073709551616∧s.2.2.2.2.2.2.2.1<18446744073709551616) ?_ (fun s ⟨l1,l2⟩=>?_)
  | refine zi (fun _=>True) ?_ (fun _ _=>?_)
theorem t185 {n:Nat} (hn:1000<n) (x:Yaa):Got ((k185 n).G x) (fun _=>True):=by
 show Ans (zlp n x) _
 unfold zlp
 repeat' first
  | exact z0 True.intro
  | refine z6 (fun _=>?_) (fun _=>?_)
  | refine zk (z1j _) ?_
  | refine zi (fun _=>True) ?_ (fun _ _=>?_)
  | refine z8 (fun _=>True) (t181 hn _) (fun _ _=>?_)
  | refine z8 (fun _=>True) (t168 hn _) (fun _ _=>?_)
theorem zcf {P:Program} {T:TT} {pro:List Nat} {R S:Type} {Q:R→Prop} {enc:S→EH T} {B:Pt P T pro (S⊕R)} {K:S→Pt P T pro R} (h:Ans B (fun s=>match s with | .inl s=>Ans (K s) Q | .inr r=>Q r)):Ans (.join enc B K) Q:=zi (fun s=>Ans (K s) Q) h fun _ h=>h
theorem t180 {n:Nat} (hn:1000<n) {x:Xk} (h0:0<x.M_) (h1:x.M_<16777216):Got ((k180 n).G x) (fun y=>0<y.2.1∧y.2.1<16777216):=by
 show Ans (zlk n x) _
 unfold zlk
 refine z1m rfl (fun (q:Yaa)=>0<q.1∧q.1<16777216) ?_ (fun _ h=>z0 h)
 refine z56 (fun k (q:Yaa)=>q.1<16777216∧0<q.1∧8388608≤q.1 * 2 ^ k) (fun k q hq=>?_) 23 n (x.M_,x.E_) ⟨h1,h0,by omega⟩ (by omega)
 show Ans (zh5 n x () q) _
 unfold zh5
 refine z6 (fun h=>z0 ?_) (fun _=>z0 ⟨hq.2.1,hq.1⟩)
 simp only [decide_eq_true_eq] at h
 obtain ⟨a,b,c⟩:=hq
 have e:IntKind.u64.wrap (q.1 * 2)=q.1 * 2:=by
  simp [IntKind.wrap,IntKind.bits,IntKind.signed]; omega
 match k,c with
 | 0,c=>simp at c; omega
 | k+1,c =>
  refine ⟨k,by omega,?_,?_,?_⟩
  ·show IntKind.u64.wrap (q.1 * 2)<_; rw [e]; omega
  ·show 0<IntKind.u64.wrap (q.1 * 2); rw [e]; omega
  ·show _≤IntKind.u64.wrap (q.1 * 2) * 2 ^ k
   rw [e,Int.mul_assoc,Int.mul_comm 2]
   rw [Int.pow_succ] at c
   exact c
abbrev zit:Type:=Bool×Bool×Bool×Int×Int×Bool×Bool×Bool×Int×Int×Bool×Bool
def Ms (s:zit):Prop:=zdc s.2.2.2.1∧zdc s.2.2.2.2.2.2.2.2.1
theorem t186 {n:Nat} (hn:1000<n) (x:Yaa):Got ((k186 n).G x) (fun _=>True):=by
 show Ans (zlq n x) _
 unfold zlq
 refine z8 _ (t69 _) (fun y1 h1=>?_)
 refine z8 _ (t69 _) (fun y2 h2=>?_)
 refine zi (fun (s:zit)=>Ms s) ?_ (fun s1 hs1=>?_)
 ·repeat' first
   | exact z0 ⟨h1,h2⟩
   | refine z6 (fun _=>?_) (fun _=>?_)
   | refine z8 (fun _=>True) (t159 hn _) (fun _ _=>?_)
 refine z6 (fun _=>z0 True.intro) (fun _=>?_)
 refine zi (fun (s:zit)=>Ms s∧(s.2.1=false→s.2.2.2.2.2.2.2.2.2.2.1=false→s.2.2.2.2.2.2.2.2.1 ≠ 0)) ?_ (fun s2 hs2=>?_)
 ·refine z6 (fun _=>z0 ⟨hs1,fun h=>by cases h⟩) (fun _=>z6 (fun _=>z0 ⟨hs1,fun h _=>?_⟩) (fun h=>z0 ⟨hs1,fun _ h'=>?_⟩))
  ·simpa using h
  ·rw [show s1.2.2.2.2.2.2.2.2.2.2.1=false from h'] at h; cases h
 refine z6 (fun _=>z8 (fun _=>True) (t160 hn _) (fun _ _=>z0 True.intro)) (fun hb=>?_)
 refine zi (fun (s:zit)=>Ms s∧(s.2.1=false→s.2.2.2.1 ≠ 0∧s.2.2.2.2.2.2.2.2.1 ≠ 0)) ?_ (fun s3 hs3=>?_)
 ·refine z6 (fun _=>z0 ⟨hs2.1,fun h=>by cases h⟩) (fun hi=>z0 ⟨hs2.1,fun h=>⟨?_,hs2.2 hb hi⟩⟩)
  simpa using h
 refine z6 (fun _=>z8 (fun _=>True) (t163 hn _) (fun _ _=>z0 True.intro)) (fun hc=>?_)
 obtain ⟨q1,q2⟩:=hs3.2 hc
 obtain ⟨⟨a1,b1⟩,⟨a2,b2⟩⟩:=hs3.1
 refine z8 _ (t180 hn (show (0:Int)<s3.2.2.2.1 by omega) b1) (fun y6 h6=>?_)
 refine z8 _ (t180 hn (show (0:Int)<s3.2.2.2.2.2.2.2.2.1 by omega) b2) (fun y7 h7=>?_)
 have h0:y7.2.1 ≠ (0:Int):=by have:=h7.1; omega
 refine zk h0 (zk h0 ?_)
 refine zi (fun (s:Ycl)=>s.2.1<18446744073709551616) ?_ (fun s4 h4=>?_)
 ·refine z6 (fun _=>z0 (z78 _)) (fun _=>z0 (z78 _))
 ·exact z8 (fun _=>True) (t162 hn h4) (fun _ _=>z0 True.intro)
theorem t179 {n:Nat} (hn:1000<n) (x:Int):Got ((k179 n).G x) (fun _=>True):=by
 show Ans (zlj n x) _
 unfold zlj
 refine z8 _ (t69 _) (fun y1 h1=>?_)
 refine z6 (fun _=>z0 True.intro) (fun _=>?_)
 refine zi (fun (s:Yck)=>zdc s.2.2.1∧(s.1=false→s.2.2.2.2.1=false→s.2.2.1 ≠ 0)) ?_ (fun s1 hs1=>?_)
 ·refine z6 (fun _=>z0 ⟨h1,fun h _=>?_⟩) (fun h=>z0 ⟨h1,fun _ h'=>?_⟩)
  ·simpa using h
  ·rw [show y1.2.2.2.1=false from h'] at h; cases h
 refine z6 (fun _=>z0 True.intro) (fun hb=>z6 (fun _=>z0 True.intro) (fun _=>z6 (fun _=>z0 True.intro) (fun hi=>?_)))
 obtain ⟨⟨a1,b1⟩,q⟩:=hs1
 have q:=q hb hi
 refine z8 _ (t180 hn (show (0:Int)<s1.2.2.1 by omega) b1) (fun y2 h2=>?_)
 refine zi (fun _=>True) ?_ (fun s2 _=>?_)
 ·exact z6 (fun _=>z0 True.intro) (fun _=>z0 True.intro)
 refine z1m rfl (fun _=>True) ?_ (fun y3 _=>?_)
 ·refine z56 (fun k (q:Yaa)=>0≤q.2∧q.2<2 ^ k) (fun k q hq=>?_) 32 n (0,2147483648) ⟨by decide,by decide⟩ (by omega)
  show Ans (zh4 n x _ q) _
  unfold zh4
  obtain ⟨h3,h4⟩:=hq
  have key:q.2 > 0→∃ k',k'<k∧0≤IntKind.u64.wrap (q.2.tdiv 2)∧IntKind.u64.wrap (q.2.tdiv 2)<2 ^ k':=fun hp=>by
   match k,h4 with
   | 0,h4=>simp at h4; omega
   | k+1,h4 =>
    refine ⟨k,by omega,z1j _,?_⟩
    rw [Int.pow_succ] at h4
    rw [Int.tdiv_eq_ediv_of_nonneg h3]
    have:IntKind.u64.wrap (q.2 / 2)≤q.2 / 2:=by
     have hw:IntKind.u64.wrap (q.2 / 2)=(q.2 / 2) % 18446744073709551616:=by simp [IntKind.wrap,IntKind.bits,IntKind.signed]
     rw [hw]; omega
    omega
  refine z6 (fun h=>?_) (fun _=>z0 True.intro)
  have hp:q.2 > 0:=by simpa using h
  exact z6 (fun _=>z0 (key hp)) (fun _=>z0 (key hp))
 ·refine zi (fun (s:Yaa)=>s.2<18446744073709551616) ?_ (fun s3 h3=>?_)
  ·exact z6 (fun _=>z0 (z78 _)) (fun _=>z0 (z78 _))
  ·exact z8 (fun _=>True) (t162 hn h3) (fun _ _=>z0 True.intro)
theorem t156 {n:Nat} (hn:1000<n) (x:Yaa):Got ((k156 n).G x) (fun _=>True):=by
 show Ans (zkx n x) _
 unfold zkx
 refine z6 (fun _=>z0 True.intro) (fun _=>?_)
 refine z8 (fun _=>True) (t65 hn _) (fun y1 _=>?_)
 refine z8 (fun (y:Int)=>0≤y∧y≤64) (y1s hn (z78 _)) (fun (y2:Int) h2=>?_)
 refine z1m rfl (fun _=>True) ?_ (fun _ _=>z0 True.intro)
 obtain ⟨h3,h4⟩:=h2
 refine z56 (fun k (q:Yaa)=>q.2<k∧k≤100) (fun k q hq=>?_) 63 n (y1,_) ⟨by rw [z1h (by omega) (by omega)]; omega,by decide⟩ (by omega)
 show Ans (zh2 n x () q) _
 unfold zh2
 have key:q.2≥0→∃ k':Nat,k'<k∧IntKind.i64.wrap (q.2 - 1)<k'∧k'≤100:=fun h=>by
  refine ⟨k - 1,by omega,?_,by omega⟩
  rw [z1h (by omega) (by omega)]; omega
 refine z6 (fun h=>?_) (fun _=>z0 True.intro)
 have h:=key (by simpa using h)
 refine z8 (fun _=>True) (t158 hn _) (fun y3 _=>zk (z1j _) ?_)
 exact z6 (fun _=>z8 (fun _=>True) (t158 hn _) (fun y4 _=>z0 h)) (fun _=>z0 h)
theorem t173 {n:Nat} (hn:1000<n) (x:Yan):Got ((k173 n).G x) (fun _=>True):=by
 show Ans (zle n x) _
 unfold zle
 repeat' first
  | exact z0 True.intro
  | exact z6 (fun _=>z0 True.intro) (fun h=>zk (by simpa using h) (z0 True.intro))
  | refine z6 (fun _=>?_) (fun _=>?_)
  | refine z8 (fun _=>True) (t166 hn _) (fun _ _=>?_)
theorem t178 {n:Nat} (hn:1000<n) (x:Yan):Got ((k178 n).G x) (fun _=>True):=by
 show Ans (zli n x) _
 unfold zli
 repeat' first
  | exact z0 True.intro
  | refine z6 (fun _=>?_) (fun _=>?_)
  | refine z8 (fun _=>True) (t136 hn _) (fun _ _=>?_)
  | refine z8 (fun _=>True) (t179 hn _) (fun _ _=>?_)
  | refine z8 (fun _=>True) (t181 hn _) (fun _ _=>?_)
  | refine z8 (fun _=>True) (t182 hn _) (fun _ _=>?_)
  | refine z8 (fun _=>True) (t183 hn _) (fun _ _=>?_)
  | refine z8 (fun _=>True) (t184 hn _) (fun _ _=>?_)
  | refine z8 (fun _=>True) (t168 hn _) (fun _ _=>?_)
  | refine z8 (fun _=>True) (t185 hn _) (fun _ _=>?_)
  | refine z8 (fun _=>True) (t158 hn _) (fun _ _=>?_)
  | refine z8 (fun _=>True) (t186 hn _) (fun _ _=>?_)
  | refine z8 (fun _=>True) (t171 hn _) (fun _ _=>?_)
  | refine z8 (fun _=>True) (t187 hn _) (fun _ _=>?_)
  | refine z8 (fun _=>True) (t188 hn _) (fun _ _=>?_)
  | refine z8 (fun _=>True) (t190 hn _) (fun _ _=>?_)
theorem t177 {n:Nat} {l:List Int} {i:Int} (h:l.length=1∨(0≤i∧i<l.length)):Got ((k177 n).G (l,i)) (fun _=>True):=by
 show Ans (zlh n (l,i)) _
 unfold zlh
 refine z6 (fun h1=>?_) (fun h1=>?_)
 ·have h1:(l.length:Int)=1:=by simpa using h1
  obtain ⟨y,hy,_⟩:=z2z (l:=l) (n:=0) (by omega) (by omega)
  exact zg hy (z0 True.intro)
 ·have h1:¬ (l.length:Int)=1:=by simpa using h1
  obtain ⟨y,hy,_⟩:=z2z (l:=l) (n:=i) (by omega) (by omega)
  exact zg hy (z0 True.intro)
def tk (op:Int):Nat:=if 4≤op∧op≤10 then 2 else if op=15 then 3 else 1
theorem t176 {n:Nat} {op:Int} (h0:3≤op) (h1:op≤15):Got ((k176 n).G op) (fun (y:Int)=>y=(tk op:Int)):=by
 have h:op=3∨op=4∨op=5∨op=6∨op=7∨op=8∨op=9∨op=10∨op=11∨op=12∨op=13∨op=14∨op=15:=by omega
 rcases h with rfl | rfl | rfl | rfl | rfl | rfl | rfl | rfl | rfl | rfl | rfl | rfl | rfl <;> exact ⟨((tk _:Nat):Int),by kernel_rfl,rfl⟩
theorem z1q {S Y Z:Type} {body:S→Option (Bo S Y Z)} {Q:Bo S Y Z→Prop} (K:Nat) (I:Nat→S→Prop) (hb:∀ i s,i<K→I i s→Got (body s) (fun b=>match b with | .go s'=>I (i+1) s' | .out y=>Q (.out y) | .ret z=>Q (.ret z)))
  (he:∀ s,I K s→Got (body s) (fun b=>match b with | .go _=>False | .out y=>Q (.out y) | .ret z=>Q (.ret z))) (f:Nat) (hf:K<f) (s:S) (h0:I 0 s):Got (iter body f s) Q:=by
 refine z56 (fun k s=>∃ i,i+k=K∧I i s) (fun k s hs=>?_) K f s ⟨0,by omega,h0⟩ hf
 obtain ⟨i,hi,hI⟩:=hs
 by_cases h:i<K
 ·refine z8c (hb i s h hI) fun b hq=>?_
  cases b with
  | go s'=>exact ⟨k - 1,by omega,i+1,by omega,hq⟩
  | out y=>exact hq
  | ret z=>exact hq
 ·obtain rfl:i=K:=by omega
  refine z8c (he s hI) fun b hq=>?_
  cases b with
  | go s'=>exact hq.elim
  | out y=>exact hq
  | ret z=>exact hq
theorem t135 {n:Nat} (hn:100000<n) {w a:Int} (h0:0≤w) (h1:w≤65536):Got ((k135 n).G (w,a)) (fun y=>y.1=(0:Int)∧((y.2.length:Nat):Int)=w):=by
 show Ans (zkg n (w,a)) _
 unfold zkg
 refine zi (fun s=>s=false) ?_ (fun s hs=>?_)
 ·refine z6 (fun h=>?_) (fun _=>z0 ?_)
  ·have:w<0:=by simpa using h
   omega
  ·show decide (w > 65536)=false
   simp only [decide_eq_false_iff_not]; omega
 subst hs
 refine z6 (fun h=>by cases h) (fun _=>?_)
 refine z1m rfl (fun (y:Int×List Int)=>((y.2.length:Nat):Int)=w) ?_ (fun y hy=>z0 ⟨rfl,hy⟩)
 refine z1q w.toNat (fun i (q:Int×List Int)=>q.1=i∧q.2.length=i) (fun i (q:Int×List Int) hi hq=>?_) (fun (q:Int×List Int) hq=>?_) n (by omega) (0,[]) ⟨rfl,rfl⟩
 ·show Ans (za1 n (w,a) () q) _
  unfold za1
  obtain ⟨q1,q2⟩:=hq
  refine z6 (fun _=>?_) (fun h=>?_)
  ·refine z8 (fun _=>True) (t136 (by omega) _) (fun (y:Int) _=>zk (by simp; omega) (z0 ⟨?_,?_⟩))
   ·show IntKind.i64.wrap (q.1+1)=_
    rw [q1,z11 (by omega)]
   ·simp; omega
  ·simp only [decide_eq_false_iff_not] at h
   have h:¬ q.1<w:=h
   omega
 ·show Ans (za1 n (w,a) () q) _
  unfold za1
  obtain ⟨q1,q2⟩:=hq
  refine z6 (fun h=>?_) (fun _=>z0 ?_)
  ·have h:q.1<w:=by simpa using h
   omega
  ·show ((q.2.length:Nat):Int)=w
   omega
theorem t167 {n:Nat} {l:List Int} (hn:1000<n) (hl:l.length<n) (hl2:l.length≤1000000000):Got ((k167 n).G l) (fun _=>True):=by
 show Ans (zl8 n l) _
 unfold zl8
 refine z1m rfl (fun _=>True) ?_ (fun _ _=>z0 True.intro)
 refine z1q l.length (fun i (q:Yaa)=>q.2=i) (fun i (q:Yaa) hi hq=>?_) (fun (q:Yaa) hq=>?_) n hl (0,0) rfl
 ·show Ans (za9 n l () q) _
  unfold za9
  refine z6 (fun _=>?_) (fun _=>z0 True.intro)
  refine zg (by rw [hq]; exact zy hi) ?_
  refine z8 (fun _=>True) (t168 hn _) (fun y _=>z0 ?_)
  show IntKind.i64.wrap (q.2+1)=_
  rw [hq,z11 (by omega)]
 ·show Ans (za9 n l () q) _
  unfold za9
  refine z6 (fun h=>?_) (fun _=>z0 True.intro)
  have h:q.2<(l.length:Int):=by simpa using h
  omega
theorem t170 {n:Nat} {l:List Int} (hn:1000<n) (hl:l.length<n) (hl2:l.length≤1000000000):Got ((k170 n).G l) (fun _=>True):=by
 show Ans (zlb n l) _
 unfold zlb
 refine z1m rfl (fun _=>True) ?_ (fun _ _=>z0 True.intro)
 refine z1q l.length (fun i (q:Yaa)=>q.2=i) (fun i (q:Yaa) hi hq=>?_) (fun (q:Yaa) hq=>?_) n hl (2139095040,0) rfl
 ·show Ans (zaa n l () q) _
  unfold zaa
  refine z6 (fun _=>?_) (fun _=>z0 True.intro)
  refine zg (by rw [hq]; exact zy hi) ?_
  refine z8 (fun _=>True) (t171 hn _) (fun y _=>z0 ?_)
  show IntKind.i64.wrap (q.2+1)=_
  rw [hq,z11 (by omega)]
 ·show Ans (zaa n l () q) _
  unfold zaa
  refine z6 (fun h=>?_) (fun _=>z0 True.intro)
  have h:q.2<(l.length:Int):=by simpa using h
  omega
theorem t174 {n:Nat} (hn:100000<n) {p:Xa} {v:List Int} {m:Int} (h0:1≤p.Len_) (h1:p.Len_≤4096) (hv:(v.length:Int)=(bif p.Kind_==2 then 2 * p.Len_ else p.Len_)) (hm:m=0∨(m=1∧(p.Kind_==2)=true)):Got ((k174 n).G (p,v,m)) (fun (y:List Int)=>((y.length:Nat):Int)=p.Len_):=by
 show Ans (zlf n (p,v,m)) _
 unfold zlf
 refine zi (fun (s:Int)=>s=bif p.Kind_==2 then 2 else 1) ?_ (fun s hs=>?_)
 ·exact z6 (fun h=>z0 (by show (2:Int)=_; rw [h]; rfl)) (fun h=>z0 (by show (1:Int)=_; rw [h]; rfl))
 refine z1m rfl (fun (y:Int×List Int)=>((y.2.length:Nat):Int)=p.Len_) ?_ (fun y hy=>z0 hy)
 refine z1q p.Len_.toNat (fun i (q:Int×List Int)=>q.1=i∧q.2.length=i) (fun i (q:Int×List Int) hi hq=>?_) (fun (q:Int×List Int) hq=>?_) n (by omega) (0,[]) ⟨rfl,rfl⟩
 ·show Ans (zab n (p,v,m) s q) _
  unfold zab
  obtain ⟨q1,q2⟩:=hq
  refine z6 (fun _=>?_) (fun h=>?_)
  ·have ei:IntKind.i64.wrap (IntKind.i64.wrap (s * q.1)+m)=s * q.1+m∧0≤s * q.1+m∧s * q.1+m<v.length:=by
    rw [q1,hs]
    cases hk:p.Kind_==2 with
    | true =>
     rw [hk] at hv
     simp only [cond_true] at hv ⊢
     rw [z1h (x:=2 * (i:Int)) (by omega) (by omega),z1h (by omega) (by omega)]
     omega
    | false =>
     rw [hk] at hv hm
     simp only [cond_false] at hv ⊢
     have:m=0:=by
      rcases hm with h | ⟨_,h⟩
      ·exact h
      ·cases h
     rw [z1h (x:=1 * (i:Int)) (by omega) (by omega),z1h (by omega) (by omega)]
     omega
   obtain ⟨y,hy,_⟩:=z2z (l:=v) (n:=s * q.1+m) ei.2.1 ei.2.2
   refine zg (by rw [ei.1]; exact hy) ?_
   refine z8 (fun _=>True) (t136 (by omega) _) (fun (y:Int) _=>zk (by simp; omega) (z0 ⟨?_,?_⟩))
   ·show IntKind.i64.wrap (q.1+1)=_
    rw [q1,z11 (by omega)]
   ·simp; omega
  ·simp only [decide_eq_false_iff_not] at h
   have h:¬ q.1<p.Len_:=h
   omega
 ·show Ans (zab n (p,v,m) s q) _
  unfold zab
  obtain ⟨q1,q2⟩:=hq
  refine z6 (fun h=>?_) (fun _=>z0 ?_)
  ·have h:q.1<p.Len_:=by simpa using h
   omega
  ·show ((q.2.length:Nat):Int)=p.Len_
   omega
def zj4 (w:Nat) (a:List (List Int)):Prop:=∀ l ∈ a,l.length=1∨l.length=w
theorem zbh {w:Nat} {a:List (List Int)} (h:zj4 w a) {i:Nat} (hi:i<a.length):∃ y,idx a (i:Int)=some y∧(y.length=1∨y.length=w)∧a[i]? = some y:=by
 exact ⟨a[i],zy hi,h _ (List.getElem_mem hi),List.getElem?_eq_getElem hi⟩
theorem t192 {n:Nat} (hn:100000<n) {w:Nat} {op:Int} {a:List (List Int)} (h0:3≤op) (h1:op≤15) (hk:a.length=tk op) (hw0:1≤w) (hw:w≤4096) (ha:zj4 w a) :
  Got ((k192 n).G (op,a)) (fun (y:Int×List Int)=>y.2.length=1∨y.2.length=w):=by
 have hk1:1≤a.length∧a.length≤3:=by
  rw [hk]; unfold tk; split
  ·omega
  ·split <;> omega
 show Ans (zlw n (op,a)) _
 unfold zlw
 refine z8 (fun (y:Int)=>y=(tk op:Int)) (t176 h0 h1) (fun (y1:Int) hy1=>?_)
 rw [← hk] at hy1
 subst hy1
 refine zi (fun (s:Yag)=>s=((a.length:Int),false)) ?_ (fun s hs=>?_)
 ·refine z6 (fun h=>?_) (fun _=>z0 ?_)
  ·have h:(a.length:Int)=0:=by simpa using h
   omega
  ·show ((a.length:Int),((a.length:Int) != (a.length:Int)))=_
   simp
 subst hs
 refine z6 (fun h=>by cases h) (fun _=>?_)
 obtain ⟨y2,hy2,hl2,hg2⟩:=zbh ha (show 0<a.length by omega)
 refine zg hy2 ?_
 refine z1m rfl (fun (q:Yaa)=>q.1=w∨(q.1=1∧∀ l ∈ a,l.length=1)) ?_ (fun (y5:Yaa) hy5=>?_)
 ·refine z1q a.length (fun i (q:Yaa)=>q.2=i∧(q.1=w∨(q.1=1∧∀ j l,j<i→a[j]? = some l→l.length=1))) (fun i (q:Yaa) hi hq=>?_) (fun (q:Yaa) hq=>?_) n (by omega) ((y2.length:Int),0) ⟨rfl,?_⟩
  ·show Ans (zac n (op,a) (a.length:Int) q) _
   unfold zac
   obtain ⟨q1,q2⟩:=hq
   have ew:IntKind.i64.wrap (q.2+1)=((i+1:Nat):Int):=by rw [q1,z11 (by omega)]
   obtain ⟨y,hy,hl,hg⟩:=zbh ha hi
   have hy:idx a q.2=some y:=by rw [q1]; exact hy
   refine z6 (fun _=>?_) (fun h=>?_)
   ·refine zi (fun (s:Bool)=>(s=true→(q.1=1∨y.length=0))∧(s=false→q.1 ≠ 1)) ?_ (fun s hs=>?_)
    ·refine z6 (fun h=>z0 ⟨fun _=>.inl (by simpa using h),fun h=>by cases h⟩) (fun h=>zg hy (z0 ⟨fun h2=>.inr (by simpa using h2),fun _=>by simpa using h⟩))
    ·refine z6 (fun h=>zg hy (z0 ⟨ew,?_⟩)) (fun h=>z0 ⟨ew,?_⟩)
     ·show ((y.length:Nat):Int)=w∨(((y.length:Nat):Int)=1∧_)
      rcases q2 with q2 | ⟨q2,q3⟩
      ·rcases hs.1 h with e | e
       ·left; omega
       ·omega
      ·rcases hl with hl | hl
       ·right
        refine ⟨by omega,fun j l hj hl'=>?_⟩
        by_cases hji:j=i
        ·subst hji; rw [hg] at hl'; cases hl'; exact hl
        ·exact q3 j l (by omega) hl'
       ·left; omega
     ·have:=hs.2 h
      rcases q2 with q2 | ⟨q2,q3⟩
      ·exact .inl q2
      ·exact absurd q2 this
   ·have h:¬ q.2<(a.length:Int):=by simpa using h
    omega
  ·show Ans (zac n (op,a) (a.length:Int) q) _
   unfold zac
   obtain ⟨q1,q2⟩:=hq
   refine z6 (fun h=>?_) (fun _=>z0 ?_)
   ·have h:q.2<(a.length:Int):=by simpa using h
    omega
   ·rcases q2 with q2 | ⟨q2,q3⟩
    ·exact .inl q2
    ·refine .inr ⟨q2,fun l hl=>?_⟩
     obtain ⟨j,hj,e⟩:=List.mem_iff_getElem.1 hl
     exact q3 j l hj (by rw [List.getElem?_eq_getElem hj,e])
  ·show ((y2.length:Nat):Int)=w∨(((y2.length:Nat):Int)=1∧_)
   rcases hl2 with h | h
   ·exact .inr ⟨by omega,fun j l hj=>by omega⟩
   ·exact .inl (by omega)
 refine z6q (fun _=>True) (fun _=>False) ?_ (fun (y8:Int) _=>?_) (fun _ h=>h.elim)
 ·refine z1q a.length (fun i (q:Int)=>q=i) (fun i (q:Int) hi hq=>?_) (fun (q:Int) hq=>?_) n (by omega) (0:Int) rfl
  ·show Ans (zad n (op,a) ((a.length:Int),y5.1) q) _
   unfold zad
   obtain ⟨y,hy,hl,hg⟩:=zbh ha hi
   have hy:idx a q=some y:=by rw [hq]; exact hy
   refine z6 (fun _=>?_) (fun h=>?_)
   ·refine zi (fun (s:Bool)=>s=false) ?_ (fun s hs=>?_)
    ·refine zg hy (z6 (fun h=>z6 (fun h2=>?_) (fun _=>zg hy (z0 ?_))) (fun _=>z0 rfl))
     ·have h2:y5.1=0:=by simpa using h2
      rcases hy5 with e | ⟨e,_⟩ <;> omega
     ·have h:¬ ((y.length:Nat):Int)=y5.1:=by simpa using h
      show (((y.length:Nat):Int) != 1)=false
      rcases hy5 with e | ⟨e,e2⟩
      ·have:y.length=1:=by
        rcases hl with hl | hl
        ·exact hl
        ·omega
       simp [this]
      ·have:=e2 y (List.mem_of_getElem? hg)
       omega
    ·subst hs
     refine z6 (fun h=>by cases h) (fun _=>z0 ?_)
     show IntKind.i64.wrap (q+1)=_
     rw [hq,z11 (by omega)]
   ·have h:¬ q<(a.length:Int):=by simpa using h
    omega
  ·show Ans (zad n (op,a) ((a.length:Int),y5.1) q) _
   unfold zad
   refine z6 (fun h=>?_) (fun _=>z0 True.intro)
   have h:q<(a.length:Int):=by simpa using h
   omega
 have hN:∃ N:Nat,y5.1=N∧N≤4096∧(N=1∨N=w)∧∀ l ∈ a,l.length=1∨l.length=N:=by
  rcases hy5 with e | ⟨e,e2⟩
  ·exact ⟨w,e,hw,.inr rfl,ha⟩
  ·exact ⟨1,e,by omega,.inl rfl,fun l hl=>.inl (e2 l hl)⟩
 obtain ⟨N,hN,hN1,hN2,hN3⟩:=hN
 refine z1m rfl (fun (q:Int×List Int)=>q.2.length=N) ?_ (fun (y13:Int×List Int) hy=>z0 ?_)
 ·refine z1q N (fun i (q:Int×List Int)=>q.1=i∧q.2.length=i) (fun i (q:Int×List Int) hi hq=>?_) (fun (q:Int×List Int) hq=>?_) n (by omega) (0,[]) ⟨rfl,rfl⟩
  ·show Ans (zae n (op,a) ((a.length:Int),y5.1) q) _
   unfold zae
   obtain ⟨q1,q2⟩:=hq
   refine z6 (fun _=>?_) (fun h=>?_)
   ·refine z1m rfl (fun _=>True) ?_ (fun (y11:Yan) _=>?_)
    ·refine z1q a.length (fun j (r:Yan)=>r.1=j) (fun j (r:Yan) hj hr=>?_) (fun (r:Yan) hr=>?_) n (by omega) (0,0,0,0) rfl
     ·show Ans (zaf n (op,a) ((a.length:Int),y5.1) q () r) _
      unfold zaf
      obtain ⟨y,hy,_,hg⟩:=zbh ha hj
      have hy:idx a r.1=some y:=by rw [hr]; exact hy
      have ew:IntKind.i64.wrap (r.1+1)=((j+1:Nat):Int):=by rw [hr,z11 (by omega)]
      refine z6 (fun _=>?_) (fun h=>?_)
      ·refine zg hy ?_
       have hat:y.length=1∨(0≤q.1∧q.1<y.length):=by
        rcases hN3 y (List.mem_of_getElem? hg) with e | e
        ·exact .inl e
        ·exact .inr ⟨by omega,by omega⟩
       refine z8 (fun _=>True) (t177 hat) (fun (y10:Int) _=>?_)
       refine z6 (fun _=>z0 ew) (fun c0=>z6 (fun _=>z0 ew) (fun c1=>z6 (fun _=>z0 ew) (fun c2=>?_)))
       have c0:¬ r.1=0:=by simpa using c0
       have c1:¬ r.1=1:=by simpa using c1
       have c2:¬ r.1=2:=by simpa using c2
       omega
      ·have h:¬ r.1<(a.length:Int):=by simpa using h
       omega
     ·show Ans (zaf n (op,a) ((a.length:Int),y5.1) q () r) _
      unfold zaf
      refine z6 (fun h=>?_) (fun _=>z0 True.intro)
      have h:r.1<(a.length:Int):=by simpa using h
      omega
    ·refine z8 (fun _=>True) (t178 (by omega) _) (fun (y12:Int) _=>zk (by simp; omega) (z0 ⟨?_,?_⟩))
     ·show IntKind.i64.wrap (q.1+1)=_
      rw [q1,z11 (by omega)]
     ·simp; omega
   ·have h:¬ q.1<y5.1:=by simpa using h
    omega
  ·show Ans (zae n (op,a) ((a.length:Int),y5.1) q) _
   unfold zae
   obtain ⟨q1,q2⟩:=hq
   refine z6 (fun h=>?_) (fun _=>z0 q2)
   have h:q.1<y5.1:=by simpa using h
   omega
 ·show y13.2.length=1∨y13.2.length=w
  rcases hN2 with e | e
  ·exact .inl (by omega)
  ·exact .inr (by omega)
theorem z4g {l:List Xa} {t:Xb} (hp:∀ p ∈ l,mayP p=true) (ht:mayT l t=true):1≤z20 l t∧z20 l t≤4096∧(t.Kind_=1→z20 l t=1):=by
 unfold z20
 unfold mayT at ht
 cases hk:t.Kind_==3 with
 | false =>
  have:(t.Kind_ != 3)=true:=by unfold bne; rw [hk]; rfl
  rw [this]; exact ⟨show (1:Int)≤1 by decide,show (1:Int)≤4096 by decide,fun _=>rfl⟩
 | true =>
  have:(t.Kind_ != 3)=false:=by unfold bne; rw [hk]; rfl
  rw [hk] at ht
  simp only [cond_true,Bool.and_eq_true,decide_eq_true_eq] at ht
  obtain ⟨p,hp1,hp2⟩:=z2z (l:=l) (n:=t.Param_) (by omega) (by omega)
  have hm:=hp p (z1s hp1).1
  unfold mayP at hm
  simp only [Bool.and_eq_true,decide_eq_true_eq] at hm
  rw [this,hp1]
  refine ⟨hm.2.2.1,hm.2.2.2,fun h=>?_⟩
  rw [h] at hk; cases hk
theorem t134 {n:Nat} {c:Xe} {t:Xb} (ht:mayT c.Sign_ t=true):Got ((k134 n).G (c,t)) (fun (y:Int)=>y=z20 c.Sign_ t):=by
 show Ans (zkf n (c,t)) _
 unfold zkf
 unfold mayT at ht
 refine z6 (fun h=>?_) (fun h=>z0 ?_)
 ·have h:(t.Kind_==3)=true:=h
  rw [h] at ht
  simp only [cond_true,Bool.and_eq_true,decide_eq_true_eq] at ht
  obtain ⟨p,hp1,hp2⟩:=z2z (l:=c.Sign_) (n:=t.Param_) (by omega) (by omega)
  refine zg hp1 (z0 ?_)
  unfold z20
  have:(t.Kind_ != 3)=false:=by unfold bne; rw [h]; rfl
  rw [this,hp1]; rfl
 ·have h:(t.Kind_==3)=false:=h
  unfold z20
  have:(t.Kind_ != 3)=true:=by unfold bne; rw [h]; rfl
  rw [this]; rfl
def z2h (c:Xe) (t:Xb) (x:List Int):Prop:=(t.Kind_=2∧x.length≤4096)∨((x.length:Nat):Int)=z20 c.Sign_ t
theorem t133 {n:Nat} (hn:100000<n) {c:Xe} {z:Xc} (hp:∀ p ∈ c.Sign_,mayP p=true) (ht:mayT c.Sign_ z.Type_=true):Got ((k133 n).G (c,z)) (fun (y:List Int×Int)=>z2h c z.Type_ y.1):=by
 show Ans (zke n (c,z)) _
 unfold zke
 obtain ⟨w1,w2,_⟩:=z4g hp ht
 refine z6 (fun h=>z0 (.inl ⟨by simpa using h,by show ([]:List Int).length≤4096; decide⟩)) (fun h=>?_)
 refine z8 (fun (y:Int)=>y=z20 c.Sign_ z.Type_) (t134 ht) (fun (y1:Int) h1=>?_)
 rw [← h1] at w1 w2
 show Ans _ (fun (y:List Int×Int)=>z2h c z.Type_ y.1)
 refine z8 _ (t135 hn (by omega) (by omega)) (fun (y2:Int×List Int) h2=>z0 (.inr (h2.2.trans h1)))
structure z31 (c:Xe) (set:List Bool) (R:List Xh):Prop where
 len:R.length=c.Regs_.length
 ok:∀ (j:Nat) (t:Xb) (x:Xh),c.Regs_[j]? = some t→R[j]? = some x→(set[j]?).getD false=true→z2h c t x.Nums_
theorem zbv {c:Xe} {s k:Int} {d:Xb} (h:zr c s k d=true) (h0:0<c.Regs_.length):0≤k∧k<c.Regs_.length:=by
 unfold zr at h
 cases hs:s==0 with
 | true =>
  rw [hs] at h
  have:k=0:=by simpa using h
  omega
 | false =>
  rw [hs] at h
  simp only [cond_false] at h
  cases hi:idx c.Regs_ k with
  | none=>rw [hi] at h; cases h
  | some t =>
   by_cases hk:0≤k∧k<c.Regs_.length
   ·exact hk
   ·rw [z27 (by omega)] at hi; cases hi
theorem zgy {c:Xe} {i:Xd} (h:fits c i=true) (h0:0<c.Regs_.length):(0≤i.A_∧i.A_<c.Regs_.length)∧(0≤i.B_∧i.B_<c.Regs_.length)∧(0≤i.C_∧i.C_<c.Regs_.length)∧(0≤i.D_∧i.D_<c.Regs_.length):=by
 unfold fits at h
 split at h
 ·cases h
 ·simp only [Bool.and_eq_true] at h
  exact ⟨zbv h.2.1 h0,zbv h.2.2.1 h0,zbv h.2.2.2.1 h0,zbv h.1 h0⟩
theorem z2v {α:Type} {l:List α} {k:Int} (h:0≤k∧k<l.length):∃ y,idx l k=some y∧l[k.toNat]? = some y:=by
 obtain ⟨j,rfl⟩:∃ j:Nat,k=j:=⟨k.toNat,by omega⟩
 have hj:j<l.length:=by omega
 exact ⟨l[j],zy hj,by rw [Int.toNat_natCast]; exact List.getElem?_eq_getElem hj⟩
theorem z3k {α:Type} {l:List α} {k:Int} {t:α} (h:idx l k=some t):0≤k∧k<l.length∧l[k.toNat]? = some t:=by
 by_cases hk:0≤k∧k<l.length
 ·obtain ⟨y,h1,h2⟩:=z2v hk
  rw [h1] at h; cases h
  exact ⟨hk.1,hk.2,h2⟩
 ·rw [z27 (by omega)] at h; cases h
theorem zja {c:Xe} {set:List Bool} {R:List Xh} {s k:Int} {d:Xb} {x:Xh} (hp:∀ p ∈ c.Sign_,mayP p=true) (hr:∀ t ∈ c.Regs_,mayT c.Sign_ t=true) (hR:z31 c set R) (h:zr c s k d=true) (hs:s=5∨s=7) (hd:d.Kind_ ≠ 2)
  (hset:(set[k.toNat]?).getD false=true) (hx:idx R k=some x):x.Nums_.length=1∨x.Nums_.length=(z20 c.Sign_ d).toNat:=by
 unfold zr at h
 have hs0:(s==0)=false:=by rcases hs with rfl | rfl <;> rfl
 rw [hs0] at h
 simp only [cond_false] at h
 cases hi:idx c.Regs_ k with
 | none=>rw [hi] at h; cases h
 | some t =>
  rw [hi] at h
  obtain ⟨_,_,e1⟩:=z3k hi
  obtain ⟨_,_,e2⟩:=z3k hx
  have hc:=hR.ok _ t x e1 e2 hset
  have ht:=hr t (z1s hi).1
  obtain ⟨_,_,w1⟩:=z4g hp ht
  have h:isS t s d=true:=h
  have hcase:t.Kind_=1∨t=d:=by
   have eq:eqTy t d=true→t=d:=fun h=>by
    unfold eqTy at h
    simp only [Bool.and_eq_true,beq_iff_eq] at h
    obtain ⟨tk,tp⟩:=t
    obtain ⟨dk,dp⟩:=d
    simp only at h
    rw [h.1,h.2.1]
   unfold isS at h
   rcases hs with rfl | rfl
   ·simp only [show ((5:Int)==1)=false from rfl,show ((5:Int)==2)=false from rfl,show ((5:Int)==3)=false from rfl,show ((5:Int)==4)=false from rfl,show ((5:Int)==5)=true from rfl,cond_false,cond_true,Bool.or_eq_true,beq_iff_eq] at h
    rcases h with h | h
    ·exact .inl h
    ·exact .inr (eq h)
   ·simp only [show ((7:Int)==1)=false from rfl,show ((7:Int)==2)=false from rfl,show ((7:Int)==3)=false from rfl,show ((7:Int)==4)=false from rfl,show ((7:Int)==5)=false from rfl,show ((7:Int)==7)=true from rfl,cond_false,cond_true,Bool.or_eq_true,Bool.and_eq_true,beq_iff_eq] at h
    rcases h with h | h
    ·exact .inr (eq h)
    ·exact .inl h.1
  rcases hcase with h1 | rfl
  ·rcases hc with ⟨h2,_⟩ | h2
   ·omega
   ·rw [w1 h1] at h2; exact .inl (by omega)
  ·rcases hc with ⟨h2,_⟩ | h2
   ·exact absurd h2 hd
   ·exact .inr (by omega)
theorem zgc {i:Xd} {set:List Bool} {k:Int} (h:rdOk set i=true) (hk:k ∈ z1b i):(set[k.toNat]?).getD false=true:=by
 unfold rdOk at h
 exact List.all_eq_true.1 h k hk
def regT (c:Xe) (k:Int):Xb:=(idx c.Regs_ k).getD ty0
def z3p (c:Xe) (i:Xd):Int :=
 bif i.Op_==16 then 62 else bif elem i.Op_ || (i.Op_==29 || (i.Op_==30 || i.Op_==32)) then z20 c.Sign_ (regT c i.D_) else
 bif i.Op_==31 || (i.Op_==33 || (i.Op_==19 || i.Op_==20)) then z20 c.Sign_ (regT c i.A_) else 1
def totR {α:Type} (w:α→Int):List α→Int
 | []=>0
 | x::l=>w x+totR w l
theorem zx0 {α:Type} {w:α→Int} (h:∀ x,0≤w x):∀ l:List α,0≤totR w l
 | []=>Int.le_refl _
 | x::l=>by have:=h x; have:=zx0 h l; show 0≤w x+totR w l; omega
theorem zrx (op:Int) (h0:3≤op) (h1:op≤15):∃ r,rowD op=some r∧r.d ≠ 0∧(r.a=5∨r.a=7)∧(2≤tk op→r.b=5)∧(3≤tk op→r.c=5):=by
 have h:op=3∨op=4∨op=5∨op=6∨op=7∨op=8∨op=9∨op=10∨op=11∨op=12∨op=13∨op=14∨op=15:=by omega
 rcases h with rfl | rfl | rfl | rfl | rfl | rfl | rfl | rfl | rfl | rfl | rfl | rfl | rfl <;> simp [rowD,tk]
theorem zxp {c:Xe} {i:Xd} {td:Xb} (hf:fits c i=true) (hD:idx c.Regs_ i.D_=some td) (h0:3≤i.Op_) (h1:i.Op_≤15) :
  (∃ s,(s=5∨s=7)∧zr c s i.A_ td=true)∧i.A_ ∈ z1b i∧(2≤tk i.Op_→zr c 5 i.B_ td=true∧i.B_ ∈ z1b i)∧(3≤tk i.Op_→zr c 5 i.C_ td=true∧i.C_ ∈ z1b i):=by
 obtain ⟨r,e,e1,e2,e3,e4⟩:=zrx i.Op_ h0 h1
 unfold fits at hf
 rw [e] at hf
 simp only [Bool.and_eq_true] at hf
 have et:tyD c r i=td:=by
  unfold tyD
  have:(r.d==0)=false:=by simpa using e1
  rw [this,hD]; rfl
 rw [et] at hf
 have ea:(r.a==0)=false:=by rcases e2 with h | h <;> rw [h] <;> rfl
 unfold z1b
 simp only [e,ea,cond_false]
 refine ⟨⟨r.a,e2,hf.2.1⟩,by simp,fun h=>?_,fun h=>?_⟩
 ·have:=e3 h
  rw [this] at hf ⊢
  exact ⟨hf.2.2.1,by simp⟩
 ·have:=e4 h
  rw [this] at hf ⊢
  exact ⟨hf.2.2.2.1,by simp⟩
theorem yb9 (op:Int):1≤tk op∧tk op≤3:=by
 unfold tk; split
 ·omega
 ·split <;> omega
theorem t191 {n:Nat} (hn:100000<n) {f:Xj} {i:Xd} {set:List Bool} (hp:∀ p ∈ f.C_.Sign_,mayP p=true) (hr:∀ t ∈ f.C_.Regs_,mayT f.C_.Sign_ t=true) (hR:z31 f.C_ set f.Regs_) (hf:fits f.C_ i=true) (hrd:rdOk set i=true)
  (h0:3≤i.Op_) (h1:i.Op_≤15) {td:Xb} (hD:idx f.C_.Regs_ i.D_=some td):Got ((k191 n).G (f,i)) (fun (y:List Int×Int)=>z2h f.C_ td y.1):=by
 show Ans (zlv n (f,i)) _
 unfold zlv
 obtain ⟨d0,d1,d2⟩:=z3k hD
 obtain ⟨iA,iB,iC,_⟩:=zgy hf (by omega)
 obtain ⟨xA,eA,eA'⟩:=z2v (l:=f.Regs_) (k:=i.A_) (by rw [hR.len]; exact iA)
 obtain ⟨xB,eB,_⟩:=z2v (l:=f.Regs_) (k:=i.B_) (by rw [hR.len]; exact iB)
 obtain ⟨xC,eC,_⟩:=z2v (l:=f.Regs_) (k:=i.C_) (by rw [hR.len]; exact iC)
 obtain ⟨⟨s,hs,rA⟩,mA,fB,fC⟩:=zxp hf hD h0 h1
 have hd:=hr td (z1s hD).1
 obtain ⟨w1,w2,_⟩:=z4g hp hd
 have bA:xA.Nums_.length≤4096:=by
  obtain ⟨tA,hA⟩:=z3s rA (by rcases hs with rfl | rfl <;> rfl)
  rcases hR.ok _ tA xA (z3k hA).2.2 eA' (zgc hrd mA) with ⟨_,h⟩ | h
  ·exact h
  ·have:=(z4g hp (hr tA (z1s hA).1)).2.1
   omega
 refine zg hD (z6 (fun h=>zg eA (z0 (.inl ⟨by simpa using h,bA⟩))) (fun hk=>?_))
 have hk:td.Kind_ ≠ 2:=by simpa using hk
 refine zg eA (zg eB (zg eC ?_))
 refine z8 (fun (y:Int)=>y=(tk i.Op_:Int)) (t176 h0 h1) (fun (y6:Int) h6=>?_)
 subst h6
 obtain ⟨t1,t2⟩:=yb9 i.Op_
 refine zk ⟨by omega,by simp only [List.length_cons,List.length_nil]; omega⟩ (zk (by simp only [List.length_cons,List.length_nil]; omega) ?_)
 have hargs:zj4 (z20 f.C_.Sign_ td).toNat ((([xA.Nums_,xB.Nums_,xC.Nums_]:List (List Int)).drop 0).take (tk i.Op_:Int).toNat):=by
  have a1:=zja hp hr hR rA hs hk (zgc hrd mA) eA
  have a2:2≤tk i.Op_→xB.Nums_.length=1∨xB.Nums_.length=(z20 f.C_.Sign_ td).toNat:=fun h=>zja hp hr hR (fB h).1 (.inl rfl) hk (zgc hrd (fB h).2) eB
  have a3:3≤tk i.Op_→xC.Nums_.length=1∨xC.Nums_.length=(z20 f.C_.Sign_ td).toNat:=fun h=>zja hp hr hR (fC h).1 (.inl rfl) hk (zgc hrd (fC h).2) eC
  intro l hl
  rw [Int.toNat_natCast] at hl
  have hc:tk i.Op_=1∨tk i.Op_=2∨tk i.Op_=3:=by omega
  rcases hc with e | e | e <;> rw [e] at hl a2 a3 <;> simp at hl
  ·rw [hl]; exact a1
  ·rcases hl with rfl | rfl
   ·exact a1
   ·exact a2 (by omega)
  ·rcases hl with rfl | rfl | rfl
   ·exact a1
   ·exact a2 (by omega)
   ·exact a3 (by omega)
 refine z8 (fun (y:Int×List Int)=>y.2.length=1∨y.2.length=(z20 f.C_.Sign_ td).toNat) (t192 hn h0 h1 (by simp; omega) (by omega) (by omega) hargs) (fun (y7:Int×List Int) h7=>?_)
 refine zi (fun (l:List Int)=>((l.length:Nat):Int)=z20 f.C_.Sign_ td) ?_ (fun (l:List Int) hl=>z0 (.inr hl))
 refine z6 (fun h=>?_) (fun h=>z0 ?_)
 ·have h:((y7.2.length:Nat):Int)=1:=by simpa using h
  refine z8 (fun (y:Int)=>y=z20 f.C_.Sign_ td) (t134 hd) (fun (y8:Int) h8=>?_)
  have hl:0<y7.2.length:=by omega
  refine zk ⟨by omega,by omega⟩ (zg (a:=y7.2[0]) (by rw [show ((0:Int)).toNat=0 from rfl]; exact List.getElem?_eq_getElem hl) ?_)
  rw [← h8] at w1 w2
  exact z8 (fun (y:Int×List Int)=>y.1=0∧((y.2.length:Nat):Int)=y8) (t135 hn (by omega) (by omega)) (fun (y10:Int×List Int) h10=>z0 (h10.2.trans h8))
 ·have h:¬ ((y7.2.length:Nat):Int)=1:=by simpa using h
  show ((y7.2.length:Nat):Int)=_
  rcases h7 with e | e <;> omega
theorem t175 {n:Nat} {l:List Xh} {k:Int} {x:Xh} (hl:l.length≤1000000) (hk:0≤k∧k<l.length):Got ((k175 n).G (l,k,x)) (fun (y:List Xh)=>y=l.set k.toNat x):=by
 show Ans (zlg n (l,k,x)) _
 unfold zlg
 obtain ⟨y,_,e⟩:=z2v hk
 exact zk (by show l.length * 32≤_; omega) (zk hk (zg e (z0 rfl)))
theorem t153 {n:Nat} {c:Xe} {i:Xd} (hr:∀ t ∈ c.Regs_,mayT c.Sign_ t=true) (hf:fits c i=true):Got ((k153 n).G (c,i)) (fun (y:Int)=>y=z3p c i):=by
 show Ans (zkt n (c,i)) _
 unfold zkt z3p regT
 have hs:∀ op:Int,(3≤op∧op≤15)∨op=29∨op=30∨op=32→i.Op_=op→sets i=true:=fun op h e=>by
  unfold sets
  rw [e]
  have h:op=3∨op=4∨op=5∨op=6∨op=7∨op=8∨op=9∨op=10∨op=11∨op=12∨op=13∨op=14∨op=15∨op=29∨op=30∨op=32:=by omega
  rcases h with rfl | rfl | rfl | rfl | rfl | rfl | rfl | rfl | rfl | rfl | rfl | rfl | rfl | rfl | rfl | rfl <;> simp [rowD]
 have ha:∀ op:Int,op=31∨op=33∨op=19∨op=20→i.Op_=op→zan i=true:=fun op h e=>by
  unfold zan
  rw [e]
  rcases h with rfl | rfl | rfl | rfl <;> simp [rowD]
 have el:elem i.Op_=true→3≤i.Op_∧i.Op_≤15:=fun h=>by
  unfold elem at h
  cases q:decide (i.Op_≥3) <;> rw [q] at h
  ·cases h
  ·exact ⟨of_decide_eq_true q,of_decide_eq_true h⟩
 refine zi (fun (s:Bool)=>s=(elem i.Op_ || (i.Op_==29 || (i.Op_==30 || i.Op_==32)))) ?_ (fun (s2:Bool) h2=>?_)
 ·refine zi (fun (s:Bool)=>s=elem i.Op_) ?_ (fun (s1:Bool) h1=>?_)
  ·exact z6 (fun h=>z0 (by show decide (i.Op_≤15)=_; unfold elem; rw [show decide (i.Op_≥3)=true from h]; rfl)) (fun h=>z0 (by show false=_; unfold elem; rw [show decide (i.Op_≥3)=false from h]; rfl))
  ·subst h1
   refine z6 (fun h=>z0 (by show true=_; rw [h]; rfl)) (fun h=>?_)
   rw [h]
   refine z6 (fun h=>z0 (by show true=_; rw [h]; rfl)) (fun h=>?_)
   rw [h]
   refine z6 (fun h=>z0 (by show true=_; rw [h]; rfl)) (fun h=>?_)
   rw [h]
   exact z0 rfl
 refine z6 (fun h=>?_) (fun hn=>z6 (fun h=>z0 (by show (62:Int)=_; rw [h]; rfl)) (fun h16=>?_))
 ·rw [h] at h2
  have hd:(3≤i.Op_∧i.Op_≤15)∨i.Op_=29∨i.Op_=30∨i.Op_=32:=by
   have h3:=h2.symm
   simp only [Bool.or_eq_true,beq_iff_eq] at h3
   exact h3.imp el id
  obtain ⟨t,ht,hm⟩:=z8z hf (hs _ hd rfl)
  have h16:(i.Op_==16)=false:=by simp; omega
  rw [h16,← h2,ht]
  exact zg rfl (z8 (fun (y:Int)=>y=z20 c.Sign_ t) (t134 (hr t hm)) (fun (y:Int) hy=>z0 hy))
 rw [h16,← h2,show s2=false from hn]
 refine zi (fun (s:Bool)=>s=(i.Op_==31 || (i.Op_==33 || (i.Op_==19 || i.Op_==20)))) ?_ (fun (s3:Bool) h3=>?_)
 ·refine z6 (fun h=>z0 (by show true=_; rw [h]; rfl)) (fun h=>?_)
  rw [h]
  refine z6 (fun h=>z0 (by show true=_; rw [h]; rfl)) (fun h=>?_)
  rw [h]
  refine z6 (fun h=>z0 (by show true=_; rw [h]; rfl)) (fun h=>?_)
  rw [h]
  exact z0 rfl
 refine z6 (fun h=>?_) (fun h=>z0 (by rw [← h3,show s3=false from h]; rfl))
 rw [h] at h3
 obtain ⟨t,ht,hm⟩:=zfo hf (ha _ (by have h4:=h3.symm; simpa using h4) rfl)
 rw [← h3,ht]
 exact zg rfl (z8 (fun (y:Int)=>y=z20 c.Sign_ t) (t134 (hr t hm)) (fun (y:Int) hy=>z0 hy))
theorem zmt {c:Xe} {i:Xd} (hp:∀ p ∈ c.Sign_,mayP p=true) (hr:∀ t ∈ c.Regs_,mayT c.Sign_ t=true):0≤z3p c i∧z3p c i≤4096:=by
 have hw:∀ k,0≤z20 c.Sign_ (regT c k)∧z20 c.Sign_ (regT c k)≤4096:=fun k=>by
  unfold regT
  cases h:idx c.Regs_ k with
  | none=>exact ⟨by show (0:Int)≤1; decide,by show (1:Int)≤4096; decide⟩
  | some t =>
   obtain ⟨a,b,_⟩:=z4g hp (hr t (z1s h).1)
   exact ⟨by show 0≤z20 c.Sign_ t; omega,b⟩
 unfold z3p
 cases i.Op_==16 with
 | true=>exact ⟨by show (0:Int)≤62; decide,by show (62:Int)≤4096; decide⟩
 | false =>
  cases elem i.Op_ || (i.Op_==29 || (i.Op_==30 || i.Op_==32)) with
  | true=>exact hw _
  | false =>
   cases i.Op_==31 || (i.Op_==33 || (i.Op_==19 || i.Op_==20)) with
   | true=>exact hw _
   | false=>exact ⟨by show (0:Int)≤1; decide,by show (1:Int)≤4096; decide⟩
structure z1x (c:Xe) (S:List Xh):Prop where
 len:S.length=c.Slots_.length
 ok:∀ (j:Nat) (z:Xc) (x:Xh),c.Slots_[j]? = some z→S[j]? = some x→z2h c z.Type_ x.Nums_
structure z8q (c:Xe) (O:List (List Int)):Prop where
 len:O.length=2 * c.Sign_.length
 ok:∀ (j:Nat) (p:Xa) (e:Nat) (l:List Int),c.Sign_[j]? = some p→e<2→O[2 * j+e]? = some l→((l.length:Nat):Int)=p.Len_
structure InOk (c:Xe) (G:List (List Int)):Prop where
 len:G.length=c.Sign_.length
 ok:∀ (j:Nat) (p:Xa) (v:List Int),c.Sign_[j]? = some p→G[j]? = some v→((v.length:Nat):Int)=bif p.Kind_==2 then 2 * p.Len_ else p.Len_
structure Fine (c:Xe):Prop where
 par:∀ p ∈ c.Sign_,mayP p=true
 reg:∀ t ∈ c.Regs_,mayT c.Sign_ t=true
 slo:∀ z ∈ c.Slots_,mayT c.Sign_ z.Type_=true
 nreg:c.Regs_.length≤20000
 nslo:c.Slots_.length≤5000
 npar:c.Sign_.length≤64
theorem z4e {c:Xe} {i:Xd} {r:z2n} (hf:fits c i=true) (e:rowD i.Op_=some r) :
  zr c r.d i.D_ ty0=true∧zr c r.a i.A_ (tyD c r i)=true∧zr c r.b i.B_ (tyD c r i)=true∧nOk c r.n i.N_ (tyF c r i)=true:=by
 unfold fits at hf
 rw [e] at hf
 simp only [Bool.and_eq_true] at hf
 exact ⟨hf.1,hf.2.1,hf.2.2.1,hf.2.2.2.2.2⟩
theorem zet {c:Xe} {s k:Int} {d:Xb} (h:zr c s k d=true) (hs:s=1∨s=2∨s=3∨s=8):∃ t,idx c.Regs_ k=some t∧(s=8∨t.Kind_=s):=by
 unfold zr at h
 have hs0:(s==0)=false:=by rcases hs with rfl | rfl | rfl | rfl <;> rfl
 rw [hs0] at h
 simp only [cond_false] at h
 cases hi:idx c.Regs_ k with
 | none=>rw [hi] at h; cases h
 | some t =>
  rw [hi] at h
  refine ⟨t,rfl,?_⟩
  have h:isS t s d=true:=h
  rcases hs with rfl | rfl | rfl | rfl
  ·exact .inr (by simpa [isS] using h)
  ·exact .inr (by simpa [isS] using h)
  ·exact .inr (by simpa [isS] using h)
  ·exact .inl rfl
section
variable {c:Xe}
theorem z84 (F:Fine c) {t:Xb} (ht:t ∈ c.Regs_) (h:t.Kind_=1) {l:List Int} (hl:l.length=1):z2h c t l:=by
 obtain ⟨_,_,w⟩:=z4g F.par (F.reg t ht)
 exact .inr (by rw [w h,hl]; rfl)
theorem zyk (F:Fine c) {set:List Bool} {R:List Xh} {k:Int} {t:Xb} (hR:z31 c set R) (ht:idx c.Regs_ k=some t) (hset:(set[k.toNat]?).getD false=true) :
  ∃ x,idx R k=some x∧z2h c t x.Nums_∧(t.Kind_ ≠ 2→1≤x.Nums_.length∧x.Nums_.length≤4096):=by
 obtain ⟨a,b,e⟩:=z3k ht
 obtain ⟨x,e1,e2⟩:=z2v (l:=R) (k:=k) ⟨a,by rw [hR.len]; exact b⟩
 have hc:=hR.ok _ t x e e2 hset
 obtain ⟨w1,w2,_⟩:=z4g F.par (F.reg t (z1s ht).1)
 refine ⟨x,e1,hc,fun h=>?_⟩
 rcases hc with ⟨hc,_⟩ | hc
 ·exact absurd hc h
 ·exact ⟨by omega,by omega⟩
theorem zmd {set:List Bool} {R:List Xh} {k:Int} {t:Xb} {x:Xh} (hR:z31 c set R) (ht:idx c.Regs_ k=some t) (hx:z2h c t x.Nums_):z31 c (set.set k.toNat true) (R.set k.toNat x):=by
 obtain ⟨a,b,e⟩:=z3k ht
 refine ⟨by rw [List.length_set]; exact hR.len,fun j t' x' h1 h2 h3=>?_⟩
 by_cases hj:j=k.toNat
 ·subst hj
  rw [e] at h1; cases h1
  rw [List.getElem?_set_self (by rw [hR.len]; omega)] at h2
  cases h2; exact hx
 ·rw [List.getElem?_set_ne (fun h=>hj h.symm)] at h2 h3
  exact hR.ok j t' x' h1 h2 h3
theorem zpu (F:Fine c) {n:Nat} (hn:100000<n) {i:Xd} {G:List (List Int)} (hG:InOk c G) {t:Xb} (ht:idx c.Regs_ i.D_=some t) (hk:t.Kind_=3) (hN:nOk c 2 i.N_ t=true) :
  ∃ p v,idx c.Sign_ t.Param_=some p∧idx G t.Param_=some v∧Got ((k174 n).G (p,v,i.N_)) (fun (y:List Int)=>z2h c t y):=by
 have hm:=F.reg t (z1s ht).1
 unfold mayT at hm
 rw [hk] at hm
 have hm:(decide (t.Param_≥0) && decide (t.Param_<(c.Sign_.length:Int)))=true:=hm
 simp only [Bool.and_eq_true,decide_eq_true_eq] at hm
 obtain ⟨p,e1,e2⟩:=z2v (l:=c.Sign_) (k:=t.Param_) ⟨by omega,by omega⟩
 obtain ⟨v,e3,e4⟩:=z2v (l:=G) (k:=t.Param_) ⟨by omega,by rw [hG.len]; omega⟩
 have hp:=F.par p (z1s e1).1
 unfold mayP at hp
 simp only [Bool.and_eq_true,decide_eq_true_eq] at hp
 refine ⟨p,v,e1,e3,z8c (t174 hn hp.2.2.1 hp.2.2.2 (hG.ok _ p v e2 e4) ?_) fun (y:List Int) hy=>.inr ?_⟩
 ·unfold nOk at hN
  simp only [show ((2:Int)==1)=false from rfl,show ((2:Int)==2)=true from rfl,cond_false,cond_true,Bool.or_eq_true,Bool.and_eq_true,beq_iff_eq,e1] at hN
  rcases hN with h | ⟨h,h2⟩
  ·exact .inl h
  ·exact .inr ⟨h,by simpa using h2⟩
 ·unfold z20
  have:(t.Kind_ != 3)=false:=by rw [hk]; rfl
  rw [this,e1]; exact hy
end
theorem zwq {c:Xe} {N:Int} {t:Xb} (h:nOk c 3 N t=true):∃ z,idx c.Slots_ N=some z∧z.Type_=t:=by
 unfold nOk at h
 simp only [show ((3:Int)==1)=false from rfl,show ((3:Int)==2)=false from rfl,show ((3:Int)==3)=true from rfl,cond_false,cond_true] at h
 cases hi:idx c.Slots_ N with
 | none=>rw [hi] at h; cases h
 | some z =>
  rw [hi] at h
  have h:eqTy z.Type_ t=true:=h
  unfold eqTy at h
  simp only [Bool.and_eq_true,beq_iff_eq] at h
  refine ⟨z,rfl,?_⟩
  generalize z.Type_=u at h
  obtain ⟨uk,up⟩:=u
  obtain ⟨tk,tp⟩:=t
  simp only at h
  rw [h.1,h.2.1]
abbrev Ten:Type:=(List Xa)×(List Xb)×(List Xc)×(List Xd)×(List Xh)×(List Xh)×(List (List Int))×(List (List Int))×(List (List Int))×Int
def zey (c:Xe) (set:List Bool) (f:Xj) (y:Ten):Prop :=
 ∃ R S O,y=(f.C_.Sign_,f.C_.Regs_,f.C_.Slots_,f.C_.List_,R,S,O,f.Grads_,f.Params_,f.Cost_)∧z31 c set R∧z1x c S∧z8q c O∧∀ s,z31 c s f.Regs_→z31 c s R
structure FrOk (c:Xe) (set:List Bool) (f:Xj):Prop where
 C:f.C_=c
 regs:z31 c set f.Regs_
 slots:z1x c f.Slots_
 out:z8q c f.Out_
 grads:InOk c f.Grads_
 params:InOk c f.Params_
theorem z31.less {c:Xe} {s t:List Bool} {R:List Xh} (h:z31 c s R) (hs:∀ j:Nat,(t[j]?).getD false=true→(s[j]?).getD false=true):z31 c t R:=⟨h.len,fun j a x h1 h2 h3=>h.ok j a x h1 h2 (hs j h3)⟩
theorem y8v (op:Int) (h0:21≤op) (h1:op≤28):∃ r,rowD op=some r∧r.d=2:=by
 have h:op=21∨op=22∨op=23∨op=24∨op=25∨op=26∨op=27∨op=28:=by omega
 rcases h with rfl | rfl | rfl | rfl | rfl | rfl | rfl | rfl <;> simp [rowD]
theorem zym {i:Xd} (h:sets i=true):(1≤i.Op_∧i.Op_≤30)∨i.Op_=32:=by
 obtain ⟨op,d,a,b,cc,N,bits⟩:=i
 rcases z4a op with (rfl | rfl | rfl | rfl | rfl | rfl | rfl | rfl | rfl | rfl | rfl | rfl | rfl | rfl | rfl | rfl | rfl | rfl | rfl | rfl | rfl | rfl | rfl | rfl | rfl | rfl | rfl | rfl | rfl | rfl | rfl | rfl | rfl | rfl | rfl | rfl | rfl) | hn
 iterate 37 (· revert h; simp [sets,rowD])
 exfalso
 revert h
 simp [sets,rowD,hn]
theorem y2e {n:Nat} (hn:100000<n) {c:Xe} (F:Fine c) {set:List Bool} {f:Xj} {i:Xd} (h:FrOk c set f) (hf:fits c i=true) (hrd:rdOk set i=true) :
  Got ((k154 n).G (f,i)) (fun (y:Ten)=>zey c (bif sets i then set.set i.D_.toNat true else set) f y):=by
 obtain ⟨hC,hR,hS,hO,hG,hP⟩:=h
 subst hC
 show Ans (z6z n (f,i)) _
 unfold z6z
 have rest:sets i=false→zey f.C_ (bif sets i then set.set i.D_.toNat true else set) f (f.C_.Sign_,f.C_.Regs_,f.C_.Slots_,f.C_.List_,f.Regs_,f.Slots_,f.Out_,f.Grads_,f.Params_,f.Cost_):=fun e=>by
  rw [e]; exact ⟨_,_,_,rfl,hR,hS,hO,fun _ h=>h⟩
 have row:∀ {op:Int} {r:z2n},(i.Op_==op)=true→rowD op=some r→rowD i.Op_=some r:=fun e h=>by rw [show i.Op_=_ from by simpa using e]; exact h
 have setsOf:∀ {r:z2n},rowD i.Op_=some r→sets i = !(r.d==0):=fun e=>by unfold sets; rw [e]
 have dOf:∀ {r:z2n},rowD i.Op_=some r→(r.d=1∨r.d=2∨r.d=3∨r.d=8)→∃ td,idx f.C_.Regs_ i.D_=some td∧(r.d=8∨td.Kind_=r.d):=fun e h=>zet (z4e hf e).1 h
 have aOf:∀ {r:z2n},rowD i.Op_=some r→(r.a=1∨r.a=2∨r.a=3∨r.a=8)→∃ t,idx f.C_.Regs_ i.A_=some t∧(r.a=8∨t.Kind_=r.a)∧∃ x,idx f.Regs_ i.A_=some x∧z2h f.C_ t x.Nums_∧(t.Kind_ ≠ 2→1≤x.Nums_.length∧x.Nums_.length≤4096):=fun {r} e h=>by
  obtain ⟨t,h1,h2⟩:=zet (z4e hf e).2.1 h
  have hm:i.A_ ∈ z1b i:=by
   unfold z1b
   simp only [e]
   have:(r.a==0)=false:=by rcases h with h | h | h | h <;> rw [h] <;> rfl
   rw [this]; simp
  obtain ⟨x,h3,h4,h5⟩:=zyk F hR h1 (zgc hrd hm)
  exact ⟨t,h1,h2,x,h3,h4,h5⟩
 have anyOf:∀ {k:Int},0≤k∧k<f.C_.Regs_.length→∃ x,idx f.Regs_ k=some x:=fun {k} h=>by
  obtain ⟨x,e,_⟩:=z2v (l:=f.Regs_) (k:=k) (by rw [hR.len]; exact h)
  exact ⟨x,e⟩
 refine zi (fun (s:List Int×Int)=>sets i=true∧∃ td,idx f.C_.Regs_ i.D_=some td∧z2h f.C_ td s.1) ?_ (fun (s3:List Int×Int) h3=>?_)
 ·refine z6 (fun e=>?_) (fun n1=>?_)
  ·
   have e:=row e (show rowD 1=some ⟨1,0,0,0,0⟩ by kernel_rfl)
   obtain ⟨td,h1,h2⟩:=dOf e (.inl rfl)
   exact z0 ⟨setsOf e,td,h1,z84 F (z1s h1).1 (h2.resolve_left (by decide)) rfl⟩
  refine z6 (fun e=>?_) (fun n2=>?_)
  ·have e:=row e (show rowD 2=some ⟨2,0,0,0,1⟩ by kernel_rfl)
   obtain ⟨td,h1,h2⟩:=dOf e (.inr (.inl rfl))
   exact z0 ⟨setsOf e,td,h1,.inl ⟨h2.resolve_left (by decide),by show ([]:List Int).length≤4096; decide⟩⟩
  refine zi (fun (s:Bool)=>s=decide (3≤i.Op_∧i.Op_≤15)) ?_ (fun (s1:Bool) h1=>?_)
  ·refine z6 (fun h=>z0 ?_) (fun h=>z0 ?_)
   ·have h:(3:Int)≤i.Op_:=by simpa using h
    show decide (i.Op_≤15)=_
    simp [h]
   ·have h:¬ (3:Int)≤i.Op_:=by simpa using h
    show false=_
    simp [h]
  refine z6 (fun e=>?_) (fun m0=>?_)
  ·obtain ⟨b1,b2⟩:3≤i.Op_∧i.Op_≤15:=by rw [h1] at e; simpa using e
   obtain ⟨r,e1,e2,_⟩:=zrx i.Op_ b1 b2
   have hse:sets i=true:=by rw [setsOf e1]; simpa using e2
   obtain ⟨td,ht,_⟩:=z8z hf hse
   exact z8 (fun (y:List Int×Int)=>z2h f.C_ td y.1) (t191 hn F.par F.reg hR hf hrd b1 b2 ht) (fun (y1:List Int×Int) hy=>z0 ⟨hse,td,ht,hy⟩)
  refine z6 (fun e=>?_) (fun m1=>?_)
  ·have e:=row e (show rowD 16=some ⟨1,1,2,0,0⟩ by kernel_rfl)
   obtain ⟨td,h1,h2⟩:=dOf e (.inl rfl)
   obtain ⟨tA,a1,a2,x,a3,a4,a5⟩:=aOf e (.inl rfl)
   have a5:=a5 (by rw [a2.resolve_left (by decide)]; decide)
   obtain ⟨v,v1,_⟩:=z2v (l:=x.Nums_) (k:=0) ⟨by decide,by omega⟩
   obtain ⟨d0,d1,_⟩:=z3k h1
   obtain ⟨xB,eB⟩:=anyOf (zgy hf (by omega)).2.1
   exact zg a3 (zg v1 (zg eB (z8 (fun _=>True) (t156 (by omega) _) (fun (y5:Int) _=>z0 ⟨setsOf e,td,h1,z84 F (z1s h1).1 (h2.resolve_left (by decide)) rfl⟩))))
  refine z6 (fun e=>?_) (fun m2=>?_)
  ·have e:=row e (show rowD 17=some ⟨1,2,0,0,0⟩ by kernel_rfl)
   obtain ⟨td,h1,h2⟩:=dOf e (.inl rfl)
   obtain ⟨tA,a1,a2,x,a3,a4,a5⟩:=aOf e (.inr (.inl rfl))
   exact zg a3 (z8 (fun _=>True) (t165 (by omega) _) (fun (y5:Int) _=>z0 ⟨setsOf e,td,h1,z84 F (z1s h1).1 (h2.resolve_left (by decide)) rfl⟩))
  refine z6 (fun e=>?_) (fun m3=>?_)
  ·have e:=row e (show rowD 18=some ⟨2,1,0,0,0⟩ by kernel_rfl)
   obtain ⟨td,h1,h2⟩:=dOf e (.inr (.inl rfl))
   obtain ⟨tA,a1,a2,x,a3,a4,a5⟩:=aOf e (.inl rfl)
   have a5:=a5 (by rw [a2.resolve_left (by decide)]; decide)
   obtain ⟨v,v1,_⟩:=z2v (l:=x.Nums_) (k:=0) ⟨by decide,by omega⟩
   exact zg a3 (zg v1 (z6 (fun _=>z8 (fun _=>True) (t166 (by omega) _) (fun _ _=>z0 ⟨setsOf e,td,h1,.inl ⟨h2.resolve_left (by decide),by show ([]:List Int).length≤4096; decide⟩⟩)) (fun _=>z8 (fun _=>True) (t166 (by omega) _) (fun _ _=>z0 ⟨setsOf e,td,h1,.inl ⟨h2.resolve_left (by decide),by show ([]:List Int).length≤4096; decide⟩⟩))))
  refine z6 (fun e=>?_) (fun m4=>?_)
  ·have e:=row e (show rowD 19=some ⟨1,3,0,0,0⟩ by kernel_rfl)
   obtain ⟨td,h1,h2⟩:=dOf e (.inl rfl)
   obtain ⟨tA,a1,a2,x,a3,a4,a5⟩:=aOf e (.inr (.inr (.inl rfl)))
   have a5:=a5 (by rw [a2.resolve_left (by decide)]; decide)
   exact zg a3 (z8 (fun _=>True) (t167 (by omega) (by omega) (by omega)) (fun (y5:Int) _=>z0 ⟨setsOf e,td,h1,z84 F (z1s h1).1 (h2.resolve_left (by decide)) rfl⟩))
  refine z6 (fun e=>?_) (fun m5=>?_)
  ·have e:=row e (show rowD 20=some ⟨1,3,0,0,0⟩ by kernel_rfl)
   obtain ⟨td,h1,h2⟩:=dOf e (.inl rfl)
   obtain ⟨tA,a1,a2,x,a3,a4,a5⟩:=aOf e (.inr (.inr (.inl rfl)))
   have a5:=a5 (by rw [a2.resolve_left (by decide)]; decide)
   exact zg a3 (z8 (fun _=>True) (t170 (by omega) (by omega) (by omega)) (fun (y5:Int) _=>z0 ⟨setsOf e,td,h1,z84 F (z1s h1).1 (h2.resolve_left (by decide)) rfl⟩))
  refine zi (fun (s:Bool)=>s=decide (21≤i.Op_∧i.Op_≤28)) ?_ (fun (s2:Bool) h2=>?_)
  ·refine z6 (fun h=>z0 ?_) (fun h=>z0 ?_)
   ·have h:(21:Int)≤i.Op_:=by simpa using h
    show decide (i.Op_≤28)=_
    simp [h]
   ·have h:¬ (21:Int)≤i.Op_:=by simpa using h
    show false=_
    simp [h]
  refine z6 (fun e=>?_) (fun m6=>?_)
  ·obtain ⟨b1,b2⟩:21≤i.Op_∧i.Op_≤28:=by rw [h2] at e; simpa using e
   obtain ⟨r,e1,e2⟩:=y8v i.Op_ b1 b2
   obtain ⟨td,h1,h2⟩:=dOf e1 (by rw [e2]; exact .inr (.inl rfl))
   obtain ⟨d0,d1,_⟩:=z3k h1
   obtain ⟨iA,iB,iC,_⟩:=zgy hf (by omega)
   obtain ⟨xA,eA⟩:=anyOf iA
   obtain ⟨xB,eB⟩:=anyOf iB
   obtain ⟨xC,eC⟩:=anyOf iC
   rw [e2] at h2
   exact zg eA (zg eB (zg eC (z8 (fun _=>True) (t173 (by omega) _) (fun _ _=>z0 ⟨by rw [setsOf e1,e2]; rfl,td,h1,.inl ⟨h2.resolve_left (by decide),by show ([]:List Int).length≤4096; decide⟩⟩))))
  refine z6 (fun e=>?_) (fun m7=>?_)
  ·have e:=row e (show rowD 29=some ⟨3,0,0,0,2⟩ by kernel_rfl)
   obtain ⟨td,h1,h2⟩:=dOf e (.inr (.inr (.inl rfl)))
   have hN:nOk f.C_ 2 i.N_ td=true:=by
    have:=(z4e hf e).2.2.2
    unfold tyF at this
    rw [h1] at this; exact this
   obtain ⟨p,v,p1,p2,p3⟩:=zpu F hn hG h1 (h2.resolve_left (by decide)) hN
   exact zg h1 (zg p1 (zg p2 (z8 (fun (y:List Int)=>z2h f.C_ td y) p3 (fun (y:List Int) hy=>z0 ⟨setsOf e,td,h1,hy⟩))))
  refine z6 (fun e=>?_) (fun m8=>?_)
  ·have e:=row e (show rowD 30=some ⟨3,0,0,0,2⟩ by kernel_rfl)
   obtain ⟨td,h1,h2⟩:=dOf e (.inr (.inr (.inl rfl)))
   have hN:nOk f.C_ 2 i.N_ td=true:=by
    have:=(z4e hf e).2.2.2
    unfold tyF at this
    rw [h1] at this; exact this
   obtain ⟨p,v,p1,p2,p3⟩:=zpu F hn hP h1 (h2.resolve_left (by decide)) hN
   exact zg h1 (zg p1 (zg p2 (z8 (fun (y:List Int)=>z2h f.C_ td y) p3 (fun (y:List Int) hy=>z0 ⟨setsOf e,td,h1,hy⟩))))
  refine z6 (fun e=>?_) (fun m9=>?_)
  ·have e:=row e (show rowD 32=some ⟨8,0,0,0,3⟩ by kernel_rfl)
   obtain ⟨td,h1,h2⟩:=dOf e (.inr (.inr (.inr rfl)))
   have hN:nOk f.C_ 3 i.N_ td=true:=by
    have:=(z4e hf e).2.2.2
    unfold tyF at this
    rw [h1] at this; exact this
   obtain ⟨z,z1,z2⟩:=zwq hN
   obtain ⟨z3,z4,z5⟩:=z3k z1
   obtain ⟨x,x1,x2⟩:=z2v (l:=f.Slots_) (k:=i.N_) ⟨z3,by rw [hS.len]; exact z4⟩
   exact zg x1 (z0 ⟨setsOf e,td,h1,z2 ▸ hS.ok _ z x z5 x2⟩)
  refine z6 (fun e=>?_) (fun m10=>?_)
  ·have e:=row e (show rowD 33=some ⟨0,8,0,0,3⟩ by kernel_rfl)
   obtain ⟨tA,a1,a2,x,a3,a4,a5⟩:=aOf e (.inr (.inr (.inr rfl)))
   have hN:nOk f.C_ 3 i.N_ tA=true:=by
    have:=(z4e hf e).2.2.2
    unfold tyF at this
    rw [a1] at this; exact this
   obtain ⟨z,z1,z2⟩:=zwq hN
   obtain ⟨z3,z4,z5⟩:=z3k z1
   have hse:sets i=false:=setsOf e
   refine zg a3 (z8 (fun (y:List Xh)=>y=f.Slots_.set i.N_.toNat x) (t175 (by rw [hS.len]; have:=F.nslo; omega) (by rw [hS.len]; exact ⟨z3,z4⟩)) (fun (y30:List Xh) hy=>z0 ?_))
   show zey f.C_ (bif sets i then set.set i.D_.toNat true else set) f (f.C_.Sign_,f.C_.Regs_,f.C_.Slots_,f.C_.List_,f.Regs_,y30,f.Out_,f.Grads_,f.Params_,f.Cost_)
   rw [hse,hy]
   refine ⟨_,_,_,rfl,hR,⟨by rw [List.length_set]; exact hS.len,fun j z' x' q1 q2=>?_⟩,hO,fun _ h=>h⟩
   by_cases hj:j=i.N_.toNat
   ·subst hj
    rw [z5] at q1; cases q1
    rw [List.getElem?_set_self (by rw [hS.len]; omega)] at q2
    cases q2; rw [z2]; exact a4
   ·rw [List.getElem?_set_ne (fun h=>hj h.symm)] at q2
    exact hS.ok j z' x' q1 q2
  refine z6 (fun e=>?_) (fun n31=>?_)
  ·have e:=row e (show rowD 31=some ⟨0,3,0,0,2⟩ by kernel_rfl)
   obtain ⟨tA,a1,a2,x,a3,a4,a5⟩:=aOf e (.inr (.inr (.inl rfl)))
   have hk:tA.Kind_=3:=a2.resolve_left (by decide)
   have hN:nOk f.C_ 2 i.N_ tA=true:=by
    have:=(z4e hf e).2.2.2
    unfold tyF at this
    rw [a1] at this; exact this
   have hse:sets i=false:=setsOf e
   have hm:=F.reg tA (z1s a1).1
   unfold mayT at hm
   rw [hk] at hm
   have hm:(decide (tA.Param_≥0) && decide (tA.Param_<(f.C_.Sign_.length:Int)))=true:=hm
   simp only [Bool.and_eq_true,decide_eq_true_eq] at hm
   obtain ⟨p,p1,p2⟩:=z2v (l:=f.C_.Sign_) (k:=tA.Param_) ⟨by omega,by omega⟩
   have hNv:i.N_=0∨i.N_=1:=by
    unfold nOk at hN
    simp only [show ((2:Int)==1)=false from rfl,show ((2:Int)==2)=true from rfl,cond_false,cond_true,Bool.or_eq_true,Bool.and_eq_true,beq_iff_eq] at hN
    rcases hN with h | ⟨h,_⟩
    ·exact .inl h
    ·exact .inr h
   have hnp:=F.npar
   have ew:IntKind.i64.wrap (IntKind.i64.wrap (2 * tA.Param_)+i.N_)=2 * tA.Param_+i.N_:=by
    rw [z1h (x:=2 * tA.Param_) (by omega) (by omega),z1h (by omega) (by omega)]
   have hin:0≤2 * tA.Param_+i.N_∧2 * tA.Param_+i.N_<f.Out_.length:=by rw [hO.len]; omega
   obtain ⟨l,_,l2⟩:=z2v hin
   refine zk (by show f.Out_.length * 24≤_; rw [hO.len]; omega) (zg a1 (zg a3 (zk (by show 0≤IntKind.i64.wrap (IntKind.i64.wrap (2 * tA.Param_)+i.N_)∧_; rw [ew]; exact hin) (zg (a:=l) (by show f.Out_[(IntKind.i64.wrap (IntKind.i64.wrap (2 * tA.Param_)+i.N_)).toNat]? = _; rw [ew]; exact l2) (z0 ?_)))))
   show zey f.C_ (bif sets i then set.set i.D_.toNat true else set) f (f.C_.Sign_,f.C_.Regs_,f.C_.Slots_,f.C_.List_,f.Regs_,f.Slots_,f.Out_.set (IntKind.i64.wrap (IntKind.i64.wrap (2 * tA.Param_)+i.N_)).toNat x.Nums_,f.Grads_,f.Params_,f.Cost_)
   rw [hse,ew]
   refine ⟨_,_,_,rfl,hR,hS,⟨by rw [List.length_set]; exact hO.len,fun j p' e' l' q1 q2 q3=>?_⟩,fun _ h=>h⟩
   by_cases hj:2 * j+e'=(2 * tA.Param_+i.N_).toNat
   ·rw [hj,List.getElem?_set_self (by omega)] at q3
    cases q3
    have:j=tA.Param_.toNat:=by omega
    rw [this,p2] at q1; cases q1
    rcases a4 with ⟨a4,_⟩ | a4
    ·omega
    ·rw [a4]
     unfold z20
     have:(tA.Kind_ != 3)=false:=by rw [hk]; rfl
     rw [this,p1]; rfl
   ·rw [List.getElem?_set_ne (fun h=>hj h.symm)] at q3
    exact hO.ok j p' e' l' q1 q2 q3
  ·refine z0 (rest ?_)
   cases hse:sets i with
   | false=>rfl
   | true =>
    exfalso
    have:=zym hse
    rw [h1] at m0
    rw [h2] at m6
    simp only [beq_eq_false_iff_ne,ne_eq,decide_eq_false_iff_not] at n1 n2 m0 m1 m2 m3 m4 m5 m6 m7 m8 m9
    omega
 ·obtain ⟨hse,td,h1,h2⟩:=h3
  obtain ⟨d0,d1,_⟩:=z3k h1
  refine z8 (fun (y:List Xh)=>y=f.Regs_.set i.D_.toNat ⟨s3.1,s3.2⟩) (t175 (by rw [hR.len]; have:=F.nreg; omega) (by rw [hR.len]; exact ⟨d0,d1⟩)) (fun (y:List Xh) hy=>z0 ?_)
  rw [hse,hy]
  exact ⟨_,_,_,rfl,zmd hR h1 h2,hS,hO,fun s hs=>(zmd hs h1 h2).less fun j hj=>by
   by_cases e:j=i.D_.toNat
   ·subst e
    by_cases q:i.D_.toNat<s.length
    ·rw [List.getElem?_set_self q]; rfl
    ·rw [List.getElem?_eq_none (by omega)] at hj; cases hj
   ·rw [List.getElem?_set_ne (fun h=>e h.symm)]; exact hj⟩
section
variable {P:Program} {T:TT} {pro:List Nat} {R R' S A V:Type} {g:R→R'}
def Sim (t:Pt P T pro R) (t':Pt P T pro R') (g:R→R'):Prop:=t'.run=t.run.map g
theorem zyo {x:R} {x':R'} (h:x'=g x):Sim (.leaf x:Pt P T pro R) (.leaf x') g:=by
 show some x'=some (g x)
 rw [h]
theorem y3h {b:Bool} {x y:Pt P T pro R} {x' y':Pt P T pro R'} (h1:Sim x x' g) (h2:Sim y y' g):Sim (.ite b x y) (.ite b x' y') g:=by
 cases b with
 | true=>exact h1
 | false=>exact h2
theorem zyp {p:Prop} [Decidable p] {K:Pt P T pro R} {K':Pt P T pro R'} (h:Sim K K' g):Sim (.need p K) (.need p K') g:=by
 show need p K'.run=(need p K.run).map g
 unfold need
 split
 ·exact h
 ·rfl
theorem y3g {x:Option A} {K:A→Pt P T pro R} {K':A→Pt P T pro R'} (h:∀ a,Sim (K a) (K' a) g):Sim (.bnd x K) (.bnd x K') g:=by
 cases x with
 | none=>rfl
 | some a=>exact h a
theorem zyn {enc enc':S→EH T} {B:Pt P T pro (S⊕R)} {B':Pt P T pro (S⊕R')} {K:S→Pt P T pro R} {K':S→Pt P T pro R'} (h:Sim B B' (Sum.map id g)) (hk:∀ s,Sim (K s) (K' s) g):Sim (.join enc B K) (.join enc' B' K') g:=by
 show (B'.run.bind (zm fun s=>(K' s).run))=(B.run.bind (zm fun s=>(K s).run)).map g
 unfold Sim at h
 rw [h]
 cases B.run with
 | none=>rfl
 | some z =>
  cases z with
  | inl s=>exact hk s
  | inr r=>rfl
theorem zmm {C:Con P T} {x x':C.X} {K:C.Y→Pt P T pro R} {K':C.Y→Pt P T pro R'} (e:C.G x'=C.G x) (h:∀ y,Sim (K y) (K' y) g):Sim (.call C x K) (.call C x' K') g:=by
 show ((C.G x').bind fun y=>(K' y).run)=((C.G x).bind fun y=>(K y).run).map g
 rw [e]
 cases C.G x with
 | none=>rfl
 | some y=>exact h y
end
noncomputable def dn (n:Nat) (c:Xe) (G P:List (List Int)) (i:Xd) (R S:List Xh) (O:List (List Int)):Option Ten :=
 (k154 n).G ((⟨⟨c.Sign_,c.Regs_,c.Slots_,[]⟩,R,S,O,G,P,0⟩:Xj),i)
theorem zz3 (n:Nat) (A:List Xa) (B:List Xb) (Z:List Xc) (L:List Xd) (c:Xe) (hA:c.Sign_=A) (hB:c.Regs_=B) (hZ:c.Slots_=Z) (G P:List (List Int)) (i:Xd) (R S:List Xh) (O:List (List Int)) (w:Int) :
  (k154 n).G ((⟨⟨A,B,Z,L⟩,R,S,O,G,P,w⟩:Xj),i)=(dn n c G P i R S O).map fun (y:Ten)=>(y.1,y.2.1,y.2.2.1,L,y.2.2.2.2.1,y.2.2.2.2.2.1,y.2.2.2.2.2.2.1,y.2.2.2.2.2.2.2.1,y.2.2.2.2.2.2.2.2.1,w):=by
 subst hA hB hZ
 show Sim (z6z n ((⟨⟨c.Sign_,c.Regs_,c.Slots_,[]⟩,R,S,O,G,P,0⟩:Xj),i)) (z6z n ((⟨⟨c.Sign_,c.Regs_,c.Slots_,L⟩,R,S,O,G,P,w⟩:Xj),i)) _
 unfold z6z
 have e191:(k191 n).G ((⟨⟨c.Sign_,c.Regs_,c.Slots_,L⟩,R,S,O,G,P,w⟩:Xj),i)=(k191 n).G ((⟨⟨c.Sign_,c.Regs_,c.Slots_,[]⟩,R,S,O,G,P,0⟩:Xj),i):=by kernel_rfl
 repeat' first
  | exact zyo rfl
  | refine y3h ?_ ?_
  | refine zmm e191 (fun _=>?_)
  | refine zmm rfl (fun _=>?_)
  | refine y3g (fun _=>?_)
  | refine zyp ?_
  | refine zyn ?_ (fun _=>?_)
theorem zgw (n:Nat) (c:Xe) (G P:List (List Int)) (i:Xd) (R S:List Xh) (O:List (List Int)) (h:i.Op_=34∨i.Op_=35∨i.Op_=36∨i.Op_=37) :
  dn n c G P i R S O=some (c.Sign_,c.Regs_,c.Slots_,[],R,S,O,G,P,0):=by
 have key:∀ op d a b cc N bits:Int,op=34∨op=35∨op=36∨op=37→dn n c G P ⟨op,d,a,b,cc,N,bits⟩ R S O=some (c.Sign_,c.Regs_,c.Slots_,[],R,S,O,G,P,0):=by
  intro op d a b cc N bits h
  have e34:dn n c G P ⟨34,d,a,b,cc,N,bits⟩ R S O=some (c.Sign_,c.Regs_,c.Slots_,[],R,S,O,G,P,0):=by kernel_rfl
  have e35:dn n c G P ⟨35,d,a,b,cc,N,bits⟩ R S O=some (c.Sign_,c.Regs_,c.Slots_,[],R,S,O,G,P,0):=by kernel_rfl
  have e36:dn n c G P ⟨36,d,a,b,cc,N,bits⟩ R S O=some (c.Sign_,c.Regs_,c.Slots_,[],R,S,O,G,P,0):=by kernel_rfl
  have e37:dn n c G P ⟨37,d,a,b,cc,N,bits⟩ R S O=some (c.Sign_,c.Regs_,c.Slots_,[],R,S,O,G,P,0):=by kernel_rfl
  rcases h with rfl | rfl | rfl | rfl
  ·exact e34
  ·exact e35
  ·exact e36
  ·exact e37
 exact key _ _ _ _ _ _ _ h
abbrev MSt:Type:=Int×List Xh×List Xh×List (List Int)
noncomputable def z3a (n:Nat) (c:Xe) (G P:List (List Int)) (i:Xd) (m:MSt):Option MSt :=
 bif decide (m.1 > 0) then some (bif i.Op_==34 then (m.1+1,m.2) else bif i.Op_==35 then (m.1 - 1,m.2) else m)
 else bif i.Op_==34 then (idx m.2.1 i.A_).map fun x=>bif x.Int_==0 then (1,m.2) else m
 else (dn n c G P i m.2.1 m.2.2.1 m.2.2.2).map fun (y:Ten)=>(m.1,y.2.2.2.2.1,y.2.2.2.2.2.1,y.2.2.2.2.2.2.1)
noncomputable def runM (n:Nat) (c:Xe) (G P:List (List Int)):List Xd→MSt→Option MSt
 | [],m=>some m
 | i::l,m=>(z3a n c G P i m).bind (runM n c G P l)
section
variable {n:Nat} {c:Xe} {G P:List (List Int)}
theorem zww {i:Xd} (m:MSt) (h:mark i=true):z3a n c G P i m=some m:=by
 unfold mark at h
 simp only [Bool.or_eq_true,beq_iff_eq] at h
 have e34:(i.Op_==34)=false:=by rcases h with h | h <;> rw [h] <;> decide
 have e35:(i.Op_==35)=false:=by rcases h with h | h <;> rw [h] <;> decide
 unfold z3a
 rw [e34,e35,zgw n c G P i _ _ _ (by rcases h with h | h; exact .inr (.inr (.inl h)); exact .inr (.inr (.inr h)))]
 cases decide (m.1 > 0) <;> rfl
theorem z9f:∀ (l:List Xd) (m:MSt),runM n c G P (bare l) m=runM n c G P l m
 | [],m=>rfl
 | i::l,m=>by
  cases h:mark i with
  | true =>
   have eb:bare (i::l)=bare l:=by unfold bare; rw [List.filter_cons,h]; rfl
   rw [eb,z9f l m]
   show _=(z3a n c G P i m).bind (runM n c G P l)
   rw [zww m h]; rfl
  | false =>
   have eb:bare (i::l)=i::bare l:=by unfold bare; rw [List.filter_cons,h]; rfl
   rw [eb]
   show (z3a n c G P i m).bind (runM n c G P (bare l))=(z3a n c G P i m).bind (runM n c G P l)
   cases z3a n c G P i m with
   | none=>rfl
   | some m'=>exact z9f l m'
structure Inv (c:Xe) (set:List Bool) (o:List Xg) (m:MSt):Prop where
 skip:0≤m.1
 regs:m.1=0→z31 c set m.2.1
 opens:∀ (j:Nat) (x:Xg),(base o)[j]? = some x→(j:Int)+m.1≤(base o).length→z31 c x.Set_ m.2.1
 slots:z1x c m.2.2.1
 out:z8q c m.2.2.2
theorem zyt (hn:100000<n) (F:Fine c) (hG:InOk c G) (hP:InOk c P) {i:Xd} {set:List Bool} {o:List Xg} {m:MSt} (h:Inv c set o m) (hst:z1d c i set o=true) :
  ∃ m',z3a n c G P i m=some m'∧Inv c (z1t i set o).1 (z1t i set o).2 m':=by
 obtain ⟨h1,h2,h3,h4,h5⟩:=h
 obtain ⟨skip,R,S,O⟩:=m
 simp only at h1 h2 h3 h4 h5
 have hst':=hst
 unfold z1d at hst'
 simp only [Bool.and_eq_true] at hst'
 obtain ⟨hfit,_,hrd,hpl⟩:=hst'
 have h35:(i.Op_==35)=true→∃ o' x,o=o'++[x]∧base o=base o'++[x]∧z1t i set o=(x.Set_,o'):=by
  intro h
  have h:i.Op_=35:=by simpa using h
  unfold z3n at hpl
  rw [h] at hpl
  have hpl:(decide ((o.length:Int) > 0) && !(z12 o))=true:=hpl
  rcases List.eq_nil_or_concat o with rfl | ⟨o',x,rfl⟩
  ·simp at hpl
  ·rw [List.concat_eq_append] at hpl ⊢
   rw [(z4l o' x).1] at hpl
   simp only [Bool.and_eq_true] at hpl
   refine ⟨o',x,rfl,?_,?_⟩
   ·rw [z44]
    congr 1
    unfold base
    rw [List.filter_cons,hpl.2]; rfl
   ·unfold z1t
    rw [h]
    simp
 have h34:(i.Op_==34)=true→z1t i set o=(set,o++[⟨34,i.N_,set⟩])∧base (o++[⟨34,i.N_,set⟩])=base o++[⟨34,i.N_,set⟩]:=by
  intro h
  have h:i.Op_=34:=by simpa using h
  refine ⟨?_,?_⟩
  ·unfold z1t; rw [h]; rfl
  ·rw [z44]; rfl
 have hel:(i.Op_==34)=false→(i.Op_==35)=false→base (z1t i set o).2=base o∧(z1t i set o).1=bif sets i then set.set i.D_.toNat true else set:=by
  intro e34 e35
  unfold z1t
  rw [e34,e35]
  cases e36:i.Op_==36 with
  | true =>
   have h:i.Op_=36:=by simpa using e36
   have hs:sets i=false:=by unfold sets; rw [h]; rfl
   rw [hs]
   refine ⟨?_,rfl⟩
   show base (o++[⟨i.Op_,i.N_,set⟩])=base o
   rw [z44,h]
   show base o++[]=_
   rw [List.append_nil]
  | false =>
   cases e37:i.Op_==37 with
   | true =>
    have h:i.Op_=37:=by simpa using e37
    have hs:sets i=false:=by unfold sets; rw [h]; rfl
    rw [hs]
    refine ⟨?_,rfl⟩
    show base o.dropLast=base o
    unfold z3n at hpl
    rw [h] at hpl
    have hpl:z12 o=true:=hpl
    rcases List.eq_nil_or_concat o with rfl | ⟨o',x,rfl⟩
    ·rfl
    ·rw [List.concat_eq_append] at hpl ⊢
     rw [(z4l o' x).1] at hpl
     rw [List.dropLast_concat,z44]
     have:base [x]=[]:=by unfold base; simp [hpl]
     rw [this,List.append_nil]
   | false =>
    cases hs:sets i <;> exact ⟨rfl,rfl⟩
 by_cases hsk:skip > 0
 ·have e0:decide (skip > 0)=true:=by simpa using hsk
  unfold z3a
  simp only [e0,cond_true]
  cases e34:i.Op_==34 with
  | true =>
   obtain ⟨q1,q2⟩:=h34 e34
   refine ⟨_,rfl,?_⟩
   rw [q1]
   refine ⟨by show 0≤skip+1; omega,fun h=>by have h:skip+1=0:=h; omega,fun j x hj hl=>?_,h4,h5⟩
   have hl:(j:Int)+(skip+1)≤_:=hl
   rw [q2] at hj hl
   have hj2:j<(base o).length:=by simp at hl; omega
   rw [List.getElem?_append_left hj2] at hj
   exact h3 j x hj (by simp at hl; omega)
  | false =>
   cases e35:i.Op_==35 with
   | true =>
    obtain ⟨o',x,q0,q1,q2⟩:=h35 e35
    refine ⟨_,rfl,?_⟩
    rw [q2]
    rw [q1] at h3
    refine ⟨by show 0≤skip - 1; omega,fun h=>?_,fun j y hj hl=>?_,h4,h5⟩
    ·have h:skip - 1=0:=h
     exact h3 (base o').length x (by rw [List.getElem?_append_right (Nat.le_refl _),Nat.sub_self]; rfl) (by simp; omega)
    ·have hl:(j:Int)+(skip - 1)≤((base o').length:Int):=hl
     have hj2:j<(base o').length:=by
      by_cases q:j<(base o').length
      ·exact q
      ·have hj':(base o')[j]? = some y:=hj
       rw [List.getElem?_eq_none (by omega)] at hj'; cases hj'
     exact h3 j y (by rw [List.getElem?_append_left hj2]; exact hj) (by simp; omega)
   | false =>
    obtain ⟨q1,q2⟩:=hel e34 e35
    refine ⟨_,rfl,?_⟩
    refine ⟨h1,fun h=>?_,fun j y hj hl=>?_,h4,h5⟩
    ·have h:skip=0:=h
     omega
    ·rw [q1] at hj hl
     exact h3 j y hj hl
 ·obtain rfl:skip=0:=by omega
  have hR:=h2 rfl
  unfold z3a
  simp only [show decide ((0:Int) > 0)=false from rfl,cond_false]
  cases e34:i.Op_==34 with
  | true =>
   obtain ⟨q1,q2⟩:=h34 e34
   have e:rowD i.Op_=some ⟨0,2,0,0,0⟩:=by rw [show i.Op_=34 from by simpa using e34]; kernel_rfl
   obtain ⟨t,t1,_⟩:=zet (z4e hfit e).2.1 (.inr (.inl rfl))
   obtain ⟨a,b,_⟩:=z3k t1
   obtain ⟨x,x1,_⟩:=z2v (l:=R) (k:=i.A_) ⟨a,by rw [hR.len]; exact b⟩
   rw [x1,q1]
   simp only [cond_true,Option.map_some]
   refine ⟨_,rfl,?_⟩
   cases x.Int_==0 with
   | true =>
    refine ⟨by show (0:Int)≤1; decide,fun h=>by have h:(1:Int)=0:=h; omega,fun j y hj hl=>?_,h4,h5⟩
    have hl:(j:Int)+1≤_:=hl
    rw [q2] at hj hl
    by_cases hj2:j<(base o).length
    ·rw [List.getElem?_append_left hj2] at hj
     exact h3 j y hj (by omega)
    ·have:j=(base o).length:=by simp at hl; omega
     subst this
     rw [List.getElem?_append_right (Nat.le_refl _),Nat.sub_self] at hj
     cases hj; exact hR
   | false =>
    refine ⟨Int.le_refl _,fun _=>hR,fun j y hj hl=>?_,h4,h5⟩
    have hl:(j:Int)+0≤_:=hl
    rw [q2] at hj hl
    by_cases hj2:j<(base o).length
    ·rw [List.getElem?_append_left hj2] at hj
     exact h3 j y hj (by omega)
    ·have:j=(base o).length:=by
      by_cases q:j=(base o).length
      ·exact q
      ·rw [List.getElem?_eq_none (by simp; omega)] at hj; cases hj
     subst this
     rw [List.getElem?_append_right (Nat.le_refl _),Nat.sub_self] at hj
     cases hj; exact hR
  | false =>
   simp only [cond_false]
   cases e35:i.Op_==35 with
   | true =>
    obtain ⟨o',x,q0,q1,q2⟩:=h35 e35
    rw [zgw n c G P i _ _ _ (.inr (.inl (by simpa using e35))),q2]
    rw [q1] at h3
    refine ⟨(0,R,S,O),rfl,Int.le_refl _,fun _=>?_,fun j y hj hl=>?_,h4,h5⟩
    ·exact h3 (base o').length x (by rw [List.getElem?_append_right (Nat.le_refl _),Nat.sub_self]; rfl) (by simp only [List.length_append,List.length_singleton]; omega)
    ·have hl:(j:Int)+0≤((base o').length:Int):=hl
     have hj2:j<(base o').length:=by
      by_cases q:j<(base o').length
      ·exact q
      ·have hj':(base o')[j]? = some y:=hj
       rw [List.getElem?_eq_none (by omega)] at hj'; cases hj'
     exact h3 j y (by rw [List.getElem?_append_left hj2]; exact hj) (by simp; omega)
   | false =>
    obtain ⟨q1,q2⟩:=hel e34 e35
    have F0:Fine ⟨c.Sign_,c.Regs_,c.Slots_,[]⟩:=⟨F.par,F.reg,F.slo,F.nreg,F.nslo,F.npar⟩
    have hf0:fits ⟨c.Sign_,c.Regs_,c.Slots_,[]⟩ i=true:=hfit
    have fr:FrOk ⟨c.Sign_,c.Regs_,c.Slots_,[]⟩ set ⟨⟨c.Sign_,c.Regs_,c.Slots_,[]⟩,R,S,O,G,P,0⟩:=⟨rfl,⟨hR.len,hR.ok⟩,⟨h4.len,h4.ok⟩,⟨h5.len,h5.ok⟩,⟨hG.len,hG.ok⟩,⟨hP.len,hP.ok⟩⟩
    obtain ⟨y,hy,R',S',O',ey,k1,k2,k3,k4⟩:=y2e hn F0 fr hf0 hrd
    have hy:dn n c G P i R S O=some y:=hy
    rw [hy,ey]
    refine ⟨(0,R',S',O'),rfl,Int.le_refl _,fun _=>?_,fun j y hj hl=>?_,⟨k2.len,k2.ok⟩,⟨k3.len,k3.ok⟩⟩
    ·rw [q2]; exact ⟨k1.len,k1.ok⟩
    ·rw [q1] at hj hl
     have hx:=h3 j y hj hl
     have:=k4 y.Set_ ⟨hx.len,hx.ok⟩
     exact ⟨this.len,this.ok⟩
theorem zqb (hn:100000<n) (F:Fine c) (hG:InOk c G) (hP:InOk c P):∀ (l:List Xd) (k:Nat) (set:List Bool) (o:List Xg) (r:List Bool×List Xg) (m:MSt),
  goR c l k set o = .inr r→Inv c set o m→∃ m',runM n c G P l m=some m'∧z1x c m'.2.2.1∧z8q c m'.2.2.2
 | [],k,set,o,r,m,hg,h=>⟨m,rfl,h.slots,h.out⟩
 | i::l,k,set,o,r,m,hg,h=>by
  rw [z8a] at hg
  cases hst:z1d c i set o with
  | false=>rw [hst] at hg; cases hg
  | true =>
   rw [hst,cond_true] at hg
   obtain ⟨m1,e1,h1⟩:=zyt hn F hG hP h hst
   obtain ⟨m2,e2,h2⟩:=zqb hn F hG hP l (k+1) _ _ r m1 hg h1
   refine ⟨m2,?_,h2⟩
   show (z3a n c G P i m).bind (runM n c G P l)=_
   rw [e1]; exact e2
end
section
variable {P:Program} {T:TT} {pro:List Nat} {R S A V:Type} {Q:R→Prop}
def Lbr (t:Pt P T pro R) (Q:R→Prop):Prop:=∀ y,t.run=some y→Q y
theorem zm4 {x:R} (h:Q x):Lbr (.leaf x:Pt P T pro R) Q:=fun y e=>by cases e; exact h
theorem y37 {b:Bool} {x y:Pt P T pro R} (h1:Lbr x Q) (h2:Lbr y Q):Lbr (.ite b x y) Q:=by
 cases b with
 | true=>exact h1
 | false=>exact h2
theorem zy8 {p:Prop} [Decidable p] {K:Pt P T pro R} (h:Lbr K Q):Lbr (.need p K) Q:=fun y e=>h y (by
 have e:need p K.run=some y:=e
 unfold need at e
 split at e
 ·exact e
 ·cases e)
theorem y36 {x:Option A} {K:A→Pt P T pro R} (h:∀ a,Lbr (K a) Q):Lbr (.bnd x K) Q:=fun y e=>by
 cases x with
 | none=>cases e
 | some a=>exact h a y e
theorem zy7 {enc:S→EH T} {B:Pt P T pro (S⊕R)} {K:S→Pt P T pro R} (h:Lbr B (fun s=>match s with | .inl _=>True | .inr r=>Q r)) (hk:∀ s,Lbr (K s) Q):Lbr (.join enc B K) Q:=fun y e=>by
 have e:(B.run.bind (zm fun s=>(K s).run))=some y:=e
 cases hb:B.run with
 | none=>rw [hb] at e; cases e
 | some z =>
  rw [hb] at e
  cases z with
  | inl s=>exact hk s y e
  | inr r =>
   have:=h _ hb
   cases e; exact this
theorem zy6 {C:Con P T} {x:C.X} {K:C.Y→Pt P T pro R} (h:∀ y,Lbr (K y) Q):Lbr (.call C x K) Q:=fun y e=>by
 have e:((C.G x).bind fun y=>(K y).run)=some y:=e
 cases hb:C.G x with
 | none=>rw [hb] at e; cases e
 | some z=>rw [hb] at e; exact h z y e
end
theorem zxo {n:Nat} {c:Xe} {G P:List (List Int)} {i:Xd} {R S:List Xh} {O:List (List Int)} {y:Ten} (h:dn n c G P i R S O=some y) :
  y.1=c.Sign_∧y.2.1=c.Regs_∧y.2.2.1=c.Slots_∧y.2.2.2.2.2.2.2.1=G∧y.2.2.2.2.2.2.2.2.1=P:=by
 have key:Lbr (z6z n ((⟨⟨c.Sign_,c.Regs_,c.Slots_,[]⟩,R,S,O,G,P,0⟩:Xj),i)) (fun (y:Ten)=>y.1=c.Sign_∧y.2.1=c.Regs_∧y.2.2.1=c.Slots_∧y.2.2.2.2.2.2.2.1=G∧y.2.2.2.2.2.2.2.2.1=P):=by
  unfold z6z
  repeat' first
   | exact zm4 True.intro
   | exact zm4 ⟨rfl,rfl,rfl,rfl,rfl⟩
   | refine y37 ?_ ?_
   | refine zy6 (fun _=>?_)
   | refine y36 (fun _=>?_)
   | refine zy8 ?_
   | refine zy7 ?_ (fun _=>?_)
 exact key y h
section
variable {n:Nat} {c:Xe} {G P:List (List Int)}
theorem y3j {i:Xd} {m m':MSt} (h:z3a n c G P i m=some m') (h0:0≤m.1):0≤m'.1∧m'.1≤m.1+1:=by
 unfold z3a at h
 cases hs:decide (m.1 > 0) with
 | true =>
  rw [hs] at h
  simp only [cond_true,Option.some.injEq] at h
  simp only [decide_eq_true_eq] at hs
  subst h
  cases i.Op_==34 <;> cases i.Op_==35 <;> simp <;> omega
 | false =>
  rw [hs] at h
  simp only [cond_false] at h
  cases e:i.Op_==34 with
  | true =>
   rw [e] at h
   simp only [cond_true] at h
   cases hi:idx m.2.1 i.A_ with
   | none=>rw [hi] at h; cases h
   | some x =>
    rw [hi] at h
    simp only [Option.map_some,Option.some.injEq] at h
    subst h
    cases x.Int_==0 <;> simp <;> omega
  | false =>
   rw [e] at h
   simp only [cond_false] at h
   cases hd:dn n c G P i m.2.1 m.2.2.1 m.2.2.2 with
   | none=>rw [hd] at h; cases h
   | some y =>
    rw [hd] at h
    simp only [Option.map_some,Option.some.injEq] at h
    subst h
    exact ⟨h0,by show m.1≤m.1+1; omega⟩
abbrev St12:Type:=Int×Int×(List Xa)×(List Xb)×(List Xc)×(List Xd)×(List Xh)×(List Xh)×(List (List Int))×(List (List Int))×(List (List Int))×Int
abbrev zx (c:Xe) (L:List Xd):Xe:=⟨c.Sign_,c.Regs_,c.Slots_,L⟩
abbrev stOf (c:Xe) (L:List Xd) (G P:List (List Int)) (m:MSt) (k:Int) (w:Int):St12:=(m.1,k,c.Sign_,c.Regs_,c.Slots_,L,m.2.1,m.2.2.1,m.2.2.2,G,P,w)
theorem zre (F:Fine c) {L:List Xd} {Sl:List Xh} {m m1:MSt} {k:Nat} {w:Int} (hk:k<L.length) (hL:L.length≤1000000) (hf:fits c L[k]=true) (h:z3a n c G P L[k] m=some m1) (h0:0≤m.1) (h1:m.1≤k) :
  Got ((z5g n ((⟨zx c L,Sl⟩:Xi),G,P) () (stOf c L G P m (k:Int) w)).run) (fun b=>∃ w',(w'=w∨w'=IntKind.i64.wrap (w+z3p c L[k]))∧b = .go (stOf c L G P m1 ((k+1:Nat):Int) w')):=by
 show Ans (z5g n ((⟨zx c L,Sl⟩:Xi),G,P) () (stOf c L G P m (k:Int) w)) _
 unfold z5g
 have ek:IntKind.i64.wrap ((k:Int)+1)=((k+1:Nat):Int):=z11 (by omega)
 have es1:IntKind.i64.wrap (m.1+1)=m.1+1:=z1h (by omega) (by omega)
 have es2:IntKind.i64.wrap (m.1 - 1)=m.1 - 1:=z1h (by omega) (by omega)
 unfold z3a at h
 refine z6 (fun _=>?_) (fun hh=>?_)
 ·refine zg (a:=L[k]) (zy hk) ?_
  refine z6 (fun hs=>?_) (fun hs=>?_)
  ·have hs:decide (m.1 > 0)=true:=hs
   rw [hs] at h
   simp only [cond_true,Option.some.injEq] at h
   refine z6 (fun e=>z0 ⟨w,.inl rfl,?_⟩) (fun e=>z6 (fun e2=>z0 ⟨w,.inl rfl,?_⟩) (fun e2=>z0 ⟨w,.inl rfl,?_⟩))
   ·rw [e,cond_true] at h
    subst h
    show Bo.go (IntKind.i64.wrap (m.1+1),IntKind.i64.wrap ((k:Int)+1),_)=_
    rw [ek,es1]
   ·rw [e,e2,cond_true,cond_false] at h
    subst h
    show Bo.go (IntKind.i64.wrap (m.1 - 1),IntKind.i64.wrap ((k:Int)+1),_)=_
    rw [ek,es2]
   ·rw [e,e2,cond_false,cond_false] at h
    subst h
    show Bo.go (m.1,IntKind.i64.wrap ((k:Int)+1),_)=_
    rw [ek]
  ·have hs:decide (m.1 > 0)=false:=hs
   have hz:m.1=0:=by simp only [decide_eq_false_iff_not] at hs; omega
   rw [hs] at h
   simp only [cond_false] at h
   refine z8 (fun (y:Int)=>y=z3p c L[k]) (t153 (c:=zx c L) (i:=L[k]) F.reg hf) (fun (y12:Int) h12=>?_)
   cases e:L[k].Op_==34 with
   | true =>
    rw [e] at h
    simp only [cond_true] at h
    cases hi:idx m.2.1 L[k].A_ with
    | none=>rw [hi] at h; cases h
    | some x =>
     rw [hi] at h
     simp only [Option.map_some,Option.some.injEq] at h
     refine zcf (z6 (fun _=>?_) (fun e'=>by cases e'))
     refine zg (a:=x) rfl (z0 ?_)
     show Ans _ _
     refine z6 (fun hx=>z0 ⟨IntKind.i64.wrap (w+y12),.inr (by rw [h12]),?_⟩) (fun hx=>?_)
     ·have hx:(x.Int_==0)=true:=hx
      rw [hx,cond_true] at h
      subst h
      show Bo.go ((1:Int),IntKind.i64.wrap ((k:Int)+1),_)=_
      rw [ek]
     ·have hx:(x.Int_==0)=false:=hx
      rw [hx,cond_false] at h
      subst h
      have ed:=zz3 n c.Sign_ c.Regs_ c.Slots_ L c rfl rfl rfl G P L[k] m.2.1 m.2.2.1 m.2.2.2 (IntKind.i64.wrap (w+y12))
      rw [zgw n c G P L[k] _ _ _ (.inl (by simpa using e))] at ed
      refine z8 (fun (y:Ten)=>y=(c.Sign_,c.Regs_,c.Slots_,L,m.2.1,m.2.2.1,m.2.2.2,G,P,IntKind.i64.wrap (w+y12))) ⟨_,ed,rfl⟩ (fun (y14:Ten) hy=>z0 ⟨IntKind.i64.wrap (w+y12),.inr (by rw [h12]),?_⟩)
      subst hy
      show Bo.go (m.1,IntKind.i64.wrap ((k:Int)+1),_)=_
      rw [ek]
   | false =>
    rw [e] at h
    simp only [cond_false] at h
    cases hd:dn n c G P L[k] m.2.1 m.2.2.1 m.2.2.2 with
    | none=>rw [hd] at h; cases h
    | some y =>
     rw [hd] at h
     simp only [Option.map_some,Option.some.injEq] at h
     refine zcf (z6 (fun e'=>by cases e') (fun _=>z0 ?_))
     show Ans _ _
     refine z6 (fun hx=>by cases hx) (fun _=>?_)
     have ed:=zz3 n c.Sign_ c.Regs_ c.Slots_ L c rfl rfl rfl G P L[k] m.2.1 m.2.2.1 m.2.2.2 (IntKind.i64.wrap (w+y12))
     rw [hd] at ed
     refine z8 (fun (z:Ten)=>z=(y.1,y.2.1,y.2.2.1,L,y.2.2.2.2.1,y.2.2.2.2.2.1,y.2.2.2.2.2.2.1,y.2.2.2.2.2.2.2.1,y.2.2.2.2.2.2.2.2.1,IntKind.i64.wrap (w+y12))) ⟨_,ed,rfl⟩ (fun (y14:Ten) hy=>z0 ⟨IntKind.i64.wrap (w+y12),.inr (by rw [h12]),?_⟩)
     subst hy
     subst h
     obtain ⟨p1,p2,p3,p4,p5⟩:=zxo hd
     show Bo.go (m.1,IntKind.i64.wrap ((k:Int)+1),y.1,y.2.1,y.2.2.1,L,y.2.2.2.2.1,y.2.2.2.2.2.1,y.2.2.2.2.2.2.1,y.2.2.2.2.2.2.2.1,y.2.2.2.2.2.2.2.2.1,IntKind.i64.wrap (w+y12))=_
     rw [ek,p1,p2,p3,p4,p5]
 ·have hh:¬ ((k:Nat):Int)<(L.length:Int):=by simpa using hh
  omega
theorem zgg (F:Fine c) {L:List Xd} {Sl:List Xh} (hL:L.length≤1000000) (hf:∀ i ∈ L,fits c i=true):∀ (j k f:Nat) (m m':MSt) (w:Int),k+j=L.length→j<f→runM n c G P (L.drop k) m=some m'→0≤m.1→m.1≤k →
  0≤w→w≤4096 * k→∃ w',iter (fun s=>(z5g n ((⟨zx c L,Sl⟩:Xi),G,P) () s).run) f (stOf c L G P m (k:Int) w)=some (.out (stOf c L G P m' (L.length:Int) w'))∧w'≤w+totR (z3p c) (L.drop k)
 | 0,k,f+1,m,m',w,hk,_,h,_,_,_,_=>by
  obtain rfl:k=L.length:=by omega
  rw [List.drop_length] at h
  obtain rfl:m=m':=Option.some.inj h
  refine ⟨w,?_,by rw [List.drop_length]; show w≤w+0; omega⟩
  unfold iter
  have e:(z5g n ((⟨zx c L,Sl⟩:Xi),G,P) () (stOf c L G P m (L.length:Int) w)).run=some (.out (stOf c L G P m (L.length:Int) w)):=by
   have:Ans (z5g n ((⟨zx c L,Sl⟩:Xi),G,P) () (stOf c L G P m (L.length:Int) w)) (fun b=>b = .out (stOf c L G P m (L.length:Int) w)):=by
    unfold z5g
    refine z6 (fun h=>?_) (fun _=>z0 rfl)
    have h:(L.length:Int)<(L.length:Int):=of_decide_eq_true h
    omega
   obtain ⟨b,e1,e2⟩:=this
   rw [e1,e2]
  rw [e]
 | j+1,k,f+1,m,m',w,hk,hj,h,h0,h1,hw0,hw1=>by
  have hkl:k<L.length:=by omega
  rw [List.drop_eq_getElem_cons hkl] at h
  have h:(z3a n c G P L[k] m).bind (runM n c G P (L.drop (k+1)))=some m':=h
  cases hs:z3a n c G P L[k] m with
  | none=>rw [hs] at h; cases h
  | some m1 =>
   rw [hs] at h
   obtain ⟨b,e1,w1,hw,e2⟩:=zre (w:=w) (Sl:=Sl) F hkl hL (hf _ (List.getElem_mem hkl)) hs h0 h1
   obtain ⟨b0,b1⟩:=y3j hs h0
   obtain ⟨q0,q1⟩:=zmt (i:=L[k]) F.par F.reg
   have hw2:0≤w1∧w1≤w+z3p c L[k]:=by
    rcases hw with rfl | rfl
    ·omega
    ·rw [zc1 (by omega) (by omega)]; omega
   obtain ⟨w',e3,e4⟩:=zgg F hL hf j (k+1) f m1 m' w1 (by omega) (by omega) h b0 (by omega) hw2.1 (by omega)
   refine ⟨w',?_,by rw [List.drop_eq_getElem_cons hkl]; show w'≤w+(z3p c L[k]+totR (z3p c) (L.drop (k+1))); omega⟩
   unfold iter
   rw [e1,e2]
   exact e3
end
section
variable {n:Nat} {c:Xe}
theorem t149 (hn:1000<n) (F:Fine c) (v:List (List Int)):Got ((k149 n).G (c.Sign_,v)) (fun (b:Bool)=>b=true→InOk c v):=by
 show Ans (zkn n (c.Sign_,v)) _
 unfold zkn
 have hnp:=F.npar
 refine z6 (fun _=>z0 fun h=>by cases h) (fun hl=>?_)
 have hl:v.length=c.Sign_.length:=by
  have:((v.length:Nat):Int)=c.Sign_.length:=by simpa using hl
  omega
 refine z6q (fun _=>InOk c v) (fun _=>True) ?_ (fun _ h=>z0 fun _=>h) (fun _ _=>z0 fun h=>by cases h)
 refine z1q c.Sign_.length (fun i (q:Int)=>q=i∧∀ (j:Nat) (p:Xa) (w:List Int),j<i→c.Sign_[j]? = some p→v[j]? = some w→((w.length:Nat):Int)=bif p.Kind_==2 then 2 * p.Len_ else p.Len_) (fun i (q:Int) hi hq=>?_) (fun (q:Int) hq=>?_) n (by omega) (0:Int) ⟨rfl,fun j p w hj=>by omega⟩
 ·show Ans (za2 n (c.Sign_,v) () q) _
  unfold za2
  obtain ⟨q1,q2⟩:=hq
  refine z6 (fun _=>?_) (fun h=>?_)
  ·have hiv:i<v.length:=by omega
   refine zg (a:=v[i]'hiv) (by rw [q1]; exact zy hiv) ?_
   refine zg (a:=c.Sign_[i]) (by rw [q1]; exact zy hi) ?_
   refine z8 (fun (y:Int)=>y=numP c.Sign_[i]) ⟨_,zsf c.Sign_[i] (by omega),rfl⟩ (fun (y3:Int) h3=>?_)
   refine z6 (fun _=>z0 True.intro) (fun h=>z0 ⟨?_,fun j p w hj h1 h2=>?_⟩)
   ·show IntKind.i64.wrap (q+1)=_
    rw [q1,z11 (by omega)]
   ·by_cases hji:j=i
    ·subst hji
     rw [List.getElem?_eq_getElem hi] at h1
     rw [List.getElem?_eq_getElem hiv] at h2
     cases h1; cases h2
     have h:(((v[j]'hiv).length:Nat):Int)=y3:=by simpa using h
     rw [h,h3]
     have hp:=F.par _ (List.getElem_mem hi)
     unfold numP
     rw [hp]
     unfold mayP at hp
     simp only [Bool.and_eq_true,decide_eq_true_eq] at hp
     simp only [cond_true]
     rw [z1h (by omega) (by omega)]
    ·exact q2 j p w (by omega) h1 h2
  ·have h:¬ q<(c.Sign_.length:Int):=of_decide_eq_false h
   omega
 ·show Ans (za2 n (c.Sign_,v) () q) _
  unfold za2
  obtain ⟨q1,q2⟩:=hq
  refine z6 (fun h=>?_) (fun _=>z0 ⟨hl,fun j p w h1 h2=>q2 j p w ?_ h1 h2⟩)
  ·have h:q<(c.Sign_.length:Int):=of_decide_eq_true h
   omega
  ·by_cases h:j<c.Sign_.length
   ·exact h
   ·rw [List.getElem?_eq_none (by omega)] at h1; cases h1
structure zcd (c:Xe) (i:Nat) (S:List Xh):Prop where
 len:S.length=i
 ok:∀ (j:Nat) (z:Xc) (x:Xh),c.Slots_[j]? = some z→S[j]? = some x→z2h c z.Type_ x.Nums_
theorem zcd.add {i:Nat} {S:List Xh} (h:zcd c i S) {x:Xh} {z:Xc} (hz:c.Slots_[i]? = some z) (hx:z2h c z.Type_ x.Nums_):zcd c (i+1) (S++[x]):=by
 refine ⟨by rw [List.length_append,h.len]; rfl,fun j z' x' h1 h2=>?_⟩
 by_cases hj:j<i
 ·rw [List.getElem?_append_left (by rw [h.len]; exact hj)] at h2
  exact h.ok j z' x' h1 h2
 ·by_cases hji:j=i
  ·subst hji
   rw [List.getElem?_append_right (by rw [h.len]; exact Nat.le_refl _),h.len,Nat.sub_self] at h2
   rw [hz] at h1
   cases h1; cases h2; exact hx
  ·rw [List.getElem?_eq_none (by rw [List.length_append,h.len]; show i+1≤j; omega)] at h2; cases h2
theorem zrd (hn:100000<n) (F:Fine c) {Sl:List Xh} (hS:z1x c Sl) (L:List Xd) (G P:List (List Int)) :
  Got (iter (fun q=>(z5e n ((⟨zx c L,Sl⟩:Xi),G,P) () q).run) n (0,[])) (fun b=>match b with | .out (y:Int×List Xh)=>z1x c y.2 | _=>False):=by
 have hns:=F.nslo
 refine z1q c.Slots_.length (fun i (q:Int×List Xh)=>q.1=i∧zcd c i q.2) (fun i (q:Int×List Xh) hi hq=>?_) (fun (q:Int×List Xh) hq=>?_) n (by omega) (0,[]) ⟨rfl,rfl,fun j z x _ h=>by cases h⟩
 ·show Ans (z5e n ((⟨zx c L,Sl⟩:Xi),G,P) () q) _
  unfold z5e
  obtain ⟨q1,q2⟩:=hq
  have ew:IntKind.i64.wrap (q.1+1)=((i+1:Nat):Int):=by rw [q1,z11 (by omega)]
  have hz:=List.getElem?_eq_getElem hi
  have e1:idx c.Slots_ q.1=some c.Slots_[i]:=by rw [q1]; exact zy hi
  have hq2:=q2.len
  refine z6 (fun _=>?_) (fun h=>?_)
  ·refine zg e1 (z6 (fun _=>?_) (fun _=>?_))
   ·have hi2:i<Sl.length:=by rw [hS.len]; exact hi
    refine zg (a:=Sl[i]) (by rw [q1]; exact zy hi2) (zk (by simp; omega) (z0 ⟨ew,q2.add hz (hS.ok i _ _ hz (List.getElem?_eq_getElem hi2))⟩))
   ·refine zg e1 (z8 (fun (y:List Int×Int)=>z2h c c.Slots_[i].Type_ y.1) (t133 (c:=zx c L) hn F.par (F.slo _ (List.getElem_mem hi))) (fun (y6:List Int×Int) h6=>zk (by simp; omega) (z0 ⟨ew,q2.add hz h6⟩)))
  ·have h:¬ q.1<(c.Slots_.length:Int):=of_decide_eq_false h
   omega
 ·show Ans (z5e n ((⟨zx c L,Sl⟩:Xi),G,P) () q) _
  unfold z5e
  obtain ⟨q1,q2⟩:=hq
  refine z6 (fun h=>?_) (fun _=>z0 ⟨q2.len,q2.ok⟩)
  have h:q.1<(c.Slots_.length:Int):=of_decide_eq_true h
  omega
theorem zyc (hn:100000<n) (F:Fine c) (L:List Xd) :
  Got (iter (fun q=>(z5d n (zx c L) () q).run) n (0,[])) (fun b=>match b with | .out (y:Int×List Xh)=>z1x c y.2 | _=>False):=by
 have hns:=F.nslo
 refine z1q c.Slots_.length (fun i (q:Int×List Xh)=>q.1=i∧zcd c i q.2) (fun i (q:Int×List Xh) hi hq=>?_) (fun (q:Int×List Xh) hq=>?_) n (by omega) (0,[]) ⟨rfl,rfl,fun j z x _ h=>by cases h⟩
 ·show Ans (z5d n (zx c L) () q) _
  unfold z5d
  obtain ⟨q1,q2⟩:=hq
  have ew:IntKind.i64.wrap (q.1+1)=((i+1:Nat):Int):=by rw [q1,z11 (by omega)]
  have hz:=List.getElem?_eq_getElem hi
  have e1:idx c.Slots_ q.1=some c.Slots_[i]:=by rw [q1]; exact zy hi
  have hq2:=q2.len
  refine z6 (fun _=>?_) (fun h=>?_)
  ·refine zg e1 (z8 (fun (y:List Int×Int)=>z2h c c.Slots_[i].Type_ y.1) (t133 (c:=zx c L) hn F.par (F.slo _ (List.getElem_mem hi))) (fun (y6:List Int×Int) h6=>zk (by simp; omega) (z0 ⟨ew,q2.add hz h6⟩)))
  ·have h:¬ q.1<(c.Slots_.length:Int):=of_decide_eq_false h
   omega
 ·show Ans (z5d n (zx c L) () q) _
  unfold z5d
  obtain ⟨q1,q2⟩:=hq
  refine z6 (fun h=>?_) (fun _=>z0 ⟨q2.len,q2.ok⟩)
  have h:q.1<(c.Slots_.length:Int):=of_decide_eq_true h
  omega
theorem zyf (hn:100000<n) (F:Fine c) (L:List Xd) {Sl S0:List Xh} (G P:List (List Int)) :
  Got (iter (fun q=>(z5f n ((⟨zx c L,Sl⟩:Xi),G,P) S0 q).run) n (0,[])) (fun b=>match b with | .out (y:Int×List (List Int))=>z8q c y.2 | _=>False):=by
 have hnp:=F.npar
 refine z1q c.Sign_.length (fun i (q:Int×List (List Int))=>q.1=i∧q.2.length=2 * i∧∀ (j:Nat) (p:Xa) (e:Nat) (l:List Int),c.Sign_[j]? = some p→e<2→q.2[2 * j+e]? = some l→((l.length:Nat):Int)=p.Len_) (fun i (q:Int×List (List Int)) hi hq=>?_) (fun (q:Int×List (List Int)) hq=>?_) n (by omega) (0,[]) ⟨rfl,rfl,fun j p e l _ _ h=>by cases h⟩
 ·show Ans (z5f n ((⟨zx c L,Sl⟩:Xi),G,P) S0 q) _
  unfold z5f
  obtain ⟨q1,q2,q3⟩:=hq
  have ew:IntKind.i64.wrap (q.1+1)=((i+1:Nat):Int):=by rw [q1,z11 (by omega)]
  have hp:=F.par _ (List.getElem_mem hi)
  unfold mayP at hp
  simp only [Bool.and_eq_true,decide_eq_true_eq] at hp
  refine z6 (fun _=>?_) (fun h=>?_)
  ·refine zg (a:=c.Sign_[i]) (by rw [q1]; exact zy hi) ?_
   refine z8 (fun (y:Int×List Int)=>y.1=0∧((y.2.length:Nat):Int)=c.Sign_[i].Len_) (t135 hn (by omega) (by omega)) (fun (y9:Int×List Int) h9=>zk (by simp; omega) (z0 ⟨ew,?_,fun j p e l h1 h2 h3=>?_⟩))
   ·show (q.2++[y9.2,y9.2]).length=_
    rw [List.length_append,q2]; simp; omega
   ·have h3:(q.2++[y9.2,y9.2])[2 * j+e]? = some l:=h3
    by_cases hj:2 * j+e<q.2.length
    ·rw [List.getElem?_append_left hj] at h3
     exact q3 j p e l h1 h2 h3
    ·rw [List.getElem?_append_right (by omega)] at h3
     have hji:j=i:=by
      have:2 * j+e - q.2.length<2:=by
       by_cases q:2 * j+e - q.2.length<2
       ·exact q
       ·rw [List.getElem?_eq_none (by simp; omega)] at h3; cases h3
      omega
     subst hji
     rw [List.getElem?_eq_getElem hi] at h1
     cases h1
     have hm:=List.mem_of_getElem? h3
     simp only [List.mem_cons,List.not_mem_nil,or_false,or_self] at hm
     rw [hm]; exact h9.2
  ·have h:¬ q.1<(c.Sign_.length:Int):=of_decide_eq_false h
   omega
 ·show Ans (z5f n ((⟨zx c L,Sl⟩:Xi),G,P) S0 q) _
  unfold z5f
  obtain ⟨q1,q2,q3⟩:=hq
  refine z6 (fun h=>?_) (fun _=>z0 ⟨q2,q3⟩)
  have h:q.1<(c.Sign_.length:Int):=of_decide_eq_true h
  omega
end
section
variable {n:Nat} {c:Xe}
def Bd (K N:Nat) (u:List (List Int)):Prop:=u.length≤K∧∀ l ∈ u,l.length≤N
theorem Bd.add {K N:Nat} {u:List (List Int)} {l:List Int} (h:Bd K N u) (hl:l.length≤N):Bd (K+1) N (u++[l]) :=
 ⟨by simp; exact h.1,fun x hx=>by
  rcases List.mem_append.1 hx with hx | hx
  ·exact h.2 x hx
  ·rw [List.mem_singleton.1 hx]; exact hl⟩
theorem y3i (F:Fine c) {S:List Xh} (hS:z1x c S) {k:Nat} {x:Xh} (h:S[k]? = some x):x.Nums_.length≤4096:=by
 have hk:k<c.Slots_.length:=by
  rw [← hS.len]
  by_cases q:k<S.length
  ·exact q
  ·rw [List.getElem?_eq_none (by omega)] at h; cases h
 have hz:=List.getElem?_eq_getElem hk
 rcases hS.ok k _ x hz h with ⟨_,h⟩ | h
 ·exact h
 ·have:=(z4g F.par (F.slo _ (List.getElem_mem hk))).2.1
  omega
theorem t152 (hn:100000<n) (F:Fine c) {S:List Xh} (hS:z1x c S) (d:Xe) (k:Int):Got ((k152 n).G ((⟨d,S⟩:Xi),k)) (fun (y:Int×Int×List Int)=>y.2.2.length≤4096):=by
 show Ans (zks n ((⟨d,S⟩:Xi),k)) _
 unfold zks
 refine zi (fun (s:Bool)=>s=false→0≤k∧k<S.length) ?_ (fun (s:Bool) hs=>?_)
 ·refine z6 (fun _=>z0 fun h=>by cases h) (fun h=>z0 fun h'=>?_)
  have h:¬ k<0:=of_decide_eq_false h
  have h':¬ k≥(S.length:Int):=of_decide_eq_false h'
  omega
 refine z6 (fun _=>z0 (by show ([]:List Int).length≤4096; decide)) (fun h=>?_)
 obtain ⟨x,x1,x2⟩:=z2v (hs h)
 have hb:=y3i F hS x2
 refine z1m rfl (fun (q:Int×List Int)=>q.2.length≤4096) ?_ (fun (y4:Int×List Int) hy=>zg x1 (z0 hy))
 refine z1q x.Nums_.length (fun i (q:Int×List Int)=>q.1=i∧q.2.length=i) (fun i (q:Int×List Int) hi hq=>?_) (fun (q:Int×List Int) hq=>?_) n (by omega) (0,[]) ⟨rfl,rfl⟩
 ·show Ans (za6 n ((⟨d,S⟩:Xi),k) () q) _
  unfold za6
  obtain ⟨q1,q2⟩:=hq
  refine zg x1 (z6 (fun _=>?_) (fun h=>?_))
  ·refine zg x1 (zg (a:=x.Nums_[i]) (by rw [q1]; exact zy hi) (zk (by simp; omega) (z0 ⟨?_,?_⟩)))
   ·show IntKind.i64.wrap (q.1+1)=_
    rw [q1,z11 (by omega)]
   ·show (q.2++_).length=_
    rw [List.length_append,q2]; rfl
  ·have h:¬ q.1<(x.Nums_.length:Int):=of_decide_eq_false h
   omega
 ·show Ans (za6 n ((⟨d,S⟩:Xi),k) () q) _
  unfold za6
  obtain ⟨q1,q2⟩:=hq
  refine zg x1 (z6 (fun h=>?_) (fun _=>z0 ?_))
  ·have h:q.1<(x.Nums_.length:Int):=of_decide_eq_true h
   omega
  ·show q.2.length≤4096
   omega
theorem t151 (hn:100000<n) (F:Fine c) {S:List Xh} (hS:z1x c S) (d:Xe) {K:Nat} (hK:K≤5000):Got ((k151 n).G ((⟨d,S⟩:Xi),(K:Int))) (fun (y:List (List Int))=>Bd K 5000 y):=by
 show Ans (zkr n ((⟨d,S⟩:Xi),(K:Int))) _
 unfold zkr
 refine z1m rfl (fun (q:Int×List (List Int))=>Bd K 5000 q.2) ?_ (fun (y:Int×List (List Int)) hy=>z0 hy)
 refine z1q K (fun i (q:Int×List (List Int))=>q.1=i∧Bd i 5000 q.2) (fun i (q:Int×List (List Int)) hi hq=>?_) (fun (q:Int×List (List Int)) hq=>?_) n (by omega) (0,[]) ⟨rfl,Nat.le_refl _,fun l h=>by cases h⟩
 ·show Ans (za5 n ((⟨d,S⟩:Xi),(K:Int)) () q) _
  unfold za5
  obtain ⟨q1,q2⟩:=hq
  have hq2:=q2.1
  refine z6 (fun _=>?_) (fun h=>?_)
  ·refine z8 (fun (y:Int×Int×List Int)=>y.2.2.length≤4096) (t152 hn F hS d q.1) (fun (y1:Int×Int×List Int) h1=>zk (by simp; omega) (zk (by simp; omega) (z0 ⟨?_,q2.add ?_⟩)))
   ·show IntKind.i64.wrap (q.1+1)=_
    rw [q1,z11 (by omega)]
   ·rw [List.length_append]; simp; omega
  ·have h:¬ q.1<(K:Int):=of_decide_eq_false h
   omega
 ·show Ans (za5 n ((⟨d,S⟩:Xi),(K:Int)) () q) _
  unfold za5
  obtain ⟨q1,q2⟩:=hq
  refine z6 (fun h=>?_) (fun _=>z0 q2)
  have h:q.1<(K:Int):=of_decide_eq_true h
  omega
theorem t150 (hn:100000<n) {u:List (List Int)} (hu:Bd 5000 10000 u):Got ((k150 n).G (u,u)) (fun (b:Bool)=>b=true):=by
 show Ans (zkq n (u,u)) _
 unfold zkq
 obtain ⟨hu1,hu2⟩:=hu
 refine z6 (fun h=>?_) (fun _=>?_)
 ·have h:((u.length:Int) != (u.length:Int))=true:=h
  simp at h
 refine z6q (fun _=>True) (fun _=>False) ?_ (fun _ _=>z0 rfl) (fun _ h=>h.elim)
 refine z1q u.length (fun i (q:Int)=>q=i) (fun i (q:Int) hi hq=>?_) (fun (q:Int) hq=>?_) n (by omega) (0:Int) rfl
 ·show Ans (za3 n (u,u) () q) _
  unfold za3
  have e1:idx u q=some u[i]:=by rw [hq]; exact zy hi
  have hl:=hu2 _ (List.getElem_mem hi)
  refine z6 (fun _=>?_) (fun h=>?_)
  ·refine zg e1 (zg e1 (z6 (fun h=>?_) (fun _=>?_)))
   ·have h:((u[i].length:Int) != (u[i].length:Int))=true:=h
    simp at h
   refine z6q (fun _=>True) (fun _=>False) ?_ (fun _ _=>z0 ?_) (fun _ h=>h.elim)
   ·refine z1q u[i].length (fun j (r:Int)=>r=j) (fun j (r:Int) hj hr=>?_) (fun (r:Int) hr=>?_) n (by omega) (0:Int) rfl
    ·show Ans (za4 n (u,u) () q () r) _
     unfold za4
     have e2:idx u[i] r=some u[i][j]:=by rw [hr]; exact zy hj
     refine zg e1 (z6 (fun _=>?_) (fun h=>?_))
     ·refine zg e1 (zg e2 (zg e1 (zg e2 (z6 (fun h=>?_) (fun _=>z0 ?_)))))
      ·have h:(u[i][j] != u[i][j])=true:=h
       simp at h
      ·show IntKind.i64.wrap (r+1)=_
       rw [hr,z11 (by omega)]
     ·have h:¬ r<(u[i].length:Int):=of_decide_eq_false h
      omega
    ·show Ans (za4 n (u,u) () q () r) _
     unfold za4
     refine zg e1 (z6 (fun h=>?_) (fun _=>z0 True.intro))
     have h:r<(u[i].length:Int):=of_decide_eq_true h
     omega
   ·show IntKind.i64.wrap (q+1)=_
    rw [hq,z11 (by omega)]
  ·have h:¬ q<(u.length:Int):=of_decide_eq_false h
   omega
 ·show Ans (za3 n (u,u) () q) _
  unfold za3
  refine z6 (fun h=>?_) (fun _=>z0 True.intro)
  have h:q<(u.length:Int):=of_decide_eq_true h
  omega
theorem t155 (hn:100000<n) (F:Fine c) {f:Xj} (hf:f.C_.Sign_=c.Sign_) (hO:z8q c f.Out_):Got ((k155 n).G f) (fun (y:List (List Int))=>Bd 64 8192 y):=by
 show Ans (zkw n f) _
 unfold zkw
 have hnp:=F.npar
 refine z1m rfl (fun (q:Int×List (List Int))=>Bd 64 8192 q.2) ?_ (fun (y:Int×List (List Int)) hy=>z0 hy)
 refine z1q c.Sign_.length (fun i (q:Int×List (List Int))=>q.1=i∧Bd i 8192 q.2) (fun i (q:Int×List (List Int)) hi hq=>?_) (fun (q:Int×List (List Int)) hq=>?_) n (by omega) (0,[]) ⟨rfl,Nat.le_refl _,fun l h=>by cases h⟩
 ·show Ans (za7 n f () q) _
  unfold za7
  obtain ⟨q1,q2⟩:=hq
  have hq2:=q2.1
  have hp:=F.par _ (List.getElem_mem hi)
  unfold mayP at hp
  simp only [Bool.and_eq_true,decide_eq_true_eq] at hp
  obtain ⟨l0,a0,b0⟩:=z2v (l:=f.Out_) (k:=((2 * i:Nat):Int)) (by rw [hO.len]; omega)
  obtain ⟨l1,a1,b1⟩:=z2v (l:=f.Out_) (k:=((2 * i+1:Nat):Int)) (by rw [hO.len]; omega)
  rw [Int.toNat_natCast] at b0 b1
  have hz:=List.getElem?_eq_getElem hi
  have n0:=hO.ok i _ 0 l0 hz (by omega) b0
  have n1:=hO.ok i _ 1 l1 hz (by omega) b1
  have w0:IntKind.i64.wrap (2 * q.1)=((2 * i:Nat):Int):=by rw [q1,z1h (by omega) (by omega)]; omega
  have w1:IntKind.i64.wrap (IntKind.i64.wrap (2 * q.1)+1)=((2 * i+1:Nat):Int):=by rw [w0,z11 (by omega)]
  refine z6 (fun _=>?_) (fun h=>?_)
  ·refine zg (a:=c.Sign_[i]) (by rw [hf,q1]; exact zy hi) ?_
   refine z1m rfl (fun (r:Int×List Int)=>r.2.length≤8192) ?_ (fun (y6:Int×List Int) h6=>zk (by simp; omega) (z0 ⟨?_,q2.add h6⟩))
   ·refine z1q l0.length (fun j (r:Int×List Int)=>r.1=j∧r.2.length≤2 * j) (fun j (r:Int×List Int) hj hr=>?_) (fun (r:Int×List Int) hr=>?_) n (by omega) (0,[]) ⟨rfl,Nat.le_refl _⟩
    ·show Ans (za8 n f () q (c.Sign_[i].Name_,c.Sign_[i].Kind_,c.Sign_[i].Len_) r) _
     unfold za8
     obtain ⟨r1,r2⟩:=hr
     have ew:IntKind.i64.wrap (r.1+1)=((j+1:Nat):Int):=by rw [r1,z11 (by omega)]
     refine z6 (fun _=>?_) (fun h=>?_)
     ·refine zg (a:=l0) (by rw [w0]; exact a0) (zg (a:=l0[j]) (by rw [r1]; exact zy hj) (zk (by simp; omega) (z6 (fun _=>?_) (fun _=>z0 ⟨ew,by simp; omega⟩))))
      have hj1:j<l1.length:=by omega
      exact zg (a:=l1) (by rw [w1]; exact a1) (zg (a:=l1[j]) (by rw [r1]; exact zy hj1) (zk (by simp; omega) (z0 ⟨ew,by simp; omega⟩)))
     ·have h:¬ r.1<c.Sign_[i].Len_:=of_decide_eq_false h
      omega
    ·show Ans (za8 n f () q (c.Sign_[i].Name_,c.Sign_[i].Kind_,c.Sign_[i].Len_) r) _
     unfold za8
     obtain ⟨r1,r2⟩:=hr
     refine z6 (fun h=>?_) (fun _=>z0 ?_)
     ·have h:r.1<c.Sign_[i].Len_:=of_decide_eq_true h
      omega
     ·show r.2.length≤8192
      omega
   ·show IntKind.i64.wrap (q.1+1)=_
    rw [q1,z11 (by omega)]
  ·have h:¬ q.1<(f.C_.Sign_.length:Int):=of_decide_eq_false h
   rw [hf] at h
   omega
 ·show Ans (za7 n f () q) _
  unfold za7
  obtain ⟨q1,q2⟩:=hq
  refine z6 (fun h=>?_) (fun _=>z0 ⟨show q.2.length≤64 by have:=q2.1; omega,q2.2⟩)
  have h:q.1<(f.C_.Sign_.length:Int):=of_decide_eq_true h
  rw [hf] at h
  omega
end
abbrev zqj:Type:=(List (List Int))×Int×Int×(List Xa)×(List Xb)×(List Xc)×(List Xd)×(List Xh)
section
variable {n:Nat} {c:Xe}
theorem inv0 {O:List (List Int)} {S:List Xh} (hS:z1x c S) (hO:z8q c O):Inv c (z29 c) [] ((0:Int),List.replicate ((c.Regs_.length:Int)).toNat ⟨[],0⟩,S,O):=by
 refine ⟨Int.le_refl _,fun _=>⟨by simp,fun j t x _ _ h=>?_⟩,(fun j x h=>by cases h),hS,hO⟩
 have:((z29 c)[j]?).getD false=false:=by
  unfold z29
  rw [List.getElem?_replicate]
  split <;> rfl
 rw [this] at h; cases h
theorem zyr (hn:100000<n) (F:Fine c) {Sl:List Xh} (hS:z1x c Sl) (G P:List (List Int)) {L0:List Xd} {r0:List Bool×List Xg} (h0:goR c L0 0 (z29 c) [] = .inr r0) :
  ∃ (u:List (List Int)) (e:Int) (S':List Xh),Bd 5000 10000 u∧z1x c S'∧∀ L,L.length≤40000→bare L=bare L0→(∃ r,goR c L 0 (z29 c) [] = .inr r) →
   Got ((k148 n).G ((⟨zx c L,Sl⟩:Xi),G,P)) (fun (y:zqj)=>∃ w,y=(u,e,w,c.Sign_,c.Regs_,c.Slots_,L,S')∧w≤totR (z3p c) L):=by
 obtain ⟨b1,e1,hf1⟩:=t149 (by omega) F G (n:=n)
 obtain ⟨b2,e2,hf2⟩:=t149 (by omega) F P (n:=n)
 have hnr:=F.nreg
 by_cases hb:b1=true∧b2=true
 ·obtain ⟨hb1,hb2⟩:=hb
  have hG:=hf1 hb1
  have hP:=hf2 hb2
  obtain ⟨bs,es,hs0⟩:=zrd hn F hS [] G P
  cases bs with
  | go s=>exact hs0.elim
  | ret z=>exact hs0.elim
  | out y7 =>
  have hs0:z1x c y7.2:=hs0
  obtain ⟨bo,eo,ho0⟩:=zyf hn F [] (Sl:=Sl) (S0:=y7.2) G P
  cases bo with
  | go s=>exact ho0.elim
  | ret z=>exact ho0.elim
  | out y10 =>
  have ho0:z8q c y10.2:=ho0
  obtain ⟨m',em,hm1,hm2⟩:=zqb hn F hG hP L0 0 _ _ r0 _ h0 (inv0 hs0 ho0)
  obtain ⟨u,eu,hu⟩:=t155 hn F (f:=⟨⟨c.Sign_,[],[],[]⟩,[],[],m'.2.2.2,[],[],0⟩) rfl hm2
  refine ⟨u,0,m'.2.2.1,⟨by have:=hu.1; omega,fun l hl=>by have:=hu.2 l hl; omega⟩,hm1,fun L hL hB hg=>?_⟩
  obtain ⟨r,hg⟩:=hg
  have em2:runM n c G P L ((0:Int),List.replicate ((c.Regs_.length:Int)).toNat ⟨[],0⟩,y7.2,y10.2)=some m':=by
   rw [← z9f,hB,z9f]; exact em
  obtain ⟨w',e3,e4⟩:=zgg (n:=n) (G:=G) (P:=P) (Sl:=Sl) F (L:=L) (by omega) (z8b c _ _ _ _ _ hg) L.length 0 n _ m' 0 (by omega) (by omega) (by rw [List.drop_zero]; exact em2) (Int.le_refl _) (Int.le_refl _) (Int.le_refl _) (Int.le_refl _)
  rw [List.drop_zero,Int.zero_add] at e4
  show Ans (zcr n ((⟨zx c L,Sl⟩:Xi),G,P)) _
  unfold zcr
  refine zi (fun (s:Bool)=>s=false) ?_ (fun (s:Bool) hs=>?_)
  ·refine z8 (fun (b:Bool)=>b=true) ⟨b1,e1,hb1⟩ (fun (y1:Bool) h1=>?_)
   subst h1
   refine z6 (fun h=>by cases h) (fun _=>?_)
   refine z8 (fun (b:Bool)=>b=true) ⟨b2,e2,hb2⟩ (fun (y2:Bool) h2=>z0 ?_)
   subst h2; rfl
  subst hs
  refine z6 (fun h=>by cases h) (fun _=>zk ⟨by omega,by show ((c.Regs_.length:Int)) * 32≤_; omega⟩ ?_)
  have es2:iter (fun q=>(z5e n ((⟨zx c L,Sl⟩:Xi),G,P) () q).run) n (0,[])=iter (fun q=>(z5e n ((⟨zx c [],Sl⟩:Xi),G,P) () q).run) n (0,[]):=by kernel_rfl
  refine z1m rfl (fun (y:Int×List Xh)=>y=y7) ⟨.out y7,es2.trans es,rfl⟩ (fun (y:Int×List Xh) hy=>?_)
  subst hy
  have eo2:iter (fun q=>(z5f n ((⟨zx c L,Sl⟩:Xi),G,P) y.2 q).run) n (0,[])=iter (fun q=>(z5f n ((⟨zx c [],Sl⟩:Xi),G,P) y.2 q).run) n (0,[]):=by kernel_rfl
  refine z1m rfl (fun (z:Int×List (List Int))=>z=y10) ⟨.out y10,eo2.trans eo,rfl⟩ (fun (z:Int×List (List Int)) hz=>?_)
  subst hz
  refine z1m rfl (fun (st:St12)=>st=stOf c L G P m' (L.length:Int) w') ⟨.out _,e3,rfl⟩ (fun (st:St12) hst=>?_)
  subst hst
  have eu2:(k155 n).G (⟨zx c L,m'.2.1,m'.2.2.1,m'.2.2.2,G,P,w'⟩:Xj)=(k155 n).G (⟨⟨c.Sign_,[],[],[]⟩,[],[],m'.2.2.2,[],[],0⟩:Xj):=by kernel_rfl
  exact z8 (fun (v:List (List Int))=>v=u) ⟨u,eu2.trans eu,rfl⟩ (fun (v:List (List Int)) hv=>z0 ⟨w',by subst hv; rfl,e4⟩)
 ·refine ⟨[],170,Sl,⟨by simp,fun l h=>by cases h⟩,hS,fun L hL hB hg=>?_⟩
  show Ans (zcr n ((⟨zx c L,Sl⟩:Xi),G,P)) _
  unfold zcr
  refine zi (fun (s:Bool)=>s=true) ?_ (fun (s:Bool) hs=>?_)
  ·refine z8 (fun (b:Bool)=>b=b1) ⟨b1,e1,rfl⟩ (fun (y1:Bool) h1=>?_)
   refine z6 (fun _=>z0 rfl) (fun h=>?_)
   refine z8 (fun (b:Bool)=>b=b2) ⟨b2,e2,rfl⟩ (fun (y2:Bool) h2=>z0 ?_)
   show (!y2)=true
   subst h1 h2
   cases y1 with
   | false=>cases h
   | true =>
    cases y2 with
    | false=>rfl
    | true=>exact absurd ⟨rfl,rfl⟩ hb
  subst hs
  exact z6 (fun _=>z0 ⟨0,rfl,zx0 (fun i=>(zmt F.par F.reg).1) L⟩) (fun h=>by cases h)
abbrev z9r:Type:=(List (List Int))×Int×(List Xa)×(List Xb)×(List Xc)×(List Xd)×(List Xh)
theorem y3k (hn:100000<n) (F:Fine c) {Sl:List Xh} (hS:z1x c Sl) (G P:List (List Int)) {L0:List Xd} {r0:List Bool×List Xg} (h0:goR c L0 0 (z29 c) [] = .inr r0) :
  ∃ (u:List (List Int)) (e:Int) (S':List Xh),Bd 5000 10000 u∧z1x c S'∧∀ L,L.length≤40000→bare L=bare L0→(∃ r,goR c L 0 (z29 c) [] = .inr r) →
   Got ((k147 n).G ((⟨zx c L,Sl⟩:Xi),G,P)) (fun (y:z9r)=>y=(u,e,c.Sign_,c.Regs_,c.Slots_,L,S')):=by
 obtain ⟨u,e,S',h1,h2,h3⟩:=zyr hn F hS G P h0
 refine ⟨u,e,S',h1,h2,fun L hL hB hg=>?_⟩
 show Ans (zkm n ((⟨zx c L,Sl⟩:Xi),G,P)) _
 unfold zkm
 refine z8 (fun (y:zqj)=>∃ w,y=(u,e,w,c.Sign_,c.Regs_,c.Slots_,L,S')∧w≤totR (z3p c) L) (h3 L hL hB hg) (fun (y:zqj) hy=>?_)
 obtain ⟨w,hy,_⟩:=hy
 subst hy
 exact z0 rfl
theorem y8p (hn:100000<n) (F:Fine c):∃ S,z1x c S∧∀ L,(chk (zx c L)).1=0→U32s (zx c L)→(k132 n).G (zx c L)=some ((0:Int),c.Sign_,c.Regs_,c.Slots_,L,S):=by
 obtain ⟨b,es,hs⟩:=zyc hn F []
 cases b with
 | go s=>exact hs.elim
 | ret z=>exact hs.elim
 | out y =>
 refine ⟨y.2,hs,fun L hc hu=>?_⟩
 have:Ans (zkd n (zx c L)) (fun z=>z=((0:Int),c.Sign_,c.Regs_,c.Slots_,L,y.2)):=by
  unfold zkd
  refine z8 (fun (z:Yaa)=>z=chk (zx c L)) ⟨_,(zef hn hu.1 hu.2).2,rfl⟩ (fun (y1:Yaa) h1=>?_)
  refine z6 (fun h=>?_) (fun _=>?_)
  ·rw [h1] at h
   rw [hc] at h
   simp at h
  have es2:iter (fun q=>(z5d n (zx c L) () q).run) n (0,[])=iter (fun q=>(z5d n (zx c []) () q).run) n (0,[]):=by kernel_rfl
  refine z1m rfl (fun (z:Int×List Xh)=>z=y) ⟨.out y,es2.trans es,rfl⟩ (fun (z:Int×List Xh) hz=>?_)
  subst hz
  exact z0 rfl
 obtain ⟨z,e1,e2⟩:=this
 rw [← e2]; exact e1
end
end Loom
