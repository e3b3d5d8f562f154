/- The plain law of VerifySpends: what it answers is true,whatever it is handed (part 1 of 1). -/
import Derived.Test.YtkmiaggdcepcdaaGreatVerifySpendsWvB
set_option linter.unusedVariables false
set_option linter.unusedSimpArgs false
set_option maxRecDepth 100000
namespace Loom
open Go
@[simp] theorem orRet_inl {S R:Type} {A:S→Option R} {s:S}:zn A (.inl s)=A s:=rfl
@[simp] theorem orRet_inr {S R:Type} {A:S→Option R} {r:R}:zn A (.inr r)=some r:=rfl
theorem zq {R:Type} {p:Prop} [Decidable p] {x:Option R} (h:p):need p x=x:=by unfold need; rw [if_pos h]
def mayT (l:List Xa) (t:Xb):Bool :=
 bif t.Kind_==3 then decide (t.Param_≥0) && decide (t.Param_<(l.length:Int)) else (t.Kind_==1 || t.Kind_==2) && t.Param_==0
theorem zqw {n:Nat} (c:Xe) (t:Xb):f31 n (c,t)=some (mayT c.Sign_ t):=by
 rw [y2l]
 unfold mayT
 by_cases h1:t.Kind_=1
 ·simp [h1]
 ·by_cases h2:t.Kind_=2
  ·simp [h2]
  ·by_cases h3:t.Kind_=3
   ·by_cases h4:t.Param_≥0 <;> simp [h3,h4]
   ·have e1:(t.Kind_==1)=false:=by simpa using h1
    have e2:(t.Kind_==2)=false:=by simpa using h2
    have e3:(t.Kind_==3)=false:=by simpa using h3
    simp [e1,e2,e3]
theorem zqy {n:Nat} (l:List Xa) (t:Xb):f39 n (t,l)=some (mayT l t):=by
 rw [y2v]
 unfold mayT
 by_cases h1:t.Kind_=1
 ·simp [h1]
 ·by_cases h2:t.Kind_=2
  ·simp [h2]
  ·by_cases h3:t.Kind_=3
   ·by_cases h4:t.Param_≥0 <;> simp [h3,h4]
   ·have e1:(t.Kind_==1)=false:=by simpa using h1
    have e2:(t.Kind_==2)=false:=by simpa using h2
    have e3:(t.Kind_==3)=false:=by simpa using h3
    simp [e1,e2,e3]
def z5o (x:Int):Bool:=decide (x % 2147483648≤2139095040) || x==2143289344
theorem zqc {m:Nat} (h:m<4294967296):IntKind.u32.wrap (m:Int)=m:=by
 have:IntKind.u32.wrap (m:Int)=(m:Int) % 4294967296:=by simp [IntKind.wrap,IntKind.bits,IntKind.signed]
 omega
theorem y7h (x:Int) (h0:0≤x) (h1:x<4294967296):(BitVec.ofInt IntKind.u32.bits x &&& ~~~BitVec.ofInt IntKind.u32.bits 2147483648).toNat=x.toNat % 2147483648:=by
 show (BitVec.ofInt 32 x &&& ~~~BitVec.ofInt 32 2147483648).toNat=_
 have e:(~~~BitVec.ofInt 32 2147483648:BitVec 32)=2147483647#32:=by decide
 rw [e,BitVec.toNat_and]
 have e2:(2147483647#32).toNat=2 ^ 31 - 1:=by decide
 rw [e2,Nat.and_two_pow_sub_one_eq_mod]
 have e3:(BitVec.ofInt 32 x).toNat=x.toNat:=by
  rw [BitVec.toNat_ofInt]
  omega
 rw [e3]
theorem zr1 {n:Nat} (x:Int) (h0:0≤x) (h1:x<4294967296):f52 n x=some (z5o x):=by
 rw [y3b,y7h x h0 h1,zqc (by omega)]
 unfold z5o
 have:((x.toNat % 2147483648:Nat):Int)=x % 2147483648:=by omega
 rw [this]
 cases decide (x % 2147483648≤2139095040) <;> rfl
theorem ze9 {m:Int} (h0:0≤m) (h:m<18446744073709551616):IntKind.u64.wrap m=m:=by
 have:IntKind.u64.wrap m=m % 18446744073709551616:=by simp [IntKind.wrap,IntKind.bits,IntKind.signed]
 omega
theorem zxf (x:Int) (k:Nat) (hk:k<64) (h0:0≤x) (h1:x<18446744073709551616):(BitVec.ofInt IntKind.u64.bits x &&& BitVec.ofInt IntKind.u64.bits ((2 ^ k - 1:Nat):Int)).toNat=x.toNat % 2 ^ k:=by
 show (BitVec.ofInt 64 x &&& BitVec.ofInt 64 _).toNat=_
 rw [BitVec.toNat_and]
 have hp:2 ^ k<2 ^ 64:=Nat.pow_lt_pow_right (by decide) hk
 have e2:(BitVec.ofInt 64 ((2 ^ k - 1:Nat):Int)).toNat=2 ^ k - 1:=by
  rw [BitVec.toNat_ofInt]
  have:(0:Nat)<2 ^ k:=Nat.two_pow_pos k
  omega
 have e3:(BitVec.ofInt 64 x).toNat=x.toNat:=by
  rw [BitVec.toNat_ofInt]
  omega
 rw [e2,e3,Nat.and_two_pow_sub_one_eq_mod]
theorem y0k {n:Nat} (x:Int) (h0:0≤x) (h1:x<4294967296):∃ r,f69 n x=some r∧r.2.2.2.2=(decide (x / 8388608 % 256=255) && decide (x % 8388608 ≠ 0)):=by
 rw [y43]
 have e0:IntKind.u64.wrap x=x:=ze9 h0 (by omega)
 have e1:x.fdiv (2 ^ min (23:Int).toNat IntKind.u64.bits)=x / 8388608:=by
  show x.fdiv 8388608=_
  rw [Int.fdiv_eq_ediv_of_nonneg _ (by decide)]
 have e2:(BitVec.ofInt IntKind.u64.bits (x / 8388608) &&& BitVec.ofInt IntKind.u64.bits (255:Int)).toNat=(x / 8388608).toNat % 256:=zxf (x / 8388608) 8 (by decide) (by omega) (by omega)
 have e3:(BitVec.ofInt IntKind.u64.bits x &&& BitVec.ofInt IntKind.u64.bits (8388607:Int)).toNat=x.toNat % 8388608:=zxf x 23 (by decide) (by omega) (by omega)
 simp only [e0,e1,e2,e3]
 rw [ze9 (m:=(((x / 8388608).toNat % 256:Nat):Int)) (by omega) (by omega),ze9 (m:=((x.toNat % 8388608:Nat):Int)) (by omega) (by omega),z9c (by omega) (by omega)]
 have c1:(((x / 8388608).toNat % 256:Nat):Int)=x / 8388608 % 256:=by omega
 have c2:((x.toNat % 8388608:Nat):Int)=x % 8388608:=by omega
 rw [c1,c2]
 by_cases h:x / 8388608 % 256=255
 ·have q:(x / 8388608 % 256==255)=true:=by simp [h]
  simp only [q,cond_true,Option.bind_some,orRet_inl]
  refine ⟨_,rfl,?_⟩
  rw [decide_eq_true h,Bool.true_and]
  show (x % 8388608 != 0)=_
  by_cases h3:x % 8388608=0 <;> simp [h3]
 ·have q:(x / 8388608 % 256==255)=false:=by simp [h]
  simp only [q,cond_false]
  cases (x / 8388608 % 256==0)
  all_goals
   simp only [cond_false,cond_true,Option.bind_some,orRet_inl]
   refine ⟨_,rfl,?_⟩
   rw [decide_eq_false h,Bool.false_and]
theorem zr3 {n:Nat} (x:Int) (h0:0≤x) (h1:x<4294967296):f58 n x=some (z5o x):=by
 have w:IntKind.i64.wrap x=x:=z9c (by omega) (by omega)
 obtain ⟨r,e,e'⟩:=y0k (n:=n) x h0 h1
 rw [y3l,w,y3x,e]
 simp only [Option.bind_some,e']
 unfold z5o
 by_cases h:x / 8388608 % 256=255∧x % 8388608 ≠ 0
 ·have q:(decide (x / 8388608 % 256=255) && decide (x % 8388608 ≠ 0))=true:=by simp [h]
  have q2:decide (x % 2147483648≤2139095040)=false:=by simp; omega
  rw [q,q2]
  simp only [cond_true,Option.bind_some,Bool.false_or]
  congr 1
  rw [Bool.eq_iff_iff]
  simp
  omega
 ·have q:(decide (x / 8388608 % 256=255) && decide (x % 8388608 ≠ 0))=false:=by
   rw [Bool.eq_false_iff]
   intro hb
   simp only [Bool.and_eq_true,decide_eq_true_eq] at hb
   exact h hb
  have q2:decide (x % 2147483648≤2139095040)=true:=by simp; omega
  rw [q,q2]
  simp
def mayS (l:List Xa) (s:Xc):Bool :=
 mayT l s.Type_ && (bif s.Type_.Kind_==2 then s.Bits_==0 && (decide (s.Int_≥0) && decide (s.Int_≤2147483647)) else s.Int_==0 && z5o s.Bits_)
theorem y2q {n:Nat} (c:Xe) (s:Xc) (h0:0≤s.Bits_) (h1:s.Bits_<4294967296):f34 n (c,s)=some (mayS c.Sign_ s):=by
 rw [y2p,zqw,zr1 _ h0 h1]
 unfold mayS
 simp only [Option.bind_some]
 cases mayT c.Sign_ s.Type_ <;> cases (s.Type_.Kind_==2) <;> cases (s.Bits_==0) <;> cases (s.Int_==0) <;> cases decide (s.Int_≥0) <;> rfl
theorem y2x {n:Nat} (l:List Xa) (s:Xc) (h0:0≤s.Bits_) (h1:s.Bits_<4294967296):f40 n (s,l)=some (mayS l s):=by
 rw [y2w,zqy,zr3 _ h0 h1]
 unfold mayS
 simp only [Option.bind_some]
 cases mayT l s.Type_ <;> cases (s.Type_.Kind_==2) <;> cases (s.Bits_==0) <;> cases (s.Int_==0) <;> cases decide (s.Int_≥0) <;> rfl
structure z2l where
 d:Int
 a:Int
 b:Int
 c:Int
 n:Int
def rowD (op:Int):Option z2l :=
 bif op==1 then some ⟨1,0,0,0,0⟩ else
 bif op==2 then some ⟨2,0,0,0,1⟩ else
 bif op==3 then some ⟨8,7,0,0,0⟩ else
 bif op==4 then some ⟨4,5,5,0,0⟩ else
 bif op==5 then some ⟨4,5,5,0,0⟩ else
 bif op==6 then some ⟨4,5,5,0,0⟩ else
 bif op==7 then some ⟨4,5,5,0,0⟩ else
 bif op==8 then some ⟨4,5,5,0,0⟩ else
 bif op==9 then some ⟨4,5,5,0,0⟩ else
 bif op==10 then some ⟨4,5,5,0,0⟩ else
 bif op==11 then some ⟨4,5,0,0,0⟩ else
 bif op==12 then some ⟨4,5,0,0,0⟩ else
 bif op==13 then some ⟨4,5,0,0,0⟩ else
 bif op==14 then some ⟨4,5,0,0,0⟩ else
 bif op==15 then some ⟨4,5,5,5,0⟩ else
 bif op==16 then some ⟨1,1,2,0,0⟩ else
 bif op==17 then some ⟨1,2,0,0,0⟩ else
 bif op==18 then some ⟨2,1,0,0,0⟩ else
 bif op==19 then some ⟨1,3,0,0,0⟩ else
 bif op==20 then some ⟨1,3,0,0,0⟩ else
 bif op==21 then some ⟨2,2,0,0,0⟩ else
 bif op==22 then some ⟨2,2,2,0,0⟩ else
 bif op==23 then some ⟨2,2,2,0,0⟩ else
 bif op==24 then some ⟨2,2,2,0,0⟩ else
 bif op==25 then some ⟨2,2,0,0,0⟩ else
 bif op==26 then some ⟨2,2,2,2,0⟩ else
 bif op==27 then some ⟨2,2,2,0,0⟩ else
 bif op==28 then some ⟨2,2,2,0,0⟩ else
 bif op==29 then some ⟨3,0,0,0,2⟩ else
 bif op==30 then some ⟨3,0,0,0,2⟩ else
 bif op==31 then some ⟨0,3,0,0,2⟩ else
 bif op==32 then some ⟨8,0,0,0,3⟩ else
 bif op==33 then some ⟨0,8,0,0,3⟩ else
 bif op==34 then some ⟨0,2,0,0,0⟩ else
 bif op==35 then some ⟨0,0,0,0,0⟩ else
 bif op==36 then some ⟨0,0,0,0,4⟩ else
 bif op==37 then some ⟨0,0,0,0,0⟩ else
 none
theorem z3x (op:Int):(op=1∨op=2∨op=3∨op=4∨op=5∨op=6∨op=7∨op=8∨op=9∨op=10∨op=11∨op=12∨op=13∨op=14∨op=15∨op=16∨op=17∨op=18∨op=19∨op=20∨op=21∨op=22∨op=23∨op=24∨op=25∨op=26∨op=27∨op=28∨op=29∨op=30∨op=31∨op=32∨op=33∨op=34∨op=35∨op=36∨op=37)∨(∀ k:Int,1≤k→k≤37→(op==k)=false):=by
 by_cases h:1≤op∧op≤37
 ·left; omega
 ·right
  intro k h1 h2
  simp only [beq_eq_false_iff_ne,ne_eq]
  omega
theorem zj4 {n:Nat} (op:Int):f26 n op=some (match rowD op with | some r=>(true,r.d,r.a,r.b,r.c,r.n) | none=>(false,0,0,0,0,0)):=by
 rw [y2f]
 rcases z3x op with (rfl | rfl | rfl | rfl | rfl | rfl | rfl | rfl | rfl | rfl | rfl | rfl | rfl | rfl | rfl | rfl | rfl | rfl | rfl | rfl | rfl | rfl | rfl | rfl | rfl | rfl | rfl | rfl | rfl | rfl | rfl | rfl | rfl | rfl | rfl | rfl | rfl) | h
 iterate 37 (· kernel_rfl)
 simp only [rowD,h 1 (by decide) (by decide),h 2 (by decide) (by decide),h 3 (by decide) (by decide),h 4 (by decide) (by decide),h 5 (by decide) (by decide),h 6 (by decide) (by decide),h 7 (by decide) (by decide),h 8 (by decide) (by decide),h 9 (by decide) (by decide),h 10 (by decide) (by decide),h 11 (by decide) (by decide),h 12 (by decide) (by decide),h 13 (by decide) (by decide),h 14 (by decide) (by decide),h 15 (by decide) (by decide),h 16 (by decide) (by decide),h 17 (by decide) (by decide),h 18 (by decide) (by decide),h 19 (by decide) (by decide),h 20 (by decide) (by decide),h 21 (by decide) (by decide),h 22 (by decide) (by decide),h 23 (by decide) (by decide),h 24 (by decide) (by decide),h 25 (by decide) (by decide),h 26 (by decide) (by decide),h 27 (by decide) (by decide),h 28 (by decide) (by decide),h 29 (by decide) (by decide),h 30 (by decide) (by decide),h 31 (by decide) (by decide),h 32 (by decide) (by decide),h 33 (by decide) (by decide),h 34 (by decide) (by decide),h 35 (by decide) (by decide),h 36 (by decide) (by decide),h 37 (by decide) (by decide),cond_false,Option.bind_some,orRet_inl]
def z3w (s:Int):UInt8:=bif s==1 then 110 else bif s==2 then 119 else bif s==3 then 118 else bif s==4 then 100 else bif s==5 then 120 else bif s==7 then 99 else bif s==8 then 97 else 45
def z65 (s:Int):UInt8:=bif s==1 then 105 else bif s==2 then 112 else bif s==3 then 115 else bif s==4 then 113 else 45
def z36 (r:z2l):ByteArray:=⟨#[z3w r.d,z3w r.a,z3w r.b,z3w r.c,z65 r.n]⟩
theorem zj5 {n:Nat} (op:Int):f27 n op=some (match rowD op with | some r=>(z36 r,true) | none=>(⟨#[]⟩,false)):=by
 rw [y2g]
 rcases z3x op with (rfl | rfl | rfl | rfl | rfl | rfl | rfl | rfl | rfl | rfl | rfl | rfl | rfl | rfl | rfl | rfl | rfl | rfl | rfl | rfl | rfl | rfl | rfl | rfl | rfl | rfl | rfl | rfl | rfl | rfl | rfl | rfl | rfl | rfl | rfl | rfl | rfl) | h
 iterate 37 (· kernel_rfl)
 simp only [rowD,h 1 (by decide) (by decide),h 2 (by decide) (by decide),h 3 (by decide) (by decide),h 4 (by decide) (by decide),h 5 (by decide) (by decide),h 6 (by decide) (by decide),h 7 (by decide) (by decide),h 8 (by decide) (by decide),h 9 (by decide) (by decide),h 10 (by decide) (by decide),h 11 (by decide) (by decide),h 12 (by decide) (by decide),h 13 (by decide) (by decide),h 14 (by decide) (by decide),h 15 (by decide) (by decide),h 16 (by decide) (by decide),h 17 (by decide) (by decide),h 18 (by decide) (by decide),h 19 (by decide) (by decide),h 20 (by decide) (by decide),h 21 (by decide) (by decide),h 22 (by decide) (by decide),h 23 (by decide) (by decide),h 24 (by decide) (by decide),h 25 (by decide) (by decide),h 26 (by decide) (by decide),h 27 (by decide) (by decide),h 28 (by decide) (by decide),h 29 (by decide) (by decide),h 30 (by decide) (by decide),h 31 (by decide) (by decide),h 32 (by decide) (by decide),h 33 (by decide) (by decide),h 34 (by decide) (by decide),h 35 (by decide) (by decide),h 36 (by decide) (by decide),h 37 (by decide) (by decide),cond_false,Option.bind_some,orRet_inl]
theorem z4a {op:Int} (h:∀ k:Int,1≤k→k≤37→(op==k)=false):rowD op=none:=by
 simp only [rowD,h 1 (by decide) (by decide),h 2 (by decide) (by decide),h 3 (by decide) (by decide),h 4 (by decide) (by decide),h 5 (by decide) (by decide),h 6 (by decide) (by decide),h 7 (by decide) (by decide),h 8 (by decide) (by decide),h 9 (by decide) (by decide),h 10 (by decide) (by decide),h 11 (by decide) (by decide),h 12 (by decide) (by decide),h 13 (by decide) (by decide),h 14 (by decide) (by decide),h 15 (by decide) (by decide),h 16 (by decide) (by decide),h 17 (by decide) (by decide),h 18 (by decide) (by decide),h 19 (by decide) (by decide),h 20 (by decide) (by decide),h 21 (by decide) (by decide),h 22 (by decide) (by decide),h 23 (by decide) (by decide),h 24 (by decide) (by decide),h 25 (by decide) (by decide),h 26 (by decide) (by decide),h 27 (by decide) (by decide),h 28 (by decide) (by decide),h 29 (by decide) (by decide),h 30 (by decide) (by decide),h 31 (by decide) (by decide),h 32 (by decide) (by decide),h 33 (by decide) (by decide),h 34 (by decide) (by decide),h 35 (by decide) (by decide),h 36 (by decide) (by decide),h 37 (by decide) (by decide),cond_false]
def z19 (i:Xd):List Int:=match rowD i.Op_ with
 | some r=>(bif r.a==0 then [] else [i.A_])++((bif r.b==0 then [] else [i.B_])++(bif r.c==0 then [] else [i.C_]))
 | none=>[]
def sets (i:Xd):Bool:=match rowD i.Op_ with | some r=>!(r.d==0) | none=>false
theorem zxj (m:Nat) (i:Xd):f9 (m+4) i=some (z19 i):=by
 obtain ⟨op,d,a,b,c,N,bits⟩:=i
 rcases z3x op with (rfl | rfl | rfl | rfl | rfl | rfl | rfl | rfl | rfl | rfl | rfl | rfl | rfl | rfl | rfl | rfl | rfl | rfl | rfl | rfl | rfl | rfl | rfl | rfl | rfl | rfl | rfl | rfl | rfl | rfl | rfl | rfl | rfl | rfl | rfl | rfl | rfl) | h
 iterate 37 (· kernel_rfl)
 rw [y7n,zj4]
 simp only [z19,z4a h]
 kernel_rfl
theorem y1w (m:Nat) (i:Xd):f10 (m+4) i=some (z19 i):=by
 obtain ⟨op,d,a,b,c,N,bits⟩:=i
 rcases z3x op with (rfl | rfl | rfl | rfl | rfl | rfl | rfl | rfl | rfl | rfl | rfl | rfl | rfl | rfl | rfl | rfl | rfl | rfl | rfl | rfl | rfl | rfl | rfl | rfl | rfl | rfl | rfl | rfl | rfl | rfl | rfl | rfl | rfl | rfl | rfl | rfl | rfl) | h
 iterate 37 (· kernel_rfl)
 rw [y1v,zj5]
 simp only [z19,z4a h]
 kernel_rfl
theorem zqt (n:Nat) (i:Xd):f11 n i=some (sets i):=by
 obtain ⟨op,d,a,b,c,N,bits⟩:=i
 rcases z3x op with (rfl | rfl | rfl | rfl | rfl | rfl | rfl | rfl | rfl | rfl | rfl | rfl | rfl | rfl | rfl | rfl | rfl | rfl | rfl | rfl | rfl | rfl | rfl | rfl | rfl | rfl | rfl | rfl | rfl | rfl | rfl | rfl | rfl | rfl | rfl | rfl | rfl) | h
 iterate 37 (· kernel_rfl)
 rw [y1x,zj4]
 simp only [sets,z4a h]
 kernel_rfl
theorem y1z (n:Nat) (i:Xd):f12 n i=some (sets i):=by
 obtain ⟨op,d,a,b,c,N,bits⟩:=i
 rcases z3x op with (rfl | rfl | rfl | rfl | rfl | rfl | rfl | rfl | rfl | rfl | rfl | rfl | rfl | rfl | rfl | rfl | rfl | rfl | rfl | rfl | rfl | rfl | rfl | rfl | rfl | rfl | rfl | rfl | rfl | rfl | rfl | rfl | rfl | rfl | rfl | rfl | rfl) | h
 iterate 37 (· kernel_rfl)
 rw [y1y,zj5]
 simp only [sets,z4a h]
 kernel_rfl
def elem (op:Int):Bool:=bif decide (op≥3) then decide (op≤15) else false
theorem zqu (n:Nat) (op:Int):f13 n op=some (elem op):=by
 rw [y2a]; unfold elem; cases decide (op≥3) <;> rfl
theorem y2c (n:Nat) (op:Int):f14 n op=some (elem op):=by
 rw [y2b]; unfold elem; cases decide (op≥3) <;> rfl
abbrev ty0:Xb:=⟨0,0⟩
def eqTy (t d:Xb):Bool:=t.Kind_==d.Kind_ && (t.Param_==d.Param_ && true)
def isS (t:Xb) (s:Int) (d:Xb):Bool :=
 bif s==1 then t.Kind_==1 else bif s==2 then t.Kind_==2 else bif s==3 then t.Kind_==3 else bif s==4 then t.Kind_ != 2 else
 bif s==5 then (t.Kind_==1 || eqTy t d) else bif s==7 then (eqTy t d || (t.Kind_==1 && d.Kind_==3)) else true
theorem y3f {n:Nat} (t:Xb) (s:Int) (d:Xb) (h:s ≠ 6):f54 n (t,s,d)=some (isS t s d):=by
 have h6:(s==6)=false:=by simpa using h
 rw [y3e]
 unfold isS eqTy
 simp only [h6,cond_false]
 cases (s==1) <;> cases (s==2) <;> cases (s==3) <;> cases (s==4) <;> cases (s==5) <;> cases (s==7) <;> cases (t.Kind_==1) <;> cases (t.Kind_==d.Kind_ && (t.Param_==d.Param_ && true)) <;> cases (d.Kind_==3) <;> rfl
theorem z26 {α:Type} {l:List α} {n:Int} (h:n<0∨n≥l.length):idx l n=none:=by
 unfold idx
 split
 ·rcases h with h | h
  ·omega
  ·rw [List.getElem?_eq_none]; omega
 ·rfl
theorem z2s {α:Type} {l:List α} {n:Int} (h0:0≤n) (h1:n<l.length):∃ y,idx l n=some y∧y ∈ l:=by
 unfold idx
 rw [if_pos h0]
 have:n.toNat<l.length:=by omega
 exact ⟨l[n.toNat],by simp [this],List.getElem_mem this⟩
theorem z1j {α:Type} {l:List α} {n:Int} {y:α} (h:idx l n=some y):y ∈ l∧0≤n∧n<l.length:=by
 unfold idx at h
 split at h
 ·rename_i h0
  obtain ⟨h1,h2⟩:=List.getElem?_eq_some_iff.1 h
  exact ⟨h2 ▸ List.getElem_mem h1,h0,by omega⟩
 ·cases h
theorem y3d {n:Nat} (a:List Xa) (b:List Xb) (c:List Xc) (d:List Xd) (e:List Bool) (f:List (List Int)) (g:List Int) (k:Int) :
  f53 n (a,b,c,d,e,f,g,k)=some (match idx b k with | some t=>(true,a,b,c,d,e,f,g,t.Kind_,t.Param_) | none=>(false,a,b,c,d,e,f,g,0,0)):=by
 rw [y3c]
 by_cases h:k<0
 ·rw [z26 (.inl h)]; simp [h]
 ·by_cases h2:k≥b.length
  ·rw [z26 (.inr h2)]; simp [h,h2]
  ·obtain ⟨y,hy,_⟩:=z2s (l:=b) (n:=k) (by omega) (by omega)
   rw [hy]
   have e1:decide (k<0)=false:=by simpa using h
   have e2:decide (k≥(b.length:Int))=false:=by simp; omega
   simp [e1,e2,hy]
theorem y45 {n:Nat} (c:Xe) (k:Int):f70 n (c,k)=some (match idx c.Regs_ k with | some t=>(true,t.Kind_,t.Param_) | none=>(false,0,0)):=by
 rw [y44]
 by_cases h:k<0
 ·rw [z26 (.inl h)]; simp [h]
 ·by_cases h2:k≥c.Regs_.length
  ·rw [z26 (.inr h2)]; simp [h,h2]
  ·obtain ⟨y,hy,_⟩:=z2s (l:=c.Regs_) (n:=k) (by omega) (by omega)
   rw [hy]
   have e1:decide (k<0)=false:=by simpa using h
   have e2:decide (k≥(c.Regs_.length:Int))=false:=by simp; omega
   simp [e1,e2,hy]
theorem zcd {l:List Xa} {t:Xb} (h:mayT l t=true):t.Kind_=1∨t.Kind_=2∨(t.Kind_=3∧0≤t.Param_∧t.Param_<l.length):=by
 unfold mayT at h
 by_cases h3:t.Kind_=3
 ·simp [h3] at h
  exact .inr (.inr ⟨h3,h.1,h.2⟩)
 ·have e3:(t.Kind_==3)=false:=by simpa using h3
  rw [e3] at h
  simp at h
  rcases h.1 with h | h
  ·exact .inl h
  ·exact .inr (.inl h)
def zr (c:Xe) (s k:Int) (d:Xb):Bool:=bif s==0 then k==0 else match idx c.Regs_ k with | none=>false | some t=>isS t s d
def z3l (s:Int):Prop:=s=0∨s=1∨s=2∨s=3∨s=4∨s=5∨s=7∨s=8
theorem zey {n:Nat} {c:Xe} {s k:Int} {d:Xb} (hs:z3l s) (hr:∀ t ∈ c.Regs_,mayT c.Sign_ t=true):f66 n (c,((z3w s).toNat:Int),k,d)=some (zr c s k d):=by
 rw [y3y,y45]
 unfold zr
 cases hi:idx c.Regs_ k with
 | none=>rcases hs with rfl | rfl | rfl | rfl | rfl | rfl | rfl | rfl <;> kernel_rfl
 | some t =>
  have hk:=zcd (hr t (z1j hi).1)
  rcases hs with rfl | rfl | rfl | rfl | rfl | rfl | rfl | rfl
  ·rfl
  ·rfl
  ·rfl
  ·rfl
  ·rcases hk with h | h | ⟨h,_⟩ <;> simp [h,z3w,isS]
  ·show (bif t.Kind_==1 then some true else some (eqTy t d))=some (t.Kind_==1 || eqTy t d)
   cases (t.Kind_==1) <;> rfl
  ·show (bif eqTy t d then some true else bif t.Kind_==1 then some (d.Kind_==3) else some false)=some (eqTy t d || (t.Kind_==1 && d.Kind_==3))
   cases eqTy t d <;> cases (t.Kind_==1) <;> rfl
  ·rfl
theorem zoy {op:Int} {r:z2l} (h:rowD op=some r):(z3l r.d∧z3l r.a∧z3l r.b∧z3l r.c)∧((r.n=0∨r.n=1∨r.n=3∨r.n=4)∨r.n=2∧(r.d=3∨r.d=0∧r.a=3)):=by
 rcases z3x op with (rfl | rfl | rfl | rfl | rfl | rfl | rfl | rfl | rfl | rfl | rfl | rfl | rfl | rfl | rfl | rfl | rfl | rfl | rfl | rfl | rfl | rfl | rfl | rfl | rfl | rfl | rfl | rfl | rfl | rfl | rfl | rfl | rfl | rfl | rfl | rfl | rfl) | h0
 iterate 37 (· cases h; simp [z3l])
 rw [z4a h0] at h; cases h
def tyD (c:Xe) (r:z2l) (i:Xd):Xb:=bif r.d==0 then ty0 else (idx c.Regs_ i.D_).getD ty0
def tyF (c:Xe) (r:z2l) (i:Xd):Xb:=bif r.d==0 then (bif r.a==0 then ty0 else (idx c.Regs_ i.A_).getD ty0) else (idx c.Regs_ i.D_).getD ty0
def nOk (c:Xe) (s N:Int) (t:Xb):Bool :=
 bif s==1 then decide (N≥0) && decide (N≤2147483647) else
 bif s==2 then (N==0 || (N==1 && (match idx c.Sign_ t.Param_ with | some p=>p.Kind_==2 | none=>false))) else
 bif s==3 then (match idx c.Slots_ N with | some z=>eqTy z.Type_ t | none=>false) else
 bif s==4 then decide (N≥0) && decide (N<(c.Sign_.length:Int)) else N==0
def z6o (i:Xd):Bool:=bif i.Op_==1 then z5o i.Bits_ else i.Bits_==0
def fits (c:Xe) (i:Xd):Bool:=match rowD i.Op_ with
 | none=>false
 | some r=>zr c r.d i.D_ ty0 && (zr c r.a i.A_ (tyD c r i) && (zr c r.b i.B_ (tyD c r i) && (zr c r.c i.C_ (tyD c r i) && (z6o i && nOk c r.n i.N_ (tyF c r i)))))
theorem y40 {n:Nat} {c:Xe} {N p:Int} (hp:0≤p∧p<c.Sign_.length):f67 n (c,N,p)=some (N==0 || (N==1 && (match idx c.Sign_ p with | some p=>p.Kind_==2 | none=>false))):=by
 rw [y3z]
 obtain ⟨y,hy,_⟩:=z2s (l:=c.Sign_) hp.1 hp.2
 rw [hy]
 cases (N==0) <;> cases (N==1) <;> simp
theorem isS3 {t d:Xb} (h:isS t 3 d=true):t.Kind_=3:=by simpa [isS] using h
theorem zos {c:Xe} {i:Xd} {r:z2l} (hr:∀ t ∈ c.Regs_,mayT c.Sign_ t=true) (hp:r.d=3∨r.d=0∧r.a=3) (h1:zr c r.d i.D_ ty0=true) (h2:zr c r.a i.A_ (tyD c r i)=true):0≤(tyF c r i).Param_∧(tyF c r i).Param_<c.Sign_.length:=by
 have key:∀ (k:Int) (d:Xb),zr c 3 k d=true→∃ t,idx c.Regs_ k=some t∧0≤t.Param_∧t.Param_<c.Sign_.length:=fun k d h=>by
  unfold zr at h
  have e:((3:Int)==0)=false:=by decide
  rw [e,cond_false] at h
  split at h
  ·cases h
  ·rename_i t ht
   have h3:=isS3 h
   rcases zcd (hr t (z1j ht).1) with q | q | q
   ·omega
   ·omega
   ·exact ⟨t,ht,q.2⟩
 rcases hp with hp | ⟨hp,hq⟩
 ·rw [hp] at h1
  obtain ⟨t,ht,h⟩:=key _ _ h1
  unfold tyF
  rw [hp]
  simpa [ht] using h
 ·rw [hq] at h2
  obtain ⟨t,ht,h⟩:=key _ _ h2
  unfold tyF
  rw [hp,hq]
  simpa [ht] using h
theorem zhp {s:Int} (h:z3l s):(((z3w s).toNat:Int) != 45) = !(s==0):=by
 rcases h with rfl | rfl | rfl | rfl | rfl | rfl | rfl | rfl <;> rfl
theorem zv2 {s:Int} (h:z3l s):(((z3w s).toNat:Int)==45)=(s==0):=by
 rcases h with rfl | rfl | rfl | rfl | rfl | rfl | rfl | rfl <;> rfl
theorem z96 (r:z2l):((z36 r).size:Int)=5:=rfl
theorem zzt (r:z2l):za (z36 r) 0=((z3w r.d).toNat:Int):=rfl
theorem zzu (r:z2l):za (z36 r) 1=((z3w r.a).toNat:Int):=rfl
theorem y9i (r:z2l):za (z36 r) 2=((z3w r.b).toNat:Int):=rfl
theorem y9j (r:z2l):za (z36 r) 3=((z3w r.c).toNat:Int):=rfl
theorem zzv (r:z2l):za (z36 r) 4=((z65 r.n).toNat:Int):=rfl
theorem z2r {c:Xe} {s k:Int} {d:Xb} (h:zr c s k d=true) (hs:(s==0)=false):∃ t,idx c.Regs_ k=some t:=by
 unfold zr at h
 rw [hs,cond_false] at h
 split at h
 ·cases h
 ·rename_i t ht; exact ⟨t,ht⟩
theorem y3n {n:Nat} {c:Xe} {i:Xd} (hr:∀ t ∈ c.Regs_,mayT c.Sign_ t=true) (h0:0≤i.Bits_) (h1:i.Bits_<4294967296):f59 n (c,i)=some (fits c i):=by
 rw [y3m,zj5]
 unfold fits
 cases h:rowD i.Op_ with
 | none=>rfl
 | some r =>
  obtain ⟨⟨s1,s2,s3,s4⟩,hn⟩:=zoy h
  have n1:(0:Int)≤0∧(0:Int)<5:=by decide
  have n2:(0:Int)≤1∧(1:Int)<5:=by decide
  have n3:(0:Int)≤2∧(2:Int)<5:=by decide
  have n4:(0:Int)≤3∧(3:Int)<5:=by decide
  have n5:(0:Int)≤4∧(4:Int)<5:=by decide
  simp only [Option.bind_some,Bool.not_true,cond_false,zr3 _ h0 h1]
  have hB:(bif (i.Op_ != 1) then (bif (i.Bits_ != 0) then some (Sum.inl (z36 r,true)) else some (Sum.inl (z36 r,!z5o i.Bits_))) else some (Sum.inl (z36 r,!z5o i.Bits_)):Option (ByteArray×Bool⊕Bool))=some (.inl (z36 r,!(z6o i))):=by
   unfold z6o
   by_cases q:i.Op_=1
   ·simp [q]
   ·by_cases q2:i.Bits_=0
    ·have:z5o 0=true:=by decide
     simp [q,q2,this]
    ·have e1:(i.Op_==1)=false:=by simpa using q
     have e2:(i.Bits_==0)=false:=by simpa using q2
     simp [bne,e1,e2]
  rw [hB,Option.bind_some,orRet_inl]
  dsimp only
  cases hb:z6o i with
  | false=>simp
  | true =>
   simp only [Bool.not_true,cond_false,z96,zq n1,zzt,zhp s1,zey s1 hr,Option.bind_some]
   have hD:(bif !(r.d==0) then (bif !(zr c r.d i.D_ ty0) then some (Sum.inr false) else (idx c.Regs_ i.D_).bind fun y5=>some (Sum.inl (z36 r,y5.Kind_,y5.Param_))) else (bif i.D_ != 0 then some (Sum.inr false) else some (Sum.inl (z36 r,0,0))):Option (ByteArray×Int×Int⊕Bool))
     = bif zr c r.d i.D_ ty0 then some (.inl (z36 r,(tyD c r i).Kind_,(tyD c r i).Param_)) else some (.inr false):=by
    cases hz:r.d==0 with
    | true =>
     have:zr c r.d i.D_ ty0=(i.D_==0):=by unfold zr; rw [hz]; rfl
     rw [this]
     unfold tyD
     rw [hz]
     have e:(i.D_ != 0) = !(i.D_==0):=rfl
     rw [e]
     cases i.D_==0 <;> rfl
    | false =>
     cases hq:zr c r.d i.D_ ty0 with
     | false=>simp
     | true =>
      obtain ⟨t,ht⟩:=z2r hq hz
      unfold tyD
      rw [hz,ht]
      simp
   rw [hD]
   cases hd:zr c r.d i.D_ ty0 with
   | false=>simp
   | true =>
    simp only [cond_true,Option.bind_some,orRet_inl,z96,zq n2,zq n3,zq n4,zzu,y9i,y9j,zey s2 hr,zey s3 hr,zey s4 hr,Bool.true_and]
    cases ha:zr c r.a i.A_ (tyD c r i) with
    | false=>simp
    | true =>
     cases hbb:zr c r.b i.B_ (tyD c r i) with
     | false=>simp
     | true =>
      cases hcc:zr c r.c i.C_ (tyD c r i) with
      | false=>simp
      | true =>
       simp only [cond_true,cond_false,Bool.not_true,Option.bind_some,orRet_inl,z96,zq n1,zq n2,zq n5,zzt,zzu,zzv,zv2 s1,zhp s2,Bool.true_and]
       have hF:((bif r.d==0 then some (Sum.inl (z36 r,!(r.a==0),(tyD c r i).Kind_,(tyD c r i).Param_)) else some (Sum.inl (z36 r,false,(tyD c r i).Kind_,(tyD c r i).Param_)):Option (ByteArray×Bool×Int×Int⊕(ByteArray×Int×Int⊕Bool))).bind (zn fun s4=>bif s4.2.1 then (idx c.Regs_ i.A_).bind fun y9=>some (Sum.inl (s4.1,y9.Kind_,y9.Param_)) else some (Sum.inl (s4.1,s4.2.2.1,s4.2.2.2))))
         = some (.inl (z36 r,(tyF c r i).Kind_,(tyF c r i).Param_)):=by
        unfold tyF tyD
        cases hz:r.d==0 with
        | false=>simp
        | true =>
         cases hza:r.a==0 with
         | true=>simp
         | false =>
          obtain ⟨t,ht⟩:=z2r ha hza
          simp [ht]
       rw [hF]
       simp only [Option.bind_some,orRet_inl,z96,zq n5,zzv]
       unfold nOk
       rcases hn with (hn | hn | hn | hn) | ⟨hn,hp⟩
       ·simp only [hn,z65]
        rfl
       ·simp only [hn,z65]
        show (bif decide (i.N_≥0) then some (decide (i.N_≤2147483647)) else some false)=some (decide (i.N_≥0) && decide (i.N_≤2147483647))
        cases decide (i.N_≥0) <;> rfl
       ·simp only [hn,z65]
        show (bif decide (i.N_≥0) then bif decide (i.N_<(c.Slots_.length:Int)) then (idx c.Slots_ i.N_).bind fun y11=>some (eqTy y11.Type_ (tyF c r i)) else some false else some false)=some (match idx c.Slots_ i.N_ with | some z=>eqTy z.Type_ (tyF c r i) | none=>false)
        by_cases q:i.N_≥0
        ·by_cases q2:i.N_<c.Slots_.length
         ·obtain ⟨y,hy,_⟩:=z2s (l:=c.Slots_) q q2
          simp [q,q2,hy]
         ·rw [z26 (by omega)]
          simp [q,q2]
        ·rw [z26 (by omega)]
         simp [q]
       ·simp only [hn,z65]
        show (bif decide (i.N_≥0) then some (decide (i.N_<(c.Sign_.length:Int))) else some false)=some (decide (i.N_≥0) && decide (i.N_<(c.Sign_.length:Int)))
        cases decide (i.N_≥0) <;> rfl
       ·have:=zos hr hp hd ha
        simp only [hn,z65]
        show ((f67 n (c,i.N_,(tyF c r i).Param_)).bind fun y10=>some y10)=_
        rw [y40 this]
        rfl
section
variable {n:Nat} {c:Xe} {i:Xd} {set:List Bool} {news:List (List Int)} {op:List Int}
theorem zcw {a b cc d e k dk dp fk fp s m:Int} (hk:k<4) (h1:idx [a,b,cc,d] k=some s) (h2:idx [i.D_,i.A_,i.B_,i.C_] k=some m) (hs:s ≠ 6) :
  zc5 n (c.Sign_,c.Regs_,c.Slots_,c.List_,set,news,op,i) (a,b,cc,d,e) (k,c.Sign_,c.Regs_,c.Slots_,c.List_,set,news,op,dk,dp,fk,fp) =
   some (bif zr c s m ⟨dk,dp⟩ then .go (IntKind.i64.wrap (k+1),c.Sign_,c.Regs_,c.Slots_,c.List_,set,news,op,
    (bif s==0 then dk else bif k==0 then ((idx c.Regs_ m).getD ty0).Kind_ else dk),(bif s==0 then dp else bif k==0 then ((idx c.Regs_ m).getD ty0).Param_ else dp),
    (bif s==0 then fk else bif k==0 then ((idx c.Regs_ m).getD ty0).Kind_ else bif k==1 then (bif a==0 then ((idx c.Regs_ m).getD ty0).Kind_ else fk) else fk),
    (bif s==0 then fp else bif k==0 then ((idx c.Regs_ m).getD ty0).Param_ else bif k==1 then (bif a==0 then ((idx c.Regs_ m).getD ty0).Param_ else fp) else fp))
    else .ret (c.Sign_,c.Regs_,c.Slots_,c.List_,set,news,op)):=by
 rw [zh0]
 have hk':decide (k<4)=true:=by simpa using hk
 simp only [hk',cond_true,h1,h2,Option.bind_some]
 unfold zr
 cases hz:s==0 with
 | true =>
  simp only [cond_true]
  have e1:(m != 0) = !(m==0):=rfl
  rw [e1]
  cases m==0 <;> rfl
 | false =>
  simp only [cond_false,y3d]
  cases hi:idx c.Regs_ m with
  | none=>rfl
  | some t =>
   simp only [Option.bind_some,Bool.not_true,cond_false,y3f _ _ _ hs]
   have e2:(⟨t.Kind_,t.Param_⟩:Xb)=t:=rfl
   simp only [e2,Option.bind_some,orRet_inl]
   cases isS t s ⟨dk,dp⟩ <;> cases (k==0) <;> cases (k==1) <;> cases (a==0) <;> rfl
theorem zif {s:Int} (h:z3l s):s ≠ 6:=by
 rcases h with rfl | rfl | rfl | rfl | rfl | rfl | rfl | rfl <;> decide
theorem w1:IntKind.i64.wrap (0+1)=1:=by decide
theorem w2:IntKind.i64.wrap (1+1)=2:=by decide
theorem w3:IntKind.i64.wrap (2+1)=3:=by decide
theorem w4:IntKind.i64.wrap (3+1)=4:=by decide
theorem y0i {a b cc d e dk dp fk fp:Int} :
  zc5 n (c.Sign_,c.Regs_,c.Slots_,c.List_,set,news,op,i) (a,b,cc,d,e) (4,c.Sign_,c.Regs_,c.Slots_,c.List_,set,news,op,dk,dp,fk,fp)=some (.out (4,c.Sign_,c.Regs_,c.Slots_,c.List_,set,news,op,dk,dp,fk,fp)):=by
 rw [zh0]; rfl
theorem zwd {r:z2l} (m:Nat) (h:z3l r.d∧z3l r.a∧z3l r.b∧z3l r.c) :
  iter (zc5 n (c.Sign_,c.Regs_,c.Slots_,c.List_,set,news,op,i) (r.d,r.a,r.b,r.c,r.n)) (m+5) (0,c.Sign_,c.Regs_,c.Slots_,c.List_,set,news,op,0,0,0,0) =
   some (bif zr c r.d i.D_ ty0 && (zr c r.a i.A_ (tyD c r i) && (zr c r.b i.B_ (tyD c r i) && zr c r.c i.C_ (tyD c r i))) then
    .out (4,c.Sign_,c.Regs_,c.Slots_,c.List_,set,news,op,(tyD c r i).Kind_,(tyD c r i).Param_,(tyF c r i).Kind_,(tyF c r i).Param_) else .ret (c.Sign_,c.Regs_,c.Slots_,c.List_,set,news,op)):=by
 obtain ⟨h1,h2,h3,h4⟩:=h
 have eD:∀ b:Bool,b=(r.d==0)→(⟨bif b then 0 else ((idx c.Regs_ i.D_).getD ty0).Kind_,bif b then 0 else ((idx c.Regs_ i.D_).getD ty0).Param_⟩:Xb)=tyD c r i:=by
  intro b hb; unfold tyD; rw [← hb]; cases b <;> rfl
 unfold iter
 rw [zcw (s:=r.d) (m:=i.D_) (by decide) rfl rfl (zif h1)]
 have e0:(⟨0,0⟩:Xb)=ty0:=rfl
 rw [e0]
 cases zr c r.d i.D_ ty0 with
 | false=>rfl
 | true =>
  have k0:((0:Int)==0)=true:=by decide
  simp only [cond_true,w1,k0,Bool.true_and]
  unfold iter
  rw [zcw (s:=r.a) (m:=i.A_) (by decide) rfl rfl (zif h2),eD _ rfl]
  cases zr c r.a i.A_ (tyD c r i) with
  | false=>rfl
  | true =>
   have k1:((1:Int)==0)=false:=by decide
   have k2:((1:Int)==1)=true:=by decide
   simp only [cond_true,w2,k1,k2,cond_false,Bool.true_and,Bool.cond_self]
   unfold iter
   rw [zcw (s:=r.b) (m:=i.B_) (by decide) rfl rfl (zif h3),eD _ rfl]
   cases zr c r.b i.B_ (tyD c r i) with
   | false=>rfl
   | true =>
    have k3:((2:Int)==0)=false:=by decide
    have k4:((2:Int)==1)=false:=by decide
    simp only [cond_true,w3,k3,k4,cond_false,Bool.true_and,Bool.cond_self]
    unfold iter
    rw [zcw (s:=r.c) (m:=i.C_) (by decide) rfl rfl (zif h4),eD _ rfl]
    cases zr c r.c i.C_ (tyD c r i) with
    | false=>rfl
    | true =>
     have k5:((3:Int)==0)=false:=by decide
     have k6:((3:Int)==1)=false:=by decide
     simp only [cond_true,w4,k5,k6,cond_false,Bool.true_and,Bool.cond_self]
     unfold iter
     rw [y0i]
     simp only
     congr 13
     all_goals
      first
      | (unfold tyD; cases r.d==0 <;> rfl)
      | (unfold tyF; cases r.d==0 <;> cases r.a==0 <;> rfl)
theorem y2s (m:Nat) (hr:∀ t ∈ c.Regs_,mayT c.Sign_ t=true) (h0:0≤i.Bits_) (h1:i.Bits_<4294967296) :
  f35 (m+5) (c.Sign_,c.Regs_,c.Slots_,c.List_,set,news,op,i)=some (fits c i,c.Sign_,c.Regs_,c.Slots_,c.List_,set,news,op):=by
 rw [y2r,zj4]
 unfold fits
 cases h:rowD i.Op_ with
 | none=>rfl
 | some r =>
  obtain ⟨hs,hn⟩:=zoy h
  simp only [Option.bind_some,Bool.not_true,cond_false,zwd m hs,zr1 _ h0 h1]
  cases hd:zr c r.d i.D_ ty0 with
  | false=>rfl
  | true =>
  cases ha:zr c r.a i.A_ (tyD c r i) with
  | false=>rfl
  | true =>
  cases hbb:zr c r.b i.B_ (tyD c r i) with
  | false=>rfl
  | true =>
  cases hcc:zr c r.c i.C_ (tyD c r i) with
  | false=>rfl
  | true =>
   simp only [Bool.true_and,cond_true,Option.bind_some,Bo.then]
   have hB:(bif (i.Op_==1) then (bif (!z5o i.Bits_) then some (Sum.inl (true,c.Sign_,c.Regs_,c.Slots_,c.List_,set,news,op,r.d,r.a,r.b,r.c,r.n,(tyF c r i).Kind_,(tyF c r i).Param_))
     else (bif i.Op_ != 1 then some (.inl (i.Bits_ != 0,c.Sign_,c.Regs_,c.Slots_,c.List_,set,news,op,r.d,r.a,r.b,r.c,r.n,(tyF c r i).Kind_,(tyF c r i).Param_)) else some (.inl (false,c.Sign_,c.Regs_,c.Slots_,c.List_,set,news,op,r.d,r.a,r.b,r.c,r.n,(tyF c r i).Kind_,(tyF c r i).Param_))))
     else (bif i.Op_ != 1 then some (.inl (i.Bits_ != 0,c.Sign_,c.Regs_,c.Slots_,c.List_,set,news,op,r.d,r.a,r.b,r.c,r.n,(tyF c r i).Kind_,(tyF c r i).Param_)) else some (.inl (false,c.Sign_,c.Regs_,c.Slots_,c.List_,set,news,op,r.d,r.a,r.b,r.c,r.n,(tyF c r i).Kind_,(tyF c r i).Param_))) :
      Option ((Bool×List Xa×List Xb×List Xc×List Xd×List Bool×List (List Int)×List Int×Int×Int×Int×Int×Int×Int×Int)⊕(Bool×List Xa×List Xb×List Xc×List Xd×List Bool×List (List Int)×List Int)))
     = some (.inl (!(z6o i),c.Sign_,c.Regs_,c.Slots_,c.List_,set,news,op,r.d,r.a,r.b,r.c,r.n,(tyF c r i).Kind_,(tyF c r i).Param_)):=by
    unfold z6o
    have e1:(i.Op_ != 1) = !(i.Op_==1):=rfl
    have e2:(i.Bits_ != 0) = !(i.Bits_==0):=rfl
    rw [e1,e2]
    cases i.Op_==1 <;> cases z5o i.Bits_ <;> rfl
   rw [hB,Option.bind_some,orRet_inl]
   dsimp only
   cases hb:z6o i with
   | false=>rfl
   | true =>
    simp only [Bool.not_true,cond_false,Bool.true_and]
    unfold nOk
    rcases hn with (hn | hn | hn | hn) | ⟨hn,hp⟩
    ·rw [hn]; rfl
    ·rw [hn]
     show (bif decide (i.N_≥0) then some (decide (i.N_≤2147483647),c.Sign_,c.Regs_,c.Slots_,c.List_,set,news,op) else some (false,c.Sign_,c.Regs_,c.Slots_,c.List_,set,news,op))=some (decide (i.N_≥0) && decide (i.N_≤2147483647),c.Sign_,c.Regs_,c.Slots_,c.List_,set,news,op)
     cases decide (i.N_≥0) <;> rfl
    ·rw [hn]
     show (bif decide (i.N_≥0) then bif decide (i.N_<(c.Slots_.length:Int)) then (idx c.Slots_ i.N_).bind fun y11=>some (eqTy y11.Type_ (tyF c r i),c.Sign_,c.Regs_,c.Slots_,c.List_,set,news,op) else some (false,c.Sign_,c.Regs_,c.Slots_,c.List_,set,news,op) else some (false,c.Sign_,c.Regs_,c.Slots_,c.List_,set,news,op))=some ((match idx c.Slots_ i.N_ with | some z=>eqTy z.Type_ (tyF c r i) | none=>false),c.Sign_,c.Regs_,c.Slots_,c.List_,set,news,op)
     by_cases q:i.N_≥0
     ·by_cases q2:i.N_<c.Slots_.length
      ·obtain ⟨y,hy,_⟩:=z2s (l:=c.Slots_) q q2
       simp [q,q2,hy]
      ·rw [z26 (by omega)]
       simp [q,q2]
     ·rw [z26 (by omega)]
      simp [q]
    ·rw [hn]
     show (bif decide (i.N_≥0) then some (decide (i.N_<(c.Sign_.length:Int)),c.Sign_,c.Regs_,c.Slots_,c.List_,set,news,op) else some (false,c.Sign_,c.Regs_,c.Slots_,c.List_,set,news,op))=some (decide (i.N_≥0) && decide (i.N_<(c.Sign_.length:Int)),c.Sign_,c.Regs_,c.Slots_,c.List_,set,news,op)
     cases decide (i.N_≥0) <;> rfl
    ·obtain ⟨p1,p2⟩:=zos hr hp hd ha
     obtain ⟨y,hy,_⟩:=z2s (l:=c.Sign_) p1 p2
     rw [hn]
     show (bif i.N_==0 then some (true,c.Sign_,c.Regs_,c.Slots_,c.List_,set,news,op) else bif i.N_==1 then (idx c.Sign_ (tyF c r i).Param_).bind fun y8=>some (y8.Kind_==2,c.Sign_,c.Regs_,c.Slots_,c.List_,set,news,op) else some (false,c.Sign_,c.Regs_,c.Slots_,c.List_,set,news,op))=some ((i.N_==0 || (i.N_==1 && (match idx c.Sign_ (tyF c r i).Param_ with | some p=>p.Kind_==2 | none=>false))),c.Sign_,c.Regs_,c.Slots_,c.List_,set,news,op)
     rw [hy]
     cases (i.N_==0) <;> cases (i.N_==1) <;> simp
end
theorem zf8 {α Y Z:Type} {l:List α} {p:α→Bool} {body:Int→Option (Bo Int Y Z)} {z:Int→Z} {y:Y}
  (hb:∀ (k:Nat) (h:k<l.length),body k=some (bif p l[k] then .go ((k+1:Nat):Int) else .ret (z k))) (he:body l.length=some (.out y)) :
  ∀ (j k f:Nat),k+j=l.length→j<f→iter body f (k:Int)=some (match (l.drop k).findIdx? (fun x=>!p x) with | none=>.out y | some i=>.ret (z ((k+i:Nat):Int)))
 | 0,k,f+1,hk,hf=>by
  obtain rfl:k=l.length:=by omega
  unfold iter
  rw [he]
  simp
 | j+1,k,f+1,hk,hf=>by
  have h:k<l.length:=by omega
  unfold iter
  rw [hb k h,List.drop_eq_getElem_cons h]
  cases hp:p l[k] with
  | false =>
   simp only [cond_false,List.findIdx?_cons,hp,Bool.not_false,if_true]
   rfl
  | true =>
   simp only [cond_true]
   rw [zf8 hb he j (k+1) f (by omega) (by omega)]
   rw [List.findIdx?_cons]
   simp only [hp,Bool.not_true,cond_false,Bool.false_eq_true,if_false]
   cases (l.drop (k+1)).findIdx? (fun x=>!p x) with
   | none=>rfl
   | some i=>simp only [Option.map_some]; congr 4; omega
theorem zwm {α Y Z:Type} {l:List α} {p:α→Bool} {body:Int→Option (Bo Int Y Z)} {z:Int→Z} {y:Y} {f:Nat}
  (hb:∀ (k:Nat) (h:k<l.length),body k=some (bif p l[k] then .go ((k+1:Nat):Int) else .ret (z k))) (he:body l.length=some (.out y)) (hf:l.length<f) :
  iter body f 0=some (match l.findIdx? (fun x=>!p x) with | none=>.out y | some i=>.ret (z (i:Int))):=by
 have:=zf8 hb he l.length 0 f (by omega) hf
 simpa using this
theorem zdv {α:Type} (l:List α) (p:α→Bool):(l.findIdx? (fun x=>!p x)).isNone=l.all p:=by
 induction l with
 | nil=>rfl
 | cons x l ih =>
  rw [List.findIdx?_cons,List.all_cons,← ih]
  cases p x <;> simp
theorem z3m {α Y Z:Type} {l:List α} {p:α→Bool} {body:Int→Option (Bo Int Y Z)} {z:Z} {y:Y} {f:Nat}
  (hb:∀ (k:Nat) (h:k<l.length),body k=some (bif p l[k] then .go ((k+1:Nat):Int) else .ret z)) (he:body l.length=some (.out y)) (hf:l.length<f) :
  iter body f 0=some (bif l.all p then .out y else .ret z):=by
 rw [zwm (z:=fun _=>z) hb he hf,← zdv]
 cases l.findIdx? (fun x=>!p x) <;> rfl
theorem zdm {α S Z:Type} {l:List α} {F:S→α→S} {Inv:S→Prop} {body:Int×S→Option (Bo (Int×S) (Int×S) Z)}
  (hb:∀ (k:Nat) (s:S) (h:k<l.length),Inv s→body (k,s)=some (.go (((k+1:Nat):Int),F s l[k]))∧Inv (F s l[k])) (he:∀ s,Inv s→body (l.length,s)=some (.out ((l.length:Int),s))) :
  ∀ (j k f:Nat) (s:S),k+j=l.length→j<f→Inv s→iter body f ((k:Int),s)=some (.out ((l.length:Int),(l.drop k).foldl F s))
 | 0,k,f+1,s,hk,hf,hi=>by
  obtain rfl:k=l.length:=by omega
  unfold iter
  rw [he s hi]
  simp
 | j+1,k,f+1,s,hk,hf,hi=>by
  have h:k<l.length:=by omega
  obtain ⟨h1,h2⟩:=hb k s h hi
  unfold iter
  rw [h1,List.drop_eq_getElem_cons h]
  exact zdm hb he j (k+1) f _ (by omega) (by omega) h2
theorem zuz {α S Z:Type} {l:List α} {F:S→α→S} {Inv:S→Prop} {body:Int×S→Option (Bo (Int×S) (Int×S) Z)} {f:Nat} {s:S}
  (hb:∀ (k:Nat) (s:S) (h:k<l.length),Inv s→body (k,s)=some (.go (((k+1:Nat):Int),F s l[k]))∧Inv (F s l[k])) (he:∀ s,Inv s→body (l.length,s)=some (.out ((l.length:Int),s)))
  (hf:l.length<f) (hi:Inv s):iter body f (0,s)=some (.out ((l.length:Int),l.foldl F s)):=by
 have:=zdm hb he l.length 0 f s (by omega) hf hi
 simpa using this
theorem z15 {k:Nat} (h:k<4611686018427387904):IntKind.i64.wrap ((k:Int)+1)=((k+1:Nat):Int):=by
 rw [z9c (by omega) (by omega)]; simp
theorem y9w {k:Nat} (h:k<4611686018427387904):IntKind.i64.wrap ((k:Int) - 1)=(k:Int) - 1:=z9c (by omega) (by omega)
theorem z92 (i:Xd):(z19 i).length≤3:=by
 unfold z19
 split
 ·rename_i r _
  cases r.a==0 <;> cases r.b==0 <;> cases r.c==0 <;> simp
 ·simp
theorem zax {c:Xe} {i:Xd} (h:fits c i=true):∃ r,rowD i.Op_=some r∧zr c r.d i.D_ ty0=true∧zr c r.a i.A_ (tyD c r i)=true∧zr c r.b i.B_ (tyD c r i)=true∧zr c r.c i.C_ (tyD c r i)=true:=by
 unfold fits at h
 split at h
 ·cases h
 ·rename_i r hr
  simp only [Bool.and_eq_true] at h
  exact ⟨r,hr,h.1,h.2.1,h.2.2.1,h.2.2.2.1⟩
theorem zbh {c:Xe} {s k:Int} {d:Xb} (h:zr c s k d=true) (hs:(s==0)=false):0≤k∧k<c.Regs_.length:=by
 obtain ⟨t,ht⟩:=z2r h hs
 exact (z1j ht).2
theorem zll {c:Xe} {i:Xd} (h:fits c i=true):∀ y ∈ z19 i,0≤y∧y<c.Regs_.length:=by
 obtain ⟨r,hr,h1,h2,h3,h4⟩:=zax h
 intro y hy
 unfold z19 at hy
 rw [hr] at hy
 simp only [List.mem_append] at hy
 rcases hy with hy | hy | hy
 ·cases hz:r.a==0 with
  | true=>rw [hz] at hy; cases hy
  | false =>
   rw [hz] at hy
   simp only [cond_false,List.mem_singleton] at hy
   subst hy; exact zbh h2 hz
 ·cases hz:r.b==0 with
  | true=>rw [hz] at hy; cases hy
  | false =>
   rw [hz] at hy
   simp only [cond_false,List.mem_singleton] at hy
   subst hy; exact zbh h3 hz
 ·cases hz:r.c==0 with
  | true=>rw [hz] at hy; cases hy
  | false =>
   rw [hz] at hy
   simp only [cond_false,List.mem_singleton] at hy
   subst hy; exact zbh h4 hz
theorem zgi {c:Xe} {i:Xd} (h:fits c i=true) (hs:sets i=true):0≤i.D_∧i.D_<c.Regs_.length:=by
 obtain ⟨r,hr,h1,_⟩:=zax h
 unfold sets at hs
 rw [hr] at hs
 simp only [Bool.not_eq_true'] at hs
 exact zbh h1 hs
def rdOk (set:List Bool) (i:Xd):Bool:=(z19 i).all fun y=>(set[y.toNat]?).getD false
theorem za3 {α:Type} {l:List α} {y:Int} (h0:0≤y) (h1:y<l.length):∃ b,l[y.toNat]? = some b:=by
 have:y.toNat<l.length:=by omega
 exact ⟨_,List.getElem?_eq_getElem this⟩
theorem zj8 {n m:Nat} {c:Xe} {i:Xd} {set:List Bool} {news:List (List Int)} {op:List Int}
  (h:∀ y ∈ z19 i,0≤y∧y<set.length) :
  iter (zj7 n (c.Sign_,c.Regs_,c.Slots_,c.List_,set,news,op,i) (((z19 i).length:Int),z19 i)) (m+4) 0=some (bif rdOk set i then .out ((z19 i).length:Int) else .ret ()):=by
 refine z3m (fun k hk=>?_) ?_ (by have:=z92 i; omega)
 ·have h3:=z92 i
  obtain ⟨y0,y1⟩:=h _ (List.getElem_mem hk)
  obtain ⟨b,hb⟩:=za3 y0 y1
  rw [zh2]
  have e1:decide ((k:Int)<((z19 i).length:Int))=true:=by simp; omega
  have e2:(z19 i)[(k:Int).toNat]? = some (z19 i)[k]:=by simp [hk]
  simp only [e1,cond_true]
  rw [zq (by omega),e2]
  simp only [Option.bind_some]
  rw [zq ⟨y0,y1⟩,hb,z15 (by omega)]
  cases b <;> rfl
 ·rw [zh2]; simp
theorem zwj {n m:Nat} {c:Xe} {i:Xd} {set:List Bool} {op:List Xg} {b0:Bool} (h:∀ y ∈ z19 i,0≤y∧y<set.length) :
  iter (zjb n (c,i,set,op) (b0,z19 i)) (m+4) 0=some (bif rdOk set i then .out ((z19 i).length:Int) else .ret ()):=by
 refine z3m (fun k hk=>?_) ?_ (by have:=z92 i; omega)
 ·have h3:=z92 i
  obtain ⟨y0,y1⟩:=h _ (List.getElem_mem hk)
  obtain ⟨b,hb⟩:=za3 y0 y1
  rw [zh5]
  have e1:decide ((k:Int)<((z19 i).length:Int))=true:=by simp; omega
  have e2:(z19 i)[(k:Int).toNat]? = some (z19 i)[k]:=by simp [hk]
  have e3:idx set (z19 i)[k]=some b:=by unfold idx; rw [if_pos y0,hb]
  simp only [e1,cond_true]
  rw [zq (by omega),e2]
  simp only [Option.bind_some]
  rw [e3,z15 (by omega),hb]
  cases b <;> rfl
 ·rw [zh5]; simp
def lst (op:List Int):Int:=match op.getLast? with | some x=>x | none=>-1
def undo (set:List Bool) (l:List Int):List Bool:=l.foldl (fun s r=>s.set r.toNat false) set
def zdc (c:Xe) (k p:Int):Bool:=match idx c.Regs_ k with | some t=>t.Kind_==3 && (t.Param_==p && true) | none=>false
def onD (i:Xd):Bool:=elem i.Op_ || (i.Op_==29 || (i.Op_==30 || i.Op_==32))
def onA (i:Xd):Bool:=i.Op_==31 || i.Op_==33
def zbk (c:Xe) (i:Xd) (p:Int):Bool:=bif onD i then zdc c i.D_ p else bif onA i then zdc c i.A_ p else false
theorem z55 {α:Type} (l:List α) (h:0<l.length):∃ x,l.getLast? = some x∧l[l.length - 1]? = some x:=by
 rw [List.getLast?_eq_getElem?]
 exact ⟨l[l.length - 1],by simp [h],by simp [h]⟩
theorem z7p {k:Nat} (h0:0<k) (h:k<4611686018427387904):(IntKind.i64.wrap ((k:Int) - 1)).toNat=k - 1∧0≤IntKind.i64.wrap ((k:Int) - 1)∧IntKind.i64.wrap ((k:Int) - 1)<k:=by
 rw [y9w h]; omega
theorem zfb {R:Type} (op:List Int) (h:op.length<4611686018427387904):(bif (decide ((op.length:Int) > (0:Int))) then (need (0≤(IntKind.i64.wrap ((op.length:Int) - (1:Int)))∧(IntKind.i64.wrap ((op.length:Int) - (1:Int)))<(op.length:Int)) ((op[(IntKind.i64.wrap ((op.length:Int) - (1:Int))).toNat]?).bind fun y1=>some (.inl y1))) else (some (.inl (-1:Int))):Option (Int⊕R))=some (.inl (lst op)):=by
 by_cases h0:0<op.length
 ·have e:decide ((op.length:Int) > 0)=true:=by simp; omega
  obtain ⟨w1,w2,w3⟩:=z7p h0 h
  obtain ⟨x,x1,x2⟩:=z55 op h0
  rw [e,cond_true,zq ⟨w2,w3⟩,w1,x2]
  unfold lst
  rw [x1]; rfl
 ·have:op=[]:=List.eq_nil_of_length_eq_zero (by omega)
  subst this
  rfl
section
variable {n:Nat} {c:Xe} {i:Xd} {set:List Bool} {news:List (List Int)} {op:List Int}
theorem zwh (ho:op.length<4611686018427387904) (h:i.Op_=34):f36 n (c.Sign_,c.Regs_,c.Slots_,c.List_,set,news,op,i)=some (!(decide (lst op≥0) || (op.length:Int)==64),c.Sign_,c.Regs_,c.Slots_,c.List_,set,news,op):=by
 rw [zc6]
 dsimp only
 rw [zfb op ho,h]
 have e1:((34:Int)==34)=true:=rfl
 have e2:((34:Int)==36)=false:=rfl
 simp only [Option.bind_some,orRet_inl,e1,e2,cond_true,cond_false]
 cases decide (lst op≥0) <;> cases ((op.length:Int)==64) <;> rfl
theorem zwf (ho:op.length≤64) (h:i.Op_=36):f36 n (c.Sign_,c.Regs_,c.Slots_,c.List_,set,news,op,i)=some (!(decide (lst op≥0) || (op.length:Int)==64),c.Sign_,c.Regs_,c.Slots_,c.List_,set,news,bif (decide (lst op≥0) || (op.length:Int)==64) then op else op++[i.N_]):=by
 rw [zc6]
 dsimp only
 rw [zfb op (by omega),h]
 have e1:((36:Int)==34)=false:=rfl
 have e2:((36:Int)==36)=true:=rfl
 simp only [Option.bind_some,orRet_inl,e1,e2,cond_true,cond_false]
 rw [zq (by simp; omega)]
 cases decide (lst op≥0) <;> cases ((op.length:Int)==64) <;> rfl
theorem zwg (ho:op.length≤64) (h:i.Op_=37):f36 n (c.Sign_,c.Regs_,c.Slots_,c.List_,set,news,op,i)=some (!(decide (lst op<0)),c.Sign_,c.Regs_,c.Slots_,c.List_,set,news,bif decide (lst op<0) then op else op.dropLast):=by
 rw [zc6]
 dsimp only
 rw [zfb op (by omega),h]
 have e1:((37:Int)==34)=false:=rfl
 have e2:((37:Int)==36)=false:=rfl
 have e3:((37:Int)==35)=false:=rfl
 have e4:((37:Int)==37)=true:=rfl
 simp only [Option.bind_some,orRet_inl,e1,e2,e3,e4,cond_true,cond_false]
 cases hl:decide (lst op<0) with
 | true=>rfl
 | false =>
  have h0:0<op.length:=by
   cases op with
   | nil=>simp [lst] at hl
   | cons _ _=>simp
  obtain ⟨w1,w2,w3⟩:=z7p h0 (by omega)
  rw [cond_false,zq ⟨w2,by omega⟩,w1,zq (by omega)]
  simp [List.dropLast_eq_take]
theorem zwe (ho:op.length≤64) (hf:fits c i=true) (h1:i.Op_ ≠ 34) (h2:i.Op_ ≠ 35) (h3:i.Op_ ≠ 36) (h4:i.Op_ ≠ 37) (hD:onD i=true→∃ t,idx c.Regs_ i.D_=some t) (hA:onA i=true→∃ t,idx c.Regs_ i.A_=some t) :
  f36 n (c.Sign_,c.Regs_,c.Slots_,c.List_,set,news,op,i)=some ((bif decide (lst op<0) then true else zbk c i (lst op)),c.Sign_,c.Regs_,c.Slots_,c.List_,set,news,op):=by
 rw [zc6]
 dsimp only
 rw [zfb op (by omega)]
 have e1:(i.Op_==34)=false:=by simpa using h1
 have e2:(i.Op_==36)=false:=by simpa using h3
 have e3:(i.Op_==35)=false:=by simpa using h2
 have e4:(i.Op_==37)=false:=by simpa using h4
 simp only [Option.bind_some,orRet_inl,e1,e2,e3,e4,cond_true,cond_false,zqu]
 cases hl:decide (lst op<0) with
 | true=>rfl
 | false =>
  simp only [cond_false]
  have hB:(bif elem i.Op_ then some (Sum.inl (true,lst op)) else bif i.Op_==29 then some (.inl (true,lst op)) else bif i.Op_==30 then some (.inl (true,lst op)) else some (.inl (i.Op_==32,lst op)):Option (Bool×Int⊕(Bool×List Xa×List Xb×List Xc×List Xd×List Bool×List (List Int)×List Int)))=some (.inl (onD i,lst op)):=by
   unfold onD
   cases elem i.Op_ <;> cases i.Op_==29 <;> cases i.Op_==30 <;> rfl
  rw [hB,Option.bind_some,orRet_inl]
  dsimp only
  unfold zbk
  cases hd:onD i with
  | true =>
   obtain ⟨t,ht⟩:=hD hd
   simp only [cond_true,zdc,ht,Option.bind_some]
  | false =>
   simp only [cond_false]
   have hB2:(bif i.Op_==31 then some (Sum.inl (true,lst op)) else some (.inl (i.Op_==33,lst op)):Option (Bool×Int⊕(Bool×List Xa×List Xb×List Xc×List Xd×List Bool×List (List Int)×List Int)))=some (.inl (onA i,lst op)):=by
    unfold onA
    cases i.Op_==31 <;> rfl
   rw [hB2,Option.bind_some,orRet_inl]
   dsimp only
   cases ha:onA i with
   | true =>
    obtain ⟨t,ht⟩:=hA ha
    simp only [cond_true,zdc,ht,Option.bind_some]
   | false=>rfl
theorem zlw (set:List Bool) (l:List Int):(undo set l).length=set.length:=by
 unfold undo
 induction l generalizing set with
 | nil=>rfl
 | cons x l ih=>simp only [List.foldl_cons]; rw [ih]; simp
theorem y0j {m:Nat} {nl:List Int} (ho:op.length≤64) (h:i.Op_=35) (hn:0<op.length→lst op<0→news.getLast? = some nl∧news.length<4611686018427387904∧nl.length<m+4∧nl.length<4611686018427387904∧∀ r ∈ nl,0≤r∧r<set.length) :
  f36 (m+4) (c.Sign_,c.Regs_,c.Slots_,c.List_,set,news,op,i)=some (!((op.length:Int)==0 || decide (lst op≥0)),c.Sign_,c.Regs_,c.Slots_,c.List_,bif ((op.length:Int)==0 || decide (lst op≥0)) then (set,news,op) else (undo set nl,news.dropLast,op.dropLast)):=by
 rw [zc6]
 dsimp only
 rw [zfb op (by omega),h]
 have e1:((35:Int)==34)=false:=rfl
 have e2:((35:Int)==36)=false:=rfl
 have e3:((35:Int)==35)=true:=rfl
 simp only [Option.bind_some,orRet_inl,e1,e2,e3,cond_true,cond_false]
 have hB:(bif ((op.length:Int)==0) then some (Sum.inl true) else some (.inl (decide (lst op≥0))):Option (Bool⊕(Bool×List Xa×List Xb×List Xc×List Xd×List Bool×List (List Int)×List Int)))=some (.inl ((op.length:Int)==0 || decide (lst op≥0))):=by
  cases (op.length:Int)==0 <;> rfl
 rw [hB,Option.bind_some,orRet_inl]
 cases hq:((op.length:Int)==0 || decide (lst op≥0)) with
 | true=>rfl
 | false =>
  simp only [Bool.or_eq_false_iff,beq_eq_false_iff_ne,ne_eq,decide_eq_false_iff_not] at hq
  have h0:0<op.length:=by omega
  obtain ⟨n1,n2,n3,n4,n5⟩:=hn h0 (by omega)
  have hnl:0<news.length:=by
   cases news with
   | nil=>simp at n1
   | cons _ _=>simp
  obtain ⟨w1,w2,w3⟩:=z7p h0 (by omega)
  obtain ⟨v1,v2,v3⟩:=z7p hnl n2
  have hg:news[news.length - 1]? = some nl:=by rw [← List.getLast?_eq_getElem?]; exact n1
  simp only [cond_false]
  rw [zq ⟨v2,v3⟩,v1,hg]
  simp only [Option.bind_some]
  have hit:iter (zj6 (m+4) (c.Sign_,c.Regs_,c.Slots_,c.List_,set,news,op,i) (nl.length:Int)) (m+4) (0,set)=some (.out ((nl.length:Int),undo set nl)):=by
   refine zuz (F:=fun (s:List Bool) (r:Int)=>s.set r.toNat false) (Inv:=fun (s:List Bool)=>s.length=set.length) (fun k s hk hs=>?_) (fun s hs=>?_) n3 rfl
   ·obtain ⟨r0,r1⟩:=n5 _ (List.getElem_mem hk)
    obtain ⟨b,hb⟩:=za3 (l:=s) r0 (by omega)
    rw [zh1]
    have e1:decide ((k:Int)<(nl.length:Int))=true:=by simp; omega
    have e2:nl[(k:Int).toNat]? = some nl[k]:=by simp [hk]
    dsimp only
    rw [e1,v1,hg]
    simp only [cond_true,Option.bind_some]
    rw [zq (by omega),e2]
    simp only [Option.bind_some]
    rw [zq ⟨r0,by omega⟩,hb,z15 (by omega)]
    exact ⟨rfl,by simpa using hs⟩
   ·rw [zh1]; simp
  rw [hit]
  simp only [Option.bind_some,Bo.then]
  rw [zq ⟨v2,by omega⟩,zq (by omega),zq ⟨w2,by omega⟩,w1,zq (by omega)]
  simp [List.dropLast_eq_take]
end
def z7r (news:List (List Int)) (d:Int):List (List Int):=match news.getLast? with | some l=>news.set (news.length - 1) (l++[d]) | none=>news
section
variable {n:Nat} {c:Xe} {i:Xd} {set:List Bool} {news:List (List Int)} {op:List Int}
theorem zwi {m:Nat} (h:i.Op_=34) (hr:∀ y ∈ z19 i,0≤y∧y<set.length) (ho:op.length≤64) (hn:news.length≤64) :
  f37 (m+4) (c.Sign_,c.Regs_,c.Slots_,c.List_,set,news,op,i)=some (rdOk set i,c.Sign_,c.Regs_,c.Slots_,c.List_,set,bif rdOk set i then news++[[]] else news,bif rdOk set i then op++[-1] else op):=by
 rw [zqx]
 dsimp only
 rw [zxj]
 simp only [Option.bind_some]
 rw [zj8 hr]
 cases rdOk set i with
 | false=>rfl
 | true =>
  have e1:((34:Int)==34)=true:=rfl
  have hs:sets i=false:=by
   unfold sets; rw [h]; rfl
  simp only [cond_true,Option.bind_some,Bo.then,h,e1]
  rw [zq (by simp; omega),zq (by simp; omega)]
  simp only [Option.bind_some,orRet_inl,zqt,hs,cond_false]
theorem zar {m:Nat} (h:i.Op_ ≠ 34) (hr:∀ y ∈ z19 i,0≤y∧y<set.length) (hD:sets i=true→0≤i.D_∧i.D_<set.length) (hn:news.length≤64) (hnl:∀ l ∈ news,l.length<1000000) :
  f37 (m+4) (c.Sign_,c.Regs_,c.Slots_,c.List_,set,news,op,i)=some (rdOk set i,c.Sign_,c.Regs_,c.Slots_,c.List_,bif rdOk set i && (sets i && !((set[i.D_.toNat]?).getD false)) then (set.set i.D_.toNat true,z7r news i.D_,op) else (set,news,op)):=by
 rw [zqx]
 dsimp only
 rw [zxj]
 simp only [Option.bind_some]
 rw [zj8 hr]
 cases rdOk set i with
 | false=>rfl
 | true =>
  have e1:(i.Op_==34)=false:=by simpa using h
  simp only [cond_true,Option.bind_some,Bo.then,e1,cond_false,orRet_inl,zqt]
  cases hs:sets i with
  | false=>rfl
  | true =>
   obtain ⟨d0,d1⟩:=hD hs
   obtain ⟨b,hb⟩:=za3 d0 d1
   simp only [cond_true]
   rw [zq ⟨d0,d1⟩,hb]
   simp only [Option.bind_some,orRet_inl,Option.getD_some]
   cases b with
   | true=>rfl
   | false =>
    simp only [Bool.not_false,cond_true,Bool.and_self]
    rw [zq ⟨d0,d1⟩]
    by_cases h0:0<news.length
    ·obtain ⟨w1,w2,w3⟩:=z7p h0 (by omega)
     obtain ⟨l,l1,l2⟩:=z55 news h0
     have e2:decide (IntKind.i64.wrap ((news.length:Int) - 1)≥0)=true:=by simpa using w2
     have hl:l.length<1000000:=hnl l (List.mem_of_getLast? l1)
     rw [e2,cond_true,zq ⟨w2,w3⟩,w1,l2]
     simp only [Option.bind_some]
     rw [zq (by simp; omega),zq ⟨w2,w3⟩,zq (p:=True∧news.length - 1<news.length) ⟨trivial,by omega⟩]
     unfold z7r
     rw [l1]
    ·have:news=[]:=List.eq_nil_of_length_eq_zero (by omega)
     subst this
     rfl
end
def vecP (c:Xe) (i:Xd):Int:=match idx c.Regs_ (bif onD i then i.D_ else bif onA i then i.A_ else -1) with | some t=>bif t.Kind_==3 then t.Param_ else -1 | none=>-1
theorem y3p {n:Nat} {c:Xe} {i:Xd}:f60 n (c,i)=some (vecP c i):=by
 rw [y3o]
 simp only [y2c,Option.bind_some]
 have hB:((bif elem i.Op_ then some (Sum.inl true) else bif i.Op_==29 then some (.inl true) else bif i.Op_==30 then some (.inl true) else some (.inl (i.Op_==32)):Option (Bool⊕(Int⊕Int))).bind (zn fun s1=>bif s1 then some (Sum.inl i.D_) else (bif i.Op_==31 then some (Sum.inl true) else some (.inl (i.Op_==33)):Option (Bool⊕(Int⊕Int))).bind (zn fun s2=>bif s2 then some (Sum.inl i.A_) else some (.inl (-1:Int)))))
   = some (.inl (bif onD i then i.D_ else bif onA i then i.A_ else -1)):=by
  unfold onD onA
  cases elem i.Op_ <;> cases i.Op_==29 <;> cases i.Op_==30 <;> cases i.Op_==32 <;> cases i.Op_==31 <;> cases i.Op_==33 <;> rfl
 rw [hB,Option.bind_some,orRet_inl]
 unfold vecP
 generalize (bif onD i then i.D_ else bif onA i then i.A_ else -1)=k
 by_cases h0:k<0
 ·rw [z26 (.inl h0)]
  simp [h0]
 ·by_cases h1:k≥c.Regs_.length
  ·rw [z26 (.inr h1)]
   simp [h0,h1]
  ·obtain ⟨t,ht,_⟩:=z2s (l:=c.Regs_) (n:=k) (by omega) (by omega)
   have e1:decide (k<0)=false:=by simpa using h0
   have e2:decide (k≥(c.Regs_.length:Int))=false:=by simp; omega
   have e3:(t.Kind_ != 3) = !(t.Kind_==3):=rfl
   simp only [e1,e2,ht,cond_false,Option.bind_some,orRet_inl,e3]
   cases t.Kind_==3 <;> rfl
theorem y7c {c:Xe} {i:Xd} {p:Int} (hp:0≤p):(vecP c i != p) = !(zbk c i p):=by
 have key:∀ k:Int,((match idx c.Regs_ k with | some t=>bif t.Kind_==3 then t.Param_ else -1 | none=>-1) != p) = !(zdc c k p):=fun k=>by
  unfold zdc
  have e:((-1:Int) != p)=true:=by simp; omega
  cases idx c.Regs_ k with
  | none=>exact e
  | some t =>
   simp only
   cases t.Kind_==3 with
   | false=>exact e
   | true=>simp [bne]
 have e:((-1:Int) != p)=true:=by simp; omega
 unfold vecP zbk
 cases onD i with
 | true=>exact key _
 | false =>
  simp only [cond_false]
  cases onA i with
  | true=>exact key _
  | false =>
   simp only [cond_false,Bool.not_false]
   rw [z26 (.inl (by decide))]
   exact e
def zz (o:List Xg):Bool:=match o.getLast? with | some x=>x.Op_==36 | none=>false
def lstP (o:List Xg):Int:=match o.getLast? with | some x=>x.Param_ | none=>0
def z3k (i:Xd) (o:List Xg):Bool :=
 bif i.Op_==34 || i.Op_==36 then decide ((o.length:Int)<64) else bif i.Op_==35 then (decide ((o.length:Int) > 0) && !(zz o)) else bif i.Op_==37 then zz o else true
def z1b (c:Xe) (i:Xd) (set:List Bool) (o:List Xg):Bool :=
 fits c i && (!(zz o && (!(i.Op_==37) && vecP c i != lstP o)) && (rdOk set i && z3k i o))
theorem y2z {m:Nat} {c:Xe} {i:Xd} {set:List Bool} {o:List Xg} (hr:∀ t ∈ c.Regs_,mayT c.Sign_ t=true) (h0:0≤i.Bits_) (h1:i.Bits_<4294967296)
  (hs:set.length=c.Regs_.length) (ho:o.length<4611686018427387904):f41 (m+4) (c,i,set,o)=some (z1b c i set o):=by
 rw [y2y]
 have hL:(bif (decide ((o.length:Int) > (0:Int))) then ((idx o (IntKind.i64.wrap ((o.length:Int) - (1:Int)))).bind fun y1=>some (Sum.inl (y1.Op_==36))) else (some (.inl false)):Option (Bool⊕Bool))=some (.inl (zz o)):=by
  by_cases q:0<o.length
  ·have e:decide ((o.length:Int) > 0)=true:=by simp; omega
   obtain ⟨w1,w2,w3⟩:=z7p q ho
   obtain ⟨x,x1,x2⟩:=z55 o q
   have e2:idx o (IntKind.i64.wrap ((o.length:Int) - 1))=some x:=by unfold idx; rw [if_pos w2,w1,x2]
   rw [e,e2]
   unfold zz
   rw [x1]; rfl
  ·have:o=[]:=List.eq_nil_of_length_eq_zero (by omega)
   subst this; rfl
 have hP:zz o=true→idx o (IntKind.i64.wrap ((o.length:Int) - 1))=o.getLast?:=fun hl=>by
  have q:0<o.length:=by
   cases o with
   | nil=>cases hl
   | cons _ _=>simp
  obtain ⟨w1,w2,w3⟩:=z7p q ho
  obtain ⟨x,x1,x2⟩:=z55 o q
  unfold idx
  rw [if_pos w2,w1,x2,x1]
 dsimp only
 rw [hL,Option.bind_some,orRet_inl]
 simp only [y3n hr h0 h1,y3p,Option.bind_some]
 unfold z1b
 cases hf:fits c i with
 | false=>rfl
 | true =>
  have hB:(bif zz o then (bif i.Op_ != 37 then ((idx o (IntKind.i64.wrap ((o.length:Int) - 1))).bind fun y4=>some (Sum.inl (zz o,vecP c i != y4.Param_))) else some (.inl (zz o,false))) else some (.inl (zz o,false)):Option (Bool×Bool⊕Bool))=some (.inl (zz o,zz o && (!(i.Op_==37) && vecP c i != lstP o))):=by
   have e1:(i.Op_ != 37) = !(i.Op_==37):=rfl
   rw [e1]
   cases hl:zz o with
   | false=>rfl
   | true =>
    rw [hP hl]
    cases i.Op_==37 with
    | true=>rfl
    | false =>
     unfold lstP
     cases hg:o.getLast? with
     | none=>unfold zz at hl; rw [hg] at hl; cases hl
     | some x=>rfl
  simp only [Bool.not_true,cond_false]
  rw [hB,Option.bind_some,orRet_inl]
  dsimp only
  cases hb:(zz o && (!(i.Op_==37) && vecP c i != lstP o)) with
  | true=>rfl
  | false =>
   simp only [cond_false,y1w,Option.bind_some,Bool.not_false,Bool.true_and]
   rw [zwj (fun y hy=>by rw [hs]; exact zll hf y hy)]
   cases rdOk set i with
   | false=>rfl
   | true =>
    simp only [cond_true,Option.bind_some,Bo.then,Bool.true_and]
    unfold z3k
    cases i.Op_==34 <;> cases i.Op_==36 <;> cases i.Op_==35 <;> cases i.Op_==37 <;> cases decide ((o.length:Int) > 0) <;> rfl
def code (o:Xg):Int:=bif o.Op_==36 then o.Param_ else -1
def z3i (o:Xg):Bool:=o.Op_==34
def z8m (N:Nat):List Bool→List (List Int)→List Xg→Prop
 | _,[],[]=>True
 | set,l::ls,w::ws=>undo set l=w.Set_∧l.length≤N∧(∀ r ∈ l,0≤r∧r<set.length)∧z8m N w.Set_ ls ws
 | _,_,_=>False
structure Two (c:Xe) (N:Nat) (set:List Bool) (news:List (List Int)) (op:List Int) (o:List Xg):Prop where
 len:set.length=c.Regs_.length
 op:op=o.map code
 le:o.length≤64
 ok:∀ x ∈ o,x.Op_=34∨(x.Op_=36∧0≤x.Param_)
 ch:z8m N set news.reverse (o.filter z3i).reverse
theorem y0y {i:Xd} {r:z2l} (h:rowD i.Op_=some r) (hd:onD i=true):(r.d==0)=false:=by
 obtain ⟨op,d,a,b,c,N,bits⟩:=i
 dsimp only at h
 rcases z3x op with (rfl | rfl | rfl | rfl | rfl | rfl | rfl | rfl | rfl | rfl | rfl | rfl | rfl | rfl | rfl | rfl | rfl | rfl | rfl | rfl | rfl | rfl | rfl | rfl | rfl | rfl | rfl | rfl | rfl | rfl | rfl | rfl | rfl | rfl | rfl | rfl | rfl) | h0
 iterate 37 (· first | (cases h; rfl) | (exact absurd hd (by decide)) | (cases h; revert hd; simp [onD,elem]))
 rw [z4a h0] at h; cases h
theorem y0w {i:Xd} {r:z2l} (h:rowD i.Op_=some r) (hd:onA i=true):(r.a==0)=false:=by
 obtain ⟨op,d,a,b,c,N,bits⟩:=i
 dsimp only at h
 rcases z3x op with (rfl | rfl | rfl | rfl | rfl | rfl | rfl | rfl | rfl | rfl | rfl | rfl | rfl | rfl | rfl | rfl | rfl | rfl | rfl | rfl | rfl | rfl | rfl | rfl | rfl | rfl | rfl | rfl | rfl | rfl | rfl | rfl | rfl | rfl | rfl | rfl | rfl) | h0
 iterate 37 (· first | (cases h; rfl) | (exact absurd hd (by decide)) | (cases h; revert hd; simp [onA]))
 rw [z4a h0] at h; cases h
theorem y0x {c:Xe} {i:Xd} (h:fits c i=true) (hd:onD i=true):∃ t,idx c.Regs_ i.D_=some t:=by
 obtain ⟨r,hr,h1,_⟩:=zax h
 exact z2r h1 (y0y hr hd)
theorem y0v {c:Xe} {i:Xd} (h:fits c i=true) (hd:onA i=true):∃ t,idx c.Regs_ i.A_=some t:=by
 obtain ⟨r,hr,_,h1,_⟩:=zax h
 exact z2r h1 (y0w hr hd)
section
variable {c:Xe} {N:Nat} {set:List Bool} {news:List (List Int)} {op:List Int} {o:List Xg} {i:Xd}
theorem Two.lst (h:Two c N set news op o):lst op=(match o.getLast? with | some x=>code x | none=>-1):=by
 unfold Loom.lst
 rw [h.op,List.getLast?_map]
 cases o.getLast? <;> rfl
theorem Two.loop (h:Two c N set news op o):decide (Loom.lst op≥0)=zz o∧(zz o=true→Loom.lst op=lstP o∧0≤lstP o):=by
 rw [h.lst]
 unfold zz lstP
 cases hg:o.getLast? with
 | none=>exact ⟨by decide,fun h=>by cases h⟩
 | some x =>
  have hx:=h.ok x (List.mem_of_getLast? hg)
  rcases hx with hx | ⟨hx,hp⟩
  ·have e:code x = -1:=by unfold code; rw [hx]; rfl
   have e2:(x.Op_==36)=false:=by rw [hx]; rfl
   simp only [e,e2]
   exact ⟨by decide,fun h=>by cases h⟩
  ·have e:code x=x.Param_:=by unfold code; rw [hx]; rfl
   have e2:(x.Op_==36)=true:=by rw [hx]; rfl
   simp only [e,e2]
   exact ⟨by simpa using hp,fun _=>⟨by trivial,hp⟩⟩
theorem zzr (x:Int):decide (x<0) = !(decide (x≥0)):=by
 by_cases h:x<0
 ·have:¬ x≥0:=by omega
  simp [h]
 ·have:x≥0:=by omega
  simp [h,this]
theorem z33 {N M:Nat} (hNM:N≤M):∀ (set:List Bool) (ls:List (List Int)) (ws:List Xg),z8m N set ls ws→z8m M set ls ws
 | _,[],[],_=>trivial
 | set,l::ls,w::ws,h=>⟨h.1,Nat.le_trans h.2.1 hNM,h.2.2.1,z33 hNM _ ls ws h.2.2.2⟩
 | _,[],_::_,h=>h.elim
 | _,_::_,[],h=>h.elim
theorem zgt {N:Nat}:∀ (set:List Bool) (ls:List (List Int)) (ws:List Xg),z8m N set ls ws→ls.length=ws.length
 | _,[],[],_=>rfl
 | set,l::ls,w::ws,h=>by simp [zgt _ ls ws h.2.2.2]
 | _,[],_::_,h=>h.elim
 | _,_::_,[],h=>h.elim
theorem zit {N:Nat}:∀ (set:List Bool) (ls:List (List Int)) (ws:List Xg),z8m N set ls ws→∀ l ∈ ls,l.length≤N
 | _,[],[],_,l,hl=>by cases hl
 | set,l::ls,w::ws,h,x,hx=>by
  rcases List.mem_cons.1 hx with rfl | hx
  ·exact h.2.1
  ·exact zit _ ls ws h.2.2.2 x hx
 | _,[],_::_,h,_,_=>h.elim
 | _,_::_,[],h,_,_=>h.elim
theorem Two.newsOk (h:Two c N set news op o):news.length≤64∧∀ l ∈ news,l.length≤N:=by
 have h1:=zgt _ _ _ h.ch
 simp only [List.length_reverse] at h1
 have h2:=List.length_filter_le z3i o
 have:=h.le
 exact ⟨by omega,fun l hl=>zit _ _ _ h.ch l (by simpa using hl)⟩
def zcf (c:Xe) (i:Xd) (op:List Int):Bool :=
 bif i.Op_==34 || i.Op_==36 then !(decide (Loom.lst op≥0) || (op.length:Int)==64) else bif i.Op_==35 then !((op.length:Int)==0 || decide (Loom.lst op≥0)) else bif i.Op_==37 then !(decide (Loom.lst op<0)) else
  bif decide (Loom.lst op<0) then true else zbk c i (Loom.lst op)
theorem zor {k:Int} (h:i.Op_=k) (hk:k=34∨k=35∨k=36):vecP c i = -1:=by
 unfold vecP onD onA elem
 rw [h]
 rcases hk with rfl | rfl | rfl
 all_goals
  show (match idx c.Regs_ (-1) with | some t=>bif t.Kind_==3 then t.Param_ else -1 | none=>-1)=_
  rw [z26 (.inl (by decide))]
theorem Two.place (h:Two c N set news op o):zcf c i op=(!(zz o && (!(i.Op_==37) && vecP c i != lstP o)) && z3k i o):=by
 obtain ⟨h1,h2⟩:=h.loop
 have hlen:op.length=o.length:=by rw [h.op]; simp
 have hle:=h.le
 unfold zcf z3k
 rw [zzr,h1,hlen]
 by_cases q4:i.Op_=34∨i.Op_=36
 ·have e1:(i.Op_==34 || i.Op_==36)=true:=by rcases q4 with q | q <;> rw [q] <;> rfl
  have e2:(i.Op_==37)=false:=by rcases q4 with q | q <;> rw [q] <;> rfl
  have e3:vecP c i = -1:=by rcases q4 with q | q <;> exact zor q (by simp)
  have e4:((o.length:Int)==64) = !(decide ((o.length:Int)<64)):=by
   by_cases q:o.length<64
   ·have:¬ (o.length:Int)=64:=by omega
    have q':(o.length:Int)<64:=by omega
    simp [this,q']
   ·have:(o.length:Int)=64:=by omega
    simp [this]
  rw [e1,e2,e3,e4]
  simp only [cond_true]
  cases hl:zz o with
  | false=>simp
  | true =>
   have:=(h2 hl).2
   have e5:((-1:Int) != lstP o)=true:=by simp; omega
   rw [e5]; simp
 ·have e1:(i.Op_==34 || i.Op_==36)=false:=by
   have a1:¬ i.Op_=34:=fun q=>q4 (.inl q)
   have a2:¬ i.Op_=36:=fun q=>q4 (.inr q)
   simp [a1,a2]
  rw [e1]
  simp only [cond_false]
  by_cases q5:i.Op_=35
  ·have e2:(i.Op_==35)=true:=by rw [q5]; rfl
   have e3:(i.Op_==37)=false:=by rw [q5]; rfl
   have e4:vecP c i = -1:=zor q5 (by simp)
   have e6:((o.length:Int)==0) = !(decide ((o.length:Int) > 0)):=by
    by_cases q:0<o.length
    ·have a1:((o.length:Int)==0)=false:=by simp only [beq_eq_false_iff_ne,ne_eq]; omega
     have a2:decide ((o.length:Int) > 0)=true:=by simp only [decide_eq_true_eq]; omega
     rw [a1,a2]; rfl
    ·have:(o.length:Int)=0:=by omega
     simp [this]
   rw [e2,e3,e4,e6]
   simp only [cond_true]
   cases hl:zz o with
   | false=>simp
   | true =>
    have:=(h2 hl).2
    have e5:((-1:Int) != lstP o)=true:=by simp; omega
    rw [e5]; simp
  ·have e2:(i.Op_==35)=false:=by simpa using q5
   rw [e2]
   simp only [cond_false]
   cases i.Op_==37 with
   | true =>
    simp only [cond_true]
    cases zz o <;> rfl
   | false =>
    simp only [cond_false]
    cases hl:zz o with
    | false=>rfl
    | true =>
     obtain ⟨p1,p2⟩:=h2 hl
     rw [p1,y7c p2]
     cases zbk c i (lstP o) <;> rfl
end
def z8x (i:Xd) (set:List Bool) (news:List (List Int)) (op:List Int):List Bool×List (List Int)×List Int :=
 bif i.Op_==34 then (set,news++[[]],op++[-1]) else bif i.Op_==36 then (set,news,op++[i.N_]) else
 bif i.Op_==35 then (undo set (news.getLast?.getD []),news.dropLast,op.dropLast) else bif i.Op_==37 then (set,news,op.dropLast) else
 bif sets i && !((set[i.D_.toNat]?).getD false) then (set.set i.D_.toNat true,z7r news i.D_,op) else (set,news,op)
def okI (c:Xe) (i:Xd) (set:List Bool) (op:List Int):Bool:=fits c i && (zcf c i op && rdOk set i)
section
variable {c:Xe} {N:Nat} {set:List Bool} {news:List (List Int)} {op:List Int} {o:List Xg} {i:Xd}
theorem ze2 {k:Int} (h:i.Op_=k) (hk:k=35∨k=36∨k=37):z19 i=[]∧sets i=false:=by
 unfold z19 sets
 rw [h]
 rcases hk with rfl | rfl | rfl <;> exact ⟨rfl,rfl⟩
theorem Two.last (h:Two c N set news op o) (h0:0<op.length) (h1:Loom.lst op<0):∃ l w,news.getLast? = some l∧o.getLast? = some w∧w.Op_=34∧undo set l=w.Set_∧l.length≤N∧(∀ r ∈ l,0≤r∧r<set.length)∧z8m N w.Set_ news.dropLast.reverse (o.dropLast.filter z3i).reverse:=by
 have hlen:op.length=o.length:=by rw [h.op]; simp
 obtain ⟨w,w1,w2⟩:=z55 o (by omega)
 have hw:w.Op_=34:=by
  rcases h.ok w (List.mem_of_getLast? w1) with q | ⟨q,p⟩
  ·exact q
  ·rw [h.lst,w1] at h1
   simp only [code,q] at h1
   have:(bif ((36:Int)==36) then w.Param_ else -1)=w.Param_:=rfl
   omega
 have ho:o=o.dropLast++[w]:=by
  have hne:o ≠ []:=fun e=>by rw [e] at w1; cases w1
  have:=List.dropLast_concat_getLast hne
  rw [List.getLast?_eq_some_getLast hne] at w1
  rw [← Option.some.inj w1]; exact this.symm
 have hc:=h.ch
 rw [ho,List.filter_append] at hc
 have e:[w].filter z3i=[w]:=by simp [z3i,hw]
 rw [e,List.reverse_append,List.reverse_singleton,List.singleton_append] at hc
 cases hn:news.reverse with
 | nil=>rw [hn] at hc; exact hc.elim
 | cons l ls =>
  rw [hn] at hc
  have hnews:news=ls.reverse++[l]:=by
   have:=congrArg List.reverse hn
   simpa using this
  refine ⟨l,w,by rw [hnews]; simp,w1,hw,hc.1,hc.2.1,hc.2.2.1,?_⟩
  have:news.dropLast=ls.reverse:=by rw [hnews]; simp
  rw [this,List.reverse_reverse]
  exact hc.2.2.2
theorem zwa {m k:Nat} {x:Xe} {v:List Xd×Int×List Xa×List Xb×List Xc} (h:Two c N set news op o) (hN:N<1000000) (hm:N<m) (hr:∀ t ∈ c.Regs_,mayT c.Sign_ t=true) (h0:0≤i.Bits_) (h1:i.Bits_<4294967296)
  (hk:k<1000000) (hv:decide ((k:Int)<v.2.1)=true) (hi:idx v.1 (k:Int)=some i) :
  zc3 (m+5) x v ((k:Int),c.Sign_,c.Regs_,c.Slots_,c.List_,set,news,op)=some (bif okI c i set op then .go (((k+1:Nat):Int),c.Sign_,c.Regs_,c.Slots_,c.List_,z8x i set news op) else .ret (k:Int)):=by
 rw [zgv]
 dsimp only
 rw [hv,hi]
 simp only [cond_true,Option.bind_some]
 rw [y2s m hr h0 h1]
 unfold okI
 cases hf:fits c i with
 | false=>rfl
 | true =>
  have hle:op.length≤64:=by rw [h.op]; simpa using h.le
  obtain ⟨n1,n2⟩:=h.newsOk
  have hrd:∀ y ∈ z19 i,0≤y∧y<set.length:=fun y hy=>by rw [h.len]; exact zll hf y hy
  have hD:sets i=true→0≤i.D_∧i.D_<set.length:=fun hs=>by rw [h.len]; exact zgi hf hs
  simp only [Option.bind_some,Bool.not_true,cond_false,Bool.true_and]
  unfold zcf z8x
  by_cases q34:i.Op_=34
  ·have e1:(i.Op_==34)=true:=by simpa using q34
   rw [zwh (n:=m+5) (by omega) q34]
   simp only [e1,Bool.true_or,cond_true,Option.bind_some]
   cases hp:(decide (Loom.lst op≥0) || (op.length:Int)==64) with
   | true=>rfl
   | false =>
    simp only [Bool.not_false,Bool.not_true,cond_false,Bool.true_and]
    rw [zwi (m:=m+1) q34 hrd hle n1]
    cases rdOk set i with
    | false=>rfl
    | true =>
     simp only [Option.bind_some,orRet_inl,Bool.not_true,cond_false,cond_true,z15 (show k<4611686018427387904 by omega)]
  ·have e1:(i.Op_==34)=false:=by simpa using q34
   by_cases q36:i.Op_=36
   ·have e2:(i.Op_==36)=true:=by simpa using q36
    obtain ⟨r1,r2⟩:=ze2 q36 (by simp)
    have r3:rdOk set i=true:=by unfold rdOk; rw [r1]; rfl
    rw [zwf (n:=m+5) hle q36]
    simp only [e1,e2,Bool.false_or,cond_true,cond_false,Option.bind_some]
    cases hp:(decide (Loom.lst op≥0) || (op.length:Int)==64) with
    | true=>rfl
    | false =>
     simp only [Bool.not_false,Bool.not_true,cond_false,Bool.true_and]
     rw [zar (m:=m+1) q34 hrd hD n1 (fun l hl=>by have:=n2 l hl; omega)]
     simp only [r2,r3,Bool.false_and,Bool.and_false,Option.bind_some,orRet_inl,Bool.not_true,cond_false,cond_true,z15 (show k<4611686018427387904 by omega)]
   ·have e2:(i.Op_==36)=false:=by simpa using q36
    by_cases q35:i.Op_=35
    ·have e3:(i.Op_==35)=true:=by simpa using q35
     obtain ⟨r1,r2⟩:=ze2 q35 (by simp)
     rw [y0j (m:=m+1) (nl:=news.getLast?.getD []) hle q35 (fun z1 z2=>by
      obtain ⟨l,w,a1,a2,a3,a4,a5,a6,a7⟩:=h.last z1 z2
      rw [a1]
      exact ⟨rfl,by omega,by simp only [Option.getD_some]; omega,by simp only [Option.getD_some]; omega,a6⟩)]
     simp only [e1,e2,e3,Bool.false_or,cond_true,cond_false,Option.bind_some]
     cases hp:((op.length:Int)==0 || decide (Loom.lst op≥0)) with
     | true=>rfl
     | false =>
      have r3:rdOk set i=true:=by unfold rdOk; rw [r1]; rfl
      simp only [Bool.not_false,Bool.not_true,cond_false,Bool.true_and,r3]
      rw [zar (m:=m+1) q34 (fun y hy=>by rw [r1] at hy; cases hy) (fun hs=>by rw [r2] at hs; cases hs) (by simp; omega) (fun l hl=>by
       have:=n2 l ((List.dropLast_sublist _).subset hl); omega)]
      have r4:rdOk (undo set (news.getLast?.getD [])) i=true:=by unfold rdOk; rw [r1]; rfl
      simp only [r2,r4,Bool.false_and,Bool.and_false,Option.bind_some,orRet_inl,Bool.not_true,cond_false,cond_true,z15 (show k<4611686018427387904 by omega)]
    ·have e3:(i.Op_==35)=false:=by simpa using q35
     by_cases q37:i.Op_=37
     ·have e4:(i.Op_==37)=true:=by simpa using q37
      obtain ⟨r1,r2⟩:=ze2 q37 (by simp)
      have r3:rdOk set i=true:=by unfold rdOk; rw [r1]; rfl
      rw [zwg (n:=m+5) hle q37]
      simp only [e1,e2,e3,e4,Bool.false_or,cond_true,cond_false,Option.bind_some]
      cases hp:decide (Loom.lst op<0) with
      | true=>rfl
      | false =>
       simp only [Bool.not_false,Bool.not_true,cond_false,Bool.true_and]
       rw [zar (m:=m+1) q34 hrd hD n1 (fun l hl=>by have:=n2 l hl; omega)]
       simp only [r2,r3,Bool.false_and,Bool.and_false,Option.bind_some,orRet_inl,Bool.not_true,cond_false,cond_true,z15 (show k<4611686018427387904 by omega)]
     ·have e4:(i.Op_==37)=false:=by simpa using q37
      rw [zwe (n:=m+5) hle hf q34 q35 q36 q37 (y0x hf) (y0v hf)]
      simp only [e1,e2,e3,e4,Bool.false_or,cond_true,cond_false,Option.bind_some]
      cases hp:(bif decide (Loom.lst op<0) then true else zbk c i (Loom.lst op)) with
      | false=>rfl
      | true =>
       simp only [Bool.not_false,Bool.not_true,cond_false,Bool.true_and]
       rw [zar (m:=m+1) q34 hrd hD n1 (fun l hl=>by have:=n2 l hl; omega)]
       cases rdOk set i with
       | false=>rfl
       | true =>
        simp only [Bool.true_and,Option.bind_some,orRet_inl,Bool.not_true,cond_false,cond_true,z15 (show k<4611686018427387904 by omega)]
end
def z1s (i:Xd) (set:List Bool) (o:List Xg):List Bool×List Xg :=
 bif i.Op_==34 || i.Op_==36 then (set,o++[⟨i.Op_,i.N_,set⟩]) else bif i.Op_==35 then ((o.getLast?.getD ⟨0,0,[]⟩).Set_,o.dropLast) else bif i.Op_==37 then (set,o.dropLast) else
  bif sets i then (set.set i.D_.toNat true,o) else (set,o)
theorem zqz {n:Nat} {s:List Bool} (h:s.length≤140737488355328):f42 n s=some s:=by
 rw [y35,zq (by omega)]
section
variable {c:Xe} {N:Nat} {set:List Bool} {news:List (List Int)} {op:List Int} {o:List Xg} {i:Xd}
theorem zwc {m k:Nat} (h:Two c N set news op o) (hr:∀ t ∈ c.Regs_,mayT c.Sign_ t=true) (hR:c.Regs_.length≤1000000) (h0:0≤i.Bits_) (h1:i.Bits_<4294967296)
  (hk:k<1000000) (hv:k<c.List_.length) (hi:idx c.List_ (k:Int)=some i) :
  zc4 (m+4) c () ((k:Int),set,o)=some (bif z1b c i set o then .go (((k+1:Nat):Int),z1s i set o) else .ret (k:Int)):=by
 have hle:=h.le
 have hlen:=h.len
 rw [zgz]
 have e1:decide ((k:Int)<(c.List_.length:Int))=true:=by simp; omega
 dsimp only
 rw [e1,hi]
 simp only [cond_true,Option.bind_some]
 rw [y2z hr h0 h1 hlen (by omega)]
 have w:IntKind.i64.wrap ((k:Int)+1)=((k+1:Nat):Int):=z15 (by omega)
 cases hs:z1b c i set o with
 | false=>rfl
 | true =>
  simp only [Option.bind_some,Bool.not_true,cond_false,cond_true]
  have hs':=hs
  unfold z1b at hs'
  simp only [Bool.and_eq_true] at hs'
  obtain ⟨hf,hv1,hrd,hp⟩:=hs'
  unfold z1s
  have hB:(bif i.Op_==34 then some (Sum.inl (true,i.Op_,i.D_,i.A_,i.B_,i.C_,i.N_,i.Bits_)) else some (.inl (i.Op_==36,i.Op_,i.D_,i.A_,i.B_,i.C_,i.N_,i.Bits_)):Option (Bool×Int×Int×Int×Int×Int×Int×Int⊕Bo (Int×List Bool×List Xg) (Int×List Bool×List Xg) Int))
    = some (.inl (i.Op_==34 || i.Op_==36,i.Op_,i.D_,i.A_,i.B_,i.C_,i.N_,i.Bits_)):=by
   cases i.Op_==34 <;> rfl
  rw [hB,Option.bind_some,orRet_inl]
  dsimp only
  cases q1:(i.Op_==34 || i.Op_==36) with
  | true =>
   simp only [cond_true]
   rw [zqz (by omega)]
   simp only [Option.bind_some]
   rw [zq (by simp; omega),w]
  | false =>
   simp only [cond_false]
   unfold z3k at hp
   rw [q1] at hp
   simp only [cond_false] at hp
   cases q2:i.Op_==35 with
   | true =>
    rw [q2] at hp
    simp only [cond_true,Bool.and_eq_true,decide_eq_true_eq] at hp
    have hpos:0<o.length:=by omega
    obtain ⟨w1,w2,w3⟩:=z7p hpos (by omega)
    obtain ⟨x,x1,x2⟩:=z55 o hpos
    simp only [cond_true]
    rw [zq ⟨w2,w3⟩,w1,x2,x1]
    simp only [Option.bind_some,Option.getD_some]
    have hx:x.Set_.length≤140737488355328:=by
     have hl0:Loom.lst op<0:=by
      have:=h.loop.1
      rw [← this] at hp
      simp at hp; omega
     obtain ⟨l,wv,a1,a2,a3,a4,_⟩:=h.last (by rw [h.op]; simpa using hpos) hl0
     rw [x1] at a2
     cases a2
     rw [← a4,zlw]; omega
    rw [zqz hx]
    simp only [Option.bind_some]
    rw [zq ⟨w2,by omega⟩,zq (by omega),w]
    simp [List.dropLast_eq_take]
   | false =>
    rw [q2] at hp
    simp only [cond_false] at hp ⊢
    cases q3:i.Op_==37 with
    | true =>
     rw [q3] at hp
     simp only [cond_true] at hp ⊢
     have hpos:0<o.length:=by
      cases o with
      | nil=>cases hp
      | cons _ _=>simp
     obtain ⟨w1,w2,w3⟩:=z7p hpos (by omega)
     rw [zq ⟨w2,by omega⟩,w1,zq (by omega),w]
     simp [List.dropLast_eq_take]
    | false =>
     have e:(⟨i.Op_,i.D_,i.A_,i.B_,i.C_,i.N_,i.Bits_⟩:Xd)=i:=rfl
     simp only [cond_false,e,y1z,Option.bind_some]
     cases hss:sets i with
     | false=>simp only [cond_false,w]
     | true =>
      obtain ⟨d0,d1⟩:=zgi hf hss
      obtain ⟨b,hb⟩:=za3 (l:=set) d0 (by omega)
      simp only [cond_true]
      rw [zq ⟨d0,by omega⟩,hb]
      simp only [Option.bind_some,w]
theorem zlv (l:List Int):∀ (set:List Bool) (j:Nat),(undo set l)[j]? = if l.any (fun r=>r.toNat==j) then (set[j]?).map (fun _=>false) else set[j]?:=by
 unfold undo
 induction l with
 | nil=>intro set j; simp
 | cons r l ih =>
  intro set j
  simp only [List.foldl_cons]
  rw [ih,List.any_cons]
  by_cases h:r.toNat=j
  ·subst h
   simp only [beq_self_eq_true,Bool.true_or,if_true]
   split
   ·by_cases hj:r.toNat<set.length
    ·simp [hj]
    ·simp [hj]
   ·by_cases hj:r.toNat<set.length
    ·simp [hj]
    ·simp [hj]
  ·have e:(r.toNat==j)=false:=by simpa using h
   rw [e,Bool.false_or,List.getElem?_set_ne h]
theorem zxd {l:List Int} {set:List Bool} {d:Int} (hd:set[d.toNat]? = some false):undo (set.set d.toNat true) (l++[d])=undo set l:=by
 apply List.ext_getElem?
 intro j
 have hlt:d.toNat<set.length:=by
  obtain ⟨h,_⟩:=List.getElem?_eq_some_iff.1 hd
  exact h
 rw [zlv,zlv,List.any_append]
 by_cases h:d.toNat=j
 ·subst h
  simp only [List.any_cons,beq_self_eq_true,Bool.true_or,Bool.or_true,if_true,hd]
  rw [List.getElem?_set_self hlt]
  simp
 ·have e:(d.toNat==j)=false:=by simpa using h
  rw [List.getElem?_set_ne h]
  simp [e]
theorem zv9 {set:List Bool} {d:Nat} (h:set[d]? = some true):set.set d true=set:=by
 apply List.ext_getElem?
 intro j
 by_cases hj:d=j
 ·subst hj
  obtain ⟨hl,_⟩:=List.getElem?_eq_some_iff.1 h
  rw [List.getElem?_set_self hl,h]
 ·rw [List.getElem?_set_ne hj]
end
section
variable {c:Xe} {N:Nat} {set:List Bool} {news:List (List Int)} {op:List Int} {o:List Xg} {i:Xd}
theorem y6t (hf:fits c i=true) (h:i.Op_=36):0≤i.N_:=by
 unfold fits at hf
 rw [h] at hf
 have e:rowD 36=some ⟨0,0,0,0,4⟩:=rfl
 rw [e] at hf
 simp only [Bool.and_eq_true] at hf
 have:=hf.2.2.2.2.2
 have e2:nOk c 4 i.N_ (tyF c ⟨0,0,0,0,4⟩ i)=(decide (i.N_≥0) && decide (i.N_<(c.Sign_.length:Int))):=rfl
 rw [e2] at this
 simp at this
 exact this.1
theorem zfd {α:Type} {l:List α} {w:α} (h:l.getLast? = some w):l=l.dropLast++[w]:=by
 have hne:l ≠ []:=fun e=>by rw [e] at h; cases h
 have:=List.dropLast_concat_getLast hne
 rw [List.getLast?_eq_some_getLast hne] at h
 rw [← Option.some.inj h]; exact this.symm
theorem Two.next (h:Two c N set news op o) (hok:okI c i set op=true):(z1s i set o).1=(z8x i set news op).1∧Two c (N+1) (z8x i set news op).1 (z8x i set news op).2.1 (z8x i set news op).2.2 (z1s i set o).2:=by
 unfold okI at hok
 simp only [Bool.and_eq_true] at hok
 obtain ⟨hf,hp,hrd⟩:=hok
 have hlen:op.length=o.length:=by rw [h.op]; simp
 unfold zcf at hp
 unfold z8x z1s
 by_cases q34:i.Op_=34
 ·have e1:(i.Op_==34)=true:=by simpa using q34
  rw [e1] at hp
  simp only [Bool.true_or,cond_true,Bool.not_eq_true',Bool.or_eq_false_iff,beq_eq_false_iff_ne,ne_eq] at hp
  have hle:=h.le
  simp only [e1,Bool.true_or,cond_true]
  refine ⟨by trivial,h.len,?_,?_,?_,?_⟩
  ·rw [List.map_append,h.op]; simp [code,q34]
  ·simp; omega
  ·intro x hx
   rcases List.mem_append.1 hx with hx | hx
   ·exact h.ok x hx
   ·simp only [List.mem_singleton] at hx
    subst hx; exact .inl q34
  ·rw [List.filter_append]
   have e:[(⟨i.Op_,i.N_,set⟩:Xg)].filter z3i=[⟨i.Op_,i.N_,set⟩]:=by simp [z3i,q34]
   rw [e,List.reverse_append,List.reverse_append]
   exact ⟨rfl,Nat.zero_le _,fun r hr=>(by cases hr),z33 (Nat.le_succ N) _ _ _ h.ch⟩
 ·have e1:(i.Op_==34)=false:=by simpa using q34
  rw [e1] at hp
  by_cases q36:i.Op_=36
  ·have e2:(i.Op_==36)=true:=by simpa using q36
   rw [e2] at hp
   simp only [Bool.false_or,cond_true,Bool.not_eq_true',Bool.or_eq_false_iff,beq_eq_false_iff_ne,ne_eq] at hp
   have hle:=h.le
   simp only [e1,e2,Bool.false_or,cond_true,cond_false]
   refine ⟨by trivial,h.len,?_,?_,?_,?_⟩
   ·rw [List.map_append,h.op]; simp [code,q36]
   ·simp; omega
   ·intro x hx
    rcases List.mem_append.1 hx with hx | hx
    ·exact h.ok x hx
    ·simp only [List.mem_singleton] at hx
     subst hx; exact .inr ⟨q36,y6t hf q36⟩
   ·rw [List.filter_append]
    have e:[(⟨i.Op_,i.N_,set⟩:Xg)].filter z3i=[]:=by simp [z3i,q36]
    rw [e,List.append_nil]
    exact z33 (Nat.le_succ N) _ _ _ h.ch
  ·have e2:(i.Op_==36)=false:=by simpa using q36
   rw [e2] at hp
   simp only [Bool.false_or,cond_false] at hp
   simp only [e1,e2,Bool.false_or,cond_false]
   by_cases q35:i.Op_=35
   ·have e3:(i.Op_==35)=true:=by simpa using q35
    rw [e3] at hp
    simp only [cond_true,Bool.not_eq_true',Bool.or_eq_false_iff,beq_eq_false_iff_ne,ne_eq,decide_eq_false_iff_not] at hp
    obtain ⟨l,w,a1,a2,a3,a4,a5,a6,a7⟩:=h.last (by omega) (by omega)
    simp only [e3,cond_true,a1,a2,Option.getD_some]
    have hle:=h.le
    refine ⟨a4.symm,?_,?_,?_,?_,?_⟩
    ·rw [zlw]; exact h.len
    ·rw [h.op,List.map_dropLast]
    ·simp; omega
    ·exact fun x hx=>h.ok x ((List.dropLast_sublist _).subset hx)
    ·rw [a4]; exact z33 (Nat.le_succ N) _ _ _ a7
   ·have e3:(i.Op_==35)=false:=by simpa using q35
    rw [e3] at hp
    simp only [cond_false] at hp
    by_cases q37:i.Op_=37
    ·have e4:(i.Op_==37)=true:=by simpa using q37
     rw [e4,zzr,h.loop.1] at hp
     simp only [cond_true,Bool.not_not] at hp
     simp only [e3,e4,cond_true,cond_false]
     have hle:=h.le
     obtain ⟨w,hw⟩:∃ w,o.getLast? = some w:=by
      unfold zz at hp
      split at hp
      ·exact ⟨_,by assumption⟩
      ·cases hp
     have hww:w.Op_=36:=by
      unfold zz at hp
      rw [hw] at hp
      simpa using hp
     refine ⟨by trivial,h.len,?_,?_,?_,?_⟩
     ·rw [h.op,List.map_dropLast]
     ·simp; omega
     ·exact fun x hx=>h.ok x ((List.dropLast_sublist _).subset hx)
     ·have:=h.ch
      rw [zfd hw,List.filter_append] at this
      have e:[w].filter z3i=[]:=by simp [z3i,hww]
      rw [e,List.append_nil] at this
      exact z33 (Nat.le_succ N) _ _ _ this
    ·have e4:(i.Op_==37)=false:=by simpa using q37
     simp only [e3,e4,cond_false]
     cases hs:sets i with
     | false =>
      simp only [Bool.false_and,cond_false]
      exact ⟨by trivial,h.len,h.op,h.le,h.ok,z33 (Nat.le_succ N) _ _ _ h.ch⟩
     | true =>
      obtain ⟨d0,d1⟩:=zgi hf hs
      obtain ⟨b,hb⟩:=za3 (l:=set) d0 (by rw [h.len]; exact d1)
      simp only [hb,Option.getD_some,Bool.true_and,cond_true]
      cases b with
      | true =>
       rw [zv9 hb]
       exact ⟨rfl,h.len,h.op,h.le,h.ok,z33 (Nat.le_succ N) _ _ _ h.ch⟩
      | false =>
       simp only [Bool.not_false,cond_true]
       refine ⟨by trivial,by simpa using h.len,h.op,h.le,h.ok,?_⟩
       have hc:=h.ch
       cases hn:news.reverse with
       | nil =>
        rw [hn] at hc
        have:news=[]:=by simpa using hn
        subst this
        cases hw:(o.filter z3i).reverse with
        | nil=>simp [z7r,z8m]
        | cons w ws=>rw [hw] at hc; exact hc.elim
       | cons l ls =>
        rw [hn] at hc
        cases hw:(o.filter z3i).reverse with
        | nil=>rw [hw] at hc; exact hc.elim
        | cons w ws =>
         rw [hw] at hc
         obtain ⟨c1,c2,c3,c4⟩:=hc
         have hnews:news=ls.reverse++[l]:=by
          have:=congrArg List.reverse hn
          simpa using this
         have ha:(z7r news i.D_).reverse=(l++[i.D_])::ls:=by
          unfold z7r
          rw [hnews]
          simp
         rw [ha]
         refine ⟨by rw [zxd hb]; exact c1,by simp; omega,fun r hr=>?_,z33 (Nat.le_succ N) _ _ _ c4⟩
         rcases List.mem_append.1 hr with hr | hr
         ·simpa using c3 r hr
         ·simp only [List.mem_singleton] at hr
          subst hr
          refine ⟨d0,?_⟩
          simp only [List.length_set]
          rw [h.len]; exact d1
end
theorem zl5 {α S Y Z:Type} {l:List α} {p:α→Bool} {g:Nat→S} {body:S→Option (Bo S Y Z)} {z:Nat→Z} {y:Y}
  (hb:∀ (k:Nat) (h:k<l.length),body (g k)=some (bif p l[k] then .go (g (k+1)) else .ret (z k))) (he:body (g l.length)=some (.out y)) :
  ∀ (j k f:Nat),k+j=l.length→j<f→iter body f (g k)=some (match (l.drop k).findIdx? (fun x=>!p x) with | none=>.out y | some i=>.ret (z (k+i)))
 | 0,k,f+1,hk,hf=>by
  obtain rfl:k=l.length:=by omega
  unfold iter
  rw [he]
  simp
 | j+1,k,f+1,hk,hf=>by
  have h:k<l.length:=by omega
  unfold iter
  rw [hb k h,List.drop_eq_getElem_cons h]
  cases hp:p l[k] with
  | false =>
   simp only [cond_false,List.findIdx?_cons,hp,Bool.not_false,if_true]
   rfl
  | true =>
   simp only [cond_true]
   rw [zl5 hb he j (k+1) f (by omega) (by omega)]
   rw [List.findIdx?_cons]
   simp only [hp,Bool.not_true,cond_false,Bool.false_eq_true,if_false]
   cases (l.drop (k+1)).findIdx? (fun x=>!p x) with
   | none=>rfl
   | some i=>simp only [Option.map_some]; congr 3; omega
theorem zl4 {α S Y Z:Type} {l:List α} {p:α→Bool} (g:Nat→S) {body:S→Option (Bo S Y Z)} (z:Nat→Z) {y:Y} {f:Nat}
  (hb:∀ (k:Nat) (h:k<l.length),body (g k)=some (bif p l[k] then .go (g (k+1)) else .ret (z k))) (he:body (g l.length)=some (.out y)) (hf:l.length<f) :
  iter body f (g 0)=some (match l.findIdx? (fun x=>!p x) with | none=>.out y | some i=>.ret (z i)):=by
 have:=zl5 hb he l.length 0 f (by omega) hf
 simpa using this
section
variable {c:Xe}
theorem z13 {α:Type} {l:List α} {k:Nat} (h:k<l.length):idx l (k:Int)=some l[k]:=by simp [idx,h]
theorem y2j {n:Nat} (h:c.Regs_.length<n) (h2:c.Regs_.length<1000000):f29 n (c.Regs_,c.Sign_,c.Regs_,c.Slots_,c.List_)=some (!(c.Regs_.all (mayT c.Sign_)),c.Sign_,c.Regs_,c.Slots_,c.List_):=by
 have hit:iter (zjd n (c.Regs_,c.Sign_,c.Regs_,c.Slots_,c.List_) ()) n ((0:Int),c.Sign_,c.Regs_,c.Slots_,c.List_)=some (match c.Regs_.findIdx? (fun x=>!mayT c.Sign_ x) with | none=>.out ((c.Regs_.length:Int),c.Sign_,c.Regs_,c.Slots_,c.List_) | some i=>.ret ((i:Int),c.Sign_,c.Regs_,c.Slots_,c.List_)):=by
  refine zl4 (p:=mayT c.Sign_) (fun k=>((k:Int),c.Sign_,c.Regs_,c.Slots_,c.List_)) (fun k=>((k:Int),c.Sign_,c.Regs_,c.Slots_,c.List_)) (fun k hk=>?_) ?_ h
  ·rw [zh7]
   have e1:decide ((k:Int)<(c.Regs_.length:Int))=true:=by simp; omega
   dsimp only
   rw [e1,z13 hk]
   simp only [cond_true,Option.bind_some,y2k,zqw,z15 (show k<4611686018427387904 by omega)]
   cases mayT c.Sign_ c.Regs_[k] <;> rfl
  ·rw [zh7]; simp
 rw [y2i,y39]
 dsimp only
 rw [hit,← zdv]
 cases c.Regs_.findIdx? (fun x=>!mayT c.Sign_ x) with
 | none=>rfl
 | some i=>simp [Bo.then]
theorem y2n {n:Nat} (h:c.Slots_.length<n) (h2:c.Slots_.length<1000000) (hb:∀ s ∈ c.Slots_,0≤s.Bits_∧s.Bits_<4294967296):f32 n (c.Slots_,c.Sign_,c.Regs_,c.Slots_,c.List_)=some (!(c.Slots_.all (mayS c.Sign_)),c.Sign_,c.Regs_,c.Slots_,c.List_):=by
 have hit:iter (zje n (c.Slots_,c.Sign_,c.Regs_,c.Slots_,c.List_) ()) n ((0:Int),c.Sign_,c.Regs_,c.Slots_,c.List_)=some (match c.Slots_.findIdx? (fun x=>!mayS c.Sign_ x) with | none=>.out ((c.Slots_.length:Int),c.Sign_,c.Regs_,c.Slots_,c.List_) | some i=>.ret ((i:Int),c.Sign_,c.Regs_,c.Slots_,c.List_)):=by
  refine zl4 (p:=mayS c.Sign_) (fun k=>((k:Int),c.Sign_,c.Regs_,c.Slots_,c.List_)) (fun k=>((k:Int),c.Sign_,c.Regs_,c.Slots_,c.List_)) (fun k hk=>?_) ?_ h
  ·rw [zh8]
   have e1:decide ((k:Int)<(c.Slots_.length:Int))=true:=by simp; omega
   obtain ⟨b0,b1⟩:=hb _ (List.getElem_mem hk)
   dsimp only
   rw [e1,z13 hk]
   simp only [cond_true,Option.bind_some,y2o,y2q _ _ b0 b1,z15 (show k<4611686018427387904 by omega)]
   cases mayS c.Sign_ c.Slots_[k] <;> rfl
  ·rw [zh8]; simp
 rw [y2m,y3a]
 dsimp only
 rw [hit,← zdv]
 cases c.Slots_.findIdx? (fun x=>!mayS c.Sign_ x) with
 | none=>rfl
 | some i=>simp [Bo.then]
theorem zwb {n m:Nat} (h:c.Regs_.length<m) (h2:c.Regs_.length<1000000):iter (zj1 n c ()) m 0=some (bif c.Regs_.all (mayT c.Sign_) then .out (c.Regs_.length:Int) else .ret ()):=by
 refine z3m (fun k hk=>?_) ?_ h
 ·rw [zgw]
  have e1:decide ((k:Int)<(c.Regs_.length:Int))=true:=by simp; omega
  rw [e1,z13 hk]
  simp only [cond_true,Option.bind_some,zqy,z15 (show k<4611686018427387904 by omega)]
  cases mayT c.Sign_ c.Regs_[k] <;> rfl
 ·rw [zgw]; simp
theorem zqv {n m:Nat} (h:c.Slots_.length<m) (h2:c.Slots_.length<1000000) (hb:∀ s ∈ c.Slots_,0≤s.Bits_∧s.Bits_<4294967296):iter (zj2 n c ()) m 0=some (bif c.Slots_.all (mayS c.Sign_) then .out (c.Slots_.length:Int) else .ret ()):=by
 refine z3m (fun k hk=>?_) ?_ h
 ·rw [zgx]
  have e1:decide ((k:Int)<(c.Slots_.length:Int))=true:=by simp; omega
  obtain ⟨b0,b1⟩:=hb _ (List.getElem_mem hk)
  rw [e1,z13 hk]
  simp only [cond_true,Option.bind_some,y2x _ _ b0 b1,z15 (show k<4611686018427387904 by omega)]
  cases mayS c.Sign_ c.Slots_[k] <;> rfl
 ·rw [zgx]; simp
theorem z5e {S Y Z:Type} {L:Nat} (g:Nat→S) {body:S→Option (Bo S Y Z)} {y:Y} (hb:∀ k,k<L→body (g k)=some (.go (g (k+1)))) (he:body (g L)=some (.out y)) :
  ∀ (j k f:Nat),k+j=L→j<f→iter body f (g k)=some (.out y)
 | 0,k,f+1,hk,hf=>by
  obtain rfl:k=L:=by omega
  unfold iter
  rw [he]
 | j+1,k,f+1,hk,hf=>by
  unfold iter
  rw [hb k (by omega)]
  exact z5e g hb he j (k+1) f (by omega) (by omega)
theorem y0h {n m:Nat} (h:c.Regs_.length<m) (h2:c.Regs_.length<1000000):iter (zj3 n c ()) m (0,[])=some (.out ((c.Regs_.length:Int),List.replicate c.Regs_.length false)):=by
 refine z5e (L:=c.Regs_.length) (fun k=>((k:Int),List.replicate k false)) (fun k hk=>?_) ?_ c.Regs_.length 0 m (by omega) h
 ·rw [zgy]
  have e1:decide ((k:Int)<(c.Regs_.length:Int))=true:=by simp; omega
  dsimp only
  rw [e1,cond_true,zq (by simp; omega),z15 (by omega),← List.replicate_succ']
 ·rw [zgy]; simp
end
def okB (y:Int):Bool:=(decide (y≥65) && decide (y≤90)) || ((decide (y≥97) && decide (y≤122)) || ((decide (y≥48) && decide (y≤57)) || (y==95 || (y==46 || (y==47 || y==45)))))
theorem idxB (y:Int) (h0:0≤y) (h1:y<256):decide ((Lib.indexByte [95,46,47,45] y.toNat.toUInt8:Int)≥0)=(y==95 || (y==46 || (y==47 || y==45))):=by
 have h:(List.range 256).all (fun k=>decide ((Lib.indexByte [95,46,47,45] k.toUInt8:Int)≥0)==((k:Int)==95 || ((k:Int)==46 || ((k:Int)==47 || (k:Int)==45))))=true:=by kernel_rfl
 have:=List.all_eq_true.1 h y.toNat (by simp; omega)
 have e:((y.toNat:Nat):Int)=y:=by omega
 rw [e] at this
 simpa using this
theorem y42 {n:Nat} (y:Int) (h0:0≤y) (h1:y<256):∃ r,f68 n (⟨#[95,46,47,45]⟩,y)=some r∧decide (r≥0)=(y==95 || (y==46 || (y==47 || y==45))) :=
 ⟨_,by rw [y41]; rfl,idxB y h0 h1⟩
theorem zis {x:ByteArray} {k:Nat} (h:k<(bytesOf x).length):0≤(bytesOf x)[k]∧(bytesOf x)[k]<256∧za x (k:Int)=(bytesOf x)[k]:=by
 have hl:k<x.data.toList.length:=by simpa [bytesOf] using h
 have e:(bytesOf x)[k]=((x.data.toList[k]).toNat:Int):=by simp [bytesOf]
 have hb:=UInt8.toNat_lt (x.data.toList[k])
 refine ⟨by rw [e]; omega,by rw [e]; omega,?_⟩
 rw [e]
 unfold za
 rw [List.getD_eq_getElem?_getD,show ((k:Int).toNat)=k from rfl,List.getElem?_eq_getElem hl]
 rfl
theorem zgs (x:ByteArray):(bytesOf x).length=x.size:=by
 unfold bytesOf
 rw [List.length_map]
 rfl
def z88 (x:ByteArray):Bool:=!(x==⟨#[]⟩ || decide ((x.size:Int) > 64)) && (bytesOf x).all okB
theorem y3r {n:Nat} (x:ByteArray) (hn:64<n):f61 n x=some (z88 x):=by
 rw [y3q]
 have hB:(bif (x==⟨#[]⟩) then some (Sum.inl true) else some (.inl (decide ((x.size:Int) > 64))):Option (Bool⊕Bool))=some (.inl (x==⟨#[]⟩ || decide ((x.size:Int) > 64))):=by
  cases (x==(⟨#[]⟩:ByteArray)) <;> rfl
 rw [hB,Option.bind_some,orRet_inl]
 unfold z88
 cases hq:(x==⟨#[]⟩ || decide ((x.size:Int) > 64)) with
 | true=>rfl
 | false =>
  have hs:x.size≤64:=by
   simp only [Bool.or_eq_false_iff,decide_eq_false_iff_not] at hq
   omega
  have hl:=zgs x
  have hit:iter (zjh n x ()) n 0=some (bif (bytesOf x).all okB then .out ((bytesOf x).length:Int) else .ret ()):=by
   refine z3m (fun k hk=>?_) ?_ (by omega)
   ·obtain ⟨b0,b1,_⟩:=zis hk
    obtain ⟨r,r1,r2⟩:=y42 (n:=n) _ b0 b1
    rw [zhb]
    have e1:decide ((k:Int)<((bytesOf x).length:Int))=true:=by simp; omega
    rw [e1,z13 hk]
    simp only [cond_true,Option.bind_some]
    generalize (bytesOf x)[k]=y at *
    rw [z15 (by omega)]
    unfold okB
    cases a1:decide (y≥65) <;> cases a2:decide (y≤90) <;> cases a3:decide (y≥97) <;> cases a4:decide (y≤122) <;> cases a5:decide (y≥48) <;> cases a6:decide (y≤57) <;> simp only [a1,a2,a3,a4,a5,a6,cond_true,cond_false,Option.bind_some,orRet_inl,r1,r2] <;> cases (y==95 || (y==46 || (y==47 || y==45))) <;> rfl
   ·rw [zhb]; simp
  rw [hit]
  cases (bytesOf x).all okB <;> rfl
set_option maxHeartbeats 4000000 in
theorem y3v {n:Nat} (x:ByteArray) (hn:64<n):f63 n x=some (z88 x):=by
 rw [y3u]
 have hB:(bif (x==⟨#[]⟩) then some (Sum.inl true) else some (.inl (decide ((x.size:Int) > 64))):Option (Bool⊕Bool))=some (.inl (x==⟨#[]⟩ || decide ((x.size:Int) > 64))):=by
  cases (x==(⟨#[]⟩:ByteArray)) <;> rfl
 rw [hB,Option.bind_some,orRet_inl]
 unfold z88
 cases hq:(x==⟨#[]⟩ || decide ((x.size:Int) > 64)) with
 | true=>rfl
 | false =>
  have hs:x.size≤64:=by
   simp only [Bool.or_eq_false_iff,decide_eq_false_iff_not] at hq
   omega
  have hl:=zgs x
  have hit:iter (zji n x ()) n 0=some (bif (bytesOf x).all okB then .out ((bytesOf x).length:Int) else .ret ()):=by
   refine z3m (fun k hk=>?_) ?_ (by omega)
   ·obtain ⟨_,_,b2⟩:=zis hk
    rw [zhc]
    have e1:decide ((k:Int)<(x.size:Int))=true:=by simp; omega
    rw [e1,b2,cond_true,zq (by omega),z15 (by omega)]
    generalize (bytesOf x)[k]=y
    unfold okB
    cases decide (y≥97) <;> cases decide (y≤122) <;> cases decide (y≥65) <;> cases decide (y≤90) <;> cases decide (y≥48) <;> cases decide (y≤57) <;> cases (y==95) <;> cases (y==46) <;> cases (y==47) <;> cases (y==45) <;> rfl
   ·rw [zhc,hl]; simp
  rw [hit]
  cases (bytesOf x).all okB <;> rfl
def mayP (p:Xa):Bool:=z88 p.Name_ && ((p.Kind_==1 || p.Kind_==2) && (decide (p.Len_≥1) && decide (p.Len_≤4096)))
theorem zr0 {n:Nat} (p:Xa) (hn:64<n):f48 n p=some (mayP p):=by
 rw [y36,y3r _ hn]
 unfold mayP
 simp only [Option.bind_some]
 cases z88 p.Name_ <;> cases (p.Kind_==1) <;> cases (p.Kind_==2) <;> cases decide (p.Len_≥1) <;> rfl
theorem zr2 {n:Nat} (p:Xa) (hn:64<n):f55 n p=some (mayP p):=by
 rw [y3g,y3v _ hn]
 unfold mayP
 simp only [Option.bind_some]
 cases z88 p.Name_ <;> cases (p.Kind_==1) <;> cases (p.Kind_==2) <;> cases decide (p.Len_≥1) <;> rfl
theorem zma {a b:ByteArray}:(a==b)=true↔a=b:=MapKept.bytes_beq a b
theorem zip (a:ByteArray):(a==a)=true:=zma.2 rfl
def addP (ks:List ByteArray) (p:Xa):List ByteArray:=bif has p.Name_ ks then ks else ks++[p.Name_]
theorem zl1 {n:Nat} (hn:64<n):∀ (l:List Xa) (ks:List ByteArray),z8t n l ks=some (bif l.all mayP then some (l.foldl addP ks) else none)
 | [],ks=>rfl
 | p::l,ks=>by
  unfold z8t
  have e:zf5 n p=some (mayP p):=zr0 p hn
  rw [e]
  simp only [Option.bind_some,List.all_cons,List.foldl_cons]
  cases mayP p with
  | false=>rfl
  | true =>
   simp only [cond_true,Bool.true_and]
   exact zl1 hn l _
theorem y0r (s:ByteArray) (ks:List ByteArray) (p:Xa):has s (addP ks p)=(has s ks || p.Name_==s):=by
 unfold addP
 cases h:has p.Name_ ks with
 | false=>simp [has]
 | true =>
  simp only [cond_true]
  cases hq:p.Name_==s with
  | false=>simp
  | true =>
   rw [zma] at hq
   subst hq
   simp [h]
theorem zhf {x:List Xa} {k:Nat} (h:k<x.length):(x.take (k+1)).foldl addP []=addP ((x.take k).foldl addP []) x[k]:=by
 rw [List.take_succ_eq_append_getElem h,List.foldl_append]
 rfl
theorem zl3 {x:List Xa} (s:ByteArray):∀ k,k≤x.length→has s ((x.take k).foldl addP [])=(x.take k).any (fun p=>p.Name_==s)
 | 0,_=>by simp [has]
 | k+1,h=>by
  rw [zhf (by omega),y0r,zl3 s k (by omega),List.take_succ_eq_append_getElem (by omega),List.any_append]
  simp only [List.any_cons,List.any_nil,Bool.or_false]
def z3e (x:List Xa) (k:Nat):Bool:=match x[k]? with | some p=>!((x.take k).any fun q=>q.Name_==p.Name_) | none=>true
theorem zl9 {x:List Xa}:∀ k,k≤x.length→((x.take k).foldl addP []).length=(List.range k).countP (z3e x)
 | 0,_=>by simp
 | k+1,h=>by
  have hk:k<x.length:=by omega
  rw [zhf hk,List.range_succ,List.countP_append,← zl9 k (by omega)]
  have e:z3e x k = !(has x[k].Name_ ((x.take k).foldl addP [])):=by
   unfold z3e
   rw [List.getElem?_eq_getElem hk,zl3 _ k (by omega)]
  have e2:addP ((x.take k).foldl addP []) x[k]=bif has x[k].Name_ ((x.take k).foldl addP []) then (x.take k).foldl addP [] else (x.take k).foldl addP []++[x[k].Name_]:=rfl
  rw [e2]
  cases hh:has x[k].Name_ ((x.take k).foldl addP []) with
  | true=>rw [hh] at e; simp [List.countP_cons,e]
  | false=>rw [hh] at e; simp [List.countP_cons,e]
theorem y1s (x:List Xa):decide (((x.foldl addP []).length:Int)<(x.length:Int)) = !((List.range x.length).all (z3e x)):=by
 have h:=zl9 (x:=x) x.length (Nat.le_refl _)
 rw [List.take_length] at h
 rw [h]
 have hle:=List.countP_le_length (p:=z3e x) (l:=List.range x.length)
 simp only [List.length_range] at hle
 cases ha:(List.range x.length).all (z3e x) with
 | true =>
  have:(List.range x.length).countP (z3e x)=(List.range x.length).length:=List.countP_eq_length.2 (List.all_eq_true.1 ha)
  rw [this]; simp
 | false =>
  have:(List.range x.length).countP (z3e x) ≠ (List.range x.length).length:=fun e=>by
   have:=List.countP_eq_length.1 e
   have:(List.range x.length).all (z3e x)=true:=List.all_eq_true.2 this
   rw [ha] at this; cases this
  simp only [List.length_range] at this
  simp only [Bool.not_false,decide_eq_true_eq]
  omega
def fnd (x:List Xa) (s:ByteArray):Int×Bool:=match x.findIdx? (fun p=>p.Name_==s) with | none=>(0,false) | some i=>((i:Int),true)
theorem y3i {n:Nat} {x:List Xa} {s:ByteArray} (h:x.length<n) (h2:x.length<1000000):f56 n (x,s)=some (fnd x s):=by
 have hit:iter (zjf n (x,s) ()) n 0=some (match x.findIdx? (fun p=>!(!(p.Name_==s))) with | none=>.out (x.length:Int) | some i=>.ret (i:Int)):=by
  refine zl4 (p:=fun p=>!(p.Name_==s)) (fun k=>(k:Int)) (fun k=>(k:Int)) (fun k hk=>?_) ?_ h
  ·rw [zh9]
   have e1:decide ((k:Int)<(x.length:Int))=true:=by simp; omega
   dsimp only
   rw [e1,z13 hk]
   simp only [cond_true,Option.bind_some,z15 (show k<4611686018427387904 by omega)]
   cases x[k].Name_==s <;> rfl
  ·rw [zh9]; simp
 rw [y3h,hit]
 unfold fnd
 simp only [Bool.not_not]
 cases x.findIdx? (fun p=>p.Name_==s) <;> rfl
theorem zwk {x:List Xa} {k:Nat} (hk:k<x.length):(fnd x x[k].Name_).1=(k:Int)↔z3e x k=true:=by
 unfold z3e fnd
 rw [List.getElem?_eq_getElem hk]
 simp only [Bool.not_eq_true']
 cases hf:x.findIdx? (fun p=>p.Name_==x[k].Name_) with
 | none =>
  rw [List.findIdx?_eq_none_iff] at hf
  have:=hf x[k] (List.getElem_mem hk)
  rw [zip] at this; cases this
 | some i =>
  obtain ⟨hi,h1,h2⟩:=List.findIdx?_eq_some_iff_getElem.1 hf
  simp only
  constructor
  ·intro e
   have e:i=k:=by omega
   subst e
   rw [Bool.eq_false_iff]
   intro ha
   obtain ⟨q,hq,hq2⟩:=List.any_eq_true.1 ha
   obtain ⟨j,hj,rfl⟩:=List.getElem_of_mem hq
   simp only [List.length_take] at hj
   have:=h2 j (by omega)
   rw [List.getElem_take] at hq2
   rw [hq2] at this
   simp at this
  ·intro ha
   by_cases hik:i<k
   ·exfalso
    have:(x.take k).any (fun q=>q.Name_==x[k].Name_)=true:=by
     rw [List.any_eq_true]
     exact ⟨x[i],List.mem_take_iff_getElem.2 ⟨i,by omega,rfl⟩,h1⟩
    rw [ha] at this; cases this
   ·by_cases hki:k<i
    ·exfalso
     have:=h2 k hki
     rw [zip] at this; simp at this
    ·omega
def numP (p:Xa):Int:=bif mayP p then (bif p.Kind_==2 then IntKind.i64.wrap (2 * p.Len_) else p.Len_) else 0
theorem y3t {n:Nat} (p:Xa) (hn:64<n):f62 n p=some (numP p):=by
 rw [y3s,zr0 _ hn]
 unfold numP
 simp only [Option.bind_some]
 cases mayP p <;> cases (p.Kind_==2) <;> rfl
theorem zr4 {n:Nat} (p:Xa) (hn:64<n):f64 n p=some (numP p):=by
 rw [y3w,zr2 _ hn]
 unfold numP
 simp only [Option.bind_some]
 cases mayP p <;> cases (p.Kind_==2) <;> rfl
def z4l (x:List Xa) (k:Nat):Int:=(x.take k).foldl (fun s p=>IntKind.i64.wrap (s+numP p)) 0
theorem zlt {x:List Xa} {k:Nat} (h:k<x.length):z4l x (k+1)=IntKind.i64.wrap (z4l x k+numP x[k]):=by
 unfold z4l
 rw [List.take_succ_eq_append_getElem h,List.foldl_append]
 rfl
theorem y38 {n:Nat} {x:List Xa} (hn:64<n) (hl:x.length≤64):f49 n x=some (z4l x x.length):=by
 have hit:iter (zjc n x ()) n (0,0)=some (.out (z4l x x.length,(x.length:Int))):=by
  refine z5e (L:=x.length) (fun k=>(z4l x k,(k:Int))) (fun k hk=>?_) ?_ x.length 0 n (by omega) (by omega)
  ·rw [zh6]
   have e1:decide ((k:Int)<(x.length:Int))=true:=by simp; omega
   dsimp only
   rw [e1,z13 hk]
   simp only [cond_true,Option.bind_some,y3t _ hn,z15 (show k<4611686018427387904 by omega),zlt hk]
  ·rw [zh6]; simp
 rw [y37,hit]
 rfl
theorem y3k {n:Nat} {x:List Xa} (hn:64<n) (hl:x.length≤64):f57 n x=some (z4l x x.length):=by
 have hit:iter (zjg n x ()) n (0,0)=some (.out (z4l x x.length,(x.length:Int))):=by
  refine z5e (L:=x.length) (fun k=>(z4l x k,(k:Int))) (fun k hk=>?_) ?_ x.length 0 n (by omega) (by omega)
  ·rw [zha]
   have e1:decide ((k:Int)<(x.length:Int))=true:=by simp; omega
   dsimp only
   rw [e1,z13 hk]
   simp only [cond_true,Option.bind_some,zr4 _ hn,z15 (show k<4611686018427387904 by omega),zlt hk]
  ·rw [zha]; simp
 rw [y3j,hit]
 rfl
def sgn (x:List Xa):Int:=bif decide ((x.length:Int) > 64) then 2 else bif x.all mayP then (bif (List.range x.length).all (z3e x) then (bif decide (z4l x x.length > 65536) then 102 else 0) else 101) else 100
theorem y2h {n:Nat} (x:List Xa) (hn:64<n):f28 n x=some (sgn x):=by
 show g28 n x=_
 unfold g28 sgn
 simp only [List.length_map]
 cases hl:decide ((x.length:Int) > 64) with
 | true=>rfl
 | false =>
  have hl':x.length≤64:=by simp only [decide_eq_false_iff_not] at hl; omega
  rw [zl1 hn]
  cases x.all mayP with
  | false=>rfl
  | true =>
   have e:zt4 n x=some (z4l x x.length):=y38 hn hl'
   simp only [cond_false,cond_true,Option.bind_some,z7f,List.length_map,y1s,e]
   cases (List.range x.length).all (z3e x) <;> cases decide (z4l x x.length > 65536) <;> rfl
theorem y2u {n:Nat} (x:List Xa) (hn:64<n):f38 n x=some (sgn x):=by
 rw [y2t]
 unfold sgn
 cases hl:decide ((x.length:Int) > 64) with
 | true=>rfl
 | false =>
  have hl':x.length≤64:=by simp only [decide_eq_false_iff_not] at hl; omega
  have h1:iter (zj9 n x ()) n 0=some (bif x.all mayP then .out (x.length:Int) else .ret ()):=by
   refine z3m (fun k hk=>?_) ?_ (by omega)
   ·rw [zh3]
    have e1:decide ((k:Int)<(x.length:Int))=true:=by simp; omega
    rw [e1,z13 hk]
    simp only [cond_true,Option.bind_some,zr2 _ hn,z15 (show k<4611686018427387904 by omega)]
    cases mayP x[k] <;> rfl
   ·rw [zh3]; simp
  have h2:iter (zja n x ()) n 0=some (bif (List.range x.length).all (z3e x) then .out (x.length:Int) else .ret ()):=by
   refine z3m (l:=List.range x.length) (fun k hk=>?_) ?_ (by simp; omega)
   ·simp only [List.length_range] at hk
    rw [zh4]
    have e1:decide ((k:Int)<(x.length:Int))=true:=by simp; omega
    rw [e1,z13 hk]
    simp only [cond_true,Option.bind_some,y3i (n:=n) (x:=x) (s:=x[k].Name_) (by omega) (by omega),z15 (show k<4611686018427387904 by omega),List.getElem_range]
    have:=zwk hk
    cases hq:z3e x k with
    | true =>
     have e:=this.2 hq
     rw [e]
     simp
    | false =>
     have e:(fnd x x[k].Name_).1 ≠ (k:Int):=fun e=>by
      have:=this.1 e
      rw [hq] at this; cases this
     have e2:((fnd x x[k].Name_).1 != (k:Int))=true:=by simpa using e
     rw [e2]; rfl
   ·rw [List.length_range,zh4]; simp
  rw [h1]
  simp only [cond_false]
  cases x.all mayP with
  | false=>rfl
  | true =>
   simp only [cond_true,Option.bind_some,Bo.then]
   rw [h2]
   cases (List.range x.length).all (z3e x) with
   | false=>rfl
   | true =>
    simp only [cond_true,Option.bind_some,Bo.then,y3k hn hl']
    cases decide (z4l x x.length > 65536) <;> rfl
theorem ya6 (a:Int):(a==a)=true:=by simp
theorem y9z (a:Bool):(a==a)=true:=by simp
structure zp7 (a:Xe):Prop where
 s:a.Sign_.length * 32≤140737488355328
 r:a.Regs_.length * 16≤140737488355328
 l:a.Slots_.length * 32≤140737488355328
 i:a.List_.length * 56≤140737488355328
def fuel (a:Xe):Nat:=a.Sign_.length+a.Regs_.length+a.Slots_.length+a.List_.length+100001
def z1r (l:List Xa) (t:Xb):Int:=bif t.Kind_ != 3 then 1 else match idx l t.Param_ with | some p=>p.Len_ | none=>0
def goR (c:Xe):List Xd→Nat→List Bool→List Xg→Nat⊕(List Bool×List Xg)
 | [],_,set,o=>.inr (set,o)
 | i::l,k,set,o=>bif z1b c i set o then goR c l (k+1) (z1s i set o).1 (z1s i set o).2 else .inl k
section
variable {c:Xe}
theorem zxh {m m':Nat} {x:Xe} (hr:∀ t ∈ c.Regs_,mayT c.Sign_ t=true) (hR:c.Regs_.length≤1000000) (hL:c.List_.length<1000000) (hm:c.List_.length<m) (hb:∀ i ∈ c.List_,0≤i.Bits_∧i.Bits_<4294967296) :
  ∀ (j k f f':Nat) (set:List Bool) (news:List (List Int)) (op:List Int) (o:List Xg),k+j=c.List_.length→j<f→j<f'→Two c k set news op o →
   ∃ news' op',(∀ r,goR c (c.List_.drop k) k set o = .inr r→op'.length=r.2.length) ∧
    iter (zc3 (m+5) x (c.List_,(c.List_.length:Int),c.Sign_,c.Regs_,c.Slots_)) f ((k:Int),c.Sign_,c.Regs_,c.Slots_,c.List_,set,news,op)=some (match goR c (c.List_.drop k) k set o with | .inl k'=>.ret (k':Int) | .inr r=>.out ((c.List_.length:Int),c.Sign_,c.Regs_,c.Slots_,c.List_,r.1,news',op')) ∧
    iter (zc4 (m'+4) c ()) f' ((k:Int),set,o)=some (match goR c (c.List_.drop k) k set o with | .inl k'=>.ret (k':Int) | .inr r=>.out ((c.List_.length:Int),r.1,r.2))
 | 0,k,f+1,f'+1,set,news,op,o,hk,_,_,h=>by
  obtain rfl:k=c.List_.length:=by omega
  rw [List.drop_length]
  refine ⟨news,op,fun r hr=>?_,?_,?_⟩
  ·cases hr; rw [h.op]; simp
  ·unfold iter
   rw [zgv]; simp [goR]
  ·unfold iter
   rw [zgz]; simp [goR]
 | j+1,k,f+1,f'+1,set,news,op,o,hk,hf,hf',h=>by
  have hkl:k<c.List_.length:=by omega
  obtain ⟨b0,b1⟩:=hb _ (List.getElem_mem hkl)
  have e1:decide ((k:Int)<(c.List_.length:Int))=true:=by simp; omega
  have s1:=zwa (m:=m) (x:=x) (v:=(c.List_,(c.List_.length:Int),c.Sign_,c.Regs_,c.Slots_)) h (by omega) (by omega) hr b0 b1 (by omega) e1 (z13 hkl)
  have s2:=zwc (m:=m') h hr hR b0 b1 (by omega) hkl (z13 hkl)
  have e2:z1b c c.List_[k] set o=okI c c.List_[k] set op:=by
   unfold z1b okI
   rw [h.place]
   cases fits c c.List_[k] <;> cases rdOk set c.List_[k] <;> cases z3k c.List_[k] o <;> simp
  rw [List.drop_eq_getElem_cons hkl]
  have eg:goR c (c.List_[k]::c.List_.drop (k+1)) k set o=bif z1b c c.List_[k] set o then goR c (c.List_.drop (k+1)) (k+1) (z1s c.List_[k] set o).1 (z1s c.List_[k] set o).2 else .inl k:=rfl
  rw [eg]
  rw [e2] at s2 ⊢
  unfold iter
  rw [s1,s2]
  cases hok:okI c c.List_[k] set op with
  | false=>exact ⟨[],[],fun r hr=>(by cases hr),rfl,rfl⟩
  | true =>
   obtain ⟨q1,q2⟩:=h.next hok
   simp only [cond_true]
   have e3:z1s c.List_[k] set o=((z8x c.List_[k] set news op).1,(z1s c.List_[k] set o).2):=by rw [← q1]
   rw [e3]
   exact zxh hr hR hL hm hb j (k+1) f f' _ _ _ _ (by omega) (by omega) (by omega) q2
end
def chk (c:Xe):Int×Int :=
 bif sgn c.Sign_ != 0 then (sgn c.Sign_,-1) else bif (decide ((c.Regs_.length:Int) > 16384) || decide ((c.List_.length:Int) > 32768)) then (181,-1) else bif decide ((c.Slots_.length:Int) > 4096) then (180,-1) else
 bif c.Regs_.all (mayT c.Sign_) then (bif c.Slots_.all (mayS c.Sign_) then (match goR c c.List_ 0 (List.replicate c.Regs_.length false) [] with | .inl k=>(160,(k:Int)) | .inr r=>bif decide ((r.2.length:Int) > 0) then (160,(c.List_.length:Int)) else (0,0)) else (160,-1)) else (160,-1)
theorem ziu {n:Nat} {c:Xe} (hn:100000<n) (hs:∀ s ∈ c.Slots_,0≤s.Bits_∧s.Bits_<4294967296) (hb:∀ i ∈ c.List_,0≤i.Bits_∧i.Bits_<4294967296):f16 n c=some (chk c)∧f21 n c=some (chk c):=by
 unfold chk
 obtain ⟨m,rfl⟩:∃ m,n=m+5:=⟨n - 5,by omega⟩
 rw [y2d,y2e,y2h _ (by omega),y2u _ (by omega)]
 simp only [Option.bind_some]
 cases sgn c.Sign_ != 0 with
 | true=>exact ⟨rfl,rfl⟩
 | false =>
  have hB:∀ {R:Type},(bif (decide ((c.Regs_.length:Int) > 16384)) then some (Sum.inl true) else some (.inl (decide ((c.List_.length:Int) > 32768))):Option (Bool⊕R))=some (.inl (decide ((c.Regs_.length:Int) > 16384) || decide ((c.List_.length:Int) > 32768))):=by
   intro R
   cases decide ((c.Regs_.length:Int) > 16384) <;> rfl
  simp only [cond_false]
  rw [hB,Option.bind_some,orRet_inl]
  cases hz:(decide ((c.Regs_.length:Int) > 16384) || decide ((c.List_.length:Int) > 32768)) with
  | true=>exact ⟨rfl,rfl⟩
  | false =>
   simp only [Bool.or_eq_false_iff,decide_eq_false_iff_not] at hz
   simp only [cond_false]
   cases hy:decide ((c.Slots_.length:Int) > 4096) with
   | true=>exact ⟨rfl,rfl⟩
   | false =>
    simp only [decide_eq_false_iff_not] at hy
    simp only [cond_false]
    rw [y2j (by omega) (by omega),zwb (by omega) (by omega)]
    cases hr:c.Regs_.all (mayT c.Sign_) with
    | false=>exact ⟨rfl,rfl⟩
    | true =>
     have hr':∀ t ∈ c.Regs_,mayT c.Sign_ t=true:=List.all_eq_true.1 hr
     simp only [Option.bind_some,Bool.not_true,cond_false,cond_true,Bo.then]
     rw [y2n (by omega) (by omega) hs,zqv (by omega) (by omega) hs]
     cases c.Slots_.all (mayS c.Sign_) with
     | false=>exact ⟨rfl,rfl⟩
     | true =>
      simp only [Option.bind_some,orRet_inl,Bool.not_true,cond_false,cond_true,Bo.then]
      rw [zq (by omega),y0h (by omega) (by omega)]
      simp only [Option.bind_some,Bo.then]
      have h0:Two c 0 (List.replicate c.Regs_.length false) [] [] []:=⟨by simp,rfl,by simp,fun x hx=>(by cases hx),trivial⟩
      have hset:List.replicate ((c.Regs_.length:Int)).toNat false=List.replicate c.Regs_.length false:=by rw [Int.toNat_natCast]
      rw [hset]
      obtain ⟨news',op',q0,q1,q2⟩:=zxh (m:=m) (m':=m+1) (x:=c) hr' (by omega) (by omega) (by omega) hb c.List_.length 0 (m+5) (m+5) _ _ _ _ (by omega) (by omega) (by omega) h0
      rw [List.drop_zero] at q0 q1 q2
      have q1:iter (zc3 (m+5) c (c.List_,(c.List_.length:Int),c.Sign_,c.Regs_,c.Slots_)) (m+5) (0,c.Sign_,c.Regs_,c.Slots_,c.List_,List.replicate c.Regs_.length false,[],[])=_:=q1
      have q2:iter (zc4 (m+5) c ()) (m+5) (0,List.replicate c.Regs_.length false,[])=_:=q2
      rw [q1,q2]
      cases hg:goR c c.List_ 0 (List.replicate c.Regs_.length false) [] with
      | inl k=>exact ⟨rfl,rfl⟩
      | inr r =>
       have:=q0 r hg
       simp only [Option.bind_some,Bo.then,this]
       cases decide ((r.2.length:Int) > 0) <;> exact ⟨rfl,rfl⟩
def opn1 (i:Xd):Int:=bif i.Op_==34 || i.Op_==36 then 1 else bif i.Op_==35 || i.Op_==37 then -1 else 0
def opn (l:List Xd):Int:=l.foldl (fun s i=>s+opn1 i) 0
def z98 (d:Nat) (s t:List Bool):Prop:=s.length=t.length∧∀ j,j ≠ d→s[j]? = t[j]?
inductive z5v (d:Nat):List Xg→List Xg→Prop
 | nil:z5v d [] []
 | snoc {o p:List Xg} {x y:Xg}:z5v d o p→x.Op_=y.Op_→x.Param_=y.Param_→z98 d x.Set_ y.Set_→z5v d (o++[x]) (p++[y])
theorem z5v.inv {d:Nat} {o p:List Xg} (h:z5v d o p):(o=[]∧p=[])∨∃ o' p' x y,o=o'++[x]∧p=p'++[y]∧z5v d o' p'∧x.Op_=y.Op_∧x.Param_=y.Param_∧z98 d x.Set_ y.Set_:=by
 cases h with
 | nil=>exact .inl ⟨rfl,rfl⟩
 | snoc h1 h2 h3 h4=>exact .inr ⟨_,_,_,_,rfl,rfl,h1,h2,h3,h4⟩
theorem z5v.len {d:Nat} {o p:List Xg} (h:z5v d o p):o.length=p.length:=by
 induction h with
 | nil=>rfl
 | snoc _ _ _ _ ih=>simp [ih]
theorem z98.refl (d:Nat) (s:List Bool):z98 d s s:=⟨rfl,fun _ _=>rfl⟩
theorem z5v.refl (d:Nat) (o:List Xg):z5v d o o:=by
 have:∀ (n:Nat) (o:List Xg),o.length=n→z5v d o o:=by
  intro n
  induction n with
  | zero=>intro o h; rw [List.eq_nil_of_length_eq_zero h]; exact .nil
  | succ n ih =>
   intro o h
   obtain ⟨x,x1,_⟩:=z55 o (by omega)
   rw [zfd x1]
   exact .snoc (ih _ (by simp; omega)) rfl rfl (z98.refl d _)
 exact this _ o rfl
theorem z98.set {d:Nat} {s t:List Bool} (h:z98 d s t) (j:Nat) (b:Bool):z98 d (s.set j b) (t.set j b):=by
 refine ⟨by simp [h.1],fun k hk=>?_⟩
 rw [List.getElem?_set,List.getElem?_set,h.1,h.2 k hk]
abbrev z6g (c:Xe):List Bool:=List.replicate c.Regs_.length false
theorem zbz {c:Xe} (h:(chk c).1=0):(sgn c.Sign_ != 0)=false∧decide ((c.Regs_.length:Int) > 16384)=false∧decide ((c.List_.length:Int) > 32768)=false∧decide ((c.Slots_.length:Int) > 4096)=false∧c.Regs_.all (mayT c.Sign_)=true∧c.Slots_.all (mayS c.Sign_)=true ∧
  ∃ r,goR c c.List_ 0 (z6g c) [] = .inr r∧r.2=[]:=by
 unfold chk at h
 cases h1:sgn c.Sign_ != 0 with
 | true =>
  rw [h1] at h
  have h:sgn c.Sign_=0:=h
  rw [h] at h1; cases h1
 | false =>
  rw [h1] at h
  cases h2:decide ((c.Regs_.length:Int) > 16384) with
  | true=>rw [h2] at h; exact absurd (show (181:Int)=0 from h) (by decide)
  | false =>
   cases h3:decide ((c.List_.length:Int) > 32768) with
   | true=>rw [h2,h3] at h; exact absurd (show (181:Int)=0 from h) (by decide)
   | false =>
    rw [h2,h3] at h
    cases h4:decide ((c.Slots_.length:Int) > 4096) with
    | true=>rw [h4] at h; exact absurd (show (180:Int)=0 from h) (by decide)
    | false =>
     rw [h4] at h
     cases h5:c.Regs_.all (mayT c.Sign_) with
     | false=>rw [h5] at h; exact absurd (show (160:Int)=0 from h) (by decide)
     | true =>
      rw [h5] at h
      cases h6:c.Slots_.all (mayS c.Sign_) with
      | false=>rw [h6] at h; exact absurd (show (160:Int)=0 from h) (by decide)
      | true =>
       rw [h6] at h
       refine ⟨rfl,rfl,rfl,rfl,rfl,rfl,?_⟩
       simp only [Bool.or_self,cond_false,cond_true] at h
       cases h7:goR c c.List_ 0 (z6g c) [] with
       | inl k=>rw [h7] at h; exact absurd h (by simp)
       | inr r =>
        rw [h7] at h
        refine ⟨r,rfl,?_⟩
        cases h8:decide ((r.2.length:Int) > 0) with
        | true=>simp only [h8,cond_true] at h; exact absurd h (by simp)
        | false =>
         simp only [decide_eq_false_iff_not] at h8
         exact List.eq_nil_of_length_eq_zero (by omega)
theorem zl2 (c:Xe) (l':List Xd):∀ (l:List Xd) (k:Nat) (s:List Bool) (o:List Xg),goR ⟨c.Sign_,c.Regs_,c.Slots_,l'⟩ l k s o=goR c l k s o
 | [],_,_,_=>rfl
 | i::l,k,s,o=>by
  simp only [goR]
  have e:z1b ⟨c.Sign_,c.Regs_,c.Slots_,l'⟩ i s o=z1b c i s o:=rfl
  rw [e,zl2 c l' l]
theorem y1l {c:Xe} (h:(chk c).1=0) (l:List Xd) (hl:l.length≤32768):chk ⟨c.Sign_,c.Regs_,c.Slots_,l⟩=match goR c l 0 (z6g c) [] with | .inl k=>(160,(k:Int)) | .inr r=>bif decide ((r.2.length:Int) > 0) then (160,(l.length:Int)) else (0,0):=by
 obtain ⟨h1,h2,h3,h4,h5,h6,_⟩:=zbz h
 have h3':decide ((l.length:Int) > 32768)=false:=by simp; omega
 unfold chk
 dsimp only
 rw [h1,h2,h3',h4,h5,h6,zl2]
 rfl
theorem z1w {x:Int} (h0 : -1000000≤x) (h1:x≤1000000):IntKind.i64.wrap x=x:=z9c (by omega) (by omega)
theorem zdz (c:Xe):∀ (l:List Xd) (k:Nat) (s:List Bool) (o:List Xg) (r:List Bool×List Xg),goR c l k s o = .inr r→∀ i ∈ l,fits c i=true
 | [],_,_,_,_,_,i,hi=>by cases hi
 | j::l,k,s,o,r,h,i,hi=>by
  simp only [goR] at h
  cases hs:z1b c j s o with
  | false=>rw [hs] at h; cases h
  | true =>
   rw [hs,cond_true] at h
   rcases List.mem_cons.1 hi with rfl | hi
   ·unfold z1b at hs
    simp only [Bool.and_eq_true] at hs
    exact hs.1
   ·exact zdz c l _ _ _ r h i hi
def regT (c:Xe) (k:Int):Xb:=(idx c.Regs_ k).getD ty0
def z1q (c:Xe) (i:Xd):Int :=
 bif i.Op_==16 then 62 else bif elem i.Op_ || (i.Op_==29 || (i.Op_==30 || i.Op_==32)) then z1r c.Sign_ (regT c i.D_) else
 bif i.Op_==31 || (i.Op_==33 || (i.Op_==19 || i.Op_==20)) then z1r c.Sign_ (regT c i.A_) else 1
def totR {α:Type} (w:α→Int):List α→Int
 | []=>0
 | x::l=>w x+totR w l
theorem zvk {α:Type} {w:α→Int} (h:∀ x,0≤w x):∀ l:List α,0≤totR w l
 | []=>Int.le_refl _
 | x::l=>by have:=h x; have:=zvk h l; show 0≤w x+totR w l; omega
abbrev U32s (c:Xe):Prop:=(∀ s ∈ c.Slots_,0≤s.Bits_∧s.Bits_<4294967296)∧∀ i ∈ c.List_,0≤i.Bits_∧i.Bits_<4294967296
theorem y1g {n:Nat} {c:Xe} (h:zp7 c):f101 n c=some (c.Sign_,c.Regs_,c.Slots_,c.List_):=by
 rw [y0b,zq h.s,zq h.r,zq h.l,zq h.i]
section
variable {c d:Xe} {i:Xd}
theorem zhd {c:Xe} {i:Xd} (h:fits c i=true) (ho:sets i=true):∃ t,idx c.Regs_ i.D_=some t∧t ∈ c.Regs_:=by
 unfold fits at h
 unfold sets at ho
 split at h
 ·cases h
 ·rename_i r hr
  rw [hr] at ho
  simp only [Bool.and_eq_true] at h
  obtain ⟨t,ht⟩:=z2r h.1 (by simpa using ho)
  exact ⟨t,ht,(z1j ht).1⟩
def za9 (i:Xd):Bool:=match rowD i.Op_ with | some r=>!(r.a==0) | none=>false
theorem zph {c:Xe} {i:Xd} (h:fits c i=true) (ho:za9 i=true):∃ t,idx c.Regs_ i.A_=some t∧t ∈ c.Regs_:=by
 unfold fits at h
 unfold za9 at ho
 split at h
 ·cases h
 ·rename_i r hr
  rw [hr] at ho
  simp only [Bool.and_eq_true] at h
  obtain ⟨t,ht⟩:=z2r h.2.1 (by simpa using ho)
  exact ⟨t,ht,(z1j ht).1⟩
theorem ya1 (i:Xd):(onD i=true→sets i=true)∧(onA i=true→za9 i=true):=by
 obtain ⟨op,d,a,b,cc,N,bits⟩:=i
 rcases z3x op with (rfl | rfl | rfl | rfl | rfl | rfl | rfl | rfl | rfl | rfl | rfl | rfl | rfl | rfl | rfl | rfl | rfl | rfl | rfl | rfl | rfl | rfl | rfl | rfl | rfl | rfl | rfl | rfl | rfl | rfl | rfl | rfl | rfl | rfl | rfl | rfl | rfl) | h
 iterate 37 (· simp [onD,onA,elem,sets,za9,rowD])
 have he:elem op=false:=by
  cases he:elem op with
  | false=>rfl
  | true =>
   exfalso
   unfold elem at he
   have:3≤op∧op≤15:=by
    by_cases q:op≥3
    ·simp [q] at he; omega
    ·simp [q] at he
   have:=h op (by omega) (by omega)
   simp at this
 simp only [onD,onA,he,h 29 (by decide) (by decide),h 30 (by decide) (by decide),h 31 (by decide) (by decide),h 32 (by decide) (by decide),h 33 (by decide) (by decide)]
 constructor <;> intro h <;> cases h
end
abbrev W64 (x:Int):Int:=IntKind.i64.wrap x
theorem zmd {n:Nat} {c:Xe} {t:Xb} (h:mayT c.Sign_ t=true):f104 n (c,t)=some (z1r c.Sign_ t):=by
 rw [y0f]
 unfold z1r
 rcases zcd h with e | e | ⟨e,h0,h1⟩
 ·simp [e]
 ·simp [e]
 ·obtain ⟨y,hy,_⟩:=z2s h0 h1
  simp [e,hy]
theorem y48 {c:Xe} {i:Xd} (h:fits c i=true) (ho:sets i=true):∃ t,idx c.Regs_ i.D_=some t∧t ∈ c.Regs_:=by
 unfold fits at h
 unfold sets at ho
 split at h
 ·cases h
 ·rename_i r hr
  rw [hr] at ho
  simp only [Bool.and_eq_true] at h
  obtain ⟨t,ht⟩:=z2r h.1 (by simpa using ho)
  exact ⟨t,ht,(z1j ht).1⟩
def hasA (i:Xd):Bool:=match rowD i.Op_ with | some r=>!(r.a==0) | none=>false
theorem y46 {c:Xe} {i:Xd} (h:fits c i=true) (ho:hasA i=true):∃ t,idx c.Regs_ i.A_=some t∧t ∈ c.Regs_:=by
 unfold fits at h
 unfold hasA at ho
 split at h
 ·cases h
 ·rename_i r hr
  rw [hr] at ho
  simp only [Bool.and_eq_true] at h
  obtain ⟨t,ht⟩:=z2r h.2.1 (by simpa using ho)
  exact ⟨t,ht,(z1j ht).1⟩
theorem zwu (i:Xd) :
  (i.Op_=16)∨(((i.Op_==16)=false∧(i.Op_==31)=false∧(i.Op_==33)=false∧(i.Op_==19)=false∧(i.Op_==20)=false) ∧
   ((sets i=true∧(elem i.Op_=true∧(i.Op_==29)=false∧(i.Op_==30)=false∧(i.Op_==32)=false∨elem i.Op_=false∧(i.Op_=29∨i.Op_=30∨i.Op_=32))) ∨
    (elem i.Op_=false∧(i.Op_==29)=false∧(i.Op_==30)=false∧(i.Op_==32)=false))) ∨
  (hasA i=true∧(i.Op_=31∨i.Op_=33∨i.Op_=19∨i.Op_=20)):=by
 obtain ⟨op,d,a,b,cc,N,bits⟩:=i
 rcases z3x op with (rfl | rfl | rfl | rfl | rfl | rfl | rfl | rfl | rfl | rfl | rfl | rfl | rfl | rfl | rfl | rfl | rfl | rfl | rfl | rfl | rfl | rfl | rfl | rfl | rfl | rfl | rfl | rfl | rfl | rfl | rfl | rfl | rfl | rfl | rfl | rfl | rfl) | h
 iterate 37 (· simp [elem,sets,hasA,rowD])
 refine .inr (.inl ⟨⟨h 16 (by decide) (by decide),h 31 (by decide) (by decide),h 33 (by decide) (by decide),h 19 (by decide) (by decide),h 20 (by decide) (by decide)⟩,.inr ⟨?_,h 29 (by decide) (by decide),h 30 (by decide) (by decide),h 32 (by decide) (by decide)⟩⟩)
 cases he:elem op with
 | false=>rfl
 | true =>
  exfalso
  unfold elem at he
  have:3≤op∧op≤15:=by
   by_cases q:op≥3
   ·simp [q] at he; omega
   ·simp [q] at he
  have:=h op (by omega) (by omega)
  simp at this
theorem y0e {n:Nat} {c:Xe} {i:Xd} (hr:∀ t ∈ c.Regs_,mayT c.Sign_ t=true) (hf:fits c i=true):f103 n (c,i)=some (z1q c i):=by
 rw [y0d,zqu]
 unfold z1q regT
 rcases zwu i with e | ⟨⟨e1,e2,e3,e4,e5⟩,⟨hs,h⟩ | ⟨h1,h2,h3,h4⟩⟩ | ⟨ha,h⟩
 ·simp [e]
 ·obtain ⟨t,ht,hm⟩:=y48 hf hs
  have hw:=zmd (n:=n) (hr t hm)
  rcases h with ⟨h1,h2,h3,h4⟩ | ⟨h1,h⟩
  ·simp [e1,e2,e3,e4,e5,h1,h2,h3,h4,ht,hw]
  ·rcases h with h | h | h <;> simp [h,ht,hw]
 ·simp [e1,e2,e3,e4,e5,h1,h2,h3,h4]
 ·obtain ⟨t,ht,hm⟩:=y46 hf ha
  have hw:=zmd (n:=n) (hr t hm)
  rcases h with h | h | h | h <;> simp [h,ht,hw,elem]
def sumR {α:Type} (w:α→Int) (s:Int) (l:List α):Int:=l.foldl (fun s x=>IntKind.i64.wrap (s+w x)) s
theorem zhx {α:Type} {w:α→Int} {s:Int} {l:List α} {k:Nat} (h:k<l.length):sumR w s (l.take (k+1))=IntKind.i64.wrap (sumR w s (l.take k)+w l[k]):=by
 unfold sumR
 rw [List.take_succ_eq_append_getElem h,List.foldl_append]
 rfl
theorem ya4 {α:Type} {w:α→Int} {s:Int} {l:List α} {n:Nat} {body:Int×Int→Option (Bo (Yaa) (Yaa) Empty)} (hl:l.length<4611686018427387904) (hn:l.length<n)
  (hb:∀ q:Int×Int,body q=bif decide (q.2<(l.length:Int)) then ((idx l q.2).bind fun y=>(some (w y)).bind fun z=>some (.go (IntKind.i64.wrap (q.1+z),IntKind.i64.wrap (q.2+1)))) else some (.out (q.1,q.2))) :
  iter body n (s,0)=some (.out (sumR w s l,(l.length:Int))):=by
 have:=z5e (L:=l.length) (body:=body) (fun k=>(sumR w s (l.take k),(k:Int))) (fun k hk=>?_) (y:=(sumR w s l,(l.length:Int))) ?_ l.length 0 n (by omega) hn
 ·exact this
 ·rw [hb]
  have e1:decide ((k:Int)<(l.length:Int))=true:=by simp; omega
  dsimp only
  rw [e1,z13 hk]
  simp only [cond_true,Option.bind_some,z15 (show k<4611686018427387904 by omega),zhx hk]
 ·rw [hb]; simp
structure Good (c:Xe):Prop where
 regs:∀ t ∈ c.Regs_,mayT c.Sign_ t=true
 slots:∀ s ∈ c.Slots_,mayT c.Sign_ s.Type_=true
 fits:∀ i ∈ c.List_,Loom.fits c i=true
 sign:(sgn c.Sign_ != 0)=false
 lr:c.Regs_.length≤16384
 li:c.List_.length≤32768
 ls:c.Slots_.length≤4096
theorem y0p {c:Xe} (h:(chk c).1=0):Good c:=by
 obtain ⟨o1,o2,o3,o4,o5,o6,r,g1,g2⟩:=zbz h
 simp only [decide_eq_false_iff_not] at o2 o3 o4
 exact ⟨List.all_eq_true.1 o5,fun s hs=>by
  have:=List.all_eq_true.1 o6 s hs
  unfold mayS at this
  simp only [Bool.and_eq_true] at this
  exact this.1,zdz c _ _ _ _ r g1,o1,by omega,by omega,by omega⟩
def zam (c:Xe):Int×Int:=bif (chk c).1 != 0 then (0,(chk c).1) else (sumR (z1q c) 0 c.List_,0)
def zpy (c:Xe):Int×Int:=bif (chk c).1 != 0 then (0,(chk c).1) else (sumR (fun s=>z1r c.Sign_ s.Type_) (sumR (z1r c.Sign_) 0 c.Regs_) c.Slots_,0)
def weiR (c:Xe) (k:Int):Int×Int:=bif (chk c).1 != 0 then (0,(chk c).1) else bif (decide (k<0) || decide (k≥(c.List_.length:Int))) then (0,1) else (z1q c ((idx c.List_ k).getD ⟨0,0,0,0,0,0,0⟩),0)
def yah (c:Xe):Int:=bif (zpy c).2 != 0 then (zpy c).2 else bif decide ((zpy c).1 > 16777216) then 261 else bif decide ((zam c).1 > 4294967296) then 260 else 0
section
variable {n:Nat} {c:Xe}
theorem y06 (hn:100000<n) (hu:U32s c):f102 n c=some (zam c):=by
 obtain ⟨k1,_⟩:=ziu hn hu.1 hu.2
 rw [y0c,k1]
 unfold zam
 simp only [Option.bind_some]
 cases hq:(chk c).1 != 0 with
 | true=>rfl
 | false =>
  have g:=y0p (c:=c) (by simpa [bne] using hq)
  have hl:=g.li
  have e1:iter (zg7 n c ()) n (0,0)=some (.out (sumR (z1q c) 0 c.List_,(c.List_.length:Int))):=by
   refine z5e (L:=c.List_.length) (fun k=>(sumR (z1q c) 0 (c.List_.take k),(k:Int))) (fun k hk=>?_) ?_ c.List_.length 0 n (by omega) (by omega)
   ·rw [zex]
    have e1:decide ((k:Int)<(c.List_.length:Int))=true:=by simp; omega
    dsimp only
    rw [e1,z13 hk]
    simp only [cond_true,Option.bind_some,y0e g.regs (g.fits _ (List.getElem_mem hk)),z15 (show k<4611686018427387904 by omega),zhx hk]
   ·rw [zex]; simp
  rw [e1]
  rfl
end
theorem y1i {n:Nat} (h:100≤n):f111 n ()=some true:=by
 obtain ⟨m,rfl⟩:∃ m,n=m+100:=⟨n - 100,by omega⟩
 kernel_rfl
def mark (i:Xd):Bool:=i.Op_==36 || i.Op_==37
def bare (l:List Xd):List Xd:=l.filter fun i=>!mark i
abbrev lpE:Xd:=⟨37,0,0,0,0,0,0⟩
abbrev lpB (p:Int):Xd:=⟨36,0,0,0,0,p,0⟩
def preF (o v:Int):List Xd:=(bif decide (o≥0) && v != o then [lpE] else [])++(bif decide (v≥0) && v != o then [lpB v] else [])
def fzL (c:Xe):Int→List Xd→List Xd
 | o,[]=>bif decide (o≥0) then [lpE] else []
 | o,i::l=>preF o (vecP c i)++i::fzL c (vecP c i) l
def deep:Int→List Xd→Bool
 | _,[]=>false
 | d,i::l=>bif i.Op_==34 then (d+1==64 || deep (d+1) l) else bif i.Op_==35 then deep (d - 1) l else deep d l
theorem zqo (d:Int) (i:Xd) (l:List Xd):deep d (i::l)=bif i.Op_==34 then (d+1==64 || deep (d+1) l) else bif i.Op_==35 then deep (d - 1) l else deep d l:=rfl
theorem zqb {c:Xe} (hr:∀ t ∈ c.Regs_,mayT c.Sign_ t=true) (i:Xd):vecP c i = -1∨(0≤vecP c i∧vecP c i<c.Sign_.length):=by
 unfold vecP
 split
 ·rename_i t ht
  have hm:=hr t (z1j ht).1
  unfold mayT at hm
  cases hk:t.Kind_==3 with
  | false=>left; rfl
  | true=>right; rw [hk] at hm; simpa using hm
 ·left; rfl
section
variable {n:Nat} {c:Xe}
theorem ya2 (o v:Int):(preF o v).length≤2:=by
 unfold preF
 cases decide (o≥0) && v != o <;> cases decide (v≥0) && v != o <;> simp
def fzR (c:Xe):List Xd:=bif deep 0 c.List_ || decide (((fzL c (-1) (bare c.List_)).length:Int) > 32768) then c.List_ else fzL c (-1) (bare c.List_)
def yag (c:Xe):Int×List Xa×List Xb×List Xc×List Xd :=
 bif (chk c).1 != 0 then (160,[],[],[],[]) else (0,c.Sign_,c.Regs_,c.Slots_,fzR c)
end
def base (o:List Xg):List Xg:=o.filter fun x=>!(x.Op_==36)
theorem z42 (a b:List Xg):base (a++b)=base a++base b:=by unfold base; rw [List.filter_append]
theorem z4j (o:List Xg) (x:Xg):zz (o++[x])=(x.Op_==36)∧lstP (o++[x])=x.Param_:=by
 unfold zz lstP; simp
theorem z6f (o:List Xg):zz (base o)=false:=by
 unfold zz
 split
 ·rename_i x hx
  have:=List.mem_of_getLast? hx
  unfold base at this
  simpa using (List.mem_filter.1 this).2
 ·rfl
theorem z84 (c:Xe) (i:Xd) (l:List Xd) (k:Nat) (s:List Bool) (o:List Xg):goR c (i::l) k s o=bif z1b c i s o then goR c l (k+1) (z1s i s o).1 (z1s i s o).2 else .inl k:=rfl
def Top (c:Xe) (v:Int) (t:List Xg):Prop:=(v = -1∧t=[])∨(0≤v∧v<c.Sign_.length∧∃ st,t=[⟨36,v,st⟩])
theorem y49 (c:Xe):fits c lpE=true:=by kernel_rfl
theorem y47 {c:Xe} {v:Int} (h0:0≤v) (h1:v<c.Sign_.length):fits c (lpB v)=true:=by
 have e:rowD 36=some ⟨0,0,0,0,4⟩:=by kernel_rfl
 unfold fits lpB
 simp only [e]
 simp [zr,z6o,nOk,h0,h1]
section
variable {c:Xe}
theorem go_E {b:List Xg} {v:Int} {st s:List Bool} (l:List Xd) (k:Nat):goR c (lpE::l) k s (b++[⟨36,v,st⟩])=goR c l (k+1) s b:=by
 obtain ⟨q1,q2⟩:=z4j b ⟨36,v,st⟩
 have q1:zz (b++[⟨36,v,st⟩])=true:=q1
 have e1:z1b c lpE s (b++[⟨36,v,st⟩])=true:=by
  unfold z1b
  rw [y49,q1]
  have:rdOk s lpE=true:=by kernel_rfl
  rw [this]
  unfold z3k
  rw [q1]; rfl
 have e2:z1s lpE s (b++[⟨36,v,st⟩])=(s,b):=by
  unfold z1s
  simp
 rw [z84,e1,e2]; rfl
theorem go_B {b:List Xg} {v:Int} {s:List Bool} (hb:b.length<64) (hl:zz b=false) (h0:0≤v) (h1:v<c.Sign_.length) (l:List Xd) (k:Nat):goR c (lpB v::l) k s b=goR c l (k+1) s (b++[⟨36,v,s⟩]):=by
 have e1:z1b c (lpB v) s b=true:=by
  unfold z1b
  rw [y47 h0 h1,hl]
  have:rdOk s (lpB v)=true:=rfl
  rw [this]
  unfold z3k
  simp; omega
 rw [z84,e1]
 rfl
theorem y6r {o:List Xg} {w v:Int} {t:List Xg} {s:List Bool} (hb:(base o).length<64) (hw:Top c w t) (hv:v = -1∨(0≤v∧v<c.Sign_.length)) (l:List Xd) (k:Nat) :
  ∃ t' k',Top c v t'∧goR c (preF w v++l) k s (base o++t)=goR c l k' s (base o++t'):=by
 unfold preF
 by_cases hvw:v=w
 ·subst hvw
  exact ⟨t,k,hw,by simp⟩
 ·have e:(v != w)=true:=by simpa using hvw
  rw [e]
  rcases hw with ⟨rfl,rfl⟩ | ⟨w0,w1,st,rfl⟩
  ·rcases hv with rfl | ⟨v0,v1⟩
   ·exact absurd rfl hvw
   ·refine ⟨[⟨36,v,s⟩],k+1,.inr ⟨v0,v1,s,rfl⟩,?_⟩
    have d:decide (v≥0)=true:=by simpa using v0
    rw [d]
    simp only [show decide ((-1:Int)≥0)=false from rfl,Bool.false_and,Bool.true_and,cond_true,cond_false,List.nil_append,List.append_nil,List.singleton_append]
    exact go_B hb (z6f o) v0 v1 l k
  ·have dw:decide (w≥0)=true:=by simpa using w0
   rw [dw]
   rcases hv with rfl | ⟨v0,v1⟩
   ·refine ⟨[],k+1,.inl ⟨rfl,rfl⟩,?_⟩
    simp only [show decide ((-1:Int)≥0)=false from rfl,Bool.false_and,Bool.true_and,cond_true,cond_false,List.append_nil,List.singleton_append]
    exact go_E l k
   ·refine ⟨[⟨36,v,s⟩],k+1+1,.inr ⟨v0,v1,s,rfl⟩,?_⟩
    have d:decide (v≥0)=true:=by simpa using v0
    rw [d]
    simp only [Bool.true_and,cond_true,List.cons_append,List.nil_append]
    rw [go_E,go_B hb (z6f o) v0 v1]
theorem za4 (hr:∀ t ∈ c.Regs_,mayT c.Sign_ t=true):∀ (l:List Xd) (k k':Nat) (s:List Bool) (o:List Xg) (r:List Bool×List Xg) (w:Int) (t:List Xg),
  goR c l k s o = .inr r→deep ((base o).length:Int) l=false→(base o).length<64→Top c w t→goR c (fzL c w (bare l)) k' s (base o++t) = .inr (r.1,base r.2)
 | [],k,k',s,o,r,w,t,hg,hd,hb,ht=>by
  obtain rfl:(s,o)=r:=Sum.inr.inj hg
  rcases ht with ⟨rfl,rfl⟩ | ⟨w0,w1,st,rfl⟩
  ·show Sum.inr (s,base o++[])=_
   rw [List.append_nil]
  ·have d:decide (w≥0)=true:=by simpa using w0
   show goR c (bif decide (w≥0) then [lpE] else []) k' s _=_
   rw [d]
   exact go_E [] k'
 | i::l,k,k',s,o,r,w,t,hg,hd,hb,ht=>by
  rw [z84] at hg
  cases hst:z1b c i s o with
  | false=>rw [hst] at hg; cases hg
  | true =>
   rw [hst,cond_true] at hg
   have hst':=hst
   unfold z1b at hst'
   simp only [Bool.and_eq_true] at hst'
   obtain ⟨hfit,hlp,hrd,hpl⟩:=hst'
   rw [zqo] at hd
   cases hm:mark i with
   | true =>
    have eb:bare (i::l)=bare l:=by unfold bare; rw [List.filter_cons,hm]; rfl
    rw [eb]
    unfold mark at hm
    have en:(z1s i s o).1=s∧base (z1s i s o).2=base o:=by
     simp only [Bool.or_eq_true,beq_iff_eq] at hm
     unfold z1s
     rcases hm with hm | hm
     ·rw [hm]
      refine ⟨rfl,?_⟩
      show base (o++[⟨36,i.N_,s⟩])=base o
      rw [z42]
      show base o++[]=_
      rw [List.append_nil]
     ·rw [hm]
      refine ⟨rfl,?_⟩
      show base o.dropLast=base o
      unfold z3k at hpl
      rw [hm] at hpl
      have hpl:zz o=true:=hpl
      rcases List.eq_nil_or_concat o with rfl | ⟨o',x,rfl⟩
      ·rfl
      ·rw [List.concat_eq_append] at hpl ⊢
       rw [(z4j o' x).1] at hpl
       rw [List.dropLast_concat,z42]
       have:base [x]=[]:=by unfold base; simp [hpl]
       rw [this,List.append_nil]
    have e34:(i.Op_==34)=false∧(i.Op_==35)=false:=by
     simp only [Bool.or_eq_true,beq_iff_eq] at hm
     rcases hm with hm | hm <;> rw [hm] <;> decide
    rw [e34.1,e34.2] at hd
    have hd:deep ((base o).length:Int) l=false:=hd
    rw [← en.2] at hd hb ⊢
    rw [en.1] at hg
    exact za4 hr l _ _ s _ r w t hg hd hb ht
   | false =>
    have eb:bare (i::l)=i::bare l:=by unfold bare; rw [List.filter_cons,hm]; rfl
    rw [eb]
    show goR c (preF w (vecP c i)++i::fzL c (vecP c i) (bare l)) k' s (base o++t)=_
    have hvc:=zqb hr i
    obtain ⟨t',k2,ht',e⟩:=y6r (s:=s) hb ht hvc (i::fzL c (vecP c i) (bare l)) k'
    rw [e]
    unfold mark at hm
    simp only [Bool.or_eq_false_iff] at hm
    have hv34:(i.Op_==34)=true∨(i.Op_==35)=true→vecP c i = -1:=by
     intro h
     simp only [beq_iff_eq] at h
     have e1:onD i=false:=by rcases h with h | h <;> unfold onD elem <;> rw [h] <;> decide
     have e2:onA i=false:=by rcases h with h | h <;> unfold onA <;> rw [h] <;> decide
     unfold vecP
     have e3:idx c.Regs_ (-1)=none:=by unfold idx; simp
     rw [e1,e2]
     simp only [cond_false,e3]
    have hlp':(!(zz (base o++t') && (!(i.Op_==37) && vecP c i != lstP (base o++t'))))=true:=by
     rcases ht' with ⟨q,rfl⟩ | ⟨v0,v1,st,rfl⟩
     ·rw [List.append_nil,z6f]; rfl
     ·rw [(z4j _ _).2]; simp
    have htop:vecP c i = -1→t'=[]:=by
     intro h
     rcases ht' with ⟨_,q⟩ | ⟨v0,_⟩
     ·exact q
     ·omega
    have h35:(i.Op_==35)=true→∃ o' x,o=o'++[x]∧base o=base o'++[x]:=by
     intro h
     unfold z3k at hpl
     simp only [beq_iff_eq] at h
     rw [h] at hpl
     have hpl:(decide ((o.length:Int) > 0) && !(zz o))=true:=hpl
     rcases List.eq_nil_or_concat o with rfl | ⟨o',x,rfl⟩
     ·simp at hpl
     ·rw [List.concat_eq_append] at hpl ⊢
      rw [(z4j o' x).1] at hpl
      simp only [Bool.and_eq_true] at hpl
      refine ⟨o',x,rfl,?_⟩
      rw [z42]
      congr 1
      unfold base
      rw [List.filter_cons,hpl.2]; rfl
    have hst2:z1b c i s (base o++t')=true:=by
     unfold z1b
     rw [hfit,hlp',hrd]
     unfold z3k
     rw [hm.1,hm.2]
     cases h34:i.Op_==34 with
     | true =>
      rw [htop (hv34 (.inl h34)),List.append_nil]
      simp; omega
     | false =>
      cases h5:i.Op_==35 with
      | true =>
       rw [htop (hv34 (.inr h5)),List.append_nil,z6f]
       obtain ⟨o',x,_,q⟩:=h35 h5
       rw [q]; simp
      | false=>rfl
    rw [z84,hst2,cond_true]
    unfold z1s at hg ⊢
    rw [hm.1,hm.2] at hg ⊢
    cases h34:i.Op_==34 with
    | true =>
     have et:=htop (hv34 (.inl h34))
     have ev:=hv34 (.inl h34)
     subst et
     rw [h34] at hg hd
     simp only [Bool.true_or,cond_true,Bool.or_eq_false_iff] at hg hd ⊢
     rw [List.append_nil]
     have eb2:base (o++[⟨i.Op_,i.N_,s⟩])=base o++[⟨i.Op_,i.N_,s⟩]:=by
      rw [z42]
      congr 1
      unfold base
      rw [List.filter_cons]
      simp only [hm.1]; rfl
     have:=za4 hr l (k+1) (k2+1) s (o++[⟨i.Op_,i.N_,s⟩]) r (vecP c i) [] hg (by rw [eb2]; simpa using hd.2) (by
      rw [eb2]
      have:=hd.1
      simp at this ⊢
      omega) (.inl ⟨ev,rfl⟩)
     rw [eb2,List.append_nil] at this
     exact this
    | false =>
     rw [h34] at hg hd
     cases h5:i.Op_==35 with
     | true =>
      have et:=htop (hv34 (.inr h5))
      have ev:=hv34 (.inr h5)
      subst et
      rw [h5] at hg hd
      obtain ⟨o',x,q1,q2⟩:=h35 h5
      rw [List.append_nil]
      simp only [Bool.false_or,Bool.or_self,cond_true,cond_false] at hg hd ⊢
      rw [q2] at hd hb ⊢
      rw [q1] at hg
      simp only [List.getLast?_concat,Option.getD_some,List.dropLast_concat] at hg ⊢
      have:=za4 hr l (k+1) (k2+1) x.Set_ o' r (vecP c i) [] hg (by
       have e:(((base o'++[x]).length:Nat):Int) - 1=(base o').length:=by simp
       rw [← e]; exact hd) (by simp at hb; omega) (.inl ⟨ev,rfl⟩)
      rw [List.append_nil] at this
      exact this
     | false =>
      rw [h5] at hg hd
      simp only [Bool.false_or,Bool.or_self,cond_true,cond_false] at hg hd ⊢
      cases hs:sets i with
      | true =>
       rw [hs] at hg
       exact za4 hr l (k+1) (k2+1) _ o r (vecP c i) t' hg hd hb ht'
      | false =>
       rw [hs] at hg
       exact za4 hr l (k+1) (k2+1) _ o r (vecP c i) t' hg hd hb ht'
end
abbrev fusC (c:Xe):Xe:=⟨c.Sign_,c.Regs_,c.Slots_,fzR c⟩
theorem ya7 {c:Xe} (h:(chk c).1=0):(chk (fusC c)).1=0:=by
 unfold fusC fzR
 cases hd:deep 0 c.List_ || decide (((fzL c (-1) (bare c.List_)).length:Int) > 32768) with
 | true=>exact h
 | false =>
  simp only [Bool.or_eq_false_iff,decide_eq_false_iff_not] at hd
  obtain ⟨_,q1,q2,q3,q4,q5,r,q6,q7⟩:=zbz h
  have hr:∀ t ∈ c.Regs_,mayT c.Sign_ t=true:=List.all_eq_true.1 q4
  have:=za4 hr c.List_ 0 0 (z6g c) [] r (-1) [] q6 hd.1 (by decide) (.inl ⟨rfl,rfl⟩)
  have e:goR c (fzL c (-1) (bare c.List_)) 0 (z6g c) [] = .inr (r.1,base r.2):=this
  rw [cond_false,y1l h _ (by omega),e,q7]
  rfl
theorem zio (a b:List Xd):bare (a++b)=bare a++bare b:=by unfold bare; rw [List.filter_append]
theorem zvz (o v:Int):bare (preF o v)=[]:=by
 unfold preF
 rw [zio]
 have e1:bare [lpE]=[]:=rfl
 have e2:bare [lpB v]=[]:=rfl
 cases decide (o≥0) && v != o <;> cases decide (v≥0) && v != o <;> simp only [cond_true,cond_false,e1,e2] <;> rfl
theorem zg2 (c:Xe):∀ (l:List Xd) (o:Int),bare (fzL c o (bare l))=bare l
 | [],o=>by
  show bare (bif decide (o≥0) then [lpE] else [])=[]
  cases decide (o≥0) <;> rfl
 | i::l,o=>by
  cases hm:mark i with
  | true =>
   have eb:bare (i::l)=bare l:=by unfold bare; rw [List.filter_cons,hm]; rfl
   rw [eb]; exact zg2 c l o
  | false =>
   have eb:∀ l,bare (i::l)=i::bare l:=fun l=>by unfold bare; rw [List.filter_cons,hm]; rfl
   rw [eb]
   show bare (preF o (vecP c i)++i::fzL c (vecP c i) (bare l))=_
   rw [zio,zvz,eb,zg2 c l]; rfl
theorem y9y (c:Xe):bare (fzR c)=bare c.List_:=by
 unfold fzR
 cases deep 0 c.List_ || decide (((fzL c (-1) (bare c.List_)).length:Int) > 32768) with
 | true=>rfl
 | false=>exact zg2 c c.List_ (-1)
theorem yad {c:Xe} (h:c.List_.length≤32768):(fzR c).length≤32768:=by
 unfold fzR
 cases hd:deep 0 c.List_ || decide (((fzL c (-1) (bare c.List_)).length:Int) > 32768) with
 | true=>exact h
 | false=>simp only [Bool.or_eq_false_iff,decide_eq_false_iff_not] at hd; simp only [cond_false]; omega
def Got {α:Type} (o:Option α) (Q:α→Prop):Prop:=∃ y,o=some y∧Q y
theorem z85 {α:Type} {o:Option α} {Q Q':α→Prop} (h:Got o Q) (hq:∀ y,Q y→Q' y):Got o Q':=by
 obtain ⟨y,e,q⟩:=h
 exact ⟨y,e,hq y q⟩
section
variable {P:Program} {T:TT} {pro:List Nat} {R S A V:Type} {Q:R→Prop}
def Ans (t:Pt P T pro R) (Q:R→Prop):Prop:=Got t.run Q
theorem z0 {x:R} (h:Q x):Ans (.leaf x:Pt P T pro R) Q:=⟨x,rfl,h⟩
theorem z7 {b:Bool} {x y:Pt P T pro R} (h1:b=true→Ans x Q) (h2:b=false→Ans y Q):Ans (.ite b x y) Q:=by
 cases b with
 | true=>exact h1 rfl
 | false=>exact h2 rfl
theorem zl {p:Prop} [Decidable p] {K:Pt P T pro R} (hp:p) (h:Ans K Q):Ans (.need p K) Q:=by
 obtain ⟨y,e,q⟩:=h
 exact ⟨y,by show need p K.run=_; rw [zq hp,e],q⟩
theorem zi {x:Option A} {K:A→Pt P T pro R} {a:A} (hx:x=some a) (h:Ans (K a) Q):Ans (.bnd x K) Q:=by
 obtain ⟨y,e,q⟩:=h
 exact ⟨y,by show (x.bind fun a=>(K a).run)=_; rw [hx,Option.bind_some,e],q⟩
theorem zj (J:S→Prop) {enc:S→EH T} {B:Pt P T pro (S⊕R)} {K:S→Pt P T pro R} (h:Ans B (fun s=>match s with | .inl s=>J s | .inr r=>Q r)) (hk:∀ s,J s→Ans (K s) Q):Ans (.join enc B K) Q:=by
 obtain ⟨y,e,q⟩:=h
 cases y with
 | inl s =>
  obtain ⟨z,e2,q2⟩:=hk s q
  exact ⟨z,by show (B.run.bind (zn fun s=>(K s).run))=_; rw [e,Option.bind_some,orRet_inl,e2],q2⟩
 | inr r=>exact ⟨r,by show (B.run.bind (zn fun s=>(K s).run))=_; rw [e]; rfl,q⟩
theorem z8 {C:Con P T} (J:C.Y→Prop) {x:C.X} {K:C.Y→Pt P T pro R} (h:Got (C.G x) J) (hk:∀ y,J y→Ans (K y) Q):Ans (.call C x K) Q:=by
 obtain ⟨y,e,q⟩:=h
 obtain ⟨z,e2,q2⟩:=hk y q
 exact ⟨z,by show ((C.G x).bind fun y=>(K y).run)=_; rw [e,Option.bind_some,e2],q2⟩
theorem z1t {c:V→LCon P T pro} {v:V} {x:(c v).X} {KY:(v:V)→(c v).Y→Pt P T pro R} (hr:(c v).ret=false) (J:(c v).Y→Prop) (h:Got ((c v).G x) (fun b=>match b with | .out y=>J y | _=>False)) (hk:∀ y,J y→Ans (KY v y) Q):Ans (.loop c v x KY) Q:=by
 obtain ⟨b,e,q⟩:=h
 cases b with
 | out y =>
  obtain ⟨z,e2,q2⟩:=hk y q
  exact ⟨z,by show ((c v).G x).bind (Bo.then (fun y=>bif (c v).ret then none else (KY v y).run) (fun _=>none))=_; rw [e,Option.bind_some]; show (bif (c v).ret then none else (KY v y).run)=_; rw [hr,cond_false,e2],q2⟩
 | go s=>exact q.elim
 | ret z=>exact q.elim
theorem zgp {c:V→LCon P T pro} {v:V} {x:(c v).X} {KY:(v:V)→(c v).Y→Pt P T pro R} {KZ:(v:V)→(c v).Z→Pt P T pro R} (J:(c v).Y→Prop) (J':(c v).Z→Prop) (h:Got ((c v).G x) (fun b=>match b with | .out y=>J y | .ret z=>J' z | _=>False)) (hk:∀ y,J y→Ans (KY v y) Q) (hz:∀ z,J' z→Ans (KZ v z) Q):Ans (.loopR c v x KY KZ) Q:=by
 obtain ⟨b,e,q⟩:=h
 cases b with
 | out y =>
  obtain ⟨z,e2,q2⟩:=hk y q
  exact ⟨z,by show ((c v).G x).bind (Bo.then (fun y=>(KY v y).run) (fun z=>(KZ v z).run))=_; rw [e,Option.bind_some]; exact e2,q2⟩
 | go s=>exact q.elim
 | ret y =>
  obtain ⟨z,e2,q2⟩:=hz y q
  exact ⟨z,by show ((c v).G x).bind (Bo.then (fun y=>(KY v y).run) (fun z=>(KZ v z).run))=_; rw [e,Option.bind_some]; exact e2,q2⟩
end
theorem z53 {S Y Z:Type} {body:S→Option (Bo S Y Z)} {Q:Bo S Y Z→Prop} (I:Nat→S→Prop) (hb:∀ k s,I k s→Got (body s) (fun b=>match b with | .go s'=>∃ k',k'<k∧I k' s' | .out y=>Q (.out y) | .ret z=>Q (.ret z))) :
  ∀ (k f:Nat) (s:S),I k s→k<f→Got (iter body f s) Q
 | k,0,s,hi,hk=>by omega
 | k,f+1,s,hi,hk=>by
  obtain ⟨b,e,q⟩:=hb k s hi
  unfold iter
  rw [e]
  cases b with
  | go s' =>
   obtain ⟨k',h1,h2⟩:=q
   exact z53 I hb k' f s' h2 (by omega)
  | out y=>exact ⟨_,rfl,q⟩
  | ret z=>exact ⟨_,rfl,q⟩
theorem z1i (x:Int):0≤IntKind.u64.wrap x:=by
 simp [IntKind.wrap,IntKind.bits,IntKind.signed]; omega
theorem z74 (x:Int):IntKind.u64.wrap x<18446744073709551616:=by
 simp [IntKind.wrap,IntKind.bits,IntKind.signed]; omega
theorem y1k (a b:BitVec 64) {m:Nat} (h:b.toNat<m):(a &&& b).toNat<m:=by
 rw [BitVec.toNat_and]
 exact Nat.lt_of_le_of_lt Nat.and_le_right h
theorem y1h (a:Int) {b:Int} {m:Nat} (h:(BitVec.ofInt IntKind.u64.bits b).toNat<m) (hm:m≤18446744073709551616):0≤IntKind.u64.wrap (((BitVec.ofInt IntKind.u64.bits a &&& BitVec.ofInt IntKind.u64.bits b).toNat:Nat):Int)∧IntKind.u64.wrap (((BitVec.ofInt IntKind.u64.bits a &&& BitVec.ofInt IntKind.u64.bits b).toNat:Nat):Int)<m:=by
 have h1:(BitVec.ofInt IntKind.u64.bits a &&& BitVec.ofInt IntKind.u64.bits b).toNat<m:=y1k (BitVec.ofInt IntKind.u64.bits a) (BitVec.ofInt IntKind.u64.bits b) h
 generalize (BitVec.ofInt IntKind.u64.bits a &&& BitVec.ofInt IntKind.u64.bits b).toNat=z at h1 ⊢
 have e:IntKind.u64.wrap (z:Int)=z:=by
  simp [IntKind.wrap,IntKind.bits,IntKind.signed]; omega
 rw [e]; omega
def zct (m:Int):Prop:=0≤m∧m<16777216
theorem y0n (a:Int):0≤IntKind.u64.wrap (((BitVec.ofInt IntKind.u64.bits a &&& BitVec.ofInt IntKind.u64.bits (8388607:Int)).toNat:Nat):Int)∧IntKind.u64.wrap (((BitVec.ofInt IntKind.u64.bits a &&& BitVec.ofInt IntKind.u64.bits (8388607:Int)).toNat:Nat):Int)<8388608:=y1h a (m:=8388608) (by decide) (by decide)
theorem t69 {n:Nat} (x:Int):Got ((k69 n).G x) (fun y=>zct y.2.1):=by
 show Ans (zid n x) _
 unfold zid
 have h:=y0n (IntKind.u64.wrap x)
 refine zj (fun s=>zct s.1) ?_ (fun s hs=>z0 hs)
 refine z7 (fun _=>z0 ⟨show (0:Int)≤0 by decide,show (0:Int)<16777216 by decide⟩) (fun _=>z7 (fun _=>z0 ⟨h.1,by omega⟩) (fun _=>z0 ?_))
 have e:∀ z:Int,0≤z∧z<8388608→IntKind.u64.wrap (8388608+z)=8388608+z:=fun z hz=>by
  simp [IntKind.wrap,IntKind.bits,IntKind.signed]; omega
 show zct (IntKind.u64.wrap (8388608+_))
 rw [e _ h]
 exact ⟨by omega,by omega⟩
theorem y0q {a:Int} {k:Nat} (h:a<2 ^ (k+1)):a.fdiv (2 ^ min (1:Int).toNat IntKind.u64.bits)<2 ^ k:=by
 have e:((2:Int) ^ min (1:Int).toNat IntKind.u64.bits)=2:=by decide
 rw [e,Int.fdiv_eq_ediv_of_nonneg _ (by decide)]
 rw [Int.pow_succ] at h
 omega
theorem zzx {n:Nat} (hn:1000<n) {x:Int} (hx:x<18446744073709551616):Got ((k157 n).G x) (fun (y:Int)=>0≤y∧y≤64):=by
 show Ans (zk2 n x) _
 unfold zk2
 refine z1t rfl (fun (q:Yaa)=>0≤q.2∧q.2≤64) ?_ (fun _ h=>z0 h)
 refine z53 (fun k (q:Yaa)=>q.1<2 ^ k∧0≤q.2∧q.2+k≤64) (fun k q hq=>?_) 64 n (x,0) ⟨by simpa using hx,show (0:Int)≤0 by decide,show (0:Int)+((64:Nat):Int)≤64 by decide⟩ (by omega)
 show Ans (zgd n x () q) _
 unfold zgd
 obtain ⟨h1,h2,h3⟩:=hq
 refine z7 (fun h=>z0 ?_) (fun _=>z0 ⟨h2,show q.2≤64 by omega⟩)
 match k,h1,h3 with
 | 0,h1,h3=>simp at h h1; omega
 | k+1,h1,h3 =>
  have e:IntKind.i64.wrap (q.2+1)=q.2+1:=z1w (by omega) (by omega)
  exact ⟨k,by omega,y0q h1,show 0≤IntKind.i64.wrap (q.2+1) by rw [e]; omega,show IntKind.i64.wrap (q.2+1)+(k:Int)≤64 by rw [e]; omega⟩
theorem t157 {n:Nat} (hn:1000<n) {x:Int} (hx:x<18446744073709551616):Got ((k157 n).G x) (fun _=>True):=z85 (zzx hn hx) fun _ _=>trivial
theorem t137 {n:Nat} (hn:1000<n) (x:Int):Got ((k137 n).G x) (fun _=>True):=by
 show Ans (zjv n x) _
 unfold zjv
 repeat' first
  | exact z0 True.intro
  | refine z7 (fun _=>?_) (fun _=>?_)
  | refine zl (z1i _) ?_
  | refine zj (fun _=>True) ?_ (fun _ _=>?_)
theorem t136 {n:Nat} (hn:1000<n) (x:Int):Got ((k136 n).G x) (fun _=>True):=by
 show Ans (zju n x) _
 unfold zju
 repeat' first
  | exact z0 True.intro
  | refine z7 (fun _=>?_) (fun _=>?_)
  | refine zl (z1i _) ?_
  | refine zj (fun _=>True) ?_ (fun _ _=>?_)
  | refine z8 (fun _=>True) (t137 hn _) (fun _ _=>?_)
theorem t159 {n:Nat} (hn:1000<n) (x:Ybf):Got ((k159 n).G x) (fun _=>True):=by
 show Ans (zk4 n x) _
 unfold zk4
 repeat' first
  | exact z0 True.intro
  | refine z7 (fun _=>?_) (fun _=>?_)
  | refine zl (z1i _) ?_
  | refine zj (fun _=>True) ?_ (fun _ _=>?_)
theorem t161 {n:Nat} (hn:1000<n) (x:Bool):Got ((k161 n).G x) (fun _=>True):=by
 show Ans (zk6 n x) _
 unfold zk6
 repeat' first
  | exact z0 True.intro
  | refine z7 (fun _=>?_) (fun _=>?_)
  | refine zl (z1i _) ?_
  | refine zj (fun _=>True) ?_ (fun _ _=>?_)
theorem t160 {n:Nat} (hn:1000<n) (x:Bool):Got ((k160 n).G x) (fun _=>True):=by
 show Ans (zk5 n x) _
 unfold zk5
 repeat' first
  | exact z0 True.intro
  | refine z7 (fun _=>?_) (fun _=>?_)
  | refine zl (z1i _) ?_
  | refine zj (fun _=>True) ?_ (fun _ _=>?_)
  | refine z8 (fun _=>True) (t161 hn _) (fun _ _=>?_)
theorem t163 {n:Nat} (hn:1000<n) (x:Bool):Got ((k163 n).G x) (fun _=>True):=by
 show Ans (zk8 n x) _
 unfold zk8
 repeat' first
  | exact z0 True.intro
  | refine z7 (fun _=>?_) (fun _=>?_)
  | refine zl (z1i _) ?_
  | refine zj (fun _=>True) ?_ (fun _ _=>?_)
  | refine z8 (fun _=>True) (t161 hn _) (fun _ _=>?_)
theorem t164 {n:Nat} (hn:1000<n) (x:Yaa):Got ((k164 n).G x) (fun _=>True):=by
 show Ans (zk9 n x) _
 unfold zk9
 repeat' first
  | exact z0 True.intro
  | refine z7 (fun _=>?_) (fun _=>?_)
  | refine zl (z1i _) ?_
  | refine zj (fun _=>True) ?_ (fun _ _=>?_)
theorem t162 {n:Nat} (hn:1000<n) {x:Bool×Int×Int} (hx:x.2.1<18446744073709551616):Got ((k162 n).G x) (fun _=>True):=by
 show Ans (zk7 n x) _
 unfold zk7
 repeat' first
  | exact z0 True.intro
  | refine z7 (fun _=>?_) (fun _=>?_)
  | refine zl (z1i _) ?_
  | refine z8 (fun _=>True) (t157 hn hx) (fun _ _=>?_)
  | refine zj (fun _=>True) ?_ (fun _ _=>?_)
  | refine z8 (fun _=>True) (t163 hn _) (fun _ _=>?_)
  | refine z8 (fun _=>True) (t164 hn _) (fun _ _=>?_)
  | refine z8 (fun _=>True) (t161 hn _) (fun _ _=>?_)
  | refine z8 (fun _=>True) (t160 hn _) (fun _ _=>?_)
theorem t69t {n:Nat} (hn:1000<n) (x:Int):Got ((k69 n).G x) (fun _=>True):=z85 (t69 x) fun _ _=>trivial
theorem t65 {n:Nat} (hn:1000<n) (x:Int):Got ((k65 n).G x) (fun _=>True):=by
 show Ans (zic n x) _
 unfold zic
 repeat' first
  | exact z0 True.intro
  | refine z7 (fun _=>?_) (fun _=>?_)
  | refine zl (z1i _) ?_
  | refine z8 (fun _=>True) (t69t hn _) (fun _ _=>?_)
  | refine zj (fun _=>True) ?_ (fun _ _=>?_)
theorem t158 {n:Nat} (hn:1000<n) (x:Yaa):Got ((k158 n).G x) (fun _=>True):=by
 show Ans (zk3 n x) _
 unfold zk3
 repeat' first
  | exact z0 True.intro
  | refine z7 (fun _=>?_) (fun _=>?_)
  | refine zl (z1i _) ?_
  | refine z8 (fun _=>True) (t69t hn _) (fun _ _=>?_)
  | refine z8 (fun _=>True) (t162 hn (z74 _)) (fun _ _=>?_)
  | refine zj (fun _=>True) ?_ (fun _ _=>?_)
  | refine z8 (fun _=>True) (t159 hn _) (fun _ _=>?_)
  | refine z8 (fun _=>True) (t160 hn _) (fun _ _=>?_)
theorem t169 {n:Nat} (hn:1000<n) (x:Ybf):Got ((k169 n).G x) (fun _=>True):=by
 show Ans (zke n x) _
 unfold zke
 repeat' first
  | exact z0 True.intro
  | refine z7 (fun _=>?_) (fun _=>?_)
  | refine zl (z1i _) ?_
  | refine z8 (fun _=>True) (t162 hn (z74 _)) (fun _ _=>?_)
  | refine zj (fun _=>True) ?_ (fun _ _=>?_)
  | refine z8 (fun _=>True) (t163 hn _) (fun _ _=>?_)
theorem t165 {n:Nat} (hn:1000<n) (x:Int):Got ((k165 n).G x) (fun _=>True):=by
 show Ans (zka n x) _
 unfold zka
 repeat' first
  | exact z0 True.intro
  | refine z7 (fun _=>?_) (fun _=>?_)
  | refine zl (z1i _) ?_
  | refine z8 (fun _=>True) (t162 hn (z74 _)) (fun _ _=>?_)
  | refine zj (fun _=>True) ?_ (fun _ _=>?_)
  | refine z8 (fun _=>True) (t163 hn _) (fun _ _=>?_)
theorem t166 {n:Nat} (hn:1000<n) (x:Bool):Got ((k166 n).G x) (fun _=>True):=by
 show Ans (zkb n x) _
 unfold zkb
 repeat' first
  | exact z0 True.intro
  | refine z7 (fun _=>?_) (fun _=>?_)
  | refine zl (z1i _) ?_
  | refine zj (fun _=>True) ?_ (fun _ _=>?_)
theorem t172 {n:Nat} (hn:1000<n) (x:Int):Got ((k172 n).G x) (fun _=>True):=by
 show Ans (zkh n x) _
 unfold zkh
 repeat' first
  | exact z0 True.intro
  | refine z7 (fun _=>?_) (fun _=>?_)
  | refine zl (z1i _) ?_
  | refine zj (fun _=>True) ?_ (fun _ _=>?_)
theorem t171 {n:Nat} (hn:1000<n) (x:Yaa):Got ((k171 n).G x) (fun _=>True):=by
 show Ans (zkg n x) _
 unfold zkg
 repeat' first
  | exact z0 True.intro
  | refine z7 (fun _=>?_) (fun _=>?_)
  | refine zl (z1i _) ?_
  | refine z8 (fun _=>True) (t69t hn _) (fun _ _=>?_)
  | refine zj (fun _=>True) ?_ (fun _ _=>?_)
  | refine z8 (fun _=>True) (t159 hn _) (fun _ _=>?_)
  | refine z8 (fun _=>True) (t172 hn _) (fun _ _=>?_)
theorem t187 {n:Nat} (hn:1000<n) (x:Yaa):Got ((k187 n).G x) (fun _=>True):=by
 show Ans (zkv n x) _
 unfold zkv
 repeat' first
  | exact z0 True.intro
  | refine z7 (fun _=>?_) (fun _=>?_)
  | refine zl (z1i _) ?_
  | refine z8 (fun _=>True) (t69t hn _) (fun _ _=>?_)
  | refine zj (fun _=>True) ?_ (fun _ _=>?_)
  | refine z8 (fun _=>True) (t159 hn _) (fun _ _=>?_)
  | refine z8 (fun _=>True) (t172 hn _) (fun _ _=>?_)
theorem t189 {n:Nat} (hn:1000<n) (x:Int):Got ((k189 n).G x) (fun _=>True):=by
 show Ans (zkx n x) _
 unfold zkx
 repeat' first
  | exact z0 True.intro
  | refine z7 (fun _=>?_) (fun _=>?_)
  | refine zl (z1i _) ?_
  | refine zj (fun _=>True) ?_ (fun _ _=>?_)
theorem t188 {n:Nat} (hn:1000<n) (x:Yaa):Got ((k188 n).G x) (fun _=>True):=by
 show Ans (zkw n x) _
 unfold zkw
 repeat' first
  | exact z0 True.intro
  | refine z7 (fun _=>?_) (fun _=>?_)
  | refine zl (z1i _) ?_
  | refine z8 (fun _=>True) (t69t hn _) (fun _ _=>?_)
  | refine zj (fun _=>True) ?_ (fun _ _=>?_)
  | refine z8 (fun _=>True) (t159 hn _) (fun _ _=>?_)
  | refine z8 (fun _=>True) (t172 hn _) (fun _ _=>?_)
  | refine z8 (fun _=>True) (t189 hn _) (fun _ _=>?_)
theorem t181 {n:Nat} (hn:1000<n) (x:Int):Got ((k181 n).G x) (fun _=>True):=by
 show Ans (zkp n x) _
 unfold zkp
 repeat' first
  | exact z0 True.intro
  | refine z7 (fun _=>?_) (fun _=>?_)
  | refine zl (z1i _) ?_
  | refine z8 (fun _=>True) (t69t hn _) (fun _ _=>?_)
  | refine zj (fun _=>True) ?_ (fun _ _=>?_)
theorem t182 {n:Nat} (hn:1000<n) (x:Int):Got ((k182 n).G x) (fun _=>True):=by
 show Ans (zkq n x) _
 unfold zkq
 repeat' first
  | exact z0 True.intro
  | refine z7 (fun _=>?_) (fun _=>?_)
  | refine zl (z1i _) ?_
  | refine z8 (fun _=>True) (t69t hn _) (fun _ _=>?_)
  | refine zj (fun _=>True) ?_ (fun _ _=>?_)
theorem t183 {n:Nat} (hn:1000<n) (x:Int):Got ((k183 n).G x) (fun _=>True):=by
 show Ans (zkr n x) _
 unfold zkr
 repeat' first
  | exact z0 True.intro
  | refine z7 (fun _=>?_) (fun _=>?_)
  | refine zl (z1i _) ?_
  | refine zj (fun _=>True) ?_ (fun _ _=>?_)
theorem t184 {n:Nat} (hn:1000<n) (x:Bool):Got ((k184 n).G x) (fun _=>True):=by
 show Ans (zks n x) _
 unfold zks
 repeat' first
  | exact z0 True.intro
  | refine z7 (fun _=>?_) (fun _=>?_)
  | refine zl (z1i _) ?_
  | refine zj (fun _=>True) ?_ (fun _ _=>?_)
theorem t190 {n:Nat} (hn:1000<n) (x:Yal):Got ((k190 n).G x) (fun _=>True):=by
 show Ans (zky n x) _
 unfold zky
 repeat' first
  | exact z0 True.intro
  | refine z7 (fun _=>?_) (fun _=>?_)
  | refine zl (z1i _) ?_
  | refine z8 (fun _=>True) (t69t hn _) (fun _ _=>?_)
  | refine zj (fun _=>True) ?_ (fun _ _=>?_)
  | refine z8 (fun _=>True) (t189 hn _) (fun _ _=>?_)
  | refine z8 (fun _=>True) (t65 hn _) (fun _ _=>?_)
theorem t168 {n:Nat} (hn:1000<n) (x:Yaa):Got ((k168 n).G x) (fun _=>True):=by
 show Ans (zkd n x) _
 unfold zkd
 refine z8 _ (t69 _) (fun y1 h1=>?_)
 refine z8 _ (t69 _) (fun y2 h2=>?_)
 have l1:y1.2.1<18446744073709551616:=by have:=h1.2; omega
 have l2:y2.2.1<18446744073709551616:=by have:=h2.2; omega
 repeat' first
  | exact z0 True.intro
  | exact z0 ⟨l1,l2⟩
  | refine z7 (fun _=>?_) (fun _=>?_)
  | refine z8 (fun _=>True) (t159 hn _) (fun _ _=>?_)
  | refine z8 (fun _=>True) (t160 hn _) (fun _ _=>?_)
  | refine z8 (fun _=>True) (t163 hn _) (fun _ _=>?_)
  | refine z8 (fun _=>True) (t169 hn _) (fun _ _=>?_)
  | refine z8 (fun _=>True) (t162 hn l1) (fun _ _=>?_)
  | refine z8 (fun _=>True) (t162 hn l2) (fun _ _=>?_)
  | refine z8 (fun _=>True) (t162 hn ‹_›) (fun _ _=>?_)
  | refine zj (fun (s:Ybl)=>s.2.2.1<18446744073709551616∧s.2.2.2.2.2.2.2.1<18446744073709551616) ?_ (fun s ⟨l1,l2⟩=>?_)
  | refine zj (fun _=>True) ?_ (fun _ _=>?_)
theorem t185 {n:Nat} (hn:1000<n) (x:Yaa):Got ((k185 n).G x) (fun _=>True):=by
 show Ans (zkt n x) _
 unfold zkt
 repeat' first
  | exact z0 True.intro
  | refine z7 (fun _=>?_) (fun _=>?_)
  | refine zl (z1i _) ?_
  | refine zj (fun _=>True) ?_ (fun _ _=>?_)
  | refine z8 (fun _=>True) (t181 hn _) (fun _ _=>?_)
  | refine z8 (fun _=>True) (t168 hn _) (fun _ _=>?_)
theorem zgo {P:Program} {T:TT} {pro:List Nat} {R S:Type} {Q:R→Prop} {enc:S→EH T} {B:Pt P T pro (S⊕R)} {K:S→Pt P T pro R} (h:Ans B (fun s=>match s with | .inl s=>Ans (K s) Q | .inr r=>Q r)):Ans (.join enc B K) Q:=zj (fun s=>Ans (K s) Q) h fun _ h=>h
theorem t180 {n:Nat} (hn:1000<n) {x:Xk} (h0:0<x.M_) (h1:x.M_<16777216):Got ((k180 n).G x) (fun y=>0<y.2.1∧y.2.1<16777216):=by
 show Ans (zko n x) _
 unfold zko
 refine z1t rfl (fun (q:Yaa)=>0<q.1∧q.1<16777216) ?_ (fun _ h=>z0 h)
 refine z53 (fun k (q:Yaa)=>q.1<16777216∧0<q.1∧8388608≤q.1 * 2 ^ k) (fun k q hq=>?_) 23 n (x.M_,x.E_) ⟨h1,h0,by omega⟩ (by omega)
 show Ans (zgf n x () q) _
 unfold zgf
 refine z7 (fun h=>z0 ?_) (fun _=>z0 ⟨hq.2.1,hq.1⟩)
 simp only [decide_eq_true_eq] at h
 obtain ⟨a,b,c⟩:=hq
 have e:IntKind.u64.wrap (q.1 * 2)=q.1 * 2:=by
  simp [IntKind.wrap,IntKind.bits,IntKind.signed]; omega
 match k,c with
 | 0,c=>simp at c; omega
 | k+1,c =>
  refine ⟨k,by omega,?_,?_,?_⟩
  ·show IntKind.u64.wrap (q.1 * 2)<_; rw [e]; omega
  ·show 0<IntKind.u64.wrap (q.1 * 2); rw [e]; omega
  ·show _≤IntKind.u64.wrap (q.1 * 2) * 2 ^ k
   rw [e,Int.mul_assoc,Int.mul_comm 2]
   rw [Int.pow_succ] at c
   exact c
abbrev zi6:Type:=Bool×Bool×Bool×Int×Int×Bool×Bool×Bool×Int×Int×Bool×Bool
def Ms (s:zi6):Prop:=zct s.2.2.2.1∧zct s.2.2.2.2.2.2.2.2.1
theorem t186 {n:Nat} (hn:1000<n) (x:Yaa):Got ((k186 n).G x) (fun _=>True):=by
 show Ans (zku n x) _
 unfold zku
 refine z8 _ (t69 _) (fun y1 h1=>?_)
 refine z8 _ (t69 _) (fun y2 h2=>?_)
 refine zj (fun (s:zi6)=>Ms s) ?_ (fun s1 hs1=>?_)
 ·repeat' first
   | exact z0 ⟨h1,h2⟩
   | refine z7 (fun _=>?_) (fun _=>?_)
   | refine z8 (fun _=>True) (t159 hn _) (fun _ _=>?_)
 refine z7 (fun _=>z0 True.intro) (fun _=>?_)
 refine zj (fun (s:zi6)=>Ms s∧(s.2.1=false→s.2.2.2.2.2.2.2.2.2.2.1=false→s.2.2.2.2.2.2.2.2.1 ≠ 0)) ?_ (fun s2 hs2=>?_)
 ·refine z7 (fun _=>z0 ⟨hs1,fun h=>by cases h⟩) (fun _=>z7 (fun _=>z0 ⟨hs1,fun h _=>?_⟩) (fun h=>z0 ⟨hs1,fun _ h'=>?_⟩))
  ·simpa using h
  ·rw [show s1.2.2.2.2.2.2.2.2.2.2.1=false from h'] at h; cases h
 refine z7 (fun _=>z8 (fun _=>True) (t160 hn _) (fun _ _=>z0 True.intro)) (fun hb=>?_)
 refine zj (fun (s:zi6)=>Ms s∧(s.2.1=false→s.2.2.2.1 ≠ 0∧s.2.2.2.2.2.2.2.2.1 ≠ 0)) ?_ (fun s3 hs3=>?_)
 ·refine z7 (fun _=>z0 ⟨hs2.1,fun h=>by cases h⟩) (fun hi=>z0 ⟨hs2.1,fun h=>⟨?_,hs2.2 hb hi⟩⟩)
  simpa using h
 refine z7 (fun _=>z8 (fun _=>True) (t163 hn _) (fun _ _=>z0 True.intro)) (fun hc=>?_)
 obtain ⟨q1,q2⟩:=hs3.2 hc
 obtain ⟨⟨a1,b1⟩,⟨a2,b2⟩⟩:=hs3.1
 refine z8 _ (t180 hn (show (0:Int)<s3.2.2.2.1 by omega) b1) (fun y6 h6=>?_)
 refine z8 _ (t180 hn (show (0:Int)<s3.2.2.2.2.2.2.2.2.1 by omega) b2) (fun y7 h7=>?_)
 have h0:y7.2.1 ≠ (0:Int):=by have:=h7.1; omega
 refine zl h0 (zl h0 ?_)
 refine zj (fun (s:Ycf)=>s.2.1<18446744073709551616) ?_ (fun s4 h4=>?_)
 ·refine z7 (fun _=>z0 (z74 _)) (fun _=>z0 (z74 _))
 ·exact z8 (fun _=>True) (t162 hn h4) (fun _ _=>z0 True.intro)
theorem t179 {n:Nat} (hn:1000<n) (x:Int):Got ((k179 n).G x) (fun _=>True):=by
 show Ans (zkn n x) _
 unfold zkn
 refine z8 _ (t69 _) (fun y1 h1=>?_)
 refine z7 (fun _=>z0 True.intro) (fun _=>?_)
 refine zj (fun (s:Yce)=>zct s.2.2.1∧(s.1=false→s.2.2.2.2.1=false→s.2.2.1 ≠ 0)) ?_ (fun s1 hs1=>?_)
 ·refine z7 (fun _=>z0 ⟨h1,fun h _=>?_⟩) (fun h=>z0 ⟨h1,fun _ h'=>?_⟩)
  ·simpa using h
  ·rw [show y1.2.2.2.1=false from h'] at h; cases h
 refine z7 (fun _=>z0 True.intro) (fun hb=>z7 (fun _=>z0 True.intro) (fun _=>z7 (fun _=>z0 True.intro) (fun hi=>?_)))
 obtain ⟨⟨a1,b1⟩,q⟩:=hs1
 have q:=q hb hi
 refine z8 _ (t180 hn (show (0:Int)<s1.2.2.1 by omega) b1) (fun y2 h2=>?_)
 refine zj (fun _=>True) ?_ (fun s2 _=>?_)
 ·exact z7 (fun _=>z0 True.intro) (fun _=>z0 True.intro)
 refine z1t rfl (fun _=>True) ?_ (fun y3 _=>?_)
 ·refine z53 (fun k (q:Yaa)=>0≤q.2∧q.2<2 ^ k) (fun k q hq=>?_) 32 n (0,2147483648) ⟨by decide,by decide⟩ (by omega)
  show Ans (zge n x _ q) _
  unfold zge
  obtain ⟨h3,h4⟩:=hq
  have key:q.2 > 0→∃ k',k'<k∧0≤IntKind.u64.wrap (q.2.tdiv 2)∧IntKind.u64.wrap (q.2.tdiv 2)<2 ^ k':=fun hp=>by
   match k,h4 with
   | 0,h4=>simp at h4; omega
   | k+1,h4 =>
    refine ⟨k,by omega,z1i _,?_⟩
    rw [Int.pow_succ] at h4
    rw [Int.tdiv_eq_ediv_of_nonneg h3]
    have:IntKind.u64.wrap (q.2 / 2)≤q.2 / 2:=by
     have hw:IntKind.u64.wrap (q.2 / 2)=(q.2 / 2) % 18446744073709551616:=by simp [IntKind.wrap,IntKind.bits,IntKind.signed]
     rw [hw]; omega
    omega
  refine z7 (fun h=>?_) (fun _=>z0 True.intro)
  have hp:q.2 > 0:=by simpa using h
  exact z7 (fun _=>z0 (key hp)) (fun _=>z0 (key hp))
 ·refine zj (fun (s:Yaa)=>s.2<18446744073709551616) ?_ (fun s3 h3=>?_)
  ·exact z7 (fun _=>z0 (z74 _)) (fun _=>z0 (z74 _))
  ·exact z8 (fun _=>True) (t162 hn h3) (fun _ _=>z0 True.intro)
theorem t156 {n:Nat} (hn:1000<n) (x:Yaa):Got ((k156 n).G x) (fun _=>True):=by
 show Ans (zk1 n x) _
 unfold zk1
 refine z7 (fun _=>z0 True.intro) (fun _=>?_)
 refine z8 (fun _=>True) (t65 hn _) (fun y1 _=>?_)
 refine z8 (fun (y:Int)=>0≤y∧y≤64) (zzx hn (z74 _)) (fun (y2:Int) h2=>?_)
 refine z1t rfl (fun _=>True) ?_ (fun _ _=>z0 True.intro)
 obtain ⟨h3,h4⟩:=h2
 refine z53 (fun k (q:Yaa)=>q.2<k∧k≤100) (fun k q hq=>?_) 63 n (y1,_) ⟨by rw [z1w (by omega) (by omega)]; omega,by decide⟩ (by omega)
 show Ans (zgc n x () q) _
 unfold zgc
 have key:q.2≥0→∃ k':Nat,k'<k∧IntKind.i64.wrap (q.2 - 1)<k'∧k'≤100:=fun h=>by
  refine ⟨k - 1,by omega,?_,by omega⟩
  rw [z1w (by omega) (by omega)]; omega
 refine z7 (fun h=>?_) (fun _=>z0 True.intro)
 have h:=key (by simpa using h)
 refine z8 (fun _=>True) (t158 hn _) (fun y3 _=>zl (z1i _) ?_)
 exact z7 (fun _=>z8 (fun _=>True) (t158 hn _) (fun y4 _=>z0 h)) (fun _=>z0 h)
theorem t173 {n:Nat} (hn:1000<n) (x:Yan):Got ((k173 n).G x) (fun _=>True):=by
 show Ans (zki n x) _
 unfold zki
 repeat' first
  | exact z0 True.intro
  | exact z7 (fun _=>z0 True.intro) (fun h=>zl (by simpa using h) (z0 True.intro))
  | refine z7 (fun _=>?_) (fun _=>?_)
  | refine z8 (fun _=>True) (t166 hn _) (fun _ _=>?_)
theorem t178 {n:Nat} (hn:1000<n) (x:Yan):Got ((k178 n).G x) (fun _=>True):=by
 show Ans (zkm n x) _
 unfold zkm
 repeat' first
  | exact z0 True.intro
  | refine z7 (fun _=>?_) (fun _=>?_)
  | refine z8 (fun _=>True) (t136 hn _) (fun _ _=>?_)
  | refine z8 (fun _=>True) (t179 hn _) (fun _ _=>?_)
  | refine z8 (fun _=>True) (t181 hn _) (fun _ _=>?_)
  | refine z8 (fun _=>True) (t182 hn _) (fun _ _=>?_)
  | refine z8 (fun _=>True) (t183 hn _) (fun _ _=>?_)
  | refine z8 (fun _=>True) (t184 hn _) (fun _ _=>?_)
  | refine z8 (fun _=>True) (t168 hn _) (fun _ _=>?_)
  | refine z8 (fun _=>True) (t185 hn _) (fun _ _=>?_)
  | refine z8 (fun _=>True) (t158 hn _) (fun _ _=>?_)
  | refine z8 (fun _=>True) (t186 hn _) (fun _ _=>?_)
  | refine z8 (fun _=>True) (t171 hn _) (fun _ _=>?_)
  | refine z8 (fun _=>True) (t187 hn _) (fun _ _=>?_)
  | refine z8 (fun _=>True) (t188 hn _) (fun _ _=>?_)
  | refine z8 (fun _=>True) (t190 hn _) (fun _ _=>?_)
theorem t177 {n:Nat} {l:List Int} {i:Int} (h:l.length=1∨(0≤i∧i<l.length)):Got ((k177 n).G (l,i)) (fun _=>True):=by
 show Ans (zkl n (l,i)) _
 unfold zkl
 refine z7 (fun h1=>?_) (fun h1=>?_)
 ·have h1:(l.length:Int)=1:=by simpa using h1
  obtain ⟨y,hy,_⟩:=z2s (l:=l) (n:=0) (by omega) (by omega)
  exact zi hy (z0 True.intro)
 ·have h1:¬ (l.length:Int)=1:=by simpa using h1
  obtain ⟨y,hy,_⟩:=z2s (l:=l) (n:=i) (by omega) (by omega)
  exact zi hy (z0 True.intro)
def tk (op:Int):Nat:=if 4≤op∧op≤10 then 2 else if op=15 then 3 else 1
theorem t176 {n:Nat} {op:Int} (h0:3≤op) (h1:op≤15):Got ((k176 n).G op) (fun (y:Int)=>y=(tk op:Int)):=by
 have h:op=3∨op=4∨op=5∨op=6∨op=7∨op=8∨op=9∨op=10∨op=11∨op=12∨op=13∨op=14∨op=15:=by omega
 rcases h with rfl | rfl | rfl | rfl | rfl | rfl | rfl | rfl | rfl | rfl | rfl | rfl | rfl <;> exact ⟨((tk _:Nat):Int),by kernel_rfl,rfl⟩
theorem z25 {S Y Z:Type} {body:S→Option (Bo S Y Z)} {Q:Bo S Y Z→Prop} (K:Nat) (I:Nat→S→Prop) (hb:∀ i s,i<K→I i s→Got (body s) (fun b=>match b with | .go s'=>I (i+1) s' | .out y=>Q (.out y) | .ret z=>Q (.ret z)))
  (he:∀ s,I K s→Got (body s) (fun b=>match b with | .go _=>False | .out y=>Q (.out y) | .ret z=>Q (.ret z))) (f:Nat) (hf:K<f) (s:S) (h0:I 0 s):Got (iter body f s) Q:=by
 refine z53 (fun k s=>∃ i,i+k=K∧I i s) (fun k s hs=>?_) K f s ⟨0,by omega,h0⟩ hf
 obtain ⟨i,hi,hI⟩:=hs
 by_cases h:i<K
 ·refine z85 (hb i s h hI) fun b hq=>?_
  cases b with
  | go s'=>exact ⟨k - 1,by omega,i+1,by omega,hq⟩
  | out y=>exact hq
  | ret z=>exact hq
 ·obtain rfl:i=K:=by omega
  refine z85 (he s hI) fun b hq=>?_
  cases b with
  | go s'=>exact hq.elim
  | out y=>exact hq
  | ret z=>exact hq
theorem t135 {n:Nat} (hn:100000<n) {w a:Int} (h0:0≤w) (h1:w≤65536):Got ((k135 n).G (w,a)) (fun y=>y.1=(0:Int)∧((y.2.length:Nat):Int)=w):=by
 show Ans (zjt n (w,a)) _
 unfold zjt
 refine zj (fun s=>s=false) ?_ (fun s hs=>?_)
 ·refine z7 (fun h=>?_) (fun _=>z0 ?_)
  ·have:w<0:=by simpa using h
   omega
  ·show decide (w > 65536)=false
   simp only [decide_eq_false_iff_not]; omega
 subst hs
 refine z7 (fun h=>by cases h) (fun _=>?_)
 refine z1t rfl (fun (y:Int×List Int)=>((y.2.length:Nat):Int)=w) ?_ (fun y hy=>z0 ⟨rfl,hy⟩)
 refine z25 w.toNat (fun i (q:Int×List Int)=>q.1=i∧q.2.length=i) (fun i (q:Int×List Int) hi hq=>?_) (fun (q:Int×List Int) hq=>?_) n (by omega) (0,[]) ⟨rfl,rfl⟩
 ·show Ans (z9q n (w,a) () q) _
  unfold z9q
  obtain ⟨q1,q2⟩:=hq
  refine z7 (fun _=>?_) (fun h=>?_)
  ·refine z8 (fun _=>True) (t136 (by omega) _) (fun (y:Int) _=>zl (by simp; omega) (z0 ⟨?_,?_⟩))
   ·show IntKind.i64.wrap (q.1+1)=_
    rw [q1,z15 (by omega)]
   ·simp; omega
  ·simp only [decide_eq_false_iff_not] at h
   have h:¬ q.1<w:=h
   omega
 ·show Ans (z9q n (w,a) () q) _
  unfold z9q
  obtain ⟨q1,q2⟩:=hq
  refine z7 (fun h=>?_) (fun _=>z0 ?_)
  ·have h:q.1<w:=by simpa using h
   omega
  ·show ((q.2.length:Nat):Int)=w
   omega
theorem t167 {n:Nat} {l:List Int} (hn:1000<n) (hl:l.length<n) (hl2:l.length≤1000000000):Got ((k167 n).G l) (fun _=>True):=by
 show Ans (zkc n l) _
 unfold zkc
 refine z1t rfl (fun _=>True) ?_ (fun _ _=>z0 True.intro)
 refine z25 l.length (fun i (q:Yaa)=>q.2=i) (fun i (q:Yaa) hi hq=>?_) (fun (q:Yaa) hq=>?_) n hl (0,0) rfl
 ·show Ans (z9v n l () q) _
  unfold z9v
  refine z7 (fun _=>?_) (fun _=>z0 True.intro)
  refine zi (by rw [hq]; exact z13 hi) ?_
  refine z8 (fun _=>True) (t168 hn _) (fun y _=>z0 ?_)
  show IntKind.i64.wrap (q.2+1)=_
  rw [hq,z15 (by omega)]
 ·show Ans (z9v n l () q) _
  unfold z9v
  refine z7 (fun h=>?_) (fun _=>z0 True.intro)
  have h:q.2<(l.length:Int):=by simpa using h
  omega
theorem t170 {n:Nat} {l:List Int} (hn:1000<n) (hl:l.length<n) (hl2:l.length≤1000000000):Got ((k170 n).G l) (fun _=>True):=by
 show Ans (zkf n l) _
 unfold zkf
 refine z1t rfl (fun _=>True) ?_ (fun _ _=>z0 True.intro)
 refine z25 l.length (fun i (q:Yaa)=>q.2=i) (fun i (q:Yaa) hi hq=>?_) (fun (q:Yaa) hq=>?_) n hl (2139095040,0) rfl
 ·show Ans (z9w n l () q) _
  unfold z9w
  refine z7 (fun _=>?_) (fun _=>z0 True.intro)
  refine zi (by rw [hq]; exact z13 hi) ?_
  refine z8 (fun _=>True) (t171 hn _) (fun y _=>z0 ?_)
  show IntKind.i64.wrap (q.2+1)=_
  rw [hq,z15 (by omega)]
 ·show Ans (z9w n l () q) _
  unfold z9w
  refine z7 (fun h=>?_) (fun _=>z0 True.intro)
  have h:q.2<(l.length:Int):=by simpa using h
  omega
theorem t174 {n:Nat} (hn:100000<n) {p:Xa} {v:List Int} {m:Int} (h0:1≤p.Len_) (h1:p.Len_≤4096) (hv:(v.length:Int)=(bif p.Kind_==2 then 2 * p.Len_ else p.Len_)) (hm:m=0∨(m=1∧(p.Kind_==2)=true)):Got ((k174 n).G (p,v,m)) (fun (y:List Int)=>((y.length:Nat):Int)=p.Len_):=by
 show Ans (zkj n (p,v,m)) _
 unfold zkj
 refine zj (fun (s:Int)=>s=bif p.Kind_==2 then 2 else 1) ?_ (fun s hs=>?_)
 ·exact z7 (fun h=>z0 (by show (2:Int)=_; rw [h]; rfl)) (fun h=>z0 (by show (1:Int)=_; rw [h]; rfl))
 refine z1t rfl (fun (y:Int×List Int)=>((y.2.length:Nat):Int)=p.Len_) ?_ (fun y hy=>z0 hy)
 refine z25 p.Len_.toNat (fun i (q:Int×List Int)=>q.1=i∧q.2.length=i) (fun i (q:Int×List Int) hi hq=>?_) (fun (q:Int×List Int) hq=>?_) n (by omega) (0,[]) ⟨rfl,rfl⟩
 ·show Ans (z9x n (p,v,m) s q) _
  unfold z9x
  obtain ⟨q1,q2⟩:=hq
  refine z7 (fun _=>?_) (fun h=>?_)
  ·have ei:IntKind.i64.wrap (IntKind.i64.wrap (s * q.1)+m)=s * q.1+m∧0≤s * q.1+m∧s * q.1+m<v.length:=by
    rw [q1,hs]
    cases hk:p.Kind_==2 with
    | true =>
     rw [hk] at hv
     simp only [cond_true] at hv ⊢
     rw [z1w (x:=2 * (i:Int)) (by omega) (by omega),z1w (by omega) (by omega)]
     omega
    | false =>
     rw [hk] at hv hm
     simp only [cond_false] at hv ⊢
     have:m=0:=by
      rcases hm with h | ⟨_,h⟩
      ·exact h
      ·cases h
     rw [z1w (x:=1 * (i:Int)) (by omega) (by omega),z1w (by omega) (by omega)]
     omega
   obtain ⟨y,hy,_⟩:=z2s (l:=v) (n:=s * q.1+m) ei.2.1 ei.2.2
   refine zi (by rw [ei.1]; exact hy) ?_
   refine z8 (fun _=>True) (t136 (by omega) _) (fun (y:Int) _=>zl (by simp; omega) (z0 ⟨?_,?_⟩))
   ·show IntKind.i64.wrap (q.1+1)=_
    rw [q1,z15 (by omega)]
   ·simp; omega
  ·simp only [decide_eq_false_iff_not] at h
   have h:¬ q.1<p.Len_:=h
   omega
 ·show Ans (z9x n (p,v,m) s q) _
  unfold z9x
  obtain ⟨q1,q2⟩:=hq
  refine z7 (fun h=>?_) (fun _=>z0 ?_)
  ·have h:q.1<p.Len_:=by simpa using h
   omega
  ·show ((q.2.length:Nat):Int)=p.Len_
   omega
def zih (w:Nat) (a:List (List Int)):Prop:=∀ l ∈ a,l.length=1∨l.length=w
theorem zb2 {w:Nat} {a:List (List Int)} (h:zih w a) {i:Nat} (hi:i<a.length):∃ y,idx a (i:Int)=some y∧(y.length=1∨y.length=w)∧a[i]? = some y:=by
 exact ⟨a[i],z13 hi,h _ (List.getElem_mem hi),List.getElem?_eq_getElem hi⟩
theorem t192 {n:Nat} (hn:100000<n) {w:Nat} {op:Int} {a:List (List Int)} (h0:3≤op) (h1:op≤15) (hk:a.length=tk op) (hw0:1≤w) (hw:w≤4096) (ha:zih w a) :
  Got ((k192 n).G (op,a)) (fun (y:Int×List Int)=>y.2.length=1∨y.2.length=w):=by
 have hk1:1≤a.length∧a.length≤3:=by
  rw [hk]; unfold tk; split
  ·omega
  ·split <;> omega
 show Ans (zl0 n (op,a)) _
 unfold zl0
 refine z8 (fun (y:Int)=>y=(tk op:Int)) (t176 h0 h1) (fun (y1:Int) hy1=>?_)
 rw [← hk] at hy1
 subst hy1
 refine zj (fun (s:Yag)=>s=((a.length:Int),false)) ?_ (fun s hs=>?_)
 ·refine z7 (fun h=>?_) (fun _=>z0 ?_)
  ·have h:(a.length:Int)=0:=by simpa using h
   omega
  ·show ((a.length:Int),((a.length:Int) != (a.length:Int)))=_
   simp
 subst hs
 refine z7 (fun h=>by cases h) (fun _=>?_)
 obtain ⟨y2,hy2,hl2,hg2⟩:=zb2 ha (show 0<a.length by omega)
 refine zi hy2 ?_
 refine z1t rfl (fun (q:Yaa)=>q.1=w∨(q.1=1∧∀ l ∈ a,l.length=1)) ?_ (fun (y5:Yaa) hy5=>?_)
 ·refine z25 a.length (fun i (q:Yaa)=>q.2=i∧(q.1=w∨(q.1=1∧∀ j l,j<i→a[j]? = some l→l.length=1))) (fun i (q:Yaa) hi hq=>?_) (fun (q:Yaa) hq=>?_) n (by omega) ((y2.length:Int),0) ⟨rfl,?_⟩
  ·show Ans (z9y n (op,a) (a.length:Int) q) _
   unfold z9y
   obtain ⟨q1,q2⟩:=hq
   have ew:IntKind.i64.wrap (q.2+1)=((i+1:Nat):Int):=by rw [q1,z15 (by omega)]
   obtain ⟨y,hy,hl,hg⟩:=zb2 ha hi
   have hy:idx a q.2=some y:=by rw [q1]; exact hy
   refine z7 (fun _=>?_) (fun h=>?_)
   ·refine zj (fun (s:Bool)=>(s=true→(q.1=1∨y.length=0))∧(s=false→q.1 ≠ 1)) ?_ (fun s hs=>?_)
    ·refine z7 (fun h=>z0 ⟨fun _=>.inl (by simpa using h),fun h=>by cases h⟩) (fun h=>zi hy (z0 ⟨fun h2=>.inr (by simpa using h2),fun _=>by simpa using h⟩))
    ·refine z7 (fun h=>zi hy (z0 ⟨ew,?_⟩)) (fun h=>z0 ⟨ew,?_⟩)
     ·show ((y.length:Nat):Int)=w∨(((y.length:Nat):Int)=1∧_)
      rcases q2 with q2 | ⟨q2,q3⟩
      ·rcases hs.1 h with e | e
       ·left; omega
       ·omega
      ·rcases hl with hl | hl
       ·right
        refine ⟨by omega,fun j l hj hl'=>?_⟩
        by_cases hji:j=i
        ·subst hji; rw [hg] at hl'; cases hl'; exact hl
        ·exact q3 j l (by omega) hl'
       ·left; omega
     ·have:=hs.2 h
      rcases q2 with q2 | ⟨q2,q3⟩
      ·exact .inl q2
      ·exact absurd q2 this
   ·have h:¬ q.2<(a.length:Int):=by simpa using h
    omega
  ·show Ans (z9y n (op,a) (a.length:Int) q) _
   unfold z9y
   obtain ⟨q1,q2⟩:=hq
   refine z7 (fun h=>?_) (fun _=>z0 ?_)
   ·have h:q.2<(a.length:Int):=by simpa using h
    omega
   ·rcases q2 with q2 | ⟨q2,q3⟩
    ·exact .inl q2
    ·refine .inr ⟨q2,fun l hl=>?_⟩
     obtain ⟨j,hj,e⟩:=List.mem_iff_getElem.1 hl
     exact q3 j l hj (by rw [List.getElem?_eq_getElem hj,e])
  ·show ((y2.length:Nat):Int)=w∨(((y2.length:Nat):Int)=1∧_)
   rcases hl2 with h | h
   ·exact .inr ⟨by omega,fun j l hj=>by omega⟩
   ·exact .inl (by omega)
 refine zgp (fun _=>True) (fun _=>False) ?_ (fun (y8:Int) _=>?_) (fun _ h=>h.elim)
 ·refine z25 a.length (fun i (q:Int)=>q=i) (fun i (q:Int) hi hq=>?_) (fun (q:Int) hq=>?_) n (by omega) (0:Int) rfl
  ·show Ans (z9z n (op,a) ((a.length:Int),y5.1) q) _
   unfold z9z
   obtain ⟨y,hy,hl,hg⟩:=zb2 ha hi
   have hy:idx a q=some y:=by rw [hq]; exact hy
   refine z7 (fun _=>?_) (fun h=>?_)
   ·refine zj (fun (s:Bool)=>s=false) ?_ (fun s hs=>?_)
    ·refine zi hy (z7 (fun h=>z7 (fun h2=>?_) (fun _=>zi hy (z0 ?_))) (fun _=>z0 rfl))
     ·have h2:y5.1=0:=by simpa using h2
      rcases hy5 with e | ⟨e,_⟩ <;> omega
     ·have h:¬ ((y.length:Nat):Int)=y5.1:=by simpa using h
      show (((y.length:Nat):Int) != 1)=false
      rcases hy5 with e | ⟨e,e2⟩
      ·have:y.length=1:=by
        rcases hl with hl | hl
        ·exact hl
        ·omega
       simp [this]
      ·have:=e2 y (List.mem_of_getElem? hg)
       omega
    ·subst hs
     refine z7 (fun h=>by cases h) (fun _=>z0 ?_)
     show IntKind.i64.wrap (q+1)=_
     rw [hq,z15 (by omega)]
   ·have h:¬ q<(a.length:Int):=by simpa using h
    omega
  ·show Ans (z9z n (op,a) ((a.length:Int),y5.1) q) _
   unfold z9z
   refine z7 (fun h=>?_) (fun _=>z0 True.intro)
   have h:q<(a.length:Int):=by simpa using h
   omega
 have hN:∃ N:Nat,y5.1=N∧N≤4096∧(N=1∨N=w)∧∀ l ∈ a,l.length=1∨l.length=N:=by
  rcases hy5 with e | ⟨e,e2⟩
  ·exact ⟨w,e,hw,.inr rfl,ha⟩
  ·exact ⟨1,e,by omega,.inl rfl,fun l hl=>.inl (e2 l hl)⟩
 obtain ⟨N,hN,hN1,hN2,hN3⟩:=hN
 refine z1t rfl (fun (q:Int×List Int)=>q.2.length=N) ?_ (fun (y13:Int×List Int) hy=>z0 ?_)
 ·refine z25 N (fun i (q:Int×List Int)=>q.1=i∧q.2.length=i) (fun i (q:Int×List Int) hi hq=>?_) (fun (q:Int×List Int) hq=>?_) n (by omega) (0,[]) ⟨rfl,rfl⟩
  ·show Ans (za0 n (op,a) ((a.length:Int),y5.1) q) _
   unfold za0
   obtain ⟨q1,q2⟩:=hq
   refine z7 (fun _=>?_) (fun h=>?_)
   ·refine z1t rfl (fun _=>True) ?_ (fun (y11:Yan) _=>?_)
    ·refine z25 a.length (fun j (r:Yan)=>r.1=j) (fun j (r:Yan) hj hr=>?_) (fun (r:Yan) hr=>?_) n (by omega) (0,0,0,0) rfl
     ·show Ans (za1 n (op,a) ((a.length:Int),y5.1) q () r) _
      unfold za1
      obtain ⟨y,hy,_,hg⟩:=zb2 ha hj
      have hy:idx a r.1=some y:=by rw [hr]; exact hy
      have ew:IntKind.i64.wrap (r.1+1)=((j+1:Nat):Int):=by rw [hr,z15 (by omega)]
      refine z7 (fun _=>?_) (fun h=>?_)
      ·refine zi hy ?_
       have hat:y.length=1∨(0≤q.1∧q.1<y.length):=by
        rcases hN3 y (List.mem_of_getElem? hg) with e | e
        ·exact .inl e
        ·exact .inr ⟨by omega,by omega⟩
       refine z8 (fun _=>True) (t177 hat) (fun (y10:Int) _=>?_)
       refine z7 (fun _=>z0 ew) (fun c0=>z7 (fun _=>z0 ew) (fun c1=>z7 (fun _=>z0 ew) (fun c2=>?_)))
       have c0:¬ r.1=0:=by simpa using c0
       have c1:¬ r.1=1:=by simpa using c1
       have c2:¬ r.1=2:=by simpa using c2
       omega
      ·have h:¬ r.1<(a.length:Int):=by simpa using h
       omega
     ·show Ans (za1 n (op,a) ((a.length:Int),y5.1) q () r) _
      unfold za1
      refine z7 (fun h=>?_) (fun _=>z0 True.intro)
      have h:r.1<(a.length:Int):=by simpa using h
      omega
    ·refine z8 (fun _=>True) (t178 (by omega) _) (fun (y12:Int) _=>zl (by simp; omega) (z0 ⟨?_,?_⟩))
     ·show IntKind.i64.wrap (q.1+1)=_
      rw [q1,z15 (by omega)]
     ·simp; omega
   ·have h:¬ q.1<y5.1:=by simpa using h
    omega
  ·show Ans (za0 n (op,a) ((a.length:Int),y5.1) q) _
   unfold za0
   obtain ⟨q1,q2⟩:=hq
   refine z7 (fun h=>?_) (fun _=>z0 q2)
   have h:q.1<y5.1:=by simpa using h
   omega
 ·show y13.2.length=1∨y13.2.length=w
  rcases hN2 with e | e
  ·exact .inl (by omega)
  ·exact .inr (by omega)
theorem z4d {l:List Xa} {t:Xb} (hp:∀ p ∈ l,mayP p=true) (ht:mayT l t=true):1≤z1r l t∧z1r l t≤4096∧(t.Kind_=1→z1r l t=1):=by
 unfold z1r
 unfold mayT at ht
 cases hk:t.Kind_==3 with
 | false =>
  have:(t.Kind_ != 3)=true:=by unfold bne; rw [hk]; rfl
  rw [this]; exact ⟨show (1:Int)≤1 by decide,show (1:Int)≤4096 by decide,fun _=>rfl⟩
 | true =>
  have:(t.Kind_ != 3)=false:=by unfold bne; rw [hk]; rfl
  rw [hk] at ht
  simp only [cond_true,Bool.and_eq_true,decide_eq_true_eq] at ht
  obtain ⟨p,hp1,hp2⟩:=z2s (l:=l) (n:=t.Param_) (by omega) (by omega)
  have hm:=hp p (z1j hp1).1
  unfold mayP at hm
  simp only [Bool.and_eq_true,decide_eq_true_eq] at hm
  rw [this,hp1]
  refine ⟨hm.2.2.1,hm.2.2.2,fun h=>?_⟩
  rw [h] at hk; cases hk
theorem t134 {n:Nat} {c:Xe} {t:Xb} (ht:mayT c.Sign_ t=true):Got ((k134 n).G (c,t)) (fun (y:Int)=>y=z1r c.Sign_ t):=by
 show Ans (zjs n (c,t)) _
 unfold zjs
 unfold mayT at ht
 refine z7 (fun h=>?_) (fun h=>z0 ?_)
 ·have h:(t.Kind_==3)=true:=h
  rw [h] at ht
  simp only [cond_true,Bool.and_eq_true,decide_eq_true_eq] at ht
  obtain ⟨p,hp1,hp2⟩:=z2s (l:=c.Sign_) (n:=t.Param_) (by omega) (by omega)
  refine zi hp1 (z0 ?_)
  unfold z1r
  have:(t.Kind_ != 3)=false:=by unfold bne; rw [h]; rfl
  rw [this,hp1]; rfl
 ·have h:(t.Kind_==3)=false:=h
  unfold z1r
  have:(t.Kind_ != 3)=true:=by unfold bne; rw [h]; rfl
  rw [this]; rfl
def z2e (c:Xe) (t:Xb) (x:List Int):Prop:=(t.Kind_=2∧x.length≤4096)∨((x.length:Nat):Int)=z1r c.Sign_ t
theorem t133 {n:Nat} (hn:100000<n) {c:Xe} {z:Xc} (hp:∀ p ∈ c.Sign_,mayP p=true) (ht:mayT c.Sign_ z.Type_=true):Got ((k133 n).G (c,z)) (fun (y:List Int×Int)=>z2e c z.Type_ y.1):=by
 show Ans (zjr n (c,z)) _
 unfold zjr
 obtain ⟨w1,w2,_⟩:=z4d hp ht
 refine z7 (fun h=>z0 (.inl ⟨by simpa using h,by show ([]:List Int).length≤4096; decide⟩)) (fun h=>?_)
 refine z8 (fun (y:Int)=>y=z1r c.Sign_ z.Type_) (t134 ht) (fun (y1:Int) h1=>?_)
 rw [← h1] at w1 w2
 show Ans _ (fun (y:List Int×Int)=>z2e c z.Type_ y.1)
 refine z8 _ (t135 hn (by omega) (by omega)) (fun (y2:Int×List Int) h2=>z0 (.inr (h2.2.trans h1)))
structure z2z (c:Xe) (set:List Bool) (R:List Xh):Prop where
 len:R.length=c.Regs_.length
 ok:∀ (j:Nat) (t:Xb) (x:Xh),c.Regs_[j]? = some t→R[j]? = some x→(set[j]?).getD false=true→z2e c t x.Nums_
theorem zbg {c:Xe} {s k:Int} {d:Xb} (h:zr c s k d=true) (h0:0<c.Regs_.length):0≤k∧k<c.Regs_.length:=by
 unfold zr at h
 cases hs:s==0 with
 | true =>
  rw [hs] at h
  have:k=0:=by simpa using h
  omega
 | false =>
  rw [hs] at h
  simp only [cond_false] at h
  cases hi:idx c.Regs_ k with
  | none=>rw [hi] at h; cases h
  | some t =>
   by_cases hk:0≤k∧k<c.Regs_.length
   ·exact hk
   ·rw [z26 (by omega)] at hi; cases hi
theorem zg9 {c:Xe} {i:Xd} (h:fits c i=true) (h0:0<c.Regs_.length):(0≤i.A_∧i.A_<c.Regs_.length)∧(0≤i.B_∧i.B_<c.Regs_.length)∧(0≤i.C_∧i.C_<c.Regs_.length)∧(0≤i.D_∧i.D_<c.Regs_.length):=by
 unfold fits at h
 split at h
 ·cases h
 ·simp only [Bool.and_eq_true] at h
  exact ⟨zbg h.2.1 h0,zbg h.2.2.1 h0,zbg h.2.2.2.1 h0,zbg h.1 h0⟩
theorem z31 {α:Type} {l:List α} {k:Int} (h:0≤k∧k<l.length):∃ y,idx l k=some y∧l[k.toNat]? = some y:=by
 obtain ⟨j,rfl⟩:∃ j:Nat,k=j:=⟨k.toNat,by omega⟩
 have hj:j<l.length:=by omega
 exact ⟨l[j],z13 hj,by rw [Int.toNat_natCast]; exact List.getElem?_eq_getElem hj⟩
theorem z3v {α:Type} {l:List α} {k:Int} {t:α} (h:idx l k=some t):0≤k∧k<l.length∧l[k.toNat]? = some t:=by
 by_cases hk:0≤k∧k<l.length
 ·obtain ⟨y,h1,h2⟩:=z31 hk
  rw [h1] at h; cases h
  exact ⟨hk.1,hk.2,h2⟩
 ·rw [z26 (by omega)] at h; cases h
theorem zin {c:Xe} {set:List Bool} {R:List Xh} {s k:Int} {d:Xb} {x:Xh} (hp:∀ p ∈ c.Sign_,mayP p=true) (hr:∀ t ∈ c.Regs_,mayT c.Sign_ t=true) (hR:z2z c set R) (h:zr c s k d=true) (hs:s=5∨s=7) (hd:d.Kind_ ≠ 2)
  (hset:(set[k.toNat]?).getD false=true) (hx:idx R k=some x):x.Nums_.length=1∨x.Nums_.length=(z1r c.Sign_ d).toNat:=by
 unfold zr at h
 have hs0:(s==0)=false:=by rcases hs with rfl | rfl <;> rfl
 rw [hs0] at h
 simp only [cond_false] at h
 cases hi:idx c.Regs_ k with
 | none=>rw [hi] at h; cases h
 | some t =>
  rw [hi] at h
  obtain ⟨_,_,e1⟩:=z3v hi
  obtain ⟨_,_,e2⟩:=z3v hx
  have hc:=hR.ok _ t x e1 e2 hset
  have ht:=hr t (z1j hi).1
  obtain ⟨_,_,w1⟩:=z4d hp ht
  have h:isS t s d=true:=h
  have hcase:t.Kind_=1∨t=d:=by
   have eq:eqTy t d=true→t=d:=fun h=>by
    unfold eqTy at h
    simp only [Bool.and_eq_true,beq_iff_eq] at h
    obtain ⟨tk,tp⟩:=t
    obtain ⟨dk,dp⟩:=d
    simp only at h
    rw [h.1,h.2.1]
   unfold isS at h
   rcases hs with rfl | rfl
   ·simp only [show ((5:Int)==1)=false from rfl,show ((5:Int)==2)=false from rfl,show ((5:Int)==3)=false from rfl,show ((5:Int)==4)=false from rfl,show ((5:Int)==5)=true from rfl,cond_false,cond_true,Bool.or_eq_true,beq_iff_eq] at h
    rcases h with h | h
    ·exact .inl h
    ·exact .inr (eq h)
   ·simp only [show ((7:Int)==1)=false from rfl,show ((7:Int)==2)=false from rfl,show ((7:Int)==3)=false from rfl,show ((7:Int)==4)=false from rfl,show ((7:Int)==5)=false from rfl,show ((7:Int)==7)=true from rfl,cond_false,cond_true,Bool.or_eq_true,Bool.and_eq_true,beq_iff_eq] at h
    rcases h with h | h
    ·exact .inr (eq h)
    ·exact .inl h.1
  rcases hcase with h1 | rfl
  ·rcases hc with ⟨h2,_⟩ | h2
   ·omega
   ·rw [w1 h1] at h2; exact .inl (by omega)
  ·rcases hc with ⟨h2,_⟩ | h2
   ·exact absurd h2 hd
   ·exact .inr (by omega)
theorem zfm {i:Xd} {set:List Bool} {k:Int} (h:rdOk set i=true) (hk:k ∈ z19 i):(set[k.toNat]?).getD false=true:=by
 unfold rdOk at h
 exact List.all_eq_true.1 h k hk
theorem zqq (op:Int) (h0:3≤op) (h1:op≤15):∃ r,rowD op=some r∧r.d ≠ 0∧(r.a=5∨r.a=7)∧(2≤tk op→r.b=5)∧(3≤tk op→r.c=5):=by
 have h:op=3∨op=4∨op=5∨op=6∨op=7∨op=8∨op=9∨op=10∨op=11∨op=12∨op=13∨op=14∨op=15:=by omega
 rcases h with rfl | rfl | rfl | rfl | rfl | rfl | rfl | rfl | rfl | rfl | rfl | rfl | rfl <;> simp [rowD,tk]
theorem zw8 {c:Xe} {i:Xd} {td:Xb} (hf:fits c i=true) (hD:idx c.Regs_ i.D_=some td) (h0:3≤i.Op_) (h1:i.Op_≤15) :
  (∃ s,(s=5∨s=7)∧zr c s i.A_ td=true)∧i.A_ ∈ z19 i∧(2≤tk i.Op_→zr c 5 i.B_ td=true∧i.B_ ∈ z19 i)∧(3≤tk i.Op_→zr c 5 i.C_ td=true∧i.C_ ∈ z19 i):=by
 obtain ⟨r,e,e1,e2,e3,e4⟩:=zqq i.Op_ h0 h1
 unfold fits at hf
 rw [e] at hf
 simp only [Bool.and_eq_true] at hf
 have et:tyD c r i=td:=by
  unfold tyD
  have:(r.d==0)=false:=by simpa using e1
  rw [this,hD]; rfl
 rw [et] at hf
 have ea:(r.a==0)=false:=by rcases e2 with h | h <;> rw [h] <;> rfl
 unfold z19
 simp only [e,ea,cond_false]
 refine ⟨⟨r.a,e2,hf.2.1⟩,by simp,fun h=>?_,fun h=>?_⟩
 ·have:=e3 h
  rw [this] at hf ⊢
  exact ⟨hf.2.2.1,by simp⟩
 ·have:=e4 h
  rw [this] at hf ⊢
  exact ⟨hf.2.2.2.1,by simp⟩
theorem y9k (op:Int):1≤tk op∧tk op≤3:=by
 unfold tk; split
 ·omega
 ·split <;> omega
theorem t191 {n:Nat} (hn:100000<n) {f:Xj} {i:Xd} {set:List Bool} (hp:∀ p ∈ f.C_.Sign_,mayP p=true) (hr:∀ t ∈ f.C_.Regs_,mayT f.C_.Sign_ t=true) (hR:z2z f.C_ set f.Regs_) (hf:fits f.C_ i=true) (hrd:rdOk set i=true)
  (h0:3≤i.Op_) (h1:i.Op_≤15) {td:Xb} (hD:idx f.C_.Regs_ i.D_=some td):Got ((k191 n).G (f,i)) (fun (y:List Int×Int)=>z2e f.C_ td y.1):=by
 show Ans (zkz n (f,i)) _
 unfold zkz
 obtain ⟨d0,d1,d2⟩:=z3v hD
 obtain ⟨iA,iB,iC,_⟩:=zg9 hf (by omega)
 obtain ⟨xA,eA,eA'⟩:=z31 (l:=f.Regs_) (k:=i.A_) (by rw [hR.len]; exact iA)
 obtain ⟨xB,eB,_⟩:=z31 (l:=f.Regs_) (k:=i.B_) (by rw [hR.len]; exact iB)
 obtain ⟨xC,eC,_⟩:=z31 (l:=f.Regs_) (k:=i.C_) (by rw [hR.len]; exact iC)
 obtain ⟨⟨s,hs,rA⟩,mA,fB,fC⟩:=zw8 hf hD h0 h1
 have hd:=hr td (z1j hD).1
 obtain ⟨w1,w2,_⟩:=z4d hp hd
 have bA:xA.Nums_.length≤4096:=by
  obtain ⟨tA,hA⟩:=z2r rA (by rcases hs with rfl | rfl <;> rfl)
  rcases hR.ok _ tA xA (z3v hA).2.2 eA' (zfm hrd mA) with ⟨_,h⟩ | h
  ·exact h
  ·have:=(z4d hp (hr tA (z1j hA).1)).2.1
   omega
 refine zi hD (z7 (fun h=>zi eA (z0 (.inl ⟨by simpa using h,bA⟩))) (fun hk=>?_))
 have hk:td.Kind_ ≠ 2:=by simpa using hk
 refine zi eA (zi eB (zi eC ?_))
 refine z8 (fun (y:Int)=>y=(tk i.Op_:Int)) (t176 h0 h1) (fun (y6:Int) h6=>?_)
 subst h6
 obtain ⟨t1,t2⟩:=y9k i.Op_
 refine zl ⟨by omega,by simp only [List.length_cons,List.length_nil]; omega⟩ (zl (by simp only [List.length_cons,List.length_nil]; omega) ?_)
 have hargs:zih (z1r f.C_.Sign_ td).toNat ((([xA.Nums_,xB.Nums_,xC.Nums_]:List (List Int)).drop 0).take (tk i.Op_:Int).toNat):=by
  have a1:=zin hp hr hR rA hs hk (zfm hrd mA) eA
  have a2:2≤tk i.Op_→xB.Nums_.length=1∨xB.Nums_.length=(z1r f.C_.Sign_ td).toNat:=fun h=>zin hp hr hR (fB h).1 (.inl rfl) hk (zfm hrd (fB h).2) eB
  have a3:3≤tk i.Op_→xC.Nums_.length=1∨xC.Nums_.length=(z1r f.C_.Sign_ td).toNat:=fun h=>zin hp hr hR (fC h).1 (.inl rfl) hk (zfm hrd (fC h).2) eC
  intro l hl
  rw [Int.toNat_natCast] at hl
  have hc:tk i.Op_=1∨tk i.Op_=2∨tk i.Op_=3:=by omega
  rcases hc with e | e | e <;> rw [e] at hl a2 a3 <;> simp at hl
  ·rw [hl]; exact a1
  ·rcases hl with rfl | rfl
   ·exact a1
   ·exact a2 (by omega)
  ·rcases hl with rfl | rfl | rfl
   ·exact a1
   ·exact a2 (by omega)
   ·exact a3 (by omega)
 refine z8 (fun (y:Int×List Int)=>y.2.length=1∨y.2.length=(z1r f.C_.Sign_ td).toNat) (t192 hn h0 h1 (by simp; omega) (by omega) (by omega) hargs) (fun (y7:Int×List Int) h7=>?_)
 refine zj (fun (l:List Int)=>((l.length:Nat):Int)=z1r f.C_.Sign_ td) ?_ (fun (l:List Int) hl=>z0 (.inr hl))
 refine z7 (fun h=>?_) (fun h=>z0 ?_)
 ·have h:((y7.2.length:Nat):Int)=1:=by simpa using h
  refine z8 (fun (y:Int)=>y=z1r f.C_.Sign_ td) (t134 hd) (fun (y8:Int) h8=>?_)
  have hl:0<y7.2.length:=by omega
  refine zl ⟨by omega,by omega⟩ (zi (a:=y7.2[0]) (by rw [show ((0:Int)).toNat=0 from rfl]; exact List.getElem?_eq_getElem hl) ?_)
  rw [← h8] at w1 w2
  exact z8 (fun (y:Int×List Int)=>y.1=0∧((y.2.length:Nat):Int)=y8) (t135 hn (by omega) (by omega)) (fun (y10:Int×List Int) h10=>z0 (h10.2.trans h8))
 ·have h:¬ ((y7.2.length:Nat):Int)=1:=by simpa using h
  show ((y7.2.length:Nat):Int)=_
  rcases h7 with e | e <;> omega
theorem t175 {n:Nat} {l:List Xh} {k:Int} {x:Xh} (hl:l.length≤1000000) (hk:0≤k∧k<l.length):Got ((k175 n).G (l,k,x)) (fun (y:List Xh)=>y=l.set k.toNat x):=by
 show Ans (zkk n (l,k,x)) _
 unfold zkk
 obtain ⟨y,_,e⟩:=z31 hk
 exact zl (by show l.length * 32≤_; omega) (zl hk (zi e (z0 rfl)))
theorem t153 {n:Nat} {c:Xe} {i:Xd} (hr:∀ t ∈ c.Regs_,mayT c.Sign_ t=true) (hf:fits c i=true):Got ((k153 n).G (c,i)) (fun (y:Int)=>y=z1q c i):=by
 show Ans (zjx n (c,i)) _
 unfold zjx z1q regT
 have hs:∀ op:Int,(3≤op∧op≤15)∨op=29∨op=30∨op=32→i.Op_=op→sets i=true:=fun op h e=>by
  unfold sets
  rw [e]
  have h:op=3∨op=4∨op=5∨op=6∨op=7∨op=8∨op=9∨op=10∨op=11∨op=12∨op=13∨op=14∨op=15∨op=29∨op=30∨op=32:=by omega
  rcases h with rfl | rfl | rfl | rfl | rfl | rfl | rfl | rfl | rfl | rfl | rfl | rfl | rfl | rfl | rfl | rfl <;> simp [rowD]
 have ha:∀ op:Int,op=31∨op=33∨op=19∨op=20→i.Op_=op→za9 i=true:=fun op h e=>by
  unfold za9
  rw [e]
  rcases h with rfl | rfl | rfl | rfl <;> simp [rowD]
 have el:elem i.Op_=true→3≤i.Op_∧i.Op_≤15:=fun h=>by
  unfold elem at h
  cases q:decide (i.Op_≥3) <;> rw [q] at h
  ·cases h
  ·exact ⟨of_decide_eq_true q,of_decide_eq_true h⟩
 refine zj (fun (s:Bool)=>s=(elem i.Op_ || (i.Op_==29 || (i.Op_==30 || i.Op_==32)))) ?_ (fun (s2:Bool) h2=>?_)
 ·refine zj (fun (s:Bool)=>s=elem i.Op_) ?_ (fun (s1:Bool) h1=>?_)
  ·exact z7 (fun h=>z0 (by show decide (i.Op_≤15)=_; unfold elem; rw [show decide (i.Op_≥3)=true from h]; rfl)) (fun h=>z0 (by show false=_; unfold elem; rw [show decide (i.Op_≥3)=false from h]; rfl))
  ·subst h1
   refine z7 (fun h=>z0 (by show true=_; rw [h]; rfl)) (fun h=>?_)
   rw [h]
   refine z7 (fun h=>z0 (by show true=_; rw [h]; rfl)) (fun h=>?_)
   rw [h]
   refine z7 (fun h=>z0 (by show true=_; rw [h]; rfl)) (fun h=>?_)
   rw [h]
   exact z0 rfl
 refine z7 (fun h=>?_) (fun hn=>z7 (fun h=>z0 (by show (62:Int)=_; rw [h]; rfl)) (fun h16=>?_))
 ·rw [h] at h2
  have hd:(3≤i.Op_∧i.Op_≤15)∨i.Op_=29∨i.Op_=30∨i.Op_=32:=by
   have h3:=h2.symm
   simp only [Bool.or_eq_true,beq_iff_eq] at h3
   exact h3.imp el id
  obtain ⟨t,ht,hm⟩:=zhd hf (hs _ hd rfl)
  have h16:(i.Op_==16)=false:=by simp; omega
  rw [h16,← h2,ht]
  exact zi rfl (z8 (fun (y:Int)=>y=z1r c.Sign_ t) (t134 (hr t hm)) (fun (y:Int) hy=>z0 hy))
 rw [h16,← h2,show s2=false from hn]
 refine zj (fun (s:Bool)=>s=(i.Op_==31 || (i.Op_==33 || (i.Op_==19 || i.Op_==20)))) ?_ (fun (s3:Bool) h3=>?_)
 ·refine z7 (fun h=>z0 (by show true=_; rw [h]; rfl)) (fun h=>?_)
  rw [h]
  refine z7 (fun h=>z0 (by show true=_; rw [h]; rfl)) (fun h=>?_)
  rw [h]
  refine z7 (fun h=>z0 (by show true=_; rw [h]; rfl)) (fun h=>?_)
  rw [h]
  exact z0 rfl
 refine z7 (fun h=>?_) (fun h=>z0 (by rw [← h3,show s3=false from h]; rfl))
 rw [h] at h3
 obtain ⟨t,ht,hm⟩:=zph hf (ha _ (by have h4:=h3.symm; simpa using h4) rfl)
 rw [← h3,ht]
 exact zi rfl (z8 (fun (y:Int)=>y=z1r c.Sign_ t) (t134 (hr t hm)) (fun (y:Int) hy=>z0 hy))
theorem ze7 {c:Xe} {i:Xd} (hp:∀ p ∈ c.Sign_,mayP p=true) (hr:∀ t ∈ c.Regs_,mayT c.Sign_ t=true):0≤z1q c i∧z1q c i≤4096:=by
 have hw:∀ k,0≤z1r c.Sign_ (regT c k)∧z1r c.Sign_ (regT c k)≤4096:=fun k=>by
  unfold regT
  cases h:idx c.Regs_ k with
  | none=>exact ⟨by show (0:Int)≤1; decide,by show (1:Int)≤4096; decide⟩
  | some t =>
   obtain ⟨a,b,_⟩:=z4d hp (hr t (z1j h).1)
   exact ⟨by show 0≤z1r c.Sign_ t; omega,b⟩
 unfold z1q
 cases i.Op_==16 with
 | true=>exact ⟨by show (0:Int)≤62; decide,by show (62:Int)≤4096; decide⟩
 | false =>
  cases elem i.Op_ || (i.Op_==29 || (i.Op_==30 || i.Op_==32)) with
  | true=>exact hw _
  | false =>
   cases i.Op_==31 || (i.Op_==33 || (i.Op_==19 || i.Op_==20)) with
   | true=>exact hw _
   | false=>exact ⟨by show (0:Int)≤1; decide,by show (1:Int)≤4096; decide⟩
structure z2k (c:Xe) (S:List Xh):Prop where
 len:S.length=c.Slots_.length
 ok:∀ (j:Nat) (z:Xc) (x:Xh),c.Slots_[j]? = some z→S[j]? = some x→z2e c z.Type_ x.Nums_
structure z8j (c:Xe) (O:List (List Int)):Prop where
 len:O.length=2 * c.Sign_.length
 ok:∀ (j:Nat) (p:Xa) (e:Nat) (l:List Int),c.Sign_[j]? = some p→e<2→O[2 * j+e]? = some l→((l.length:Nat):Int)=p.Len_
structure InOk (c:Xe) (G:List (List Int)):Prop where
 len:G.length=c.Sign_.length
 ok:∀ (j:Nat) (p:Xa) (v:List Int),c.Sign_[j]? = some p→G[j]? = some v→((v.length:Nat):Int)=bif p.Kind_==2 then 2 * p.Len_ else p.Len_
structure Fine (c:Xe):Prop where
 par:∀ p ∈ c.Sign_,mayP p=true
 reg:∀ t ∈ c.Regs_,mayT c.Sign_ t=true
 slo:∀ z ∈ c.Slots_,mayT c.Sign_ z.Type_=true
 nreg:c.Regs_.length≤20000
 nslo:c.Slots_.length≤5000
 npar:c.Sign_.length≤64
theorem z4b {c:Xe} {i:Xd} {r:z2l} (hf:fits c i=true) (e:rowD i.Op_=some r) :
  zr c r.d i.D_ ty0=true∧zr c r.a i.A_ (tyD c r i)=true∧zr c r.b i.B_ (tyD c r i)=true∧nOk c r.n i.N_ (tyF c r i)=true:=by
 unfold fits at hf
 rw [e] at hf
 simp only [Bool.and_eq_true] at hf
 exact ⟨hf.1,hf.2.1,hf.2.2.1,hf.2.2.2.2.2⟩
theorem ze5 {c:Xe} {s k:Int} {d:Xb} (h:zr c s k d=true) (hs:s=1∨s=2∨s=3∨s=8):∃ t,idx c.Regs_ k=some t∧(s=8∨t.Kind_=s):=by
 unfold zr at h
 have hs0:(s==0)=false:=by rcases hs with rfl | rfl | rfl | rfl <;> rfl
 rw [hs0] at h
 simp only [cond_false] at h
 cases hi:idx c.Regs_ k with
 | none=>rw [hi] at h; cases h
 | some t =>
  rw [hi] at h
  refine ⟨t,rfl,?_⟩
  have h:isS t s d=true:=h
  rcases hs with rfl | rfl | rfl | rfl
  ·exact .inr (by simpa [isS] using h)
  ·exact .inr (by simpa [isS] using h)
  ·exact .inr (by simpa [isS] using h)
  ·exact .inl rfl
section
variable {c:Xe}
theorem z7z (F:Fine c) {t:Xb} (ht:t ∈ c.Regs_) (h:t.Kind_=1) {l:List Int} (hl:l.length=1):z2e c t l:=by
 obtain ⟨_,_,w⟩:=z4d F.par (F.reg t ht)
 exact .inr (by rw [w h,hl]; rfl)
theorem zwz (F:Fine c) {set:List Bool} {R:List Xh} {k:Int} {t:Xb} (hR:z2z c set R) (ht:idx c.Regs_ k=some t) (hset:(set[k.toNat]?).getD false=true) :
  ∃ x,idx R k=some x∧z2e c t x.Nums_∧(t.Kind_ ≠ 2→1≤x.Nums_.length∧x.Nums_.length≤4096):=by
 obtain ⟨a,b,e⟩:=z3v ht
 obtain ⟨x,e1,e2⟩:=z31 (l:=R) (k:=k) ⟨a,by rw [hR.len]; exact b⟩
 have hc:=hR.ok _ t x e e2 hset
 obtain ⟨w1,w2,_⟩:=z4d F.par (F.reg t (z1j ht).1)
 refine ⟨x,e1,hc,fun h=>?_⟩
 rcases hc with ⟨hc,_⟩ | hc
 ·exact absurd hc h
 ·exact ⟨by omega,by omega⟩
theorem zlh {set:List Bool} {R:List Xh} {k:Int} {t:Xb} {x:Xh} (hR:z2z c set R) (ht:idx c.Regs_ k=some t) (hx:z2e c t x.Nums_):z2z c (set.set k.toNat true) (R.set k.toNat x):=by
 obtain ⟨a,b,e⟩:=z3v ht
 refine ⟨by rw [List.length_set]; exact hR.len,fun j t' x' h1 h2 h3=>?_⟩
 by_cases hj:j=k.toNat
 ·subst hj
  rw [e] at h1; cases h1
  rw [List.getElem?_set_self (by rw [hR.len]; omega)] at h2
  cases h2; exact hx
 ·rw [List.getElem?_set_ne (fun h=>hj h.symm)] at h2 h3
  exact hR.ok j t' x' h1 h2 h3
theorem zok (F:Fine c) {n:Nat} (hn:100000<n) {i:Xd} {G:List (List Int)} (hG:InOk c G) {t:Xb} (ht:idx c.Regs_ i.D_=some t) (hk:t.Kind_=3) (hN:nOk c 2 i.N_ t=true) :
  ∃ p v,idx c.Sign_ t.Param_=some p∧idx G t.Param_=some v∧Got ((k174 n).G (p,v,i.N_)) (fun (y:List Int)=>z2e c t y):=by
 have hm:=F.reg t (z1j ht).1
 unfold mayT at hm
 rw [hk] at hm
 have hm:(decide (t.Param_≥0) && decide (t.Param_<(c.Sign_.length:Int)))=true:=hm
 simp only [Bool.and_eq_true,decide_eq_true_eq] at hm
 obtain ⟨p,e1,e2⟩:=z31 (l:=c.Sign_) (k:=t.Param_) ⟨by omega,by omega⟩
 obtain ⟨v,e3,e4⟩:=z31 (l:=G) (k:=t.Param_) ⟨by omega,by rw [hG.len]; omega⟩
 have hp:=F.par p (z1j e1).1
 unfold mayP at hp
 simp only [Bool.and_eq_true,decide_eq_true_eq] at hp
 refine ⟨p,v,e1,e3,z85 (t174 hn hp.2.2.1 hp.2.2.2 (hG.ok _ p v e2 e4) ?_) fun (y:List Int) hy=>.inr ?_⟩
 ·unfold nOk at hN
  simp only [show ((2:Int)==1)=false from rfl,show ((2:Int)==2)=true from rfl,cond_false,cond_true,Bool.or_eq_true,Bool.and_eq_true,beq_iff_eq,e1] at hN
  rcases hN with h | ⟨h,h2⟩
  ·exact .inl h
  ·exact .inr ⟨h,by simpa using h2⟩
 ·unfold z1r
  have:(t.Kind_ != 3)=false:=by rw [hk]; rfl
  rw [this,e1]; exact hy
end
theorem zvb {c:Xe} {N:Int} {t:Xb} (h:nOk c 3 N t=true):∃ z,idx c.Slots_ N=some z∧z.Type_=t:=by
 unfold nOk at h
 simp only [show ((3:Int)==1)=false from rfl,show ((3:Int)==2)=false from rfl,show ((3:Int)==3)=true from rfl,cond_false,cond_true] at h
 cases hi:idx c.Slots_ N with
 | none=>rw [hi] at h; cases h
 | some z =>
  rw [hi] at h
  have h:eqTy z.Type_ t=true:=h
  unfold eqTy at h
  simp only [Bool.and_eq_true,beq_iff_eq] at h
  refine ⟨z,rfl,?_⟩
  generalize z.Type_=u at h
  obtain ⟨uk,up⟩:=u
  obtain ⟨tk,tp⟩:=t
  simp only at h
  rw [h.1,h.2.1]
abbrev Ten:Type:=(List Xa)×(List Xb)×(List Xc)×(List Xd)×(List Xh)×(List Xh)×(List (List Int))×(List (List Int))×(List (List Int))×Int
def zeb (c:Xe) (set:List Bool) (f:Xj) (y:Ten):Prop :=
 ∃ R S O,y=(f.C_.Sign_,f.C_.Regs_,f.C_.Slots_,f.C_.List_,R,S,O,f.Grads_,f.Params_,f.Cost_)∧z2z c set R∧z2k c S∧z8j c O∧∀ s,z2z c s f.Regs_→z2z c s R
structure FrOk (c:Xe) (set:List Bool) (f:Xj):Prop where
 C:f.C_=c
 regs:z2z c set f.Regs_
 slots:z2k c f.Slots_
 out:z8j c f.Out_
 grads:InOk c f.Grads_
 params:InOk c f.Params_
theorem z2z.less {c:Xe} {s t:List Bool} {R:List Xh} (h:z2z c s R) (hs:∀ j:Nat,(t[j]?).getD false=true→(s[j]?).getD false=true):z2z c t R:=⟨h.len,fun j a x h1 h2 h3=>h.ok j a x h1 h2 (hs j h3)⟩
theorem y73 (op:Int) (h0:21≤op) (h1:op≤28):∃ r,rowD op=some r∧r.d=2:=by
 have h:op=21∨op=22∨op=23∨op=24∨op=25∨op=26∨op=27∨op=28:=by omega
 rcases h with rfl | rfl | rfl | rfl | rfl | rfl | rfl | rfl <;> simp [rowD]
theorem zx1 {i:Xd} (h:sets i=true):(1≤i.Op_∧i.Op_≤30)∨i.Op_=32:=by
 obtain ⟨op,d,a,b,cc,N,bits⟩:=i
 rcases z3x op with (rfl | rfl | rfl | rfl | rfl | rfl | rfl | rfl | rfl | rfl | rfl | rfl | rfl | rfl | rfl | rfl | rfl | rfl | rfl | rfl | rfl | rfl | rfl | rfl | rfl | rfl | rfl | rfl | rfl | rfl | rfl | rfl | rfl | rfl | rfl | rfl | rfl) | hn
 iterate 37 (· revert h; simp [sets,rowD])
 exfalso
 revert h
 simp [sets,rowD,hn]
theorem y09 {n:Nat} (hn:100000<n) {c:Xe} (F:Fine c) {set:List Bool} {f:Xj} {i:Xd} (h:FrOk c set f) (hf:fits c i=true) (hrd:rdOk set i=true) :
  Got ((k154 n).G (f,i)) (fun (y:Ten)=>zeb c (bif sets i then set.set i.D_.toNat true else set) f y):=by
 obtain ⟨hC,hR,hS,hO,hG,hP⟩:=h
 subst hC
 show Ans (z6w n (f,i)) _
 unfold z6w
 have rest:sets i=false→zeb f.C_ (bif sets i then set.set i.D_.toNat true else set) f (f.C_.Sign_,f.C_.Regs_,f.C_.Slots_,f.C_.List_,f.Regs_,f.Slots_,f.Out_,f.Grads_,f.Params_,f.Cost_):=fun e=>by
  rw [e]; exact ⟨_,_,_,rfl,hR,hS,hO,fun _ h=>h⟩
 have row:∀ {op:Int} {r:z2l},(i.Op_==op)=true→rowD op=some r→rowD i.Op_=some r:=fun e h=>by rw [show i.Op_=_ from by simpa using e]; exact h
 have setsOf:∀ {r:z2l},rowD i.Op_=some r→sets i = !(r.d==0):=fun e=>by unfold sets; rw [e]
 have dOf:∀ {r:z2l},rowD i.Op_=some r→(r.d=1∨r.d=2∨r.d=3∨r.d=8)→∃ td,idx f.C_.Regs_ i.D_=some td∧(r.d=8∨td.Kind_=r.d):=fun e h=>ze5 (z4b hf e).1 h
 have aOf:∀ {r:z2l},rowD i.Op_=some r→(r.a=1∨r.a=2∨r.a=3∨r.a=8)→∃ t,idx f.C_.Regs_ i.A_=some t∧(r.a=8∨t.Kind_=r.a)∧∃ x,idx f.Regs_ i.A_=some x∧z2e f.C_ t x.Nums_∧(t.Kind_ ≠ 2→1≤x.Nums_.length∧x.Nums_.length≤4096):=fun {r} e h=>by
  obtain ⟨t,h1,h2⟩:=ze5 (z4b hf e).2.1 h
  have hm:i.A_ ∈ z19 i:=by
   unfold z19
   simp only [e]
   have:(r.a==0)=false:=by rcases h with h | h | h | h <;> rw [h] <;> rfl
   rw [this]; simp
  obtain ⟨x,h3,h4,h5⟩:=zwz F hR h1 (zfm hrd hm)
  exact ⟨t,h1,h2,x,h3,h4,h5⟩
 have anyOf:∀ {k:Int},0≤k∧k<f.C_.Regs_.length→∃ x,idx f.Regs_ k=some x:=fun {k} h=>by
  obtain ⟨x,e,_⟩:=z31 (l:=f.Regs_) (k:=k) (by rw [hR.len]; exact h)
  exact ⟨x,e⟩
 refine zj (fun (s:List Int×Int)=>sets i=true∧∃ td,idx f.C_.Regs_ i.D_=some td∧z2e f.C_ td s.1) ?_ (fun (s3:List Int×Int) h3=>?_)
 ·refine z7 (fun e=>?_) (fun n1=>?_)
  ·
   have e:=row e (show rowD 1=some ⟨1,0,0,0,0⟩ by kernel_rfl)
   obtain ⟨td,h1,h2⟩:=dOf e (.inl rfl)
   exact z0 ⟨setsOf e,td,h1,z7z F (z1j h1).1 (h2.resolve_left (by decide)) rfl⟩
  refine z7 (fun e=>?_) (fun n2=>?_)
  ·have e:=row e (show rowD 2=some ⟨2,0,0,0,1⟩ by kernel_rfl)
   obtain ⟨td,h1,h2⟩:=dOf e (.inr (.inl rfl))
   exact z0 ⟨setsOf e,td,h1,.inl ⟨h2.resolve_left (by decide),by show ([]:List Int).length≤4096; decide⟩⟩
  refine zj (fun (s:Bool)=>s=decide (3≤i.Op_∧i.Op_≤15)) ?_ (fun (s1:Bool) h1=>?_)
  ·refine z7 (fun h=>z0 ?_) (fun h=>z0 ?_)
   ·have h:(3:Int)≤i.Op_:=by simpa using h
    show decide (i.Op_≤15)=_
    simp [h]
   ·have h:¬ (3:Int)≤i.Op_:=by simpa using h
    show false=_
    simp [h]
  refine z7 (fun e=>?_) (fun m0=>?_)
  ·obtain ⟨b1,b2⟩:3≤i.Op_∧i.Op_≤15:=by rw [h1] at e; simpa using e
   obtain ⟨r,e1,e2,_⟩:=zqq i.Op_ b1 b2
   have hse:sets i=true:=by rw [setsOf e1]; simpa using e2
   obtain ⟨td,ht,_⟩:=zhd hf hse
   exact z8 (fun (y:List Int×Int)=>z2e f.C_ td y.1) (t191 hn F.par F.reg hR hf hrd b1 b2 ht) (fun (y1:List Int×Int) hy=>z0 ⟨hse,td,ht,hy⟩)
  refine z7 (fun e=>?_) (fun m1=>?_)
  ·have e:=row e (show rowD 16=some ⟨1,1,2,0,0⟩ by kernel_rfl)
   obtain ⟨td,h1,h2⟩:=dOf e (.inl rfl)
   obtain ⟨tA,a1,a2,x,a3,a4,a5⟩:=aOf e (.inl rfl)
   have a5:=a5 (by rw [a2.resolve_left (by decide)]; decide)
   obtain ⟨v,v1,_⟩:=z31 (l:=x.Nums_) (k:=0) ⟨by decide,by omega⟩
   obtain ⟨d0,d1,_⟩:=z3v h1
   obtain ⟨xB,eB⟩:=anyOf (zg9 hf (by omega)).2.1
   exact zi a3 (zi v1 (zi eB (z8 (fun _=>True) (t156 (by omega) _) (fun (y5:Int) _=>z0 ⟨setsOf e,td,h1,z7z F (z1j h1).1 (h2.resolve_left (by decide)) rfl⟩))))
  refine z7 (fun e=>?_) (fun m2=>?_)
  ·have e:=row e (show rowD 17=some ⟨1,2,0,0,0⟩ by kernel_rfl)
   obtain ⟨td,h1,h2⟩:=dOf e (.inl rfl)
   obtain ⟨tA,a1,a2,x,a3,a4,a5⟩:=aOf e (.inr (.inl rfl))
   exact zi a3 (z8 (fun _=>True) (t165 (by omega) _) (fun (y5:Int) _=>z0 ⟨setsOf e,td,h1,z7z F (z1j h1).1 (h2.resolve_left (by decide)) rfl⟩))
  refine z7 (fun e=>?_) (fun m3=>?_)
  ·have e:=row e (show rowD 18=some ⟨2,1,0,0,0⟩ by kernel_rfl)
   obtain ⟨td,h1,h2⟩:=dOf e (.inr (.inl rfl))
   obtain ⟨tA,a1,a2,x,a3,a4,a5⟩:=aOf e (.inl rfl)
   have a5:=a5 (by rw [a2.resolve_left (by decide)]; decide)
   obtain ⟨v,v1,_⟩:=z31 (l:=x.Nums_) (k:=0) ⟨by decide,by omega⟩
   exact zi a3 (zi v1 (z7 (fun _=>z8 (fun _=>True) (t166 (by omega) _) (fun _ _=>z0 ⟨setsOf e,td,h1,.inl ⟨h2.resolve_left (by decide),by show ([]:List Int).length≤4096; decide⟩⟩)) (fun _=>z8 (fun _=>True) (t166 (by omega) _) (fun _ _=>z0 ⟨setsOf e,td,h1,.inl ⟨h2.resolve_left (by decide),by show ([]:List Int).length≤4096; decide⟩⟩))))
  refine z7 (fun e=>?_) (fun m4=>?_)
  ·have e:=row e (show rowD 19=some ⟨1,3,0,0,0⟩ by kernel_rfl)
   obtain ⟨td,h1,h2⟩:=dOf e (.inl rfl)
   obtain ⟨tA,a1,a2,x,a3,a4,a5⟩:=aOf e (.inr (.inr (.inl rfl)))
   have a5:=a5 (by rw [a2.resolve_left (by decide)]; decide)
   exact zi a3 (z8 (fun _=>True) (t167 (by omega) (by omega) (by omega)) (fun (y5:Int) _=>z0 ⟨setsOf e,td,h1,z7z F (z1j h1).1 (h2.resolve_left (by decide)) rfl⟩))
  refine z7 (fun e=>?_) (fun m5=>?_)
  ·have e:=row e (show rowD 20=some ⟨1,3,0,0,0⟩ by kernel_rfl)
   obtain ⟨td,h1,h2⟩:=dOf e (.inl rfl)
   obtain ⟨tA,a1,a2,x,a3,a4,a5⟩:=aOf e (.inr (.inr (.inl rfl)))
   have a5:=a5 (by rw [a2.resolve_left (by decide)]; decide)
   exact zi a3 (z8 (fun _=>True) (t170 (by omega) (by omega) (by omega)) (fun (y5:Int) _=>z0 ⟨setsOf e,td,h1,z7z F (z1j h1).1 (h2.resolve_left (by decide)) rfl⟩))
  refine zj (fun (s:Bool)=>s=decide (21≤i.Op_∧i.Op_≤28)) ?_ (fun (s2:Bool) h2=>?_)
  ·refine z7 (fun h=>z0 ?_) (fun h=>z0 ?_)
   ·have h:(21:Int)≤i.Op_:=by simpa using h
    show decide (i.Op_≤28)=_
    simp [h]
   ·have h:¬ (21:Int)≤i.Op_:=by simpa using h
    show false=_
    simp [h]
  refine z7 (fun e=>?_) (fun m6=>?_)
  ·obtain ⟨b1,b2⟩:21≤i.Op_∧i.Op_≤28:=by rw [h2] at e; simpa using e
   obtain ⟨r,e1,e2⟩:=y73 i.Op_ b1 b2
   obtain ⟨td,h1,h2⟩:=dOf e1 (by rw [e2]; exact .inr (.inl rfl))
   obtain ⟨d0,d1,_⟩:=z3v h1
   obtain ⟨iA,iB,iC,_⟩:=zg9 hf (by omega)
   obtain ⟨xA,eA⟩:=anyOf iA
   obtain ⟨xB,eB⟩:=anyOf iB
   obtain ⟨xC,eC⟩:=anyOf iC
   rw [e2] at h2
   exact zi eA (zi eB (zi eC (z8 (fun _=>True) (t173 (by omega) _) (fun _ _=>z0 ⟨by rw [setsOf e1,e2]; rfl,td,h1,.inl ⟨h2.resolve_left (by decide),by show ([]:List Int).length≤4096; decide⟩⟩))))
  refine z7 (fun e=>?_) (fun m7=>?_)
  ·have e:=row e (show rowD 29=some ⟨3,0,0,0,2⟩ by kernel_rfl)
   obtain ⟨td,h1,h2⟩:=dOf e (.inr (.inr (.inl rfl)))
   have hN:nOk f.C_ 2 i.N_ td=true:=by
    have:=(z4b hf e).2.2.2
    unfold tyF at this
    rw [h1] at this; exact this
   obtain ⟨p,v,p1,p2,p3⟩:=zok F hn hG h1 (h2.resolve_left (by decide)) hN
   exact zi h1 (zi p1 (zi p2 (z8 (fun (y:List Int)=>z2e f.C_ td y) p3 (fun (y:List Int) hy=>z0 ⟨setsOf e,td,h1,hy⟩))))
  refine z7 (fun e=>?_) (fun m8=>?_)
  ·have e:=row e (show rowD 30=some ⟨3,0,0,0,2⟩ by kernel_rfl)
   obtain ⟨td,h1,h2⟩:=dOf e (.inr (.inr (.inl rfl)))
   have hN:nOk f.C_ 2 i.N_ td=true:=by
    have:=(z4b hf e).2.2.2
    unfold tyF at this
    rw [h1] at this; exact this
   obtain ⟨p,v,p1,p2,p3⟩:=zok F hn hP h1 (h2.resolve_left (by decide)) hN
   exact zi h1 (zi p1 (zi p2 (z8 (fun (y:List Int)=>z2e f.C_ td y) p3 (fun (y:List Int) hy=>z0 ⟨setsOf e,td,h1,hy⟩))))
  refine z7 (fun e=>?_) (fun m9=>?_)
  ·have e:=row e (show rowD 32=some ⟨8,0,0,0,3⟩ by kernel_rfl)
   obtain ⟨td,h1,h2⟩:=dOf e (.inr (.inr (.inr rfl)))
   have hN:nOk f.C_ 3 i.N_ td=true:=by
    have:=(z4b hf e).2.2.2
    unfold tyF at this
    rw [h1] at this; exact this
   obtain ⟨z,z1,z2⟩:=zvb hN
   obtain ⟨z3,z4,z5⟩:=z3v z1
   obtain ⟨x,x1,x2⟩:=z31 (l:=f.Slots_) (k:=i.N_) ⟨z3,by rw [hS.len]; exact z4⟩
   exact zi x1 (z0 ⟨setsOf e,td,h1,z2 ▸ hS.ok _ z x z5 x2⟩)
  refine z7 (fun e=>?_) (fun m10=>?_)
  ·have e:=row e (show rowD 33=some ⟨0,8,0,0,3⟩ by kernel_rfl)
   obtain ⟨tA,a1,a2,x,a3,a4,a5⟩:=aOf e (.inr (.inr (.inr rfl)))
   have hN:nOk f.C_ 3 i.N_ tA=true:=by
    have:=(z4b hf e).2.2.2
    unfold tyF at this
    rw [a1] at this; exact this
   obtain ⟨z,z1,z2⟩:=zvb hN
   obtain ⟨z3,z4,z5⟩:=z3v z1
   have hse:sets i=false:=setsOf e
   refine zi a3 (z8 (fun (y:List Xh)=>y=f.Slots_.set i.N_.toNat x) (t175 (by rw [hS.len]; have:=F.nslo; omega) (by rw [hS.len]; exact ⟨z3,z4⟩)) (fun (y30:List Xh) hy=>z0 ?_))
   show zeb f.C_ (bif sets i then set.set i.D_.toNat true else set) f (f.C_.Sign_,f.C_.Regs_,f.C_.Slots_,f.C_.List_,f.Regs_,y30,f.Out_,f.Grads_,f.Params_,f.Cost_)
   rw [hse,hy]
   refine ⟨_,_,_,rfl,hR,⟨by rw [List.length_set]; exact hS.len,fun j z' x' q1 q2=>?_⟩,hO,fun _ h=>h⟩
   by_cases hj:j=i.N_.toNat
   ·subst hj
    rw [z5] at q1; cases q1
    rw [List.getElem?_set_self (by rw [hS.len]; omega)] at q2
    cases q2; rw [z2]; exact a4
   ·rw [List.getElem?_set_ne (fun h=>hj h.symm)] at q2
    exact hS.ok j z' x' q1 q2
  refine z7 (fun e=>?_) (fun n31=>?_)
  ·have e:=row e (show rowD 31=some ⟨0,3,0,0,2⟩ by kernel_rfl)
   obtain ⟨tA,a1,a2,x,a3,a4,a5⟩:=aOf e (.inr (.inr (.inl rfl)))
   have hk:tA.Kind_=3:=a2.resolve_left (by decide)
   have hN:nOk f.C_ 2 i.N_ tA=true:=by
    have:=(z4b hf e).2.2.2
    unfold tyF at this
    rw [a1] at this; exact this
   have hse:sets i=false:=setsOf e
   have hm:=F.reg tA (z1j a1).1
   unfold mayT at hm
   rw [hk] at hm
   have hm:(decide (tA.Param_≥0) && decide (tA.Param_<(f.C_.Sign_.length:Int)))=true:=hm
   simp only [Bool.and_eq_true,decide_eq_true_eq] at hm
   obtain ⟨p,p1,p2⟩:=z31 (l:=f.C_.Sign_) (k:=tA.Param_) ⟨by omega,by omega⟩
   have hNv:i.N_=0∨i.N_=1:=by
    unfold nOk at hN
    simp only [show ((2:Int)==1)=false from rfl,show ((2:Int)==2)=true from rfl,cond_false,cond_true,Bool.or_eq_true,Bool.and_eq_true,beq_iff_eq] at hN
    rcases hN with h | ⟨h,_⟩
    ·exact .inl h
    ·exact .inr h
   have hnp:=F.npar
   have ew:IntKind.i64.wrap (IntKind.i64.wrap (2 * tA.Param_)+i.N_)=2 * tA.Param_+i.N_:=by
    rw [z1w (x:=2 * tA.Param_) (by omega) (by omega),z1w (by omega) (by omega)]
   have hin:0≤2 * tA.Param_+i.N_∧2 * tA.Param_+i.N_<f.Out_.length:=by rw [hO.len]; omega
   obtain ⟨l,_,l2⟩:=z31 hin
   refine zl (by show f.Out_.length * 24≤_; rw [hO.len]; omega) (zi a1 (zi a3 (zl (by show 0≤IntKind.i64.wrap (IntKind.i64.wrap (2 * tA.Param_)+i.N_)∧_; rw [ew]; exact hin) (zi (a:=l) (by show f.Out_[(IntKind.i64.wrap (IntKind.i64.wrap (2 * tA.Param_)+i.N_)).toNat]? = _; rw [ew]; exact l2) (z0 ?_)))))
   show zeb f.C_ (bif sets i then set.set i.D_.toNat true else set) f (f.C_.Sign_,f.C_.Regs_,f.C_.Slots_,f.C_.List_,f.Regs_,f.Slots_,f.Out_.set (IntKind.i64.wrap (IntKind.i64.wrap (2 * tA.Param_)+i.N_)).toNat x.Nums_,f.Grads_,f.Params_,f.Cost_)
   rw [hse,ew]
   refine ⟨_,_,_,rfl,hR,hS,⟨by rw [List.length_set]; exact hO.len,fun j p' e' l' q1 q2 q3=>?_⟩,fun _ h=>h⟩
   by_cases hj:2 * j+e'=(2 * tA.Param_+i.N_).toNat
   ·rw [hj,List.getElem?_set_self (by omega)] at q3
    cases q3
    have:j=tA.Param_.toNat:=by omega
    rw [this,p2] at q1; cases q1
    rcases a4 with ⟨a4,_⟩ | a4
    ·omega
    ·rw [a4]
     unfold z1r
     have:(tA.Kind_ != 3)=false:=by rw [hk]; rfl
     rw [this,p1]; rfl
   ·rw [List.getElem?_set_ne (fun h=>hj h.symm)] at q3
    exact hO.ok j p' e' l' q1 q2 q3
  ·refine z0 (rest ?_)
   cases hse:sets i with
   | false=>rfl
   | true =>
    exfalso
    have:=zx1 hse
    rw [h1] at m0
    rw [h2] at m6
    simp only [beq_eq_false_iff_ne,ne_eq,decide_eq_false_iff_not] at n1 n2 m0 m1 m2 m3 m4 m5 m6 m7 m8 m9
    omega
 ·obtain ⟨hse,td,h1,h2⟩:=h3
  obtain ⟨d0,d1,_⟩:=z3v h1
  refine z8 (fun (y:List Xh)=>y=f.Regs_.set i.D_.toNat ⟨s3.1,s3.2⟩) (t175 (by rw [hR.len]; have:=F.nreg; omega) (by rw [hR.len]; exact ⟨d0,d1⟩)) (fun (y:List Xh) hy=>z0 ?_)
  rw [hse,hy]
  exact ⟨_,_,_,rfl,zlh hR h1 h2,hS,hO,fun s hs=>(zlh hs h1 h2).less fun j hj=>by
   by_cases e:j=i.D_.toNat
   ·subst e
    by_cases q:i.D_.toNat<s.length
    ·rw [List.getElem?_set_self q]; rfl
    ·rw [List.getElem?_eq_none (by omega)] at hj; cases hj
   ·rw [List.getElem?_set_ne (fun h=>e h.symm)]; exact hj⟩
section
variable {P:Program} {T:TT} {pro:List Nat} {R R' S A V:Type} {g:R→R'}
def Sim (t:Pt P T pro R) (t':Pt P T pro R') (g:R→R'):Prop:=t'.run=t.run.map g
theorem zx3 {x:R} {x':R'} (h:x'=g x):Sim (.leaf x:Pt P T pro R) (.leaf x') g:=by
 show some x'=some (g x)
 rw [h]
theorem y1e {b:Bool} {x y:Pt P T pro R} {x' y':Pt P T pro R'} (h1:Sim x x' g) (h2:Sim y y' g):Sim (.ite b x y) (.ite b x' y') g:=by
 cases b with
 | true=>exact h1
 | false=>exact h2
theorem zx4 {p:Prop} [Decidable p] {K:Pt P T pro R} {K':Pt P T pro R'} (h:Sim K K' g):Sim (.need p K) (.need p K') g:=by
 show need p K'.run=(need p K.run).map g
 unfold need
 split
 ·exact h
 ·rfl
theorem y1d {x:Option A} {K:A→Pt P T pro R} {K':A→Pt P T pro R'} (h:∀ a,Sim (K a) (K' a) g):Sim (.bnd x K) (.bnd x K') g:=by
 cases x with
 | none=>rfl
 | some a=>exact h a
theorem zx2 {enc enc':S→EH T} {B:Pt P T pro (S⊕R)} {B':Pt P T pro (S⊕R')} {K:S→Pt P T pro R} {K':S→Pt P T pro R'} (h:Sim B B' (Sum.map id g)) (hk:∀ s,Sim (K s) (K' s) g):Sim (.join enc B K) (.join enc' B' K') g:=by
 show (B'.run.bind (zn fun s=>(K' s).run))=(B.run.bind (zn fun s=>(K s).run)).map g
 unfold Sim at h
 rw [h]
 cases B.run with
 | none=>rfl
 | some z =>
  cases z with
  | inl s=>exact hk s
  | inr r=>rfl
theorem zlq {C:Con P T} {x x':C.X} {K:C.Y→Pt P T pro R} {K':C.Y→Pt P T pro R'} (e:C.G x'=C.G x) (h:∀ y,Sim (K y) (K' y) g):Sim (.call C x K) (.call C x' K') g:=by
 show ((C.G x').bind fun y=>(K' y).run)=((C.G x).bind fun y=>(K y).run).map g
 rw [e]
 cases C.G x with
 | none=>rfl
 | some y=>exact h y
end
noncomputable def dn (n:Nat) (c:Xe) (G P:List (List Int)) (i:Xd) (R S:List Xh) (O:List (List Int)):Option Ten :=
 (k154 n).G ((⟨⟨c.Sign_,c.Regs_,c.Slots_,[]⟩,R,S,O,G,P,0⟩:Xj),i)
theorem zxi (n:Nat) (A:List Xa) (B:List Xb) (Z:List Xc) (L:List Xd) (c:Xe) (hA:c.Sign_=A) (hB:c.Regs_=B) (hZ:c.Slots_=Z) (G P:List (List Int)) (i:Xd) (R S:List Xh) (O:List (List Int)) (w:Int) :
  (k154 n).G ((⟨⟨A,B,Z,L⟩,R,S,O,G,P,w⟩:Xj),i)=(dn n c G P i R S O).map fun (y:Ten)=>(y.1,y.2.1,y.2.2.1,L,y.2.2.2.2.1,y.2.2.2.2.2.1,y.2.2.2.2.2.2.1,y.2.2.2.2.2.2.2.1,y.2.2.2.2.2.2.2.2.1,w):=by
 subst hA hB hZ
 show Sim (z6w n ((⟨⟨c.Sign_,c.Regs_,c.Slots_,[]⟩,R,S,O,G,P,0⟩:Xj),i)) (z6w n ((⟨⟨c.Sign_,c.Regs_,c.Slots_,L⟩,R,S,O,G,P,w⟩:Xj),i)) _
 unfold z6w
 have e191:(k191 n).G ((⟨⟨c.Sign_,c.Regs_,c.Slots_,L⟩,R,S,O,G,P,w⟩:Xj),i)=(k191 n).G ((⟨⟨c.Sign_,c.Regs_,c.Slots_,[]⟩,R,S,O,G,P,0⟩:Xj),i):=by kernel_rfl
 repeat' first
  | exact zx3 rfl
  | refine y1e ?_ ?_
  | refine zlq e191 (fun _=>?_)
  | refine zlq rfl (fun _=>?_)
  | refine y1d (fun _=>?_)
  | refine zx4 ?_
  | refine zx2 ?_ (fun _=>?_)
theorem zg5 (n:Nat) (c:Xe) (G P:List (List Int)) (i:Xd) (R S:List Xh) (O:List (List Int)) (h:i.Op_=34∨i.Op_=35∨i.Op_=36∨i.Op_=37) :
  dn n c G P i R S O=some (c.Sign_,c.Regs_,c.Slots_,[],R,S,O,G,P,0):=by
 have key:∀ op d a b cc N bits:Int,op=34∨op=35∨op=36∨op=37→dn n c G P ⟨op,d,a,b,cc,N,bits⟩ R S O=some (c.Sign_,c.Regs_,c.Slots_,[],R,S,O,G,P,0):=by
  intro op d a b cc N bits h
  have e34:dn n c G P ⟨34,d,a,b,cc,N,bits⟩ R S O=some (c.Sign_,c.Regs_,c.Slots_,[],R,S,O,G,P,0):=by kernel_rfl
  have e35:dn n c G P ⟨35,d,a,b,cc,N,bits⟩ R S O=some (c.Sign_,c.Regs_,c.Slots_,[],R,S,O,G,P,0):=by kernel_rfl
  have e36:dn n c G P ⟨36,d,a,b,cc,N,bits⟩ R S O=some (c.Sign_,c.Regs_,c.Slots_,[],R,S,O,G,P,0):=by kernel_rfl
  have e37:dn n c G P ⟨37,d,a,b,cc,N,bits⟩ R S O=some (c.Sign_,c.Regs_,c.Slots_,[],R,S,O,G,P,0):=by kernel_rfl
  rcases h with rfl | rfl | rfl | rfl
  ·exact e34
  ·exact e35
  ·exact e36
  ·exact e37
 exact key _ _ _ _ _ _ _ h
abbrev MSt:Type:=Int×List Xh×List Xh×List (List Int)
noncomputable def z38 (n:Nat) (c:Xe) (G P:List (List Int)) (i:Xd) (m:MSt):Option MSt :=
 bif decide (m.1 > 0) then some (bif i.Op_==34 then (m.1+1,m.2) else bif i.Op_==35 then (m.1 - 1,m.2) else m)
 else bif i.Op_==34 then (idx m.2.1 i.A_).map fun x=>bif x.Int_==0 then (1,m.2) else m
 else (dn n c G P i m.2.1 m.2.2.1 m.2.2.2).map fun (y:Ten)=>(m.1,y.2.2.2.2.1,y.2.2.2.2.2.1,y.2.2.2.2.2.2.1)
noncomputable def runM (n:Nat) (c:Xe) (G P:List (List Int)):List Xd→MSt→Option MSt
 | [],m=>some m
 | i::l,m=>(z38 n c G P i m).bind (runM n c G P l)
section
variable {n:Nat} {c:Xe} {G P:List (List Int)}
theorem zvg {i:Xd} (m:MSt) (h:mark i=true):z38 n c G P i m=some m:=by
 unfold mark at h
 simp only [Bool.or_eq_true,beq_iff_eq] at h
 have e34:(i.Op_==34)=false:=by rcases h with h | h <;> rw [h] <;> decide
 have e35:(i.Op_==35)=false:=by rcases h with h | h <;> rw [h] <;> decide
 unfold z38
 rw [e34,e35,zg5 n c G P i _ _ _ (by rcases h with h | h; exact .inr (.inr (.inl h)); exact .inr (.inr (.inr h)))]
 cases decide (m.1 > 0) <;> rfl
theorem z97:∀ (l:List Xd) (m:MSt),runM n c G P (bare l) m=runM n c G P l m
 | [],m=>rfl
 | i::l,m=>by
  cases h:mark i with
  | true =>
   have eb:bare (i::l)=bare l:=by unfold bare; rw [List.filter_cons,h]; rfl
   rw [eb,z97 l m]
   show _=(z38 n c G P i m).bind (runM n c G P l)
   rw [zvg m h]; rfl
  | false =>
   have eb:bare (i::l)=i::bare l:=by unfold bare; rw [List.filter_cons,h]; rfl
   rw [eb]
   show (z38 n c G P i m).bind (runM n c G P (bare l))=(z38 n c G P i m).bind (runM n c G P l)
   cases z38 n c G P i m with
   | none=>rfl
   | some m'=>exact z97 l m'
structure Inv (c:Xe) (set:List Bool) (o:List Xg) (m:MSt):Prop where
 skip:0≤m.1
 regs:m.1=0→z2z c set m.2.1
 opens:∀ (j:Nat) (x:Xg),(base o)[j]? = some x→(j:Int)+m.1≤(base o).length→z2z c x.Set_ m.2.1
 slots:z2k c m.2.2.1
 out:z8j c m.2.2.2
theorem zx8 (hn:100000<n) (F:Fine c) (hG:InOk c G) (hP:InOk c P) {i:Xd} {set:List Bool} {o:List Xg} {m:MSt} (h:Inv c set o m) (hst:z1b c i set o=true) :
  ∃ m',z38 n c G P i m=some m'∧Inv c (z1s i set o).1 (z1s i set o).2 m':=by
 obtain ⟨h1,h2,h3,h4,h5⟩:=h
 obtain ⟨skip,R,S,O⟩:=m
 simp only at h1 h2 h3 h4 h5
 have hst':=hst
 unfold z1b at hst'
 simp only [Bool.and_eq_true] at hst'
 obtain ⟨hfit,_,hrd,hpl⟩:=hst'
 have h35:(i.Op_==35)=true→∃ o' x,o=o'++[x]∧base o=base o'++[x]∧z1s i set o=(x.Set_,o'):=by
  intro h
  have h:i.Op_=35:=by simpa using h
  unfold z3k at hpl
  rw [h] at hpl
  have hpl:(decide ((o.length:Int) > 0) && !(zz o))=true:=hpl
  rcases List.eq_nil_or_concat o with rfl | ⟨o',x,rfl⟩
  ·simp at hpl
  ·rw [List.concat_eq_append] at hpl ⊢
   rw [(z4j o' x).1] at hpl
   simp only [Bool.and_eq_true] at hpl
   refine ⟨o',x,rfl,?_,?_⟩
   ·rw [z42]
    congr 1
    unfold base
    rw [List.filter_cons,hpl.2]; rfl
   ·unfold z1s
    rw [h]
    simp
 have h34:(i.Op_==34)=true→z1s i set o=(set,o++[⟨34,i.N_,set⟩])∧base (o++[⟨34,i.N_,set⟩])=base o++[⟨34,i.N_,set⟩]:=by
  intro h
  have h:i.Op_=34:=by simpa using h
  refine ⟨?_,?_⟩
  ·unfold z1s; rw [h]; rfl
  ·rw [z42]; rfl
 have hel:(i.Op_==34)=false→(i.Op_==35)=false→base (z1s i set o).2=base o∧(z1s i set o).1=bif sets i then set.set i.D_.toNat true else set:=by
  intro e34 e35
  unfold z1s
  rw [e34,e35]
  cases e36:i.Op_==36 with
  | true =>
   have h:i.Op_=36:=by simpa using e36
   have hs:sets i=false:=by unfold sets; rw [h]; rfl
   rw [hs]
   refine ⟨?_,rfl⟩
   show base (o++[⟨i.Op_,i.N_,set⟩])=base o
   rw [z42,h]
   show base o++[]=_
   rw [List.append_nil]
  | false =>
   cases e37:i.Op_==37 with
   | true =>
    have h:i.Op_=37:=by simpa using e37
    have hs:sets i=false:=by unfold sets; rw [h]; rfl
    rw [hs]
    refine ⟨?_,rfl⟩
    show base o.dropLast=base o
    unfold z3k at hpl
    rw [h] at hpl
    have hpl:zz o=true:=hpl
    rcases List.eq_nil_or_concat o with rfl | ⟨o',x,rfl⟩
    ·rfl
    ·rw [List.concat_eq_append] at hpl ⊢
     rw [(z4j o' x).1] at hpl
     rw [List.dropLast_concat,z42]
     have:base [x]=[]:=by unfold base; simp [hpl]
     rw [this,List.append_nil]
   | false =>
    cases hs:sets i <;> exact ⟨rfl,rfl⟩
 by_cases hsk:skip > 0
 ·have e0:decide (skip > 0)=true:=by simpa using hsk
  unfold z38
  simp only [e0,cond_true]
  cases e34:i.Op_==34 with
  | true =>
   obtain ⟨q1,q2⟩:=h34 e34
   refine ⟨_,rfl,?_⟩
   rw [q1]
   refine ⟨by show 0≤skip+1; omega,fun h=>by have h:skip+1=0:=h; omega,fun j x hj hl=>?_,h4,h5⟩
   have hl:(j:Int)+(skip+1)≤_:=hl
   rw [q2] at hj hl
   have hj2:j<(base o).length:=by simp at hl; omega
   rw [List.getElem?_append_left hj2] at hj
   exact h3 j x hj (by simp at hl; omega)
  | false =>
   cases e35:i.Op_==35 with
   | true =>
    obtain ⟨o',x,q0,q1,q2⟩:=h35 e35
    refine ⟨_,rfl,?_⟩
    rw [q2]
    rw [q1] at h3
    refine ⟨by show 0≤skip - 1; omega,fun h=>?_,fun j y hj hl=>?_,h4,h5⟩
    ·have h:skip - 1=0:=h
     exact h3 (base o').length x (by rw [List.getElem?_append_right (Nat.le_refl _),Nat.sub_self]; rfl) (by simp; omega)
    ·have hl:(j:Int)+(skip - 1)≤((base o').length:Int):=hl
     have hj2:j<(base o').length:=by
      by_cases q:j<(base o').length
      ·exact q
      ·have hj':(base o')[j]? = some y:=hj
       rw [List.getElem?_eq_none (by omega)] at hj'; cases hj'
     exact h3 j y (by rw [List.getElem?_append_left hj2]; exact hj) (by simp; omega)
   | false =>
    obtain ⟨q1,q2⟩:=hel e34 e35
    refine ⟨_,rfl,?_⟩
    refine ⟨h1,fun h=>?_,fun j y hj hl=>?_,h4,h5⟩
    ·have h:skip=0:=h
     omega
    ·rw [q1] at hj hl
     exact h3 j y hj hl
 ·obtain rfl:skip=0:=by omega
  have hR:=h2 rfl
  unfold z38
  simp only [show decide ((0:Int) > 0)=false from rfl,cond_false]
  cases e34:i.Op_==34 with
  | true =>
   obtain ⟨q1,q2⟩:=h34 e34
   have e:rowD i.Op_=some ⟨0,2,0,0,0⟩:=by rw [show i.Op_=34 from by simpa using e34]; kernel_rfl
   obtain ⟨t,t1,_⟩:=ze5 (z4b hfit e).2.1 (.inr (.inl rfl))
   obtain ⟨a,b,_⟩:=z3v t1
   obtain ⟨x,x1,_⟩:=z31 (l:=R) (k:=i.A_) ⟨a,by rw [hR.len]; exact b⟩
   rw [x1,q1]
   simp only [cond_true,Option.map_some]
   refine ⟨_,rfl,?_⟩
   cases x.Int_==0 with
   | true =>
    refine ⟨by show (0:Int)≤1; decide,fun h=>by have h:(1:Int)=0:=h; omega,fun j y hj hl=>?_,h4,h5⟩
    have hl:(j:Int)+1≤_:=hl
    rw [q2] at hj hl
    by_cases hj2:j<(base o).length
    ·rw [List.getElem?_append_left hj2] at hj
     exact h3 j y hj (by omega)
    ·have:j=(base o).length:=by simp at hl; omega
     subst this
     rw [List.getElem?_append_right (Nat.le_refl _),Nat.sub_self] at hj
     cases hj; exact hR
   | false =>
    refine ⟨Int.le_refl _,fun _=>hR,fun j y hj hl=>?_,h4,h5⟩
    have hl:(j:Int)+0≤_:=hl
    rw [q2] at hj hl
    by_cases hj2:j<(base o).length
    ·rw [List.getElem?_append_left hj2] at hj
     exact h3 j y hj (by omega)
    ·have:j=(base o).length:=by
      by_cases q:j=(base o).length
      ·exact q
      ·rw [List.getElem?_eq_none (by simp; omega)] at hj; cases hj
     subst this
     rw [List.getElem?_append_right (Nat.le_refl _),Nat.sub_self] at hj
     cases hj; exact hR
  | false =>
   simp only [cond_false]
   cases e35:i.Op_==35 with
   | true =>
    obtain ⟨o',x,q0,q1,q2⟩:=h35 e35
    rw [zg5 n c G P i _ _ _ (.inr (.inl (by simpa using e35))),q2]
    rw [q1] at h3
    refine ⟨(0,R,S,O),rfl,Int.le_refl _,fun _=>?_,fun j y hj hl=>?_,h4,h5⟩
    ·exact h3 (base o').length x (by rw [List.getElem?_append_right (Nat.le_refl _),Nat.sub_self]; rfl) (by simp only [List.length_append,List.length_singleton]; omega)
    ·have hl:(j:Int)+0≤((base o').length:Int):=hl
     have hj2:j<(base o').length:=by
      by_cases q:j<(base o').length
      ·exact q
      ·have hj':(base o')[j]? = some y:=hj
       rw [List.getElem?_eq_none (by omega)] at hj'; cases hj'
     exact h3 j y (by rw [List.getElem?_append_left hj2]; exact hj) (by simp; omega)
   | false =>
    obtain ⟨q1,q2⟩:=hel e34 e35
    have F0:Fine ⟨c.Sign_,c.Regs_,c.Slots_,[]⟩:=⟨F.par,F.reg,F.slo,F.nreg,F.nslo,F.npar⟩
    have hf0:fits ⟨c.Sign_,c.Regs_,c.Slots_,[]⟩ i=true:=hfit
    have fr:FrOk ⟨c.Sign_,c.Regs_,c.Slots_,[]⟩ set ⟨⟨c.Sign_,c.Regs_,c.Slots_,[]⟩,R,S,O,G,P,0⟩:=⟨rfl,⟨hR.len,hR.ok⟩,⟨h4.len,h4.ok⟩,⟨h5.len,h5.ok⟩,⟨hG.len,hG.ok⟩,⟨hP.len,hP.ok⟩⟩
    obtain ⟨y,hy,R',S',O',ey,k1,k2,k3,k4⟩:=y09 hn F0 fr hf0 hrd
    have hy:dn n c G P i R S O=some y:=hy
    rw [hy,ey]
    refine ⟨(0,R',S',O'),rfl,Int.le_refl _,fun _=>?_,fun j y hj hl=>?_,⟨k2.len,k2.ok⟩,⟨k3.len,k3.ok⟩⟩
    ·rw [q2]; exact ⟨k1.len,k1.ok⟩
    ·rw [q1] at hj hl
     have hx:=h3 j y hj hl
     have:=k4 y.Set_ ⟨hx.len,hx.ok⟩
     exact ⟨this.len,this.ok⟩
theorem zp1 (hn:100000<n) (F:Fine c) (hG:InOk c G) (hP:InOk c P):∀ (l:List Xd) (k:Nat) (set:List Bool) (o:List Xg) (r:List Bool×List Xg) (m:MSt),
  goR c l k set o = .inr r→Inv c set o m→∃ m',runM n c G P l m=some m'∧z2k c m'.2.2.1∧z8j c m'.2.2.2
 | [],k,set,o,r,m,hg,h=>⟨m,rfl,h.slots,h.out⟩
 | i::l,k,set,o,r,m,hg,h=>by
  rw [z84] at hg
  cases hst:z1b c i set o with
  | false=>rw [hst] at hg; cases hg
  | true =>
   rw [hst,cond_true] at hg
   obtain ⟨m1,e1,h1⟩:=zx8 hn F hG hP h hst
   obtain ⟨m2,e2,h2⟩:=zp1 hn F hG hP l (k+1) _ _ r m1 hg h1
   refine ⟨m2,?_,h2⟩
   show (z38 n c G P i m).bind (runM n c G P l)=_
   rw [e1]; exact e2
end
section
variable {P:Program} {T:TT} {pro:List Nat} {R S A V:Type} {Q:R→Prop}
def Lbr (t:Pt P T pro R) (Q:R→Prop):Prop:=∀ y,t.run=some y→Q y
theorem zl8 {x:R} (h:Q x):Lbr (.leaf x:Pt P T pro R) Q:=fun y e=>by cases e; exact h
theorem y0u {b:Bool} {x y:Pt P T pro R} (h1:Lbr x Q) (h2:Lbr y Q):Lbr (.ite b x y) Q:=by
 cases b with
 | true=>exact h1
 | false=>exact h2
theorem zwp {p:Prop} [Decidable p] {K:Pt P T pro R} (h:Lbr K Q):Lbr (.need p K) Q:=fun y e=>h y (by
 have e:need p K.run=some y:=e
 unfold need at e
 split at e
 ·exact e
 ·cases e)
theorem y0t {x:Option A} {K:A→Pt P T pro R} (h:∀ a,Lbr (K a) Q):Lbr (.bnd x K) Q:=fun y e=>by
 cases x with
 | none=>cases e
 | some a=>exact h a y e
theorem zwo {enc:S→EH T} {B:Pt P T pro (S⊕R)} {K:S→Pt P T pro R} (h:Lbr B (fun s=>match s with | .inl _=>True | .inr r=>Q r)) (hk:∀ s,Lbr (K s) Q):Lbr (.join enc B K) Q:=fun y e=>by
 have e:(B.run.bind (zn fun s=>(K s).run))=some y:=e
 cases hb:B.run with
 | none=>rw [hb] at e; cases e
 | some z =>
  rw [hb] at e
  cases z with
  | inl s=>exact hk s y e
  | inr r =>
   have:=h _ hb
   cases e; exact this
theorem zwn {C:Con P T} {x:C.X} {K:C.Y→Pt P T pro R} (h:∀ y,Lbr (K y) Q):Lbr (.call C x K) Q:=fun y e=>by
 have e:((C.G x).bind fun y=>(K y).run)=some y:=e
 cases hb:C.G x with
 | none=>rw [hb] at e; cases e
 | some z=>rw [hb] at e; exact h z y e
end
theorem zw7 {n:Nat} {c:Xe} {G P:List (List Int)} {i:Xd} {R S:List Xh} {O:List (List Int)} {y:Ten} (h:dn n c G P i R S O=some y) :
  y.1=c.Sign_∧y.2.1=c.Regs_∧y.2.2.1=c.Slots_∧y.2.2.2.2.2.2.2.1=G∧y.2.2.2.2.2.2.2.2.1=P:=by
 have key:Lbr (z6w n ((⟨⟨c.Sign_,c.Regs_,c.Slots_,[]⟩,R,S,O,G,P,0⟩:Xj),i)) (fun (y:Ten)=>y.1=c.Sign_∧y.2.1=c.Regs_∧y.2.2.1=c.Slots_∧y.2.2.2.2.2.2.2.1=G∧y.2.2.2.2.2.2.2.2.1=P):=by
  unfold z6w
  repeat' first
   | exact zl8 True.intro
   | exact zl8 ⟨rfl,rfl,rfl,rfl,rfl⟩
   | refine y0u ?_ ?_
   | refine zwn (fun _=>?_)
   | refine y0t (fun _=>?_)
   | refine zwp ?_
   | refine zwo ?_ (fun _=>?_)
 exact key y h
section
variable {n:Nat} {c:Xe} {G P:List (List Int)}
theorem y1f {i:Xd} {m m':MSt} (h:z38 n c G P i m=some m') (h0:0≤m.1):0≤m'.1∧m'.1≤m.1+1:=by
 unfold z38 at h
 cases hs:decide (m.1 > 0) with
 | true =>
  rw [hs] at h
  simp only [cond_true,Option.some.injEq] at h
  simp only [decide_eq_true_eq] at hs
  subst h
  cases i.Op_==34 <;> cases i.Op_==35 <;> simp <;> omega
 | false =>
  rw [hs] at h
  simp only [cond_false] at h
  cases e:i.Op_==34 with
  | true =>
   rw [e] at h
   simp only [cond_true] at h
   cases hi:idx m.2.1 i.A_ with
   | none=>rw [hi] at h; cases h
   | some x =>
    rw [hi] at h
    simp only [Option.map_some,Option.some.injEq] at h
    subst h
    cases x.Int_==0 <;> simp <;> omega
  | false =>
   rw [e] at h
   simp only [cond_false] at h
   cases hd:dn n c G P i m.2.1 m.2.2.1 m.2.2.2 with
   | none=>rw [hd] at h; cases h
   | some y =>
    rw [hd] at h
    simp only [Option.map_some,Option.some.injEq] at h
    subst h
    exact ⟨h0,by show m.1≤m.1+1; omega⟩
abbrev St12:Type:=Int×Int×(List Xa)×(List Xb)×(List Xc)×(List Xd)×(List Xh)×(List Xh)×(List (List Int))×(List (List Int))×(List (List Int))×Int
abbrev z1g (c:Xe) (L:List Xd):Xe:=⟨c.Sign_,c.Regs_,c.Slots_,L⟩
abbrev stOf (c:Xe) (L:List Xd) (G P:List (List Int)) (m:MSt) (k:Int) (w:Int):St12:=(m.1,k,c.Sign_,c.Regs_,c.Slots_,L,m.2.1,m.2.2.1,m.2.2.2,G,P,w)
theorem zq5 (F:Fine c) {L:List Xd} {Sl:List Xh} {m m1:MSt} {k:Nat} {w:Int} (hk:k<L.length) (hL:L.length≤1000000) (hf:fits c L[k]=true) (h:z38 n c G P L[k] m=some m1) (h0:0≤m.1) (h1:m.1≤k) :
  Got ((z5c n ((⟨z1g c L,Sl⟩:Xi),G,P) () (stOf c L G P m (k:Int) w)).run) (fun b=>∃ w',(w'=w∨w'=IntKind.i64.wrap (w+z1q c L[k]))∧b = .go (stOf c L G P m1 ((k+1:Nat):Int) w')):=by
 show Ans (z5c n ((⟨z1g c L,Sl⟩:Xi),G,P) () (stOf c L G P m (k:Int) w)) _
 unfold z5c
 have ek:IntKind.i64.wrap ((k:Int)+1)=((k+1:Nat):Int):=z15 (by omega)
 have es1:IntKind.i64.wrap (m.1+1)=m.1+1:=z1w (by omega) (by omega)
 have es2:IntKind.i64.wrap (m.1 - 1)=m.1 - 1:=z1w (by omega) (by omega)
 unfold z38 at h
 refine z7 (fun _=>?_) (fun hh=>?_)
 ·refine zi (a:=L[k]) (z13 hk) ?_
  refine z7 (fun hs=>?_) (fun hs=>?_)
  ·have hs:decide (m.1 > 0)=true:=hs
   rw [hs] at h
   simp only [cond_true,Option.some.injEq] at h
   refine z7 (fun e=>z0 ⟨w,.inl rfl,?_⟩) (fun e=>z7 (fun e2=>z0 ⟨w,.inl rfl,?_⟩) (fun e2=>z0 ⟨w,.inl rfl,?_⟩))
   ·rw [e,cond_true] at h
    subst h
    show Bo.go (IntKind.i64.wrap (m.1+1),IntKind.i64.wrap ((k:Int)+1),_)=_
    rw [ek,es1]
   ·rw [e,e2,cond_true,cond_false] at h
    subst h
    show Bo.go (IntKind.i64.wrap (m.1 - 1),IntKind.i64.wrap ((k:Int)+1),_)=_
    rw [ek,es2]
   ·rw [e,e2,cond_false,cond_false] at h
    subst h
    show Bo.go (m.1,IntKind.i64.wrap ((k:Int)+1),_)=_
    rw [ek]
  ·have hs:decide (m.1 > 0)=false:=hs
   have hz:m.1=0:=by simp only [decide_eq_false_iff_not] at hs; omega
   rw [hs] at h
   simp only [cond_false] at h
   refine z8 (fun (y:Int)=>y=z1q c L[k]) (t153 (c:=z1g c L) (i:=L[k]) F.reg hf) (fun (y12:Int) h12=>?_)
   cases e:L[k].Op_==34 with
   | true =>
    rw [e] at h
    simp only [cond_true] at h
    cases hi:idx m.2.1 L[k].A_ with
    | none=>rw [hi] at h; cases h
    | some x =>
     rw [hi] at h
     simp only [Option.map_some,Option.some.injEq] at h
     refine zgo (z7 (fun _=>?_) (fun e'=>by cases e'))
     refine zi (a:=x) rfl (z0 ?_)
     show Ans _ _
     refine z7 (fun hx=>z0 ⟨IntKind.i64.wrap (w+y12),.inr (by rw [h12]),?_⟩) (fun hx=>?_)
     ·have hx:(x.Int_==0)=true:=hx
      rw [hx,cond_true] at h
      subst h
      show Bo.go ((1:Int),IntKind.i64.wrap ((k:Int)+1),_)=_
      rw [ek]
     ·have hx:(x.Int_==0)=false:=hx
      rw [hx,cond_false] at h
      subst h
      have ed:=zxi n c.Sign_ c.Regs_ c.Slots_ L c rfl rfl rfl G P L[k] m.2.1 m.2.2.1 m.2.2.2 (IntKind.i64.wrap (w+y12))
      rw [zg5 n c G P L[k] _ _ _ (.inl (by simpa using e))] at ed
      refine z8 (fun (y:Ten)=>y=(c.Sign_,c.Regs_,c.Slots_,L,m.2.1,m.2.2.1,m.2.2.2,G,P,IntKind.i64.wrap (w+y12))) ⟨_,ed,rfl⟩ (fun (y14:Ten) hy=>z0 ⟨IntKind.i64.wrap (w+y12),.inr (by rw [h12]),?_⟩)
      subst hy
      show Bo.go (m.1,IntKind.i64.wrap ((k:Int)+1),_)=_
      rw [ek]
   | false =>
    rw [e] at h
    simp only [cond_false] at h
    cases hd:dn n c G P L[k] m.2.1 m.2.2.1 m.2.2.2 with
    | none=>rw [hd] at h; cases h
    | some y =>
     rw [hd] at h
     simp only [Option.map_some,Option.some.injEq] at h
     refine zgo (z7 (fun e'=>by cases e') (fun _=>z0 ?_))
     show Ans _ _
     refine z7 (fun hx=>by cases hx) (fun _=>?_)
     have ed:=zxi n c.Sign_ c.Regs_ c.Slots_ L c rfl rfl rfl G P L[k] m.2.1 m.2.2.1 m.2.2.2 (IntKind.i64.wrap (w+y12))
     rw [hd] at ed
     refine z8 (fun (z:Ten)=>z=(y.1,y.2.1,y.2.2.1,L,y.2.2.2.2.1,y.2.2.2.2.2.1,y.2.2.2.2.2.2.1,y.2.2.2.2.2.2.2.1,y.2.2.2.2.2.2.2.2.1,IntKind.i64.wrap (w+y12))) ⟨_,ed,rfl⟩ (fun (y14:Ten) hy=>z0 ⟨IntKind.i64.wrap (w+y12),.inr (by rw [h12]),?_⟩)
     subst hy
     subst h
     obtain ⟨p1,p2,p3,p4,p5⟩:=zw7 hd
     show Bo.go (m.1,IntKind.i64.wrap ((k:Int)+1),y.1,y.2.1,y.2.2.1,L,y.2.2.2.2.1,y.2.2.2.2.2.1,y.2.2.2.2.2.2.1,y.2.2.2.2.2.2.2.1,y.2.2.2.2.2.2.2.2.1,IntKind.i64.wrap (w+y12))=_
     rw [ek,p1,p2,p3,p4,p5]
 ·have hh:¬ ((k:Nat):Int)<(L.length:Int):=by simpa using hh
  omega
theorem zfq (F:Fine c) {L:List Xd} {Sl:List Xh} (hL:L.length≤1000000) (hf:∀ i ∈ L,fits c i=true):∀ (j k f:Nat) (m m':MSt) (w:Int),k+j=L.length→j<f→runM n c G P (L.drop k) m=some m'→0≤m.1→m.1≤k →
  0≤w→w≤4096 * k→∃ w',iter (fun s=>(z5c n ((⟨z1g c L,Sl⟩:Xi),G,P) () s).run) f (stOf c L G P m (k:Int) w)=some (.out (stOf c L G P m' (L.length:Int) w'))∧w'≤w+totR (z1q c) (L.drop k)
 | 0,k,f+1,m,m',w,hk,_,h,_,_,_,_=>by
  obtain rfl:k=L.length:=by omega
  rw [List.drop_length] at h
  obtain rfl:m=m':=Option.some.inj h
  refine ⟨w,?_,by rw [List.drop_length]; show w≤w+0; omega⟩
  unfold iter
  have e:(z5c n ((⟨z1g c L,Sl⟩:Xi),G,P) () (stOf c L G P m (L.length:Int) w)).run=some (.out (stOf c L G P m (L.length:Int) w)):=by
   have:Ans (z5c n ((⟨z1g c L,Sl⟩:Xi),G,P) () (stOf c L G P m (L.length:Int) w)) (fun b=>b = .out (stOf c L G P m (L.length:Int) w)):=by
    unfold z5c
    refine z7 (fun h=>?_) (fun _=>z0 rfl)
    have h:(L.length:Int)<(L.length:Int):=of_decide_eq_true h
    omega
   obtain ⟨b,e1,e2⟩:=this
   rw [e1,e2]
  rw [e]
 | j+1,k,f+1,m,m',w,hk,hj,h,h0,h1,hw0,hw1=>by
  have hkl:k<L.length:=by omega
  rw [List.drop_eq_getElem_cons hkl] at h
  have h:(z38 n c G P L[k] m).bind (runM n c G P (L.drop (k+1)))=some m':=h
  cases hs:z38 n c G P L[k] m with
  | none=>rw [hs] at h; cases h
  | some m1 =>
   rw [hs] at h
   obtain ⟨b,e1,w1,hw,e2⟩:=zq5 (w:=w) (Sl:=Sl) F hkl hL (hf _ (List.getElem_mem hkl)) hs h0 h1
   obtain ⟨b0,b1⟩:=y1f hs h0
   obtain ⟨q0,q1⟩:=ze7 (i:=L[k]) F.par F.reg
   have hw2:0≤w1∧w1≤w+z1q c L[k]:=by
    rcases hw with rfl | rfl
    ·omega
    ·rw [z9c (by omega) (by omega)]; omega
   obtain ⟨w',e3,e4⟩:=zfq F hL hf j (k+1) f m1 m' w1 (by omega) (by omega) h b0 (by omega) hw2.1 (by omega)
   refine ⟨w',?_,by rw [List.drop_eq_getElem_cons hkl]; show w'≤w+(z1q c L[k]+totR (z1q c) (L.drop (k+1))); omega⟩
   unfold iter
   rw [e1,e2]
   exact e3
end
section
variable {n:Nat} {c:Xe}
theorem t149 (hn:1000<n) (F:Fine c) (v:List (List Int)):Got ((k149 n).G (c.Sign_,v)) (fun (b:Bool)=>b=true→InOk c v):=by
 show Ans (zjw n (c.Sign_,v)) _
 unfold zjw
 have hnp:=F.npar
 refine z7 (fun _=>z0 fun h=>by cases h) (fun hl=>?_)
 have hl:v.length=c.Sign_.length:=by
  have:((v.length:Nat):Int)=c.Sign_.length:=by simpa using hl
  omega
 refine zgp (fun _=>InOk c v) (fun _=>True) ?_ (fun _ h=>z0 fun _=>h) (fun _ _=>z0 fun h=>by cases h)
 refine z25 c.Sign_.length (fun i (q:Int)=>q=i∧∀ (j:Nat) (p:Xa) (w:List Int),j<i→c.Sign_[j]? = some p→v[j]? = some w→((w.length:Nat):Int)=bif p.Kind_==2 then 2 * p.Len_ else p.Len_) (fun i (q:Int) hi hq=>?_) (fun (q:Int) hq=>?_) n (by omega) (0:Int) ⟨rfl,fun j p w hj=>by omega⟩
 ·show Ans (z9s n (c.Sign_,v) () q) _
  unfold z9s
  obtain ⟨q1,q2⟩:=hq
  refine z7 (fun _=>?_) (fun h=>?_)
  ·have hiv:i<v.length:=by omega
   refine zi (a:=v[i]'hiv) (by rw [q1]; exact z13 hiv) ?_
   refine zi (a:=c.Sign_[i]) (by rw [q1]; exact z13 hi) ?_
   refine z8 (fun (y:Int)=>y=numP c.Sign_[i]) ⟨_,zr4 c.Sign_[i] (by omega),rfl⟩ (fun (y3:Int) h3=>?_)
   refine z7 (fun _=>z0 True.intro) (fun h=>z0 ⟨?_,fun j p w hj h1 h2=>?_⟩)
   ·show IntKind.i64.wrap (q+1)=_
    rw [q1,z15 (by omega)]
   ·by_cases hji:j=i
    ·subst hji
     rw [List.getElem?_eq_getElem hi] at h1
     rw [List.getElem?_eq_getElem hiv] at h2
     cases h1; cases h2
     have h:(((v[j]'hiv).length:Nat):Int)=y3:=by simpa using h
     rw [h,h3]
     have hp:=F.par _ (List.getElem_mem hi)
     unfold numP
     rw [hp]
     unfold mayP at hp
     simp only [Bool.and_eq_true,decide_eq_true_eq] at hp
     simp only [cond_true]
     rw [z1w (by omega) (by omega)]
    ·exact q2 j p w (by omega) h1 h2
  ·have h:¬ q<(c.Sign_.length:Int):=of_decide_eq_false h
   omega
 ·show Ans (z9s n (c.Sign_,v) () q) _
  unfold z9s
  obtain ⟨q1,q2⟩:=hq
  refine z7 (fun h=>?_) (fun _=>z0 ⟨hl,fun j p w h1 h2=>q2 j p w ?_ h1 h2⟩)
  ·have h:q<(c.Sign_.length:Int):=of_decide_eq_true h
   omega
  ·by_cases h:j<c.Sign_.length
   ·exact h
   ·rw [List.getElem?_eq_none (by omega)] at h1; cases h1
structure zbw (c:Xe) (i:Nat) (S:List Xh):Prop where
 len:S.length=i
 ok:∀ (j:Nat) (z:Xc) (x:Xh),c.Slots_[j]? = some z→S[j]? = some x→z2e c z.Type_ x.Nums_
theorem zbw.add {i:Nat} {S:List Xh} (h:zbw c i S) {x:Xh} {z:Xc} (hz:c.Slots_[i]? = some z) (hx:z2e c z.Type_ x.Nums_):zbw c (i+1) (S++[x]):=by
 refine ⟨by rw [List.length_append,h.len]; rfl,fun j z' x' h1 h2=>?_⟩
 by_cases hj:j<i
 ·rw [List.getElem?_append_left (by rw [h.len]; exact hj)] at h2
  exact h.ok j z' x' h1 h2
 ·by_cases hji:j=i
  ·subst hji
   rw [List.getElem?_append_right (by rw [h.len]; exact Nat.le_refl _),h.len,Nat.sub_self] at h2
   rw [hz] at h1
   cases h1; cases h2; exact hx
  ·rw [List.getElem?_eq_none (by rw [List.length_append,h.len]; show i+1≤j; omega)] at h2; cases h2
theorem zq4 (hn:100000<n) (F:Fine c) {Sl:List Xh} (hS:z2k c Sl) (L:List Xd) (G P:List (List Int)) :
  Got (iter (fun q=>(z5a n ((⟨z1g c L,Sl⟩:Xi),G,P) () q).run) n (0,[])) (fun b=>match b with | .out (y:Int×List Xh)=>z2k c y.2 | _=>False):=by
 have hns:=F.nslo
 refine z25 c.Slots_.length (fun i (q:Int×List Xh)=>q.1=i∧zbw c i q.2) (fun i (q:Int×List Xh) hi hq=>?_) (fun (q:Int×List Xh) hq=>?_) n (by omega) (0,[]) ⟨rfl,rfl,fun j z x _ h=>by cases h⟩
 ·show Ans (z5a n ((⟨z1g c L,Sl⟩:Xi),G,P) () q) _
  unfold z5a
  obtain ⟨q1,q2⟩:=hq
  have ew:IntKind.i64.wrap (q.1+1)=((i+1:Nat):Int):=by rw [q1,z15 (by omega)]
  have hz:=List.getElem?_eq_getElem hi
  have e1:idx c.Slots_ q.1=some c.Slots_[i]:=by rw [q1]; exact z13 hi
  have hq2:=q2.len
  refine z7 (fun _=>?_) (fun h=>?_)
  ·refine zi e1 (z7 (fun _=>?_) (fun _=>?_))
   ·have hi2:i<Sl.length:=by rw [hS.len]; exact hi
    refine zi (a:=Sl[i]) (by rw [q1]; exact z13 hi2) (zl (by simp; omega) (z0 ⟨ew,q2.add hz (hS.ok i _ _ hz (List.getElem?_eq_getElem hi2))⟩))
   ·refine zi e1 (z8 (fun (y:List Int×Int)=>z2e c c.Slots_[i].Type_ y.1) (t133 (c:=z1g c L) hn F.par (F.slo _ (List.getElem_mem hi))) (fun (y6:List Int×Int) h6=>zl (by simp; omega) (z0 ⟨ew,q2.add hz h6⟩)))
  ·have h:¬ q.1<(c.Slots_.length:Int):=of_decide_eq_false h
   omega
 ·show Ans (z5a n ((⟨z1g c L,Sl⟩:Xi),G,P) () q) _
  unfold z5a
  obtain ⟨q1,q2⟩:=hq
  refine z7 (fun h=>?_) (fun _=>z0 ⟨q2.len,q2.ok⟩)
  have h:q.1<(c.Slots_.length:Int):=of_decide_eq_true h
  omega
theorem zws (hn:100000<n) (F:Fine c) (L:List Xd) :
  Got (iter (fun q=>(z59 n (z1g c L) () q).run) n (0,[])) (fun b=>match b with | .out (y:Int×List Xh)=>z2k c y.2 | _=>False):=by
 have hns:=F.nslo
 refine z25 c.Slots_.length (fun i (q:Int×List Xh)=>q.1=i∧zbw c i q.2) (fun i (q:Int×List Xh) hi hq=>?_) (fun (q:Int×List Xh) hq=>?_) n (by omega) (0,[]) ⟨rfl,rfl,fun j z x _ h=>by cases h⟩
 ·show Ans (z59 n (z1g c L) () q) _
  unfold z59
  obtain ⟨q1,q2⟩:=hq
  have ew:IntKind.i64.wrap (q.1+1)=((i+1:Nat):Int):=by rw [q1,z15 (by omega)]
  have hz:=List.getElem?_eq_getElem hi
  have e1:idx c.Slots_ q.1=some c.Slots_[i]:=by rw [q1]; exact z13 hi
  have hq2:=q2.len
  refine z7 (fun _=>?_) (fun h=>?_)
  ·refine zi e1 (z8 (fun (y:List Int×Int)=>z2e c c.Slots_[i].Type_ y.1) (t133 (c:=z1g c L) hn F.par (F.slo _ (List.getElem_mem hi))) (fun (y6:List Int×Int) h6=>zl (by simp; omega) (z0 ⟨ew,q2.add hz h6⟩)))
  ·have h:¬ q.1<(c.Slots_.length:Int):=of_decide_eq_false h
   omega
 ·show Ans (z59 n (z1g c L) () q) _
  unfold z59
  obtain ⟨q1,q2⟩:=hq
  refine z7 (fun h=>?_) (fun _=>z0 ⟨q2.len,q2.ok⟩)
  have h:q.1<(c.Slots_.length:Int):=of_decide_eq_true h
  omega
theorem zwv (hn:100000<n) (F:Fine c) (L:List Xd) {Sl S0:List Xh} (G P:List (List Int)) :
  Got (iter (fun q=>(z5b n ((⟨z1g c L,Sl⟩:Xi),G,P) S0 q).run) n (0,[])) (fun b=>match b with | .out (y:Int×List (List Int))=>z8j c y.2 | _=>False):=by
 have hnp:=F.npar
 refine z25 c.Sign_.length (fun i (q:Int×List (List Int))=>q.1=i∧q.2.length=2 * i∧∀ (j:Nat) (p:Xa) (e:Nat) (l:List Int),c.Sign_[j]? = some p→e<2→q.2[2 * j+e]? = some l→((l.length:Nat):Int)=p.Len_) (fun i (q:Int×List (List Int)) hi hq=>?_) (fun (q:Int×List (List Int)) hq=>?_) n (by omega) (0,[]) ⟨rfl,rfl,fun j p e l _ _ h=>by cases h⟩
 ·show Ans (z5b n ((⟨z1g c L,Sl⟩:Xi),G,P) S0 q) _
  unfold z5b
  obtain ⟨q1,q2,q3⟩:=hq
  have ew:IntKind.i64.wrap (q.1+1)=((i+1:Nat):Int):=by rw [q1,z15 (by omega)]
  have hp:=F.par _ (List.getElem_mem hi)
  unfold mayP at hp
  simp only [Bool.and_eq_true,decide_eq_true_eq] at hp
  refine z7 (fun _=>?_) (fun h=>?_)
  ·refine zi (a:=c.Sign_[i]) (by rw [q1]; exact z13 hi) ?_
   refine z8 (fun (y:Int×List Int)=>y.1=0∧((y.2.length:Nat):Int)=c.Sign_[i].Len_) (t135 hn (by omega) (by omega)) (fun (y9:Int×List Int) h9=>zl (by simp; omega) (z0 ⟨ew,?_,fun j p e l h1 h2 h3=>?_⟩))
   ·show (q.2++[y9.2,y9.2]).length=_
    rw [List.length_append,q2]; simp; omega
   ·have h3:(q.2++[y9.2,y9.2])[2 * j+e]? = some l:=h3
    by_cases hj:2 * j+e<q.2.length
    ·rw [List.getElem?_append_left hj] at h3
     exact q3 j p e l h1 h2 h3
    ·rw [List.getElem?_append_right (by omega)] at h3
     have hji:j=i:=by
      have:2 * j+e - q.2.length<2:=by
       by_cases q:2 * j+e - q.2.length<2
       ·exact q
       ·rw [List.getElem?_eq_none (by simp; omega)] at h3; cases h3
      omega
     subst hji
     rw [List.getElem?_eq_getElem hi] at h1
     cases h1
     have hm:=List.mem_of_getElem? h3
     simp only [List.mem_cons,List.not_mem_nil,or_false,or_self] at hm
     rw [hm]; exact h9.2
  ·have h:¬ q.1<(c.Sign_.length:Int):=of_decide_eq_false h
   omega
 ·show Ans (z5b n ((⟨z1g c L,Sl⟩:Xi),G,P) S0 q) _
  unfold z5b
  obtain ⟨q1,q2,q3⟩:=hq
  refine z7 (fun h=>?_) (fun _=>z0 ⟨q2,q3⟩)
  have h:q.1<(c.Sign_.length:Int):=of_decide_eq_true h
  omega
end
section
variable {n:Nat} {c:Xe}
def Bd (K N:Nat) (u:List (List Int)):Prop:=u.length≤K∧∀ l ∈ u,l.length≤N
theorem Bd.add {K N:Nat} {u:List (List Int)} {l:List Int} (h:Bd K N u) (hl:l.length≤N):Bd (K+1) N (u++[l]) :=
 ⟨by simp; exact h.1,fun x hx=>by
  rcases List.mem_append.1 hx with hx | hx
  ·exact h.2 x hx
  ·rw [List.mem_singleton.1 hx]; exact hl⟩
theorem yae (F:Fine c) {S:List Xh} (hS:z2k c S) {k:Nat} {x:Xh} (h:S[k]? = some x):x.Nums_.length≤4096:=by
 have hk:k<c.Slots_.length:=by
  rw [← hS.len]
  by_cases q:k<S.length
  ·exact q
  ·rw [List.getElem?_eq_none (by omega)] at h; cases h
 have hz:=List.getElem?_eq_getElem hk
 rcases hS.ok k _ x hz h with ⟨_,h⟩ | h
 ·exact h
 ·have:=(z4d F.par (F.slo _ (List.getElem_mem hk))).2.1
  omega
theorem t155 (hn:100000<n) (F:Fine c) {f:Xj} (hf:f.C_.Sign_=c.Sign_) (hO:z8j c f.Out_):Got ((k155 n).G f) (fun (y:List (List Int))=>Bd 64 8192 y):=by
 show Ans (zk0 n f) _
 unfold zk0
 have hnp:=F.npar
 refine z1t rfl (fun (q:Int×List (List Int))=>Bd 64 8192 q.2) ?_ (fun (y:Int×List (List Int)) hy=>z0 hy)
 refine z25 c.Sign_.length (fun i (q:Int×List (List Int))=>q.1=i∧Bd i 8192 q.2) (fun i (q:Int×List (List Int)) hi hq=>?_) (fun (q:Int×List (List Int)) hq=>?_) n (by omega) (0,[]) ⟨rfl,Nat.le_refl _,fun l h=>by cases h⟩
 ·show Ans (z9t n f () q) _
  unfold z9t
  obtain ⟨q1,q2⟩:=hq
  have hq2:=q2.1
  have hp:=F.par _ (List.getElem_mem hi)
  unfold mayP at hp
  simp only [Bool.and_eq_true,decide_eq_true_eq] at hp
  obtain ⟨l0,a0,b0⟩:=z31 (l:=f.Out_) (k:=((2 * i:Nat):Int)) (by rw [hO.len]; omega)
  obtain ⟨l1,a1,b1⟩:=z31 (l:=f.Out_) (k:=((2 * i+1:Nat):Int)) (by rw [hO.len]; omega)
  rw [Int.toNat_natCast] at b0 b1
  have hz:=List.getElem?_eq_getElem hi
  have n0:=hO.ok i _ 0 l0 hz (by omega) b0
  have n1:=hO.ok i _ 1 l1 hz (by omega) b1
  have w0:IntKind.i64.wrap (2 * q.1)=((2 * i:Nat):Int):=by rw [q1,z1w (by omega) (by omega)]; omega
  have w1:IntKind.i64.wrap (IntKind.i64.wrap (2 * q.1)+1)=((2 * i+1:Nat):Int):=by rw [w0,z15 (by omega)]
  refine z7 (fun _=>?_) (fun h=>?_)
  ·refine zi (a:=c.Sign_[i]) (by rw [hf,q1]; exact z13 hi) ?_
   refine z1t rfl (fun (r:Int×List Int)=>r.2.length≤8192) ?_ (fun (y6:Int×List Int) h6=>zl (by simp; omega) (z0 ⟨?_,q2.add h6⟩))
   ·refine z25 l0.length (fun j (r:Int×List Int)=>r.1=j∧r.2.length≤2 * j) (fun j (r:Int×List Int) hj hr=>?_) (fun (r:Int×List Int) hr=>?_) n (by omega) (0,[]) ⟨rfl,Nat.le_refl _⟩
    ·show Ans (z9u n f () q (c.Sign_[i].Name_,c.Sign_[i].Kind_,c.Sign_[i].Len_) r) _
     unfold z9u
     obtain ⟨r1,r2⟩:=hr
     have ew:IntKind.i64.wrap (r.1+1)=((j+1:Nat):Int):=by rw [r1,z15 (by omega)]
     refine z7 (fun _=>?_) (fun h=>?_)
     ·refine zi (a:=l0) (by rw [w0]; exact a0) (zi (a:=l0[j]) (by rw [r1]; exact z13 hj) (zl (by simp; omega) (z7 (fun _=>?_) (fun _=>z0 ⟨ew,by simp; omega⟩))))
      have hj1:j<l1.length:=by omega
      exact zi (a:=l1) (by rw [w1]; exact a1) (zi (a:=l1[j]) (by rw [r1]; exact z13 hj1) (zl (by simp; omega) (z0 ⟨ew,by simp; omega⟩)))
     ·have h:¬ r.1<c.Sign_[i].Len_:=of_decide_eq_false h
      omega
    ·show Ans (z9u n f () q (c.Sign_[i].Name_,c.Sign_[i].Kind_,c.Sign_[i].Len_) r) _
     unfold z9u
     obtain ⟨r1,r2⟩:=hr
     refine z7 (fun h=>?_) (fun _=>z0 ?_)
     ·have h:r.1<c.Sign_[i].Len_:=of_decide_eq_true h
      omega
     ·show r.2.length≤8192
      omega
   ·show IntKind.i64.wrap (q.1+1)=_
    rw [q1,z15 (by omega)]
  ·have h:¬ q.1<(f.C_.Sign_.length:Int):=of_decide_eq_false h
   rw [hf] at h
   omega
 ·show Ans (z9t n f () q) _
  unfold z9t
  obtain ⟨q1,q2⟩:=hq
  refine z7 (fun h=>?_) (fun _=>z0 ⟨show q.2.length≤64 by have:=q2.1; omega,q2.2⟩)
  have h:q.1<(f.C_.Sign_.length:Int):=of_decide_eq_true h
  rw [hf] at h
  omega
end
abbrev y7f:Type:=(List (List Int))×Int×Int×(List Xa)×(List Xb)×(List Xc)×(List Xd)×(List Xh)
section
variable {n:Nat} {c:Xe}
theorem inv0 {O:List (List Int)} {S:List Xh} (hS:z2k c S) (hO:z8j c O):Inv c (z6g c) [] ((0:Int),List.replicate ((c.Regs_.length:Int)).toNat ⟨[],0⟩,S,O):=by
 refine ⟨Int.le_refl _,fun _=>⟨by simp,fun j t x _ _ h=>?_⟩,(fun j x h=>by cases h),hS,hO⟩
 have:((z6g c)[j]?).getD false=false:=by
  unfold z6g
  rw [List.getElem?_replicate]
  split <;> rfl
 rw [this] at h; cases h
theorem zx6 (hn:100000<n) (F:Fine c) {Sl:List Xh} (hS:z2k c Sl) (G P:List (List Int)) {L0:List Xd} {r0:List Bool×List Xg} (h0:goR c L0 0 (z6g c) [] = .inr r0) :
  ∃ (u:List (List Int)) (e:Int) (S':List Xh),Bd 5000 10000 u∧z2k c S'∧∀ L,L.length≤40000→bare L=bare L0→(∃ r,goR c L 0 (z6g c) [] = .inr r) →
   Got ((k148 n).G ((⟨z1g c L,Sl⟩:Xi),G,P)) (fun (y:y7f)=>∃ w,y=(u,e,w,c.Sign_,c.Regs_,c.Slots_,L,S')∧w≤totR (z1q c) L):=by
 obtain ⟨b1,e1,hf1⟩:=t149 (by omega) F G (n:=n)
 obtain ⟨b2,e2,hf2⟩:=t149 (by omega) F P (n:=n)
 have hnr:=F.nreg
 by_cases hb:b1=true∧b2=true
 ·obtain ⟨hb1,hb2⟩:=hb
  have hG:=hf1 hb1
  have hP:=hf2 hb2
  obtain ⟨bs,es,hs0⟩:=zq4 hn F hS [] G P
  cases bs with
  | go s=>exact hs0.elim
  | ret z=>exact hs0.elim
  | out y7 =>
  have hs0:z2k c y7.2:=hs0
  obtain ⟨bo,eo,ho0⟩:=zwv hn F [] (Sl:=Sl) (S0:=y7.2) G P
  cases bo with
  | go s=>exact ho0.elim
  | ret z=>exact ho0.elim
  | out y10 =>
  have ho0:z8j c y10.2:=ho0
  obtain ⟨m',em,hm1,hm2⟩:=zp1 hn F hG hP L0 0 _ _ r0 _ h0 (inv0 hs0 ho0)
  obtain ⟨u,eu,hu⟩:=t155 hn F (f:=⟨⟨c.Sign_,[],[],[]⟩,[],[],m'.2.2.2,[],[],0⟩) rfl hm2
  refine ⟨u,0,m'.2.2.1,⟨by have:=hu.1; omega,fun l hl=>by have:=hu.2 l hl; omega⟩,hm1,fun L hL hB hg=>?_⟩
  obtain ⟨r,hg⟩:=hg
  have em2:runM n c G P L ((0:Int),List.replicate ((c.Regs_.length:Int)).toNat ⟨[],0⟩,y7.2,y10.2)=some m':=by
   rw [← z97,hB,z97]; exact em
  obtain ⟨w',e3,e4⟩:=zfq (n:=n) (G:=G) (P:=P) (Sl:=Sl) F (L:=L) (by omega) (zdz c _ _ _ _ _ hg) L.length 0 n _ m' 0 (by omega) (by omega) (by rw [List.drop_zero]; exact em2) (Int.le_refl _) (Int.le_refl _) (Int.le_refl _) (Int.le_refl _)
  rw [List.drop_zero,Int.zero_add] at e4
  show Ans (z9r n ((⟨z1g c L,Sl⟩:Xi),G,P)) _
  unfold z9r
  refine zj (fun (s:Bool)=>s=false) ?_ (fun (s:Bool) hs=>?_)
  ·refine z8 (fun (b:Bool)=>b=true) ⟨b1,e1,hb1⟩ (fun (y1:Bool) h1=>?_)
   subst h1
   refine z7 (fun h=>by cases h) (fun _=>?_)
   refine z8 (fun (b:Bool)=>b=true) ⟨b2,e2,hb2⟩ (fun (y2:Bool) h2=>z0 ?_)
   subst h2; rfl
  subst hs
  refine z7 (fun h=>by cases h) (fun _=>zl ⟨by omega,by show ((c.Regs_.length:Int)) * 32≤_; omega⟩ ?_)
  have es2:iter (fun q=>(z5a n ((⟨z1g c L,Sl⟩:Xi),G,P) () q).run) n (0,[])=iter (fun q=>(z5a n ((⟨z1g c [],Sl⟩:Xi),G,P) () q).run) n (0,[]):=by kernel_rfl
  refine z1t rfl (fun (y:Int×List Xh)=>y=y7) ⟨.out y7,es2.trans es,rfl⟩ (fun (y:Int×List Xh) hy=>?_)
  subst hy
  have eo2:iter (fun q=>(z5b n ((⟨z1g c L,Sl⟩:Xi),G,P) y.2 q).run) n (0,[])=iter (fun q=>(z5b n ((⟨z1g c [],Sl⟩:Xi),G,P) y.2 q).run) n (0,[]):=by kernel_rfl
  refine z1t rfl (fun (z:Int×List (List Int))=>z=y10) ⟨.out y10,eo2.trans eo,rfl⟩ (fun (z:Int×List (List Int)) hz=>?_)
  subst hz
  refine z1t rfl (fun (st:St12)=>st=stOf c L G P m' (L.length:Int) w') ⟨.out _,e3,rfl⟩ (fun (st:St12) hst=>?_)
  subst hst
  have eu2:(k155 n).G (⟨z1g c L,m'.2.1,m'.2.2.1,m'.2.2.2,G,P,w'⟩:Xj)=(k155 n).G (⟨⟨c.Sign_,[],[],[]⟩,[],[],m'.2.2.2,[],[],0⟩:Xj):=by kernel_rfl
  exact z8 (fun (v:List (List Int))=>v=u) ⟨u,eu2.trans eu,rfl⟩ (fun (v:List (List Int)) hv=>z0 ⟨w',by subst hv; rfl,e4⟩)
 ·refine ⟨[],170,Sl,⟨by simp,fun l h=>by cases h⟩,hS,fun L hL hB hg=>?_⟩
  show Ans (z9r n ((⟨z1g c L,Sl⟩:Xi),G,P)) _
  unfold z9r
  refine zj (fun (s:Bool)=>s=true) ?_ (fun (s:Bool) hs=>?_)
  ·refine z8 (fun (b:Bool)=>b=b1) ⟨b1,e1,rfl⟩ (fun (y1:Bool) h1=>?_)
   refine z7 (fun _=>z0 rfl) (fun h=>?_)
   refine z8 (fun (b:Bool)=>b=b2) ⟨b2,e2,rfl⟩ (fun (y2:Bool) h2=>z0 ?_)
   show (!y2)=true
   subst h1 h2
   cases y1 with
   | false=>cases h
   | true =>
    cases y2 with
    | false=>rfl
    | true=>exact absurd ⟨rfl,rfl⟩ hb
  subst hs
  exact z7 (fun _=>z0 ⟨0,rfl,zvk (fun i=>(ze7 F.par F.reg).1) L⟩) (fun h=>by cases h)
abbrev ya5:Type:=(List (List Int))×Int×(List Xa)×(List Xb)×(List Xc)×(List Xd)×(List Xh)
theorem y6x (hn:100000<n) (F:Fine c):∃ S,z2k c S∧∀ L,(chk (z1g c L)).1=0→U32s (z1g c L)→(k132 n).G (z1g c L)=some ((0:Int),c.Sign_,c.Regs_,c.Slots_,L,S):=by
 obtain ⟨b,es,hs⟩:=zws hn F []
 cases b with
 | go s=>exact hs.elim
 | ret z=>exact hs.elim
 | out y =>
 refine ⟨y.2,hs,fun L hc hu=>?_⟩
 have:Ans (zf0 n (z1g c L)) (fun z=>z=((0:Int),c.Sign_,c.Regs_,c.Slots_,L,y.2)):=by
  unfold zf0
  refine z8 (fun (z:Yaa)=>z=chk (z1g c L)) ⟨_,(ziu hn hu.1 hu.2).2,rfl⟩ (fun (y1:Yaa) h1=>?_)
  refine z7 (fun h=>?_) (fun _=>?_)
  ·rw [h1] at h
   rw [hc] at h
   simp at h
  have es2:iter (fun q=>(z59 n (z1g c L) () q).run) n (0,[])=iter (fun q=>(z59 n (z1g c []) () q).run) n (0,[]):=by kernel_rfl
  refine z1t rfl (fun (z:Int×List Xh)=>z=y) ⟨.out y,es2.trans es,rfl⟩ (fun (z:Int×List Xh) hz=>?_)
  subst hz
  exact z0 rfl
 obtain ⟨z,e1,e2⟩:=this
 rw [← e2]; exact e1
end
theorem y0l {c:Xe} (h:(chk c).1=0):Fine c:=by
 obtain ⟨q0,q1,q2,q3,q4,q5,r,q6,q7⟩:=zbz h
 simp only [decide_eq_false_iff_not] at q1 q2 q3
 have hs:sgn c.Sign_=0:=by simpa using q0
 have hsg:c.Sign_.length≤64∧∀ p ∈ c.Sign_,mayP p=true:=by
  unfold sgn at hs
  cases h1:decide ((c.Sign_.length:Int) > 64) with
  | true=>rw [h1] at hs; cases hs
  | false =>
   rw [h1] at hs
   simp only [decide_eq_false_iff_not] at h1
   cases h2:c.Sign_.all mayP with
   | false=>rw [h2] at hs; cases hs
   | true=>exact ⟨by omega,List.all_eq_true.1 h2⟩
 refine ⟨hsg.2,List.all_eq_true.1 q4,fun z hz=>?_,by omega,by omega,hsg.1⟩
 have:=List.all_eq_true.1 q5 z hz
 unfold mayS at this
 simp only [Bool.and_eq_true] at this
 exact this.1
abbrev y01:Ty:=.str
def y00 (R:Nat→Nat→Prop) (x:ByteArray):Prop:=R x.size 1
theorem y9h {R:Nat→Nat→Prop} {cs:List AV} (h:OfTy R y01 cs):∃ x:ByteArray,y00 R x∧[.sc (.string x)]=cs:=by
 obtain ⟨b,rfl,h⟩:=h
 exact ⟨b,h,rfl⟩
abbrev z4y:Ty:=.int .i64
def z4x (_:Nat→Nat→Prop) (x:Int):Prop:=(Lit.int .i64 x).wf=true
theorem z5u {R:Nat→Nat→Prop} {cs:List AV} (h:OfTy R z4y cs):∃ x:Int,z4x R x∧[.sc (.int .i64 x)]=cs:=by
 obtain ⟨n,rfl,h⟩:=h
 exact ⟨n,h,rfl⟩
abbrev zbt:Ty:=.st (.cons y01 (.cons z4y (.cons z4y (.nil))))
structure zbp (R:Nat→Nat→Prop) (x:Xa):Prop where
 Name_:y00 R x.Name_
 Kind_:z4x R x.Kind_
 Len_:z4x R x.Len_
theorem zi5 {R:Nat→Nat→Prop} {cs:List AV} (h:OfTy R zbt cs):∃ x:Xa,zbp R x∧(c1 false) x=cs:=by
 obtain ⟨_,_,rfl,h0,h⟩:=h
 obtain ⟨_,_,rfl,h1,h⟩:=h
 obtain ⟨_,_,rfl,h2,h⟩:=h
 obtain rfl:=h
 obtain ⟨x0,w0,rfl⟩:=y9h h0
 obtain ⟨x1,w1,rfl⟩:=z5u h1
 obtain ⟨x2,w2,rfl⟩:=z5u h2
 exact ⟨⟨x0,x1,x2⟩,⟨w0,w1,w2⟩,rfl⟩
abbrev zae:Ty:=.sl 3 32 zbt
def zad (R:Nat→Nat→Prop) (x:List Xa):Prop:=R x.length 32∧∀ y ∈ x,zbp R y
theorem zgh {R:Nat→Nat→Prop} {cs:List AV} (h:OfTy R zae cs):∃ x:List Xa,zad R x∧[.im 3 (x.map (c1 false))]=cs:=by
 obtain ⟨xs,rfl,h1,h2⟩:=h
 obtain ⟨ys,h3,rfl⟩:=z46 (c:=(c1 false)) (fun _ h=>zi5 h) h1
 exact ⟨ys,⟨by simpa using h2,h3⟩,rfl⟩
abbrev z8h:Ty:=.st (.cons z4y (.cons z4y (.nil)))
structure z8g (R:Nat→Nat→Prop) (x:Xb):Prop where
 Kind_:z4x R x.Kind_
 Param_:z4x R x.Param_
theorem zcg {R:Nat→Nat→Prop} {cs:List AV} (h:OfTy R z8h cs):∃ x:Xb,z8g R x∧(c2 false) x=cs:=by
 obtain ⟨_,_,rfl,h0,h⟩:=h
 obtain ⟨_,_,rfl,h1,h⟩:=h
 obtain rfl:=h
 obtain ⟨x0,w0,rfl⟩:=z5u h0
 obtain ⟨x1,w1,rfl⟩:=z5u h1
 exact ⟨⟨x0,x1⟩,⟨w0,w1⟩,rfl⟩
abbrev zbs:Ty:=.sl 2 16 z8h
def zbo (R:Nat→Nat→Prop) (x:List Xb):Prop:=R x.length 16∧∀ y ∈ x,z8g R y
theorem zi4 {R:Nat→Nat→Prop} {cs:List AV} (h:OfTy R zbs cs):∃ x:List Xb,zbo R x∧[.im 2 (x.map (c2 false))]=cs:=by
 obtain ⟨xs,rfl,h1,h2⟩:=h
 obtain ⟨ys,h3,rfl⟩:=z46 (c:=(c2 false)) (fun _ h=>zcg h) h1
 exact ⟨ys,⟨by simpa using h2,h3⟩,rfl⟩
abbrev zvp:Ty:=.bool
def zvn (_:Nat→Nat→Prop) (x:Bool):Prop:=True
theorem y72 {R:Nat→Nat→Prop} {cs:List AV} (h:OfTy R zvp cs):∃ x:Bool,zvn R x∧[.sc (.bool x)]=cs:=by
 obtain ⟨b,rfl⟩:=h
 exact ⟨b,trivial,rfl⟩
abbrev zig:Ty:=.int .u32
def zg0 (_:Nat→Nat→Prop) (x:Int):Prop:=(Lit.int .u32 x).wf=true
theorem zpw {R:Nat→Nat→Prop} {cs:List AV} (h:OfTy R zig cs):∃ x:Int,zg0 R x∧[.sc (.int .u32 x)]=cs:=by
 obtain ⟨n,rfl,h⟩:=h
 exact ⟨n,h,rfl⟩
abbrev zcq:Ty:=.st (.cons z8h (.cons zvp (.cons zig (.cons z4y (.nil)))))
structure zco (R:Nat→Nat→Prop) (x:Xc):Prop where
 Type_:z8g R x.Type_
 Keep_:zvn R x.Keep_
 Bits_:zg0 R x.Bits_
 Int_:z4x R x.Int_
theorem zlj {R:Nat→Nat→Prop} {cs:List AV} (h:OfTy R zcq cs):∃ x:Xc,zco R x∧(c3 false) x=cs:=by
 obtain ⟨_,_,rfl,h0,h⟩:=h
 obtain ⟨_,_,rfl,h1,h⟩:=h
 obtain ⟨_,_,rfl,h2,h⟩:=h
 obtain ⟨_,_,rfl,h3,h⟩:=h
 obtain rfl:=h
 obtain ⟨x0,w0,rfl⟩:=zcg h0
 obtain ⟨x1,w1,rfl⟩:=y72 h1
 obtain ⟨x2,w2,rfl⟩:=zpw h2
 obtain ⟨x3,w3,rfl⟩:=z5u h3
 exact ⟨⟨x0,x1,x2,x3⟩,⟨w0,w1,w2,w3⟩,rfl⟩
abbrev zbr:Ty:=.sl 5 32 zcq
def zbn (R:Nat→Nat→Prop) (x:List Xc):Prop:=R x.length 32∧∀ y ∈ x,zco R y
theorem zi3 {R:Nat→Nat→Prop} {cs:List AV} (h:OfTy R zbr cs):∃ x:List Xc,zbn R x∧[.im 5 (x.map (c3 false))]=cs:=by
 obtain ⟨xs,rfl,h1,h2⟩:=h
 obtain ⟨ys,h3,rfl⟩:=z46 (c:=(c3 false)) (fun _ h=>zlj h) h1
 exact ⟨ys,⟨by simpa using h2,h3⟩,rfl⟩
abbrev zcp:Ty:=.st (.cons z4y (.cons z4y (.cons z4y (.cons z4y (.cons z4y (.cons z4y (.cons zig (.nil))))))))
structure zcn (R:Nat→Nat→Prop) (x:Xd):Prop where
 Op_:z4x R x.Op_
 D_:z4x R x.D_
 A_:z4x R x.A_
 B_:z4x R x.B_
 C_:z4x R x.C_
 N_:z4x R x.N_
 Bits_:zg0 R x.Bits_
theorem zli {R:Nat→Nat→Prop} {cs:List AV} (h:OfTy R zcp cs):∃ x:Xd,zcn R x∧(c4 false) x=cs:=by
 obtain ⟨_,_,rfl,h0,h⟩:=h
 obtain ⟨_,_,rfl,h1,h⟩:=h
 obtain ⟨_,_,rfl,h2,h⟩:=h
 obtain ⟨_,_,rfl,h3,h⟩:=h
 obtain ⟨_,_,rfl,h4,h⟩:=h
 obtain ⟨_,_,rfl,h5,h⟩:=h
 obtain ⟨_,_,rfl,h6,h⟩:=h
 obtain rfl:=h
 obtain ⟨x0,w0,rfl⟩:=z5u h0
 obtain ⟨x1,w1,rfl⟩:=z5u h1
 obtain ⟨x2,w2,rfl⟩:=z5u h2
 obtain ⟨x3,w3,rfl⟩:=z5u h3
 obtain ⟨x4,w4,rfl⟩:=z5u h4
 obtain ⟨x5,w5,rfl⟩:=z5u h5
 obtain ⟨x6,w6,rfl⟩:=zpw h6
 exact ⟨⟨x0,x1,x2,x3,x4,x5,x6⟩,⟨w0,w1,w2,w3,w4,w5,w6⟩,rfl⟩
abbrev zbq:Ty:=.sl 7 56 zcp
def zbm (R:Nat→Nat→Prop) (x:List Xd):Prop:=R x.length 56∧∀ y ∈ x,zcn R y
theorem zi2 {R:Nat→Nat→Prop} {cs:List AV} (h:OfTy R zbq cs):∃ x:List Xd,zbm R x∧[.im 7 (x.map (c4 false))]=cs:=by
 obtain ⟨xs,rfl,h1,h2⟩:=h
 obtain ⟨ys,h3,rfl⟩:=z46 (c:=(c4 false)) (fun _ h=>zli h) h1
 exact ⟨ys,⟨by simpa using h2,h3⟩,rfl⟩
abbrev y_T_api_Code:Ty:=.st (.cons zae (.cons zbs (.cons zbr (.cons zbq (.nil)))))
structure z8f (R:Nat→Nat→Prop) (x:Xe):Prop where
 Sign_:zad R x.Sign_
 Regs_:zbo R x.Regs_
 Slots_:zbn R x.Slots_
 List_:zbm R x.List_
theorem r_T_api_Code {R:Nat→Nat→Prop} {cs:List AV} (h:OfTy R y_T_api_Code cs):∃ x:Xe,z8f R x∧(c13 false) x=cs:=by
 obtain ⟨_,_,rfl,h0,h⟩:=h
 obtain ⟨_,_,rfl,h1,h⟩:=h
 obtain ⟨_,_,rfl,h2,h⟩:=h
 obtain ⟨_,_,rfl,h3,h⟩:=h
 obtain rfl:=h
 obtain ⟨x0,w0,rfl⟩:=zgh h0
 obtain ⟨x1,w1,rfl⟩:=zi4 h1
 obtain ⟨x2,w2,rfl⟩:=zi3 h2
 obtain ⟨x3,w3,rfl⟩:=zi2 h3
 exact ⟨⟨x0,x1,x2,x3⟩,⟨w0,w1,w2,w3⟩,rfl⟩
abbrev zvo:Ty:=.sl 1 4 zig
def zvm (R:Nat→Nat→Prop) (x:List Int):Prop:=R x.length 4∧∀ y ∈ x,zg0 R y
theorem y71 {R:Nat→Nat→Prop} {cs:List AV} (h:OfTy R zvo cs):∃ x:List Int,zvm R x∧[.im 1 (x.map (c5 false))]=cs:=by
 obtain ⟨xs,rfl,h1,h2⟩:=h
 obtain ⟨ys,h3,rfl⟩:=z46 (c:=(c5 false)) (fun _ h=>zpw h) h1
 exact ⟨ys,⟨by simpa using h2,h3⟩,rfl⟩
abbrev zgm:Ty:=.sl 1 24 zvo
def zgl (R:Nat→Nat→Prop) (x:List (List Int)):Prop:=R x.length 24∧∀ y ∈ x,zvm R y
theorem zou {R:Nat→Nat→Prop} {cs:List AV} (h:OfTy R zgm cs):∃ x:List (List Int),zgl R x∧[.im 1 (x.map (c6 false))]=cs:=by
 obtain ⟨xs,rfl,h1,h2⟩:=h
 obtain ⟨ys,h3,rfl⟩:=z46 (c:=(c6 false)) (fun _ h=>y71 h) h1
 exact ⟨ys,⟨by simpa using h2,h3⟩,rfl⟩
abbrev z5y:Ty:=.st (.cons zgm (.cons zgm (.nil)))
structure z5x (R:Nat→Nat→Prop) (x:Xf):Prop where
 Grads_:zgl R x.Grads_
 Params_:zgl R x.Params_
theorem zbu {R:Nat→Nat→Prop} {cs:List AV} (h:OfTy R z5y cs):∃ x:Xf,z5x R x∧(c7 false) x=cs:=by
 obtain ⟨_,_,rfl,h0,h⟩:=h
 obtain ⟨_,_,rfl,h1,h⟩:=h
 obtain rfl:=h
 obtain ⟨x0,w0,rfl⟩:=zou h0
 obtain ⟨x1,w1,rfl⟩:=zou h1
 exact ⟨⟨x0,x1⟩,⟨w0,w1⟩,rfl⟩
abbrev y_LT_latheref20_Step:Ty:=.sl 2 48 z5y
def z5w (R:Nat→Nat→Prop) (x:List Xf):Prop:=R x.length 48∧∀ y ∈ x,z5x R y
theorem r_LT_latheref20_Step {R:Nat→Nat→Prop} {cs:List AV} (h:OfTy R y_LT_latheref20_Step cs):∃ x:List Xf,z5w R x∧[.im 2 (x.map (c7 false))]=cs:=by
 obtain ⟨xs,rfl,h1,h2⟩:=h
 obtain ⟨ys,h3,rfl⟩:=z46 (c:=(c7 false)) (fun _ h=>zbu h) h1
 exact ⟨ys,⟨by simpa using h2,h3⟩,rfl⟩
theorem zhy {α:Type} {w:α→Int} (h:∀ x,0≤w x∧w x≤4096):∀ (l:List α) (s:Int),0≤s→s+4096 * l.length≤4000000000000→sumR w s l=s+totR w l
 | [],s,_,_=>by show s=s+0; omega
 | x::l,s,h0,h1=>by
  obtain ⟨a,b⟩:=h x
  have h1:s+4096 * ((l.length+1:Nat):Int)≤4000000000000:=h1
  show sumR w (IntKind.i64.wrap (s+w x)) l=s+(w x+totR w l)
  rw [z9c (by omega) (by omega),zhy h l _ (by omega) (by omega)]
  omega
theorem y0z (c:Xe) (steps:List Xf) (hs:zp7 c) (hu:U32s c):f197 (fuel c) (c,steps)=some true:=by
 have hn:100000<fuel c:=by unfold fuel; omega
 have e:(⟨c.Sign_,c.Regs_,c.Slots_,c.List_⟩:Xe)=c:=rfl
 have hw:=y1i (n:=fuel c) (by omega)
 rw [y0g]
 dsimp only
 rw [y1g hs]
 simp only [Option.bind_some,e,y06 hn hu]
 cases hq:(chk c).1 != 0 with
 | true =>
  have q:zam c=(0,(chk c).1):=by unfold zam; rw [hq]; rfl
  rw [q]
  simp only [hq,cond_true,hw]
  rfl
 | false =>
  have q1:(chk c).1=0:=by simpa [bne] using hq
  have q:zam c=(sumR (z1q c) 0 c.List_,0):=by unfold zam; rw [hq]; rfl
  have F:=y0l q1
  obtain ⟨o1,o2,o3,o4,o5,o6,r,g1,g2⟩:=zbz q1
  simp only [decide_eq_false_iff_not] at o2 o3 o4
  have et:sumR (z1q c) 0 c.List_=totR (z1q c) c.List_:=by
   rw [zhy (w:=z1q c) (fun i=>ze7 F.par F.reg) c.List_ 0 (Int.le_refl _) (by omega)]; omega
  obtain ⟨S0,hS0,hnew⟩:=y6x hn F (c:=c)
  have hnew:f132 (fuel c) c=some ((0:Int),c.Sign_,c.Regs_,c.Slots_,c.List_,S0):=hnew c.List_ q1 hu
  rw [q]
  simp only [bne_self_eq_false,cond_false,hnew,Option.bind_some]
  have:Got (iter (zg8 (fuel c) (c,steps) (sumR (z1q c) 0 c.List_)) (fuel c) ((0:Int),c.Sign_,c.Regs_,c.Slots_,c.List_,S0)) (fun b=>match b with | .out _=>True | _=>False):=by
   refine z53 (fun k (q:Yak)=>∃ (i:Nat) (S:List Xh),q=((i:Int),c.Sign_,c.Regs_,c.Slots_,c.List_,S)∧z2k c S∧i+k=20) (fun k q hq=>?_) 20 (fuel c) _ ⟨0,S0,rfl,hS0,rfl⟩ (by omega)
   obtain ⟨i,S,hq,hS,hik⟩:=hq
   subst hq
   rw [zpg]
   dsimp only
   by_cases hi:i<steps.length∧i<20
   ·have d1:decide ((i:Int)<(steps.length:Int))=true:=by simp; omega
    have d2:decide ((i:Int)<20)=true:=by simp; omega
    obtain ⟨u,e,S',hu',hS',hst⟩:=zx6 hn F hS steps[i].Grads_ steps[i].Params_ g1
    obtain ⟨y,hy,w,hw1,hw2⟩:=hst c.List_ (by omega) rfl ⟨_,g1⟩
    have hy:f148 (fuel c) ((⟨c,S⟩:Xi),steps[i].Grads_,steps[i].Params_)=some (u,e,w,c.Sign_,c.Regs_,c.Slots_,c.List_,S'):=hw1 ▸ hy
    have d3:decide (w > totR (z1q c) c.List_)=false:=by simp; omega
    have ew:IntKind.i64.wrap ((i:Int)+1)=((i+1:Nat):Int):=z15 (by omega)
    rw [d1,d2,z13 hi.1,et]
    simp only [cond_true,Option.bind_some,orRet_inl]
    show Got (((f148 (fuel c) ((⟨c,S⟩:Xi),steps[i].Grads_,steps[i].Params_)).bind _)) _
    rw [hy]
    simp only [Option.bind_some,d3]
    refine ⟨.go (((i+1:Nat):Int),c.Sign_,c.Regs_,c.Slots_,c.List_,S'),?_,k - 1,by omega,i+1,S',rfl,hS',by omega⟩
    cases e==0 <;> simp only [cond_true,cond_false,Option.bind_some,orRet_inl,ew]
   ·have:(bif (decide ((i:Int)<(steps.length:Int))) then (some (.inl (decide ((i:Int)<(20:Int))))) else (some (.inl false)):Option (Bool⊕Bo (Yak) (Yak) Unit))=some (.inl false):=by
     by_cases h:i<steps.length
     ·have d1:decide ((i:Int)<(steps.length:Int))=true:=by simp; omega
      have d2:decide ((i:Int)<20)=false:=by simp; omega
      rw [d1,d2]; rfl
     ·have d1:decide ((i:Int)<(steps.length:Int))=false:=by simp; omega
      rw [d1]; rfl
    rw [this]
    exact ⟨_,rfl,True.intro⟩
  obtain ⟨b,e1,e2⟩:=this
  rw [e1]
  cases b with
  | go s=>exact e2.elim
  | ret z=>exact e2.elim
  | out y=>simp only [Option.bind_some,Bo.then,hw]
theorem zvl {R:Nat→Nat→Prop} {x:Int} (h:zg0 R x):0≤x∧x<4294967296:=by
 have h:(Lit.int .u32 x).wf=true:=h
 simp [Lit.wf] at h
 have e1:IntKind.u32.min=0:=by decide
 have e2:IntKind.u32.max=4294967295:=by decide
 omega
theorem zlr {a:Xe} (h:z8f RSaid a):zp7 a∧U32s a :=
 ⟨⟨Nat.le_trans h.Sign_.1 (by decide),Nat.le_trans h.Regs_.1 (by decide),Nat.le_trans h.Slots_.1 (by decide),Nat.le_trans h.List_.1 (by decide)⟩,(fun s hs=>zvl (h.Slots_.2 s hs).Bits_),fun i hi=>zvl (h.List_.2 i hi).Bits_⟩
theorem pureVerifySpends (a:Xe) (b:List Xf) (h:z8f RSaid a) (_:z5w RSaid b):∃ n,f197 n (a,b)=some true:=⟨_,y0z a b (zlr h).1 (zlr h).2⟩
end Loom
