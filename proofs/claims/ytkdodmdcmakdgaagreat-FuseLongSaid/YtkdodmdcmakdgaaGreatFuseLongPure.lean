/- The plain law of FuseLong: what it answers is true,whatever it is handed (part 1 of 1). -/
import Derived.Test.YtkdodmdcmakdgaaGreatFuseLongWvB
set_option linter.unusedVariables false
set_option linter.unusedSimpArgs false
set_option linter.unusedVariables false
set_option linter.unusedSimpArgs false
set_option maxRecDepth 100000
namespace Loom
open Go
@[simp] theorem orRet_inl {S R:Type} {A:S→Option R} {s:S}:orRet A (.inl s)=A s:=rfl
@[simp] theorem orRet_inr {S R:Type} {A:S→Option R} {r:R}:orRet A (.inr r)=some r:=rfl
theorem need_t {R:Type} {p:Prop} [Decidable p] {x:Option R} (h:p):need p x=x:=by unfold need; rw [if_pos h]
def mayT (l:List Xd) (t:Xb):Bool :=
 bif t.Kind_==3 then decide (t.Param_≥0) && decide (t.Param_<(l.length:Int)) else (t.Kind_==1 || t.Kind_==2) && t.Param_==0
theorem f31_is {n:Nat} (c:Xf) (t:Xb):f31 n (c,t)=some (mayT c.Sign_ t):=by
 rw [f31_eq]
 unfold mayT
 by_cases h1:t.Kind_=1
 ·simp [h1]
 ·by_cases h2:t.Kind_=2
  ·simp [h2]
  ·by_cases h3:t.Kind_=3
   ·by_cases h4:t.Param_≥0 <;> simp [h3,h4]
   ·have e1:(t.Kind_==1)=false:=by simpa using h1
    have e2:(t.Kind_==2)=false:=by simpa using h2
    have e3:(t.Kind_==3)=false:=by simpa using h3
    simp [e1,e2,e3]
theorem f39_is {n:Nat} (l:List Xd) (t:Xb):f39 n (t,l)=some (mayT l t):=by
 rw [f39_eq]
 unfold mayT
 by_cases h1:t.Kind_=1
 ·simp [h1]
 ·by_cases h2:t.Kind_=2
  ·simp [h2]
  ·by_cases h3:t.Kind_=3
   ·by_cases h4:t.Param_≥0 <;> simp [h3,h4]
   ·have e1:(t.Kind_==1)=false:=by simpa using h1
    have e2:(t.Kind_==2)=false:=by simpa using h2
    have e3:(t.Kind_==3)=false:=by simpa using h3
    simp [e1,e2,e3]
def canon (x:Int):Bool:=decide (x % 2147483648≤2139095040) || x==2143289344
theorem wrap_nat32 {m:Nat} (h:m<4294967296):IntKind.u32.wrap (m:Int)=m:=by
 have:IntKind.u32.wrap (m:Int)=(m:Int) % 4294967296:=by simp [IntKind.wrap,IntKind.bits,IntKind.signed]
 omega
theorem and31 (x:Int) (h0:0≤x) (h1:x<4294967296):(BitVec.ofInt IntKind.u32.bits x &&& ~~~BitVec.ofInt IntKind.u32.bits 2147483648).toNat=x.toNat % 2147483648:=by
 show (BitVec.ofInt 32 x &&& ~~~BitVec.ofInt 32 2147483648).toNat=_
 have e:(~~~BitVec.ofInt 32 2147483648:BitVec 32)=2147483647#32:=by decide
 rw [e,BitVec.toNat_and]
 have e2:(2147483647#32).toNat=2 ^ 31 - 1:=by decide
 rw [e2,Nat.and_two_pow_sub_one_eq_mod]
 have e3:(BitVec.ofInt 32 x).toNat=x.toNat:=by
  rw [BitVec.toNat_ofInt]
  omega
 rw [e3]
theorem f52_is {n:Nat} (x:Int) (h0:0≤x) (h1:x<4294967296):f52 n x=some (canon x):=by
 rw [f52_eq,and31 x h0 h1,wrap_nat32 (by omega)]
 unfold canon
 have:((x.toNat % 2147483648:Nat):Int)=x % 2147483648:=by omega
 rw [this]
 cases decide (x % 2147483648≤2139095040) <;> rfl
theorem wrap_u64 {m:Int} (h0:0≤m) (h:m<18446744073709551616):IntKind.u64.wrap m=m:=by
 have:IntKind.u64.wrap m=m % 18446744073709551616:=by simp [IntKind.wrap,IntKind.bits,IntKind.signed]
 omega
theorem and64 (x:Int) (k:Nat) (hk:k<64) (h0:0≤x) (h1:x<18446744073709551616):(BitVec.ofInt IntKind.u64.bits x &&& BitVec.ofInt IntKind.u64.bits ((2 ^ k - 1:Nat):Int)).toNat=x.toNat % 2 ^ k:=by
 show (BitVec.ofInt 64 x &&& BitVec.ofInt 64 _).toNat=_
 rw [BitVec.toNat_and]
 have hp:2 ^ k<2 ^ 64:=Nat.pow_lt_pow_right (by decide) hk
 have e2:(BitVec.ofInt 64 ((2 ^ k - 1:Nat):Int)).toNat=2 ^ k - 1:=by
  rw [BitVec.toNat_ofInt]
  have:(0:Nat)<2 ^ k:=Nat.two_pow_pos k
  omega
 have e3:(BitVec.ofInt 64 x).toNat=x.toNat:=by
  rw [BitVec.toNat_ofInt]
  omega
 rw [e2,e3,Nat.and_two_pow_sub_one_eq_mod]
theorem f69_nan {n:Nat} (x:Int) (h0:0≤x) (h1:x<4294967296):∃ r,f69 n x=some r∧r.2.2.2.2=(decide (x / 8388608 % 256=255) && decide (x % 8388608 ≠ 0)):=by
 rw [f69_eq]
 have e0:IntKind.u64.wrap x=x:=wrap_u64 h0 (by omega)
 have e1:x.fdiv (2 ^ min (23:Int).toNat IntKind.u64.bits)=x / 8388608:=by
  show x.fdiv 8388608=_
  rw [Int.fdiv_eq_ediv_of_nonneg _ (by decide)]
 have e2:(BitVec.ofInt IntKind.u64.bits (x / 8388608) &&& BitVec.ofInt IntKind.u64.bits (255:Int)).toNat=(x / 8388608).toNat % 256:=and64 (x / 8388608) 8 (by decide) (by omega) (by omega)
 have e3:(BitVec.ofInt IntKind.u64.bits x &&& BitVec.ofInt IntKind.u64.bits (8388607:Int)).toNat=x.toNat % 8388608:=and64 x 23 (by decide) (by omega) (by omega)
 simp only [e0,e1,e2,e3]
 rw [wrap_u64 (m:=(((x / 8388608).toNat % 256:Nat):Int)) (by omega) (by omega),wrap_u64 (m:=((x.toNat % 8388608:Nat):Int)) (by omega) (by omega),wrapI (by omega) (by omega)]
 have c1:(((x / 8388608).toNat % 256:Nat):Int)=x / 8388608 % 256:=by omega
 have c2:((x.toNat % 8388608:Nat):Int)=x % 8388608:=by omega
 rw [c1,c2]
 by_cases h:x / 8388608 % 256=255
 ·have q:(x / 8388608 % 256==(255:Int))=true:=by simp [h]
  simp only [q,cond_true,Option.bind_some,orRet_inl]
  refine ⟨_,rfl,?_⟩
  rw [decide_eq_true h,Bool.true_and]
  show (x % 8388608 != 0)=_
  by_cases h3:x % 8388608=0 <;> simp [h3]
 ·have q:(x / 8388608 % 256==(255:Int))=false:=by simp [h]
  simp only [q,cond_false]
  cases (x / 8388608 % 256==(0:Int))
  all_goals
   simp only [cond_false,cond_true,Option.bind_some,orRet_inl]
   refine ⟨_,rfl,?_⟩
   rw [decide_eq_false h,Bool.false_and]
theorem f58_is {n:Nat} (x:Int) (h0:0≤x) (h1:x<4294967296):f58 n x=some (canon x):=by
 have w:IntKind.i64.wrap x=x:=wrapI (by omega) (by omega)
 obtain ⟨r,e,e'⟩:=f69_nan (n:=n) x h0 h1
 rw [f58_eq,w,f65_eq,e]
 simp only [Option.bind_some,e']
 unfold canon
 by_cases h:x / 8388608 % 256=255∧x % 8388608 ≠ 0
 ·have q:(decide (x / 8388608 % 256=255) && decide (x % 8388608 ≠ 0))=true:=by simp [h]
  have q2:decide (x % 2147483648≤2139095040)=false:=by simp; omega
  rw [q,q2]
  simp only [cond_true,Option.bind_some,Bool.false_or]
  congr 1
  rw [Bool.eq_iff_iff]
  simp
  omega
 ·have q:(decide (x / 8388608 % 256=255) && decide (x % 8388608 ≠ 0))=false:=by
   rw [Bool.eq_false_iff]
   intro hb
   simp only [Bool.and_eq_true,decide_eq_true_eq] at hb
   exact h hb
  have q2:decide (x % 2147483648≤2139095040)=true:=by simp; omega
  rw [q,q2]
  simp
def mayS (l:List Xd) (s:Xe):Bool :=
 mayT l s.Type_ && (bif s.Type_.Kind_==2 then s.Bits_==0 && (decide (s.Int_≥0) && decide (s.Int_≤2147483647)) else s.Int_==0 && canon s.Bits_)
theorem f34_is {n:Nat} (c:Xf) (s:Xe) (h0:0≤s.Bits_) (h1:s.Bits_<4294967296):f34 n (c,s)=some (mayS c.Sign_ s):=by
 rw [f34_eq,f31_is,f52_is _ h0 h1]
 unfold mayS
 simp only [Option.bind_some]
 cases mayT c.Sign_ s.Type_ <;> cases (s.Type_.Kind_==2) <;> cases (s.Bits_==0) <;> cases (s.Int_==0) <;> cases decide (s.Int_≥0) <;> rfl
theorem f40_is {n:Nat} (l:List Xd) (s:Xe) (h0:0≤s.Bits_) (h1:s.Bits_<4294967296):f40 n (s,l)=some (mayS l s):=by
 rw [f40_eq,f39_is,f58_is _ h0 h1]
 unfold mayS
 simp only [Option.bind_some]
 cases mayT l s.Type_ <;> cases (s.Type_.Kind_==2) <;> cases (s.Bits_==0) <;> cases (s.Int_==0) <;> cases decide (s.Int_≥0) <;> rfl
end Loom
set_option linter.unusedVariables false
set_option linter.unusedSimpArgs false
set_option maxRecDepth 100000
namespace Loom
open Go
structure Sorts where
 d:Int
 a:Int
 b:Int
 c:Int
 n:Int
def rowD (op:Int):Option Sorts :=
 bif op==1 then some ⟨1,0,0,0,0⟩ else
 bif op==2 then some ⟨2,0,0,0,1⟩ else
 bif op==3 then some ⟨8,7,0,0,0⟩ else
 bif op==4 then some ⟨4,5,5,0,0⟩ else
 bif op==5 then some ⟨4,5,5,0,0⟩ else
 bif op==6 then some ⟨4,5,5,0,0⟩ else
 bif op==7 then some ⟨4,5,5,0,0⟩ else
 bif op==8 then some ⟨4,5,5,0,0⟩ else
 bif op==9 then some ⟨4,5,5,0,0⟩ else
 bif op==10 then some ⟨4,5,5,0,0⟩ else
 bif op==11 then some ⟨4,5,0,0,0⟩ else
 bif op==12 then some ⟨4,5,0,0,0⟩ else
 bif op==13 then some ⟨4,5,0,0,0⟩ else
 bif op==14 then some ⟨4,5,0,0,0⟩ else
 bif op==15 then some ⟨4,5,5,5,0⟩ else
 bif op==16 then some ⟨1,1,2,0,0⟩ else
 bif op==17 then some ⟨1,2,0,0,0⟩ else
 bif op==18 then some ⟨2,1,0,0,0⟩ else
 bif op==19 then some ⟨1,3,0,0,0⟩ else
 bif op==20 then some ⟨1,3,0,0,0⟩ else
 bif op==21 then some ⟨2,2,0,0,0⟩ else
 bif op==22 then some ⟨2,2,2,0,0⟩ else
 bif op==23 then some ⟨2,2,2,0,0⟩ else
 bif op==24 then some ⟨2,2,2,0,0⟩ else
 bif op==25 then some ⟨2,2,0,0,0⟩ else
 bif op==26 then some ⟨2,2,2,2,0⟩ else
 bif op==27 then some ⟨2,2,2,0,0⟩ else
 bif op==28 then some ⟨2,2,2,0,0⟩ else
 bif op==29 then some ⟨3,0,0,0,2⟩ else
 bif op==30 then some ⟨3,0,0,0,2⟩ else
 bif op==31 then some ⟨0,3,0,0,2⟩ else
 bif op==32 then some ⟨8,0,0,0,3⟩ else
 bif op==33 then some ⟨0,8,0,0,3⟩ else
 bif op==34 then some ⟨0,2,0,0,0⟩ else
 bif op==35 then some ⟨0,0,0,0,0⟩ else
 bif op==36 then some ⟨0,0,0,0,4⟩ else
 bif op==37 then some ⟨0,0,0,0,0⟩ else
 none
theorem opCase (op:Int):(op=1∨op=2∨op=3∨op=4∨op=5∨op=6∨op=7∨op=8∨op=9∨op=10∨op=11∨op=12∨op=13∨op=14∨op=15∨op=16∨op=17∨op=18∨op=19∨op=20∨op=21∨op=22∨op=23∨op=24∨op=25∨op=26∨op=27∨op=28∨op=29∨op=30∨op=31∨op=32∨op=33∨op=34∨op=35∨op=36∨op=37)∨(∀ k:Int,1≤k→k≤37→(op==k)=false):=by
 by_cases h:1≤op∧op≤37
 ·left; omega
 ·right
  intro k h1 h2
  simp only [beq_eq_false_iff_ne,ne_eq]
  omega
theorem f26_is {n:Nat} (op:Int):f26 n op=some (match rowD op with | some r=>(true,r.d,r.a,r.b,r.c,r.n) | none=>(false,0,0,0,0,0)):=by
 rw [f26_eq]
 rcases opCase op with (rfl | rfl | rfl | rfl | rfl | rfl | rfl | rfl | rfl | rfl | rfl | rfl | rfl | rfl | rfl | rfl | rfl | rfl | rfl | rfl | rfl | rfl | rfl | rfl | rfl | rfl | rfl | rfl | rfl | rfl | rfl | rfl | rfl | rfl | rfl | rfl | rfl) | h
 iterate 37 (· kernel_rfl)
 simp only [rowD,h 1 (by decide) (by decide),h 2 (by decide) (by decide),h 3 (by decide) (by decide),h 4 (by decide) (by decide),h 5 (by decide) (by decide),h 6 (by decide) (by decide),h 7 (by decide) (by decide),h 8 (by decide) (by decide),h 9 (by decide) (by decide),h 10 (by decide) (by decide),h 11 (by decide) (by decide),h 12 (by decide) (by decide),h 13 (by decide) (by decide),h 14 (by decide) (by decide),h 15 (by decide) (by decide),h 16 (by decide) (by decide),h 17 (by decide) (by decide),h 18 (by decide) (by decide),h 19 (by decide) (by decide),h 20 (by decide) (by decide),h 21 (by decide) (by decide),h 22 (by decide) (by decide),h 23 (by decide) (by decide),h 24 (by decide) (by decide),h 25 (by decide) (by decide),h 26 (by decide) (by decide),h 27 (by decide) (by decide),h 28 (by decide) (by decide),h 29 (by decide) (by decide),h 30 (by decide) (by decide),h 31 (by decide) (by decide),h 32 (by decide) (by decide),h 33 (by decide) (by decide),h 34 (by decide) (by decide),h 35 (by decide) (by decide),h 36 (by decide) (by decide),h 37 (by decide) (by decide),cond_false,Option.bind_some,orRet_inl]
def letter (s:Int):UInt8:=bif s==1 then 110 else bif s==2 then 119 else bif s==3 then 118 else bif s==4 then 100 else bif s==5 then 120 else bif s==7 then 99 else bif s==8 then 97 else 45
def nletter (s:Int):UInt8:=bif s==1 then 105 else bif s==2 then 112 else bif s==3 then 115 else bif s==4 then 113 else 45
def rowSr (r:Sorts):ByteArray:=⟨#[letter r.d,letter r.a,letter r.b,letter r.c,nletter r.n]⟩
theorem f27_is {n:Nat} (op:Int):f27 n op=some (match rowD op with | some r=>(rowSr r,true) | none=>(⟨#[]⟩,false)):=by
 rw [f27_eq]
 rcases opCase op with (rfl | rfl | rfl | rfl | rfl | rfl | rfl | rfl | rfl | rfl | rfl | rfl | rfl | rfl | rfl | rfl | rfl | rfl | rfl | rfl | rfl | rfl | rfl | rfl | rfl | rfl | rfl | rfl | rfl | rfl | rfl | rfl | rfl | rfl | rfl | rfl | rfl) | h
 iterate 37 (· kernel_rfl)
 simp only [rowD,h 1 (by decide) (by decide),h 2 (by decide) (by decide),h 3 (by decide) (by decide),h 4 (by decide) (by decide),h 5 (by decide) (by decide),h 6 (by decide) (by decide),h 7 (by decide) (by decide),h 8 (by decide) (by decide),h 9 (by decide) (by decide),h 10 (by decide) (by decide),h 11 (by decide) (by decide),h 12 (by decide) (by decide),h 13 (by decide) (by decide),h 14 (by decide) (by decide),h 15 (by decide) (by decide),h 16 (by decide) (by decide),h 17 (by decide) (by decide),h 18 (by decide) (by decide),h 19 (by decide) (by decide),h 20 (by decide) (by decide),h 21 (by decide) (by decide),h 22 (by decide) (by decide),h 23 (by decide) (by decide),h 24 (by decide) (by decide),h 25 (by decide) (by decide),h 26 (by decide) (by decide),h 27 (by decide) (by decide),h 28 (by decide) (by decide),h 29 (by decide) (by decide),h 30 (by decide) (by decide),h 31 (by decide) (by decide),h 32 (by decide) (by decide),h 33 (by decide) (by decide),h 34 (by decide) (by decide),h 35 (by decide) (by decide),h 36 (by decide) (by decide),h 37 (by decide) (by decide),cond_false,Option.bind_some,orRet_inl]
end Loom
set_option linter.unusedVariables false
set_option linter.unusedSimpArgs false
set_option maxRecDepth 100000
namespace Loom
open Go
theorem rowD_none {op:Int} (h:∀ k:Int,1≤k→k≤37→(op==k)=false):rowD op=none:=by
 simp only [rowD,h 1 (by decide) (by decide),h 2 (by decide) (by decide),h 3 (by decide) (by decide),h 4 (by decide) (by decide),h 5 (by decide) (by decide),h 6 (by decide) (by decide),h 7 (by decide) (by decide),h 8 (by decide) (by decide),h 9 (by decide) (by decide),h 10 (by decide) (by decide),h 11 (by decide) (by decide),h 12 (by decide) (by decide),h 13 (by decide) (by decide),h 14 (by decide) (by decide),h 15 (by decide) (by decide),h 16 (by decide) (by decide),h 17 (by decide) (by decide),h 18 (by decide) (by decide),h 19 (by decide) (by decide),h 20 (by decide) (by decide),h 21 (by decide) (by decide),h 22 (by decide) (by decide),h 23 (by decide) (by decide),h 24 (by decide) (by decide),h 25 (by decide) (by decide),h 26 (by decide) (by decide),h 27 (by decide) (by decide),h 28 (by decide) (by decide),h 29 (by decide) (by decide),h 30 (by decide) (by decide),h 31 (by decide) (by decide),h 32 (by decide) (by decide),h 33 (by decide) (by decide),h 34 (by decide) (by decide),h 35 (by decide) (by decide),h 36 (by decide) (by decide),h 37 (by decide) (by decide),cond_false]
def reads (i:Xc):List Int:=match rowD i.Op_ with
 | some r=>(bif r.a==0 then [] else [i.A_])++((bif r.b==0 then [] else [i.B_])++(bif r.c==0 then [] else [i.C_]))
 | none=>[]
def sets (i:Xc):Bool:=match rowD i.Op_ with | some r=>!(r.d==0) | none=>false
theorem f9_is (m:Nat) (i:Xc):f9 (m+4) i=some (reads i):=by
 obtain ⟨op,d,a,b,c,N,bits⟩:=i
 rcases opCase op with (rfl | rfl | rfl | rfl | rfl | rfl | rfl | rfl | rfl | rfl | rfl | rfl | rfl | rfl | rfl | rfl | rfl | rfl | rfl | rfl | rfl | rfl | rfl | rfl | rfl | rfl | rfl | rfl | rfl | rfl | rfl | rfl | rfl | rfl | rfl | rfl | rfl) | h
 iterate 37 (· kernel_rfl)
 rw [f9_eq,f26_is]
 simp only [reads,rowD_none h]
 kernel_rfl
theorem f10_is (m:Nat) (i:Xc):f10 (m+4) i=some (reads i):=by
 obtain ⟨op,d,a,b,c,N,bits⟩:=i
 rcases opCase op with (rfl | rfl | rfl | rfl | rfl | rfl | rfl | rfl | rfl | rfl | rfl | rfl | rfl | rfl | rfl | rfl | rfl | rfl | rfl | rfl | rfl | rfl | rfl | rfl | rfl | rfl | rfl | rfl | rfl | rfl | rfl | rfl | rfl | rfl | rfl | rfl | rfl) | h
 iterate 37 (· kernel_rfl)
 rw [f10_eq,f27_is]
 simp only [reads,rowD_none h]
 kernel_rfl
theorem f11_is (n:Nat) (i:Xc):f11 n i=some (sets i):=by
 obtain ⟨op,d,a,b,c,N,bits⟩:=i
 rcases opCase op with (rfl | rfl | rfl | rfl | rfl | rfl | rfl | rfl | rfl | rfl | rfl | rfl | rfl | rfl | rfl | rfl | rfl | rfl | rfl | rfl | rfl | rfl | rfl | rfl | rfl | rfl | rfl | rfl | rfl | rfl | rfl | rfl | rfl | rfl | rfl | rfl | rfl) | h
 iterate 37 (· kernel_rfl)
 rw [f11_eq,f26_is]
 simp only [sets,rowD_none h]
 kernel_rfl
theorem f12_is (n:Nat) (i:Xc):f12 n i=some (sets i):=by
 obtain ⟨op,d,a,b,c,N,bits⟩:=i
 rcases opCase op with (rfl | rfl | rfl | rfl | rfl | rfl | rfl | rfl | rfl | rfl | rfl | rfl | rfl | rfl | rfl | rfl | rfl | rfl | rfl | rfl | rfl | rfl | rfl | rfl | rfl | rfl | rfl | rfl | rfl | rfl | rfl | rfl | rfl | rfl | rfl | rfl | rfl) | h
 iterate 37 (· kernel_rfl)
 rw [f12_eq,f27_is]
 simp only [sets,rowD_none h]
 kernel_rfl
def elem (op:Int):Bool:=bif decide (op≥3) then decide (op≤15) else false
theorem f13_is (n:Nat) (op:Int):f13 n op=some (elem op):=by
 rw [f13_eq]; unfold elem; cases decide (op≥3) <;> rfl
theorem f14_is (n:Nat) (op:Int):f14 n op=some (elem op):=by
 rw [f14_eq]; unfold elem; cases decide (op≥3) <;> rfl
abbrev ty0:Xb:=⟨0,0⟩
def eqTy (t d:Xb):Bool:=t.Kind_==d.Kind_ && (t.Param_==d.Param_ && true)
def isS (t:Xb) (s:Int) (d:Xb):Bool :=
 bif s==1 then t.Kind_==1 else bif s==2 then t.Kind_==2 else bif s==3 then t.Kind_==3 else bif s==4 then t.Kind_ != 2 else
 bif s==5 then (t.Kind_==1 || eqTy t d) else bif s==7 then (eqTy t d || (t.Kind_==1 && d.Kind_==3)) else true
theorem f54_is {n:Nat} (t:Xb) (s:Int) (d:Xb) (h:s ≠ 6):f54 n (t,s,d)=some (isS t s d):=by
 have h6:(s==6)=false:=by simpa using h
 rw [f54_eq]
 unfold isS eqTy
 simp only [h6,cond_false]
 cases (s==1) <;> cases (s==2) <;> cases (s==3) <;> cases (s==4) <;> cases (s==5) <;> cases (s==7) <;> cases (t.Kind_==1) <;> cases (t.Kind_==d.Kind_ && (t.Param_==d.Param_ && true)) <;> cases (d.Kind_==3) <;> rfl
theorem idx_none {α:Type} {l:List α} {n:Int} (h:n<0∨n≥l.length):idx l n=none:=by
 unfold idx
 split
 ·rcases h with h | h
  ·omega
  ·rw [List.getElem?_eq_none]; omega
 ·rfl
theorem idx_get {α:Type} {l:List α} {n:Int} (h0:0≤n) (h1:n<l.length):∃ y,idx l n=some y∧y ∈ l:=by
 unfold idx
 rw [if_pos h0]
 have:n.toNat<l.length:=by omega
 exact ⟨l[n.toNat],by simp [this],List.getElem_mem this⟩
theorem idx_mem {α:Type} {l:List α} {n:Int} {y:α} (h:idx l n=some y):y ∈ l∧0≤n∧n<l.length:=by
 unfold idx at h
 split at h
 ·rename_i h0
  obtain ⟨h1,h2⟩:=List.getElem?_eq_some_iff.1 h
  exact ⟨h2 ▸ List.getElem_mem h1,h0,by omega⟩
 ·cases h
theorem f53_is {n:Nat} (a:List Xd) (b:List Xb) (c:List Xe) (d:List Xc) (e:List Bool) (f:List (List Int)) (g:List Int) (k:Int) :
  f53 n (a,b,c,d,e,f,g,k)=some (match idx b k with | some t=>(true,a,b,c,d,e,f,g,t.Kind_,t.Param_) | none=>(false,a,b,c,d,e,f,g,0,0)):=by
 rw [f53_eq]
 by_cases h:k<0
 ·rw [idx_none (.inl h)]; simp [h]
 ·by_cases h2:k≥b.length
  ·rw [idx_none (.inr h2)]; simp [h,h2]
  ·obtain ⟨y,hy,_⟩:=idx_get (l:=b) (n:=k) (by omega) (by omega)
   rw [hy]
   have e1:decide (k<0)=false:=by simpa using h
   have e2:decide (k≥(b.length:Int))=false:=by simp; omega
   simp [e1,e2,hy]
theorem f70_is {n:Nat} (c:Xf) (k:Int):f70 n (c,k)=some (match idx c.Regs_ k with | some t=>(true,t.Kind_,t.Param_) | none=>(false,0,0)):=by
 rw [f70_eq]
 by_cases h:k<0
 ·rw [idx_none (.inl h)]; simp [h]
 ·by_cases h2:k≥c.Regs_.length
  ·rw [idx_none (.inr h2)]; simp [h,h2]
  ·obtain ⟨y,hy,_⟩:=idx_get (l:=c.Regs_) (n:=k) (by omega) (by omega)
   rw [hy]
   have e1:decide (k<0)=false:=by simpa using h
   have e2:decide (k≥(c.Regs_.length:Int))=false:=by simp; omega
   simp [e1,e2,hy]
end Loom
set_option linter.unusedVariables false
set_option linter.unusedSimpArgs false
set_option maxRecDepth 100000
namespace Loom
open Go
theorem mayT_kind {l:List Xd} {t:Xb} (h:mayT l t=true):t.Kind_=1∨t.Kind_=2∨(t.Kind_=3∧0≤t.Param_∧t.Param_<l.length):=by
 unfold mayT at h
 by_cases h3:t.Kind_=3
 ·simp [h3] at h
  exact .inr (.inr ⟨h3,h.1,h.2⟩)
 ·have e3:(t.Kind_==3)=false:=by simpa using h3
  rw [e3] at h
  simp at h
  rcases h.1 with h | h
  ·exact .inl h
  ·exact .inr (.inl h)
def regOk (c:Xf) (s k:Int) (d:Xb):Bool:=bif s==0 then k==0 else match idx c.Regs_ k with | none=>false | some t=>isS t s d
def sortOk (s:Int):Prop:=s=0∨s=1∨s=2∨s=3∨s=4∨s=5∨s=7∨s=8
theorem f66_is {n:Nat} {c:Xf} {s k:Int} {d:Xb} (hs:sortOk s) (hr:∀ t ∈ c.Regs_,mayT c.Sign_ t=true):f66 n (c,((letter s).toNat:Int),k,d)=some (regOk c s k d):=by
 rw [f66_eq,f70_is]
 unfold regOk
 cases hi:idx c.Regs_ k with
 | none=>rcases hs with rfl | rfl | rfl | rfl | rfl | rfl | rfl | rfl <;> kernel_rfl
 | some t =>
  have hk:=mayT_kind (hr t (idx_mem hi).1)
  rcases hs with rfl | rfl | rfl | rfl | rfl | rfl | rfl | rfl
  ·rfl
  ·rfl
  ·rfl
  ·rfl
  ·rcases hk with h | h | ⟨h,_⟩ <;> simp [h,letter,isS]
  ·show (bif t.Kind_==1 then some true else some (eqTy t d))=some (t.Kind_==1 || eqTy t d)
   cases (t.Kind_==1) <;> rfl
  ·show (bif eqTy t d then some true else bif t.Kind_==1 then some (d.Kind_==3) else some false)=some (eqTy t d || (t.Kind_==1 && d.Kind_==3))
   cases eqTy t d <;> cases (t.Kind_==1) <;> rfl
  ·rfl
theorem rowD_ok {op:Int} {r:Sorts} (h:rowD op=some r):(sortOk r.d∧sortOk r.a∧sortOk r.b∧sortOk r.c)∧((r.n=0∨r.n=1∨r.n=3∨r.n=4)∨r.n=2∧(r.d=3∨r.d=0∧r.a=3)):=by
 rcases opCase op with (rfl | rfl | rfl | rfl | rfl | rfl | rfl | rfl | rfl | rfl | rfl | rfl | rfl | rfl | rfl | rfl | rfl | rfl | rfl | rfl | rfl | rfl | rfl | rfl | rfl | rfl | rfl | rfl | rfl | rfl | rfl | rfl | rfl | rfl | rfl | rfl | rfl) | h0
 iterate 37 (· cases h; simp [sortOk])
 rw [rowD_none h0] at h; cases h
def tyD (c:Xf) (r:Sorts) (i:Xc):Xb:=bif r.d==0 then ty0 else (idx c.Regs_ i.D_).getD ty0
def tyF (c:Xf) (r:Sorts) (i:Xc):Xb:=bif r.d==0 then (bif r.a==0 then ty0 else (idx c.Regs_ i.A_).getD ty0) else (idx c.Regs_ i.D_).getD ty0
def nOk (c:Xf) (s N:Int) (t:Xb):Bool :=
 bif s==1 then decide (N≥0) && decide (N≤2147483647) else
 bif s==2 then (N==0 || (N==1 && (match idx c.Sign_ t.Param_ with | some p=>p.Kind_==2 | none=>false))) else
 bif s==3 then (match idx c.Slots_ N with | some z=>eqTy z.Type_ t | none=>false) else
 bif s==4 then decide (N≥0) && decide (N<(c.Sign_.length:Int)) else N==0
def bitsOk (i:Xc):Bool:=bif i.Op_==1 then canon i.Bits_ else i.Bits_==0
def fits (c:Xf) (i:Xc):Bool:=match rowD i.Op_ with
 | none=>false
 | some r=>regOk c r.d i.D_ ty0 && (regOk c r.a i.A_ (tyD c r i) && (regOk c r.b i.B_ (tyD c r i) && (regOk c r.c i.C_ (tyD c r i) && (bitsOk i && nOk c r.n i.N_ (tyF c r i)))))
theorem f67_is {n:Nat} {c:Xf} {N p:Int} (hp:0≤p∧p<c.Sign_.length):f67 n (c,N,p)=some (N==0 || (N==1 && (match idx c.Sign_ p with | some p=>p.Kind_==2 | none=>false))):=by
 rw [f67_eq]
 obtain ⟨y,hy,_⟩:=idx_get (l:=c.Sign_) hp.1 hp.2
 rw [hy]
 cases (N==0) <;> cases (N==1) <;> simp
theorem isS3 {t d:Xb} (h:isS t 3 d=true):t.Kind_=3:=by simpa [isS] using h
theorem part_in {c:Xf} {i:Xc} {r:Sorts} (hr:∀ t ∈ c.Regs_,mayT c.Sign_ t=true) (hp:r.d=3∨r.d=0∧r.a=3) (h1:regOk c r.d i.D_ ty0=true) (h2:regOk c r.a i.A_ (tyD c r i)=true):0≤(tyF c r i).Param_∧(tyF c r i).Param_<c.Sign_.length:=by
 have key:∀ (k:Int) (d:Xb),regOk c 3 k d=true→∃ t,idx c.Regs_ k=some t∧0≤t.Param_∧t.Param_<c.Sign_.length:=fun k d h=>by
  unfold regOk at h
  have e:((3:Int)==0)=false:=by decide
  rw [e,cond_false] at h
  split at h
  ·cases h
  ·rename_i t ht
   have h3:=isS3 h
   rcases mayT_kind (hr t (idx_mem ht).1) with q | q | q
   ·omega
   ·omega
   ·exact ⟨t,ht,q.2⟩
 rcases hp with hp | ⟨hp,hq⟩
 ·rw [hp] at h1
  obtain ⟨t,ht,h⟩:=key _ _ h1
  unfold tyF
  rw [hp]
  simpa [ht] using h
 ·rw [hq] at h2
  obtain ⟨t,ht,h⟩:=key _ _ h2
  unfold tyF
  rw [hp,hq]
  simpa [ht] using h
end Loom
set_option linter.unusedVariables false
set_option linter.unusedSimpArgs false
set_option maxRecDepth 100000
namespace Loom
open Go
theorem letter_ne {s:Int} (h:sortOk s):(((letter s).toNat:Int) != 45) = !(s==0):=by
 rcases h with rfl | rfl | rfl | rfl | rfl | rfl | rfl | rfl <;> rfl
theorem letter_eq {s:Int} (h:sortOk s):(((letter s).toNat:Int)==45)=(s==0):=by
 rcases h with rfl | rfl | rfl | rfl | rfl | rfl | rfl | rfl <;> rfl
theorem rowS_size (r:Sorts):((rowSr r).size:Int)=5:=rfl
theorem rowS0 (r:Sorts):byteAt (rowSr r) 0=((letter r.d).toNat:Int):=rfl
theorem rowS1 (r:Sorts):byteAt (rowSr r) 1=((letter r.a).toNat:Int):=rfl
theorem rowS2 (r:Sorts):byteAt (rowSr r) 2=((letter r.b).toNat:Int):=rfl
theorem rowS3 (r:Sorts):byteAt (rowSr r) 3=((letter r.c).toNat:Int):=rfl
theorem rowS4 (r:Sorts):byteAt (rowSr r) 4=((nletter r.n).toNat:Int):=rfl
theorem regOk_get {c:Xf} {s k:Int} {d:Xb} (h:regOk c s k d=true) (hs:(s==0)=false):∃ t,idx c.Regs_ k=some t:=by
 unfold regOk at h
 rw [hs,cond_false] at h
 split at h
 ·cases h
 ·rename_i t ht; exact ⟨t,ht⟩
theorem f59_is {n:Nat} {c:Xf} {i:Xc} (hr:∀ t ∈ c.Regs_,mayT c.Sign_ t=true) (h0:0≤i.Bits_) (h1:i.Bits_<4294967296):f59 n (c,i)=some (fits c i):=by
 rw [f59_eq,f27_is]
 unfold fits
 cases h:rowD i.Op_ with
 | none=>rfl
 | some r =>
  obtain ⟨⟨s1,s2,s3,s4⟩,hn⟩:=rowD_ok h
  have n1:(0:Int)≤0∧(0:Int)<5:=by decide
  have n2:(0:Int)≤1∧(1:Int)<5:=by decide
  have n3:(0:Int)≤2∧(2:Int)<5:=by decide
  have n4:(0:Int)≤3∧(3:Int)<5:=by decide
  have n5:(0:Int)≤4∧(4:Int)<5:=by decide
  simp only [Option.bind_some,Bool.not_true,cond_false,f58_is _ h0 h1]
  have hB:(bif (i.Op_ != 1) then (bif (i.Bits_ != 0) then some (Sum.inl (rowSr r,true)) else some (Sum.inl (rowSr r,!canon i.Bits_))) else some (Sum.inl (rowSr r,!canon i.Bits_)):Option (ByteArray×Bool⊕Bool))=some (.inl (rowSr r,!(bitsOk i))):=by
   unfold bitsOk
   by_cases q:i.Op_=1
   ·simp [q]
   ·by_cases q2:i.Bits_=0
    ·have:canon 0=true:=by decide
     simp [q,q2,this]
    ·have e1:(i.Op_==1)=false:=by simpa using q
     have e2:(i.Bits_==0)=false:=by simpa using q2
     simp [bne,e1,e2]
  rw [hB,Option.bind_some,orRet_inl]
  dsimp only
  cases hb:bitsOk i with
  | false=>simp
  | true =>
   simp only [Bool.not_true,cond_false,rowS_size,need_t n1,rowS0,letter_ne s1,f66_is s1 hr,Option.bind_some]
   have hD:(bif !(r.d==0) then (bif !(regOk c r.d i.D_ ty0) then some (Sum.inr false) else (idx c.Regs_ i.D_).bind fun y5=>some (Sum.inl (rowSr r,y5.Kind_,y5.Param_))) else (bif i.D_ != 0 then some (Sum.inr false) else some (Sum.inl (rowSr r,0,0))):Option (ByteArray×Int×Int⊕Bool))
     = bif regOk c r.d i.D_ ty0 then some (.inl (rowSr r,(tyD c r i).Kind_,(tyD c r i).Param_)) else some (.inr false):=by
    cases hz:r.d==0 with
    | true =>
     have:regOk c r.d i.D_ ty0=(i.D_==0):=by unfold regOk; rw [hz]; rfl
     rw [this]
     unfold tyD
     rw [hz]
     have e:(i.D_ != 0) = !(i.D_==0):=rfl
     rw [e]
     cases i.D_==0 <;> rfl
    | false =>
     cases hq:regOk c r.d i.D_ ty0 with
     | false=>simp
     | true =>
      obtain ⟨t,ht⟩:=regOk_get hq hz
      unfold tyD
      rw [hz,ht]
      simp
   rw [hD]
   cases hd:regOk c r.d i.D_ ty0 with
   | false=>simp
   | true =>
    simp only [cond_true,Option.bind_some,orRet_inl,rowS_size,need_t n2,need_t n3,need_t n4,rowS1,rowS2,rowS3,f66_is s2 hr,f66_is s3 hr,f66_is s4 hr,Bool.true_and]
    cases ha:regOk c r.a i.A_ (tyD c r i) with
    | false=>simp
    | true =>
     cases hbb:regOk c r.b i.B_ (tyD c r i) with
     | false=>simp
     | true =>
      cases hcc:regOk c r.c i.C_ (tyD c r i) with
      | false=>simp
      | true =>
       simp only [cond_true,cond_false,Bool.not_true,Option.bind_some,orRet_inl,rowS_size,need_t n1,need_t n2,need_t n5,rowS0,rowS1,rowS4,letter_eq s1,letter_ne s2,Bool.true_and]
       have hF:((bif r.d==0 then some (Sum.inl (rowSr r,!(r.a==0),(tyD c r i).Kind_,(tyD c r i).Param_)) else some (Sum.inl (rowSr r,false,(tyD c r i).Kind_,(tyD c r i).Param_)):Option (ByteArray×Bool×Int×Int⊕(ByteArray×Int×Int⊕Bool))).bind (orRet fun s4=>bif s4.2.1 then (idx c.Regs_ i.A_).bind fun y9=>some (Sum.inl (s4.1,y9.Kind_,y9.Param_)) else some (Sum.inl (s4.1,s4.2.2.1,s4.2.2.2))))
         = some (.inl (rowSr r,(tyF c r i).Kind_,(tyF c r i).Param_)):=by
        unfold tyF tyD
        cases hz:r.d==0 with
        | false=>simp
        | true =>
         cases hza:r.a==0 with
         | true=>simp
         | false =>
          obtain ⟨t,ht⟩:=regOk_get ha hza
          simp [ht]
       rw [hF]
       simp only [Option.bind_some,orRet_inl,rowS_size,need_t n5,rowS4]
       unfold nOk
       rcases hn with (hn | hn | hn | hn) | ⟨hn,hp⟩
       ·simp only [hn,nletter]
        rfl
       ·simp only [hn,nletter]
        show (bif decide (i.N_≥0) then some (decide (i.N_≤2147483647)) else some false)=some (decide (i.N_≥0) && decide (i.N_≤2147483647))
        cases decide (i.N_≥0) <;> rfl
       ·simp only [hn,nletter]
        show (bif decide (i.N_≥0) then bif decide (i.N_<(c.Slots_.length:Int)) then (idx c.Slots_ i.N_).bind fun y11=>some (eqTy y11.Type_ (tyF c r i)) else some false else some false)=some (match idx c.Slots_ i.N_ with | some z=>eqTy z.Type_ (tyF c r i) | none=>false)
        by_cases q:i.N_≥0
        ·by_cases q2:i.N_<c.Slots_.length
         ·obtain ⟨y,hy,_⟩:=idx_get (l:=c.Slots_) q q2
          simp [q,q2,hy]
         ·rw [idx_none (by omega)]
          simp [q,q2]
        ·rw [idx_none (by omega)]
         simp [q]
       ·simp only [hn,nletter]
        show (bif decide (i.N_≥0) then some (decide (i.N_<(c.Sign_.length:Int))) else some false)=some (decide (i.N_≥0) && decide (i.N_<(c.Sign_.length:Int)))
        cases decide (i.N_≥0) <;> rfl
       ·have:=part_in hr hp hd ha
        simp only [hn,nletter]
        show ((f67 n (c,i.N_,(tyF c r i).Param_)).bind fun y10=>some y10)=_
        rw [f67_is this]
        rfl
end Loom
set_option linter.unusedVariables false
set_option linter.unusedSimpArgs false
set_option maxRecDepth 100000
namespace Loom
open Go
section
variable {n:Nat} {c:Xf} {i:Xc} {set:List Bool} {news:List (List Int)} {op:List Int}
theorem f35_gen {a b cc d e k dk dp fk fp s m:Int} (hk:k<4) (h1:idx [a,b,cc,d] k=some s) (h2:idx [i.D_,i.A_,i.B_,i.C_] k=some m) (hs:s ≠ 6) :
  f35_b1 n (c.Sign_,c.Regs_,c.Slots_,c.List_,set,news,op,i) (a,b,cc,d,e) (k,c.Sign_,c.Regs_,c.Slots_,c.List_,set,news,op,dk,dp,fk,fp) =
   some (bif regOk c s m ⟨dk,dp⟩ then .go (IntKind.i64.wrap (k+1),c.Sign_,c.Regs_,c.Slots_,c.List_,set,news,op,
    (bif s==0 then dk else bif k==0 then ((idx c.Regs_ m).getD ty0).Kind_ else dk),(bif s==0 then dp else bif k==0 then ((idx c.Regs_ m).getD ty0).Param_ else dp),
    (bif s==0 then fk else bif k==0 then ((idx c.Regs_ m).getD ty0).Kind_ else bif k==1 then (bif a==0 then ((idx c.Regs_ m).getD ty0).Kind_ else fk) else fk),
    (bif s==0 then fp else bif k==0 then ((idx c.Regs_ m).getD ty0).Param_ else bif k==1 then (bif a==0 then ((idx c.Regs_ m).getD ty0).Param_ else fp) else fp))
    else .ret (c.Sign_,c.Regs_,c.Slots_,c.List_,set,news,op)):=by
 rw [f35_b1_eq]
 have hk':decide (k<4)=true:=by simpa using hk
 simp only [hk',cond_true,h1,h2,Option.bind_some]
 unfold regOk
 cases hz:s==0 with
 | true =>
  simp only [cond_true]
  have e1:(m != 0) = !(m==0):=rfl
  rw [e1]
  cases m==0 <;> rfl
 | false =>
  simp only [cond_false,f53_is]
  cases hi:idx c.Regs_ m with
  | none=>rfl
  | some t =>
   simp only [Option.bind_some,Bool.not_true,cond_false,f54_is _ _ _ hs]
   have e2:(⟨t.Kind_,t.Param_⟩:Xb)=t:=rfl
   simp only [e2,Option.bind_some,orRet_inl]
   cases isS t s ⟨dk,dp⟩ <;> cases (k==0) <;> cases (k==1) <;> cases (a==0) <;> rfl
theorem sort6 {s:Int} (h:sortOk s):s ≠ 6:=by
 rcases h with rfl | rfl | rfl | rfl | rfl | rfl | rfl | rfl <;> decide
theorem w1:IntKind.i64.wrap (0+1)=1:=by decide
theorem w2:IntKind.i64.wrap (1+1)=2:=by decide
theorem w3:IntKind.i64.wrap (2+1)=3:=by decide
theorem w4:IntKind.i64.wrap (3+1)=4:=by decide
theorem f35_end {a b cc d e dk dp fk fp:Int} :
  f35_b1 n (c.Sign_,c.Regs_,c.Slots_,c.List_,set,news,op,i) (a,b,cc,d,e) (4,c.Sign_,c.Regs_,c.Slots_,c.List_,set,news,op,dk,dp,fk,fp)=some (.out (4,c.Sign_,c.Regs_,c.Slots_,c.List_,set,news,op,dk,dp,fk,fp)):=by
 rw [f35_b1_eq]; rfl
theorem f35_loop {r:Sorts} (m:Nat) (h:sortOk r.d∧sortOk r.a∧sortOk r.b∧sortOk r.c) :
  iter (f35_b1 n (c.Sign_,c.Regs_,c.Slots_,c.List_,set,news,op,i) (r.d,r.a,r.b,r.c,r.n)) (m+5) (0,c.Sign_,c.Regs_,c.Slots_,c.List_,set,news,op,0,0,0,0) =
   some (bif regOk c r.d i.D_ ty0 && (regOk c r.a i.A_ (tyD c r i) && (regOk c r.b i.B_ (tyD c r i) && regOk c r.c i.C_ (tyD c r i))) then
    .out (4,c.Sign_,c.Regs_,c.Slots_,c.List_,set,news,op,(tyD c r i).Kind_,(tyD c r i).Param_,(tyF c r i).Kind_,(tyF c r i).Param_) else .ret (c.Sign_,c.Regs_,c.Slots_,c.List_,set,news,op)):=by
 obtain ⟨h1,h2,h3,h4⟩:=h
 have eD:∀ b:Bool,b=(r.d==0)→(⟨bif b then 0 else ((idx c.Regs_ i.D_).getD ty0).Kind_,bif b then 0 else ((idx c.Regs_ i.D_).getD ty0).Param_⟩:Xb)=tyD c r i:=by
  intro b hb; unfold tyD; rw [← hb]; cases b <;> rfl
 unfold iter
 rw [f35_gen (s:=r.d) (m:=i.D_) (by decide) rfl rfl (sort6 h1)]
 have e0:(⟨0,0⟩:Xb)=ty0:=rfl
 rw [e0]
 cases regOk c r.d i.D_ ty0 with
 | false=>rfl
 | true =>
  have k0:((0:Int)==0)=true:=by decide
  simp only [cond_true,w1,k0,Bool.true_and]
  unfold iter
  rw [f35_gen (s:=r.a) (m:=i.A_) (by decide) rfl rfl (sort6 h2),eD _ rfl]
  cases regOk c r.a i.A_ (tyD c r i) with
  | false=>rfl
  | true =>
   have k1:((1:Int)==0)=false:=by decide
   have k2:((1:Int)==1)=true:=by decide
   simp only [cond_true,w2,k1,k2,cond_false,Bool.true_and,Bool.cond_self]
   unfold iter
   rw [f35_gen (s:=r.b) (m:=i.B_) (by decide) rfl rfl (sort6 h3),eD _ rfl]
   cases regOk c r.b i.B_ (tyD c r i) with
   | false=>rfl
   | true =>
    have k3:((2:Int)==0)=false:=by decide
    have k4:((2:Int)==1)=false:=by decide
    simp only [cond_true,w3,k3,k4,cond_false,Bool.true_and,Bool.cond_self]
    unfold iter
    rw [f35_gen (s:=r.c) (m:=i.C_) (by decide) rfl rfl (sort6 h4),eD _ rfl]
    cases regOk c r.c i.C_ (tyD c r i) with
    | false=>rfl
    | true =>
     have k5:((3:Int)==0)=false:=by decide
     have k6:((3:Int)==1)=false:=by decide
     simp only [cond_true,w4,k5,k6,cond_false,Bool.true_and,Bool.cond_self]
     unfold iter
     rw [f35_end]
     simp only
     congr 13
     all_goals
      first
      | (unfold tyD; cases r.d==0 <;> rfl)
      | (unfold tyF; cases r.d==0 <;> cases r.a==0 <;> rfl)
theorem f35_is (m:Nat) (hr:∀ t ∈ c.Regs_,mayT c.Sign_ t=true) (h0:0≤i.Bits_) (h1:i.Bits_<4294967296) :
  f35 (m+5) (c.Sign_,c.Regs_,c.Slots_,c.List_,set,news,op,i)=some (fits c i,c.Sign_,c.Regs_,c.Slots_,c.List_,set,news,op):=by
 rw [f35_eq,f26_is]
 unfold fits
 cases h:rowD i.Op_ with
 | none=>rfl
 | some r =>
  obtain ⟨hs,hn⟩:=rowD_ok h
  simp only [Option.bind_some,Bool.not_true,cond_false,f35_loop m hs,f52_is _ h0 h1]
  cases hd:regOk c r.d i.D_ ty0 with
  | false=>rfl
  | true =>
  cases ha:regOk c r.a i.A_ (tyD c r i) with
  | false=>rfl
  | true =>
  cases hbb:regOk c r.b i.B_ (tyD c r i) with
  | false=>rfl
  | true =>
  cases hcc:regOk c r.c i.C_ (tyD c r i) with
  | false=>rfl
  | true =>
   simp only [Bool.true_and,cond_true,Option.bind_some,Bo.then]
   have hB:(bif (i.Op_==1) then (bif (!canon i.Bits_) then some (Sum.inl (true,c.Sign_,c.Regs_,c.Slots_,c.List_,set,news,op,r.d,r.a,r.b,r.c,r.n,(tyF c r i).Kind_,(tyF c r i).Param_))
     else (bif i.Op_ != 1 then some (.inl (i.Bits_ != 0,c.Sign_,c.Regs_,c.Slots_,c.List_,set,news,op,r.d,r.a,r.b,r.c,r.n,(tyF c r i).Kind_,(tyF c r i).Param_)) else some (.inl (false,c.Sign_,c.Regs_,c.Slots_,c.List_,set,news,op,r.d,r.a,r.b,r.c,r.n,(tyF c r i).Kind_,(tyF c r i).Param_))))
     else (bif i.Op_ != 1 then some (.inl (i.Bits_ != 0,c.Sign_,c.Regs_,c.Slots_,c.List_,set,news,op,r.d,r.a,r.b,r.c,r.n,(tyF c r i).Kind_,(tyF c r i).Param_)) else some (.inl (false,c.Sign_,c.Regs_,c.Slots_,c.List_,set,news,op,r.d,r.a,r.b,r.c,r.n,(tyF c r i).Kind_,(tyF c r i).Param_))) :
      Option ((Bool×List Xd×List Xb×List Xe×List Xc×List Bool×List (List Int)×List Int×Int×Int×Int×Int×Int×Int×Int)⊕(Bool×List Xd×List Xb×List Xe×List Xc×List Bool×List (List Int)×List Int)))
     = some (.inl (!(bitsOk i),c.Sign_,c.Regs_,c.Slots_,c.List_,set,news,op,r.d,r.a,r.b,r.c,r.n,(tyF c r i).Kind_,(tyF c r i).Param_)):=by
    unfold bitsOk
    have e1:(i.Op_ != 1) = !(i.Op_==1):=rfl
    have e2:(i.Bits_ != 0) = !(i.Bits_==0):=rfl
    rw [e1,e2]
    cases i.Op_==1 <;> cases canon i.Bits_ <;> rfl
   rw [hB,Option.bind_some,orRet_inl]
   dsimp only
   cases hb:bitsOk i with
   | false=>rfl
   | true =>
    simp only [Bool.not_true,cond_false,Bool.true_and]
    unfold nOk
    rcases hn with (hn | hn | hn | hn) | ⟨hn,hp⟩
    ·rw [hn]; rfl
    ·rw [hn]
     show (bif decide (i.N_≥0) then some (decide (i.N_≤2147483647),c.Sign_,c.Regs_,c.Slots_,c.List_,set,news,op) else some (false,c.Sign_,c.Regs_,c.Slots_,c.List_,set,news,op))=some (decide (i.N_≥0) && decide (i.N_≤2147483647),c.Sign_,c.Regs_,c.Slots_,c.List_,set,news,op)
     cases decide (i.N_≥0) <;> rfl
    ·rw [hn]
     show (bif decide (i.N_≥0) then bif decide (i.N_<(c.Slots_.length:Int)) then (idx c.Slots_ i.N_).bind fun y11=>some (eqTy y11.Type_ (tyF c r i),c.Sign_,c.Regs_,c.Slots_,c.List_,set,news,op) else some (false,c.Sign_,c.Regs_,c.Slots_,c.List_,set,news,op) else some (false,c.Sign_,c.Regs_,c.Slots_,c.List_,set,news,op))=some ((match idx c.Slots_ i.N_ with | some z=>eqTy z.Type_ (tyF c r i) | none=>false),c.Sign_,c.Regs_,c.Slots_,c.List_,set,news,op)
     by_cases q:i.N_≥0
     ·by_cases q2:i.N_<c.Slots_.length
      ·obtain ⟨y,hy,_⟩:=idx_get (l:=c.Slots_) q q2
       simp [q,q2,hy]
      ·rw [idx_none (by omega)]
       simp [q,q2]
     ·rw [idx_none (by omega)]
      simp [q]
    ·rw [hn]
     show (bif decide (i.N_≥0) then some (decide (i.N_<(c.Sign_.length:Int)),c.Sign_,c.Regs_,c.Slots_,c.List_,set,news,op) else some (false,c.Sign_,c.Regs_,c.Slots_,c.List_,set,news,op))=some (decide (i.N_≥0) && decide (i.N_<(c.Sign_.length:Int)),c.Sign_,c.Regs_,c.Slots_,c.List_,set,news,op)
     cases decide (i.N_≥0) <;> rfl
    ·obtain ⟨p1,p2⟩:=part_in hr hp hd ha
     obtain ⟨y,hy,_⟩:=idx_get (l:=c.Sign_) p1 p2
     rw [hn]
     show (bif i.N_==0 then some (true,c.Sign_,c.Regs_,c.Slots_,c.List_,set,news,op) else bif i.N_==1 then (idx c.Sign_ (tyF c r i).Param_).bind fun y8=>some (y8.Kind_==2,c.Sign_,c.Regs_,c.Slots_,c.List_,set,news,op) else some (false,c.Sign_,c.Regs_,c.Slots_,c.List_,set,news,op))=some ((i.N_==0 || (i.N_==1 && (match idx c.Sign_ (tyF c r i).Param_ with | some p=>p.Kind_==2 | none=>false))),c.Sign_,c.Regs_,c.Slots_,c.List_,set,news,op)
     rw [hy]
     cases (i.N_==0) <;> cases (i.N_==1) <;> simp
end
end Loom
set_option linter.unusedVariables false
set_option linter.unusedSimpArgs false
set_option maxRecDepth 100000
namespace Loom
open Go
theorem iter_allAt {α Y Z:Type} {l:List α} {p:α→Bool} {body:Int→Option (Bo Int Y Z)} {z:Int→Z} {y:Y}
  (hb:∀ (k:Nat) (h:k<l.length),body k=some (bif p l[k] then .go ((k+1:Nat):Int) else .ret (z k))) (he:body l.length=some (.out y)) :
  ∀ (j k f:Nat),k+j=l.length→j<f→iter body f (k:Int)=some (match (l.drop k).findIdx? (fun x=>!p x) with | none=>.out y | some i=>.ret (z ((k+i:Nat):Int)))
 | 0,k,f+1,hk,hf=>by
  obtain rfl:k=l.length:=by omega
  unfold iter
  rw [he]
  simp
 | j+1,k,f+1,hk,hf=>by
  have h:k<l.length:=by omega
  unfold iter
  rw [hb k h,List.drop_eq_getElem_cons h]
  cases hp:p l[k] with
  | false =>
   simp only [cond_false,List.findIdx?_cons,hp,Bool.not_false,if_true]
   rfl
  | true =>
   simp only [cond_true]
   rw [iter_allAt hb he j (k+1) f (by omega) (by omega)]
   rw [List.findIdx?_cons]
   simp only [hp,Bool.not_true,cond_false,Bool.false_eq_true,if_false]
   cases (l.drop (k+1)).findIdx? (fun x=>!p x) with
   | none=>rfl
   | some i=>simp only [Option.map_some]; congr 4; omega
theorem iter_all {α Y Z:Type} {l:List α} {p:α→Bool} {body:Int→Option (Bo Int Y Z)} {z:Int→Z} {y:Y} {f:Nat}
  (hb:∀ (k:Nat) (h:k<l.length),body k=some (bif p l[k] then .go ((k+1:Nat):Int) else .ret (z k))) (he:body l.length=some (.out y)) (hf:l.length<f) :
  iter body f 0=some (match l.findIdx? (fun x=>!p x) with | none=>.out y | some i=>.ret (z (i:Int))):=by
 have:=iter_allAt hb he l.length 0 f (by omega) hf
 simpa using this
theorem find_all {α:Type} (l:List α) (p:α→Bool):(l.findIdx? (fun x=>!p x)).isNone=l.all p:=by
 induction l with
 | nil=>rfl
 | cons x l ih =>
  rw [List.findIdx?_cons,List.all_cons,← ih]
  cases p x <;> simp
theorem iter_all1 {α Y Z:Type} {l:List α} {p:α→Bool} {body:Int→Option (Bo Int Y Z)} {z:Z} {y:Y} {f:Nat}
  (hb:∀ (k:Nat) (h:k<l.length),body k=some (bif p l[k] then .go ((k+1:Nat):Int) else .ret z)) (he:body l.length=some (.out y)) (hf:l.length<f) :
  iter body f 0=some (bif l.all p then .out y else .ret z):=by
 rw [iter_all (z:=fun _=>z) hb he hf,← find_all]
 cases l.findIdx? (fun x=>!p x) <;> rfl
theorem iter_foldAt {α S Z:Type} {l:List α} {F:S→α→S} {Inv:S→Prop} {body:Int×S→Option (Bo (Int×S) (Int×S) Z)}
  (hb:∀ (k:Nat) (s:S) (h:k<l.length),Inv s→body (k,s)=some (.go (((k+1:Nat):Int),F s l[k]))∧Inv (F s l[k])) (he:∀ s,Inv s→body (l.length,s)=some (.out ((l.length:Int),s))) :
  ∀ (j k f:Nat) (s:S),k+j=l.length→j<f→Inv s→iter body f ((k:Int),s)=some (.out ((l.length:Int),(l.drop k).foldl F s))
 | 0,k,f+1,s,hk,hf,hi=>by
  obtain rfl:k=l.length:=by omega
  unfold iter
  rw [he s hi]
  simp
 | j+1,k,f+1,s,hk,hf,hi=>by
  have h:k<l.length:=by omega
  obtain ⟨h1,h2⟩:=hb k s h hi
  unfold iter
  rw [h1,List.drop_eq_getElem_cons h]
  exact iter_foldAt hb he j (k+1) f _ (by omega) (by omega) h2
theorem iter_fold {α S Z:Type} {l:List α} {F:S→α→S} {Inv:S→Prop} {body:Int×S→Option (Bo (Int×S) (Int×S) Z)} {f:Nat} {s:S}
  (hb:∀ (k:Nat) (s:S) (h:k<l.length),Inv s→body (k,s)=some (.go (((k+1:Nat):Int),F s l[k]))∧Inv (F s l[k])) (he:∀ s,Inv s→body (l.length,s)=some (.out ((l.length:Int),s)))
  (hf:l.length<f) (hi:Inv s):iter body f (0,s)=some (.out ((l.length:Int),l.foldl F s)):=by
 have:=iter_foldAt hb he l.length 0 f s (by omega) hf hi
 simpa using this
theorem wrap1 {k:Nat} (h:k<4611686018427387904):IntKind.i64.wrap ((k:Int)+1)=((k+1:Nat):Int):=by
 rw [wrapI (by omega) (by omega)]; simp
theorem wrapm {k:Nat} (h:k<4611686018427387904):IntKind.i64.wrap ((k:Int) - 1)=(k:Int) - 1:=wrapI (by omega) (by omega)
theorem reads_len (i:Xc):(reads i).length≤3:=by
 unfold reads
 split
 ·rename_i r _
  cases r.a==0 <;> cases r.b==0 <;> cases r.c==0 <;> simp
 ·simp
theorem fits_row {c:Xf} {i:Xc} (h:fits c i=true):∃ r,rowD i.Op_=some r∧regOk c r.d i.D_ ty0=true∧regOk c r.a i.A_ (tyD c r i)=true∧regOk c r.b i.B_ (tyD c r i)=true∧regOk c r.c i.C_ (tyD c r i)=true:=by
 unfold fits at h
 split at h
 ·cases h
 ·rename_i r hr
  simp only [Bool.and_eq_true] at h
  exact ⟨r,hr,h.1,h.2.1,h.2.2.1,h.2.2.2.1⟩
theorem regOk_in {c:Xf} {s k:Int} {d:Xb} (h:regOk c s k d=true) (hs:(s==0)=false):0≤k∧k<c.Regs_.length:=by
 obtain ⟨t,ht⟩:=regOk_get h hs
 exact (idx_mem ht).2
theorem reads_in {c:Xf} {i:Xc} (h:fits c i=true):∀ y ∈ reads i,0≤y∧y<c.Regs_.length:=by
 obtain ⟨r,hr,h1,h2,h3,h4⟩:=fits_row h
 intro y hy
 unfold reads at hy
 rw [hr] at hy
 simp only [List.mem_append] at hy
 rcases hy with hy | hy | hy
 ·cases hz:r.a==0 with
  | true=>rw [hz] at hy; cases hy
  | false =>
   rw [hz] at hy
   simp only [cond_false,List.mem_singleton] at hy
   subst hy; exact regOk_in h2 hz
 ·cases hz:r.b==0 with
  | true=>rw [hz] at hy; cases hy
  | false =>
   rw [hz] at hy
   simp only [cond_false,List.mem_singleton] at hy
   subst hy; exact regOk_in h3 hz
 ·cases hz:r.c==0 with
  | true=>rw [hz] at hy; cases hy
  | false =>
   rw [hz] at hy
   simp only [cond_false,List.mem_singleton] at hy
   subst hy; exact regOk_in h4 hz
theorem sets_in {c:Xf} {i:Xc} (h:fits c i=true) (hs:sets i=true):0≤i.D_∧i.D_<c.Regs_.length:=by
 obtain ⟨r,hr,h1,_⟩:=fits_row h
 unfold sets at hs
 rw [hr] at hs
 simp only [Bool.not_eq_true'] at hs
 exact regOk_in h1 hs
def rdOk (set:List Bool) (i:Xc):Bool:=(reads i).all fun y=>(set[y.toNat]?).getD false
theorem get_in {α:Type} {l:List α} {y:Int} (h0:0≤y) (h1:y<l.length):∃ b,l[y.toNat]? = some b:=by
 have:y.toNat<l.length:=by omega
 exact ⟨_,List.getElem?_eq_getElem this⟩
theorem f37_loop {n m:Nat} {c:Xf} {i:Xc} {set:List Bool} {news:List (List Int)} {op:List Int}
  (h:∀ y ∈ reads i,0≤y∧y<set.length) :
  iter (f37_b1 n (c.Sign_,c.Regs_,c.Slots_,c.List_,set,news,op,i) (((reads i).length:Int),reads i)) (m+4) 0=some (bif rdOk set i then .out ((reads i).length:Int) else .ret ()):=by
 refine iter_all1 (fun k hk=>?_) ?_ (by have:=reads_len i; omega)
 ·have h3:=reads_len i
  obtain ⟨y0,y1⟩:=h _ (List.getElem_mem hk)
  obtain ⟨b,hb⟩:=get_in y0 y1
  rw [f37_b1_eq]
  have e1:decide ((k:Int)<((reads i).length:Int))=true:=by simp; omega
  have e2:(reads i)[(k:Int).toNat]? = some (reads i)[k]:=by simp [hk]
  simp only [e1,cond_true]
  rw [need_t (by omega),e2]
  simp only [Option.bind_some]
  rw [need_t ⟨y0,y1⟩,hb,wrap1 (by omega)]
  cases b <;> rfl
 ·rw [f37_b1_eq]; simp
theorem f41_loop {n m:Nat} {c:Xf} {i:Xc} {set:List Bool} {op:List Xg} {b0:Bool} (h:∀ y ∈ reads i,0≤y∧y<set.length) :
  iter (f41_b1 n (c,i,set,op) (b0,reads i)) (m+4) 0=some (bif rdOk set i then .out ((reads i).length:Int) else .ret ()):=by
 refine iter_all1 (fun k hk=>?_) ?_ (by have:=reads_len i; omega)
 ·have h3:=reads_len i
  obtain ⟨y0,y1⟩:=h _ (List.getElem_mem hk)
  obtain ⟨b,hb⟩:=get_in y0 y1
  rw [f41_b1_eq]
  have e1:decide ((k:Int)<((reads i).length:Int))=true:=by simp; omega
  have e2:(reads i)[(k:Int).toNat]? = some (reads i)[k]:=by simp [hk]
  have e3:idx set (reads i)[k]=some b:=by unfold idx; rw [if_pos y0,hb]
  simp only [e1,cond_true]
  rw [need_t (by omega),e2]
  simp only [Option.bind_some]
  rw [e3,wrap1 (by omega),hb]
  cases b <;> rfl
 ·rw [f41_b1_eq]; simp
end Loom
set_option linter.unusedVariables false
set_option linter.unusedSimpArgs false
set_option maxRecDepth 100000
namespace Loom
open Go
def lst (op:List Int):Int:=match op.getLast? with | some x=>x | none=>-1
def undo (set:List Bool) (l:List Int):List Bool:=l.foldl (fun s r=>s.set r.toNat false) set
def vecAt (c:Xf) (k p:Int):Bool:=match idx c.Regs_ k with | some t=>t.Kind_==3 && (t.Param_==p && true) | none=>false
def onD (i:Xc):Bool:=elem i.Op_ || (i.Op_==29 || (i.Op_==30 || i.Op_==32))
def onA (i:Xc):Bool:=i.Op_==31 || i.Op_==33
def vecOk (c:Xf) (i:Xc) (p:Int):Bool:=bif onD i then vecAt c i.D_ p else bif onA i then vecAt c i.A_ p else false
theorem last_get {α:Type} (l:List α) (h:0<l.length):∃ x,l.getLast? = some x∧l[l.length - 1]? = some x:=by
 rw [List.getLast?_eq_getElem?]
 exact ⟨l[l.length - 1],by simp [h],by simp [h]⟩
theorem wrapl {k:Nat} (h0:0<k) (h:k<4611686018427387904):(IntKind.i64.wrap ((k:Int) - 1)).toNat=k - 1∧0≤IntKind.i64.wrap ((k:Int) - 1)∧IntKind.i64.wrap ((k:Int) - 1)<k:=by
 rw [wrapm h]; omega
theorem lastI {R:Type} (op:List Int) (h:op.length<4611686018427387904):(bif (decide ((op.length:Int) > (0:Int))) then (need (0≤(IntKind.i64.wrap ((op.length:Int) - (1:Int)))∧(IntKind.i64.wrap ((op.length:Int) - (1:Int)))<(op.length:Int)) ((op[(IntKind.i64.wrap ((op.length:Int) - (1:Int))).toNat]?).bind fun y1=>some (.inl y1))) else (some (.inl (-1:Int))):Option (Int⊕R))=some (.inl (lst op)):=by
 by_cases h0:0<op.length
 ·have e:decide ((op.length:Int) > 0)=true:=by simp; omega
  obtain ⟨w1,w2,w3⟩:=wrapl h0 h
  obtain ⟨x,x1,x2⟩:=last_get op h0
  rw [e,cond_true,need_t ⟨w2,w3⟩,w1,x2]
  unfold lst
  rw [x1]; rfl
 ·have:op=[]:=List.eq_nil_of_length_eq_zero (by omega)
  subst this
  rfl
section
variable {n:Nat} {c:Xf} {i:Xc} {set:List Bool} {news:List (List Int)} {op:List Int}
theorem f36_when (ho:op.length<4611686018427387904) (h:i.Op_=34):f36 n (c.Sign_,c.Regs_,c.Slots_,c.List_,set,news,op,i)=some (!(decide (lst op≥0) || (op.length:Int)==64),c.Sign_,c.Regs_,c.Slots_,c.List_,set,news,op):=by
 rw [f36_eq]
 dsimp only
 rw [lastI op ho,h]
 have e1:((34:Int)==34)=true:=rfl
 have e2:((34:Int)==36)=false:=rfl
 simp only [Option.bind_some,orRet_inl,e1,e2,cond_true,cond_false]
 cases decide (lst op≥0) <;> cases ((op.length:Int)==64) <;> rfl
theorem f36_loop (ho:op.length≤64) (h:i.Op_=36):f36 n (c.Sign_,c.Regs_,c.Slots_,c.List_,set,news,op,i)=some (!(decide (lst op≥0) || (op.length:Int)==64),c.Sign_,c.Regs_,c.Slots_,c.List_,set,news,bif (decide (lst op≥0) || (op.length:Int)==64) then op else op++[i.N_]):=by
 rw [f36_eq]
 dsimp only
 rw [lastI op (by omega),h]
 have e1:((36:Int)==34)=false:=rfl
 have e2:((36:Int)==36)=true:=rfl
 simp only [Option.bind_some,orRet_inl,e1,e2,cond_true,cond_false]
 rw [need_t (by simp; omega)]
 cases decide (lst op≥0) <;> cases ((op.length:Int)==64) <;> rfl
theorem f36_next (ho:op.length≤64) (h:i.Op_=37):f36 n (c.Sign_,c.Regs_,c.Slots_,c.List_,set,news,op,i)=some (!(decide (lst op<0)),c.Sign_,c.Regs_,c.Slots_,c.List_,set,news,bif decide (lst op<0) then op else op.dropLast):=by
 rw [f36_eq]
 dsimp only
 rw [lastI op (by omega),h]
 have e1:((37:Int)==34)=false:=rfl
 have e2:((37:Int)==36)=false:=rfl
 have e3:((37:Int)==35)=false:=rfl
 have e4:((37:Int)==37)=true:=rfl
 simp only [Option.bind_some,orRet_inl,e1,e2,e3,e4,cond_true,cond_false]
 cases hl:decide (lst op<0) with
 | true=>rfl
 | false =>
  have h0:0<op.length:=by
   cases op with
   | nil=>simp [lst] at hl
   | cons _ _=>simp
  obtain ⟨w1,w2,w3⟩:=wrapl h0 (by omega)
  rw [cond_false,need_t ⟨w2,by omega⟩,w1,need_t (by omega)]
  simp [List.dropLast_eq_take]
theorem f36_else (ho:op.length≤64) (hf:fits c i=true) (h1:i.Op_ ≠ 34) (h2:i.Op_ ≠ 35) (h3:i.Op_ ≠ 36) (h4:i.Op_ ≠ 37) (hD:onD i=true→∃ t,idx c.Regs_ i.D_=some t) (hA:onA i=true→∃ t,idx c.Regs_ i.A_=some t) :
  f36 n (c.Sign_,c.Regs_,c.Slots_,c.List_,set,news,op,i)=some ((bif decide (lst op<0) then true else vecOk c i (lst op)),c.Sign_,c.Regs_,c.Slots_,c.List_,set,news,op):=by
 rw [f36_eq]
 dsimp only
 rw [lastI op (by omega)]
 have e1:(i.Op_==34)=false:=by simpa using h1
 have e2:(i.Op_==36)=false:=by simpa using h3
 have e3:(i.Op_==35)=false:=by simpa using h2
 have e4:(i.Op_==37)=false:=by simpa using h4
 simp only [Option.bind_some,orRet_inl,e1,e2,e3,e4,cond_true,cond_false,f13_is]
 cases hl:decide (lst op<0) with
 | true=>rfl
 | false =>
  simp only [cond_false]
  have hB:(bif elem i.Op_ then some (Sum.inl (true,lst op)) else bif i.Op_==29 then some (.inl (true,lst op)) else bif i.Op_==30 then some (.inl (true,lst op)) else some (.inl (i.Op_==32,lst op)):Option (Bool×Int⊕(Bool×List Xd×List Xb×List Xe×List Xc×List Bool×List (List Int)×List Int)))=some (.inl (onD i,lst op)):=by
   unfold onD
   cases elem i.Op_ <;> cases i.Op_==29 <;> cases i.Op_==30 <;> rfl
  rw [hB,Option.bind_some,orRet_inl]
  dsimp only
  unfold vecOk
  cases hd:onD i with
  | true =>
   obtain ⟨t,ht⟩:=hD hd
   simp only [cond_true,vecAt,ht,Option.bind_some]
  | false =>
   simp only [cond_false]
   have hB2:(bif i.Op_==31 then some (Sum.inl (true,lst op)) else some (.inl (i.Op_==33,lst op)):Option (Bool×Int⊕(Bool×List Xd×List Xb×List Xe×List Xc×List Bool×List (List Int)×List Int)))=some (.inl (onA i,lst op)):=by
    unfold onA
    cases i.Op_==31 <;> rfl
   rw [hB2,Option.bind_some,orRet_inl]
   dsimp only
   cases ha:onA i with
   | true =>
    obtain ⟨t,ht⟩:=hA ha
    simp only [cond_true,vecAt,ht,Option.bind_some]
   | false=>rfl
theorem undo_len (set:List Bool) (l:List Int):(undo set l).length=set.length:=by
 unfold undo
 induction l generalizing set with
 | nil=>rfl
 | cons x l ih=>simp only [List.foldl_cons]; rw [ih]; simp
theorem f36_end {m:Nat} {nl:List Int} (ho:op.length≤64) (h:i.Op_=35) (hn:0<op.length→lst op<0→news.getLast? = some nl∧news.length<4611686018427387904∧nl.length<m+4∧nl.length<4611686018427387904∧∀ r ∈ nl,0≤r∧r<set.length) :
  f36 (m+4) (c.Sign_,c.Regs_,c.Slots_,c.List_,set,news,op,i)=some (!((op.length:Int)==0 || decide (lst op≥0)),c.Sign_,c.Regs_,c.Slots_,c.List_,bif ((op.length:Int)==0 || decide (lst op≥0)) then (set,news,op) else (undo set nl,news.dropLast,op.dropLast)):=by
 rw [f36_eq]
 dsimp only
 rw [lastI op (by omega),h]
 have e1:((35:Int)==34)=false:=rfl
 have e2:((35:Int)==36)=false:=rfl
 have e3:((35:Int)==35)=true:=rfl
 simp only [Option.bind_some,orRet_inl,e1,e2,e3,cond_true,cond_false]
 have hB:(bif ((op.length:Int)==0) then some (Sum.inl true) else some (.inl (decide (lst op≥0))):Option (Bool⊕(Bool×List Xd×List Xb×List Xe×List Xc×List Bool×List (List Int)×List Int)))=some (.inl ((op.length:Int)==0 || decide (lst op≥0))):=by
  cases (op.length:Int)==0 <;> rfl
 rw [hB,Option.bind_some,orRet_inl]
 cases hq:((op.length:Int)==0 || decide (lst op≥0)) with
 | true=>rfl
 | false =>
  simp only [Bool.or_eq_false_iff,beq_eq_false_iff_ne,ne_eq,decide_eq_false_iff_not] at hq
  have h0:0<op.length:=by omega
  obtain ⟨n1,n2,n3,n4,n5⟩:=hn h0 (by omega)
  have hnl:0<news.length:=by
   cases news with
   | nil=>simp at n1
   | cons _ _=>simp
  obtain ⟨w1,w2,w3⟩:=wrapl h0 (by omega)
  obtain ⟨v1,v2,v3⟩:=wrapl hnl n2
  have hg:news[news.length - 1]? = some nl:=by rw [← List.getLast?_eq_getElem?]; exact n1
  simp only [cond_false]
  rw [need_t ⟨v2,v3⟩,v1,hg]
  simp only [Option.bind_some]
  have hit:iter (f36_b1 (m+4) (c.Sign_,c.Regs_,c.Slots_,c.List_,set,news,op,i) (nl.length:Int)) (m+4) (0,set)=some (.out ((nl.length:Int),undo set nl)):=by
   refine iter_fold (F:=fun (s:List Bool) (r:Int)=>s.set r.toNat false) (Inv:=fun (s:List Bool)=>s.length=set.length) (fun k s hk hs=>?_) (fun s hs=>?_) n3 rfl
   ·obtain ⟨r0,r1⟩:=n5 _ (List.getElem_mem hk)
    obtain ⟨b,hb⟩:=get_in (l:=s) r0 (by omega)
    rw [f36_b1_eq]
    have e1:decide ((k:Int)<(nl.length:Int))=true:=by simp; omega
    have e2:nl[(k:Int).toNat]? = some nl[k]:=by simp [hk]
    dsimp only
    rw [e1,v1,hg]
    simp only [cond_true,Option.bind_some]
    rw [need_t (by omega),e2]
    simp only [Option.bind_some]
    rw [need_t ⟨r0,by omega⟩,hb,wrap1 (by omega)]
    exact ⟨rfl,by simpa using hs⟩
   ·rw [f36_b1_eq]; simp
  rw [hit]
  simp only [Option.bind_some,Bo.then]
  rw [need_t ⟨v2,by omega⟩,need_t (by omega),need_t ⟨w2,by omega⟩,w1,need_t (by omega)]
  simp [List.dropLast_eq_take]
end
end Loom
set_option linter.unusedVariables false
set_option linter.unusedSimpArgs false
set_option maxRecDepth 100000
namespace Loom
open Go
def addNews (news:List (List Int)) (d:Int):List (List Int):=match news.getLast? with | some l=>news.set (news.length - 1) (l++[d]) | none=>news
section
variable {n:Nat} {c:Xf} {i:Xc} {set:List Bool} {news:List (List Int)} {op:List Int}
theorem f37_when {m:Nat} (h:i.Op_=34) (hr:∀ y ∈ reads i,0≤y∧y<set.length) (ho:op.length≤64) (hn:news.length≤64) :
  f37 (m+4) (c.Sign_,c.Regs_,c.Slots_,c.List_,set,news,op,i)=some (rdOk set i,c.Sign_,c.Regs_,c.Slots_,c.List_,set,bif rdOk set i then news++[[]] else news,bif rdOk set i then op++[-1] else op):=by
 rw [f37_eq]
 dsimp only
 rw [f9_is]
 simp only [Option.bind_some]
 rw [f37_loop hr]
 cases rdOk set i with
 | false=>rfl
 | true =>
  have e1:((34:Int)==34)=true:=rfl
  have hs:sets i=false:=by
   unfold sets; rw [h]; rfl
  simp only [cond_true,Option.bind_some,Bo.then,h,e1]
  rw [need_t (by simp; omega),need_t (by simp; omega)]
  simp only [Option.bind_some,orRet_inl,f11_is,hs,cond_false]
theorem f37_else {m:Nat} (h:i.Op_ ≠ 34) (hr:∀ y ∈ reads i,0≤y∧y<set.length) (hD:sets i=true→0≤i.D_∧i.D_<set.length) (hn:news.length≤64) (hnl:∀ l ∈ news,l.length<1000000) :
  f37 (m+4) (c.Sign_,c.Regs_,c.Slots_,c.List_,set,news,op,i)=some (rdOk set i,c.Sign_,c.Regs_,c.Slots_,c.List_,bif rdOk set i && (sets i && !((set[i.D_.toNat]?).getD false)) then (set.set i.D_.toNat true,addNews news i.D_,op) else (set,news,op)):=by
 rw [f37_eq]
 dsimp only
 rw [f9_is]
 simp only [Option.bind_some]
 rw [f37_loop hr]
 cases rdOk set i with
 | false=>rfl
 | true =>
  have e1:(i.Op_==34)=false:=by simpa using h
  simp only [cond_true,Option.bind_some,Bo.then,e1,cond_false,orRet_inl,f11_is]
  cases hs:sets i with
  | false=>rfl
  | true =>
   obtain ⟨d0,d1⟩:=hD hs
   obtain ⟨b,hb⟩:=get_in d0 d1
   simp only [cond_true]
   rw [need_t ⟨d0,d1⟩,hb]
   simp only [Option.bind_some,orRet_inl,Option.getD_some]
   cases b with
   | true=>rfl
   | false =>
    simp only [Bool.not_false,cond_true,Bool.and_self]
    rw [need_t ⟨d0,d1⟩]
    by_cases h0:0<news.length
    ·obtain ⟨w1,w2,w3⟩:=wrapl h0 (by omega)
     obtain ⟨l,l1,l2⟩:=last_get news h0
     have e2:decide (IntKind.i64.wrap ((news.length:Int) - 1)≥0)=true:=by simpa using w2
     have hl:l.length<1000000:=hnl l (List.mem_of_getLast? l1)
     rw [e2,cond_true,need_t ⟨w2,w3⟩,w1,l2]
     simp only [Option.bind_some]
     rw [need_t (by simp; omega),need_t ⟨w2,w3⟩,need_t (p:=True∧news.length - 1<news.length) ⟨trivial,by omega⟩]
     unfold addNews
     rw [l1]
    ·have:news=[]:=List.eq_nil_of_length_eq_zero (by omega)
     subst this
     rfl
end
end Loom
set_option linter.unusedVariables false
set_option linter.unusedSimpArgs false
set_option maxRecDepth 100000
namespace Loom
open Go
def vecP (c:Xf) (i:Xc):Int:=match idx c.Regs_ (bif onD i then i.D_ else bif onA i then i.A_ else -1) with | some t=>bif t.Kind_==3 then t.Param_ else -1 | none=>-1
theorem f60_is {n:Nat} {c:Xf} {i:Xc}:f60 n (c,i)=some (vecP c i):=by
 rw [f60_eq]
 simp only [f14_is,Option.bind_some]
 have hB:((bif elem i.Op_ then some (Sum.inl true) else bif i.Op_==29 then some (.inl true) else bif i.Op_==30 then some (.inl true) else some (.inl (i.Op_==32)):Option (Bool⊕(Int⊕Int))).bind (orRet fun s1=>bif s1 then some (Sum.inl i.D_) else (bif i.Op_==31 then some (Sum.inl true) else some (.inl (i.Op_==33)):Option (Bool⊕(Int⊕Int))).bind (orRet fun s2=>bif s2 then some (Sum.inl i.A_) else some (.inl (-1:Int)))))
   = some (.inl (bif onD i then i.D_ else bif onA i then i.A_ else -1)):=by
  unfold onD onA
  cases elem i.Op_ <;> cases i.Op_==29 <;> cases i.Op_==30 <;> cases i.Op_==32 <;> cases i.Op_==31 <;> cases i.Op_==33 <;> rfl
 rw [hB,Option.bind_some,orRet_inl]
 unfold vecP
 generalize (bif onD i then i.D_ else bif onA i then i.A_ else -1)=k
 by_cases h0:k<0
 ·rw [idx_none (.inl h0)]
  simp [h0]
 ·by_cases h1:k≥c.Regs_.length
  ·rw [idx_none (.inr h1)]
   simp [h0,h1]
  ·obtain ⟨t,ht,_⟩:=idx_get (l:=c.Regs_) (n:=k) (by omega) (by omega)
   have e1:decide (k<0)=false:=by simpa using h0
   have e2:decide (k≥(c.Regs_.length:Int))=false:=by simp; omega
   have e3:(t.Kind_ != 3) = !(t.Kind_==3):=rfl
   simp only [e1,e2,ht,cond_false,Option.bind_some,orRet_inl,e3]
   cases t.Kind_==3 <;> rfl
theorem vec_eq {c:Xf} {i:Xc} {p:Int} (hp:0≤p):(vecP c i != p) = !(vecOk c i p):=by
 have key:∀ k:Int,((match idx c.Regs_ k with | some t=>bif t.Kind_==3 then t.Param_ else -1 | none=>-1) != p) = !(vecAt c k p):=fun k=>by
  unfold vecAt
  have e:((-1:Int) != p)=true:=by simp; omega
  cases idx c.Regs_ k with
  | none=>exact e
  | some t =>
   simp only
   cases t.Kind_==3 with
   | false=>exact e
   | true=>simp [bne]
 have e:((-1:Int) != p)=true:=by simp; omega
 unfold vecP vecOk
 cases onD i with
 | true=>exact key _
 | false =>
  simp only [cond_false]
  cases onA i with
  | true=>exact key _
  | false =>
   simp only [cond_false,Bool.not_false]
   rw [idx_none (.inl (by decide))]
   exact e
def isLoop (o:List Xg):Bool:=match o.getLast? with | some x=>x.Op_==36 | none=>false
def lstP (o:List Xg):Int:=match o.getLast? with | some x=>x.Param_ | none=>0
def placeR (i:Xc) (o:List Xg):Bool :=
 bif i.Op_==34 || i.Op_==36 then decide ((o.length:Int)<64) else bif i.Op_==35 then (decide ((o.length:Int) > 0) && !(isLoop o)) else bif i.Op_==37 then isLoop o else true
def standsR (c:Xf) (i:Xc) (set:List Bool) (o:List Xg):Bool :=
 fits c i && (!(isLoop o && (!(i.Op_==37) && vecP c i != lstP o)) && (rdOk set i && placeR i o))
theorem f41_is {m:Nat} {c:Xf} {i:Xc} {set:List Bool} {o:List Xg} (hr:∀ t ∈ c.Regs_,mayT c.Sign_ t=true) (h0:0≤i.Bits_) (h1:i.Bits_<4294967296)
  (hs:set.length=c.Regs_.length) (ho:o.length<4611686018427387904):f41 (m+4) (c,i,set,o)=some (standsR c i set o):=by
 rw [f41_eq]
 have hL:(bif (decide ((o.length:Int) > (0:Int))) then ((idx o (IntKind.i64.wrap ((o.length:Int) - (1:Int)))).bind fun y1=>some (Sum.inl (y1.Op_==(36:Int)))) else (some (.inl false)):Option (Bool⊕Bool))=some (.inl (isLoop o)):=by
  by_cases q:0<o.length
  ·have e:decide ((o.length:Int) > 0)=true:=by simp; omega
   obtain ⟨w1,w2,w3⟩:=wrapl q ho
   obtain ⟨x,x1,x2⟩:=last_get o q
   have e2:idx o (IntKind.i64.wrap ((o.length:Int) - 1))=some x:=by unfold idx; rw [if_pos w2,w1,x2]
   rw [e,e2]
   unfold isLoop
   rw [x1]; rfl
  ·have:o=[]:=List.eq_nil_of_length_eq_zero (by omega)
   subst this; rfl
 have hP:isLoop o=true→idx o (IntKind.i64.wrap ((o.length:Int) - 1))=o.getLast?:=fun hl=>by
  have q:0<o.length:=by
   cases o with
   | nil=>cases hl
   | cons _ _=>simp
  obtain ⟨w1,w2,w3⟩:=wrapl q ho
  obtain ⟨x,x1,x2⟩:=last_get o q
  unfold idx
  rw [if_pos w2,w1,x2,x1]
 dsimp only
 rw [hL,Option.bind_some,orRet_inl]
 simp only [f59_is hr h0 h1,f60_is,Option.bind_some]
 unfold standsR
 cases hf:fits c i with
 | false=>rfl
 | true =>
  have hB:(bif isLoop o then (bif i.Op_ != 37 then ((idx o (IntKind.i64.wrap ((o.length:Int) - 1))).bind fun y4=>some (Sum.inl (isLoop o,vecP c i != y4.Param_))) else some (.inl (isLoop o,false))) else some (.inl (isLoop o,false)):Option (Bool×Bool⊕Bool))=some (.inl (isLoop o,isLoop o && (!(i.Op_==37) && vecP c i != lstP o))):=by
   have e1:(i.Op_ != 37) = !(i.Op_==37):=rfl
   rw [e1]
   cases hl:isLoop o with
   | false=>rfl
   | true =>
    rw [hP hl]
    cases i.Op_==37 with
    | true=>rfl
    | false =>
     unfold lstP
     cases hg:o.getLast? with
     | none=>unfold isLoop at hl; rw [hg] at hl; cases hl
     | some x=>rfl
  simp only [Bool.not_true,cond_false]
  rw [hB,Option.bind_some,orRet_inl]
  dsimp only
  cases hb:(isLoop o && (!(i.Op_==37) && vecP c i != lstP o)) with
  | true=>rfl
  | false =>
   simp only [cond_false,f10_is,Option.bind_some,Bool.not_false,Bool.true_and]
   rw [f41_loop (fun y hy=>by rw [hs]; exact reads_in hf y hy)]
   cases rdOk set i with
   | false=>rfl
   | true =>
    simp only [cond_true,Option.bind_some,Bo.then,Bool.true_and]
    unfold placeR
    cases i.Op_==34 <;> cases i.Op_==36 <;> cases i.Op_==35 <;> cases i.Op_==37 <;> cases decide ((o.length:Int) > 0) <;> rfl
end Loom
set_option linter.unusedVariables false
set_option linter.unusedSimpArgs false
set_option maxRecDepth 100000
namespace Loom
open Go
def code (o:Xg):Int:=bif o.Op_==36 then o.Param_ else -1
def isWhen (o:Xg):Bool:=o.Op_==34
def chain (N:Nat):List Bool→List (List Int)→List Xg→Prop
 | _,[],[]=>True
 | set,l::ls,w::ws=>undo set l=w.Set_∧l.length≤N∧(∀ r ∈ l,0≤r∧r<set.length)∧chain N w.Set_ ls ws
 | _,_,_=>False
structure Two (c:Xf) (N:Nat) (set:List Bool) (news:List (List Int)) (op:List Int) (o:List Xg):Prop where
 len:set.length=c.Regs_.length
 op:op=o.map code
 le:o.length≤64
 ok:∀ x ∈ o,x.Op_=34∨(x.Op_=36∧0≤x.Param_)
 ch:chain N set news.reverse (o.filter isWhen).reverse
theorem onD_row {i:Xc} {r:Sorts} (h:rowD i.Op_=some r) (hd:onD i=true):(r.d==0)=false:=by
 obtain ⟨op,d,a,b,c,N,bits⟩:=i
 dsimp only at h
 rcases opCase op with (rfl | rfl | rfl | rfl | rfl | rfl | rfl | rfl | rfl | rfl | rfl | rfl | rfl | rfl | rfl | rfl | rfl | rfl | rfl | rfl | rfl | rfl | rfl | rfl | rfl | rfl | rfl | rfl | rfl | rfl | rfl | rfl | rfl | rfl | rfl | rfl | rfl) | h0
 iterate 37 (· first | (cases h; rfl) | (exact absurd hd (by decide)) | (cases h; revert hd; simp [onD,elem]))
 rw [rowD_none h0] at h; cases h
theorem onA_row {i:Xc} {r:Sorts} (h:rowD i.Op_=some r) (hd:onA i=true):(r.a==0)=false:=by
 obtain ⟨op,d,a,b,c,N,bits⟩:=i
 dsimp only at h
 rcases opCase op with (rfl | rfl | rfl | rfl | rfl | rfl | rfl | rfl | rfl | rfl | rfl | rfl | rfl | rfl | rfl | rfl | rfl | rfl | rfl | rfl | rfl | rfl | rfl | rfl | rfl | rfl | rfl | rfl | rfl | rfl | rfl | rfl | rfl | rfl | rfl | rfl | rfl) | h0
 iterate 37 (· first | (cases h; rfl) | (exact absurd hd (by decide)) | (cases h; revert hd; simp [onA]))
 rw [rowD_none h0] at h; cases h
theorem onD_get {c:Xf} {i:Xc} (h:fits c i=true) (hd:onD i=true):∃ t,idx c.Regs_ i.D_=some t:=by
 obtain ⟨r,hr,h1,_⟩:=fits_row h
 exact regOk_get h1 (onD_row hr hd)
theorem onA_get {c:Xf} {i:Xc} (h:fits c i=true) (hd:onA i=true):∃ t,idx c.Regs_ i.A_=some t:=by
 obtain ⟨r,hr,_,h1,_⟩:=fits_row h
 exact regOk_get h1 (onA_row hr hd)
section
variable {c:Xf} {N:Nat} {set:List Bool} {news:List (List Int)} {op:List Int} {o:List Xg} {i:Xc}
theorem Two.lst (h:Two c N set news op o):lst op=(match o.getLast? with | some x=>code x | none=>-1):=by
 unfold Loom.lst
 rw [h.op,List.getLast?_map]
 cases o.getLast? <;> rfl
theorem Two.loop (h:Two c N set news op o):decide (Loom.lst op≥0)=isLoop o∧(isLoop o=true→Loom.lst op=lstP o∧0≤lstP o):=by
 rw [h.lst]
 unfold isLoop lstP
 cases hg:o.getLast? with
 | none=>exact ⟨by decide,fun h=>by cases h⟩
 | some x =>
  have hx:=h.ok x (List.mem_of_getLast? hg)
  rcases hx with hx | ⟨hx,hp⟩
  ·have e:code x = -1:=by unfold code; rw [hx]; rfl
   have e2:(x.Op_==36)=false:=by rw [hx]; rfl
   simp only [e,e2]
   exact ⟨by decide,fun h=>by cases h⟩
  ·have e:code x=x.Param_:=by unfold code; rw [hx]; rfl
   have e2:(x.Op_==36)=true:=by rw [hx]; rfl
   simp only [e,e2]
   exact ⟨by simpa using hp,fun _=>⟨by trivial,hp⟩⟩
theorem lt_ge (x:Int):decide (x<0) = !(decide (x≥0)):=by
 by_cases h:x<0
 ·have:¬ x≥0:=by omega
  simp [h]
 ·have:x≥0:=by omega
  simp [h,this]
theorem chain_mono {N M:Nat} (hNM:N≤M):∀ (set:List Bool) (ls:List (List Int)) (ws:List Xg),chain N set ls ws→chain M set ls ws
 | _,[],[],_=>trivial
 | set,l::ls,w::ws,h=>⟨h.1,Nat.le_trans h.2.1 hNM,h.2.2.1,chain_mono hNM _ ls ws h.2.2.2⟩
 | _,[],_::_,h=>h.elim
 | _,_::_,[],h=>h.elim
theorem chain_len {N:Nat}:∀ (set:List Bool) (ls:List (List Int)) (ws:List Xg),chain N set ls ws→ls.length=ws.length
 | _,[],[],_=>rfl
 | set,l::ls,w::ws,h=>by simp [chain_len _ ls ws h.2.2.2]
 | _,[],_::_,h=>h.elim
 | _,_::_,[],h=>h.elim
theorem chain_nl {N:Nat}:∀ (set:List Bool) (ls:List (List Int)) (ws:List Xg),chain N set ls ws→∀ l ∈ ls,l.length≤N
 | _,[],[],_,l,hl=>by cases hl
 | set,l::ls,w::ws,h,x,hx=>by
  rcases List.mem_cons.1 hx with rfl | hx
  ·exact h.2.1
  ·exact chain_nl _ ls ws h.2.2.2 x hx
 | _,[],_::_,h,_,_=>h.elim
 | _,_::_,[],h,_,_=>h.elim
theorem Two.newsOk (h:Two c N set news op o):news.length≤64∧∀ l ∈ news,l.length≤N:=by
 have h1:=chain_len _ _ _ h.ch
 simp only [List.length_reverse] at h1
 have h2:=List.length_filter_le isWhen o
 have:=h.le
 exact ⟨by omega,fun l hl=>chain_nl _ _ _ h.ch l (by simpa using hl)⟩
def placeI (c:Xf) (i:Xc) (op:List Int):Bool :=
 bif i.Op_==34 || i.Op_==36 then !(decide (Loom.lst op≥0) || (op.length:Int)==64) else bif i.Op_==35 then !((op.length:Int)==0 || decide (Loom.lst op≥0)) else bif i.Op_==37 then !(decide (Loom.lst op<0)) else
  bif decide (Loom.lst op<0) then true else vecOk c i (Loom.lst op)
theorem off_vec {k:Int} (h:i.Op_=k) (hk:k=34∨k=35∨k=36):vecP c i = -1:=by
 unfold vecP onD onA elem
 rw [h]
 rcases hk with rfl | rfl | rfl
 all_goals
  show (match idx c.Regs_ (-1) with | some t=>bif t.Kind_==3 then t.Param_ else -1 | none=>-1)=_
  rw [idx_none (.inl (by decide))]
theorem Two.place (h:Two c N set news op o):placeI c i op=(!(isLoop o && (!(i.Op_==37) && vecP c i != lstP o)) && placeR i o):=by
 obtain ⟨h1,h2⟩:=h.loop
 have hlen:op.length=o.length:=by rw [h.op]; simp
 have hle:=h.le
 unfold placeI placeR
 rw [lt_ge,h1,hlen]
 by_cases q4:i.Op_=34∨i.Op_=36
 ·have e1:(i.Op_==34 || i.Op_==36)=true:=by rcases q4 with q | q <;> rw [q] <;> rfl
  have e2:(i.Op_==37)=false:=by rcases q4 with q | q <;> rw [q] <;> rfl
  have e3:vecP c i = -1:=by rcases q4 with q | q <;> exact off_vec q (by simp)
  have e4:((o.length:Int)==64) = !(decide ((o.length:Int)<64)):=by
   by_cases q:o.length<64
   ·have:¬ (o.length:Int)=64:=by omega
    have q':(o.length:Int)<64:=by omega
    simp [this,q']
   ·have:(o.length:Int)=64:=by omega
    simp [this]
  rw [e1,e2,e3,e4]
  simp only [cond_true]
  cases hl:isLoop o with
  | false=>simp
  | true =>
   have:=(h2 hl).2
   have e5:((-1:Int) != lstP o)=true:=by simp; omega
   rw [e5]; simp
 ·have e1:(i.Op_==34 || i.Op_==36)=false:=by
   have a1:¬ i.Op_=34:=fun q=>q4 (.inl q)
   have a2:¬ i.Op_=36:=fun q=>q4 (.inr q)
   simp [a1,a2]
  rw [e1]
  simp only [cond_false]
  by_cases q5:i.Op_=35
  ·have e2:(i.Op_==35)=true:=by rw [q5]; rfl
   have e3:(i.Op_==37)=false:=by rw [q5]; rfl
   have e4:vecP c i = -1:=off_vec q5 (by simp)
   have e6:((o.length:Int)==0) = !(decide ((o.length:Int) > 0)):=by
    by_cases q:0<o.length
    ·have a1:((o.length:Int)==0)=false:=by simp only [beq_eq_false_iff_ne,ne_eq]; omega
     have a2:decide ((o.length:Int) > 0)=true:=by simp only [decide_eq_true_eq]; omega
     rw [a1,a2]; rfl
    ·have:(o.length:Int)=0:=by omega
     simp [this]
   rw [e2,e3,e4,e6]
   simp only [cond_true]
   cases hl:isLoop o with
   | false=>simp
   | true =>
    have:=(h2 hl).2
    have e5:((-1:Int) != lstP o)=true:=by simp; omega
    rw [e5]; simp
  ·have e2:(i.Op_==35)=false:=by simpa using q5
   rw [e2]
   simp only [cond_false]
   cases i.Op_==37 with
   | true =>
    simp only [cond_true]
    cases isLoop o <;> rfl
   | false =>
    simp only [cond_false]
    cases hl:isLoop o with
    | false=>rfl
    | true =>
     obtain ⟨p1,p2⟩:=h2 hl
     rw [p1,vec_eq p2]
     cases vecOk c i (lstP o) <;> rfl
end
end Loom
set_option linter.unusedVariables false
set_option linter.unusedSimpArgs false
set_option maxRecDepth 100000
namespace Loom
open Go
def nextI (i:Xc) (set:List Bool) (news:List (List Int)) (op:List Int):List Bool×List (List Int)×List Int :=
 bif i.Op_==34 then (set,news++[[]],op++[-1]) else bif i.Op_==36 then (set,news,op++[i.N_]) else
 bif i.Op_==35 then (undo set (news.getLast?.getD []),news.dropLast,op.dropLast) else bif i.Op_==37 then (set,news,op.dropLast) else
 bif sets i && !((set[i.D_.toNat]?).getD false) then (set.set i.D_.toNat true,addNews news i.D_,op) else (set,news,op)
def okI (c:Xf) (i:Xc) (set:List Bool) (op:List Int):Bool:=fits c i && (placeI c i op && rdOk set i)
section
variable {c:Xf} {N:Nat} {set:List Bool} {news:List (List Int)} {op:List Int} {o:List Xg} {i:Xc}
theorem no_reads {k:Int} (h:i.Op_=k) (hk:k=35∨k=36∨k=37):reads i=[]∧sets i=false:=by
 unfold reads sets
 rw [h]
 rcases hk with rfl | rfl | rfl <;> exact ⟨rfl,rfl⟩
theorem Two.last (h:Two c N set news op o) (h0:0<op.length) (h1:Loom.lst op<0):∃ l w,news.getLast? = some l∧o.getLast? = some w∧w.Op_=34∧undo set l=w.Set_∧l.length≤N∧(∀ r ∈ l,0≤r∧r<set.length)∧chain N w.Set_ news.dropLast.reverse (o.dropLast.filter isWhen).reverse:=by
 have hlen:op.length=o.length:=by rw [h.op]; simp
 obtain ⟨w,w1,w2⟩:=last_get o (by omega)
 have hw:w.Op_=34:=by
  rcases h.ok w (List.mem_of_getLast? w1) with q | ⟨q,p⟩
  ·exact q
  ·rw [h.lst,w1] at h1
   simp only [code,q] at h1
   have:(bif ((36:Int)==36) then w.Param_ else -1)=w.Param_:=rfl
   omega
 have ho:o=o.dropLast++[w]:=by
  have hne:o ≠ []:=fun e=>by rw [e] at w1; cases w1
  have:=List.dropLast_concat_getLast hne
  rw [List.getLast?_eq_some_getLast hne] at w1
  rw [← Option.some.inj w1]; exact this.symm
 have hc:=h.ch
 rw [ho,List.filter_append] at hc
 have e:[w].filter isWhen=[w]:=by simp [isWhen,hw]
 rw [e,List.reverse_append,List.reverse_singleton,List.singleton_append] at hc
 cases hn:news.reverse with
 | nil=>rw [hn] at hc; exact hc.elim
 | cons l ls =>
  rw [hn] at hc
  have hnews:news=ls.reverse++[l]:=by
   have:=congrArg List.reverse hn
   simpa using this
  refine ⟨l,w,by rw [hnews]; simp,w1,hw,hc.1,hc.2.1,hc.2.2.1,?_⟩
  have:news.dropLast=ls.reverse:=by rw [hnews]; simp
  rw [this,List.reverse_reverse]
  exact hc.2.2.2
theorem f16_step {m k:Nat} {x:Xf} {v:List Xc×Int×List Xd×List Xb×List Xe} (h:Two c N set news op o) (hN:N<1000000) (hm:N<m) (hr:∀ t ∈ c.Regs_,mayT c.Sign_ t=true) (h0:0≤i.Bits_) (h1:i.Bits_<4294967296)
  (hk:k<1000000) (hv:decide ((k:Int)<v.2.1)=true) (hi:idx v.1 (k:Int)=some i) :
  f16_b1 (m+5) x v ((k:Int),c.Sign_,c.Regs_,c.Slots_,c.List_,set,news,op)=some (bif okI c i set op then .go (((k+1:Nat):Int),c.Sign_,c.Regs_,c.Slots_,c.List_,nextI i set news op) else .ret (k:Int)):=by
 rw [f16_b1_eq]
 dsimp only
 rw [hv,hi]
 simp only [cond_true,Option.bind_some]
 rw [f35_is m hr h0 h1]
 unfold okI
 cases hf:fits c i with
 | false=>rfl
 | true =>
  have hle:op.length≤64:=by rw [h.op]; simpa using h.le
  obtain ⟨n1,n2⟩:=h.newsOk
  have hrd:∀ y ∈ reads i,0≤y∧y<set.length:=fun y hy=>by rw [h.len]; exact reads_in hf y hy
  have hD:sets i=true→0≤i.D_∧i.D_<set.length:=fun hs=>by rw [h.len]; exact sets_in hf hs
  simp only [Option.bind_some,Bool.not_true,cond_false,Bool.true_and]
  unfold placeI nextI
  by_cases q34:i.Op_=34
  ·have e1:(i.Op_==34)=true:=by simpa using q34
   rw [f36_when (n:=m+5) (by omega) q34]
   simp only [e1,Bool.true_or,cond_true,Option.bind_some]
   cases hp:(decide (Loom.lst op≥0) || (op.length:Int)==64) with
   | true=>rfl
   | false =>
    simp only [Bool.not_false,Bool.not_true,cond_false,Bool.true_and]
    rw [f37_when (m:=m+1) q34 hrd hle n1]
    cases rdOk set i with
    | false=>rfl
    | true =>
     simp only [Option.bind_some,orRet_inl,Bool.not_true,cond_false,cond_true,wrap1 (show k<4611686018427387904 by omega)]
  ·have e1:(i.Op_==34)=false:=by simpa using q34
   by_cases q36:i.Op_=36
   ·have e2:(i.Op_==36)=true:=by simpa using q36
    obtain ⟨r1,r2⟩:=no_reads q36 (by simp)
    have r3:rdOk set i=true:=by unfold rdOk; rw [r1]; rfl
    rw [f36_loop (n:=m+5) hle q36]
    simp only [e1,e2,Bool.false_or,cond_true,cond_false,Option.bind_some]
    cases hp:(decide (Loom.lst op≥0) || (op.length:Int)==64) with
    | true=>rfl
    | false =>
     simp only [Bool.not_false,Bool.not_true,cond_false,Bool.true_and]
     rw [f37_else (m:=m+1) q34 hrd hD n1 (fun l hl=>by have:=n2 l hl; omega)]
     simp only [r2,r3,Bool.false_and,Bool.and_false,Option.bind_some,orRet_inl,Bool.not_true,cond_false,cond_true,wrap1 (show k<4611686018427387904 by omega)]
   ·have e2:(i.Op_==36)=false:=by simpa using q36
    by_cases q35:i.Op_=35
    ·have e3:(i.Op_==35)=true:=by simpa using q35
     obtain ⟨r1,r2⟩:=no_reads q35 (by simp)
     rw [f36_end (m:=m+1) (nl:=news.getLast?.getD []) hle q35 (fun z1 z2=>by
      obtain ⟨l,w,a1,a2,a3,a4,a5,a6,a7⟩:=h.last z1 z2
      rw [a1]
      exact ⟨rfl,by omega,by simp only [Option.getD_some]; omega,by simp only [Option.getD_some]; omega,a6⟩)]
     simp only [e1,e2,e3,Bool.false_or,cond_true,cond_false,Option.bind_some]
     cases hp:((op.length:Int)==0 || decide (Loom.lst op≥0)) with
     | true=>rfl
     | false =>
      have r3:rdOk set i=true:=by unfold rdOk; rw [r1]; rfl
      simp only [Bool.not_false,Bool.not_true,cond_false,Bool.true_and,r3]
      rw [f37_else (m:=m+1) q34 (fun y hy=>by rw [r1] at hy; cases hy) (fun hs=>by rw [r2] at hs; cases hs) (by simp; omega) (fun l hl=>by
       have:=n2 l ((List.dropLast_sublist _).subset hl); omega)]
      have r4:rdOk (undo set (news.getLast?.getD [])) i=true:=by unfold rdOk; rw [r1]; rfl
      simp only [r2,r4,Bool.false_and,Bool.and_false,Option.bind_some,orRet_inl,Bool.not_true,cond_false,cond_true,wrap1 (show k<4611686018427387904 by omega)]
    ·have e3:(i.Op_==35)=false:=by simpa using q35
     by_cases q37:i.Op_=37
     ·have e4:(i.Op_==37)=true:=by simpa using q37
      obtain ⟨r1,r2⟩:=no_reads q37 (by simp)
      have r3:rdOk set i=true:=by unfold rdOk; rw [r1]; rfl
      rw [f36_next (n:=m+5) hle q37]
      simp only [e1,e2,e3,e4,Bool.false_or,cond_true,cond_false,Option.bind_some]
      cases hp:decide (Loom.lst op<0) with
      | true=>rfl
      | false =>
       simp only [Bool.not_false,Bool.not_true,cond_false,Bool.true_and]
       rw [f37_else (m:=m+1) q34 hrd hD n1 (fun l hl=>by have:=n2 l hl; omega)]
       simp only [r2,r3,Bool.false_and,Bool.and_false,Option.bind_some,orRet_inl,Bool.not_true,cond_false,cond_true,wrap1 (show k<4611686018427387904 by omega)]
     ·have e4:(i.Op_==37)=false:=by simpa using q37
      rw [f36_else (n:=m+5) hle hf q34 q35 q36 q37 (onD_get hf) (onA_get hf)]
      simp only [e1,e2,e3,e4,Bool.false_or,cond_true,cond_false,Option.bind_some]
      cases hp:(bif decide (Loom.lst op<0) then true else vecOk c i (Loom.lst op)) with
      | false=>rfl
      | true =>
       simp only [Bool.not_false,Bool.not_true,cond_false,Bool.true_and]
       rw [f37_else (m:=m+1) q34 hrd hD n1 (fun l hl=>by have:=n2 l hl; omega)]
       cases rdOk set i with
       | false=>rfl
       | true =>
        simp only [Bool.true_and,Option.bind_some,orRet_inl,Bool.not_true,cond_false,cond_true,wrap1 (show k<4611686018427387904 by omega)]
end
end Loom
set_option linter.unusedVariables false
set_option linter.unusedSimpArgs false
set_option maxRecDepth 100000
namespace Loom
open Go
def nextR (i:Xc) (set:List Bool) (o:List Xg):List Bool×List Xg :=
 bif i.Op_==34 || i.Op_==36 then (set,o++[⟨i.Op_,i.N_,set⟩]) else bif i.Op_==35 then ((o.getLast?.getD ⟨0,0,[]⟩).Set_,o.dropLast) else bif i.Op_==37 then (set,o.dropLast) else
  bif sets i then (set.set i.D_.toNat true,o) else (set,o)
theorem f42_is {n:Nat} {s:List Bool} (h:s.length≤140737488355328):f42 n s=some s:=by
 rw [f42_eq,need_t (by omega)]
section
variable {c:Xf} {N:Nat} {set:List Bool} {news:List (List Int)} {op:List Int} {o:List Xg} {i:Xc}
theorem f21_step {m k:Nat} (h:Two c N set news op o) (hr:∀ t ∈ c.Regs_,mayT c.Sign_ t=true) (hR:c.Regs_.length≤1000000) (h0:0≤i.Bits_) (h1:i.Bits_<4294967296)
  (hk:k<1000000) (hv:k<c.List_.length) (hi:idx c.List_ (k:Int)=some i) :
  f21_b4 (m+4) c () ((k:Int),set,o)=some (bif standsR c i set o then .go (((k+1:Nat):Int),nextR i set o) else .ret (k:Int)):=by
 have hle:=h.le
 have hlen:=h.len
 rw [f21_b4_eq]
 have e1:decide ((k:Int)<(c.List_.length:Int))=true:=by simp; omega
 dsimp only
 rw [e1,hi]
 simp only [cond_true,Option.bind_some]
 rw [f41_is hr h0 h1 hlen (by omega)]
 have w:IntKind.i64.wrap ((k:Int)+1)=((k+1:Nat):Int):=wrap1 (by omega)
 cases hs:standsR c i set o with
 | false=>rfl
 | true =>
  simp only [Option.bind_some,Bool.not_true,cond_false,cond_true]
  have hs':=hs
  unfold standsR at hs'
  simp only [Bool.and_eq_true] at hs'
  obtain ⟨hf,hv1,hrd,hp⟩:=hs'
  unfold nextR
  have hB:(bif i.Op_==34 then some (Sum.inl (true,i.Op_,i.D_,i.A_,i.B_,i.C_,i.N_,i.Bits_)) else some (.inl (i.Op_==36,i.Op_,i.D_,i.A_,i.B_,i.C_,i.N_,i.Bits_)):Option (Bool×Int×Int×Int×Int×Int×Int×Int⊕Bo (Int×List Bool×List Xg) (Int×List Bool×List Xg) Int))
    = some (.inl (i.Op_==34 || i.Op_==36,i.Op_,i.D_,i.A_,i.B_,i.C_,i.N_,i.Bits_)):=by
   cases i.Op_==34 <;> rfl
  rw [hB,Option.bind_some,orRet_inl]
  dsimp only
  cases q1:(i.Op_==34 || i.Op_==36) with
  | true =>
   simp only [cond_true]
   rw [f42_is (by omega)]
   simp only [Option.bind_some]
   rw [need_t (by simp; omega),w]
  | false =>
   simp only [cond_false]
   unfold placeR at hp
   rw [q1] at hp
   simp only [cond_false] at hp
   cases q2:i.Op_==35 with
   | true =>
    rw [q2] at hp
    simp only [cond_true,Bool.and_eq_true,decide_eq_true_eq] at hp
    have hpos:0<o.length:=by omega
    obtain ⟨w1,w2,w3⟩:=wrapl hpos (by omega)
    obtain ⟨x,x1,x2⟩:=last_get o hpos
    simp only [cond_true]
    rw [need_t ⟨w2,w3⟩,w1,x2,x1]
    simp only [Option.bind_some,Option.getD_some]
    have hx:x.Set_.length≤140737488355328:=by
     have hl0:Loom.lst op<0:=by
      have:=h.loop.1
      rw [← this] at hp
      simp at hp; omega
     obtain ⟨l,wv,a1,a2,a3,a4,_⟩:=h.last (by rw [h.op]; simpa using hpos) hl0
     rw [x1] at a2
     cases a2
     rw [← a4,undo_len]; omega
    rw [f42_is hx]
    simp only [Option.bind_some]
    rw [need_t ⟨w2,by omega⟩,need_t (by omega),w]
    simp [List.dropLast_eq_take]
   | false =>
    rw [q2] at hp
    simp only [cond_false] at hp ⊢
    cases q3:i.Op_==37 with
    | true =>
     rw [q3] at hp
     simp only [cond_true] at hp ⊢
     have hpos:0<o.length:=by
      cases o with
      | nil=>cases hp
      | cons _ _=>simp
     obtain ⟨w1,w2,w3⟩:=wrapl hpos (by omega)
     rw [need_t ⟨w2,by omega⟩,w1,need_t (by omega),w]
     simp [List.dropLast_eq_take]
    | false =>
     have e:(⟨i.Op_,i.D_,i.A_,i.B_,i.C_,i.N_,i.Bits_⟩:Xc)=i:=rfl
     simp only [cond_false,e,f12_is,Option.bind_some]
     cases hss:sets i with
     | false=>simp only [cond_false,w]
     | true =>
      obtain ⟨d0,d1⟩:=sets_in hf hss
      obtain ⟨b,hb⟩:=get_in (l:=set) d0 (by omega)
      simp only [cond_true]
      rw [need_t ⟨d0,by omega⟩,hb]
      simp only [Option.bind_some,w]
theorem undo_get (l:List Int):∀ (set:List Bool) (j:Nat),(undo set l)[j]? = if l.any (fun r=>r.toNat==j) then (set[j]?).map (fun _=>false) else set[j]?:=by
 unfold undo
 induction l with
 | nil=>intro set j; simp
 | cons r l ih =>
  intro set j
  simp only [List.foldl_cons]
  rw [ih,List.any_cons]
  by_cases h:r.toNat=j
  ·subst h
   simp only [beq_self_eq_true,Bool.true_or,if_true]
   split
   ·by_cases hj:r.toNat<set.length
    ·simp [hj]
    ·simp [hj]
   ·by_cases hj:r.toNat<set.length
    ·simp [hj]
    ·simp [hj]
  ·have e:(r.toNat==j)=false:=by simpa using h
   rw [e,Bool.false_or,List.getElem?_set_ne h]
theorem undo_new {l:List Int} {set:List Bool} {d:Int} (hd:set[d.toNat]? = some false):undo (set.set d.toNat true) (l++[d])=undo set l:=by
 apply List.ext_getElem?
 intro j
 have hlt:d.toNat<set.length:=by
  obtain ⟨h,_⟩:=List.getElem?_eq_some_iff.1 hd
  exact h
 rw [undo_get,undo_get,List.any_append]
 by_cases h:d.toNat=j
 ·subst h
  simp only [List.any_cons,beq_self_eq_true,Bool.true_or,Bool.or_true,if_true,hd]
  rw [List.getElem?_set_self hlt]
  simp
 ·have e:(d.toNat==j)=false:=by simpa using h
  rw [List.getElem?_set_ne h]
  simp [e]
theorem set_same' {set:List Bool} {d:Nat} (h:set[d]? = some true):set.set d true=set:=by
 apply List.ext_getElem?
 intro j
 by_cases hj:d=j
 ·subst hj
  obtain ⟨hl,_⟩:=List.getElem?_eq_some_iff.1 h
  rw [List.getElem?_set_self hl,h]
 ·rw [List.getElem?_set_ne hj]
end
end Loom
set_option linter.unusedVariables false
set_option linter.unusedSimpArgs false
set_option maxRecDepth 100000
namespace Loom
open Go
section
variable {c:Xf} {N:Nat} {set:List Bool} {news:List (List Int)} {op:List Int} {o:List Xg} {i:Xc}
theorem loop_N (hf:fits c i=true) (h:i.Op_=36):0≤i.N_:=by
 unfold fits at hf
 rw [h] at hf
 have e:rowD 36=some ⟨0,0,0,0,4⟩:=rfl
 rw [e] at hf
 simp only [Bool.and_eq_true] at hf
 have:=hf.2.2.2.2.2
 have e2:nOk c 4 i.N_ (tyF c ⟨0,0,0,0,4⟩ i)=(decide (i.N_≥0) && decide (i.N_<(c.Sign_.length:Int))):=rfl
 rw [e2] at this
 simp at this
 exact this.1
theorem last_split {α:Type} {l:List α} {w:α} (h:l.getLast? = some w):l=l.dropLast++[w]:=by
 have hne:l ≠ []:=fun e=>by rw [e] at h; cases h
 have:=List.dropLast_concat_getLast hne
 rw [List.getLast?_eq_some_getLast hne] at h
 rw [← Option.some.inj h]; exact this.symm
theorem Two.next (h:Two c N set news op o) (hok:okI c i set op=true):(nextR i set o).1=(nextI i set news op).1∧Two c (N+1) (nextI i set news op).1 (nextI i set news op).2.1 (nextI i set news op).2.2 (nextR i set o).2:=by
 unfold okI at hok
 simp only [Bool.and_eq_true] at hok
 obtain ⟨hf,hp,hrd⟩:=hok
 have hlen:op.length=o.length:=by rw [h.op]; simp
 unfold placeI at hp
 unfold nextI nextR
 by_cases q34:i.Op_=34
 ·have e1:(i.Op_==34)=true:=by simpa using q34
  rw [e1] at hp
  simp only [Bool.true_or,cond_true,Bool.not_eq_true',Bool.or_eq_false_iff,beq_eq_false_iff_ne,ne_eq] at hp
  have hle:=h.le
  simp only [e1,Bool.true_or,cond_true]
  refine ⟨by trivial,h.len,?_,?_,?_,?_⟩
  ·rw [List.map_append,h.op]; simp [code,q34]
  ·simp; omega
  ·intro x hx
   rcases List.mem_append.1 hx with hx | hx
   ·exact h.ok x hx
   ·simp only [List.mem_singleton] at hx
    subst hx; exact .inl q34
  ·rw [List.filter_append]
   have e:[(⟨i.Op_,i.N_,set⟩:Xg)].filter isWhen=[⟨i.Op_,i.N_,set⟩]:=by simp [isWhen,q34]
   rw [e,List.reverse_append,List.reverse_append]
   exact ⟨rfl,Nat.zero_le _,fun r hr=>(by cases hr),chain_mono (Nat.le_succ N) _ _ _ h.ch⟩
 ·have e1:(i.Op_==34)=false:=by simpa using q34
  rw [e1] at hp
  by_cases q36:i.Op_=36
  ·have e2:(i.Op_==36)=true:=by simpa using q36
   rw [e2] at hp
   simp only [Bool.false_or,cond_true,Bool.not_eq_true',Bool.or_eq_false_iff,beq_eq_false_iff_ne,ne_eq] at hp
   have hle:=h.le
   simp only [e1,e2,Bool.false_or,cond_true,cond_false]
   refine ⟨by trivial,h.len,?_,?_,?_,?_⟩
   ·rw [List.map_append,h.op]; simp [code,q36]
   ·simp; omega
   ·intro x hx
    rcases List.mem_append.1 hx with hx | hx
    ·exact h.ok x hx
    ·simp only [List.mem_singleton] at hx
     subst hx; exact .inr ⟨q36,loop_N hf q36⟩
   ·rw [List.filter_append]
    have e:[(⟨i.Op_,i.N_,set⟩:Xg)].filter isWhen=[]:=by simp [isWhen,q36]
    rw [e,List.append_nil]
    exact chain_mono (Nat.le_succ N) _ _ _ h.ch
  ·have e2:(i.Op_==36)=false:=by simpa using q36
   rw [e2] at hp
   simp only [Bool.false_or,cond_false] at hp
   simp only [e1,e2,Bool.false_or,cond_false]
   by_cases q35:i.Op_=35
   ·have e3:(i.Op_==35)=true:=by simpa using q35
    rw [e3] at hp
    simp only [cond_true,Bool.not_eq_true',Bool.or_eq_false_iff,beq_eq_false_iff_ne,ne_eq,decide_eq_false_iff_not] at hp
    obtain ⟨l,w,a1,a2,a3,a4,a5,a6,a7⟩:=h.last (by omega) (by omega)
    simp only [e3,cond_true,a1,a2,Option.getD_some]
    have hle:=h.le
    refine ⟨a4.symm,?_,?_,?_,?_,?_⟩
    ·rw [undo_len]; exact h.len
    ·rw [h.op,List.map_dropLast]
    ·simp; omega
    ·exact fun x hx=>h.ok x ((List.dropLast_sublist _).subset hx)
    ·rw [a4]; exact chain_mono (Nat.le_succ N) _ _ _ a7
   ·have e3:(i.Op_==35)=false:=by simpa using q35
    rw [e3] at hp
    simp only [cond_false] at hp
    by_cases q37:i.Op_=37
    ·have e4:(i.Op_==37)=true:=by simpa using q37
     rw [e4,lt_ge,h.loop.1] at hp
     simp only [cond_true,Bool.not_not] at hp
     simp only [e3,e4,cond_true,cond_false]
     have hle:=h.le
     obtain ⟨w,hw⟩:∃ w,o.getLast? = some w:=by
      unfold isLoop at hp
      split at hp
      ·exact ⟨_,by assumption⟩
      ·cases hp
     have hww:w.Op_=36:=by
      unfold isLoop at hp
      rw [hw] at hp
      simpa using hp
     refine ⟨by trivial,h.len,?_,?_,?_,?_⟩
     ·rw [h.op,List.map_dropLast]
     ·simp; omega
     ·exact fun x hx=>h.ok x ((List.dropLast_sublist _).subset hx)
     ·have:=h.ch
      rw [last_split hw,List.filter_append] at this
      have e:[w].filter isWhen=[]:=by simp [isWhen,hww]
      rw [e,List.append_nil] at this
      exact chain_mono (Nat.le_succ N) _ _ _ this
    ·have e4:(i.Op_==37)=false:=by simpa using q37
     simp only [e3,e4,cond_false]
     cases hs:sets i with
     | false =>
      simp only [Bool.false_and,cond_false]
      exact ⟨by trivial,h.len,h.op,h.le,h.ok,chain_mono (Nat.le_succ N) _ _ _ h.ch⟩
     | true =>
      obtain ⟨d0,d1⟩:=sets_in hf hs
      obtain ⟨b,hb⟩:=get_in (l:=set) d0 (by rw [h.len]; exact d1)
      simp only [hb,Option.getD_some,Bool.true_and,cond_true]
      cases b with
      | true =>
       rw [set_same' hb]
       exact ⟨rfl,h.len,h.op,h.le,h.ok,chain_mono (Nat.le_succ N) _ _ _ h.ch⟩
      | false =>
       simp only [Bool.not_false,cond_true]
       refine ⟨by trivial,by simpa using h.len,h.op,h.le,h.ok,?_⟩
       have hc:=h.ch
       cases hn:news.reverse with
       | nil =>
        rw [hn] at hc
        have:news=[]:=by simpa using hn
        subst this
        cases hw:(o.filter isWhen).reverse with
        | nil=>simp [addNews,chain]
        | cons w ws=>rw [hw] at hc; exact hc.elim
       | cons l ls =>
        rw [hn] at hc
        cases hw:(o.filter isWhen).reverse with
        | nil=>rw [hw] at hc; exact hc.elim
        | cons w ws =>
         rw [hw] at hc
         obtain ⟨c1,c2,c3,c4⟩:=hc
         have hnews:news=ls.reverse++[l]:=by
          have:=congrArg List.reverse hn
          simpa using this
         have ha:(addNews news i.D_).reverse=(l++[i.D_])::ls:=by
          unfold addNews
          rw [hnews]
          simp
         rw [ha]
         refine ⟨by rw [undo_new hb]; exact c1,by simp; omega,fun r hr=>?_,chain_mono (Nat.le_succ N) _ _ _ c4⟩
         rcases List.mem_append.1 hr with hr | hr
         ·simpa using c3 r hr
         ·simp only [List.mem_singleton] at hr
          subst hr
          refine ⟨d0,?_⟩
          simp only [List.length_set]
          rw [h.len]; exact d1
end
end Loom
set_option linter.unusedVariables false
set_option linter.unusedSimpArgs false
set_option maxRecDepth 100000
namespace Loom
open Go
theorem iter_gAt {α S Y Z:Type} {l:List α} {p:α→Bool} {g:Nat→S} {body:S→Option (Bo S Y Z)} {z:Nat→Z} {y:Y}
  (hb:∀ (k:Nat) (h:k<l.length),body (g k)=some (bif p l[k] then .go (g (k+1)) else .ret (z k))) (he:body (g l.length)=some (.out y)) :
  ∀ (j k f:Nat),k+j=l.length→j<f→iter body f (g k)=some (match (l.drop k).findIdx? (fun x=>!p x) with | none=>.out y | some i=>.ret (z (k+i)))
 | 0,k,f+1,hk,hf=>by
  obtain rfl:k=l.length:=by omega
  unfold iter
  rw [he]
  simp
 | j+1,k,f+1,hk,hf=>by
  have h:k<l.length:=by omega
  unfold iter
  rw [hb k h,List.drop_eq_getElem_cons h]
  cases hp:p l[k] with
  | false =>
   simp only [cond_false,List.findIdx?_cons,hp,Bool.not_false,if_true]
   rfl
  | true =>
   simp only [cond_true]
   rw [iter_gAt hb he j (k+1) f (by omega) (by omega)]
   rw [List.findIdx?_cons]
   simp only [hp,Bool.not_true,cond_false,Bool.false_eq_true,if_false]
   cases (l.drop (k+1)).findIdx? (fun x=>!p x) with
   | none=>rfl
   | some i=>simp only [Option.map_some]; congr 3; omega
theorem iter_g {α S Y Z:Type} {l:List α} {p:α→Bool} (g:Nat→S) {body:S→Option (Bo S Y Z)} (z:Nat→Z) {y:Y} {f:Nat}
  (hb:∀ (k:Nat) (h:k<l.length),body (g k)=some (bif p l[k] then .go (g (k+1)) else .ret (z k))) (he:body (g l.length)=some (.out y)) (hf:l.length<f) :
  iter body f (g 0)=some (match l.findIdx? (fun x=>!p x) with | none=>.out y | some i=>.ret (z i)):=by
 have:=iter_gAt hb he l.length 0 f (by omega) hf
 simpa using this
section
variable {c:Xf}
theorem idx_nat {α:Type} {l:List α} {k:Nat} (h:k<l.length):idx l (k:Int)=some l[k]:=by simp [idx,h]
theorem f29_is {n:Nat} (h:c.Regs_.length<n) (h2:c.Regs_.length<1000000):f29 n (c.Regs_,c.Sign_,c.Regs_,c.Slots_,c.List_)=some (!(c.Regs_.all (mayT c.Sign_)),c.Sign_,c.Regs_,c.Slots_,c.List_):=by
 have hit:iter (f50_b1 n (c.Regs_,c.Sign_,c.Regs_,c.Slots_,c.List_) ()) n ((0:Int),c.Sign_,c.Regs_,c.Slots_,c.List_)=some (match c.Regs_.findIdx? (fun x=>!mayT c.Sign_ x) with | none=>.out ((c.Regs_.length:Int),c.Sign_,c.Regs_,c.Slots_,c.List_) | some i=>.ret ((i:Int),c.Sign_,c.Regs_,c.Slots_,c.List_)):=by
  refine iter_g (p:=mayT c.Sign_) (fun k=>((k:Int),c.Sign_,c.Regs_,c.Slots_,c.List_)) (fun k=>((k:Int),c.Sign_,c.Regs_,c.Slots_,c.List_)) (fun k hk=>?_) ?_ h
  ·rw [f50_b1_eq]
   have e1:decide ((k:Int)<(c.Regs_.length:Int))=true:=by simp; omega
   dsimp only
   rw [e1,idx_nat hk]
   simp only [cond_true,Option.bind_some,f30_eq,f31_is,wrap1 (show k<4611686018427387904 by omega)]
   cases mayT c.Sign_ c.Regs_[k] <;> rfl
  ·rw [f50_b1_eq]; simp
 rw [f29_eq,f50_eq]
 dsimp only
 rw [hit,← find_all]
 cases c.Regs_.findIdx? (fun x=>!mayT c.Sign_ x) with
 | none=>rfl
 | some i=>simp [Bo.then]
theorem f32_is {n:Nat} (h:c.Slots_.length<n) (h2:c.Slots_.length<1000000) (hb:∀ s ∈ c.Slots_,0≤s.Bits_∧s.Bits_<4294967296):f32 n (c.Slots_,c.Sign_,c.Regs_,c.Slots_,c.List_)=some (!(c.Slots_.all (mayS c.Sign_)),c.Sign_,c.Regs_,c.Slots_,c.List_):=by
 have hit:iter (f51_b1 n (c.Slots_,c.Sign_,c.Regs_,c.Slots_,c.List_) ()) n ((0:Int),c.Sign_,c.Regs_,c.Slots_,c.List_)=some (match c.Slots_.findIdx? (fun x=>!mayS c.Sign_ x) with | none=>.out ((c.Slots_.length:Int),c.Sign_,c.Regs_,c.Slots_,c.List_) | some i=>.ret ((i:Int),c.Sign_,c.Regs_,c.Slots_,c.List_)):=by
  refine iter_g (p:=mayS c.Sign_) (fun k=>((k:Int),c.Sign_,c.Regs_,c.Slots_,c.List_)) (fun k=>((k:Int),c.Sign_,c.Regs_,c.Slots_,c.List_)) (fun k hk=>?_) ?_ h
  ·rw [f51_b1_eq]
   have e1:decide ((k:Int)<(c.Slots_.length:Int))=true:=by simp; omega
   obtain ⟨b0,b1⟩:=hb _ (List.getElem_mem hk)
   dsimp only
   rw [e1,idx_nat hk]
   simp only [cond_true,Option.bind_some,f33_eq,f34_is _ _ b0 b1,wrap1 (show k<4611686018427387904 by omega)]
   cases mayS c.Sign_ c.Slots_[k] <;> rfl
  ·rw [f51_b1_eq]; simp
 rw [f32_eq,f51_eq]
 dsimp only
 rw [hit,← find_all]
 cases c.Slots_.findIdx? (fun x=>!mayS c.Sign_ x) with
 | none=>rfl
 | some i=>simp [Bo.then]
theorem f21_regs {n m:Nat} (h:c.Regs_.length<m) (h2:c.Regs_.length<1000000):iter (f21_b1 n c ()) m 0=some (bif c.Regs_.all (mayT c.Sign_) then .out (c.Regs_.length:Int) else .ret ()):=by
 refine iter_all1 (fun k hk=>?_) ?_ h
 ·rw [f21_b1_eq]
  have e1:decide ((k:Int)<(c.Regs_.length:Int))=true:=by simp; omega
  rw [e1,idx_nat hk]
  simp only [cond_true,Option.bind_some,f39_is,wrap1 (show k<4611686018427387904 by omega)]
  cases mayT c.Sign_ c.Regs_[k] <;> rfl
 ·rw [f21_b1_eq]; simp
theorem f21_slots {n m:Nat} (h:c.Slots_.length<m) (h2:c.Slots_.length<1000000) (hb:∀ s ∈ c.Slots_,0≤s.Bits_∧s.Bits_<4294967296):iter (f21_b2 n c ()) m 0=some (bif c.Slots_.all (mayS c.Sign_) then .out (c.Slots_.length:Int) else .ret ()):=by
 refine iter_all1 (fun k hk=>?_) ?_ h
 ·rw [f21_b2_eq]
  have e1:decide ((k:Int)<(c.Slots_.length:Int))=true:=by simp; omega
  obtain ⟨b0,b1⟩:=hb _ (List.getElem_mem hk)
  rw [e1,idx_nat hk]
  simp only [cond_true,Option.bind_some,f40_is _ _ b0 b1,wrap1 (show k<4611686018427387904 by omega)]
  cases mayS c.Sign_ c.Slots_[k] <;> rfl
 ·rw [f21_b2_eq]; simp
theorem iter_goAt {S Y Z:Type} {L:Nat} (g:Nat→S) {body:S→Option (Bo S Y Z)} {y:Y} (hb:∀ k,k<L→body (g k)=some (.go (g (k+1)))) (he:body (g L)=some (.out y)) :
  ∀ (j k f:Nat),k+j=L→j<f→iter body f (g k)=some (.out y)
 | 0,k,f+1,hk,hf=>by
  obtain rfl:k=L:=by omega
  unfold iter
  rw [he]
 | j+1,k,f+1,hk,hf=>by
  unfold iter
  rw [hb k (by omega)]
  exact iter_goAt g hb he j (k+1) f (by omega) (by omega)
theorem f21_set {n m:Nat} (h:c.Regs_.length<m) (h2:c.Regs_.length<1000000):iter (f21_b3 n c ()) m (0,[])=some (.out ((c.Regs_.length:Int),List.replicate c.Regs_.length false)):=by
 refine iter_goAt (L:=c.Regs_.length) (fun k=>((k:Int),List.replicate k false)) (fun k hk=>?_) ?_ c.Regs_.length 0 m (by omega) h
 ·rw [f21_b3_eq]
  have e1:decide ((k:Int)<(c.Regs_.length:Int))=true:=by simp; omega
  dsimp only
  rw [e1,cond_true,need_t (by simp; omega),wrap1 (by omega),← List.replicate_succ']
 ·rw [f21_b3_eq]; simp
end
end Loom
set_option linter.unusedVariables false
set_option linter.unusedSimpArgs false
set_option maxRecDepth 100000
namespace Loom
open Go
def okB (y:Int):Bool:=(decide (y≥65) && decide (y≤90)) || ((decide (y≥97) && decide (y≤122)) || ((decide (y≥48) && decide (y≤57)) || (y==95 || (y==46 || (y==47 || y==45)))))
theorem idxB (y:Int) (h0:0≤y) (h1:y<256):decide ((Lib.indexByte [95,46,47,45] y.toNat.toUInt8:Int)≥0)=(y==95 || (y==46 || (y==47 || y==45))):=by
 have h:(List.range 256).all (fun k=>decide ((Lib.indexByte [95,46,47,45] k.toUInt8:Int)≥0)==((k:Int)==95 || ((k:Int)==46 || ((k:Int)==47 || (k:Int)==45))))=true:=by kernel_rfl
 have:=List.all_eq_true.1 h y.toNat (by simp; omega)
 have e:((y.toNat:Nat):Int)=y:=by omega
 rw [e] at this
 simpa using this
theorem f68_is {n:Nat} (y:Int) (h0:0≤y) (h1:y<256):∃ r,f68 n (⟨#[95,46,47,45]⟩,y)=some r∧decide (r≥0)=(y==95 || (y==46 || (y==47 || y==45))) :=
 ⟨_,by rw [f68_eq]; rfl,idxB y h0 h1⟩
theorem bytes_in {x:ByteArray} {k:Nat} (h:k<(bytesOf x).length):0≤(bytesOf x)[k]∧(bytesOf x)[k]<256∧byteAt x (k:Int)=(bytesOf x)[k]:=by
 have hl:k<x.data.toList.length:=by simpa [bytesOf] using h
 have e:(bytesOf x)[k]=((x.data.toList[k]).toNat:Int):=by simp [bytesOf]
 have hb:=UInt8.toNat_lt (x.data.toList[k])
 refine ⟨by rw [e]; omega,by rw [e]; omega,?_⟩
 rw [e]
 unfold byteAt
 rw [List.getD_eq_getElem?_getD,show ((k:Int).toNat)=k from rfl,List.getElem?_eq_getElem hl]
 rfl
theorem bytes_len (x:ByteArray):(bytesOf x).length=x.size:=by
 unfold bytesOf
 rw [List.length_map]
 rfl
def nameOk (x:ByteArray):Bool:=!(x==⟨#[]⟩ || decide ((x.size:Int) > 64)) && (bytesOf x).all okB
theorem f61_is {n:Nat} (x:ByteArray) (hn:64<n):f61 n x=some (nameOk x):=by
 rw [f61_eq]
 have hB:(bif (x==⟨#[]⟩) then some (Sum.inl true) else some (.inl (decide ((x.size:Int) > 64))):Option (Bool⊕Bool))=some (.inl (x==⟨#[]⟩ || decide ((x.size:Int) > 64))):=by
  cases (x==(⟨#[]⟩:ByteArray)) <;> rfl
 rw [hB,Option.bind_some,orRet_inl]
 unfold nameOk
 cases hq:(x==⟨#[]⟩ || decide ((x.size:Int) > 64)) with
 | true=>rfl
 | false =>
  have hs:x.size≤64:=by
   simp only [Bool.or_eq_false_iff,decide_eq_false_iff_not] at hq
   omega
  have hl:=bytes_len x
  have hit:iter (f61_b1 n x ()) n 0=some (bif (bytesOf x).all okB then .out ((bytesOf x).length:Int) else .ret ()):=by
   refine iter_all1 (fun k hk=>?_) ?_ (by omega)
   ·obtain ⟨b0,b1,_⟩:=bytes_in hk
    obtain ⟨r,r1,r2⟩:=f68_is (n:=n) _ b0 b1
    rw [f61_b1_eq]
    have e1:decide ((k:Int)<((bytesOf x).length:Int))=true:=by simp; omega
    rw [e1,idx_nat hk]
    simp only [cond_true,Option.bind_some]
    generalize (bytesOf x)[k]=y at *
    rw [wrap1 (by omega)]
    unfold okB
    cases a1:decide (y≥65) <;> cases a2:decide (y≤90) <;> cases a3:decide (y≥97) <;> cases a4:decide (y≤122) <;> cases a5:decide (y≥48) <;> cases a6:decide (y≤57) <;> simp only [a1,a2,a3,a4,a5,a6,cond_true,cond_false,Option.bind_some,orRet_inl,r1,r2] <;> cases (y==95 || (y==46 || (y==47 || y==45))) <;> rfl
   ·rw [f61_b1_eq]; simp
  rw [hit]
  cases (bytesOf x).all okB <;> rfl
set_option maxHeartbeats 4000000 in
theorem f63_is {n:Nat} (x:ByteArray) (hn:64<n):f63 n x=some (nameOk x):=by
 rw [f63_eq]
 have hB:(bif (x==⟨#[]⟩) then some (Sum.inl true) else some (.inl (decide ((x.size:Int) > 64))):Option (Bool⊕Bool))=some (.inl (x==⟨#[]⟩ || decide ((x.size:Int) > 64))):=by
  cases (x==(⟨#[]⟩:ByteArray)) <;> rfl
 rw [hB,Option.bind_some,orRet_inl]
 unfold nameOk
 cases hq:(x==⟨#[]⟩ || decide ((x.size:Int) > 64)) with
 | true=>rfl
 | false =>
  have hs:x.size≤64:=by
   simp only [Bool.or_eq_false_iff,decide_eq_false_iff_not] at hq
   omega
  have hl:=bytes_len x
  have hit:iter (f63_b1 n x ()) n 0=some (bif (bytesOf x).all okB then .out ((bytesOf x).length:Int) else .ret ()):=by
   refine iter_all1 (fun k hk=>?_) ?_ (by omega)
   ·obtain ⟨_,_,b2⟩:=bytes_in hk
    rw [f63_b1_eq]
    have e1:decide ((k:Int)<(x.size:Int))=true:=by simp; omega
    rw [e1,b2,cond_true,need_t (by omega),wrap1 (by omega)]
    generalize (bytesOf x)[k]=y
    unfold okB
    cases decide (y≥97) <;> cases decide (y≤122) <;> cases decide (y≥65) <;> cases decide (y≤90) <;> cases decide (y≥48) <;> cases decide (y≤57) <;> cases (y==95) <;> cases (y==46) <;> cases (y==47) <;> cases (y==45) <;> rfl
   ·rw [f63_b1_eq,hl]; simp
  rw [hit]
  cases (bytesOf x).all okB <;> rfl
def mayP (p:Xd):Bool:=nameOk p.Name_ && ((p.Kind_==1 || p.Kind_==2) && (decide (p.Len_≥1) && decide (p.Len_≤4096)))
theorem f48_is {n:Nat} (p:Xd) (hn:64<n):f48 n p=some (mayP p):=by
 rw [f48_eq,f61_is _ hn]
 unfold mayP
 simp only [Option.bind_some]
 cases nameOk p.Name_ <;> cases (p.Kind_==1) <;> cases (p.Kind_==2) <;> cases decide (p.Len_≥1) <;> rfl
theorem f55_is {n:Nat} (p:Xd) (hn:64<n):f55 n p=some (mayP p):=by
 rw [f55_eq,f63_is _ hn]
 unfold mayP
 simp only [Option.bind_some]
 cases nameOk p.Name_ <;> cases (p.Kind_==1) <;> cases (p.Kind_==2) <;> cases decide (p.Len_≥1) <;> rfl
end Loom
set_option linter.unusedVariables false
set_option linter.unusedSimpArgs false
set_option maxRecDepth 100000
namespace Loom
open Go
theorem beq_str {a b:ByteArray}:(a==b)=true↔a=b:=MapKept.bytes_beq a b
theorem beq_str' (a:ByteArray):(a==a)=true:=beq_str.2 rfl
def addP (ks:List ByteArray) (p:Xd):List ByteArray:=bif has p.Name_ ks then ks else ks++[p.Name_]
theorem g28_l_is {n:Nat} (hn:64<n):∀ (l:List Xd) (ks:List ByteArray),g28_l n l ks=some (bif l.all mayP then some (l.foldl addP ks) else none)
 | [],ks=>rfl
 | p::l,ks=>by
  unfold g28_l
  have e:g28_48 n p=some (mayP p):=f48_is p hn
  rw [e]
  simp only [Option.bind_some,List.all_cons,List.foldl_cons]
  cases mayP p with
  | false=>rfl
  | true =>
   simp only [cond_true,Bool.true_and]
   exact g28_l_is hn l _
theorem has_add (s:ByteArray) (ks:List ByteArray) (p:Xd):has s (addP ks p)=(has s ks || p.Name_==s):=by
 unfold addP
 cases h:has p.Name_ ks with
 | false=>simp [has]
 | true =>
  simp only [cond_true]
  cases hq:p.Name_==s with
  | false=>simp
  | true =>
   rw [beq_str] at hq
   subst hq
   simp [h]
theorem fold_take {x:List Xd} {k:Nat} (h:k<x.length):(x.take (k+1)).foldl addP []=addP ((x.take k).foldl addP []) x[k]:=by
 rw [List.take_succ_eq_append_getElem h,List.foldl_append]
 rfl
theorem has_take {x:List Xd} (s:ByteArray):∀ k,k≤x.length→has s ((x.take k).foldl addP [])=(x.take k).any (fun p=>p.Name_==s)
 | 0,_=>by simp [has]
 | k+1,h=>by
  rw [fold_take (by omega),has_add,has_take s k (by omega),List.take_succ_eq_append_getElem (by omega),List.any_append]
  simp only [List.any_cons,List.any_nil,Bool.or_false]
def newAt (x:List Xd) (k:Nat):Bool:=match x[k]? with | some p=>!((x.take k).any fun q=>q.Name_==p.Name_) | none=>true
theorem len_take {x:List Xd}:∀ k,k≤x.length→((x.take k).foldl addP []).length=(List.range k).countP (newAt x)
 | 0,_=>by simp
 | k+1,h=>by
  have hk:k<x.length:=by omega
  rw [fold_take hk,List.range_succ,List.countP_append,← len_take k (by omega)]
  have e:newAt x k = !(has x[k].Name_ ((x.take k).foldl addP [])):=by
   unfold newAt
   rw [List.getElem?_eq_getElem hk,has_take _ k (by omega)]
  have e2:addP ((x.take k).foldl addP []) x[k]=bif has x[k].Name_ ((x.take k).foldl addP []) then (x.take k).foldl addP [] else (x.take k).foldl addP []++[x[k].Name_]:=rfl
  rw [e2]
  cases hh:has x[k].Name_ ((x.take k).foldl addP []) with
  | true=>rw [hh] at e; simp [List.countP_cons,e]
  | false=>rw [hh] at e; simp [List.countP_cons,e]
theorem dup_eq (x:List Xd):decide (((x.foldl addP []).length:Int)<(x.length:Int)) = !((List.range x.length).all (newAt x)):=by
 have h:=len_take (x:=x) x.length (Nat.le_refl _)
 rw [List.take_length] at h
 rw [h]
 have hle:=List.countP_le_length (p:=newAt x) (l:=List.range x.length)
 simp only [List.length_range] at hle
 cases ha:(List.range x.length).all (newAt x) with
 | true =>
  have:(List.range x.length).countP (newAt x)=(List.range x.length).length:=List.countP_eq_length.2 (List.all_eq_true.1 ha)
  rw [this]; simp
 | false =>
  have:(List.range x.length).countP (newAt x) ≠ (List.range x.length).length:=fun e=>by
   have:=List.countP_eq_length.1 e
   have:(List.range x.length).all (newAt x)=true:=List.all_eq_true.2 this
   rw [ha] at this; cases this
  simp only [List.length_range] at this
  simp only [Bool.not_false,decide_eq_true_eq]
  omega
def fnd (x:List Xd) (s:ByteArray):Int×Bool:=match x.findIdx? (fun p=>p.Name_==s) with | none=>(0,false) | some i=>((i:Int),true)
theorem f56_is {n:Nat} {x:List Xd} {s:ByteArray} (h:x.length<n) (h2:x.length<1000000):f56 n (x,s)=some (fnd x s):=by
 have hit:iter (f56_b1 n (x,s) ()) n 0=some (match x.findIdx? (fun p=>!(!(p.Name_==s))) with | none=>.out (x.length:Int) | some i=>.ret (i:Int)):=by
  refine iter_g (p:=fun p=>!(p.Name_==s)) (fun k=>(k:Int)) (fun k=>(k:Int)) (fun k hk=>?_) ?_ h
  ·rw [f56_b1_eq]
   have e1:decide ((k:Int)<(x.length:Int))=true:=by simp; omega
   dsimp only
   rw [e1,idx_nat hk]
   simp only [cond_true,Option.bind_some,wrap1 (show k<4611686018427387904 by omega)]
   cases x[k].Name_==s <;> rfl
  ·rw [f56_b1_eq]; simp
 rw [f56_eq,hit]
 unfold fnd
 simp only [Bool.not_not]
 cases x.findIdx? (fun p=>p.Name_==s) <;> rfl
theorem find_new {x:List Xd} {k:Nat} (hk:k<x.length):(fnd x x[k].Name_).1=(k:Int)↔newAt x k=true:=by
 unfold newAt fnd
 rw [List.getElem?_eq_getElem hk]
 simp only [Bool.not_eq_true']
 cases hf:x.findIdx? (fun p=>p.Name_==x[k].Name_) with
 | none =>
  rw [List.findIdx?_eq_none_iff] at hf
  have:=hf x[k] (List.getElem_mem hk)
  rw [beq_str'] at this; cases this
 | some i =>
  obtain ⟨hi,h1,h2⟩:=List.findIdx?_eq_some_iff_getElem.1 hf
  simp only
  constructor
  ·intro e
   have e:i=k:=by omega
   subst e
   rw [Bool.eq_false_iff]
   intro ha
   obtain ⟨q,hq,hq2⟩:=List.any_eq_true.1 ha
   obtain ⟨j,hj,rfl⟩:=List.getElem_of_mem hq
   simp only [List.length_take] at hj
   have:=h2 j (by omega)
   rw [List.getElem_take] at hq2
   rw [hq2] at this
   simp at this
  ·intro ha
   by_cases hik:i<k
   ·exfalso
    have:(x.take k).any (fun q=>q.Name_==x[k].Name_)=true:=by
     rw [List.any_eq_true]
     exact ⟨x[i],List.mem_take_iff_getElem.2 ⟨i,by omega,rfl⟩,h1⟩
    rw [ha] at this; cases this
   ·by_cases hki:k<i
    ·exfalso
     have:=h2 k hki
     rw [beq_str'] at this; simp at this
    ·omega
end Loom
set_option linter.unusedVariables false
set_option linter.unusedSimpArgs false
set_option maxRecDepth 100000
namespace Loom
open Go
def numP (p:Xd):Int:=bif mayP p then (bif p.Kind_==2 then IntKind.i64.wrap (2 * p.Len_) else p.Len_) else 0
theorem f62_is {n:Nat} (p:Xd) (hn:64<n):f62 n p=some (numP p):=by
 rw [f62_eq,f48_is _ hn]
 unfold numP
 simp only [Option.bind_some]
 cases mayP p <;> cases (p.Kind_==2) <;> rfl
theorem f64_is {n:Nat} (p:Xd) (hn:64<n):f64 n p=some (numP p):=by
 rw [f64_eq,f55_is _ hn]
 unfold numP
 simp only [Option.bind_some]
 cases mayP p <;> cases (p.Kind_==2) <;> rfl
def sumTo (x:List Xd) (k:Nat):Int:=(x.take k).foldl (fun s p=>IntKind.i64.wrap (s+numP p)) 0
theorem sum_succ {x:List Xd} {k:Nat} (h:k<x.length):sumTo x (k+1)=IntKind.i64.wrap (sumTo x k+numP x[k]):=by
 unfold sumTo
 rw [List.take_succ_eq_append_getElem h,List.foldl_append]
 rfl
theorem f49_is {n:Nat} {x:List Xd} (hn:64<n) (hl:x.length≤64):f49 n x=some (sumTo x x.length):=by
 have hit:iter (f49_b1 n x ()) n (0,0)=some (.out (sumTo x x.length,(x.length:Int))):=by
  refine iter_goAt (L:=x.length) (fun k=>(sumTo x k,(k:Int))) (fun k hk=>?_) ?_ x.length 0 n (by omega) (by omega)
  ·rw [f49_b1_eq]
   have e1:decide ((k:Int)<(x.length:Int))=true:=by simp; omega
   dsimp only
   rw [e1,idx_nat hk]
   simp only [cond_true,Option.bind_some,f62_is _ hn,wrap1 (show k<4611686018427387904 by omega),sum_succ hk]
  ·rw [f49_b1_eq]; simp
 rw [f49_eq,hit]
 rfl
theorem f57_is {n:Nat} {x:List Xd} (hn:64<n) (hl:x.length≤64):f57 n x=some (sumTo x x.length):=by
 have hit:iter (f57_b1 n x ()) n (0,0)=some (.out (sumTo x x.length,(x.length:Int))):=by
  refine iter_goAt (L:=x.length) (fun k=>(sumTo x k,(k:Int))) (fun k hk=>?_) ?_ x.length 0 n (by omega) (by omega)
  ·rw [f57_b1_eq]
   have e1:decide ((k:Int)<(x.length:Int))=true:=by simp; omega
   dsimp only
   rw [e1,idx_nat hk]
   simp only [cond_true,Option.bind_some,f64_is _ hn,wrap1 (show k<4611686018427387904 by omega),sum_succ hk]
  ·rw [f57_b1_eq]; simp
 rw [f57_eq,hit]
 rfl
def sgn (x:List Xd):Int:=bif decide ((x.length:Int) > 64) then 2 else bif x.all mayP then (bif (List.range x.length).all (newAt x) then (bif decide (sumTo x x.length > 65536) then 102 else 0) else 101) else 100
theorem f28_is {n:Nat} (x:List Xd) (hn:64<n):f28 n x=some (sgn x):=by
 show g28 n x=_
 unfold g28 sgn
 simp only [List.length_map]
 cases hl:decide ((x.length:Int) > 64) with
 | true=>rfl
 | false =>
  have hl':x.length≤64:=by simp only [decide_eq_false_iff_not] at hl; omega
  rw [g28_l_is hn]
  cases x.all mayP with
  | false=>rfl
  | true =>
   have e:g28_49 n x=some (sumTo x x.length):=f49_is hn hl'
   simp only [cond_false,cond_true,Option.bind_some,g28_r,List.length_map,dup_eq,e]
   cases (List.range x.length).all (newAt x) <;> cases decide (sumTo x x.length > 65536) <;> rfl
theorem f38_is {n:Nat} (x:List Xd) (hn:64<n):f38 n x=some (sgn x):=by
 rw [f38_eq]
 unfold sgn
 cases hl:decide ((x.length:Int) > 64) with
 | true=>rfl
 | false =>
  have hl':x.length≤64:=by simp only [decide_eq_false_iff_not] at hl; omega
  have h1:iter (f38_b1 n x ()) n 0=some (bif x.all mayP then .out (x.length:Int) else .ret ()):=by
   refine iter_all1 (fun k hk=>?_) ?_ (by omega)
   ·rw [f38_b1_eq]
    have e1:decide ((k:Int)<(x.length:Int))=true:=by simp; omega
    rw [e1,idx_nat hk]
    simp only [cond_true,Option.bind_some,f55_is _ hn,wrap1 (show k<4611686018427387904 by omega)]
    cases mayP x[k] <;> rfl
   ·rw [f38_b1_eq]; simp
  have h2:iter (f38_b2 n x ()) n 0=some (bif (List.range x.length).all (newAt x) then .out (x.length:Int) else .ret ()):=by
   refine iter_all1 (l:=List.range x.length) (fun k hk=>?_) ?_ (by simp; omega)
   ·simp only [List.length_range] at hk
    rw [f38_b2_eq]
    have e1:decide ((k:Int)<(x.length:Int))=true:=by simp; omega
    rw [e1,idx_nat hk]
    simp only [cond_true,Option.bind_some,f56_is (n:=n) (x:=x) (s:=x[k].Name_) (by omega) (by omega),wrap1 (show k<4611686018427387904 by omega),List.getElem_range]
    have:=find_new hk
    cases hq:newAt x k with
    | true =>
     have e:=this.2 hq
     rw [e]
     simp
    | false =>
     have e:(fnd x x[k].Name_).1 ≠ (k:Int):=fun e=>by
      have:=this.1 e
      rw [hq] at this; cases this
     have e2:((fnd x x[k].Name_).1 != (k:Int))=true:=by simpa using e
     rw [e2]; rfl
   ·rw [List.length_range,f38_b2_eq]; simp
  rw [h1]
  simp only [cond_false]
  cases x.all mayP with
  | false=>rfl
  | true =>
   simp only [cond_true,Option.bind_some,Bo.then]
   rw [h2]
   cases (List.range x.length).all (newAt x) with
   | false=>rfl
   | true =>
    simp only [cond_true,Option.bind_some,Bo.then,f57_is hn hl']
    cases decide (sumTo x x.length > 65536) <;> rfl
end Loom
set_option linter.unusedVariables false
set_option linter.unusedSimpArgs false
set_option maxRecDepth 100000
namespace Loom
open Go
theorem beq_int (a:Int):(a==a)=true:=by simp
theorem beq_bool (a:Bool):(a==a)=true:=by simp
structure Small (a:Xf):Prop where
 s:a.Sign_.length * 32≤140737488355328
 r:a.Regs_.length * 16≤140737488355328
 l:a.Slots_.length * 32≤140737488355328
 i:a.List_.length * 56≤140737488355328
def fuel (a:Xf):Nat:=a.Sign_.length+a.Regs_.length+a.Slots_.length+a.List_.length+100001
end Loom
set_option linter.unusedVariables false
set_option linter.unusedSimpArgs false
set_option maxRecDepth 100000
namespace Loom
open Go
end Loom
set_option linter.unusedVariables false
set_option linter.unusedSimpArgs false
set_option maxRecDepth 100000
namespace Loom
open Go
def goR (c:Xf):List Xc→Nat→List Bool→List Xg→Nat⊕(List Bool×List Xg)
 | [],_,set,o=>.inr (set,o)
 | i::l,k,set,o=>bif standsR c i set o then goR c l (k+1) (nextR i set o).1 (nextR i set o).2 else .inl k
section
variable {c:Xf}
theorem both2 {m m':Nat} {x:Xf} (hr:∀ t ∈ c.Regs_,mayT c.Sign_ t=true) (hR:c.Regs_.length≤1000000) (hL:c.List_.length<1000000) (hm:c.List_.length<m) (hb:∀ i ∈ c.List_,0≤i.Bits_∧i.Bits_<4294967296) :
  ∀ (j k f f':Nat) (set:List Bool) (news:List (List Int)) (op:List Int) (o:List Xg),k+j=c.List_.length→j<f→j<f'→Two c k set news op o →
   ∃ news' op',(∀ r,goR c (c.List_.drop k) k set o = .inr r→op'.length=r.2.length) ∧
    iter (f16_b1 (m+5) x (c.List_,(c.List_.length:Int),c.Sign_,c.Regs_,c.Slots_)) f ((k:Int),c.Sign_,c.Regs_,c.Slots_,c.List_,set,news,op)=some (match goR c (c.List_.drop k) k set o with | .inl k'=>.ret (k':Int) | .inr r=>.out ((c.List_.length:Int),c.Sign_,c.Regs_,c.Slots_,c.List_,r.1,news',op')) ∧
    iter (f21_b4 (m'+4) c ()) f' ((k:Int),set,o)=some (match goR c (c.List_.drop k) k set o with | .inl k'=>.ret (k':Int) | .inr r=>.out ((c.List_.length:Int),r.1,r.2))
 | 0,k,f+1,f'+1,set,news,op,o,hk,_,_,h=>by
  obtain rfl:k=c.List_.length:=by omega
  rw [List.drop_length]
  refine ⟨news,op,fun r hr=>?_,?_,?_⟩
  ·cases hr; rw [h.op]; simp
  ·unfold iter
   rw [f16_b1_eq]; simp [goR]
  ·unfold iter
   rw [f21_b4_eq]; simp [goR]
 | j+1,k,f+1,f'+1,set,news,op,o,hk,hf,hf',h=>by
  have hkl:k<c.List_.length:=by omega
  obtain ⟨b0,b1⟩:=hb _ (List.getElem_mem hkl)
  have e1:decide ((k:Int)<(c.List_.length:Int))=true:=by simp; omega
  have s1:=f16_step (m:=m) (x:=x) (v:=(c.List_,(c.List_.length:Int),c.Sign_,c.Regs_,c.Slots_)) h (by omega) (by omega) hr b0 b1 (by omega) e1 (idx_nat hkl)
  have s2:=f21_step (m:=m') h hr hR b0 b1 (by omega) hkl (idx_nat hkl)
  have e2:standsR c c.List_[k] set o=okI c c.List_[k] set op:=by
   unfold standsR okI
   rw [h.place]
   cases fits c c.List_[k] <;> cases rdOk set c.List_[k] <;> cases placeR c.List_[k] o <;> simp
  rw [List.drop_eq_getElem_cons hkl]
  have eg:goR c (c.List_[k]::c.List_.drop (k+1)) k set o=bif standsR c c.List_[k] set o then goR c (c.List_.drop (k+1)) (k+1) (nextR c.List_[k] set o).1 (nextR c.List_[k] set o).2 else .inl k:=rfl
  rw [eg]
  rw [e2] at s2 ⊢
  unfold iter
  rw [s1,s2]
  cases hok:okI c c.List_[k] set op with
  | false=>exact ⟨[],[],fun r hr=>(by cases hr),rfl,rfl⟩
  | true =>
   obtain ⟨q1,q2⟩:=h.next hok
   simp only [cond_true]
   have e3:nextR c.List_[k] set o=((nextI c.List_[k] set news op).1,(nextR c.List_[k] set o).2):=by rw [← q1]
   rw [e3]
   exact both2 hr hR hL hm hb j (k+1) f f' _ _ _ _ (by omega) (by omega) (by omega) q2
end
def chk (c:Xf):Int×Int :=
 bif sgn c.Sign_ != 0 then (sgn c.Sign_,-1) else bif (decide ((c.Regs_.length:Int) > 16384) || decide ((c.List_.length:Int) > 32768)) then (181,-1) else bif decide ((c.Slots_.length:Int) > 4096) then (180,-1) else
 bif c.Regs_.all (mayT c.Sign_) then (bif c.Slots_.all (mayS c.Sign_) then (match goR c c.List_ 0 (List.replicate c.Regs_.length false) [] with | .inl k=>(160,(k:Int)) | .inr r=>bif decide ((r.2.length:Int) > 0) then (160,(c.List_.length:Int)) else (0,0)) else (160,-1)) else (160,-1)
theorem check_is {n:Nat} {c:Xf} (hn:100000<n) (hs:∀ s ∈ c.Slots_,0≤s.Bits_∧s.Bits_<4294967296) (hb:∀ i ∈ c.List_,0≤i.Bits_∧i.Bits_<4294967296):f16 n c=some (chk c)∧f21 n c=some (chk c):=by
 unfold chk
 obtain ⟨m,rfl⟩:∃ m,n=m+5:=⟨n - 5,by omega⟩
 rw [f16_eq,f21_eq,f28_is _ (by omega),f38_is _ (by omega)]
 simp only [Option.bind_some]
 cases sgn c.Sign_ != 0 with
 | true=>exact ⟨rfl,rfl⟩
 | false =>
  have hB:∀ {R:Type},(bif (decide ((c.Regs_.length:Int) > 16384)) then some (Sum.inl true) else some (.inl (decide ((c.List_.length:Int) > 32768))):Option (Bool⊕R))=some (.inl (decide ((c.Regs_.length:Int) > 16384) || decide ((c.List_.length:Int) > 32768))):=by
   intro R
   cases decide ((c.Regs_.length:Int) > 16384) <;> rfl
  simp only [cond_false]
  rw [hB,Option.bind_some,orRet_inl]
  cases hz:(decide ((c.Regs_.length:Int) > 16384) || decide ((c.List_.length:Int) > 32768)) with
  | true=>exact ⟨rfl,rfl⟩
  | false =>
   simp only [Bool.or_eq_false_iff,decide_eq_false_iff_not] at hz
   simp only [cond_false]
   cases hy:decide ((c.Slots_.length:Int) > 4096) with
   | true=>exact ⟨rfl,rfl⟩
   | false =>
    simp only [decide_eq_false_iff_not] at hy
    simp only [cond_false]
    rw [f29_is (by omega) (by omega),f21_regs (by omega) (by omega)]
    cases hr:c.Regs_.all (mayT c.Sign_) with
    | false=>exact ⟨rfl,rfl⟩
    | true =>
     have hr':∀ t ∈ c.Regs_,mayT c.Sign_ t=true:=List.all_eq_true.1 hr
     simp only [Option.bind_some,Bool.not_true,cond_false,cond_true,Bo.then]
     rw [f32_is (by omega) (by omega) hs,f21_slots (by omega) (by omega) hs]
     cases c.Slots_.all (mayS c.Sign_) with
     | false=>exact ⟨rfl,rfl⟩
     | true =>
      simp only [Option.bind_some,orRet_inl,Bool.not_true,cond_false,cond_true,Bo.then]
      rw [need_t (by omega),f21_set (by omega) (by omega)]
      simp only [Option.bind_some,Bo.then]
      have h0:Two c 0 (List.replicate c.Regs_.length false) [] [] []:=⟨by simp,rfl,by simp,fun x hx=>(by cases hx),trivial⟩
      have hset:List.replicate ((c.Regs_.length:Int)).toNat false=List.replicate c.Regs_.length false:=by rw [Int.toNat_natCast]
      rw [hset]
      obtain ⟨news',op',q0,q1,q2⟩:=both2 (m:=m) (m':=m+1) (x:=c) hr' (by omega) (by omega) (by omega) hb c.List_.length 0 (m+5) (m+5) _ _ _ _ (by omega) (by omega) (by omega) h0
      rw [List.drop_zero] at q0 q1 q2
      have q1:iter (f16_b1 (m+5) c (c.List_,(c.List_.length:Int),c.Sign_,c.Regs_,c.Slots_)) (m+5) (0,c.Sign_,c.Regs_,c.Slots_,c.List_,List.replicate c.Regs_.length false,[],[])=_:=q1
      have q2:iter (f21_b4 (m+5) c ()) (m+5) (0,List.replicate c.Regs_.length false,[])=_:=q2
      rw [q1,q2]
      cases hg:goR c c.List_ 0 (List.replicate c.Regs_.length false) [] with
      | inl k=>exact ⟨rfl,rfl⟩
      | inr r =>
       have:=q0 r hg
       simp only [Option.bind_some,Bo.then,this]
       cases decide ((r.2.length:Int) > 0) <;> exact ⟨rfl,rfl⟩
end Loom
set_option linter.unusedVariables false
set_option linter.unusedSimpArgs false
set_option maxRecDepth 100000
namespace Loom
open Go
def opn1 (i:Xc):Int:=bif i.Op_==34 || i.Op_==36 then 1 else bif i.Op_==35 || i.Op_==37 then -1 else 0
def opn (l:List Xc):Int:=l.foldl (fun s i=>s+opn1 i) 0
def sameS (d:Nat) (s t:List Bool):Prop:=s.length=t.length∧∀ j,j ≠ d→s[j]? = t[j]?
inductive sameO (d:Nat):List Xg→List Xg→Prop
 | nil:sameO d [] []
 | snoc {o p:List Xg} {x y:Xg}:sameO d o p→x.Op_=y.Op_→x.Param_=y.Param_→sameS d x.Set_ y.Set_→sameO d (o++[x]) (p++[y])
theorem sameO.inv {d:Nat} {o p:List Xg} (h:sameO d o p):(o=[]∧p=[])∨∃ o' p' x y,o=o'++[x]∧p=p'++[y]∧sameO d o' p'∧x.Op_=y.Op_∧x.Param_=y.Param_∧sameS d x.Set_ y.Set_:=by
 cases h with
 | nil=>exact .inl ⟨rfl,rfl⟩
 | snoc h1 h2 h3 h4=>exact .inr ⟨_,_,_,_,rfl,rfl,h1,h2,h3,h4⟩
theorem sameO.len {d:Nat} {o p:List Xg} (h:sameO d o p):o.length=p.length:=by
 induction h with
 | nil=>rfl
 | snoc _ _ _ _ ih=>simp [ih]
theorem sameS.refl (d:Nat) (s:List Bool):sameS d s s:=⟨rfl,fun _ _=>rfl⟩
theorem sameO.refl (d:Nat) (o:List Xg):sameO d o o:=by
 have:∀ (n:Nat) (o:List Xg),o.length=n→sameO d o o:=by
  intro n
  induction n with
  | zero=>intro o h; rw [List.eq_nil_of_length_eq_zero h]; exact .nil
  | succ n ih =>
   intro o h
   obtain ⟨x,x1,_⟩:=last_get o (by omega)
   rw [last_split x1]
   exact .snoc (ih _ (by simp; omega)) rfl rfl (sameS.refl d _)
 exact this _ o rfl
theorem sameS.set {d:Nat} {s t:List Bool} (h:sameS d s t) (j:Nat) (b:Bool):sameS d (s.set j b) (t.set j b):=by
 refine ⟨by simp [h.1],fun k hk=>?_⟩
 rw [List.getElem?_set,List.getElem?_set,h.1,h.2 k hk]
end Loom
set_option linter.unusedVariables false
set_option linter.unusedSimpArgs false
set_option maxRecDepth 100000
namespace Loom
open Go
abbrev none0 (c:Xf):List Bool:=List.replicate c.Regs_.length false
theorem chk_ok {c:Xf} (h:(chk c).1=0):(sgn c.Sign_ != 0)=false∧decide ((c.Regs_.length:Int) > 16384)=false∧decide ((c.List_.length:Int) > 32768)=false∧decide ((c.Slots_.length:Int) > 4096)=false∧c.Regs_.all (mayT c.Sign_)=true∧c.Slots_.all (mayS c.Sign_)=true ∧
  ∃ r,goR c c.List_ 0 (none0 c) [] = .inr r∧r.2=[]:=by
 unfold chk at h
 cases h1:sgn c.Sign_ != 0 with
 | true =>
  rw [h1] at h
  have h:sgn c.Sign_=0:=h
  rw [h] at h1; cases h1
 | false =>
  rw [h1] at h
  cases h2:decide ((c.Regs_.length:Int) > 16384) with
  | true=>rw [h2] at h; exact absurd (show (181:Int)=0 from h) (by decide)
  | false =>
   cases h3:decide ((c.List_.length:Int) > 32768) with
   | true=>rw [h2,h3] at h; exact absurd (show (181:Int)=0 from h) (by decide)
   | false =>
    rw [h2,h3] at h
    cases h4:decide ((c.Slots_.length:Int) > 4096) with
    | true=>rw [h4] at h; exact absurd (show (180:Int)=0 from h) (by decide)
    | false =>
     rw [h4] at h
     cases h5:c.Regs_.all (mayT c.Sign_) with
     | false=>rw [h5] at h; exact absurd (show (160:Int)=0 from h) (by decide)
     | true =>
      rw [h5] at h
      cases h6:c.Slots_.all (mayS c.Sign_) with
      | false=>rw [h6] at h; exact absurd (show (160:Int)=0 from h) (by decide)
      | true =>
       rw [h6] at h
       refine ⟨rfl,rfl,rfl,rfl,rfl,rfl,?_⟩
       simp only [Bool.or_self,cond_false,cond_true] at h
       cases h7:goR c c.List_ 0 (none0 c) [] with
       | inl k=>rw [h7] at h; exact absurd h (by simp)
       | inr r =>
        rw [h7] at h
        refine ⟨r,rfl,?_⟩
        cases h8:decide ((r.2.length:Int) > 0) with
        | true=>simp only [h8,cond_true] at h; exact absurd h (by simp)
        | false =>
         simp only [decide_eq_false_iff_not] at h8
         exact List.eq_nil_of_length_eq_zero (by omega)
theorem goR_list (c:Xf) (l':List Xc):∀ (l:List Xc) (k:Nat) (s:List Bool) (o:List Xg),goR ⟨c.Sign_,c.Regs_,c.Slots_,l'⟩ l k s o=goR c l k s o
 | [],_,_,_=>rfl
 | i::l,k,s,o=>by
  simp only [goR]
  have e:standsR ⟨c.Sign_,c.Regs_,c.Slots_,l'⟩ i s o=standsR c i s o:=rfl
  rw [e,goR_list c l' l]
theorem chk_of {c:Xf} (h:(chk c).1=0) (l:List Xc) (hl:l.length≤32768):chk ⟨c.Sign_,c.Regs_,c.Slots_,l⟩=match goR c l 0 (none0 c) [] with | .inl k=>(160,(k:Int)) | .inr r=>bif decide ((r.2.length:Int) > 0) then (160,(l.length:Int)) else (0,0):=by
 obtain ⟨h1,h2,h3,h4,h5,h6,_⟩:=chk_ok h
 have h3':decide ((l.length:Int) > 32768)=false:=by simp; omega
 unfold chk
 dsimp only
 rw [h1,h2,h3',h4,h5,h6,goR_list]
 rfl
theorem wrap_small {x:Int} (h0 : -1000000≤x) (h1:x≤1000000):IntKind.i64.wrap x=x:=wrapI (by omega) (by omega)
end Loom
set_option linter.unusedVariables false
set_option linter.unusedSimpArgs false
set_option maxRecDepth 100000
namespace Loom
open Go
theorem goR_fits (c:Xf):∀ (l:List Xc) (k:Nat) (s:List Bool) (o:List Xg) (r:List Bool×List Xg),goR c l k s o = .inr r→∀ i ∈ l,fits c i=true
 | [],_,_,_,_,_,i,hi=>by cases hi
 | j::l,k,s,o,r,h,i,hi=>by
  simp only [goR] at h
  cases hs:standsR c j s o with
  | false=>rw [hs] at h; cases h
  | true =>
   rw [hs,cond_true] at h
   rcases List.mem_cons.1 hi with rfl | hi
   ·unfold standsR at hs
    simp only [Bool.and_eq_true] at hs
    exact hs.1
   ·exact goR_fits c l _ _ _ r h i hi
end Loom
set_option linter.unusedVariables false
set_option linter.unusedSimpArgs false
set_option maxRecDepth 100000
namespace Loom
open Go
section
variable {c d:Xf} {i:Xc}
theorem fits_sets {c:Xf} {i:Xc} (h:fits c i=true) (ho:sets i=true):∃ t,idx c.Regs_ i.D_=some t∧t ∈ c.Regs_:=by
 unfold fits at h
 unfold sets at ho
 split at h
 ·cases h
 ·rename_i r hr
  rw [hr] at ho
  simp only [Bool.and_eq_true] at h
  obtain ⟨t,ht⟩:=regOk_get h.1 (by simpa using ho)
  exact ⟨t,ht,(idx_mem ht).1⟩
def readsA (i:Xc):Bool:=match rowD i.Op_ with | some r=>!(r.a==0) | none=>false
theorem fits_reads {c:Xf} {i:Xc} (h:fits c i=true) (ho:readsA i=true):∃ t,idx c.Regs_ i.A_=some t∧t ∈ c.Regs_:=by
 unfold fits at h
 unfold readsA at ho
 split at h
 ·cases h
 ·rename_i r hr
  rw [hr] at ho
  simp only [Bool.and_eq_true] at h
  obtain ⟨t,ht⟩:=regOk_get h.2.1 (by simpa using ho)
  exact ⟨t,ht,(idx_mem ht).1⟩
theorem on_sorts (i:Xc):(onD i=true→sets i=true)∧(onA i=true→readsA i=true):=by
 obtain ⟨op,d,a,b,cc,N,bits⟩:=i
 rcases opCase op with (rfl | rfl | rfl | rfl | rfl | rfl | rfl | rfl | rfl | rfl | rfl | rfl | rfl | rfl | rfl | rfl | rfl | rfl | rfl | rfl | rfl | rfl | rfl | rfl | rfl | rfl | rfl | rfl | rfl | rfl | rfl | rfl | rfl | rfl | rfl | rfl | rfl) | h
 iterate 37 (· simp [onD,onA,elem,sets,readsA,rowD])
 have he:elem op=false:=by
  cases he:elem op with
  | false=>rfl
  | true =>
   exfalso
   unfold elem at he
   have:3≤op∧op≤15:=by
    by_cases q:op≥3
    ·simp [q] at he; omega
    ·simp [q] at he
   have:=h op (by omega) (by omega)
   simp at this
 simp only [onD,onA,he,h 29 (by decide) (by decide),h 30 (by decide) (by decide),h 31 (by decide) (by decide),h 32 (by decide) (by decide),h 33 (by decide) (by decide)]
 constructor <;> intro h <;> cases h
end
end Loom
set_option linter.unusedVariables false
set_option linter.unusedSimpArgs false
set_option maxRecDepth 100000
namespace Loom
open Go
abbrev U32s (c:Xf):Prop:=(∀ s ∈ c.Slots_,0≤s.Bits_∧s.Bits_<4294967296)∧∀ i ∈ c.List_,0≤i.Bits_∧i.Bits_<4294967296
theorem works22 {n:Nat} (h:100≤n):f126 n ()=some true:=by
 obtain ⟨m,rfl⟩:∃ m,n=m+100:=⟨n - 100,by omega⟩
 kernel_rfl
theorem twin_is {n:Nat} {c:Xf} (h:Small c):f101 n c=some (c.Sign_,c.Regs_,c.Slots_,c.List_):=by
 rw [f101_eq,need_t h.s,need_t h.r,need_t h.l,need_t h.i]
theorem fine_is {n:Nat} {c:Xf} (hn:100000<n) (hu:U32s c):f125 n c=some ((chk c).1==0):=by
 rw [f125_eq,(check_is hn hu.1 hu.2).2]
 rfl
theorem same_is {n:Nat} {c:Xf} (h:Small c):f144 n c=some (c.Sign_,c.Regs_,c.Slots_,c.List_):=by
 rw [f144_eq]
 have e1:f193 n c.Sign_=need (c.Sign_.length * 32≤140737488355328) (some c.Sign_):=rfl
 have e2:f194 n c.Regs_=need (c.Regs_.length * 16≤140737488355328) (some c.Regs_):=rfl
 have e3:f195 n c.Slots_=need (c.Slots_.length * 32≤140737488355328) (some c.Slots_):=rfl
 have e4:f196 n c.List_=need (c.List_.length * 56≤140737488355328) (some c.List_):=rfl
 rw [e1,e2,e3,e4,need_t h.s,need_t h.r,need_t h.l,need_t h.i]
 rfl
def mark (i:Xc):Bool:=i.Op_==36 || i.Op_==37
def bare (l:List Xc):List Xc:=l.filter fun i=>!mark i
abbrev lpE:Xc:=⟨37,0,0,0,0,0,0⟩
abbrev lpB (p:Int):Xc:=⟨36,0,0,0,0,p,0⟩
def preF (o v:Int):List Xc:=(bif decide (o≥0) && v != o then [lpE] else [])++(bif decide (v≥0) && v != o then [lpB v] else [])
def fzL (c:Xf):Int→List Xc→List Xc
 | o,[]=>bif decide (o≥0) then [lpE] else []
 | o,i::l=>preF o (vecP c i)++i::fzL c (vecP c i) l
def deep:Int→List Xc→Bool
 | _,[]=>false
 | d,i::l=>bif i.Op_==34 then (d+1==64 || deep (d+1) l) else bif i.Op_==35 then deep (d - 1) l else deep d l
theorem deep_cons (d:Int) (i:Xc) (l:List Xc):deep d (i::l)=bif i.Op_==34 then (d+1==64 || deep (d+1) l) else bif i.Op_==35 then deep (d - 1) l else deep d l:=rfl
theorem vecP_cases {c:Xf} (hr:∀ t ∈ c.Regs_,mayT c.Sign_ t=true) (i:Xc):vecP c i = -1∨(0≤vecP c i∧vecP c i<c.Sign_.length):=by
 unfold vecP
 split
 ·rename_i t ht
  have hm:=hr t (idx_mem ht).1
  unfold mayT at hm
  cases hk:t.Kind_==3 with
  | false=>left; rfl
  | true=>right; rw [hk] at hm; simpa using hm
 ·left; rfl
theorem f146_is {n:Nat} {c:Xf} {i:Xc} (hr:∀ t ∈ c.Regs_,mayT c.Sign_ t=true) (hf:fits c i=true):∃ p,f146 n (c,i)=some (p,decide (vecP c i≥0))∧(0≤vecP c i→p=vecP c i):=by
 obtain ⟨h1,h2⟩:=on_sorts i
 rw [f146_eq,f13_is]
 have eD:∀ {R:Type},((some (elem i.Op_)).bind fun y1=>bif y1 then (some (.inl true)) else (bif (i.Op_==(29:Int)) then (some (.inl true)) else (bif (i.Op_==(30:Int)) then (some (.inl true)) else (some (.inl (i.Op_==(32:Int)))))):Option (Bool⊕R))=some (.inl (onD i)):=by
  intro R
  unfold onD
  cases elem i.Op_ <;> cases i.Op_==29 <;> cases i.Op_==30 <;> rfl
 have eA:∀ {R:Type},((bif (i.Op_==(31:Int)) then (some (.inl true)) else (some (.inl (i.Op_==(33:Int))))):Option (Bool⊕R))=some (.inl (onA i)):=by
  intro R
  unfold onA
  cases i.Op_==31 <;> rfl
 simp only [eD,eA,Option.bind_some,orRet_inl]
 have key:∀ t:Xb,t ∈ c.Regs_→∃ p,(some (t.Param_,(t.Kind_==(3:Int))):Option (Int×Bool))=some (p,decide ((bif t.Kind_==3 then t.Param_ else -1)≥0))∧(0≤(bif t.Kind_==3 then t.Param_ else -1)→p=(bif t.Kind_==3 then t.Param_ else -1)):=by
  intro t ht
  have hm:=hr t ht
  unfold mayT at hm
  cases hk:t.Kind_==3 with
  | false=>exact ⟨_,rfl,fun h=>by simp at h⟩
  | true =>
   rw [hk] at hm
   simp only [cond_true,Bool.and_eq_true,decide_eq_true_eq] at hm
   exact ⟨t.Param_,by simp [hm.1],fun _=>rfl⟩
 unfold vecP
 cases hd:onD i with
 | true =>
  obtain ⟨t,ht,hm⟩:=fits_sets hf (h1 hd)
  simp only [cond_true,ht,Option.bind_some,orRet_inl]
  exact key t hm
 | false =>
  cases ha:onA i with
  | true =>
   obtain ⟨t,ht,hm⟩:=fits_reads hf (h2 ha)
   simp only [cond_true,cond_false,ht,Option.bind_some,orRet_inl]
   exact key t hm
  | false =>
   have e:idx c.Regs_ (-1)=none:=by unfold idx; simp
   simp only [cond_false,e]
   exact ⟨0,rfl,fun h=>by simp at h⟩
theorem end_is {n:Nat} {o:Int} {a:List Xd} {b:List Xb} {s:List Xe} {l:List Xc} (hl:l.length≤200000) :
  f145_1 n (o,a,b,s,l)=some (bif decide (o≥0) then -1 else o,a,b,s,l++bif decide (o≥0) then [lpE] else []):=by
 rw [f145_1_eq]
 cases decide (o≥0) with
 | true=>simp only [cond_true]; rw [need_t (by simp; omega)]
 | false=>simp
section
variable {n:Nat} {c:Xf}
theorem f120_mark {i:Xc} {k nest o:Int} {S:List Xd} {R:List Xb} {Z:List Xe} {out:List Xc} (hm:mark i=true) (e1:decide (k<(c.List_.length:Int))=true) (hi:idx c.List_ k=some i) :
  f120_b1 n c () (nest,k,S,R,Z,out,o)=some (.go (nest,IntKind.i64.wrap (k+1),S,R,Z,out,o)):=by
 rw [f120_b1_eq]
 unfold mark at hm
 simp only [e1,cond_true,hi,Option.bind_some]
 cases h:i.Op_==36 with
 | true=>rfl
 | false=>rw [h,Bool.false_or] at hm; simp only [hm,cond_false,Option.bind_some,orRet_inl,cond_true]
theorem f120_step {i:Xc} {k nest o:Int} {S:List Xd} {R:List Xb} {Z:List Xe} {out:List Xc} (hs:Small c) (hr:∀ t ∈ c.Regs_,mayT c.Sign_ t=true) (hf:fits c i=true) (hm:mark i=false) (e1:decide (k<(c.List_.length:Int))=true) (hi:idx c.List_ k=some i)
  (ho:out.length≤100000) (hv:o = -1∨0≤o) :
  f120_b1 n c () (nest,k,S,R,Z,out,o)=bif i.Op_==34 && IntKind.i64.wrap (nest+1)==64 then some (.ret (c.Sign_,c.Regs_,c.Slots_,c.List_)) else
   some (.go (bif i.Op_==34 then IntKind.i64.wrap (nest+1) else bif i.Op_==35 then IntKind.i64.wrap (nest - 1) else nest,IntKind.i64.wrap (k+1),S,R,Z,out++preF o (vecP c i)++[i],vecP c i)):=by
 rw [f120_b1_eq]
 unfold mark at hm
 simp only [Bool.or_eq_false_iff] at hm
 have eta:(⟨i.Op_,i.D_,i.A_,i.B_,i.C_,i.N_,i.Bits_⟩:Xc)=i:=rfl
 obtain ⟨p,hp,hpv⟩:=f146_is (n:=n) hr hf
 simp only [e1,cond_true,hi,Option.bind_some,hm.1,hm.2,cond_false,orRet_inl,eta,hp]
 have fin:∀ l:List Xc,l.length≤150000 →
   (bif (i.Op_==(34:Int)) then (bif ((IntKind.i64.wrap (nest+(1:Int)))==(64:Int)) then ((f144 n c).bind fun y6=>some (.inr (.ret (y6.1,y6.2.1,y6.2.2.1,y6.2.2.2)))) else (some (.inl ((IntKind.i64.wrap (nest+(1:Int))),S,R,Z,l,vecP c i,i.Op_,i.D_,i.A_,i.B_,i.C_,i.N_,i.Bits_)))) else (bif (i.Op_==(35:Int)) then (some (.inl ((IntKind.i64.wrap (nest - (1:Int))),S,R,Z,l,vecP c i,i.Op_,i.D_,i.A_,i.B_,i.C_,i.N_,i.Bits_))) else (some (.inl (nest,S,R,Z,l,vecP c i,i.Op_,i.D_,i.A_,i.B_,i.C_,i.N_,i.Bits_)))):Option ((Int×(List Xd)×(List Xb)×(List Xe)×(List Xc)×Int×Int×Int×Int×Int×Int×Int×Int)⊕Bo (Int×Int×(List Xd)×(List Xb)×(List Xe)×(List Xc)×Int) (Int×Int×(List Xd)×(List Xb)×(List Xe)×(List Xc)×Int) ((List Xd)×(List Xb)×(List Xe)×(List Xc)))).bind
    (orRet fun s6=>need ((s6.2.2.2.2.1.length+([(⟨s6.2.2.2.2.2.2.1,s6.2.2.2.2.2.2.2.1,s6.2.2.2.2.2.2.2.2.1,s6.2.2.2.2.2.2.2.2.2.1,s6.2.2.2.2.2.2.2.2.2.2.1,s6.2.2.2.2.2.2.2.2.2.2.2.1,s6.2.2.2.2.2.2.2.2.2.2.2.2⟩:Xc)]:List Xc).length) * 56≤140737488355328) (some (.go (s6.1,(IntKind.i64.wrap (k+(1:Int))),s6.2.1,s6.2.2.1,s6.2.2.2.1,(s6.2.2.2.2.1++([(⟨s6.2.2.2.2.2.2.1,s6.2.2.2.2.2.2.2.1,s6.2.2.2.2.2.2.2.2.1,s6.2.2.2.2.2.2.2.2.2.1,s6.2.2.2.2.2.2.2.2.2.2.1,s6.2.2.2.2.2.2.2.2.2.2.2.1,s6.2.2.2.2.2.2.2.2.2.2.2.2⟩:Xc)]:List Xc)),s6.2.2.2.2.2.1)))) =
   bif i.Op_==34 && IntKind.i64.wrap (nest+1)==64 then some (.ret (c.Sign_,c.Regs_,c.Slots_,c.List_)) else
    some (.go (bif i.Op_==34 then IntKind.i64.wrap (nest+1) else bif i.Op_==35 then IntKind.i64.wrap (nest - 1) else nest,IntKind.i64.wrap (k+1),S,R,Z,l++[i],vecP c i)):=by
  intro l hl
  have hn:∀ {β:Type} (x:Option β),need ((l.length+([i]:List Xc).length) * 56≤140737488355328) x=x:=fun x=>need_t (by simp; omega)
  cases h34:i.Op_==34 with
  | true =>
   cases h64:IntKind.i64.wrap (nest+1)==64 with
   | true=>simp [same_is hs]
   | false=>simp only [cond_true,cond_false,Option.bind_some,orRet_inl,eta,hn,Bool.and_false]
  | false =>
   cases h35:i.Op_==35 <;> simp only [cond_true,cond_false,Option.bind_some,orRet_inl,eta,hn,Bool.false_and]
 rcases vecP_cases hr i with hvp | ⟨hvp,_⟩
 ·have d1:decide (vecP c i≥0)=false:=by simp; omega
  simp only [d1,Bool.not_false,cond_true,cond_false,Option.bind_some,orRet_inl]
  rw [end_is (by omega)]
  simp only [Option.bind_some,orRet_inl,cond_false]
  have e2:(bif decide (o≥0) then -1 else o)=vecP c i:=by
   rcases hv with rfl | h
   ·rw [hvp]; rfl
   ·simp [h,hvp]
  have e3:preF o (vecP c i)=(bif decide (o≥0) then [lpE] else []):=by
   unfold preF
   rw [d1,Bool.false_and,cond_false,List.append_nil]
   by_cases h:0≤o
   ·have:(vecP c i != o)=true:=by simp; omega
    simp [h,this]
   ·simp [h]
  rw [e2,e3]
  have hl:(out++(bif decide (o≥0) then [lpE] else [])).length≤150000:=by
   cases decide (o≥0) <;> simp <;> omega
  exact fin _ hl
 ·have d1:decide (vecP c i≥0)=true:=by simp; omega
  obtain rfl:=hpv hvp
  simp only [d1,Bool.not_true,cond_true,cond_false,Option.bind_some,orRet_inl]
  cases hne:vecP c i != o with
  | true =>
   simp only [cond_true,Option.bind_some,orRet_inl]
   rw [end_is (by omega)]
   simp only [Option.bind_some,orRet_inl,cond_true]
   have e2:decide ((bif decide (o≥0) then -1 else o)<0)=true:=by
    rcases hv with rfl | h
    ·rfl
    ·simp [h]
   simp only [e2,cond_true]
   have e3:preF o (vecP c i)=(bif decide (o≥0) then [lpE] else [])++[lpB (vecP c i)]:=by
    unfold preF
    rw [d1,hne]; simp
   have hl:(out++(bif decide (o≥0) then [lpE] else [])).length≤140000:=by
    cases decide (o≥0) <;> simp <;> omega
   rw [need_t (by simp at hl ⊢; omega)]
   simp only [Option.bind_some,orRet_inl]
   rw [e3,← List.append_assoc]
   refine fin _ ?_
   rw [List.length_append]; simp only [List.length_singleton]; omega
  | false =>
   have he:vecP c i=o:=by simpa using hne
   have e2:decide (o<0)=false:=by simp; omega
   simp only [cond_false,Option.bind_some,orRet_inl,e2]
   have e3:preF o (vecP c i)=[]:=by
    unfold preF
    rw [hne]; simp
   rw [e3,List.append_nil]
   have:=fin out (by omega)
   rw [he] at this ⊢
   exact this
theorem preF_len (o v:Int):(preF o v).length≤2:=by
 unfold preF
 cases decide (o≥0) && v != o <;> cases decide (v≥0) && v != o <;> simp
theorem f120_loop (hs:Small c) (hr:∀ t ∈ c.Regs_,mayT c.Sign_ t=true) (hL:c.List_.length≤32768) (hf:∀ i ∈ c.List_,fits c i=true):∀ (j k f:Nat) (nest o:Int) (S:List Xd) (R:List Xb) (Z:List Xe) (out:List Xc),
  k+j=c.List_.length→j<f→-(k:Int)≤nest→nest≤k→out.length≤3 * k→(o = -1∨0≤o) →
  (deep nest (c.List_.drop k)=true∧iter (f120_b1 n c ()) f (nest,(k:Int),S,R,Z,out,o)=some (.ret (c.Sign_,c.Regs_,c.Slots_,c.List_))) ∨
  (deep nest (c.List_.drop k)=false∧∃ nest' out' o',iter (f120_b1 n c ()) f (nest,(k:Int),S,R,Z,out,o)=some (.out (nest',(c.List_.length:Int),S,R,Z,out',o'))∧out'.length≤100000∧out'++(bif decide (o'≥0) then [lpE] else [])=out++fzL c o (bare (c.List_.drop k)))
 | 0,k,f+1,nest,o,S,R,Z,out,hk,_,h1,h2,h3,h4=>by
  obtain rfl:k=c.List_.length:=by omega
  rw [List.drop_length]
  refine .inr ⟨rfl,nest,out,o,?_,by omega,rfl⟩
  unfold iter
  rw [f120_b1_eq]; simp
 | j+1,k,f+1,nest,o,S,R,Z,out,hk,hj,h1,h2,h3,h4=>by
  have hkl:k<c.List_.length:=by omega
  have e1:decide ((k:Int)<(c.List_.length:Int))=true:=by simp; omega
  have ew:IntKind.i64.wrap ((k:Int)+1)=((k+1:Nat):Int):=by rw [wrap_small (by omega) (by omega)]; simp
  rw [List.drop_eq_getElem_cons hkl]
  unfold iter
  cases hm:mark c.List_[k] with
  | true =>
   rw [f120_mark hm e1 (idx_nat hkl),ew]
   have e34:(c.List_[k].Op_==34)=false∧(c.List_[k].Op_==35)=false:=by
    unfold mark at hm
    simp only [Bool.or_eq_true,beq_iff_eq] at hm
    rcases hm with hm | hm <;> rw [hm] <;> decide
   have ed:deep nest (c.List_[k]::c.List_.drop (k+1))=deep nest (c.List_.drop (k+1)):=by
    rw [deep_cons,e34.1,e34.2]; rfl
   have eb:bare (c.List_[k]::c.List_.drop (k+1))=bare (c.List_.drop (k+1)):=by
    unfold bare
    rw [List.filter_cons,hm]; rfl
   rw [ed,eb]
   exact f120_loop hs hr hL hf j (k+1) f nest o S R Z out (by omega) (by omega) (by omega) (by omega) (by omega) h4
  | false =>
   have eb:bare (c.List_[k]::c.List_.drop (k+1))=c.List_[k]::bare (c.List_.drop (k+1)):=by
    unfold bare
    rw [List.filter_cons,hm]; rfl
   have hp:=preF_len o (vecP c c.List_[k])
   rw [f120_step hs hr (hf _ (List.getElem_mem hkl)) hm e1 (idx_nat hkl) (by omega) h4,ew,wrap_small (x:=nest+1) (by omega) (by omega),wrap_small (x:=nest - 1) (by omega) (by omega),eb]
   have go:∀ nest':Int,-((k+1:Nat):Int)≤nest'→nest'≤((k+1:Nat):Int)→_:=fun nest' q1 q2=>f120_loop hs hr hL hf j (k+1) f nest' (vecP c c.List_[k]) S R Z (out++preF o (vecP c c.List_[k])++[c.List_[k]]) (by omega) (by omega) q1 q2 (by simp only [List.length_append,List.length_singleton]; omega) (by rcases vecP_cases hr c.List_[k] with h | h; exact .inl h; exact .inr h.1)
   have ef:∀ l,out++fzL c o (c.List_[k]::l)=(out++preF o (vecP c c.List_[k])++[c.List_[k]])++fzL c (vecP c c.List_[k]) l:=by
    intro l
    show out++(preF o (vecP c c.List_[k])++c.List_[k]::fzL c (vecP c c.List_[k]) l)=_
    simp
   rw [ef,deep_cons]
   cases h34:c.List_[k].Op_==34 with
   | true =>
    cases h64:nest+1==64 with
    | true=>exact .inl ⟨rfl,rfl⟩
    | false =>
     simp only [Bool.and_false,cond_true,cond_false,Bool.false_or]
     exact go (nest+1) (by omega) (by omega)
   | false =>
    cases h35:c.List_[k].Op_==35 with
    | true =>
     simp only [Bool.false_and,cond_true,cond_false]
     exact go (nest - 1) (by omega) (by omega)
    | false =>
     simp only [Bool.false_and,cond_false]
     exact go nest (by omega) (by omega)
def fzR (c:Xf):List Xc:=bif deep 0 c.List_ || decide (((fzL c (-1) (bare c.List_)).length:Int) > 32768) then c.List_ else fzL c (-1) (bare c.List_)
def fuseR (c:Xf):Int×List Xd×List Xb×List Xe×List Xc :=
 bif (chk c).1 != 0 then (160,[],[],[],[]) else (0,c.Sign_,c.Regs_,c.Slots_,fzR c)
theorem fuse_is (hn:100000<n) (hs:Small c) (hu:U32s c):f120 n c=some (fuseR c):=by
 rw [f120_eq,(check_is hn hu.1 hu.2).1]
 unfold fuseR
 cases hc:(chk c).1 != 0 with
 | true=>simp [hc]
 | false =>
  obtain ⟨_,q1,q2,q3,q4,q5,r,q6,q7⟩:=chk_ok (by simpa using hc)
  have hr:∀ t ∈ c.Regs_,mayT c.Sign_ t=true:=List.all_eq_true.1 q4
  simp only [decide_eq_false_iff_not] at q1 q2 q3
  have hL:c.List_.length≤32768:=by omega
  simp only [Option.bind_some,hc,cond_false,same_is hs]
  unfold fzR
  rcases f120_loop (n:=n) hs hr hL (goR_fits c _ _ _ _ _ q6) c.List_.length 0 n 0 (-1) c.Sign_ c.Regs_ c.Slots_ [] (by omega) (by omega) (by omega) (by omega) (by simp) (.inl rfl) with ⟨h1,h2⟩ | ⟨h1,nest',out',o',h2,h3,h4⟩
  ·have h2:iter (f120_b1 n c ()) n (0,0,c.Sign_,c.Regs_,c.Slots_,[],-1)=_:=h2
   rw [List.drop_zero] at h1
   rw [h2,h1]; rfl
  ·have h2:iter (f120_b1 n c ()) n (0,0,c.Sign_,c.Regs_,c.Slots_,[],-1)=_:=h2
   rw [List.drop_zero] at h1 h4
   rw [h2,h1]
   simp only [Option.bind_some,Bo.then]
   rw [end_is (by omega),h4]
   simp only [Option.bind_some,List.nil_append,Bool.false_or]
   cases decide (((fzL c (-1) (bare c.List_)).length:Int) > 32768) <;> rfl
end
end Loom
set_option linter.unusedVariables false
set_option linter.unusedSimpArgs false
set_option maxRecDepth 100000
namespace Loom
open Go
def base (o:List Xg):List Xg:=o.filter fun x=>!(x.Op_==36)
theorem base_app (a b:List Xg):base (a++b)=base a++base b:=by unfold base; rw [List.filter_append]
theorem isLoop_app (o:List Xg) (x:Xg):isLoop (o++[x])=(x.Op_==36)∧lstP (o++[x])=x.Param_:=by
 unfold isLoop lstP; simp
theorem isLoop_base (o:List Xg):isLoop (base o)=false:=by
 unfold isLoop
 split
 ·rename_i x hx
  have:=List.mem_of_getLast? hx
  unfold base at this
  simpa using (List.mem_filter.1 this).2
 ·rfl
theorem goR_cons (c:Xf) (i:Xc) (l:List Xc) (k:Nat) (s:List Bool) (o:List Xg):goR c (i::l) k s o=bif standsR c i s o then goR c l (k+1) (nextR i s o).1 (nextR i s o).2 else .inl k:=rfl
def Top (c:Xf) (v:Int) (t:List Xg):Prop:=(v = -1∧t=[])∨(0≤v∧v<c.Sign_.length∧∃ st,t=[⟨36,v,st⟩])
theorem fits_E (c:Xf):fits c lpE=true:=by kernel_rfl
theorem fits_B {c:Xf} {v:Int} (h0:0≤v) (h1:v<c.Sign_.length):fits c (lpB v)=true:=by
 have e:rowD 36=some ⟨0,0,0,0,4⟩:=by kernel_rfl
 unfold fits lpB
 simp only [e]
 simp [regOk,bitsOk,nOk,h0,h1]
section
variable {c:Xf}
theorem go_E {b:List Xg} {v:Int} {st s:List Bool} (l:List Xc) (k:Nat):goR c (lpE::l) k s (b++[⟨36,v,st⟩])=goR c l (k+1) s b:=by
 obtain ⟨q1,q2⟩:=isLoop_app b ⟨36,v,st⟩
 have q1:isLoop (b++[⟨36,v,st⟩])=true:=q1
 have e1:standsR c lpE s (b++[⟨36,v,st⟩])=true:=by
  unfold standsR
  rw [fits_E,q1]
  have:rdOk s lpE=true:=by kernel_rfl
  rw [this]
  unfold placeR
  rw [q1]; rfl
 have e2:nextR lpE s (b++[⟨36,v,st⟩])=(s,b):=by
  unfold nextR
  simp
 rw [goR_cons,e1,e2]; rfl
theorem go_B {b:List Xg} {v:Int} {s:List Bool} (hb:b.length<64) (hl:isLoop b=false) (h0:0≤v) (h1:v<c.Sign_.length) (l:List Xc) (k:Nat):goR c (lpB v::l) k s b=goR c l (k+1) s (b++[⟨36,v,s⟩]):=by
 have e1:standsR c (lpB v) s b=true:=by
  unfold standsR
  rw [fits_B h0 h1,hl]
  have:rdOk s (lpB v)=true:=rfl
  rw [this]
  unfold placeR
  simp; omega
 rw [goR_cons,e1]
 rfl
theorem go_pre {o:List Xg} {w v:Int} {t:List Xg} {s:List Bool} (hb:(base o).length<64) (hw:Top c w t) (hv:v = -1∨(0≤v∧v<c.Sign_.length)) (l:List Xc) (k:Nat) :
  ∃ t' k',Top c v t'∧goR c (preF w v++l) k s (base o++t)=goR c l k' s (base o++t'):=by
 unfold preF
 by_cases hvw:v=w
 ·subst hvw
  exact ⟨t,k,hw,by simp⟩
 ·have e:(v != w)=true:=by simpa using hvw
  rw [e]
  rcases hw with ⟨rfl,rfl⟩ | ⟨w0,w1,st,rfl⟩
  ·rcases hv with rfl | ⟨v0,v1⟩
   ·exact absurd rfl hvw
   ·refine ⟨[⟨36,v,s⟩],k+1,.inr ⟨v0,v1,s,rfl⟩,?_⟩
    have d:decide (v≥0)=true:=by simpa using v0
    rw [d]
    simp only [show decide ((-1:Int)≥0)=false from rfl,Bool.false_and,Bool.true_and,cond_true,cond_false,List.nil_append,List.append_nil,List.singleton_append]
    exact go_B hb (isLoop_base o) v0 v1 l k
  ·have dw:decide (w≥0)=true:=by simpa using w0
   rw [dw]
   rcases hv with rfl | ⟨v0,v1⟩
   ·refine ⟨[],k+1,.inl ⟨rfl,rfl⟩,?_⟩
    simp only [show decide ((-1:Int)≥0)=false from rfl,Bool.false_and,Bool.true_and,cond_true,cond_false,List.append_nil,List.singleton_append]
    exact go_E l k
   ·refine ⟨[⟨36,v,s⟩],k+1+1,.inr ⟨v0,v1,s,rfl⟩,?_⟩
    have d:decide (v≥0)=true:=by simpa using v0
    rw [d]
    simp only [Bool.true_and,cond_true,List.cons_append,List.nil_append]
    rw [go_E,go_B hb (isLoop_base o) v0 v1]
theorem goR_fz (hr:∀ t ∈ c.Regs_,mayT c.Sign_ t=true):∀ (l:List Xc) (k k':Nat) (s:List Bool) (o:List Xg) (r:List Bool×List Xg) (w:Int) (t:List Xg),
  goR c l k s o = .inr r→deep ((base o).length:Int) l=false→(base o).length<64→Top c w t→goR c (fzL c w (bare l)) k' s (base o++t) = .inr (r.1,base r.2)
 | [],k,k',s,o,r,w,t,hg,hd,hb,ht=>by
  obtain rfl:(s,o)=r:=Sum.inr.inj hg
  rcases ht with ⟨rfl,rfl⟩ | ⟨w0,w1,st,rfl⟩
  ·show Sum.inr (s,base o++[])=_
   rw [List.append_nil]
  ·have d:decide (w≥0)=true:=by simpa using w0
   show goR c (bif decide (w≥0) then [lpE] else []) k' s _=_
   rw [d]
   exact go_E [] k'
 | i::l,k,k',s,o,r,w,t,hg,hd,hb,ht=>by
  rw [goR_cons] at hg
  cases hst:standsR c i s o with
  | false=>rw [hst] at hg; cases hg
  | true =>
   rw [hst,cond_true] at hg
   have hst':=hst
   unfold standsR at hst'
   simp only [Bool.and_eq_true] at hst'
   obtain ⟨hfit,hlp,hrd,hpl⟩:=hst'
   rw [deep_cons] at hd
   cases hm:mark i with
   | true =>
    have eb:bare (i::l)=bare l:=by unfold bare; rw [List.filter_cons,hm]; rfl
    rw [eb]
    unfold mark at hm
    have en:(nextR i s o).1=s∧base (nextR i s o).2=base o:=by
     simp only [Bool.or_eq_true,beq_iff_eq] at hm
     unfold nextR
     rcases hm with hm | hm
     ·rw [hm]
      refine ⟨rfl,?_⟩
      show base (o++[⟨36,i.N_,s⟩])=base o
      rw [base_app]
      show base o++[]=_
      rw [List.append_nil]
     ·rw [hm]
      refine ⟨rfl,?_⟩
      show base o.dropLast=base o
      unfold placeR at hpl
      rw [hm] at hpl
      have hpl:isLoop o=true:=hpl
      rcases List.eq_nil_or_concat o with rfl | ⟨o',x,rfl⟩
      ·rfl
      ·rw [List.concat_eq_append] at hpl ⊢
       rw [(isLoop_app o' x).1] at hpl
       rw [List.dropLast_concat,base_app]
       have:base [x]=[]:=by unfold base; simp [hpl]
       rw [this,List.append_nil]
    have e34:(i.Op_==34)=false∧(i.Op_==35)=false:=by
     simp only [Bool.or_eq_true,beq_iff_eq] at hm
     rcases hm with hm | hm <;> rw [hm] <;> decide
    rw [e34.1,e34.2] at hd
    have hd:deep ((base o).length:Int) l=false:=hd
    rw [← en.2] at hd hb ⊢
    rw [en.1] at hg
    exact goR_fz hr l _ _ s _ r w t hg hd hb ht
   | false =>
    have eb:bare (i::l)=i::bare l:=by unfold bare; rw [List.filter_cons,hm]; rfl
    rw [eb]
    show goR c (preF w (vecP c i)++i::fzL c (vecP c i) (bare l)) k' s (base o++t)=_
    have hvc:=vecP_cases hr i
    obtain ⟨t',k2,ht',e⟩:=go_pre (s:=s) hb ht hvc (i::fzL c (vecP c i) (bare l)) k'
    rw [e]
    unfold mark at hm
    simp only [Bool.or_eq_false_iff] at hm
    have hv34:(i.Op_==34)=true∨(i.Op_==35)=true→vecP c i = -1:=by
     intro h
     simp only [beq_iff_eq] at h
     have e1:onD i=false:=by rcases h with h | h <;> unfold onD elem <;> rw [h] <;> decide
     have e2:onA i=false:=by rcases h with h | h <;> unfold onA <;> rw [h] <;> decide
     unfold vecP
     have e3:idx c.Regs_ (-1)=none:=by unfold idx; simp
     rw [e1,e2]
     simp only [cond_false,e3]
    have hlp':(!(isLoop (base o++t') && (!(i.Op_==37) && vecP c i != lstP (base o++t'))))=true:=by
     rcases ht' with ⟨q,rfl⟩ | ⟨v0,v1,st,rfl⟩
     ·rw [List.append_nil,isLoop_base]; rfl
     ·rw [(isLoop_app _ _).2]; simp
    have htop:vecP c i = -1→t'=[]:=by
     intro h
     rcases ht' with ⟨_,q⟩ | ⟨v0,_⟩
     ·exact q
     ·omega
    have h35:(i.Op_==35)=true→∃ o' x,o=o'++[x]∧base o=base o'++[x]:=by
     intro h
     unfold placeR at hpl
     simp only [beq_iff_eq] at h
     rw [h] at hpl
     have hpl:(decide ((o.length:Int) > 0) && !(isLoop o))=true:=hpl
     rcases List.eq_nil_or_concat o with rfl | ⟨o',x,rfl⟩
     ·simp at hpl
     ·rw [List.concat_eq_append] at hpl ⊢
      rw [(isLoop_app o' x).1] at hpl
      simp only [Bool.and_eq_true] at hpl
      refine ⟨o',x,rfl,?_⟩
      rw [base_app]
      congr 1
      unfold base
      rw [List.filter_cons,hpl.2]; rfl
    have hst2:standsR c i s (base o++t')=true:=by
     unfold standsR
     rw [hfit,hlp',hrd]
     unfold placeR
     rw [hm.1,hm.2]
     cases h34:i.Op_==34 with
     | true =>
      rw [htop (hv34 (.inl h34)),List.append_nil]
      simp; omega
     | false =>
      cases h5:i.Op_==35 with
      | true =>
       rw [htop (hv34 (.inr h5)),List.append_nil,isLoop_base]
       obtain ⟨o',x,_,q⟩:=h35 h5
       rw [q]; simp
      | false=>rfl
    rw [goR_cons,hst2,cond_true]
    unfold nextR at hg ⊢
    rw [hm.1,hm.2] at hg ⊢
    cases h34:i.Op_==34 with
    | true =>
     have et:=htop (hv34 (.inl h34))
     have ev:=hv34 (.inl h34)
     subst et
     rw [h34] at hg hd
     simp only [Bool.true_or,cond_true,Bool.or_eq_false_iff] at hg hd ⊢
     rw [List.append_nil]
     have eb2:base (o++[⟨i.Op_,i.N_,s⟩])=base o++[⟨i.Op_,i.N_,s⟩]:=by
      rw [base_app]
      congr 1
      unfold base
      rw [List.filter_cons]
      simp only [hm.1]; rfl
     have:=goR_fz hr l (k+1) (k2+1) s (o++[⟨i.Op_,i.N_,s⟩]) r (vecP c i) [] hg (by rw [eb2]; simpa using hd.2) (by
      rw [eb2]
      have:=hd.1
      simp at this ⊢
      omega) (.inl ⟨ev,rfl⟩)
     rw [eb2,List.append_nil] at this
     exact this
    | false =>
     rw [h34] at hg hd
     cases h5:i.Op_==35 with
     | true =>
      have et:=htop (hv34 (.inr h5))
      have ev:=hv34 (.inr h5)
      subst et
      rw [h5] at hg hd
      obtain ⟨o',x,q1,q2⟩:=h35 h5
      rw [List.append_nil]
      simp only [Bool.false_or,Bool.or_self,cond_true,cond_false] at hg hd ⊢
      rw [q2] at hd hb ⊢
      rw [q1] at hg
      simp only [List.getLast?_concat,Option.getD_some,List.dropLast_concat] at hg ⊢
      have:=goR_fz hr l (k+1) (k2+1) x.Set_ o' r (vecP c i) [] hg (by
       have e:(((base o'++[x]).length:Nat):Int) - 1=(base o').length:=by simp
       rw [← e]; exact hd) (by simp at hb; omega) (.inl ⟨ev,rfl⟩)
      rw [List.append_nil] at this
      exact this
     | false =>
      rw [h5] at hg hd
      simp only [Bool.false_or,Bool.or_self,cond_true,cond_false] at hg hd ⊢
      cases hs:sets i with
      | true =>
       rw [hs] at hg
       exact goR_fz hr l (k+1) (k2+1) _ o r (vecP c i) t' hg hd hb ht'
      | false =>
       rw [hs] at hg
       exact goR_fz hr l (k+1) (k2+1) _ o r (vecP c i) t' hg hd hb ht'
end
abbrev fusC (c:Xf):Xf:=⟨c.Sign_,c.Regs_,c.Slots_,fzR c⟩
theorem chk_fus {c:Xf} (h:(chk c).1=0):(chk (fusC c)).1=0:=by
 unfold fusC fzR
 cases hd:deep 0 c.List_ || decide (((fzL c (-1) (bare c.List_)).length:Int) > 32768) with
 | true=>exact h
 | false =>
  simp only [Bool.or_eq_false_iff,decide_eq_false_iff_not] at hd
  obtain ⟨_,q1,q2,q3,q4,q5,r,q6,q7⟩:=chk_ok h
  have hr:∀ t ∈ c.Regs_,mayT c.Sign_ t=true:=List.all_eq_true.1 q4
  have:=goR_fz hr c.List_ 0 0 (none0 c) [] r (-1) [] q6 hd.1 (by decide) (.inl ⟨rfl,rfl⟩)
  have e:goR c (fzL c (-1) (bare c.List_)) 0 (none0 c) [] = .inr (r.1,base r.2):=this
  rw [cond_false,chk_of h _ (by omega),e,q7]
  rfl
theorem bare_app (a b:List Xc):bare (a++b)=bare a++bare b:=by unfold bare; rw [List.filter_append]
theorem bare_pre (o v:Int):bare (preF o v)=[]:=by
 unfold preF
 rw [bare_app]
 have e1:bare [lpE]=[]:=rfl
 have e2:bare [lpB v]=[]:=rfl
 cases decide (o≥0) && v != o <;> cases decide (v≥0) && v != o <;> simp only [cond_true,cond_false,e1,e2] <;> rfl
theorem bare_fz (c:Xf):∀ (l:List Xc) (o:Int),bare (fzL c o (bare l))=bare l
 | [],o=>by
  show bare (bif decide (o≥0) then [lpE] else [])=[]
  cases decide (o≥0) <;> rfl
 | i::l,o=>by
  cases hm:mark i with
  | true =>
   have eb:bare (i::l)=bare l:=by unfold bare; rw [List.filter_cons,hm]; rfl
   rw [eb]; exact bare_fz c l o
  | false =>
   have eb:∀ l,bare (i::l)=i::bare l:=fun l=>by unfold bare; rw [List.filter_cons,hm]; rfl
   rw [eb]
   show bare (preF o (vecP c i)++i::fzL c (vecP c i) (bare l))=_
   rw [bare_app,bare_pre,eb,bare_fz c l]; rfl
theorem bare_fus (c:Xf):bare (fzR c)=bare c.List_:=by
 unfold fzR
 cases deep 0 c.List_ || decide (((fzL c (-1) (bare c.List_)).length:Int) > 32768) with
 | true=>rfl
 | false=>exact bare_fz c c.List_ (-1)
theorem bare_len (l:List Xc):(bare l).length≤l.length:=List.length_filter_le _ _
theorem fzR_len {c:Xf} (h:c.List_.length≤32768):(fzR c).length≤32768:=by
 unfold fzR
 cases hd:deep 0 c.List_ || decide (((fzL c (-1) (bare c.List_)).length:Int) > 32768) with
 | true=>exact h
 | false=>simp only [Bool.or_eq_false_iff,decide_eq_false_iff_not] at hd; simp only [cond_false]; omega
end Loom
set_option linter.unusedVariables false
set_option linter.unusedSimpArgs false
set_option maxRecDepth 100000
namespace Loom
open Go
def fuel22 (a:Xf):Nat:=a.Sign_.length+a.Regs_.length+a.Slots_.length+a.List_.length+200001
theorem scrub {α R:Type} (v:α) {body:Int×List α→Option (Bo (Int×List α) (Int×List α) R)} {n:Nat} {l:List α} (hl:l.length<4000000000000000000) (hn:l.length<n)
  (hb:∀ q,body q=bif decide (q.1<(q.2.length:Int)) then need (0≤q.1∧q.1<(q.2.length:Int)) ((q.2[q.1.toNat]?).bind fun _=>some (.go (IntKind.i64.wrap (q.1+1),q.2.set q.1.toNat v))) else some (.out (q.1,q.2))) :
  iter body n (0,l)=some (.out ((l.length:Int),List.replicate l.length v)):=by
 have:=iter_goAt (L:=l.length) (body:=body) (fun k=>((k:Int),List.replicate k v++l.drop k)) (fun k hk=>?_) (y:=((l.length:Int),List.replicate l.length v)) ?_ l.length 0 n (by omega) hn
 ·simpa using this
 ·rw [hb]
  have el:(List.replicate k v++l.drop k).length=l.length:=by simp; omega
  have e1:decide ((k:Int)<(l.length:Int))=true:=by simp; omega
  have eg:(List.replicate k v++l.drop k)[k]? = some l[k]:=by
   rw [List.getElem?_append_right (by simp),List.length_replicate,Nat.sub_self,List.getElem?_drop]; simp [hk]
  simp only [el,e1,cond_true,Int.toNat_natCast,eg,Option.bind_some]
  rw [need_t (by omega),wrap1 (by omega),List.set_append_right _ _ (by simp),List.length_replicate,Nat.sub_self,List.drop_eq_getElem_cons hk,List.set_cons_zero,List.replicate_succ',List.append_assoc]
  rfl
 ·rw [hb]; simp
theorem small_fus {c:Xf} (hs:Small c) (h:(chk c).1=0):Small (fusC c)∧(fzR c).length≤32768:=by
 obtain ⟨_,q1,q2,q3,q4,q5,r,q6,q7⟩:=chk_ok h
 simp only [decide_eq_false_iff_not] at q2
 have:=fzR_len (c:=c) (by omega)
 exact ⟨⟨hs.s,hs.r,hs.l,by show (fzR c).length * 56≤_; omega⟩,this⟩
theorem u32_fz {c:Xf}:∀ (l:List Xc) (o:Int),(∀ i ∈ l,0≤i.Bits_∧i.Bits_<4294967296)→∀ i ∈ fzL c o l,0≤i.Bits_∧i.Bits_<4294967296
 | [],o,h,i,hi=>by
  have hi:i ∈ (bif decide (o≥0) then [lpE] else []):=hi
  cases hd:decide (o≥0) <;> rw [hd] at hi
  ·cases hi
  ·obtain rfl:=List.mem_singleton.1 hi; exact ⟨show (0:Int)≤0 by decide,show (0:Int)<4294967296 by decide⟩
 | j::l,o,h,i,hi=>by
  have hi:i ∈ preF o (vecP c j)++j::fzL c (vecP c j) l:=hi
  rcases List.mem_append.1 hi with hi | hi
  ·unfold preF at hi
   rcases List.mem_append.1 hi with hi | hi
   ·cases hd:decide (o≥0) && vecP c j != o <;> rw [hd] at hi
    ·cases hi
    ·obtain rfl:=List.mem_singleton.1 hi; exact ⟨show (0:Int)≤0 by decide,show (0:Int)<4294967296 by decide⟩
   ·cases hd:decide (vecP c j≥0) && vecP c j != o <;> rw [hd] at hi
    ·cases hi
    ·obtain rfl:=List.mem_singleton.1 hi; exact ⟨show (0:Int)≤0 by decide,show (0:Int)<4294967296 by decide⟩
  ·rcases List.mem_cons.1 hi with rfl | hi
   ·exact h _ List.mem_cons_self
   ·exact u32_fz l _ (fun i hi=>h i (List.mem_cons_of_mem _ hi)) i hi
theorem u32_fus {c:Xf} (hu:U32s c):U32s (fusC c):=by
 refine ⟨hu.1,?_⟩
 show ∀ i ∈ fzR c,_
 unfold fzR
 cases deep 0 c.List_ || decide (((fzL c (-1) (bare c.List_)).length:Int) > 32768) with
 | true=>exact hu.2
 | false=>exact u32_fz _ _ fun i hi=>hu.2 i (List.mem_filter.1 hi).1
theorem fuse_good {c:Xf} (h:(chk c).1=0):fuseR c=(0,c.Sign_,c.Regs_,c.Slots_,fzR c):=by
 unfold fuseR
 rw [h]; rfl
end Loom
set_option linter.unusedVariables false
set_option linter.unusedSimpArgs false
set_option maxRecDepth 100000
namespace Loom
open Go
def begins (l:List Xc):Nat:=l.countP fun i=>i.Op_==36
def able (c:Xf) (l:List Xc):Nat:=l.countP fun i=>decide (vecP c i≥0)
def loose (c:Xf):Bool→List Xc→Nat
 | _,[]=>0
 | b,i::l=>(bif !(bif i.Op_==36 then true else bif i.Op_==37 then false else b) && decide (vecP c i≥0) then 1 else 0)+loose c (bif i.Op_==36 then true else bif i.Op_==37 then false else b) l
def nbs:Bool→Int→List Xc→Nat
 | _,_,[]=>0
 | b,p,i::l=>bif i.Op_==36 then (bif b && p==i.N_ then 1 else 0)+nbs false i.N_ l else nbs (i.Op_==37) p l
def mostD:Int→Int→List Xc→Int
 | _,m,[]=>m
 | d,m,i::l=>(fun e=>mostD e (if e > m then e else m) l) (bif i.Op_==34 then d+1 else bif i.Op_==35 then d - 1 else d)
section
variable {n:Nat} {c:Xf}
theorem loose_is (hl:c.List_.length≤1000000):∀ (j k f:Nat) (s:Nat) (b:Bool),k+j=c.List_.length→j<f→s≤k→∃ b',iter (f140_b1 n c ()) f ((s:Int),b,(k:Int))=some (.out (((s+loose c b (c.List_.drop k):Nat):Int),b',(c.List_.length:Int)))
 | 0,k,f+1,s,b,hk,hj,hs=>by
  obtain rfl:k=c.List_.length:=by omega
  rw [List.drop_length]
  unfold iter
  rw [f140_b1_eq]; exact ⟨b,by simp [loose]⟩
 | j+1,k,f+1,s,b,hk,hj,hs=>by
  have hkl:k<c.List_.length:=by omega
  have e1:decide ((k:Int)<(c.List_.length:Int))=true:=by simp; omega
  rw [List.drop_eq_getElem_cons hkl]
  unfold iter loose
  rw [f140_b1_eq]
  have e2:∀ {R:Type},((bif c.List_[k].Op_==(36:Int) then some (.inl true) else (bif c.List_[k].Op_==(37:Int) then some (.inl false) else some (.inl b))):Option (Bool⊕R))=some (.inl (bif c.List_[k].Op_==36 then true else bif c.List_[k].Op_==37 then false else b)):=by
   intro R
   cases c.List_[k].Op_==36 <;> cases c.List_[k].Op_==37 <;> rfl
  simp only [e1,cond_true,idx_nat hkl,Option.bind_some,e2,orRet_inl,f60_is,wrap1 (show k<4611686018427387904 by omega),wrap1 (show s<4611686018427387904 by omega)]
  generalize (bif c.List_[k].Op_==36 then true else bif c.List_[k].Op_==37 then false else b)=z
  cases z with
  | true =>
   obtain ⟨b',h⟩:=loose_is hl j (k+1) f s true (by omega) (by omega) (by omega)
   refine ⟨b',?_⟩
   simp only [Bool.not_true,Bool.false_and,cond_false,Option.bind_some,orRet_inl,Nat.zero_add]
   exact h
  | false =>
   cases hv:decide (vecP c c.List_[k]≥0) with
   | true =>
    obtain ⟨b',h⟩:=loose_is hl j (k+1) f (s+1) false (by omega) (by omega) (by omega)
    refine ⟨b',?_⟩
    simp only [Bool.not_false,Bool.true_and,cond_true,Option.bind_some,orRet_inl,hv,h]
    congr 4; omega
   | false =>
    obtain ⟨b',h⟩:=loose_is hl j (k+1) f s false (by omega) (by omega) (by omega)
    refine ⟨b',?_⟩
    simp only [Bool.not_false,Bool.true_and,cond_true,cond_false,Option.bind_some,orRet_inl,hv,Nat.zero_add]
    exact h
theorem nbs_is (hl:c.List_.length≤1000000):∀ (j k f:Nat) (s:Nat) (b:Bool) (p:Int),k+j=c.List_.length→j<f→s≤k→(b=match k with | 0=>false | k'+1=>match c.List_[k']? with | some i=>i.Op_==37 | none=>false) →
  ∃ p',iter (f141_b1 n c ()) f ((s:Int),p,(k:Int))=some (.out (((s+nbs b p (c.List_.drop k):Nat):Int),p',(c.List_.length:Int)))
 | 0,k,f+1,s,b,p,hk,hj,hs,hb=>by
  obtain rfl:k=c.List_.length:=by omega
  rw [List.drop_length]
  unfold iter
  rw [f141_b1_eq]; exact ⟨p,by simp [nbs]⟩
 | j+1,k,f+1,s,b,p,hk,hj,hs,hb=>by
  have hkl:k<c.List_.length:=by omega
  have e1:decide ((k:Int)<(c.List_.length:Int))=true:=by simp; omega
  rw [List.drop_eq_getElem_cons hkl]
  unfold iter nbs
  rw [f141_b1_eq]
  have hnext:(c.List_[k].Op_==37)=match k+1 with | 0=>false | k'+1=>match c.List_[k']? with | some i=>i.Op_==37 | none=>false:=by
   simp [List.getElem?_eq_getElem hkl]
  have e2:∀ {R:Type},((bif decide ((k:Int) > (0:Int)) then ((idx c.List_ (IntKind.i64.wrap ((k:Int) - (1:Int)))).bind fun y2=>bif (y2.Op_==(37:Int)) then (some (.inl ((p==c.List_[k].N_),c.List_[k].Op_,c.List_[k].D_,c.List_[k].A_,c.List_[k].B_,c.List_[k].C_,c.List_[k].N_,c.List_[k].Bits_))) else (some (.inl (false,c.List_[k].Op_,c.List_[k].D_,c.List_[k].A_,c.List_[k].B_,c.List_[k].C_,c.List_[k].N_,c.List_[k].Bits_)))) else (some (.inl (false,c.List_[k].Op_,c.List_[k].D_,c.List_[k].A_,c.List_[k].B_,c.List_[k].C_,c.List_[k].N_,c.List_[k].Bits_))):Option ((Bool×Int×Int×Int×Int×Int×Int×Int)⊕R))=some (.inl (b && p==c.List_[k].N_,c.List_[k].Op_,c.List_[k].D_,c.List_[k].A_,c.List_[k].B_,c.List_[k].C_,c.List_[k].N_,c.List_[k].Bits_))):=by
   intro R
   match k,hkl,hb with
   | 0,_,hb=>rw [hb]; rfl
   | k+1,hkl,hb =>
    have ew:IntKind.i64.wrap (((k+1:Nat):Int) - 1)=(k:Int):=by rw [wrap_small (by omega) (by omega)]; omega
    have d:decide (((k+1:Nat):Int) > 0)=true:=by simp only [decide_eq_true_eq]; omega
    have hk':k<c.List_.length:=by omega
    simp only [List.getElem?_eq_getElem hk'] at hb
    rw [d,cond_true,ew,idx_nat hk',Option.bind_some,hb]
    cases c.List_[k].Op_==37 <;> rfl
  simp only [e1,cond_true,idx_nat hkl,Option.bind_some,wrap1 (show k<4611686018427387904 by omega),wrap1 (show s<4611686018427387904 by omega)]
  cases h36:c.List_[k].Op_==36 with
  | false =>
   have e3:(c.List_[k].Op_ != 36)=true:=by unfold bne; rw [h36]; rfl
   obtain ⟨p',h⟩:=nbs_is hl j (k+1) f s (c.List_[k].Op_==37) p (by omega) (by omega) (by omega) hnext
   rw [e3]
   exact ⟨p',h⟩
  | true =>
   have e3:(c.List_[k].Op_ != 36)=false:=by unfold bne; rw [h36]; rfl
   have e4:(c.List_[k].Op_==37)=false:=by
    have:c.List_[k].Op_=36:=by simpa using h36
    rw [this]; decide
   rw [e4] at hnext
   rw [e3,cond_false,e2]
   simp only [Option.bind_some,orRet_inl]
   cases hq:b && p==c.List_[k].N_ with
   | true =>
    obtain ⟨p',h⟩:=nbs_is hl j (k+1) f (s+1) false c.List_[k].N_ (by omega) (by omega) (by omega) hnext
    refine ⟨p',?_⟩
    simp only [cond_true,Option.bind_some,orRet_inl,h]
    congr 4; omega
   | false =>
    obtain ⟨p',h⟩:=nbs_is hl j (k+1) f s false c.List_[k].N_ (by omega) (by omega) (by omega) hnext
    refine ⟨p',?_⟩
    simp only [cond_false,cond_true,Option.bind_some,orRet_inl,Nat.zero_add]
    exact h
end
theorem mostD_ge:∀ (l:List Xc) (d m:Int),m≤mostD d m l
 | [],d,m=>Int.le_refl m
 | i::l,d,m=>by
  unfold mostD
  generalize (bif i.Op_==34 then d+1 else bif i.Op_==35 then d - 1 else d)=e
  have:=mostD_ge l e (if e > m then e else m)
  by_cases h:e > m
  ·simp only [h,if_true] at this ⊢; omega
  ·simp only [h,if_false] at this ⊢; exact this
theorem deep_mostD:∀ (l:List Xc) (d m:Int),mostD d m l<64→deep d l=false
 | [],d,m,h=>rfl
 | i::l,d,m,h=>by
  rw [deep_cons]
  unfold mostD at h
  cases h34:i.Op_==34 with
  | true =>
   simp only [h34,cond_true] at h ⊢
   have h1:=deep_mostD l (d+1) _ h
   have h2:=mostD_ge l (d+1) (if d+1 > m then d+1 else m)
   rw [h1]
   have:d+1<64:=by
    by_cases q:d+1 > m
    ·simp only [q,if_true] at h2 h; omega
    ·simp only [q,if_false] at h2 h; omega
   simp; omega
  | false =>
   cases h35:i.Op_==35 with
   | true=>simp only [h34,h35,cond_true,cond_false] at h ⊢; exact deep_mostD l _ _ h
   | false=>simp only [h34,h35,cond_false] at h ⊢; exact deep_mostD l _ _ h
section
variable {c:Xf}
theorem loose_regs {d:Xf} (h:∀ i,vecP d i=vecP c i):∀ (l:List Xc) (b:Bool),loose d b l=loose c b l
 | [],b=>rfl
 | i::l,b=>by
  unfold loose
  rw [h,loose_regs h l]
theorem loose_E (b:Bool) (l:List Xc):loose c b (lpE::l)=loose c false l:=by
 have hv:decide (vecP c lpE≥0)=false:=by kernel_rfl
 show (bif !false && decide (vecP c lpE≥0) then 1 else 0)+loose c false l=_
 rw [hv]; simp
theorem loose_B (b:Bool) (v:Int) (l:List Xc):loose c b (lpB v::l)=loose c true l:=by
 show (bif !true && decide (vecP c (lpB v)≥0) then 1 else 0)+loose c true l=_
 simp
theorem loose_pre {o v:Int} (ho:o = -1∨0≤o) (hv:v = -1∨0≤v) (l:List Xc):loose c (decide (o≥0)) (preF o v++l)=loose c (decide (v≥0)) l:=by
 unfold preF
 by_cases hvo:v=o
 ·subst hvo; simp
 ·have e:(v != o)=true:=by simpa using hvo
  rw [e]
  rcases ho with rfl | ho <;> rcases hv with rfl | hv
  ·exact absurd rfl hvo
  ·have d:decide (v≥0)=true:=by simpa using hv
   rw [d]; exact loose_B _ _ _
  ·have d:decide (o≥0)=true:=by simpa using ho
   rw [d]; exact loose_E _ _
  ·have d:decide (o≥0)=true:=by simpa using ho
   have d':decide (v≥0)=true:=by simpa using hv
   rw [d,d']
   show loose c true (lpE::lpB v::l)=_
   rw [loose_E,loose_B]
theorem fz_loose (hr:∀ t ∈ c.Regs_,mayT c.Sign_ t=true):∀ (l:List Xc) (o:Int),(∀ i ∈ l,mark i=false)→(o = -1∨0≤o)→loose c (decide (o≥0)) (fzL c o l)=0
 | [],o,hm,ho=>by
  show loose c _ (bif decide (o≥0) then [lpE] else [])=0
  cases decide (o≥0) with
  | true=>exact loose_E _ _
  | false=>rfl
 | i::l,o,hm,ho=>by
  show loose c _ (preF o (vecP c i)++i::fzL c (vecP c i) l)=0
  have hi:=hm i List.mem_cons_self
  unfold mark at hi
  simp only [Bool.or_eq_false_iff] at hi
  have hv:vecP c i = -1∨0≤vecP c i:=by
   rcases vecP_cases hr i with h | h
   ·exact .inl h
   ·exact .inr h.1
  rw [loose_pre ho hv]
  have ih:=fz_loose hr l (vecP c i) (fun j hj=>hm j (List.mem_cons_of_mem _ hj)) hv
  unfold loose
  rw [hi.1,hi.2]
  simp only [cond_false,ih,Bool.not_and_self]
theorem nbs_pre {o v p:Int} (hp:0≤o→p=o) (ho:o = -1∨0≤o) (hv:v = -1∨0≤v) {i:Xc} (hi:(i.Op_==36)=false∧(i.Op_==37)=false) (l:List Xc):∃ p',(0≤v→p'=v)∧nbs false p (preF o v++i::l)=nbs false p' l:=by
 have hI:∀ b q,nbs b q (i::l)=nbs false q l:=fun b q=>by
  show (bif i.Op_==36 then _ else nbs (i.Op_==37) q l)=_
  rw [hi.1,hi.2]; rfl
 have hE:∀ b q l,nbs b q (lpE::l)=nbs true q l:=fun b q l=>rfl
 have hB:∀ b q l,nbs b q (lpB v::l)=(bif b && q==v then 1 else 0)+nbs false v l:=fun b q l=>rfl
 unfold preF
 by_cases hvo:v=o
 ·subst hvo
  exact ⟨p,hp,by simp [hI]⟩
 ·have e:(v != o)=true:=by simpa using hvo
  rw [e]
  rcases ho with rfl | ho <;> rcases hv with rfl | hv
  ·exact absurd rfl hvo
  ·have d:decide (v≥0)=true:=by simpa using hv
   rw [d]
   refine ⟨v,fun _=>rfl,?_⟩
   show nbs false p (lpB v::i::l)=_
   rw [hB,hI]; simp
  ·have d:decide (o≥0)=true:=by simpa using ho
   rw [d]
   refine ⟨p,fun h=>by omega,?_⟩
   show nbs false p (lpE::i::l)=_
   rw [hE,hI]
  ·have d:decide (o≥0)=true:=by simpa using ho
   have d':decide (v≥0)=true:=by simpa using hv
   rw [d,d']
   refine ⟨v,fun _=>rfl,?_⟩
   show nbs false p (lpE::lpB v::i::l)=_
   have hpv:(p==v)=false:=by rw [hp ho]; simpa using fun h=>hvo h.symm
   rw [hE,hB,hI,hpv]; simp
theorem fz_nbs (hr:∀ t ∈ c.Regs_,mayT c.Sign_ t=true):∀ (l:List Xc) (o p:Int),(∀ i ∈ l,mark i=false)→(o = -1∨0≤o)→(0≤o→p=o)→nbs false p (fzL c o l)=0
 | [],o,p,hm,ho,hp=>by
  show nbs false p (bif decide (o≥0) then [lpE] else [])=0
  cases decide (o≥0) <;> rfl
 | i::l,o,p,hm,ho,hp=>by
  show nbs false p (preF o (vecP c i)++i::fzL c (vecP c i) l)=0
  have hi:=hm i List.mem_cons_self
  unfold mark at hi
  simp only [Bool.or_eq_false_iff] at hi
  have hv:vecP c i = -1∨0≤vecP c i:=by
   rcases vecP_cases hr i with h | h
   ·exact .inl h
   ·exact .inr h.1
  obtain ⟨p',h1,h2⟩:=nbs_pre hp ho hv hi (fzL c (vecP c i) l)
  rw [h2]
  exact fz_nbs hr l _ p' (fun j hj=>hm j (List.mem_cons_of_mem _ hj)) hv h1
theorem fz_begins:∀ (l:List Xc) (o:Int),(∀ i ∈ l,mark i=false)→begins (fzL c o l)≤able c l
 | [],o,hm=>by
  show begins (bif decide (o≥0) then [lpE] else [])≤0
  cases decide (o≥0) <;> exact Nat.le_refl _
 | i::l,o,hm=>by
  show begins (preF o (vecP c i)++i::fzL c (vecP c i) l)≤able c (i::l)
  have hi:=hm i List.mem_cons_self
  unfold mark at hi
  simp only [Bool.or_eq_false_iff] at hi
  have ih:=fz_begins l (vecP c i) (fun j hj=>hm j (List.mem_cons_of_mem _ hj))
  unfold begins able at ih ⊢
  rw [List.countP_append,List.countP_cons,List.countP_cons,hi.1]
  have h1:List.countP (fun i=>i.Op_==36) (preF o (vecP c i))≤if decide (vecP c i≥0)=true then 1 else 0:=by
   unfold preF
   cases decide (o≥0) && vecP c i != o <;> cases decide (vecP c i≥0) <;> cases vecP c i != o <;> simp [List.countP_cons]
  simp only [Bool.false_eq_true,if_false,Nat.add_zero] at h1 ⊢
  omega
theorem fz_len:∀ (l:List Xc) (o:Int),(fzL c o l).length≤3 * l.length+1
 | [],o=>by
  show (bif decide (o≥0) then [lpE] else []).length≤_
  cases decide (o≥0) <;> simp
 | i::l,o=>by
  show (preF o (vecP c i)++i::fzL c (vecP c i) l).length≤_
  have:=preF_len o (vecP c i)
  have:=fz_len l (vecP c i)
  simp only [List.length_append,List.length_cons]
  omega
theorem bare_mark (l:List Xc):∀ i ∈ bare l,mark i=false:=fun i hi=>by
 have:=(List.mem_filter.1 hi).2
 simpa using this
end
section
variable {n:Nat} {c:Xf}
theorem low_is (hn:100000<n) (h:(chk c).1=0) (hd:deep 0 c.List_=false) (hb:(bare c.List_).length≤10922) :
  f140 n (fusC c)=some 0∧f141 n (fusC c)=some 0:=by
 obtain ⟨_,q1,q2,q3,q4,q5,r,q6,q7⟩:=chk_ok h
 have hr:∀ t ∈ c.Regs_,mayT c.Sign_ t=true:=List.all_eq_true.1 q4
 simp only [decide_eq_false_iff_not] at q2
 have hl:=fz_len (c:=c) (bare c.List_) (-1)
 have e:fzR c=fzL c (-1) (bare c.List_):=by
  unfold fzR
  have:decide (((fzL c (-1) (bare c.List_)).length:Int) > 32768)=false:=by simp only [decide_eq_false_iff_not]; omega
  rw [hd,this]; rfl
 have hL:(fusC c).List_.length≤32768:=by show (fzR c).length≤_; rw [e]; omega
 refine ⟨?_,?_⟩
 ·obtain ⟨b',h1⟩:=loose_is (n:=n) (c:=fusC c) (by omega) (fusC c).List_.length 0 n 0 false (by omega) (by omega) (by omega)
  have h1:iter (f140_b1 n (fusC c) ()) n (0,false,0)=_:=h1
  rw [f140_eq,h1,List.drop_zero]
  have:loose (fusC c) false (fusC c).List_=0:=by
   rw [loose_regs (c:=c) (d:=fusC c) (fun _=>rfl)]
   show loose c false (fzR c)=0
   rw [e]
   exact fz_loose hr _ (-1) (bare_mark _) (.inl rfl)
  rw [this]; rfl
 ·obtain ⟨p',h1⟩:=nbs_is (n:=n) (c:=fusC c) (by omega) (fusC c).List_.length 0 n 0 false (-1) (by omega) (by omega) (by omega) rfl
  have h1:iter (f141_b1 n (fusC c) ()) n (0,-1,0)=_:=h1
  rw [f141_eq,h1,List.drop_zero]
  have:nbs false (-1) (fusC c).List_=0:=by
   show nbs false (-1) (fzR c)=0
   rw [e]
   exact fz_nbs hr _ (-1) (-1) (bare_mark _) (.inl rfl) (fun h=>by omega)
  rw [this]; rfl
end
end Loom
set_option linter.unusedVariables false
set_option linter.unusedSimpArgs false
set_option maxRecDepth 100000
namespace Loom
open Go
theorem iter_app {α R:Type} (g:Nat→α) (K:Nat) (l:List α) {n:Nat} {body:Int×List α→Option (Bo (Int×List α) (Int×List α) R)} (hn:K<n)
  (hb:∀ k,k<K→∀ m:List α,m.length≤l.length+K→body ((k:Int),m)=some (.go (((k+1:Nat):Int),m++[g k]))) (he:∀ m:List α,body ((K:Int),m)=some (.out ((K:Int),m))) :
  iter body n (0,l)=some (.out ((K:Int),l++(List.range K).map g)):=by
 have:=iter_goAt (L:=K) (body:=body) (fun k=>((k:Int),l++(List.range k).map g)) (fun k hk=>?_) (y:=((K:Int),l++(List.range K).map g)) ?_ K 0 n (by omega) hn
 ·simpa using this
 ·rw [hb k hk _ (by simp; omega),List.range_succ,List.map_append,List.append_assoc]; rfl
 ·exact he _
theorem deep_count:∀ (l:List Xc) (d:Int),d+(l.countP fun i=>i.Op_==34:Nat)<64→deep d l=false
 | [],d,h=>rfl
 | i::l,d,h=>by
  rw [deep_cons]
  rw [List.countP_cons] at h
  cases h34:i.Op_==34 with
  | true =>
   simp only [h34,if_true] at h
   rw [cond_true,deep_count l (d+1) (by omega)]
   simp; omega
  | false =>
   simp only [h34,Bool.false_eq_true,if_false] at h
   cases h35:i.Op_==35 with
   | true=>rw [cond_false,cond_true]; exact deep_count l (d - 1) (by omega)
   | false=>rw [cond_false,cond_false]; exact deep_count l d (by omega)
theorem clamp (x lo hi:Int) (h0:0≤lo) (h:lo≤hi):∃ K:Nat,(if (if hi<x then hi else x) > lo then (if hi<x then hi else x) else lo)=(K:Int)∧lo≤(K:Int)∧(K:Int)≤hi:=by
 by_cases h1:hi<x
 ·simp only [h1,if_true]
  by_cases h2:hi > lo
  ·simp only [h2,if_true]; exact ⟨hi.toNat,by omega,by omega,by omega⟩
  ·simp only [h2,if_false]; exact ⟨lo.toNat,by omega,by omega,by omega⟩
 ·simp only [h1,if_false]
  by_cases h2:x > lo
  ·simp only [h2,if_true]; exact ⟨x.toNat,by omega,by omega,by omega⟩
  ·simp only [h2,if_false]; exact ⟨lo.toNat,by omega,by omega,by omega⟩
abbrev abc:ByteArray:=⟨#[97,98,99,100,101,102,103,104]⟩
theorem long_is (v:Xa):∃ (c:Xf) (b1:Xa→Prop),Small c∧U32s c∧c.List_.length≤40000∧c.Regs_.length≤10∧c.Sign_.length≤10∧c.Slots_=[] ∧
  ((if (if (64:Int)<v.Whens_ then 64 else v.Whens_) > 0 then (if (64:Int)<v.Whens_ then 64 else v.Whens_) else 0)<64→deep 0 c.List_=false) ∧
  ∃ t1 t2 t3 t4:Int,∃ l2 l3:List Xc,
   iter (f124_b1 200000 v ()) 200000 (0,[],[⟨2,0⟩])=some (.out (t1,c.Sign_,c.Regs_)) ∧
   iter (f124_b2 200000 v (c.Sign_,c.Regs_)) 200000 (0,[⟨2,0,0,0,0,1,0⟩])=some (.out (t2,l2)) ∧
   iter (f124_b3 200000 v (c.Sign_,c.Regs_)) 200000 (0,l2)=some (.out (t3,l3)) ∧
   iter (f124_b4 200000 v (c.Sign_,c.Regs_)) 200000 (0,l3)=some (.out (t4,c.List_)):=by
 obtain ⟨P,hP,hP1,hP2⟩:=clamp v.Params_ 1 8 (by decide) (by decide)
 obtain ⟨Wn,hW,hW1,hW2⟩:=clamp v.Whens_ 0 64 (by decide) (by decide)
 obtain ⟨M,hM,hM1,hM2⟩:=clamp v.Many_ 0 33000 (by decide) (by decide)
 let gs:Nat→Xd:=fun k=>⟨abc.extract k (k+1),1,1⟩
 let gr:Nat→Xb:=fun k=>⟨3,(k:Int)⟩
 let gm:Nat→Xc:=fun k=>⟨29,IntKind.i64.wrap (1+(k:Int).tmod (P:Int)),0,0,0,0,0⟩
 let w34:Xc:=⟨34,0,0,0,0,0,0⟩
 let w35:Xc:=⟨35,0,0,0,0,0,0⟩
 have i1:iter (f124_b1 200000 v ()) 200000 (0,[],[⟨2,0⟩])=some (.out ((P:Int),(List.range P).map gs,[⟨2,0⟩]++(List.range P).map gr)):=by
  have:=iter_goAt (L:=P) (body:=f124_b1 200000 v ()) (fun k=>((k:Int),(List.range k).map gs,[⟨2,0⟩]++(List.range k).map gr)) (fun k hk=>?_) (y:=((P:Int),(List.range P).map gs,[⟨2,0⟩]++(List.range P).map gr)) ?_ P 0 200000 (by omega) (by omega)
  ·exact this
  ·rw [f124_b1_eq]
   simp only [hP]
   have e1:decide ((k:Int)<(P:Int))=true:=by simp; omega
   have e2:(abc.size:Int)=8:=rfl
   rw [e1,cond_true,wrap1 (by omega),need_t ⟨by omega,by omega,by rw [e2]; omega⟩,need_t (by simp; omega),need_t (by simp; omega),List.range_succ,List.map_append,List.map_append,List.append_assoc]
   rfl
  ·rw [f124_b1_eq]
   simp only [hP]
   have e1:decide ((P:Int)<(P:Int))=false:=by simp
   rw [e1]; rfl
 generalize hS:(List.range P).map gs=S at i1
 generalize hR:[(⟨2,0⟩:Xb)]++(List.range P).map gr=R at i1
 have hSl:S.length≤8:=by rw [← hS]; simp; omega
 have hRl:R.length≤9:=by rw [← hR]; simp; omega
 have i2:iter (f124_b2 200000 v (S,R)) 200000 (0,[⟨2,0,0,0,0,1,0⟩])=some (.out ((Wn:Int),[⟨2,0,0,0,0,1,0⟩]++(List.range Wn).map fun _=>w34)):=by
  refine iter_app (fun _=>w34) Wn _ (by omega) (fun k hk m hm=>?_) (fun m=>?_)
  ·rw [f124_b2_eq]
   simp only [hW]
   have e1:decide ((k:Int)<(Wn:Int))=true:=by simp; omega
   simp only [List.length_singleton] at hm
   rw [e1,cond_true,need_t (by simp; omega),wrap1 (by omega)]
  ·rw [f124_b2_eq]
   simp only [hW]
   have e1:decide ((Wn:Int)<(Wn:Int))=false:=by simp
   rw [e1]; rfl
 generalize hl2:[(⟨2,0,0,0,0,1,0⟩:Xc)]++(List.range Wn).map (fun _=>w34)=l2 at i2
 have hl2l:l2.length≤65:=by rw [← hl2]; simp; omega
 have i3:iter (f124_b3 200000 v (S,R)) 200000 (0,l2)=some (.out ((M:Int),l2++(List.range M).map gm)):=by
  refine iter_app gm M _ (by omega) (fun k hk m hm=>?_) (fun m=>?_)
  ·rw [f124_b3_eq]
   simp only [hM,hP]
   have e1:decide ((k:Int)<(M:Int))=true:=by simp; omega
   rw [e1,cond_true,need_t (by omega),need_t (by simp; omega),wrap1 (by omega)]
  ·rw [f124_b3_eq]
   simp only [hM]
   have e1:decide ((M:Int)<(M:Int))=false:=by simp
   rw [e1]; rfl
 generalize hl3:l2++(List.range M).map gm=l3 at i3
 have hl3l:l3.length≤33065:=by rw [← hl3]; simp; omega
 have i4:iter (f124_b4 200000 v (S,R)) 200000 (0,l3)=some (.out ((Wn:Int),l3++(List.range Wn).map fun _=>w35)):=by
  refine iter_app (fun _=>w35) Wn _ (by omega) (fun k hk m hm=>?_) (fun m=>?_)
  ·rw [f124_b4_eq]
   simp only [hW]
   have e1:decide ((k:Int)<(Wn:Int))=true:=by simp; omega
   rw [e1,cond_true,need_t (by simp; omega),wrap1 (by omega)]
  ·rw [f124_b4_eq]
   simp only [hW]
   have e1:decide ((Wn:Int)<(Wn:Int))=false:=by simp
   rw [e1]; rfl
 have hl4l:(l3++(List.range Wn).map fun _=>w35).length≤33200:=by simp; omega
 refine ⟨⟨S,R,[],l3++(List.range Wn).map fun _=>w35⟩,fun _=>True,⟨?_,?_,?_,?_⟩,⟨?_,?_⟩,?_,?_,?_,rfl,?_,_,_,_,_,l2,l3,i1,i2,i3,i4⟩
 ·show S.length * 32≤_; omega
 ·show R.length * 16≤_; omega
 ·show ([]:List Xe).length * 32≤_; decide
 ·show (l3++(List.range Wn).map fun _=>w35).length * 56≤_; omega
 ·intro s hs; cases hs
 ·intro i hi
  have hz:i.Bits_=0:=by
   have hi:i ∈ l3++(List.range Wn).map fun _=>w35:=hi
   rw [← hl3,← hl2] at hi
   simp only [List.mem_append,List.mem_map,List.mem_singleton] at hi
   rcases hi with ((rfl | ⟨_,_,rfl⟩) | ⟨_,_,rfl⟩) | ⟨_,_,rfl⟩ <;> rfl
  rw [hz]; exact ⟨by decide,by decide⟩
 ·show (l3++(List.range Wn).map fun _=>w35).length≤_; omega
 ·show R.length≤_; omega
 ·show S.length≤_; omega
 ·intro hw
  rw [hW] at hw
  refine deep_count _ 0 ?_
  show 0+((List.countP (fun i=>i.Op_==34) (l3++(List.range Wn).map fun _=>w35):Nat):Int)<64
  rw [← hl3,← hl2]
  simp only [List.countP_append]
  have c1:List.countP (fun i:Xc=>i.Op_==34) [⟨2,0,0,0,0,1,0⟩]=0:=by decide
  have c2:List.countP (fun i:Xc=>i.Op_==34) ((List.range Wn).map fun _=>w34)≤Wn:=by
   have:=List.countP_le_length (p:=fun i:Xc=>i.Op_==34) (l:=(List.range Wn).map fun _=>w34)
   simpa using this
  have c3:List.countP (fun i:Xc=>i.Op_==34) ((List.range M).map gm)=0:=by
   rw [List.countP_eq_zero]
   intro i hi
   obtain ⟨_,_,rfl⟩:=List.mem_map.1 hi
   show ¬((29:Int)==34)=true
   decide
  have c4:List.countP (fun i:Xc=>i.Op_==34) ((List.range Wn).map fun _=>w35)=0:=by
   rw [List.countP_eq_zero]
   intro i hi
   obtain ⟨_,_,rfl⟩:=List.mem_map.1 hi
   decide
  rw [c1,c3,c4]
  omega
end Loom
namespace Loom
open Go
set_option maxRecDepth 100000
abbrev y_i64:Ty:=.int .i64
def w_i64 (_:Nat→Nat→Prop) (x:Int):Prop:=(Lit.int .i64 x).wf=true
theorem r_i64 {R:Nat→Nat→Prop} {cs:List AV} (h:OfTy R y_i64 cs):∃ x:Int,w_i64 R x∧[.sc (.int .i64 x)]=cs:=by
 obtain ⟨n,rfl,h⟩:=h
 exact ⟨n,h,rfl⟩
abbrev y_T_lathelaw22_Rows:Ty:=.st (.cons y_i64 (.cons y_i64 (.cons y_i64 (.nil))))
structure w_T_lathelaw22_Rows (R:Nat→Nat→Prop) (x:Xa):Prop where
 Many_:w_i64 R x.Many_
 Params_:w_i64 R x.Params_
 Whens_:w_i64 R x.Whens_
theorem r_T_lathelaw22_Rows {R:Nat→Nat→Prop} {cs:List AV} (h:OfTy R y_T_lathelaw22_Rows cs):∃ x:Xa,w_T_lathelaw22_Rows R x∧(c13 false) x=cs:=by
 obtain ⟨_,_,rfl,h0,h⟩:=h
 obtain ⟨_,_,rfl,h1,h⟩:=h
 obtain ⟨_,_,rfl,h2,h⟩:=h
 obtain rfl:=h
 obtain ⟨x0,w0,rfl⟩:=r_i64 h0
 obtain ⟨x1,w1,rfl⟩:=r_i64 h1
 obtain ⟨x2,w2,rfl⟩:=r_i64 h2
 exact ⟨⟨x0,x1,x2⟩,⟨w0,w1,w2⟩,rfl⟩
end Loom
set_option linter.unusedVariables false
set_option linter.unusedSimpArgs false
set_option maxRecDepth 100000
namespace Loom
open Go
theorem pure124 (v:Xa):f124 200000 v=some true:=by
 obtain ⟨c,_,hs,hu,hl,hr,hsg,hz,hd,t1,t2,t3,t4,l2,l3,i1,i2,i3,i4⟩:=long_is v
 have hn:100000<200000:=by decide
 have hw:f126 200000 ()=some true:=works22 (by decide)
 have e:(⟨c.Sign_,c.Regs_,c.Slots_,c.List_⟩:Xf)=c:=rfl
 have e0:(⟨c.Sign_,c.Regs_,([]:List Xe),c.List_⟩:Xf)=c:=by rw [← hz]
 rw [f124_eq,i1]
 simp only [Option.bind_some,Bo.then]
 rw [i2]
 simp only [Option.bind_some,Bo.then]
 rw [i3]
 simp only [Option.bind_some,Bo.then]
 rw [i4]
 simp only [Option.bind_some,Bo.then,e0]
 rw [twin_is hs]
 simp only [Option.bind_some,e]
 rw [fuse_is hn hs hu,fine_is hn hu]
 simp only [Option.bind_some]
 by_cases h:(chk c).1=0
 ·rw [fuse_good h,h]
  have e1:f125 200000 (fusC c)=some true:=by rw [fine_is hn (u32_fus hu),chk_fus h]; rfl
  simp only [beq_int,Bool.not_true,cond_false,show ((0:Int) != 0)=false from rfl,e1,Option.bind_some,orRet_inl]
  cases hb:decide ((c.List_.length:Int)≤10922) with
  | false=>simp only [cond_false,Option.bind_some,orRet_inl,Bool.not_false,cond_true,hw]
  | true =>
   simp only [cond_true,Option.bind_some,orRet_inl]
   cases hq:decide ((if (if (64:Int)<v.Whens_ then 64 else v.Whens_) > 0 then (if (64:Int)<v.Whens_ then 64 else v.Whens_) else 0)<64) with
   | false=>simp only [Bool.not_false,cond_true,Option.bind_some,hw]
   | true =>
    simp only [decide_eq_true_eq] at hb hq
    have hbl:=bare_len c.List_
    obtain ⟨h1,h2⟩:=low_is hn h (hd hq) (by omega)
    simp only [Bool.not_true,cond_false,h1,h2,Option.bind_some,beq_int,cond_true,hw]
 ·have h2:((chk c).1==0)=false:=by simpa using h
  have h1:((chk c).1 != 0)=true:=by simpa using h
  have hf:fuseR c=(160,[],[],[],[]):=by unfold fuseR; rw [h1]; rfl
  rw [h2,hf]
  simp only [Bool.not_false,cond_true,beq_int,Option.bind_some,hw]
theorem pureFuseLong (a:Xa) (_:w_T_lathelaw22_Rows RSaid a):∃ n,f124 n a=some true:=⟨_,pure124 a⟩
end Loom
