/- The plain law of CodeOwn: what it answers is true,whatever it is handed (part 1 of 1). -/
import Derived.Test.YtoobnbnmmkkioaaCodeOwnWvB
set_option linter.unusedVariables false
set_option linter.unusedSimpArgs false
set_option linter.unusedSectionVars false
set_option maxRecDepth 100000
namespace Loom
open Go
theorem y55 (n:Nat):f231 (n+100) ()=some true:=by kernel_rfl
theorem y01 {n:Nat} (h:100≤n):f231 n ()=some true:=by
 obtain ⟨m,rfl⟩:∃ m,n=m+100:=⟨n - 100,by omega⟩
 exact y55 m
@[simp] theorem orRet_inl {S R:Type} {A:S→Option R} {s:S}:zk A (.inl s)=A s:=rfl
@[simp] theorem orRet_inr {S R:Type} {A:S→Option R} {r:R}:zk A (.inr r)=some r:=rfl
theorem zi {R:Type} {p:Prop} [Decidable p] {x:Option R} (h:p):need p x=x:=by unfold need; rw [if_pos h]
def mayT (l:List Xa) (t:Xb):Bool :=
 bif t.Kind_==3 then decide (t.Param_≥0) && decide (t.Param_<(l.length:Int)) else (t.Kind_==1 || t.Kind_==2) && t.Param_==0
theorem ztd {n:Nat} (c:Xe) (t:Xb):f31 n (c,t)=some (mayT c.Sign_ t):=by
 rw [y6d]
 unfold mayT
 by_cases h1:t.Kind_=1
 ·simp [h1]
 ·by_cases h2:t.Kind_=2
  ·simp [h2]
  ·by_cases h3:t.Kind_=3
   ·by_cases h4:t.Param_≥0 <;> simp [h3,h4]
   ·have e1:(t.Kind_==1)=false:=by simpa using h1
    have e2:(t.Kind_==2)=false:=by simpa using h2
    have e3:(t.Kind_==3)=false:=by simpa using h3
    simp [e1,e2,e3]
theorem ztf {n:Nat} (l:List Xa) (t:Xb):f39 n (t,l)=some (mayT l t):=by
 rw [y6n]
 unfold mayT
 by_cases h1:t.Kind_=1
 ·simp [h1]
 ·by_cases h2:t.Kind_=2
  ·simp [h2]
  ·by_cases h3:t.Kind_=3
   ·by_cases h4:t.Param_≥0 <;> simp [h3,h4]
   ·have e1:(t.Kind_==1)=false:=by simpa using h1
    have e2:(t.Kind_==2)=false:=by simpa using h2
    have e3:(t.Kind_==3)=false:=by simpa using h3
    simp [e1,e2,e3]
def z5y (x:Int):Bool:=decide (x % 2147483648≤2139095040) || x==2143289344
theorem zso {m:Nat} (h:m<4294967296):IntKind.u32.wrap (m:Int)=m:=by
 have:IntKind.u32.wrap (m:Int)=(m:Int) % 4294967296:=by simp [IntKind.wrap,IntKind.bits,IntKind.signed]
 omega
theorem y96 (x:Int) (h0:0≤x) (h1:x<4294967296):(BitVec.ofInt IntKind.u32.bits x &&& ~~~BitVec.ofInt IntKind.u32.bits 2147483648).toNat=x.toNat % 2147483648:=by
 show (BitVec.ofInt 32 x &&& ~~~BitVec.ofInt 32 2147483648).toNat=_
 have e:(~~~BitVec.ofInt 32 2147483648:BitVec 32)=2147483647#32:=by decide
 rw [e,BitVec.toNat_and]
 have e2:(2147483647#32).toNat=2 ^ 31 - 1:=by decide
 rw [e2,Nat.and_two_pow_sub_one_eq_mod]
 have e3:(BitVec.ofInt 32 x).toNat=x.toNat:=by
  rw [BitVec.toNat_ofInt]
  omega
 rw [e3]
theorem zti {n:Nat} (x:Int) (h0:0≤x) (h1:x<4294967296):f52 n x=some (z5y x):=by
 rw [y6y,y96 x h0 h1,zso (by omega)]
 unfold z5y
 have:((x.toNat % 2147483648:Nat):Int)=x % 2147483648:=by omega
 rw [this]
 cases decide (x % 2147483648≤2139095040) <;> rfl
theorem z2n {m:Int} (h0:0≤m) (h:m<18446744073709551616):IntKind.u64.wrap m=m:=by
 have:IntKind.u64.wrap m=m % 18446744073709551616:=by simp [IntKind.wrap,IntKind.bits,IntKind.signed]
 omega
theorem zrj (x:Int) (k:Nat) (hk:k<64) (h0:0≤x) (h1:x<18446744073709551616):(BitVec.ofInt IntKind.u64.bits x &&& BitVec.ofInt IntKind.u64.bits ((2 ^ k - 1:Nat):Int)).toNat=x.toNat % 2 ^ k:=by
 show (BitVec.ofInt 64 x &&& BitVec.ofInt 64 _).toNat=_
 rw [BitVec.toNat_and]
 have hp:2 ^ k<2 ^ 64:=Nat.pow_lt_pow_right (by decide) hk
 have e2:(BitVec.ofInt 64 ((2 ^ k - 1:Nat):Int)).toNat=2 ^ k - 1:=by
  rw [BitVec.toNat_ofInt]
  have:(0:Nat)<2 ^ k:=Nat.two_pow_pos k
  omega
 have e3:(BitVec.ofInt 64 x).toNat=x.toNat:=by
  rw [BitVec.toNat_ofInt]
  omega
 rw [e2,e3,Nat.and_two_pow_sub_one_eq_mod]
theorem y4d {n:Nat} (x:Int) (h0:0≤x) (h1:x<4294967296):∃ r,f69 n x=some r∧r.2.2.2.2=(decide (x / 8388608 % 256=255) && decide (x % 8388608 ≠ 0)):=by
 rw [y7r]
 have e0:IntKind.u64.wrap x=x:=z2n h0 (by omega)
 have e1:x.fdiv (2 ^ min (23:Int).toNat IntKind.u64.bits)=x / 8388608:=by
  show x.fdiv 8388608=_
  rw [Int.fdiv_eq_ediv_of_nonneg _ (by decide)]
 have e2:(BitVec.ofInt IntKind.u64.bits (x / 8388608) &&& BitVec.ofInt IntKind.u64.bits (255:Int)).toNat=(x / 8388608).toNat % 256:=zrj (x / 8388608) 8 (by decide) (by omega) (by omega)
 have e3:(BitVec.ofInt IntKind.u64.bits x &&& BitVec.ofInt IntKind.u64.bits (8388607:Int)).toNat=x.toNat % 8388608:=zrj x 23 (by decide) (by omega) (by omega)
 simp only [e0,e1,e2,e3]
 rw [z2n (m:=(((x / 8388608).toNat % 256:Nat):Int)) (by omega) (by omega),z2n (m:=((x.toNat % 8388608:Nat):Int)) (by omega) (by omega),z61 (by omega) (by omega)]
 have c1:(((x / 8388608).toNat % 256:Nat):Int)=x / 8388608 % 256:=by omega
 have c2:((x.toNat % 8388608:Nat):Int)=x % 8388608:=by omega
 rw [c1,c2]
 by_cases h:x / 8388608 % 256=255
 ·have q:(x / 8388608 % 256==255)=true:=by simp [h]
  simp only [q,cond_true,Option.bind_some,orRet_inl]
  refine ⟨_,rfl,?_⟩
  rw [decide_eq_true h,Bool.true_and]
  show (x % 8388608 != 0)=_
  by_cases h3:x % 8388608=0 <;> simp [h3]
 ·have q:(x / 8388608 % 256==255)=false:=by simp [h]
  simp only [q,cond_false]
  cases (x / 8388608 % 256==0)
  all_goals
   simp only [cond_false,cond_true,Option.bind_some,orRet_inl]
   refine ⟨_,rfl,?_⟩
   rw [decide_eq_false h,Bool.false_and]
theorem ztk {n:Nat} (x:Int) (h0:0≤x) (h1:x<4294967296):f58 n x=some (z5y x):=by
 have w:IntKind.i64.wrap x=x:=z61 (by omega) (by omega)
 obtain ⟨r,e,e'⟩:=y4d (n:=n) x h0 h1
 rw [y78,w,y7l,e]
 simp only [Option.bind_some,e']
 unfold z5y
 by_cases h:x / 8388608 % 256=255∧x % 8388608 ≠ 0
 ·have q:(decide (x / 8388608 % 256=255) && decide (x % 8388608 ≠ 0))=true:=by simp [h]
  have q2:decide (x % 2147483648≤2139095040)=false:=by simp; omega
  rw [q,q2]
  simp only [cond_true,Option.bind_some,Bool.false_or]
  congr 1
  rw [Bool.eq_iff_iff]
  simp
  omega
 ·have q:(decide (x / 8388608 % 256=255) && decide (x % 8388608 ≠ 0))=false:=by
   rw [Bool.eq_false_iff]
   intro hb
   simp only [Bool.and_eq_true,decide_eq_true_eq] at hb
   exact h hb
  have q2:decide (x % 2147483648≤2139095040)=true:=by simp; omega
  rw [q,q2]
  simp
def mayS (l:List Xa) (s:Xc):Bool :=
 mayT l s.Type_ && (bif s.Type_.Kind_==2 then s.Bits_==0 && (decide (s.Int_≥0) && decide (s.Int_≤2147483647)) else s.Int_==0 && z5y s.Bits_)
theorem y6i {n:Nat} (c:Xe) (s:Xc) (h0:0≤s.Bits_) (h1:s.Bits_<4294967296):f34 n (c,s)=some (mayS c.Sign_ s):=by
 rw [y6h,ztd,zti _ h0 h1]
 unfold mayS
 simp only [Option.bind_some]
 cases mayT c.Sign_ s.Type_ <;> cases (s.Type_.Kind_==2) <;> cases (s.Bits_==0) <;> cases (s.Int_==0) <;> cases decide (s.Int_≥0) <;> rfl
theorem y6p {n:Nat} (l:List Xa) (s:Xc) (h0:0≤s.Bits_) (h1:s.Bits_<4294967296):f40 n (s,l)=some (mayS l s):=by
 rw [y6o,ztf,ztk _ h0 h1]
 unfold mayS
 simp only [Option.bind_some]
 cases mayT l s.Type_ <;> cases (s.Type_.Kind_==2) <;> cases (s.Bits_==0) <;> cases (s.Int_==0) <;> cases decide (s.Int_≥0) <;> rfl
structure z3s where
 d:Int
 a:Int
 b:Int
 c:Int
 n:Int
def rowD (op:Int):Option z3s :=
 bif op==1 then some ⟨1,0,0,0,0⟩ else
 bif op==2 then some ⟨2,0,0,0,1⟩ else
 bif op==3 then some ⟨8,7,0,0,0⟩ else
 bif op==4 then some ⟨4,5,5,0,0⟩ else
 bif op==5 then some ⟨4,5,5,0,0⟩ else
 bif op==6 then some ⟨4,5,5,0,0⟩ else
 bif op==7 then some ⟨4,5,5,0,0⟩ else
 bif op==8 then some ⟨4,5,5,0,0⟩ else
 bif op==9 then some ⟨4,5,5,0,0⟩ else
 bif op==10 then some ⟨4,5,5,0,0⟩ else
 bif op==11 then some ⟨4,5,0,0,0⟩ else
 bif op==12 then some ⟨4,5,0,0,0⟩ else
 bif op==13 then some ⟨4,5,0,0,0⟩ else
 bif op==14 then some ⟨4,5,0,0,0⟩ else
 bif op==15 then some ⟨4,5,5,5,0⟩ else
 bif op==16 then some ⟨1,1,2,0,0⟩ else
 bif op==17 then some ⟨1,2,0,0,0⟩ else
 bif op==18 then some ⟨2,1,0,0,0⟩ else
 bif op==19 then some ⟨1,3,0,0,0⟩ else
 bif op==20 then some ⟨1,3,0,0,0⟩ else
 bif op==21 then some ⟨2,2,0,0,0⟩ else
 bif op==22 then some ⟨2,2,2,0,0⟩ else
 bif op==23 then some ⟨2,2,2,0,0⟩ else
 bif op==24 then some ⟨2,2,2,0,0⟩ else
 bif op==25 then some ⟨2,2,0,0,0⟩ else
 bif op==26 then some ⟨2,2,2,2,0⟩ else
 bif op==27 then some ⟨2,2,2,0,0⟩ else
 bif op==28 then some ⟨2,2,2,0,0⟩ else
 bif op==29 then some ⟨3,0,0,0,2⟩ else
 bif op==30 then some ⟨3,0,0,0,2⟩ else
 bif op==31 then some ⟨0,3,0,0,2⟩ else
 bif op==32 then some ⟨8,0,0,0,3⟩ else
 bif op==33 then some ⟨0,8,0,0,3⟩ else
 bif op==34 then some ⟨0,2,0,0,0⟩ else
 bif op==35 then some ⟨0,0,0,0,0⟩ else
 bif op==36 then some ⟨0,0,0,0,4⟩ else
 bif op==37 then some ⟨0,0,0,0,0⟩ else
 none
theorem z54 (op:Int):(op=1∨op=2∨op=3∨op=4∨op=5∨op=6∨op=7∨op=8∨op=9∨op=10∨op=11∨op=12∨op=13∨op=14∨op=15∨op=16∨op=17∨op=18∨op=19∨op=20∨op=21∨op=22∨op=23∨op=24∨op=25∨op=26∨op=27∨op=28∨op=29∨op=30∨op=31∨op=32∨op=33∨op=34∨op=35∨op=36∨op=37)∨(∀ k:Int,1≤k→k≤37→(op==k)=false):=by
 by_cases h:1≤op∧op≤37
 ·left; omega
 ·right
  intro k h1 h2
  simp only [beq_eq_false_iff_ne,ne_eq]
  omega
theorem zmf {n:Nat} (op:Int):f26 n op=some (match rowD op with | some r=>(true,r.d,r.a,r.b,r.c,r.n) | none=>(false,0,0,0,0,0)):=by
 rw [y67]
 rcases z54 op with (rfl | rfl | rfl | rfl | rfl | rfl | rfl | rfl | rfl | rfl | rfl | rfl | rfl | rfl | rfl | rfl | rfl | rfl | rfl | rfl | rfl | rfl | rfl | rfl | rfl | rfl | rfl | rfl | rfl | rfl | rfl | rfl | rfl | rfl | rfl | rfl | rfl) | h
 iterate 37 (· kernel_rfl)
 simp (discharger:=decide) only [rowD,h,cond_false,Option.bind_some,orRet_inl]
def z4g (s:Int):UInt8:=bif s==1 then 110 else bif s==2 then 119 else bif s==3 then 118 else bif s==4 then 100 else bif s==5 then 120 else bif s==7 then 99 else bif s==8 then 97 else 45
def z7b (s:Int):UInt8:=bif s==1 then 105 else bif s==2 then 112 else bif s==3 then 115 else bif s==4 then 113 else 45
def z3n (r:z3s):ByteArray:=⟨#[z4g r.d,z4g r.a,z4g r.b,z4g r.c,z7b r.n]⟩
theorem zmg {n:Nat} (op:Int):f27 n op=some (match rowD op with | some r=>(z3n r,true) | none=>(⟨#[]⟩,false)):=by
 rw [y68]
 rcases z54 op with (rfl | rfl | rfl | rfl | rfl | rfl | rfl | rfl | rfl | rfl | rfl | rfl | rfl | rfl | rfl | rfl | rfl | rfl | rfl | rfl | rfl | rfl | rfl | rfl | rfl | rfl | rfl | rfl | rfl | rfl | rfl | rfl | rfl | rfl | rfl | rfl | rfl) | h
 iterate 37 (· kernel_rfl)
 simp (discharger:=decide) only [rowD,h,cond_false,Option.bind_some,orRet_inl]
theorem z31 {op:Int} (h:∀ k:Int,1≤k→k≤37→(op==k)=false):rowD op=none:=by
 simp (discharger:=decide) only [rowD,h,cond_false]
def z1n (i:Xd):List Int:=match rowD i.Op_ with
 | some r=>(bif r.a==0 then [] else [i.A_])++((bif r.b==0 then [] else [i.B_])++(bif r.c==0 then [] else [i.C_]))
 | none=>[]
def sets (i:Xd):Bool:=match rowD i.Op_ with | some r=>!(r.d==0) | none=>false
theorem zru (m:Nat) (i:Xd):f9 (m+4) i=some (z1n i):=by
 obtain ⟨op,d,a,b,c,N,bits⟩:=i
 rcases z54 op with (rfl | rfl | rfl | rfl | rfl | rfl | rfl | rfl | rfl | rfl | rfl | rfl | rfl | rfl | rfl | rfl | rfl | rfl | rfl | rfl | rfl | rfl | rfl | rfl | rfl | rfl | rfl | rfl | rfl | rfl | rfl | rfl | rfl | rfl | rfl | rfl | rfl) | h
 iterate 37 (· kernel_rfl)
 rw [y9c,zmf]
 simp only [z1n,z31 h]
 kernel_rfl
theorem y5o (m:Nat) (i:Xd):f10 (m+4) i=some (z1n i):=by
 obtain ⟨op,d,a,b,c,N,bits⟩:=i
 rcases z54 op with (rfl | rfl | rfl | rfl | rfl | rfl | rfl | rfl | rfl | rfl | rfl | rfl | rfl | rfl | rfl | rfl | rfl | rfl | rfl | rfl | rfl | rfl | rfl | rfl | rfl | rfl | rfl | rfl | rfl | rfl | rfl | rfl | rfl | rfl | rfl | rfl | rfl) | h
 iterate 37 (· kernel_rfl)
 rw [y5n,zmg]
 simp only [z1n,z31 h]
 kernel_rfl
theorem zm6 (n:Nat) (i:Xd):f11 n i=some (sets i):=by
 obtain ⟨op,d,a,b,c,N,bits⟩:=i
 rcases z54 op with (rfl | rfl | rfl | rfl | rfl | rfl | rfl | rfl | rfl | rfl | rfl | rfl | rfl | rfl | rfl | rfl | rfl | rfl | rfl | rfl | rfl | rfl | rfl | rfl | rfl | rfl | rfl | rfl | rfl | rfl | rfl | rfl | rfl | rfl | rfl | rfl | rfl) | h
 iterate 37 (· kernel_rfl)
 rw [y5p,zmf]
 simp only [sets,z31 h]
 kernel_rfl
theorem y5r (n:Nat) (i:Xd):f12 n i=some (sets i):=by
 obtain ⟨op,d,a,b,c,N,bits⟩:=i
 rcases z54 op with (rfl | rfl | rfl | rfl | rfl | rfl | rfl | rfl | rfl | rfl | rfl | rfl | rfl | rfl | rfl | rfl | rfl | rfl | rfl | rfl | rfl | rfl | rfl | rfl | rfl | rfl | rfl | rfl | rfl | rfl | rfl | rfl | rfl | rfl | rfl | rfl | rfl) | h
 iterate 37 (· kernel_rfl)
 rw [y5q,zmg]
 simp only [sets,z31 h]
 kernel_rfl
def elem (op:Int):Bool:=bif decide (op≥3) then decide (op≤15) else false
theorem y5t (n:Nat) (op:Int):f13 n op=some (elem op):=by
 rw [y5s]; unfold elem; cases decide (op≥3) <;> rfl
theorem y5v (n:Nat) (op:Int):f14 n op=some (elem op):=by
 rw [y5u]; unfold elem; cases decide (op≥3) <;> rfl
abbrev ty0:Xb:=⟨0,0⟩
def eqTy (t d:Xb):Bool:=t.Kind_==d.Kind_ && (t.Param_==d.Param_ && true)
def isS (t:Xb) (s:Int) (d:Xb):Bool :=
 bif s==1 then t.Kind_==1 else bif s==2 then t.Kind_==2 else bif s==3 then t.Kind_==3 else bif s==4 then t.Kind_ != 2 else
 bif s==5 then (t.Kind_==1 || eqTy t d) else bif s==7 then (eqTy t d || (t.Kind_==1 && d.Kind_==3)) else true
theorem y72 {n:Nat} (t:Xb) (s:Int) (d:Xb) (h:s ≠ 6):f54 n (t,s,d)=some (isS t s d):=by
 have h6:(s==6)=false:=by simpa using h
 rw [y71]
 unfold isS eqTy
 simp only [h6,cond_false]
 cases (s==1) <;> cases (s==2) <;> cases (s==3) <;> cases (s==4) <;> cases (s==5) <;> cases (s==7) <;> cases (t.Kind_==1) <;> cases (t.Kind_==d.Kind_ && (t.Param_==d.Param_ && true)) <;> cases (d.Kind_==3) <;> rfl
theorem z35 {α:Type} {l:List α} {n:Int} (h:n<0∨n≥l.length):idx l n=none:=by
 unfold idx
 split
 ·rcases h with h | h
  ·omega
  ·rw [List.getElem?_eq_none]; omega
 ·rfl
theorem z78 {α:Type} {l:List α} {n:Int} (h0:0≤n) (h1:n<l.length):∃ y,idx l n=some y∧y ∈ l:=by
 unfold idx
 rw [if_pos h0]
 have:n.toNat<l.length:=by omega
 exact ⟨l[n.toNat],by simp [this],List.getElem_mem this⟩
theorem zb3 {α:Type} {l:List α} {n:Int} {y:α} (h:idx l n=some y):y ∈ l∧0≤n∧n<l.length:=by
 unfold idx at h
 split at h
 ·rename_i h0
  obtain ⟨h1,h2⟩:=List.getElem?_eq_some_iff.1 h
  exact ⟨h2 ▸ List.getElem_mem h1,h0,by omega⟩
 ·cases h
theorem y70 {n:Nat} (a:List Xa) (b:List Xb) (c:List Xc) (d:List Xd) (e:List Bool) (f:List (List Int)) (g:List Int) (k:Int) :
  f53 n (a,b,c,d,e,f,g,k)=some (match idx b k with | some t=>(true,a,b,c,d,e,f,g,t.Kind_,t.Param_) | none=>(false,a,b,c,d,e,f,g,0,0)):=by
 rw [y6z]
 by_cases h:k<0
 ·rw [z35 (.inl h)]; simp [h]
 ·by_cases h2:k≥b.length
  ·rw [z35 (.inr h2)]; simp [h,h2]
  ·obtain ⟨y,hy,_⟩:=z78 (l:=b) (n:=k) (by omega) (by omega)
   rw [hy]
   have e1:decide (k<0)=false:=by simpa using h
   have e2:decide (k≥(b.length:Int))=false:=by simp; omega
   simp [e1,e2,hy]
theorem y7t {n:Nat} (c:Xe) (k:Int):f70 n (c,k)=some (match idx c.Regs_ k with | some t=>(true,t.Kind_,t.Param_) | none=>(false,0,0)):=by
 rw [y7s]
 by_cases h:k<0
 ·rw [z35 (.inl h)]; simp [h]
 ·by_cases h2:k≥c.Regs_.length
  ·rw [z35 (.inr h2)]; simp [h,h2]
  ·obtain ⟨y,hy,_⟩:=z78 (l:=c.Regs_) (n:=k) (by omega) (by omega)
   rw [hy]
   have e1:decide (k<0)=false:=by simpa using h
   have e2:decide (k≥(c.Regs_.length:Int))=false:=by simp; omega
   simp [e1,e2,hy]
theorem zkp {l:List Xa} {t:Xb} (h:mayT l t=true):t.Kind_=1∨t.Kind_=2∨(t.Kind_=3∧0≤t.Param_∧t.Param_<l.length):=by
 unfold mayT at h
 by_cases h3:t.Kind_=3
 ·simp [h3] at h
  exact .inr (.inr ⟨h3,h.1,h.2⟩)
 ·have e3:(t.Kind_==3)=false:=by simpa using h3
  rw [e3] at h
  simp at h
  rcases h.1 with h | h
  ·exact .inl h
  ·exact .inr (.inl h)
def z1b (c:Xe) (s k:Int) (d:Xb):Bool:=bif s==0 then k==0 else match idx c.Regs_ k with | none=>false | some t=>isS t s d
def z43 (s:Int):Prop:=s=0∨s=1∨s=2∨s=3∨s=4∨s=5∨s=7∨s=8
theorem zhg {n:Nat} {c:Xe} {s k:Int} {d:Xb} (hs:z43 s) (hr:∀ t ∈ c.Regs_,mayT c.Sign_ t=true):f66 n (c,((z4g s).toNat:Int),k,d)=some (z1b c s k d):=by
 rw [y7m,y7t]
 unfold z1b
 cases hi:idx c.Regs_ k with
 | none=>rcases hs with rfl | rfl | rfl | rfl | rfl | rfl | rfl | rfl <;> kernel_rfl
 | some t =>
  have hk:=zkp (hr t (zb3 hi).1)
  rcases hs with rfl | rfl | rfl | rfl | rfl | rfl | rfl | rfl
  ·rfl
  ·rfl
  ·rfl
  ·rfl
  ·rcases hk with h | h | ⟨h,_⟩ <;> simp [h,z4g,isS]
  ·show (bif t.Kind_==1 then some true else some (eqTy t d))=some (t.Kind_==1 || eqTy t d)
   cases (t.Kind_==1) <;> rfl
  ·show (bif eqTy t d then some true else bif t.Kind_==1 then some (d.Kind_==3) else some false)=some (eqTy t d || (t.Kind_==1 && d.Kind_==3))
   cases eqTy t d <;> cases (t.Kind_==1) <;> rfl
  ·rfl
theorem zr2 {op:Int} {r:z3s} (h:rowD op=some r):(z43 r.d∧z43 r.a∧z43 r.b∧z43 r.c)∧((r.n=0∨r.n=1∨r.n=3∨r.n=4)∨r.n=2∧(r.d=3∨r.d=0∧r.a=3)):=by
 rcases z54 op with (rfl | rfl | rfl | rfl | rfl | rfl | rfl | rfl | rfl | rfl | rfl | rfl | rfl | rfl | rfl | rfl | rfl | rfl | rfl | rfl | rfl | rfl | rfl | rfl | rfl | rfl | rfl | rfl | rfl | rfl | rfl | rfl | rfl | rfl | rfl | rfl | rfl) | h0
 iterate 37 (· cases h; simp [z43])
 rw [z31 h0] at h; cases h
def tyD (c:Xe) (r:z3s) (i:Xd):Xb:=bif r.d==0 then ty0 else (idx c.Regs_ i.D_).getD ty0
def tyF (c:Xe) (r:z3s) (i:Xd):Xb:=bif r.d==0 then (bif r.a==0 then ty0 else (idx c.Regs_ i.A_).getD ty0) else (idx c.Regs_ i.D_).getD ty0
def nOk (c:Xe) (s N:Int) (t:Xb):Bool :=
 bif s==1 then decide (N≥0) && decide (N≤2147483647) else
 bif s==2 then (N==0 || (N==1 && (match idx c.Sign_ t.Param_ with | some p=>p.Kind_==2 | none=>false))) else
 bif s==3 then (match idx c.Slots_ N with | some z=>eqTy z.Type_ t | none=>false) else
 bif s==4 then decide (N≥0) && decide (N<(c.Sign_.length:Int)) else N==0
def z7o (i:Xd):Bool:=bif i.Op_==1 then z5y i.Bits_ else i.Bits_==0
def fits (c:Xe) (i:Xd):Bool:=match rowD i.Op_ with
 | none=>false
 | some r=>z1b c r.d i.D_ ty0 && (z1b c r.a i.A_ (tyD c r i) && (z1b c r.b i.B_ (tyD c r i) && (z1b c r.c i.C_ (tyD c r i) && (z7o i && nOk c r.n i.N_ (tyF c r i)))))
theorem y7o {n:Nat} {c:Xe} {N p:Int} (hp:0≤p∧p<c.Sign_.length):f67 n (c,N,p)=some (N==0 || (N==1 && (match idx c.Sign_ p with | some p=>p.Kind_==2 | none=>false))):=by
 rw [y7n]
 obtain ⟨y,hy,_⟩:=z78 (l:=c.Sign_) hp.1 hp.2
 rw [hy]
 cases (N==0) <;> cases (N==1) <;> simp
theorem isS3 {t d:Xb} (h:isS t 3 d=true):t.Kind_=3:=by simpa [isS] using h
theorem zqx {c:Xe} {i:Xd} {r:z3s} (hr:∀ t ∈ c.Regs_,mayT c.Sign_ t=true) (hp:r.d=3∨r.d=0∧r.a=3) (h1:z1b c r.d i.D_ ty0=true) (h2:z1b c r.a i.A_ (tyD c r i)=true):0≤(tyF c r i).Param_∧(tyF c r i).Param_<c.Sign_.length:=by
 have key:∀ (k:Int) (d:Xb),z1b c 3 k d=true→∃ t,idx c.Regs_ k=some t∧0≤t.Param_∧t.Param_<c.Sign_.length:=fun k d h=>by
  unfold z1b at h
  have e:((3:Int)==0)=false:=by decide
  rw [e,cond_false] at h
  split at h
  ·cases h
  ·rename_i t ht
   have h3:=isS3 h
   rcases zkp (hr t (zb3 ht).1) with q | q | q
   ·omega
   ·omega
   ·exact ⟨t,ht,q.2⟩
 rcases hp with hp | ⟨hp,hq⟩
 ·rw [hp] at h1
  obtain ⟨t,ht,h⟩:=key _ _ h1
  unfold tyF
  rw [hp]
  simpa [ht] using h
 ·rw [hq] at h2
  obtain ⟨t,ht,h⟩:=key _ _ h2
  unfold tyF
  rw [hp,hq]
  simpa [ht] using h
theorem zko {s:Int} (h:z43 s):(((z4g s).toNat:Int) != 45) = !(s==0):=by
 rcases h with rfl | rfl | rfl | rfl | rfl | rfl | rfl | rfl <;> rfl
theorem zxk {s:Int} (h:z43 s):(((z4g s).toNat:Int)==45)=(s==0):=by
 rcases h with rfl | rfl | rfl | rfl | rfl | rfl | rfl | rfl <;> rfl
theorem zab (r:z3s):((z3n r).size:Int)=5:=rfl
theorem y38 (r:z3s):zb (z3n r) 0=((z4g r.d).toNat:Int):=rfl
theorem y39 (r:z3s):zb (z3n r) 1=((z4g r.a).toNat:Int):=rfl
theorem ybi (r:z3s):zb (z3n r) 2=((z4g r.b).toNat:Int):=rfl
theorem ybj (r:z3s):zb (z3n r) 3=((z4g r.c).toNat:Int):=rfl
theorem y3a (r:z3s):zb (z3n r) 4=((z7b r.n).toNat:Int):=rfl
theorem z82 {c:Xe} {s k:Int} {d:Xb} (h:z1b c s k d=true) (hs:(s==0)=false):∃ t,idx c.Regs_ k=some t:=by
 unfold z1b at h
 rw [hs,cond_false] at h
 split at h
 ·cases h
 ·rename_i t ht; exact ⟨t,ht⟩
theorem y7a {n:Nat} {c:Xe} {i:Xd} (hr:∀ t ∈ c.Regs_,mayT c.Sign_ t=true) (h0:0≤i.Bits_) (h1:i.Bits_<4294967296):f59 n (c,i)=some (fits c i):=by
 rw [y79,zmg]
 unfold fits
 cases h:rowD i.Op_ with
 | none=>rfl
 | some r =>
  obtain ⟨⟨s1,s2,s3,s4⟩,hn⟩:=zr2 h
  have n1:(0:Int)≤0∧(0:Int)<5:=by decide
  have n2:(0:Int)≤1∧(1:Int)<5:=by decide
  have n3:(0:Int)≤2∧(2:Int)<5:=by decide
  have n4:(0:Int)≤3∧(3:Int)<5:=by decide
  have n5:(0:Int)≤4∧(4:Int)<5:=by decide
  simp only [Option.bind_some,Bool.not_true,cond_false,ztk _ h0 h1]
  have hB:(bif (i.Op_ != 1) then (bif (i.Bits_ != 0) then some (Sum.inl (z3n r,true)) else some (Sum.inl (z3n r,!z5y i.Bits_))) else some (Sum.inl (z3n r,!z5y i.Bits_)):Option (ByteArray×Bool⊕Bool))=some (.inl (z3n r,!(z7o i))):=by
   unfold z7o
   by_cases q:i.Op_=1
   ·simp [q]
   ·by_cases q2:i.Bits_=0
    ·have:z5y 0=true:=by decide
     simp [q,q2,this]
    ·have e1:(i.Op_==1)=false:=by simpa using q
     have e2:(i.Bits_==0)=false:=by simpa using q2
     simp [bne,e1,e2]
  rw [hB,Option.bind_some,orRet_inl]
  dsimp only
  cases hb:z7o i with
  | false=>simp
  | true =>
   simp only [Bool.not_true,cond_false,zab,zi n1,y38,zko s1,zhg s1 hr,Option.bind_some]
   have hD:(bif !(r.d==0) then (bif !(z1b c r.d i.D_ ty0) then some (Sum.inr false) else (idx c.Regs_ i.D_).bind fun y5=>some (Sum.inl (z3n r,y5.Kind_,y5.Param_))) else (bif i.D_ != 0 then some (Sum.inr false) else some (Sum.inl (z3n r,0,0))):Option (ByteArray×Int×Int⊕Bool))
     = bif z1b c r.d i.D_ ty0 then some (.inl (z3n r,(tyD c r i).Kind_,(tyD c r i).Param_)) else some (.inr false):=by
    cases hz:r.d==0 with
    | true =>
     have:z1b c r.d i.D_ ty0=(i.D_==0):=by unfold z1b; rw [hz]; rfl
     rw [this]
     unfold tyD
     rw [hz]
     have e:(i.D_ != 0) = !(i.D_==0):=rfl
     rw [e]
     cases i.D_==0 <;> rfl
    | false =>
     cases hq:z1b c r.d i.D_ ty0 with
     | false=>simp
     | true =>
      obtain ⟨t,ht⟩:=z82 hq hz
      unfold tyD
      rw [hz,ht]
      simp
   rw [hD]
   cases hd:z1b c r.d i.D_ ty0 with
   | false=>simp
   | true =>
    simp only [cond_true,Option.bind_some,orRet_inl,zab,zi n2,zi n3,zi n4,y39,ybi,ybj,zhg s2 hr,zhg s3 hr,zhg s4 hr,Bool.true_and]
    cases ha:z1b c r.a i.A_ (tyD c r i) with
    | false=>simp
    | true =>
     cases hbb:z1b c r.b i.B_ (tyD c r i) with
     | false=>simp
     | true =>
      cases hcc:z1b c r.c i.C_ (tyD c r i) with
      | false=>simp
      | true =>
       simp only [cond_true,cond_false,Bool.not_true,Option.bind_some,orRet_inl,zab,zi n1,zi n2,zi n5,y38,y39,y3a,zxk s1,zko s2,Bool.true_and]
       have hF:((bif r.d==0 then some (Sum.inl (z3n r,!(r.a==0),(tyD c r i).Kind_,(tyD c r i).Param_)) else some (Sum.inl (z3n r,false,(tyD c r i).Kind_,(tyD c r i).Param_)):Option (ByteArray×Bool×Int×Int⊕(ByteArray×Int×Int⊕Bool))).bind (zk fun s4=>bif s4.2.1 then (idx c.Regs_ i.A_).bind fun y9=>some (Sum.inl (s4.1,y9.Kind_,y9.Param_)) else some (Sum.inl (s4.1,s4.2.2.1,s4.2.2.2))))
         = some (.inl (z3n r,(tyF c r i).Kind_,(tyF c r i).Param_)):=by
        unfold tyF tyD
        cases hz:r.d==0 with
        | false=>simp
        | true =>
         cases hza:r.a==0 with
         | true=>simp
         | false =>
          obtain ⟨t,ht⟩:=z82 ha hza
          simp [ht]
       rw [hF]
       simp only [Option.bind_some,orRet_inl,zab,zi n5,y3a]
       unfold nOk
       rcases hn with (hn | hn | hn | hn) | ⟨hn,hp⟩
       ·simp only [hn,z7b]
        rfl
       ·simp only [hn,z7b]
        show (bif decide (i.N_≥0) then some (decide (i.N_≤2147483647)) else some false)=some (decide (i.N_≥0) && decide (i.N_≤2147483647))
        cases decide (i.N_≥0) <;> rfl
       ·simp only [hn,z7b]
        show (bif decide (i.N_≥0) then bif decide (i.N_<(c.Slots_.length:Int)) then (idx c.Slots_ i.N_).bind fun y11=>some (eqTy y11.Type_ (tyF c r i)) else some false else some false)=some (match idx c.Slots_ i.N_ with | some z=>eqTy z.Type_ (tyF c r i) | none=>false)
        by_cases q:i.N_≥0
        ·by_cases q2:i.N_<c.Slots_.length
         ·obtain ⟨y,hy,_⟩:=z78 (l:=c.Slots_) q q2
          simp [q,q2,hy]
         ·rw [z35 (by omega)]
          simp [q,q2]
        ·rw [z35 (by omega)]
         simp [q]
       ·simp only [hn,z7b]
        show (bif decide (i.N_≥0) then some (decide (i.N_<(c.Sign_.length:Int))) else some false)=some (decide (i.N_≥0) && decide (i.N_<(c.Sign_.length:Int)))
        cases decide (i.N_≥0) <;> rfl
       ·have:=zqx hr hp hd ha
        simp only [hn,z7b]
        show ((f67 n (c,i.N_,(tyF c r i).Param_)).bind fun y10=>some y10)=_
        rw [y7o this]
        rfl
section
variable {n:Nat} {c:Xe} {i:Xd} {set:List Bool} {news:List (List Int)} {op:List Int}
theorem zei {a b cc d e k dk dp fk fp s m:Int} (hk:k<4) (h1:idx [a,b,cc,d] k=some s) (h2:idx [i.D_,i.A_,i.B_,i.C_] k=some m) (hs:s ≠ 6) :
  zdc n (c.Sign_,c.Regs_,c.Slots_,c.List_,set,news,op,i) (a,b,cc,d,e) (k,c.Sign_,c.Regs_,c.Slots_,c.List_,set,news,op,dk,dp,fk,fp) =
   some (bif z1b c s m ⟨dk,dp⟩ then .go (IntKind.i64.wrap (k+1),c.Sign_,c.Regs_,c.Slots_,c.List_,set,news,op,
    (bif s==0 then dk else bif k==0 then ((idx c.Regs_ m).getD ty0).Kind_ else dk),(bif s==0 then dp else bif k==0 then ((idx c.Regs_ m).getD ty0).Param_ else dp),
    (bif s==0 then fk else bif k==0 then ((idx c.Regs_ m).getD ty0).Kind_ else bif k==1 then (bif a==0 then ((idx c.Regs_ m).getD ty0).Kind_ else fk) else fk),
    (bif s==0 then fp else bif k==0 then ((idx c.Regs_ m).getD ty0).Param_ else bif k==1 then (bif a==0 then ((idx c.Regs_ m).getD ty0).Param_ else fp) else fp))
    else .ret (c.Sign_,c.Regs_,c.Slots_,c.List_,set,news,op)):=by
 rw [zjy]
 have hk':decide (k<4)=true:=by simpa using hk
 simp only [hk',cond_true,h1,h2,Option.bind_some]
 unfold z1b
 cases hz:s==0 with
 | true =>
  simp only [cond_true]
  have e1:(m != 0) = !(m==0):=rfl
  rw [e1]
  cases m==0 <;> rfl
 | false =>
  simp only [cond_false,y70]
  cases hi:idx c.Regs_ m with
  | none=>rfl
  | some t =>
   simp only [Option.bind_some,Bool.not_true,cond_false,y72 _ _ _ hs]
   have e2:(⟨t.Kind_,t.Param_⟩:Xb)=t:=rfl
   simp only [e2,Option.bind_some,orRet_inl]
   cases isS t s ⟨dk,dp⟩ <;> cases (k==0) <;> cases (k==1) <;> cases (a==0) <;> rfl
theorem zlk {s:Int} (h:z43 s):s ≠ 6:=by
 rcases h with rfl | rfl | rfl | rfl | rfl | rfl | rfl | rfl <;> decide
theorem w1:IntKind.i64.wrap (0+1)=1:=by decide
theorem w2:IntKind.i64.wrap (1+1)=2:=by decide
theorem w3:IntKind.i64.wrap (2+1)=3:=by decide
theorem w4:IntKind.i64.wrap (3+1)=4:=by decide
theorem y4b {a b cc d e dk dp fk fp:Int} :
  zdc n (c.Sign_,c.Regs_,c.Slots_,c.List_,set,news,op,i) (a,b,cc,d,e) (4,c.Sign_,c.Regs_,c.Slots_,c.List_,set,news,op,dk,dp,fk,fp)=some (.out (4,c.Sign_,c.Regs_,c.Slots_,c.List_,set,news,op,dk,dp,fk,fp)):=by
 rw [zjy]; rfl
theorem zz4 {r:z3s} (m:Nat) (h:z43 r.d∧z43 r.a∧z43 r.b∧z43 r.c) :
  iter (zdc n (c.Sign_,c.Regs_,c.Slots_,c.List_,set,news,op,i) (r.d,r.a,r.b,r.c,r.n)) (m+5) (0,c.Sign_,c.Regs_,c.Slots_,c.List_,set,news,op,0,0,0,0) =
   some (bif z1b c r.d i.D_ ty0 && (z1b c r.a i.A_ (tyD c r i) && (z1b c r.b i.B_ (tyD c r i) && z1b c r.c i.C_ (tyD c r i))) then
    .out (4,c.Sign_,c.Regs_,c.Slots_,c.List_,set,news,op,(tyD c r i).Kind_,(tyD c r i).Param_,(tyF c r i).Kind_,(tyF c r i).Param_) else .ret (c.Sign_,c.Regs_,c.Slots_,c.List_,set,news,op)):=by
 obtain ⟨h1,h2,h3,h4⟩:=h
 have eD:∀ b:Bool,b=(r.d==0)→(⟨bif b then 0 else ((idx c.Regs_ i.D_).getD ty0).Kind_,bif b then 0 else ((idx c.Regs_ i.D_).getD ty0).Param_⟩:Xb)=tyD c r i:=by
  intro b hb; unfold tyD; rw [← hb]; cases b <;> rfl
 unfold iter
 rw [zei (s:=r.d) (m:=i.D_) (by decide) rfl rfl (zlk h1)]
 have e0:(⟨0,0⟩:Xb)=ty0:=rfl
 rw [e0]
 cases z1b c r.d i.D_ ty0 with
 | false=>rfl
 | true =>
  have k0:((0:Int)==0)=true:=by decide
  simp only [cond_true,w1,k0,Bool.true_and]
  unfold iter
  rw [zei (s:=r.a) (m:=i.A_) (by decide) rfl rfl (zlk h2),eD _ rfl]
  cases z1b c r.a i.A_ (tyD c r i) with
  | false=>rfl
  | true =>
   have k1:((1:Int)==0)=false:=by decide
   have k2:((1:Int)==1)=true:=by decide
   simp only [cond_true,w2,k1,k2,cond_false,Bool.true_and,Bool.cond_self]
   unfold iter
   rw [zei (s:=r.b) (m:=i.B_) (by decide) rfl rfl (zlk h3),eD _ rfl]
   cases z1b c r.b i.B_ (tyD c r i) with
   | false=>rfl
   | true =>
    have k3:((2:Int)==0)=false:=by decide
    have k4:((2:Int)==1)=false:=by decide
    simp only [cond_true,w3,k3,k4,cond_false,Bool.true_and,Bool.cond_self]
    unfold iter
    rw [zei (s:=r.c) (m:=i.C_) (by decide) rfl rfl (zlk h4),eD _ rfl]
    cases z1b c r.c i.C_ (tyD c r i) with
    | false=>rfl
    | true =>
     have k5:((3:Int)==0)=false:=by decide
     have k6:((3:Int)==1)=false:=by decide
     simp only [cond_true,w4,k5,k6,cond_false,Bool.true_and,Bool.cond_self]
     unfold iter
     rw [y4b]
     simp only
     congr 13
     all_goals
      first
      | (unfold tyD; cases r.d==0 <;> rfl)
      | (unfold tyF; cases r.d==0 <;> cases r.a==0 <;> rfl)
theorem y6k (m:Nat) (hr:∀ t ∈ c.Regs_,mayT c.Sign_ t=true) (h0:0≤i.Bits_) (h1:i.Bits_<4294967296) :
  f35 (m+5) (c.Sign_,c.Regs_,c.Slots_,c.List_,set,news,op,i)=some (fits c i,c.Sign_,c.Regs_,c.Slots_,c.List_,set,news,op):=by
 rw [y6j,zmf]
 unfold fits
 cases h:rowD i.Op_ with
 | none=>rfl
 | some r =>
  obtain ⟨hs,hn⟩:=zr2 h
  simp only [Option.bind_some,Bool.not_true,cond_false,zz4 m hs,zti _ h0 h1]
  cases hd:z1b c r.d i.D_ ty0 with
  | false=>rfl
  | true =>
  cases ha:z1b c r.a i.A_ (tyD c r i) with
  | false=>rfl
  | true =>
  cases hbb:z1b c r.b i.B_ (tyD c r i) with
  | false=>rfl
  | true =>
  cases hcc:z1b c r.c i.C_ (tyD c r i) with
  | false=>rfl
  | true =>
   simp only [Bool.true_and,cond_true,Option.bind_some,Bo.then]
   have hB:(bif (i.Op_==1) then (bif (!z5y i.Bits_) then some (Sum.inl (true,c.Sign_,c.Regs_,c.Slots_,c.List_,set,news,op,r.d,r.a,r.b,r.c,r.n,(tyF c r i).Kind_,(tyF c r i).Param_))
     else (bif i.Op_ != 1 then some (.inl (i.Bits_ != 0,c.Sign_,c.Regs_,c.Slots_,c.List_,set,news,op,r.d,r.a,r.b,r.c,r.n,(tyF c r i).Kind_,(tyF c r i).Param_)) else some (.inl (false,c.Sign_,c.Regs_,c.Slots_,c.List_,set,news,op,r.d,r.a,r.b,r.c,r.n,(tyF c r i).Kind_,(tyF c r i).Param_))))
     else (bif i.Op_ != 1 then some (.inl (i.Bits_ != 0,c.Sign_,c.Regs_,c.Slots_,c.List_,set,news,op,r.d,r.a,r.b,r.c,r.n,(tyF c r i).Kind_,(tyF c r i).Param_)) else some (.inl (false,c.Sign_,c.Regs_,c.Slots_,c.List_,set,news,op,r.d,r.a,r.b,r.c,r.n,(tyF c r i).Kind_,(tyF c r i).Param_))) :
      Option ((Bool×List Xa×List Xb×List Xc×List Xd×List Bool×List (List Int)×List Int×Int×Int×Int×Int×Int×Int×Int)⊕(Bool×List Xa×List Xb×List Xc×List Xd×List Bool×List (List Int)×List Int)))
     = some (.inl (!(z7o i),c.Sign_,c.Regs_,c.Slots_,c.List_,set,news,op,r.d,r.a,r.b,r.c,r.n,(tyF c r i).Kind_,(tyF c r i).Param_)):=by
    unfold z7o
    have e1:(i.Op_ != 1) = !(i.Op_==1):=rfl
    have e2:(i.Bits_ != 0) = !(i.Bits_==0):=rfl
    rw [e1,e2]
    cases i.Op_==1 <;> cases z5y i.Bits_ <;> rfl
   rw [hB,Option.bind_some,orRet_inl]
   dsimp only
   cases hb:z7o i with
   | false=>rfl
   | true =>
    simp only [Bool.not_true,cond_false,Bool.true_and]
    unfold nOk
    rcases hn with (hn | hn | hn | hn) | ⟨hn,hp⟩
    ·rw [hn]; rfl
    ·rw [hn]
     show (bif decide (i.N_≥0) then some (decide (i.N_≤2147483647),c.Sign_,c.Regs_,c.Slots_,c.List_,set,news,op) else some (false,c.Sign_,c.Regs_,c.Slots_,c.List_,set,news,op))=some (decide (i.N_≥0) && decide (i.N_≤2147483647),c.Sign_,c.Regs_,c.Slots_,c.List_,set,news,op)
     cases decide (i.N_≥0) <;> rfl
    ·rw [hn]
     show (bif decide (i.N_≥0) then bif decide (i.N_<(c.Slots_.length:Int)) then (idx c.Slots_ i.N_).bind fun y11=>some (eqTy y11.Type_ (tyF c r i),c.Sign_,c.Regs_,c.Slots_,c.List_,set,news,op) else some (false,c.Sign_,c.Regs_,c.Slots_,c.List_,set,news,op) else some (false,c.Sign_,c.Regs_,c.Slots_,c.List_,set,news,op))=some ((match idx c.Slots_ i.N_ with | some z=>eqTy z.Type_ (tyF c r i) | none=>false),c.Sign_,c.Regs_,c.Slots_,c.List_,set,news,op)
     by_cases q:i.N_≥0
     ·by_cases q2:i.N_<c.Slots_.length
      ·obtain ⟨y,hy,_⟩:=z78 (l:=c.Slots_) q q2
       simp [q,q2,hy]
      ·rw [z35 (by omega)]
       simp [q,q2]
     ·rw [z35 (by omega)]
      simp [q]
    ·rw [hn]
     show (bif decide (i.N_≥0) then some (decide (i.N_<(c.Sign_.length:Int)),c.Sign_,c.Regs_,c.Slots_,c.List_,set,news,op) else some (false,c.Sign_,c.Regs_,c.Slots_,c.List_,set,news,op))=some (decide (i.N_≥0) && decide (i.N_<(c.Sign_.length:Int)),c.Sign_,c.Regs_,c.Slots_,c.List_,set,news,op)
     cases decide (i.N_≥0) <;> rfl
    ·obtain ⟨p1,p2⟩:=zqx hr hp hd ha
     obtain ⟨y,hy,_⟩:=z78 (l:=c.Sign_) p1 p2
     rw [hn]
     show (bif i.N_==0 then some (true,c.Sign_,c.Regs_,c.Slots_,c.List_,set,news,op) else bif i.N_==1 then (idx c.Sign_ (tyF c r i).Param_).bind fun y8=>some (y8.Kind_==2,c.Sign_,c.Regs_,c.Slots_,c.List_,set,news,op) else some (false,c.Sign_,c.Regs_,c.Slots_,c.List_,set,news,op))=some ((i.N_==0 || (i.N_==1 && (match idx c.Sign_ (tyF c r i).Param_ with | some p=>p.Kind_==2 | none=>false))),c.Sign_,c.Regs_,c.Slots_,c.List_,set,news,op)
     rw [hy]
     cases (i.N_==0) <;> cases (i.N_==1) <;> simp
end
theorem zho {α Y Z:Type} {l:List α} {p:α→Bool} {body:Int→Option (Bo Int Y Z)} {z:Int→Z} {y:Y}
  (hb:∀ (k:Nat) (h:k<l.length),body k=some (bif p l[k] then .go ((k+1:Nat):Int) else .ret (z k))) (he:body l.length=some (.out y)) :
  ∀ (j k f:Nat),k+j=l.length→j<f→iter body f (k:Int)=some (match (l.drop k).findIdx? (fun x=>!p x) with | none=>.out y | some i=>.ret (z ((k+i:Nat):Int)))
 | 0,k,f+1,hk,hf=>by
  obtain rfl:k=l.length:=by omega
  unfold iter
  rw [he]
  simp
 | j+1,k,f+1,hk,hf=>by
  have h:k<l.length:=by omega
  unfold iter
  rw [hb k h,List.drop_eq_getElem_cons h]
  cases hp:p l[k] with
  | false =>
   simp only [cond_false,List.findIdx?_cons,hp,Bool.not_false,if_true]
   rfl
  | true =>
   simp only [cond_true]
   rw [zho hb he j (k+1) f (by omega) (by omega)]
   rw [List.findIdx?_cons]
   simp only [hp,Bool.not_true,cond_false,Bool.false_eq_true,if_false]
   cases (l.drop (k+1)).findIdx? (fun x=>!p x) with
   | none=>rfl
   | some i=>simp only [Option.map_some]; congr 4; omega
theorem zzi {α Y Z:Type} {l:List α} {p:α→Bool} {body:Int→Option (Bo Int Y Z)} {z:Int→Z} {y:Y} {f:Nat}
  (hb:∀ (k:Nat) (h:k<l.length),body k=some (bif p l[k] then .go ((k+1:Nat):Int) else .ret (z k))) (he:body l.length=some (.out y)) (hf:l.length<f) :
  iter body f 0=some (match l.findIdx? (fun x=>!p x) with | none=>.out y | some i=>.ret (z (i:Int))):=by
 have:=zho hb he l.length 0 f (by omega) hf
 simpa using this
theorem zfs {α:Type} (l:List α) (p:α→Bool):(l.findIdx? (fun x=>!p x)).isNone=l.all p:=by
 induction l with
 | nil=>rfl
 | cons x l ih =>
  rw [List.findIdx?_cons,List.all_cons,← ih]
  cases p x <;> simp
theorem z45 {α Y Z:Type} {l:List α} {p:α→Bool} {body:Int→Option (Bo Int Y Z)} {z:Z} {y:Y} {f:Nat}
  (hb:∀ (k:Nat) (h:k<l.length),body k=some (bif p l[k] then .go ((k+1:Nat):Int) else .ret z)) (he:body l.length=some (.out y)) (hf:l.length<f) :
  iter body f 0=some (bif l.all p then .out y else .ret z):=by
 rw [zzi (z:=fun _=>z) hb he hf,← zfs]
 cases l.findIdx? (fun x=>!p x) <;> rfl
theorem zfh {α S Z:Type} {l:List α} {F:S→α→S} {Inv:S→Prop} {body:Int×S→Option (Bo (Int×S) (Int×S) Z)}
  (hb:∀ (k:Nat) (s:S) (h:k<l.length),Inv s→body (k,s)=some (.go (((k+1:Nat):Int),F s l[k]))∧Inv (F s l[k])) (he:∀ s,Inv s→body (l.length,s)=some (.out ((l.length:Int),s))) :
  ∀ (j k f:Nat) (s:S),k+j=l.length→j<f→Inv s→iter body f ((k:Int),s)=some (.out ((l.length:Int),(l.drop k).foldl F s))
 | 0,k,f+1,s,hk,hf,hi=>by
  obtain rfl:k=l.length:=by omega
  unfold iter
  rw [he s hi]
  simp
 | j+1,k,f+1,s,hk,hf,hi=>by
  have h:k<l.length:=by omega
  obtain ⟨h1,h2⟩:=hb k s h hi
  unfold iter
  rw [h1,List.drop_eq_getElem_cons h]
  exact zfh hb he j (k+1) f _ (by omega) (by omega) h2
theorem zxh {α S Z:Type} {l:List α} {F:S→α→S} {Inv:S→Prop} {body:Int×S→Option (Bo (Int×S) (Int×S) Z)} {f:Nat} {s:S}
  (hb:∀ (k:Nat) (s:S) (h:k<l.length),Inv s→body (k,s)=some (.go (((k+1:Nat):Int),F s l[k]))∧Inv (F s l[k])) (he:∀ s,Inv s→body (l.length,s)=some (.out ((l.length:Int),s)))
  (hf:l.length<f) (hi:Inv s):iter body f (0,s)=some (.out ((l.length:Int),l.foldl F s)):=by
 have:=zfh hb he l.length 0 f s (by omega) hf hi
 simpa using this
theorem z2f {k:Nat} (h:k<4611686018427387904):IntKind.i64.wrap ((k:Int)+1)=((k+1:Nat):Int):=by
 rw [z61 (by omega) (by omega)]; simp
theorem ybv {k:Nat} (h:k<4611686018427387904):IntKind.i64.wrap ((k:Int) - 1)=(k:Int) - 1:=z61 (by omega) (by omega)
theorem za8 (i:Xd):(z1n i).length≤3:=by
 unfold z1n
 split
 ·rename_i r _
  cases r.a==0 <;> cases r.b==0 <;> cases r.c==0 <;> simp
 ·simp
theorem zc0 {c:Xe} {i:Xd} (h:fits c i=true):∃ r,rowD i.Op_=some r∧z1b c r.d i.D_ ty0=true∧z1b c r.a i.A_ (tyD c r i)=true∧z1b c r.b i.B_ (tyD c r i)=true∧z1b c r.c i.C_ (tyD c r i)=true:=by
 unfold fits at h
 split at h
 ·cases h
 ·rename_i r hr
  simp only [Bool.and_eq_true] at h
  exact ⟨r,hr,h.1,h.2.1,h.2.2.1,h.2.2.2.1⟩
theorem zcl {c:Xe} {s k:Int} {d:Xb} (h:z1b c s k d=true) (hs:(s==0)=false):0≤k∧k<c.Regs_.length:=by
 obtain ⟨t,ht⟩:=z82 h hs
 exact (zb3 ht).2
theorem znw {c:Xe} {i:Xd} (h:fits c i=true):∀ y ∈ z1n i,0≤y∧y<c.Regs_.length:=by
 obtain ⟨r,hr,h1,h2,h3,h4⟩:=zc0 h
 intro y hy
 unfold z1n at hy
 rw [hr] at hy
 simp only [List.mem_append] at hy
 rcases hy with hy | hy | hy
 ·cases hz:r.a==0 with
  | true=>rw [hz] at hy; cases hy
  | false =>
   rw [hz] at hy
   simp only [cond_false,List.mem_singleton] at hy
   subst hy; exact zcl h2 hz
 ·cases hz:r.b==0 with
  | true=>rw [hz] at hy; cases hy
  | false =>
   rw [hz] at hy
   simp only [cond_false,List.mem_singleton] at hy
   subst hy; exact zcl h3 hz
 ·cases hz:r.c==0 with
  | true=>rw [hz] at hy; cases hy
  | false =>
   rw [hz] at hy
   simp only [cond_false,List.mem_singleton] at hy
   subst hy; exact zcl h4 hz
theorem zj8 {c:Xe} {i:Xd} (h:fits c i=true) (hs:sets i=true):0≤i.D_∧i.D_<c.Regs_.length:=by
 obtain ⟨r,hr,h1,_⟩:=zc0 h
 unfold sets at hs
 rw [hr] at hs
 simp only [Bool.not_eq_true'] at hs
 exact zcl h1 hs
def rdOk (set:List Bool) (i:Xd):Bool:=(z1n i).all fun y=>(set[y.toNat]?).getD false
theorem zb0 {α:Type} {l:List α} {y:Int} (h0:0≤y) (h1:y<l.length):∃ b,l[y.toNat]? = some b:=by
 have:y.toNat<l.length:=by omega
 exact ⟨_,List.getElem?_eq_getElem this⟩
theorem zmj {n m:Nat} {c:Xe} {i:Xd} {set:List Bool} {news:List (List Int)} {op:List Int}
  (h:∀ y ∈ z1n i,0≤y∧y<set.length) :
  iter (zmi n (c.Sign_,c.Regs_,c.Slots_,c.List_,set,news,op,i) (((z1n i).length:Int),z1n i)) (m+4) 0=some (bif rdOk set i then .out ((z1n i).length:Int) else .ret ()):=by
 refine z45 (fun k hk=>?_) ?_ (by have:=za8 i; omega)
 ·have h3:=za8 i
  obtain ⟨y0,y1⟩:=h _ (List.getElem_mem hk)
  obtain ⟨b,hb⟩:=zb0 y0 y1
  rw [zk0]
  have e1:decide ((k:Int)<((z1n i).length:Int))=true:=by simp; omega
  have e2:(z1n i)[(k:Int).toNat]? = some (z1n i)[k]:=by simp [hk]
  simp only [e1,cond_true]
  rw [zi (by omega),e2]
  simp only [Option.bind_some]
  rw [zi ⟨y0,y1⟩,hb,z2f (by omega)]
  cases b <;> rfl
 ·rw [zk0]; simp
theorem zza {n m:Nat} {c:Xe} {i:Xd} {set:List Bool} {op:List Xf} {b0:Bool} (h:∀ y ∈ z1n i,0≤y∧y<set.length) :
  iter (zmm n (c,i,set,op) (b0,z1n i)) (m+4) 0=some (bif rdOk set i then .out ((z1n i).length:Int) else .ret ()):=by
 refine z45 (fun k hk=>?_) ?_ (by have:=za8 i; omega)
 ·have h3:=za8 i
  obtain ⟨y0,y1⟩:=h _ (List.getElem_mem hk)
  obtain ⟨b,hb⟩:=zb0 y0 y1
  rw [zk3]
  have e1:decide ((k:Int)<((z1n i).length:Int))=true:=by simp; omega
  have e2:(z1n i)[(k:Int).toNat]? = some (z1n i)[k]:=by simp [hk]
  have e3:idx set (z1n i)[k]=some b:=by unfold idx; rw [if_pos y0,hb]
  simp only [e1,cond_true]
  rw [zi (by omega),e2]
  simp only [Option.bind_some]
  rw [e3,z2f (by omega),hb]
  cases b <;> rfl
 ·rw [zk3]; simp
def lst (op:List Int):Int:=match op.getLast? with | some x=>x | none=>-1
def undo (set:List Bool) (l:List Int):List Bool:=l.foldl (fun s r=>s.set r.toNat false) set
def zf5 (c:Xe) (k p:Int):Bool:=match idx c.Regs_ k with | some t=>t.Kind_==3 && (t.Param_==p && true) | none=>false
def onD (i:Xd):Bool:=elem i.Op_ || (i.Op_==29 || (i.Op_==30 || i.Op_==32))
def onA (i:Xd):Bool:=i.Op_==31 || i.Op_==33
def zcr (c:Xe) (i:Xd) (p:Int):Bool:=bif onD i then zf5 c i.D_ p else bif onA i then zf5 c i.A_ p else false
theorem z79 {α:Type} (l:List α) (h:0<l.length):∃ x,l.getLast? = some x∧l[l.length - 1]? = some x:=by
 rw [List.getLast?_eq_getElem?]
 exact ⟨l[l.length - 1],by simp [h],by simp [h]⟩
theorem z8x {k:Nat} (h0:0<k) (h:k<4611686018427387904):(IntKind.i64.wrap ((k:Int) - 1)).toNat=k - 1∧0≤IntKind.i64.wrap ((k:Int) - 1)∧IntKind.i64.wrap ((k:Int) - 1)<k:=by
 rw [ybv h]; omega
theorem zhs {R:Type} (op:List Int) (h:op.length<4611686018427387904):(bif (decide ((op.length:Int) > (0:Int))) then (need (0≤(IntKind.i64.wrap ((op.length:Int) - (1:Int)))∧(IntKind.i64.wrap ((op.length:Int) - (1:Int)))<(op.length:Int)) ((op[(IntKind.i64.wrap ((op.length:Int) - (1:Int))).toNat]?).bind fun y1=>some (.inl y1))) else (some (.inl (-1:Int))):Option (Int⊕R))=some (.inl (lst op)):=by
 by_cases h0:0<op.length
 ·have e:decide ((op.length:Int) > 0)=true:=by simp; omega
  obtain ⟨w1,w2,w3⟩:=z8x h0 h
  obtain ⟨x,x1,x2⟩:=z79 op h0
  rw [e,cond_true,zi ⟨w2,w3⟩,w1,x2]
  unfold lst
  rw [x1]; rfl
 ·have:op=[]:=List.eq_nil_of_length_eq_zero (by omega)
  subst this
  rfl
section
variable {n:Nat} {c:Xe} {i:Xd} {set:List Bool} {news:List (List Int)} {op:List Int}
theorem zz8 (ho:op.length<4611686018427387904) (h:i.Op_=34):f36 n (c.Sign_,c.Regs_,c.Slots_,c.List_,set,news,op,i)=some (!(decide (lst op≥0) || (op.length:Int)==64),c.Sign_,c.Regs_,c.Slots_,c.List_,set,news,op):=by
 rw [zdd]
 dsimp only
 rw [zhs op ho,h]
 have e1:((34:Int)==34)=true:=rfl
 have e2:((34:Int)==36)=false:=rfl
 simp only [Option.bind_some,orRet_inl,e1,e2,cond_true,cond_false]
 cases decide (lst op≥0) <;> cases ((op.length:Int)==64) <;> rfl
theorem zz6 (ho:op.length≤64) (h:i.Op_=36):f36 n (c.Sign_,c.Regs_,c.Slots_,c.List_,set,news,op,i)=some (!(decide (lst op≥0) || (op.length:Int)==64),c.Sign_,c.Regs_,c.Slots_,c.List_,set,news,bif (decide (lst op≥0) || (op.length:Int)==64) then op else op++[i.N_]):=by
 rw [zdd]
 dsimp only
 rw [zhs op (by omega),h]
 have e1:((36:Int)==34)=false:=rfl
 have e2:((36:Int)==36)=true:=rfl
 simp only [Option.bind_some,orRet_inl,e1,e2,cond_true,cond_false]
 rw [zi (by simp; omega)]
 cases decide (lst op≥0) <;> cases ((op.length:Int)==64) <;> rfl
theorem zz7 (ho:op.length≤64) (h:i.Op_=37):f36 n (c.Sign_,c.Regs_,c.Slots_,c.List_,set,news,op,i)=some (!(decide (lst op<0)),c.Sign_,c.Regs_,c.Slots_,c.List_,set,news,bif decide (lst op<0) then op else op.dropLast):=by
 rw [zdd]
 dsimp only
 rw [zhs op (by omega),h]
 have e1:((37:Int)==34)=false:=rfl
 have e2:((37:Int)==36)=false:=rfl
 have e3:((37:Int)==35)=false:=rfl
 have e4:((37:Int)==37)=true:=rfl
 simp only [Option.bind_some,orRet_inl,e1,e2,e3,e4,cond_true,cond_false]
 cases hl:decide (lst op<0) with
 | true=>rfl
 | false =>
  have h0:0<op.length:=by
   cases op with
   | nil=>simp [lst] at hl
   | cons _ _=>simp
  obtain ⟨w1,w2,w3⟩:=z8x h0 (by omega)
  rw [cond_false,zi ⟨w2,by omega⟩,w1,zi (by omega)]
  simp [List.dropLast_eq_take]
theorem zz5 (ho:op.length≤64) (hf:fits c i=true) (h1:i.Op_ ≠ 34) (h2:i.Op_ ≠ 35) (h3:i.Op_ ≠ 36) (h4:i.Op_ ≠ 37) (hD:onD i=true→∃ t,idx c.Regs_ i.D_=some t) (hA:onA i=true→∃ t,idx c.Regs_ i.A_=some t) :
  f36 n (c.Sign_,c.Regs_,c.Slots_,c.List_,set,news,op,i)=some ((bif decide (lst op<0) then true else zcr c i (lst op)),c.Sign_,c.Regs_,c.Slots_,c.List_,set,news,op):=by
 rw [zdd]
 dsimp only
 rw [zhs op (by omega)]
 have e1:(i.Op_==34)=false:=by simpa using h1
 have e2:(i.Op_==36)=false:=by simpa using h3
 have e3:(i.Op_==35)=false:=by simpa using h2
 have e4:(i.Op_==37)=false:=by simpa using h4
 simp only [Option.bind_some,orRet_inl,e1,e2,e3,e4,cond_true,cond_false,y5t]
 cases hl:decide (lst op<0) with
 | true=>rfl
 | false =>
  simp only [cond_false]
  have hB:(bif elem i.Op_ then some (Sum.inl (true,lst op)) else bif i.Op_==29 then some (.inl (true,lst op)) else bif i.Op_==30 then some (.inl (true,lst op)) else some (.inl (i.Op_==32,lst op)):Option (Bool×Int⊕(Bool×List Xa×List Xb×List Xc×List Xd×List Bool×List (List Int)×List Int)))=some (.inl (onD i,lst op)):=by
   unfold onD
   cases elem i.Op_ <;> cases i.Op_==29 <;> cases i.Op_==30 <;> rfl
  rw [hB,Option.bind_some,orRet_inl]
  dsimp only
  unfold zcr
  cases hd:onD i with
  | true =>
   obtain ⟨t,ht⟩:=hD hd
   simp only [cond_true,zf5,ht,Option.bind_some]
  | false =>
   simp only [cond_false]
   have hB2:(bif i.Op_==31 then some (Sum.inl (true,lst op)) else some (.inl (i.Op_==33,lst op)):Option (Bool×Int⊕(Bool×List Xa×List Xb×List Xc×List Xd×List Bool×List (List Int)×List Int)))=some (.inl (onA i,lst op)):=by
    unfold onA
    cases i.Op_==31 <;> rfl
   rw [hB2,Option.bind_some,orRet_inl]
   dsimp only
   cases ha:onA i with
   | true =>
    obtain ⟨t,ht⟩:=hA ha
    simp only [cond_true,zf5,ht,Option.bind_some]
   | false=>rfl
theorem zoa (set:List Bool) (l:List Int):(undo set l).length=set.length:=by
 unfold undo
 induction l generalizing set with
 | nil=>rfl
 | cons x l ih=>simp only [List.foldl_cons]; rw [ih]; simp
theorem y4c {m:Nat} {nl:List Int} (ho:op.length≤64) (h:i.Op_=35) (hn:0<op.length→lst op<0→news.getLast? = some nl∧news.length<4611686018427387904∧nl.length<m+4∧nl.length<4611686018427387904∧∀ r ∈ nl,0≤r∧r<set.length) :
  f36 (m+4) (c.Sign_,c.Regs_,c.Slots_,c.List_,set,news,op,i)=some (!((op.length:Int)==0 || decide (lst op≥0)),c.Sign_,c.Regs_,c.Slots_,c.List_,bif ((op.length:Int)==0 || decide (lst op≥0)) then (set,news,op) else (undo set nl,news.dropLast,op.dropLast)):=by
 rw [zdd]
 dsimp only
 rw [zhs op (by omega),h]
 have e1:((35:Int)==34)=false:=rfl
 have e2:((35:Int)==36)=false:=rfl
 have e3:((35:Int)==35)=true:=rfl
 simp only [Option.bind_some,orRet_inl,e1,e2,e3,cond_true,cond_false]
 have hB:(bif ((op.length:Int)==0) then some (Sum.inl true) else some (.inl (decide (lst op≥0))):Option (Bool⊕(Bool×List Xa×List Xb×List Xc×List Xd×List Bool×List (List Int)×List Int)))=some (.inl ((op.length:Int)==0 || decide (lst op≥0))):=by
  cases (op.length:Int)==0 <;> rfl
 rw [hB,Option.bind_some,orRet_inl]
 cases hq:((op.length:Int)==0 || decide (lst op≥0)) with
 | true=>rfl
 | false =>
  simp only [Bool.or_eq_false_iff,beq_eq_false_iff_ne,ne_eq,decide_eq_false_iff_not] at hq
  have h0:0<op.length:=by omega
  obtain ⟨n1,n2,n3,n4,n5⟩:=hn h0 (by omega)
  have hnl:0<news.length:=by
   cases news with
   | nil=>simp at n1
   | cons _ _=>simp
  obtain ⟨w1,w2,w3⟩:=z8x h0 (by omega)
  obtain ⟨v1,v2,v3⟩:=z8x hnl n2
  have hg:news[news.length - 1]? = some nl:=by rw [← List.getLast?_eq_getElem?]; exact n1
  simp only [cond_false]
  rw [zi ⟨v2,v3⟩,v1,hg]
  simp only [Option.bind_some]
  have hit:iter (zmh (m+4) (c.Sign_,c.Regs_,c.Slots_,c.List_,set,news,op,i) (nl.length:Int)) (m+4) (0,set)=some (.out ((nl.length:Int),undo set nl)):=by
   refine zxh (F:=fun (s:List Bool) (r:Int)=>s.set r.toNat false) (Inv:=fun (s:List Bool)=>s.length=set.length) (fun k s hk hs=>?_) (fun s hs=>?_) n3 rfl
   ·obtain ⟨r0,r1⟩:=n5 _ (List.getElem_mem hk)
    obtain ⟨b,hb⟩:=zb0 (l:=s) r0 (by omega)
    rw [zjz]
    have e1:decide ((k:Int)<(nl.length:Int))=true:=by simp; omega
    have e2:nl[(k:Int).toNat]? = some nl[k]:=by simp [hk]
    dsimp only
    rw [e1,v1,hg]
    simp only [cond_true,Option.bind_some]
    rw [zi (by omega),e2]
    simp only [Option.bind_some]
    rw [zi ⟨r0,by omega⟩,hb,z2f (by omega)]
    exact ⟨rfl,by simpa using hs⟩
   ·rw [zjz]; simp
  rw [hit]
  simp only [Option.bind_some,Bo.then]
  rw [zi ⟨v2,by omega⟩,zi (by omega),zi ⟨w2,by omega⟩,w1,zi (by omega)]
  simp [List.dropLast_eq_take]
end
def z8z (news:List (List Int)) (d:Int):List (List Int):=match news.getLast? with | some l=>news.set (news.length - 1) (l++[d]) | none=>news
section
variable {n:Nat} {c:Xe} {i:Xd} {set:List Bool} {news:List (List Int)} {op:List Int}
theorem zz9 {m:Nat} (h:i.Op_=34) (hr:∀ y ∈ z1n i,0≤y∧y<set.length) (ho:op.length≤64) (hn:news.length≤64) :
  f37 (m+4) (c.Sign_,c.Regs_,c.Slots_,c.List_,set,news,op,i)=some (rdOk set i,c.Sign_,c.Regs_,c.Slots_,c.List_,set,bif rdOk set i then news++[[]] else news,bif rdOk set i then op++[-1] else op):=by
 rw [zte]
 dsimp only
 rw [zru]
 simp only [Option.bind_some]
 rw [zmj hr]
 cases rdOk set i with
 | false=>rfl
 | true =>
  have e1:((34:Int)==34)=true:=rfl
  have hs:sets i=false:=by
   unfold sets; rw [h]; rfl
  simp only [cond_true,Option.bind_some,Bo.then,h,e1]
  rw [zi (by simp; omega),zi (by simp; omega)]
  simp only [Option.bind_some,orRet_inl,zm6,hs,cond_false]
theorem zbu {m:Nat} (h:i.Op_ ≠ 34) (hr:∀ y ∈ z1n i,0≤y∧y<set.length) (hD:sets i=true→0≤i.D_∧i.D_<set.length) (hn:news.length≤64) (hnl:∀ l ∈ news,l.length<1000000) :
  f37 (m+4) (c.Sign_,c.Regs_,c.Slots_,c.List_,set,news,op,i)=some (rdOk set i,c.Sign_,c.Regs_,c.Slots_,c.List_,bif rdOk set i && (sets i && !((set[i.D_.toNat]?).getD false)) then (set.set i.D_.toNat true,z8z news i.D_,op) else (set,news,op)):=by
 rw [zte]
 dsimp only
 rw [zru]
 simp only [Option.bind_some]
 rw [zmj hr]
 cases rdOk set i with
 | false=>rfl
 | true =>
  have e1:(i.Op_==34)=false:=by simpa using h
  simp only [cond_true,Option.bind_some,Bo.then,e1,cond_false,orRet_inl,zm6]
  cases hs:sets i with
  | false=>rfl
  | true =>
   obtain ⟨d0,d1⟩:=hD hs
   obtain ⟨b,hb⟩:=zb0 d0 d1
   simp only [cond_true]
   rw [zi ⟨d0,d1⟩,hb]
   simp only [Option.bind_some,orRet_inl,Option.getD_some]
   cases b with
   | true=>rfl
   | false =>
    simp only [Bool.not_false,cond_true,Bool.and_self]
    rw [zi ⟨d0,d1⟩]
    by_cases h0:0<news.length
    ·obtain ⟨w1,w2,w3⟩:=z8x h0 (by omega)
     obtain ⟨l,l1,l2⟩:=z79 news h0
     have e2:decide (IntKind.i64.wrap ((news.length:Int) - 1)≥0)=true:=by simpa using w2
     have hl:l.length<1000000:=hnl l (List.mem_of_getLast? l1)
     rw [e2,cond_true,zi ⟨w2,w3⟩,w1,l2]
     simp only [Option.bind_some]
     rw [zi (by simp; omega),zi ⟨w2,w3⟩,zi (p:=True∧news.length - 1<news.length) ⟨trivial,by omega⟩]
     unfold z8z
     rw [l1]
    ·have:news=[]:=List.eq_nil_of_length_eq_zero (by omega)
     subst this
     rfl
end
def vecP (c:Xe) (i:Xd):Int:=match idx c.Regs_ (bif onD i then i.D_ else bif onA i then i.A_ else -1) with | some t=>bif t.Kind_==3 then t.Param_ else -1 | none=>-1
theorem y7c {n:Nat} {c:Xe} {i:Xd}:f60 n (c,i)=some (vecP c i):=by
 rw [y7b]
 simp only [y5v,Option.bind_some]
 have hB:((bif elem i.Op_ then some (Sum.inl true) else bif i.Op_==29 then some (.inl true) else bif i.Op_==30 then some (.inl true) else some (.inl (i.Op_==32)):Option (Bool⊕(Int⊕Int))).bind (zk fun s1=>bif s1 then some (Sum.inl i.D_) else (bif i.Op_==31 then some (Sum.inl true) else some (.inl (i.Op_==33)):Option (Bool⊕(Int⊕Int))).bind (zk fun s2=>bif s2 then some (Sum.inl i.A_) else some (.inl (-1:Int)))))
   = some (.inl (bif onD i then i.D_ else bif onA i then i.A_ else -1)):=by
  unfold onD onA
  cases elem i.Op_ <;> cases i.Op_==29 <;> cases i.Op_==30 <;> cases i.Op_==32 <;> cases i.Op_==31 <;> cases i.Op_==33 <;> rfl
 rw [hB,Option.bind_some,orRet_inl]
 unfold vecP
 generalize (bif onD i then i.D_ else bif onA i then i.A_ else -1)=k
 by_cases h0:k<0
 ·rw [z35 (.inl h0)]
  simp [h0]
 ·by_cases h1:k≥c.Regs_.length
  ·rw [z35 (.inr h1)]
   simp [h0,h1]
  ·obtain ⟨t,ht,_⟩:=z78 (l:=c.Regs_) (n:=k) (by omega) (by omega)
   have e1:decide (k<0)=false:=by simpa using h0
   have e2:decide (k≥(c.Regs_.length:Int))=false:=by simp; omega
   have e3:(t.Kind_ != 3) = !(t.Kind_==3):=rfl
   simp only [e1,e2,ht,cond_false,Option.bind_some,orRet_inl,e3]
   cases t.Kind_==3 <;> rfl
theorem y90 {c:Xe} {i:Xd} {p:Int} (hp:0≤p):(vecP c i != p) = !(zcr c i p):=by
 have key:∀ k:Int,((match idx c.Regs_ k with | some t=>bif t.Kind_==3 then t.Param_ else -1 | none=>-1) != p) = !(zf5 c k p):=fun k=>by
  unfold zf5
  have e:((-1:Int) != p)=true:=by simp; omega
  cases idx c.Regs_ k with
  | none=>exact e
  | some t =>
   simp only
   cases t.Kind_==3 with
   | false=>exact e
   | true=>simp [bne]
 have e:((-1:Int) != p)=true:=by simp; omega
 unfold vecP zcr
 cases onD i with
 | true=>exact key _
 | false =>
  simp only [cond_false]
  cases onA i with
  | true=>exact key _
  | false =>
   simp only [cond_false,Bool.not_false]
   rw [z35 (.inl (by decide))]
   exact e
def z1t (o:List Xf):Bool:=match o.getLast? with | some x=>x.Op_==36 | none=>false
def lstP (o:List Xf):Int:=match o.getLast? with | some x=>x.Param_ | none=>0
def zba (i:Xd) (o:List Xf):Bool :=
 bif i.Op_==34 || i.Op_==36 then decide ((o.length:Int)<64) else bif i.Op_==35 then (decide ((o.length:Int) > 0) && !(z1t o)) else bif i.Op_==37 then z1t o else true
def z44 (c:Xe) (i:Xd) (set:List Bool) (o:List Xf):Bool :=
 fits c i && (!(z1t o && (!(i.Op_==37) && vecP c i != lstP o)) && (rdOk set i && zba i o))
theorem y6r {m:Nat} {c:Xe} {i:Xd} {set:List Bool} {o:List Xf} (hr:∀ t ∈ c.Regs_,mayT c.Sign_ t=true) (h0:0≤i.Bits_) (h1:i.Bits_<4294967296)
  (hs:set.length=c.Regs_.length) (ho:o.length<4611686018427387904):f41 (m+4) (c,i,set,o)=some (z44 c i set o):=by
 rw [y6q]
 have hL:(bif (decide ((o.length:Int) > (0:Int))) then ((idx o (IntKind.i64.wrap ((o.length:Int) - (1:Int)))).bind fun y1=>some (Sum.inl (y1.Op_==36))) else (some (.inl false)):Option (Bool⊕Bool))=some (.inl (z1t o)):=by
  by_cases q:0<o.length
  ·have e:decide ((o.length:Int) > 0)=true:=by simp; omega
   obtain ⟨w1,w2,w3⟩:=z8x q ho
   obtain ⟨x,x1,x2⟩:=z79 o q
   have e2:idx o (IntKind.i64.wrap ((o.length:Int) - 1))=some x:=by unfold idx; rw [if_pos w2,w1,x2]
   rw [e,e2]
   unfold z1t
   rw [x1]; rfl
  ·have:o=[]:=List.eq_nil_of_length_eq_zero (by omega)
   subst this; rfl
 have hP:z1t o=true→idx o (IntKind.i64.wrap ((o.length:Int) - 1))=o.getLast?:=fun hl=>by
  have q:0<o.length:=by
   cases o with
   | nil=>cases hl
   | cons _ _=>simp
  obtain ⟨w1,w2,w3⟩:=z8x q ho
  obtain ⟨x,x1,x2⟩:=z79 o q
  unfold idx
  rw [if_pos w2,w1,x2,x1]
 dsimp only
 rw [hL,Option.bind_some,orRet_inl]
 simp only [y7a hr h0 h1,y7c,Option.bind_some]
 unfold z44
 cases hf:fits c i with
 | false=>rfl
 | true =>
  have hB:(bif z1t o then (bif i.Op_ != 37 then ((idx o (IntKind.i64.wrap ((o.length:Int) - 1))).bind fun y4=>some (Sum.inl (z1t o,vecP c i != y4.Param_))) else some (.inl (z1t o,false))) else some (.inl (z1t o,false)):Option (Bool×Bool⊕Bool))=some (.inl (z1t o,z1t o && (!(i.Op_==37) && vecP c i != lstP o))):=by
   have e1:(i.Op_ != 37) = !(i.Op_==37):=rfl
   rw [e1]
   cases hl:z1t o with
   | false=>rfl
   | true =>
    rw [hP hl]
    cases i.Op_==37 with
    | true=>rfl
    | false =>
     unfold lstP
     cases hg:o.getLast? with
     | none=>unfold z1t at hl; rw [hg] at hl; cases hl
     | some x=>rfl
  simp only [Bool.not_true,cond_false]
  rw [hB,Option.bind_some,orRet_inl]
  dsimp only
  cases hb:(z1t o && (!(i.Op_==37) && vecP c i != lstP o)) with
  | true=>rfl
  | false =>
   simp only [cond_false,y5o,Option.bind_some,Bool.not_false,Bool.true_and]
   rw [zza (fun y hy=>by rw [hs]; exact znw hf y hy)]
   cases rdOk set i with
   | false=>rfl
   | true =>
    simp only [cond_true,Option.bind_some,Bo.then,Bool.true_and]
    unfold zba
    cases i.Op_==34 <;> cases i.Op_==36 <;> cases i.Op_==35 <;> cases i.Op_==37 <;> cases decide ((o.length:Int) > 0) <;> rfl
def code (o:Xf):Int:=bif o.Op_==36 then o.Param_ else -1
def z3z (o:Xf):Bool:=o.Op_==34
def z9t (N:Nat):List Bool→List (List Int)→List Xf→Prop
 | _,[],[]=>True
 | set,l::ls,w::ws=>undo set l=w.Set_∧l.length≤N∧(∀ r ∈ l,0≤r∧r<set.length)∧z9t N w.Set_ ls ws
 | _,_,_=>False
structure Two (c:Xe) (N:Nat) (set:List Bool) (news:List (List Int)) (op:List Int) (o:List Xf):Prop where
 len:set.length=c.Regs_.length
 op:op=o.map code
 le:o.length≤64
 ok:∀ x ∈ o,x.Op_=34∨(x.Op_=36∧0≤x.Param_)
 ch:z9t N set news.reverse (o.filter z3z).reverse
theorem y4o {i:Xd} {r:z3s} (h:rowD i.Op_=some r) (hd:onD i=true):(r.d==0)=false:=by
 obtain ⟨op,d,a,b,c,N,bits⟩:=i
 dsimp only at h
 rcases z54 op with (rfl | rfl | rfl | rfl | rfl | rfl | rfl | rfl | rfl | rfl | rfl | rfl | rfl | rfl | rfl | rfl | rfl | rfl | rfl | rfl | rfl | rfl | rfl | rfl | rfl | rfl | rfl | rfl | rfl | rfl | rfl | rfl | rfl | rfl | rfl | rfl | rfl) | h0
 iterate 37 (· first | (cases h; rfl) | (exact absurd hd (by decide)) | (cases h; revert hd; simp [onD,elem]))
 rw [z31 h0] at h; cases h
theorem y4m {i:Xd} {r:z3s} (h:rowD i.Op_=some r) (hd:onA i=true):(r.a==0)=false:=by
 obtain ⟨op,d,a,b,c,N,bits⟩:=i
 dsimp only at h
 rcases z54 op with (rfl | rfl | rfl | rfl | rfl | rfl | rfl | rfl | rfl | rfl | rfl | rfl | rfl | rfl | rfl | rfl | rfl | rfl | rfl | rfl | rfl | rfl | rfl | rfl | rfl | rfl | rfl | rfl | rfl | rfl | rfl | rfl | rfl | rfl | rfl | rfl | rfl) | h0
 iterate 37 (· first | (cases h; rfl) | (exact absurd hd (by decide)) | (cases h; revert hd; simp [onA]))
 rw [z31 h0] at h; cases h
theorem y4n {c:Xe} {i:Xd} (h:fits c i=true) (hd:onD i=true):∃ t,idx c.Regs_ i.D_=some t:=by
 obtain ⟨r,hr,h1,_⟩:=zc0 h
 exact z82 h1 (y4o hr hd)
theorem y4l {c:Xe} {i:Xd} (h:fits c i=true) (hd:onA i=true):∃ t,idx c.Regs_ i.A_=some t:=by
 obtain ⟨r,hr,_,h1,_⟩:=zc0 h
 exact z82 h1 (y4m hr hd)
section
variable {c:Xe} {N:Nat} {set:List Bool} {news:List (List Int)} {op:List Int} {o:List Xf} {i:Xd}
theorem Two.lst (h:Two c N set news op o):lst op=(match o.getLast? with | some x=>code x | none=>-1):=by
 unfold Loom.lst
 rw [h.op,List.getLast?_map]
 cases o.getLast? <;> rfl
theorem Two.loop (h:Two c N set news op o):decide (Loom.lst op≥0)=z1t o∧(z1t o=true→Loom.lst op=lstP o∧0≤lstP o):=by
 rw [h.lst]
 unfold z1t lstP
 cases hg:o.getLast? with
 | none=>exact ⟨by decide,fun h=>by cases h⟩
 | some x =>
  have hx:=h.ok x (List.mem_of_getLast? hg)
  rcases hx with hx | ⟨hx,hp⟩
  ·have e:code x = -1:=by unfold code; rw [hx]; rfl
   have e2:(x.Op_==36)=false:=by rw [hx]; rfl
   simp only [e,e2]
   exact ⟨by decide,fun h=>by cases h⟩
  ·have e:code x=x.Param_:=by unfold code; rw [hx]; rfl
   have e2:(x.Op_==36)=true:=by rw [hx]; rfl
   simp only [e,e2]
   exact ⟨by simpa using hp,fun _=>⟨by trivial,hp⟩⟩
theorem y33 (x:Int):decide (x<0) = !(decide (x≥0)):=by
 by_cases h:x<0
 ·have:¬ x≥0:=by omega
  simp [h]
 ·have:x≥0:=by omega
  simp [h,this]
theorem z3h {N M:Nat} (hNM:N≤M):∀ (set:List Bool) (ls:List (List Int)) (ws:List Xf),z9t N set ls ws→z9t M set ls ws
 | _,[],[],_=>trivial
 | set,l::ls,w::ws,h=>⟨h.1,Nat.le_trans h.2.1 hNM,h.2.2.1,z3h hNM _ ls ws h.2.2.2⟩
 | _,[],_::_,h=>h.elim
 | _,_::_,[],h=>h.elim
theorem zjh {N:Nat}:∀ (set:List Bool) (ls:List (List Int)) (ws:List Xf),z9t N set ls ws→ls.length=ws.length
 | _,[],[],_=>rfl
 | set,l::ls,w::ws,h=>by simp [zjh _ ls ws h.2.2.2]
 | _,[],_::_,h=>h.elim
 | _,_::_,[],h=>h.elim
theorem zlx {N:Nat}:∀ (set:List Bool) (ls:List (List Int)) (ws:List Xf),z9t N set ls ws→∀ l ∈ ls,l.length≤N
 | _,[],[],_,l,hl=>by cases hl
 | set,l::ls,w::ws,h,x,hx=>by
  rcases List.mem_cons.1 hx with rfl | hx
  ·exact h.2.1
  ·exact zlx _ ls ws h.2.2.2 x hx
 | _,[],_::_,h,_,_=>h.elim
 | _,_::_,[],h,_,_=>h.elim
theorem Two.newsOk (h:Two c N set news op o):news.length≤64∧∀ l ∈ news,l.length≤N:=by
 have h1:=zjh _ _ _ h.ch
 simp only [List.length_reverse] at h1
 have h2:=List.length_filter_le z3z o
 have:=h.le
 exact ⟨by omega,fun l hl=>zlx _ _ _ h.ch l (by simpa using hl)⟩
def zdo (c:Xe) (i:Xd) (op:List Int):Bool :=
 bif i.Op_==34 || i.Op_==36 then !(decide (Loom.lst op≥0) || (op.length:Int)==64) else bif i.Op_==35 then !((op.length:Int)==0 || decide (Loom.lst op≥0)) else bif i.Op_==37 then !(decide (Loom.lst op<0)) else
  bif decide (Loom.lst op<0) then true else zcr c i (Loom.lst op)
theorem zqw {k:Int} (h:i.Op_=k) (hk:k=34∨k=35∨k=36):vecP c i = -1:=by
 unfold vecP onD onA elem
 rw [h]
 rcases hk with rfl | rfl | rfl
 all_goals
  show (match idx c.Regs_ (-1) with | some t=>bif t.Kind_==3 then t.Param_ else -1 | none=>-1)=_
  rw [z35 (.inl (by decide))]
theorem Two.place (h:Two c N set news op o):zdo c i op=(!(z1t o && (!(i.Op_==37) && vecP c i != lstP o)) && zba i o):=by
 obtain ⟨h1,h2⟩:=h.loop
 have hlen:op.length=o.length:=by rw [h.op]; simp
 have hle:=h.le
 unfold zdo zba
 rw [y33,h1,hlen]
 by_cases q4:i.Op_=34∨i.Op_=36
 ·have e1:(i.Op_==34 || i.Op_==36)=true:=by rcases q4 with q | q <;> rw [q] <;> rfl
  have e2:(i.Op_==37)=false:=by rcases q4 with q | q <;> rw [q] <;> rfl
  have e3:vecP c i = -1:=by rcases q4 with q | q <;> exact zqw q (by simp)
  have e4:((o.length:Int)==64) = !(decide ((o.length:Int)<64)):=by
   by_cases q:o.length<64
   ·have:¬ (o.length:Int)=64:=by omega
    have q':(o.length:Int)<64:=by omega
    simp [this,q']
   ·have:(o.length:Int)=64:=by omega
    simp [this]
  rw [e1,e2,e3,e4]
  simp only [cond_true]
  cases hl:z1t o with
  | false=>simp
  | true =>
   have:=(h2 hl).2
   have e5:((-1:Int) != lstP o)=true:=by simp; omega
   rw [e5]; simp
 ·have e1:(i.Op_==34 || i.Op_==36)=false:=by
   have a1:¬ i.Op_=34:=fun q=>q4 (.inl q)
   have a2:¬ i.Op_=36:=fun q=>q4 (.inr q)
   simp [a1,a2]
  rw [e1]
  simp only [cond_false]
  by_cases q5:i.Op_=35
  ·have e2:(i.Op_==35)=true:=by rw [q5]; rfl
   have e3:(i.Op_==37)=false:=by rw [q5]; rfl
   have e4:vecP c i = -1:=zqw q5 (by simp)
   have e6:((o.length:Int)==0) = !(decide ((o.length:Int) > 0)):=by
    by_cases q:0<o.length
    ·have a1:((o.length:Int)==0)=false:=by simp only [beq_eq_false_iff_ne,ne_eq]; omega
     have a2:decide ((o.length:Int) > 0)=true:=by simp only [decide_eq_true_eq]; omega
     rw [a1,a2]; rfl
    ·have:(o.length:Int)=0:=by omega
     simp [this]
   rw [e2,e3,e4,e6]
   simp only [cond_true]
   cases hl:z1t o with
   | false=>simp
   | true =>
    have:=(h2 hl).2
    have e5:((-1:Int) != lstP o)=true:=by simp; omega
    rw [e5]; simp
  ·have e2:(i.Op_==35)=false:=by simpa using q5
   rw [e2]
   simp only [cond_false]
   cases i.Op_==37 with
   | true =>
    simp only [cond_true]
    cases z1t o <;> rfl
   | false =>
    simp only [cond_false]
    cases hl:z1t o with
    | false=>rfl
    | true =>
     obtain ⟨p1,p2⟩:=h2 hl
     rw [p1,y90 p2]
     cases zcr c i (lstP o) <;> rfl
end
def za6 (i:Xd) (set:List Bool) (news:List (List Int)) (op:List Int):List Bool×List (List Int)×List Int :=
 bif i.Op_==34 then (set,news++[[]],op++[-1]) else bif i.Op_==36 then (set,news,op++[i.N_]) else
 bif i.Op_==35 then (undo set (news.getLast?.getD []),news.dropLast,op.dropLast) else bif i.Op_==37 then (set,news,op.dropLast) else
 bif sets i && !((set[i.D_.toNat]?).getD false) then (set.set i.D_.toNat true,z8z news i.D_,op) else (set,news,op)
def okI (c:Xe) (i:Xd) (set:List Bool) (op:List Int):Bool:=fits c i && (zdo c i op && rdOk set i)
section
variable {c:Xe} {N:Nat} {set:List Bool} {news:List (List Int)} {op:List Int} {o:List Xf} {i:Xd}
theorem zg0 {k:Int} (h:i.Op_=k) (hk:k=35∨k=36∨k=37):z1n i=[]∧sets i=false:=by
 unfold z1n sets
 rw [h]
 rcases hk with rfl | rfl | rfl <;> exact ⟨rfl,rfl⟩
theorem Two.last (h:Two c N set news op o) (h0:0<op.length) (h1:Loom.lst op<0):∃ l w,news.getLast? = some l∧o.getLast? = some w∧w.Op_=34∧undo set l=w.Set_∧l.length≤N∧(∀ r ∈ l,0≤r∧r<set.length)∧z9t N w.Set_ news.dropLast.reverse (o.dropLast.filter z3z).reverse:=by
 have hlen:op.length=o.length:=by rw [h.op]; simp
 obtain ⟨w,w1,w2⟩:=z79 o (by omega)
 have hw:w.Op_=34:=by
  rcases h.ok w (List.mem_of_getLast? w1) with q | ⟨q,p⟩
  ·exact q
  ·rw [h.lst,w1] at h1
   simp only [code,q] at h1
   have:(bif ((36:Int)==36) then w.Param_ else -1)=w.Param_:=rfl
   omega
 have ho:o=o.dropLast++[w]:=by
  have hne:o ≠ []:=fun e=>by rw [e] at w1; cases w1
  have:=List.dropLast_concat_getLast hne
  rw [List.getLast?_eq_some_getLast hne] at w1
  rw [← Option.some.inj w1]; exact this.symm
 have hc:=h.ch
 rw [ho,List.filter_append] at hc
 have e:[w].filter z3z=[w]:=by simp [z3z,hw]
 rw [e,List.reverse_append,List.reverse_singleton,List.singleton_append] at hc
 cases hn:news.reverse with
 | nil=>rw [hn] at hc; exact hc.elim
 | cons l ls =>
  rw [hn] at hc
  have hnews:news=ls.reverse++[l]:=by
   have:=congrArg List.reverse hn
   simpa using this
  refine ⟨l,w,by rw [hnews]; simp,w1,hw,hc.1,hc.2.1,hc.2.2.1,?_⟩
  have:news.dropLast=ls.reverse:=by rw [hnews]; simp
  rw [this,List.reverse_reverse]
  exact hc.2.2.2
theorem zyz {m k:Nat} {x:Xe} {v:List Xd×Int×List Xa×List Xb×List Xc} (h:Two c N set news op o) (hN:N<1000000) (hm:N<m) (hr:∀ t ∈ c.Regs_,mayT c.Sign_ t=true) (h0:0≤i.Bits_) (h1:i.Bits_<4294967296)
  (hk:k<1000000) (hv:decide ((k:Int)<v.2.1)=true) (hi:idx v.1 (k:Int)=some i) :
  zd9 (m+5) x v ((k:Int),c.Sign_,c.Regs_,c.Slots_,c.List_,set,news,op)=some (bif okI c i set op then .go (((k+1:Nat):Int),c.Sign_,c.Regs_,c.Slots_,c.List_,za6 i set news op) else .ret (k:Int)):=by
 rw [zjn]
 dsimp only
 rw [hv,hi]
 simp only [cond_true,Option.bind_some]
 rw [y6k m hr h0 h1]
 unfold okI
 cases hf:fits c i with
 | false=>rfl
 | true =>
  have hle:op.length≤64:=by rw [h.op]; simpa using h.le
  obtain ⟨n1,n2⟩:=h.newsOk
  have hrd:∀ y ∈ z1n i,0≤y∧y<set.length:=fun y hy=>by rw [h.len]; exact znw hf y hy
  have hD:sets i=true→0≤i.D_∧i.D_<set.length:=fun hs=>by rw [h.len]; exact zj8 hf hs
  simp only [Option.bind_some,Bool.not_true,cond_false,Bool.true_and]
  unfold zdo za6
  by_cases q34:i.Op_=34
  ·have e1:(i.Op_==34)=true:=by simpa using q34
   rw [zz8 (n:=m+5) (by omega) q34]
   simp only [e1,Bool.true_or,cond_true,Option.bind_some]
   cases hp:(decide (Loom.lst op≥0) || (op.length:Int)==64) with
   | true=>rfl
   | false =>
    simp only [Bool.not_false,Bool.not_true,cond_false,Bool.true_and]
    rw [zz9 (m:=m+1) q34 hrd hle n1]
    cases rdOk set i with
    | false=>rfl
    | true =>
     simp only [Option.bind_some,orRet_inl,Bool.not_true,cond_false,cond_true,z2f (show k<4611686018427387904 by omega)]
  ·have e1:(i.Op_==34)=false:=by simpa using q34
   by_cases q36:i.Op_=36
   ·have e2:(i.Op_==36)=true:=by simpa using q36
    obtain ⟨r1,r2⟩:=zg0 q36 (by simp)
    have r3:rdOk set i=true:=by unfold rdOk; rw [r1]; rfl
    rw [zz6 (n:=m+5) hle q36]
    simp only [e1,e2,Bool.false_or,cond_true,cond_false,Option.bind_some]
    cases hp:(decide (Loom.lst op≥0) || (op.length:Int)==64) with
    | true=>rfl
    | false =>
     simp only [Bool.not_false,Bool.not_true,cond_false,Bool.true_and]
     rw [zbu (m:=m+1) q34 hrd hD n1 (fun l hl=>by have:=n2 l hl; omega)]
     simp only [r2,r3,Bool.false_and,Bool.and_false,Option.bind_some,orRet_inl,Bool.not_true,cond_false,cond_true,z2f (show k<4611686018427387904 by omega)]
   ·have e2:(i.Op_==36)=false:=by simpa using q36
    by_cases q35:i.Op_=35
    ·have e3:(i.Op_==35)=true:=by simpa using q35
     obtain ⟨r1,r2⟩:=zg0 q35 (by simp)
     rw [y4c (m:=m+1) (nl:=news.getLast?.getD []) hle q35 (fun z1 z2=>by
      obtain ⟨l,w,a1,a2,a3,a4,a5,a6,a7⟩:=h.last z1 z2
      rw [a1]
      exact ⟨rfl,by omega,by simp only [Option.getD_some]; omega,by simp only [Option.getD_some]; omega,a6⟩)]
     simp only [e1,e2,e3,Bool.false_or,cond_true,cond_false,Option.bind_some]
     cases hp:((op.length:Int)==0 || decide (Loom.lst op≥0)) with
     | true=>rfl
     | false =>
      have r3:rdOk set i=true:=by unfold rdOk; rw [r1]; rfl
      simp only [Bool.not_false,Bool.not_true,cond_false,Bool.true_and,r3]
      rw [zbu (m:=m+1) q34 (fun y hy=>by rw [r1] at hy; cases hy) (fun hs=>by rw [r2] at hs; cases hs) (by simp; omega) (fun l hl=>by
       have:=n2 l ((List.dropLast_sublist _).subset hl); omega)]
      have r4:rdOk (undo set (news.getLast?.getD [])) i=true:=by unfold rdOk; rw [r1]; rfl
      simp only [r2,r4,Bool.false_and,Bool.and_false,Option.bind_some,orRet_inl,Bool.not_true,cond_false,cond_true,z2f (show k<4611686018427387904 by omega)]
    ·have e3:(i.Op_==35)=false:=by simpa using q35
     by_cases q37:i.Op_=37
     ·have e4:(i.Op_==37)=true:=by simpa using q37
      obtain ⟨r1,r2⟩:=zg0 q37 (by simp)
      have r3:rdOk set i=true:=by unfold rdOk; rw [r1]; rfl
      rw [zz7 (n:=m+5) hle q37]
      simp only [e1,e2,e3,e4,Bool.false_or,cond_true,cond_false,Option.bind_some]
      cases hp:decide (Loom.lst op<0) with
      | true=>rfl
      | false =>
       simp only [Bool.not_false,Bool.not_true,cond_false,Bool.true_and]
       rw [zbu (m:=m+1) q34 hrd hD n1 (fun l hl=>by have:=n2 l hl; omega)]
       simp only [r2,r3,Bool.false_and,Bool.and_false,Option.bind_some,orRet_inl,Bool.not_true,cond_false,cond_true,z2f (show k<4611686018427387904 by omega)]
     ·have e4:(i.Op_==37)=false:=by simpa using q37
      rw [zz5 (n:=m+5) hle hf q34 q35 q36 q37 (y4n hf) (y4l hf)]
      simp only [e1,e2,e3,e4,Bool.false_or,cond_true,cond_false,Option.bind_some]
      cases hp:(bif decide (Loom.lst op<0) then true else zcr c i (Loom.lst op)) with
      | false=>rfl
      | true =>
       simp only [Bool.not_false,Bool.not_true,cond_false,Bool.true_and]
       rw [zbu (m:=m+1) q34 hrd hD n1 (fun l hl=>by have:=n2 l hl; omega)]
       cases rdOk set i with
       | false=>rfl
       | true =>
        simp only [Bool.true_and,Option.bind_some,orRet_inl,Bool.not_true,cond_false,cond_true,z2f (show k<4611686018427387904 by omega)]
end
def z6v (i:Xd) (set:List Bool) (o:List Xf):List Bool×List Xf :=
 bif i.Op_==34 || i.Op_==36 then (set,o++[⟨i.Op_,i.N_,set⟩]) else bif i.Op_==35 then ((o.getLast?.getD ⟨0,0,[]⟩).Set_,o.dropLast) else bif i.Op_==37 then (set,o.dropLast) else
  bif sets i then (set.set i.D_.toNat true,o) else (set,o)
theorem ztg {n:Nat} {s:List Bool} (h:s.length≤140737488355328):f42 n s=some s:=by
 rw [y6s,zi (by omega)]
section
variable {c:Xe} {N:Nat} {set:List Bool} {news:List (List Int)} {op:List Int} {o:List Xf} {i:Xd}
theorem zz1 {m k:Nat} (h:Two c N set news op o) (hr:∀ t ∈ c.Regs_,mayT c.Sign_ t=true) (hR:c.Regs_.length≤1000000) (h0:0≤i.Bits_) (h1:i.Bits_<4294967296)
  (hk:k<1000000) (hv:k<c.List_.length) (hi:idx c.List_ (k:Int)=some i) :
  zda (m+4) c () ((k:Int),set,o)=some (bif z44 c i set o then .go (((k+1:Nat):Int),z6v i set o) else .ret (k:Int)):=by
 have hle:=h.le
 have hlen:=h.len
 rw [zjs]
 have e1:decide ((k:Int)<(c.List_.length:Int))=true:=by simp; omega
 dsimp only
 rw [e1,hi]
 simp only [cond_true,Option.bind_some]
 rw [y6r hr h0 h1 hlen (by omega)]
 have w:IntKind.i64.wrap ((k:Int)+1)=((k+1:Nat):Int):=z2f (by omega)
 cases hs:z44 c i set o with
 | false=>rfl
 | true =>
  simp only [Option.bind_some,Bool.not_true,cond_false,cond_true]
  have hs':=hs
  unfold z44 at hs'
  simp only [Bool.and_eq_true] at hs'
  obtain ⟨hf,hv1,hrd,hp⟩:=hs'
  unfold z6v
  have hB:(bif i.Op_==34 then some (Sum.inl (true,i.Op_,i.D_,i.A_,i.B_,i.C_,i.N_,i.Bits_)) else some (.inl (i.Op_==36,i.Op_,i.D_,i.A_,i.B_,i.C_,i.N_,i.Bits_)):Option (Bool×Int×Int×Int×Int×Int×Int×Int⊕Bo (Int×List Bool×List Xf) (Int×List Bool×List Xf) Int))
    = some (.inl (i.Op_==34 || i.Op_==36,i.Op_,i.D_,i.A_,i.B_,i.C_,i.N_,i.Bits_)):=by
   cases i.Op_==34 <;> rfl
  rw [hB,Option.bind_some,orRet_inl]
  dsimp only
  cases q1:(i.Op_==34 || i.Op_==36) with
  | true =>
   simp only [cond_true]
   rw [ztg (by omega)]
   simp only [Option.bind_some]
   rw [zi (by simp; omega),w]
  | false =>
   simp only [cond_false]
   unfold zba at hp
   rw [q1] at hp
   simp only [cond_false] at hp
   cases q2:i.Op_==35 with
   | true =>
    rw [q2] at hp
    simp only [cond_true,Bool.and_eq_true,decide_eq_true_eq] at hp
    have hpos:0<o.length:=by omega
    obtain ⟨w1,w2,w3⟩:=z8x hpos (by omega)
    obtain ⟨x,x1,x2⟩:=z79 o hpos
    simp only [cond_true]
    rw [zi ⟨w2,w3⟩,w1,x2,x1]
    simp only [Option.bind_some,Option.getD_some]
    have hx:x.Set_.length≤140737488355328:=by
     have hl0:Loom.lst op<0:=by
      have:=h.loop.1
      rw [← this] at hp
      simp at hp; omega
     obtain ⟨l,wv,a1,a2,a3,a4,_⟩:=h.last (by rw [h.op]; simpa using hpos) hl0
     rw [x1] at a2
     cases a2
     rw [← a4,zoa]; omega
    rw [ztg hx]
    simp only [Option.bind_some]
    rw [zi ⟨w2,by omega⟩,zi (by omega),w]
    simp [List.dropLast_eq_take]
   | false =>
    rw [q2] at hp
    simp only [cond_false] at hp ⊢
    cases q3:i.Op_==37 with
    | true =>
     rw [q3] at hp
     simp only [cond_true] at hp ⊢
     have hpos:0<o.length:=by
      cases o with
      | nil=>cases hp
      | cons _ _=>simp
     obtain ⟨w1,w2,w3⟩:=z8x hpos (by omega)
     rw [zi ⟨w2,by omega⟩,w1,zi (by omega),w]
     simp [List.dropLast_eq_take]
    | false =>
     have e:(⟨i.Op_,i.D_,i.A_,i.B_,i.C_,i.N_,i.Bits_⟩:Xd)=i:=rfl
     simp only [cond_false,e,y5r,Option.bind_some]
     cases hss:sets i with
     | false=>simp only [cond_false,w]
     | true =>
      obtain ⟨d0,d1⟩:=zj8 hf hss
      obtain ⟨b,hb⟩:=zb0 (l:=set) d0 (by omega)
      simp only [cond_true]
      rw [zi ⟨d0,by omega⟩,hb]
      simp only [Option.bind_some,w]
theorem zo9 (l:List Int):∀ (set:List Bool) (j:Nat),(undo set l)[j]? = if l.any (fun r=>r.toNat==j) then (set[j]?).map (fun _=>false) else set[j]?:=by
 unfold undo
 induction l with
 | nil=>intro set j; simp
 | cons r l ih =>
  intro set j
  simp only [List.foldl_cons]
  rw [ih,List.any_cons]
  by_cases h:r.toNat=j
  ·subst h
   simp only [beq_self_eq_true,Bool.true_or,if_true]
   split
   ·by_cases hj:r.toNat<set.length
    ·simp [hj]
    ·simp [hj]
   ·by_cases hj:r.toNat<set.length
    ·simp [hj]
    ·simp [hj]
  ·have e:(r.toNat==j)=false:=by simpa using h
   rw [e,Bool.false_or,List.getElem?_set_ne h]
theorem y00 {l:List Int} {set:List Bool} {d:Int} (hd:set[d.toNat]? = some false):undo (set.set d.toNat true) (l++[d])=undo set l:=by
 apply List.ext_getElem?
 intro j
 have hlt:d.toNat<set.length:=by
  obtain ⟨h,_⟩:=List.getElem?_eq_some_iff.1 hd
  exact h
 rw [zo9,zo9,List.any_append]
 by_cases h:d.toNat=j
 ·subst h
  simp only [List.any_cons,beq_self_eq_true,Bool.true_or,Bool.or_true,if_true,hd]
  rw [List.getElem?_set_self hlt]
  simp
 ·have e:(d.toNat==j)=false:=by simpa using h
  rw [List.getElem?_set_ne h]
  simp [e]
theorem zxz {set:List Bool} {d:Nat} (h:set[d]? = some true):set.set d true=set:=by
 apply List.ext_getElem?
 intro j
 by_cases hj:d=j
 ·subst hj
  obtain ⟨hl,_⟩:=List.getElem?_eq_some_iff.1 h
  rw [List.getElem?_set_self hl,h]
 ·rw [List.getElem?_set_ne hj]
end
section
variable {c:Xe} {N:Nat} {set:List Bool} {news:List (List Int)} {op:List Int} {o:List Xf} {i:Xd}
theorem y8g (hf:fits c i=true) (h:i.Op_=36):0≤i.N_:=by
 unfold fits at hf
 rw [h] at hf
 have e:rowD 36=some ⟨0,0,0,0,4⟩:=rfl
 rw [e] at hf
 simp only [Bool.and_eq_true] at hf
 have:=hf.2.2.2.2.2
 have e2:nOk c 4 i.N_ (tyF c ⟨0,0,0,0,4⟩ i)=(decide (i.N_≥0) && decide (i.N_<(c.Sign_.length:Int))):=rfl
 rw [e2] at this
 simp at this
 exact this.1
theorem zs4 {α:Type} {l:List α} {w:α} (h:l.getLast? = some w):l=l.dropLast++[w]:=by
 have hne:l ≠ []:=fun e=>by rw [e] at h; cases h
 have:=List.dropLast_concat_getLast hne
 rw [List.getLast?_eq_some_getLast hne] at h
 rw [← Option.some.inj h]; exact this.symm
theorem Two.next (h:Two c N set news op o) (hok:okI c i set op=true):(z6v i set o).1=(za6 i set news op).1∧Two c (N+1) (za6 i set news op).1 (za6 i set news op).2.1 (za6 i set news op).2.2 (z6v i set o).2:=by
 unfold okI at hok
 simp only [Bool.and_eq_true] at hok
 obtain ⟨hf,hp,hrd⟩:=hok
 have hlen:op.length=o.length:=by rw [h.op]; simp
 unfold zdo at hp
 unfold za6 z6v
 by_cases q34:i.Op_=34
 ·have e1:(i.Op_==34)=true:=by simpa using q34
  rw [e1] at hp
  simp only [Bool.true_or,cond_true,Bool.not_eq_true',Bool.or_eq_false_iff,beq_eq_false_iff_ne,ne_eq] at hp
  have hle:=h.le
  simp only [e1,Bool.true_or,cond_true]
  refine ⟨by trivial,h.len,?_,?_,?_,?_⟩
  ·rw [List.map_append,h.op]; simp [code,q34]
  ·simp; omega
  ·intro x hx
   rcases List.mem_append.1 hx with hx | hx
   ·exact h.ok x hx
   ·simp only [List.mem_singleton] at hx
    subst hx; exact .inl q34
  ·rw [List.filter_append]
   have e:[(⟨i.Op_,i.N_,set⟩:Xf)].filter z3z=[⟨i.Op_,i.N_,set⟩]:=by simp [z3z,q34]
   rw [e,List.reverse_append,List.reverse_append]
   exact ⟨rfl,Nat.zero_le _,fun r hr=>(by cases hr),z3h (Nat.le_succ N) _ _ _ h.ch⟩
 ·have e1:(i.Op_==34)=false:=by simpa using q34
  rw [e1] at hp
  by_cases q36:i.Op_=36
  ·have e2:(i.Op_==36)=true:=by simpa using q36
   rw [e2] at hp
   simp only [Bool.false_or,cond_true,Bool.not_eq_true',Bool.or_eq_false_iff,beq_eq_false_iff_ne,ne_eq] at hp
   have hle:=h.le
   simp only [e1,e2,Bool.false_or,cond_true,cond_false]
   refine ⟨by trivial,h.len,?_,?_,?_,?_⟩
   ·rw [List.map_append,h.op]; simp [code,q36]
   ·simp; omega
   ·intro x hx
    rcases List.mem_append.1 hx with hx | hx
    ·exact h.ok x hx
    ·simp only [List.mem_singleton] at hx
     subst hx; exact .inr ⟨q36,y8g hf q36⟩
   ·rw [List.filter_append]
    have e:[(⟨i.Op_,i.N_,set⟩:Xf)].filter z3z=[]:=by simp [z3z,q36]
    rw [e,List.append_nil]
    exact z3h (Nat.le_succ N) _ _ _ h.ch
  ·have e2:(i.Op_==36)=false:=by simpa using q36
   rw [e2] at hp
   simp only [Bool.false_or,cond_false] at hp
   simp only [e1,e2,Bool.false_or,cond_false]
   by_cases q35:i.Op_=35
   ·have e3:(i.Op_==35)=true:=by simpa using q35
    rw [e3] at hp
    simp only [cond_true,Bool.not_eq_true',Bool.or_eq_false_iff,beq_eq_false_iff_ne,ne_eq,decide_eq_false_iff_not] at hp
    obtain ⟨l,w,a1,a2,a3,a4,a5,a6,a7⟩:=h.last (by omega) (by omega)
    simp only [e3,cond_true,a1,a2,Option.getD_some]
    have hle:=h.le
    refine ⟨a4.symm,?_,?_,?_,?_,?_⟩
    ·rw [zoa]; exact h.len
    ·rw [h.op,List.map_dropLast]
    ·simp; omega
    ·exact fun x hx=>h.ok x ((List.dropLast_sublist _).subset hx)
    ·rw [a4]; exact z3h (Nat.le_succ N) _ _ _ a7
   ·have e3:(i.Op_==35)=false:=by simpa using q35
    rw [e3] at hp
    simp only [cond_false] at hp
    by_cases q37:i.Op_=37
    ·have e4:(i.Op_==37)=true:=by simpa using q37
     rw [e4,y33,h.loop.1] at hp
     simp only [cond_true,Bool.not_not] at hp
     simp only [e3,e4,cond_true,cond_false]
     have hle:=h.le
     obtain ⟨w,hw⟩:∃ w,o.getLast? = some w:=by
      unfold z1t at hp
      split at hp
      ·exact ⟨_,by assumption⟩
      ·cases hp
     have hww:w.Op_=36:=by
      unfold z1t at hp
      rw [hw] at hp
      simpa using hp
     refine ⟨by trivial,h.len,?_,?_,?_,?_⟩
     ·rw [h.op,List.map_dropLast]
     ·simp; omega
     ·exact fun x hx=>h.ok x ((List.dropLast_sublist _).subset hx)
     ·have:=h.ch
      rw [zs4 hw,List.filter_append] at this
      have e:[w].filter z3z=[]:=by simp [z3z,hww]
      rw [e,List.append_nil] at this
      exact z3h (Nat.le_succ N) _ _ _ this
    ·have e4:(i.Op_==37)=false:=by simpa using q37
     simp only [e3,e4,cond_false]
     cases hs:sets i with
     | false =>
      simp only [Bool.false_and,cond_false]
      exact ⟨by trivial,h.len,h.op,h.le,h.ok,z3h (Nat.le_succ N) _ _ _ h.ch⟩
     | true =>
      obtain ⟨d0,d1⟩:=zj8 hf hs
      obtain ⟨b,hb⟩:=zb0 (l:=set) d0 (by rw [h.len]; exact d1)
      simp only [hb,Option.getD_some,Bool.true_and,cond_true]
      cases b with
      | true =>
       rw [zxz hb]
       exact ⟨rfl,h.len,h.op,h.le,h.ok,z3h (Nat.le_succ N) _ _ _ h.ch⟩
      | false =>
       simp only [Bool.not_false,cond_true]
       refine ⟨by trivial,by simpa using h.len,h.op,h.le,h.ok,?_⟩
       have hc:=h.ch
       cases hn:news.reverse with
       | nil =>
        rw [hn] at hc
        have:news=[]:=by simpa using hn
        subst this
        cases hw:(o.filter z3z).reverse with
        | nil=>simp [z8z,z9t]
        | cons w ws=>rw [hw] at hc; exact hc.elim
       | cons l ls =>
        rw [hn] at hc
        cases hw:(o.filter z3z).reverse with
        | nil=>rw [hw] at hc; exact hc.elim
        | cons w ws =>
         rw [hw] at hc
         obtain ⟨c1,c2,c3,c4⟩:=hc
         have hnews:news=ls.reverse++[l]:=by
          have:=congrArg List.reverse hn
          simpa using this
         have ha:(z8z news i.D_).reverse=(l++[i.D_])::ls:=by
          unfold z8z
          rw [hnews]
          simp
         rw [ha]
         refine ⟨by rw [y00 hb]; exact c1,by simp; omega,fun r hr=>?_,z3h (Nat.le_succ N) _ _ _ c4⟩
         rcases List.mem_append.1 hr with hr | hr
         ·simpa using c3 r hr
         ·simp only [List.mem_singleton] at hr
          subst hr
          refine ⟨d0,?_⟩
          simp only [List.length_set]
          rw [h.len]; exact d1
end
theorem znb {α S Y Z:Type} {l:List α} {p:α→Bool} {g:Nat→S} {body:S→Option (Bo S Y Z)} {z:Nat→Z} {y:Y}
  (hb:∀ (k:Nat) (h:k<l.length),body (g k)=some (bif p l[k] then .go (g (k+1)) else .ret (z k))) (he:body (g l.length)=some (.out y)) :
  ∀ (j k f:Nat),k+j=l.length→j<f→iter body f (g k)=some (match (l.drop k).findIdx? (fun x=>!p x) with | none=>.out y | some i=>.ret (z (k+i)))
 | 0,k,f+1,hk,hf=>by
  obtain rfl:k=l.length:=by omega
  unfold iter
  rw [he]
  simp
 | j+1,k,f+1,hk,hf=>by
  have h:k<l.length:=by omega
  unfold iter
  rw [hb k h,List.drop_eq_getElem_cons h]
  cases hp:p l[k] with
  | false =>
   simp only [cond_false,List.findIdx?_cons,hp,Bool.not_false,if_true]
   rfl
  | true =>
   simp only [cond_true]
   rw [znb hb he j (k+1) f (by omega) (by omega)]
   rw [List.findIdx?_cons]
   simp only [hp,Bool.not_true,cond_false,Bool.false_eq_true,if_false]
   cases (l.drop (k+1)).findIdx? (fun x=>!p x) with
   | none=>rfl
   | some i=>simp only [Option.map_some]; congr 3; omega
theorem zna {α S Y Z:Type} {l:List α} {p:α→Bool} (g:Nat→S) {body:S→Option (Bo S Y Z)} (z:Nat→Z) {y:Y} {f:Nat}
  (hb:∀ (k:Nat) (h:k<l.length),body (g k)=some (bif p l[k] then .go (g (k+1)) else .ret (z k))) (he:body (g l.length)=some (.out y)) (hf:l.length<f) :
  iter body f (g 0)=some (match l.findIdx? (fun x=>!p x) with | none=>.out y | some i=>.ret (z i)):=by
 have:=znb hb he l.length 0 f (by omega) hf
 simpa using this
section
variable {c:Xe}
theorem z2p {α:Type} {l:List α} {k:Nat} (h:k<l.length):idx l (k:Int)=some l[k]:=by simp [idx,h]
theorem y6b {n:Nat} (h:c.Regs_.length<n) (h2:c.Regs_.length<1000000):f29 n (c.Regs_,c.Sign_,c.Regs_,c.Slots_,c.List_)=some (!(c.Regs_.all (mayT c.Sign_)),c.Sign_,c.Regs_,c.Slots_,c.List_):=by
 have hit:iter (zmo n (c.Regs_,c.Sign_,c.Regs_,c.Slots_,c.List_) ()) n ((0:Int),c.Sign_,c.Regs_,c.Slots_,c.List_)=some (match c.Regs_.findIdx? (fun x=>!mayT c.Sign_ x) with | none=>.out ((c.Regs_.length:Int),c.Sign_,c.Regs_,c.Slots_,c.List_) | some i=>.ret ((i:Int),c.Sign_,c.Regs_,c.Slots_,c.List_)):=by
  refine zna (p:=mayT c.Sign_) (fun k=>((k:Int),c.Sign_,c.Regs_,c.Slots_,c.List_)) (fun k=>((k:Int),c.Sign_,c.Regs_,c.Slots_,c.List_)) (fun k hk=>?_) ?_ h
  ·rw [zk5]
   have e1:decide ((k:Int)<(c.Regs_.length:Int))=true:=by simp; omega
   dsimp only
   rw [e1,z2p hk]
   simp only [cond_true,Option.bind_some,y6c,ztd,z2f (show k<4611686018427387904 by omega)]
   cases mayT c.Sign_ c.Regs_[k] <;> rfl
  ·rw [zk5]; simp
 rw [y6a,y6w]
 dsimp only
 rw [hit,← zfs]
 cases c.Regs_.findIdx? (fun x=>!mayT c.Sign_ x) with
 | none=>rfl
 | some i=>simp [Bo.then]
theorem y6f {n:Nat} (h:c.Slots_.length<n) (h2:c.Slots_.length<1000000) (hb:∀ s ∈ c.Slots_,0≤s.Bits_∧s.Bits_<4294967296):f32 n (c.Slots_,c.Sign_,c.Regs_,c.Slots_,c.List_)=some (!(c.Slots_.all (mayS c.Sign_)),c.Sign_,c.Regs_,c.Slots_,c.List_):=by
 have hit:iter (zmp n (c.Slots_,c.Sign_,c.Regs_,c.Slots_,c.List_) ()) n ((0:Int),c.Sign_,c.Regs_,c.Slots_,c.List_)=some (match c.Slots_.findIdx? (fun x=>!mayS c.Sign_ x) with | none=>.out ((c.Slots_.length:Int),c.Sign_,c.Regs_,c.Slots_,c.List_) | some i=>.ret ((i:Int),c.Sign_,c.Regs_,c.Slots_,c.List_)):=by
  refine zna (p:=mayS c.Sign_) (fun k=>((k:Int),c.Sign_,c.Regs_,c.Slots_,c.List_)) (fun k=>((k:Int),c.Sign_,c.Regs_,c.Slots_,c.List_)) (fun k hk=>?_) ?_ h
  ·rw [zk6]
   have e1:decide ((k:Int)<(c.Slots_.length:Int))=true:=by simp; omega
   obtain ⟨b0,b1⟩:=hb _ (List.getElem_mem hk)
   dsimp only
   rw [e1,z2p hk]
   simp only [cond_true,Option.bind_some,y6g,y6i _ _ b0 b1,z2f (show k<4611686018427387904 by omega)]
   cases mayS c.Sign_ c.Slots_[k] <;> rfl
  ·rw [zk6]; simp
 rw [y6e,y6x]
 dsimp only
 rw [hit,← zfs]
 cases c.Slots_.findIdx? (fun x=>!mayS c.Sign_ x) with
 | none=>rfl
 | some i=>simp [Bo.then]
theorem zz0 {n m:Nat} (h:c.Regs_.length<m) (h2:c.Regs_.length<1000000):iter (zm8 n c ()) m 0=some (bif c.Regs_.all (mayT c.Sign_) then .out (c.Regs_.length:Int) else .ret ()):=by
 refine z45 (fun k hk=>?_) ?_ h
 ·rw [zjp]
  have e1:decide ((k:Int)<(c.Regs_.length:Int))=true:=by simp; omega
  rw [e1,z2p hk]
  simp only [cond_true,Option.bind_some,ztf,z2f (show k<4611686018427387904 by omega)]
  cases mayT c.Sign_ c.Regs_[k] <;> rfl
 ·rw [zjp]; simp
theorem zta {n m:Nat} (h:c.Slots_.length<m) (h2:c.Slots_.length<1000000) (hb:∀ s ∈ c.Slots_,0≤s.Bits_∧s.Bits_<4294967296):iter (zm9 n c ()) m 0=some (bif c.Slots_.all (mayS c.Sign_) then .out (c.Slots_.length:Int) else .ret ()):=by
 refine z45 (fun k hk=>?_) ?_ h
 ·rw [zjq]
  have e1:decide ((k:Int)<(c.Slots_.length:Int))=true:=by simp; omega
  obtain ⟨b0,b1⟩:=hb _ (List.getElem_mem hk)
  rw [e1,z2p hk]
  simp only [cond_true,Option.bind_some,y6p _ _ b0 b1,z2f (show k<4611686018427387904 by omega)]
  cases mayS c.Sign_ c.Slots_[k] <;> rfl
 ·rw [zjq]; simp
theorem z46 {S Y Z:Type} {L:Nat} (g:Nat→S) {body:S→Option (Bo S Y Z)} {y:Y} (hb:∀ k,k<L→body (g k)=some (.go (g (k+1)))) (he:body (g L)=some (.out y)) :
  ∀ (j k f:Nat),k+j=L→j<f→iter body f (g k)=some (.out y)
 | 0,k,f+1,hk,hf=>by
  obtain rfl:k=L:=by omega
  unfold iter
  rw [he]
 | j+1,k,f+1,hk,hf=>by
  unfold iter
  rw [hb k (by omega)]
  exact z46 g hb he j (k+1) f (by omega) (by omega)
theorem y3z {n m:Nat} (h:c.Regs_.length<m) (h2:c.Regs_.length<1000000):iter (zma n c ()) m (0,[])=some (.out ((c.Regs_.length:Int),List.replicate c.Regs_.length false)):=by
 refine z46 (L:=c.Regs_.length) (fun k=>((k:Int),List.replicate k false)) (fun k hk=>?_) ?_ c.Regs_.length 0 m (by omega) h
 ·rw [zjr]
  have e1:decide ((k:Int)<(c.Regs_.length:Int))=true:=by simp; omega
  dsimp only
  rw [e1,cond_true,zi (by simp; omega),z2f (by omega),← List.replicate_succ']
 ·rw [zjr]; simp
end
def okB (y:Int):Bool:=(decide (y≥65) && decide (y≤90)) || ((decide (y≥97) && decide (y≤122)) || ((decide (y≥48) && decide (y≤57)) || (y==95 || (y==46 || (y==47 || y==45)))))
theorem idxB (y:Int) (h0:0≤y) (h1:y<256):decide ((Lib.indexByte [95,46,47,45] y.toNat.toUInt8:Int)≥0)=(y==95 || (y==46 || (y==47 || y==45))):=by
 have h:(List.range 256).all (fun k=>decide ((Lib.indexByte [95,46,47,45] k.toUInt8:Int)≥0)==((k:Int)==95 || ((k:Int)==46 || ((k:Int)==47 || (k:Int)==45))))=true:=by kernel_rfl
 have:=List.all_eq_true.1 h y.toNat (by simp; omega)
 have e:((y.toNat:Nat):Int)=y:=by omega
 rw [e] at this
 simpa using this
theorem y7q {n:Nat} (y:Int) (h0:0≤y) (h1:y<256):∃ r,f68 n (⟨#[95,46,47,45]⟩,y)=some r∧decide (r≥0)=(y==95 || (y==46 || (y==47 || y==45))) :=
 ⟨_,by rw [y7p]; rfl,idxB y h0 h1⟩
theorem zlv {x:ByteArray} {k:Nat} (h:k<(bytesOf x).length):0≤(bytesOf x)[k]∧(bytesOf x)[k]<256∧zb x (k:Int)=(bytesOf x)[k]:=by
 have hl:k<x.data.toList.length:=by simpa [bytesOf] using h
 have e:(bytesOf x)[k]=((x.data.toList[k]).toNat:Int):=by simp [bytesOf]
 have hb:=UInt8.toNat_lt (x.data.toList[k])
 refine ⟨by rw [e]; omega,by rw [e]; omega,?_⟩
 rw [e]
 unfold zb
 rw [List.getD_eq_getElem?_getD,show ((k:Int).toNat)=k from rfl,List.getElem?_eq_getElem hl]
 rfl
theorem zjf (x:ByteArray):(bytesOf x).length=x.size:=by
 unfold bytesOf
 rw [List.length_map]
 rfl
def z7v (x:ByteArray):Bool:=!(x==⟨#[]⟩ || decide ((x.size:Int) > 64)) && (bytesOf x).all okB
theorem y7e {n:Nat} (x:ByteArray) (hn:64<n):f61 n x=some (z7v x):=by
 rw [y7d]
 have hB:(bif (x==⟨#[]⟩) then some (Sum.inl true) else some (.inl (decide ((x.size:Int) > 64))):Option (Bool⊕Bool))=some (.inl (x==⟨#[]⟩ || decide ((x.size:Int) > 64))):=by
  cases (x==(⟨#[]⟩:ByteArray)) <;> rfl
 rw [hB,Option.bind_some,orRet_inl]
 unfold z7v
 cases hq:(x==⟨#[]⟩ || decide ((x.size:Int) > 64)) with
 | true=>rfl
 | false =>
  have hs:x.size≤64:=by
   simp only [Bool.or_eq_false_iff,decide_eq_false_iff_not] at hq
   omega
  have hl:=zjf x
  have hit:iter (zms n x ()) n 0=some (bif (bytesOf x).all okB then .out ((bytesOf x).length:Int) else .ret ()):=by
   refine z45 (fun k hk=>?_) ?_ (by omega)
   ·obtain ⟨b0,b1,_⟩:=zlv hk
    obtain ⟨r,r1,r2⟩:=y7q (n:=n) _ b0 b1
    rw [zk9]
    have e1:decide ((k:Int)<((bytesOf x).length:Int))=true:=by simp; omega
    rw [e1,z2p hk]
    simp only [cond_true,Option.bind_some]
    generalize (bytesOf x)[k]=y at *
    rw [z2f (by omega)]
    unfold okB
    cases a1:decide (y≥65) <;> cases a2:decide (y≤90) <;> cases a3:decide (y≥97) <;> cases a4:decide (y≤122) <;> cases a5:decide (y≥48) <;> cases a6:decide (y≤57) <;> simp only [a1,a2,a3,a4,a5,a6,cond_true,cond_false,Option.bind_some,orRet_inl,r1,r2] <;> cases (y==95 || (y==46 || (y==47 || y==45))) <;> rfl
   ·rw [zk9]; simp
  rw [hit]
  cases (bytesOf x).all okB <;> rfl
set_option maxHeartbeats 4000000 in
theorem y7i {n:Nat} (x:ByteArray) (hn:64<n):f63 n x=some (z7v x):=by
 rw [y7h]
 have hB:(bif (x==⟨#[]⟩) then some (Sum.inl true) else some (.inl (decide ((x.size:Int) > 64))):Option (Bool⊕Bool))=some (.inl (x==⟨#[]⟩ || decide ((x.size:Int) > 64))):=by
  cases (x==(⟨#[]⟩:ByteArray)) <;> rfl
 rw [hB,Option.bind_some,orRet_inl]
 unfold z7v
 cases hq:(x==⟨#[]⟩ || decide ((x.size:Int) > 64)) with
 | true=>rfl
 | false =>
  have hs:x.size≤64:=by
   simp only [Bool.or_eq_false_iff,decide_eq_false_iff_not] at hq
   omega
  have hl:=zjf x
  have hit:iter (zmt n x ()) n 0=some (bif (bytesOf x).all okB then .out ((bytesOf x).length:Int) else .ret ()):=by
   refine z45 (fun k hk=>?_) ?_ (by omega)
   ·obtain ⟨_,_,b2⟩:=zlv hk
    rw [zka]
    have e1:decide ((k:Int)<(x.size:Int))=true:=by simp; omega
    rw [e1,b2,cond_true,zi (by omega),z2f (by omega)]
    generalize (bytesOf x)[k]=y
    unfold okB
    cases decide (y≥97) <;> cases decide (y≤122) <;> cases decide (y≥65) <;> cases decide (y≤90) <;> cases decide (y≥48) <;> cases decide (y≤57) <;> cases (y==95) <;> cases (y==46) <;> cases (y==47) <;> cases (y==45) <;> rfl
   ·rw [zka,hl]; simp
  rw [hit]
  cases (bytesOf x).all okB <;> rfl
def mayP (p:Xa):Bool:=z7v p.Name_ && ((p.Kind_==1 || p.Kind_==2) && (decide (p.Len_≥1) && decide (p.Len_≤4096)))
theorem zth {n:Nat} (p:Xa) (hn:64<n):f48 n p=some (mayP p):=by
 rw [y6t,y7e _ hn]
 unfold mayP
 simp only [Option.bind_some]
 cases z7v p.Name_ <;> cases (p.Kind_==1) <;> cases (p.Kind_==2) <;> cases decide (p.Len_≥1) <;> rfl
theorem ztj {n:Nat} (p:Xa) (hn:64<n):f55 n p=some (mayP p):=by
 rw [y73,y7i _ hn]
 unfold mayP
 simp only [Option.bind_some]
 cases z7v p.Name_ <;> cases (p.Kind_==1) <;> cases (p.Kind_==2) <;> cases decide (p.Len_≥1) <;> rfl
theorem zou {a b:ByteArray}:(a==b)=true↔a=b:=MapKept.bytes_beq a b
theorem z63 (a:ByteArray):(a==a)=true:=zou.2 rfl
def addP (ks:List ByteArray) (p:Xa):List ByteArray:=bif has p.Name_ ks then ks else ks++[p.Name_]
theorem zn3 {n:Nat} (hn:64<n):∀ (l:List Xa) (ks:List ByteArray),za1 n l ks=some (bif l.all mayP then some (l.foldl addP ks) else none)
 | [],ks=>rfl
 | p::l,ks=>by
  unfold za1
  have e:zhm n p=some (mayP p):=zth p hn
  rw [e]
  simp only [Option.bind_some,List.all_cons,List.foldl_cons]
  cases mayP p with
  | false=>rfl
  | true =>
   simp only [cond_true,Bool.true_and]
   exact zn3 hn l _
theorem y4g (s:ByteArray) (ks:List ByteArray) (p:Xa):has s (addP ks p)=(has s ks || p.Name_==s):=by
 unfold addP
 cases h:has p.Name_ ks with
 | false=>simp [has]
 | true =>
  simp only [cond_true]
  cases hq:p.Name_==s with
  | false=>simp
  | true =>
   rw [zou] at hq
   subst hq
   simp [h]
theorem zkd {x:List Xa} {k:Nat} (h:k<x.length):(x.take (k+1)).foldl addP []=addP ((x.take k).foldl addP []) x[k]:=by
 rw [List.take_succ_eq_append_getElem h,List.foldl_append]
 rfl
theorem zn5 {x:List Xa} (s:ByteArray):∀ k,k≤x.length→has s ((x.take k).foldl addP [])=(x.take k).any (fun p=>p.Name_==s)
 | 0,_=>by simp [has]
 | k+1,h=>by
  rw [zkd (by omega),y4g,zn5 s k (by omega),List.take_succ_eq_append_getElem (by omega),List.any_append]
  simp only [List.any_cons,List.any_nil,Bool.or_false]
def z3v (x:List Xa) (k:Nat):Bool:=match x[k]? with | some p=>!((x.take k).any fun q=>q.Name_==p.Name_) | none=>true
theorem znd {x:List Xa}:∀ k,k≤x.length→((x.take k).foldl addP []).length=(List.range k).countP (z3v x)
 | 0,_=>by simp
 | k+1,h=>by
  have hk:k<x.length:=by omega
  rw [zkd hk,List.range_succ,List.countP_append,← znd k (by omega)]
  have e:z3v x k = !(has x[k].Name_ ((x.take k).foldl addP [])):=by
   unfold z3v
   rw [List.getElem?_eq_getElem hk,zn5 _ k (by omega)]
  have e2:addP ((x.take k).foldl addP []) x[k]=bif has x[k].Name_ ((x.take k).foldl addP []) then (x.take k).foldl addP [] else (x.take k).foldl addP []++[x[k].Name_]:=rfl
  rw [e2]
  cases hh:has x[k].Name_ ((x.take k).foldl addP []) with
  | true=>rw [hh] at e; simp [List.countP_cons,e]
  | false=>rw [hh] at e; simp [List.countP_cons,e]
theorem y5k (x:List Xa):decide (((x.foldl addP []).length:Int)<(x.length:Int)) = !((List.range x.length).all (z3v x)):=by
 have h:=znd (x:=x) x.length (Nat.le_refl _)
 rw [List.take_length] at h
 rw [h]
 have hle:=List.countP_le_length (p:=z3v x) (l:=List.range x.length)
 simp only [List.length_range] at hle
 cases ha:(List.range x.length).all (z3v x) with
 | true =>
  have:(List.range x.length).countP (z3v x)=(List.range x.length).length:=List.countP_eq_length.2 (List.all_eq_true.1 ha)
  rw [this]; simp
 | false =>
  have:(List.range x.length).countP (z3v x) ≠ (List.range x.length).length:=fun e=>by
   have:=List.countP_eq_length.1 e
   have:(List.range x.length).all (z3v x)=true:=List.all_eq_true.2 this
   rw [ha] at this; cases this
  simp only [List.length_range] at this
  simp only [Bool.not_false,decide_eq_true_eq]
  omega
def fnd (x:List Xa) (s:ByteArray):Int×Bool:=match x.findIdx? (fun p=>p.Name_==s) with | none=>(0,false) | some i=>((i:Int),true)
theorem y75 {n:Nat} {x:List Xa} {s:ByteArray} (h:x.length<n) (h2:x.length<1000000):f56 n (x,s)=some (fnd x s):=by
 have hit:iter (zmq n (x,s) ()) n 0=some (match x.findIdx? (fun p=>!(!(p.Name_==s))) with | none=>.out (x.length:Int) | some i=>.ret (i:Int)):=by
  refine zna (p:=fun p=>!(p.Name_==s)) (fun k=>(k:Int)) (fun k=>(k:Int)) (fun k hk=>?_) ?_ h
  ·rw [zk7]
   have e1:decide ((k:Int)<(x.length:Int))=true:=by simp; omega
   dsimp only
   rw [e1,z2p hk]
   simp only [cond_true,Option.bind_some,z2f (show k<4611686018427387904 by omega)]
   cases x[k].Name_==s <;> rfl
  ·rw [zk7]; simp
 rw [y74,hit]
 unfold fnd
 simp only [Bool.not_not]
 cases x.findIdx? (fun p=>p.Name_==s) <;> rfl
theorem zzb {x:List Xa} {k:Nat} (hk:k<x.length):(fnd x x[k].Name_).1=(k:Int)↔z3v x k=true:=by
 unfold z3v fnd
 rw [List.getElem?_eq_getElem hk]
 simp only [Bool.not_eq_true']
 cases hf:x.findIdx? (fun p=>p.Name_==x[k].Name_) with
 | none =>
  rw [List.findIdx?_eq_none_iff] at hf
  have:=hf x[k] (List.getElem_mem hk)
  rw [z63] at this; cases this
 | some i =>
  obtain ⟨hi,h1,h2⟩:=List.findIdx?_eq_some_iff_getElem.1 hf
  simp only
  constructor
  ·intro e
   have e:i=k:=by omega
   subst e
   rw [Bool.eq_false_iff]
   intro ha
   obtain ⟨q,hq,hq2⟩:=List.any_eq_true.1 ha
   obtain ⟨j,hj,rfl⟩:=List.getElem_of_mem hq
   simp only [List.length_take] at hj
   have:=h2 j (by omega)
   rw [List.getElem_take] at hq2
   rw [hq2] at this
   simp at this
  ·intro ha
   by_cases hik:i<k
   ·exfalso
    have:(x.take k).any (fun q=>q.Name_==x[k].Name_)=true:=by
     rw [List.any_eq_true]
     exact ⟨x[i],List.mem_take_iff_getElem.2 ⟨i,by omega,rfl⟩,h1⟩
    rw [ha] at this; cases this
   ·by_cases hki:k<i
    ·exfalso
     have:=h2 k hki
     rw [z63] at this; simp at this
    ·omega
def numP (p:Xa):Int:=bif mayP p then (bif p.Kind_==2 then IntKind.i64.wrap (2 * p.Len_) else p.Len_) else 0
theorem y7g {n:Nat} (p:Xa) (hn:64<n):f62 n p=some (numP p):=by
 rw [y7f,zth _ hn]
 unfold numP
 simp only [Option.bind_some]
 cases mayP p <;> cases (p.Kind_==2) <;> rfl
theorem y7k {n:Nat} (p:Xa) (hn:64<n):f64 n p=some (numP p):=by
 rw [y7j,ztj _ hn]
 unfold numP
 simp only [Option.bind_some]
 cases mayP p <;> cases (p.Kind_==2) <;> rfl
def z5k (x:List Xa) (k:Nat):Int:=(x.take k).foldl (fun s p=>IntKind.i64.wrap (s+numP p)) 0
theorem zo5 {x:List Xa} {k:Nat} (h:k<x.length):z5k x (k+1)=IntKind.i64.wrap (z5k x k+numP x[k]):=by
 unfold z5k
 rw [List.take_succ_eq_append_getElem h,List.foldl_append]
 rfl
theorem y6v {n:Nat} {x:List Xa} (hn:64<n) (hl:x.length≤64):f49 n x=some (z5k x x.length):=by
 have hit:iter (zmn n x ()) n (0,0)=some (.out (z5k x x.length,(x.length:Int))):=by
  refine z46 (L:=x.length) (fun k=>(z5k x k,(k:Int))) (fun k hk=>?_) ?_ x.length 0 n (by omega) (by omega)
  ·rw [zk4]
   have e1:decide ((k:Int)<(x.length:Int))=true:=by simp; omega
   dsimp only
   rw [e1,z2p hk]
   simp only [cond_true,Option.bind_some,y7g _ hn,z2f (show k<4611686018427387904 by omega),zo5 hk]
  ·rw [zk4]; simp
 rw [y6u,hit]
 rfl
theorem y77 {n:Nat} {x:List Xa} (hn:64<n) (hl:x.length≤64):f57 n x=some (z5k x x.length):=by
 have hit:iter (zmr n x ()) n (0,0)=some (.out (z5k x x.length,(x.length:Int))):=by
  refine z46 (L:=x.length) (fun k=>(z5k x k,(k:Int))) (fun k hk=>?_) ?_ x.length 0 n (by omega) (by omega)
  ·rw [zk8]
   have e1:decide ((k:Int)<(x.length:Int))=true:=by simp; omega
   dsimp only
   rw [e1,z2p hk]
   simp only [cond_true,Option.bind_some,y7k _ hn,z2f (show k<4611686018427387904 by omega),zo5 hk]
  ·rw [zk8]; simp
 rw [y76,hit]
 rfl
def sgn (x:List Xa):Int:=bif decide ((x.length:Int) > 64) then 2 else bif x.all mayP then (bif (List.range x.length).all (z3v x) then (bif decide (z5k x x.length > 65536) then 102 else 0) else 101) else 100
theorem y69 {n:Nat} (x:List Xa) (hn:64<n):f28 n x=some (sgn x):=by
 show g28 n x=_
 unfold g28 sgn
 simp only [List.length_map]
 cases hl:decide ((x.length:Int) > 64) with
 | true=>rfl
 | false =>
  have hl':x.length≤64:=by simp only [decide_eq_false_iff_not] at hl; omega
  rw [zn3 hn]
  cases x.all mayP with
  | false=>rfl
  | true =>
   have e:zvl n x=some (z5k x x.length):=y6v hn hl'
   simp only [cond_false,cond_true,Option.bind_some,z8l,List.length_map,y5k,e]
   cases (List.range x.length).all (z3v x) <;> cases decide (z5k x x.length > 65536) <;> rfl
theorem y6m {n:Nat} (x:List Xa) (hn:64<n):f38 n x=some (sgn x):=by
 rw [y6l]
 unfold sgn
 cases hl:decide ((x.length:Int) > 64) with
 | true=>rfl
 | false =>
  have hl':x.length≤64:=by simp only [decide_eq_false_iff_not] at hl; omega
  have h1:iter (zmk n x ()) n 0=some (bif x.all mayP then .out (x.length:Int) else .ret ()):=by
   refine z45 (fun k hk=>?_) ?_ (by omega)
   ·rw [zk1]
    have e1:decide ((k:Int)<(x.length:Int))=true:=by simp; omega
    rw [e1,z2p hk]
    simp only [cond_true,Option.bind_some,ztj _ hn,z2f (show k<4611686018427387904 by omega)]
    cases mayP x[k] <;> rfl
   ·rw [zk1]; simp
  have h2:iter (zml n x ()) n 0=some (bif (List.range x.length).all (z3v x) then .out (x.length:Int) else .ret ()):=by
   refine z45 (l:=List.range x.length) (fun k hk=>?_) ?_ (by simp; omega)
   ·simp only [List.length_range] at hk
    rw [zk2]
    have e1:decide ((k:Int)<(x.length:Int))=true:=by simp; omega
    rw [e1,z2p hk]
    simp only [cond_true,Option.bind_some,y75 (n:=n) (x:=x) (s:=x[k].Name_) (by omega) (by omega),z2f (show k<4611686018427387904 by omega),List.getElem_range]
    have:=zzb hk
    cases hq:z3v x k with
    | true =>
     have e:=this.2 hq
     rw [e]
     simp
    | false =>
     have e:(fnd x x[k].Name_).1 ≠ (k:Int):=fun e=>by
      have:=this.1 e
      rw [hq] at this; cases this
     have e2:((fnd x x[k].Name_).1 != (k:Int))=true:=by simpa using e
     rw [e2]; rfl
   ·rw [List.length_range,zk2]; simp
  rw [h1]
  simp only [cond_false]
  cases x.all mayP with
  | false=>rfl
  | true =>
   simp only [cond_true,Option.bind_some,Bo.then]
   rw [h2]
   cases (List.range x.length).all (z3v x) with
   | false=>rfl
   | true =>
    simp only [cond_true,Option.bind_some,Bo.then,y77 hn hl']
    cases decide (z5k x x.length > 65536) <;> rfl
theorem ze3 (a:Int):(a==a)=true:=by simp
theorem zyn (a:Bool):(a==a)=true:=by simp
structure zla (a:Xe):Prop where
 s:a.Sign_.length * 32≤140737488355328
 r:a.Regs_.length * 16≤140737488355328
 l:a.Slots_.length * 32≤140737488355328
 i:a.List_.length * 56≤140737488355328
def fuel (a:Xe):Nat:=a.Sign_.length+a.Regs_.length+a.Slots_.length+a.List_.length+100001
theorem zz3 {n:Nat} {c:Xe} (h1:c.Sign_.length<n) (h2:c.Regs_.length<n) (h3:c.Slots_.length<n) (h4:c.List_.length<n)
  (k1:c.Sign_.length<4611686018427387904) (k2:c.Regs_.length<4611686018427387904) (k3:c.Slots_.length<4611686018427387904) (k4:c.List_.length<4611686018427387904):f23 n (c,c)=some true:=by
 have i1:iter (zmb n (c,c) ()) n 0=some (.out (c.Sign_.length:Int)):=by
  refine z46 (L:=c.Sign_.length) (fun k=>(k:Int)) (fun k hk=>?_) ?_ c.Sign_.length 0 n (by omega) h1
  ·rw [zju]
   have e1:decide ((k:Int)<(c.Sign_.length:Int))=true:=by simp; omega
   dsimp only
   rw [e1,z2p hk]
   simp only [cond_true,Option.bind_some,z2f (show k<4611686018427387904 by omega),ze3,z63,Bool.and_self,Bool.not_true,cond_false]
  ·rw [zju]; simp
 have i2:iter (zmc n (c,c) ()) n 0=some (.out (c.Regs_.length:Int)):=by
  refine z46 (L:=c.Regs_.length) (fun k=>(k:Int)) (fun k hk=>?_) ?_ c.Regs_.length 0 n (by omega) h2
  ·rw [zjv]
   have e1:decide ((k:Int)<(c.Regs_.length:Int))=true:=by simp; omega
   dsimp only
   rw [e1,z2p hk]
   simp only [cond_true,Option.bind_some,z2f (show k<4611686018427387904 by omega),ze3,z63,Bool.and_self,Bool.not_true,cond_false]
  ·rw [zjv]; simp
 have i3:iter (zmd n (c,c) ()) n 0=some (.out (c.Slots_.length:Int)):=by
  refine z46 (L:=c.Slots_.length) (fun k=>(k:Int)) (fun k hk=>?_) ?_ c.Slots_.length 0 n (by omega) h3
  ·rw [zjw]
   have e1:decide ((k:Int)<(c.Slots_.length:Int))=true:=by simp; omega
   dsimp only
   rw [e1,z2p hk]
   simp only [cond_true,Option.bind_some,z2f (show k<4611686018427387904 by omega),ze3,zyn,z63,Bool.and_self,Bool.not_true,cond_false]
  ·rw [zjw]; simp
 have i4:iter (zme n (c,c) ()) n 0=some (.out (c.List_.length:Int)):=by
  refine z46 (L:=c.List_.length) (fun k=>(k:Int)) (fun k hk=>?_) ?_ c.List_.length 0 n (by omega) h4
  ·rw [zjx]
   have e1:decide ((k:Int)<(c.List_.length:Int))=true:=by simp; omega
   dsimp only
   rw [e1,z2p hk]
   simp only [cond_true,Option.bind_some,z2f (show k<4611686018427387904 by omega),ze3,z63,Bool.and_self,Bool.not_true,cond_false]
  ·rw [zjx]; simp
 rw [y66,i1,i2,i3,i4]
 simp [bne,Bo.then]
def goR (c:Xe):List Xd→Nat→List Bool→List Xf→Nat⊕(List Bool×List Xf)
 | [],_,set,o=>.inr (set,o)
 | i::l,k,set,o=>bif z44 c i set o then goR c l (k+1) (z6v i set o).1 (z6v i set o).2 else .inl k
section
variable {c:Xe}
theorem y08 {m m':Nat} {x:Xe} (hr:∀ t ∈ c.Regs_,mayT c.Sign_ t=true) (hR:c.Regs_.length≤1000000) (hL:c.List_.length<1000000) (hm:c.List_.length<m) (hb:∀ i ∈ c.List_,0≤i.Bits_∧i.Bits_<4294967296) :
  ∀ (j k f f':Nat) (set:List Bool) (news:List (List Int)) (op:List Int) (o:List Xf),k+j=c.List_.length→j<f→j<f'→Two c k set news op o →
   ∃ news' op',(∀ r,goR c (c.List_.drop k) k set o = .inr r→op'.length=r.2.length) ∧
    iter (zd9 (m+5) x (c.List_,(c.List_.length:Int),c.Sign_,c.Regs_,c.Slots_)) f ((k:Int),c.Sign_,c.Regs_,c.Slots_,c.List_,set,news,op)=some (match goR c (c.List_.drop k) k set o with | .inl k'=>.ret (k':Int) | .inr r=>.out ((c.List_.length:Int),c.Sign_,c.Regs_,c.Slots_,c.List_,r.1,news',op')) ∧
    iter (zda (m'+4) c ()) f' ((k:Int),set,o)=some (match goR c (c.List_.drop k) k set o with | .inl k'=>.ret (k':Int) | .inr r=>.out ((c.List_.length:Int),r.1,r.2))
 | 0,k,f+1,f'+1,set,news,op,o,hk,_,_,h=>by
  obtain rfl:k=c.List_.length:=by omega
  rw [List.drop_length]
  refine ⟨news,op,fun r hr=>?_,?_,?_⟩
  ·cases hr; rw [h.op]; simp
  ·unfold iter
   rw [zjn]; simp [goR]
  ·unfold iter
   rw [zjs]; simp [goR]
 | j+1,k,f+1,f'+1,set,news,op,o,hk,hf,hf',h=>by
  have hkl:k<c.List_.length:=by omega
  obtain ⟨b0,b1⟩:=hb _ (List.getElem_mem hkl)
  have e1:decide ((k:Int)<(c.List_.length:Int))=true:=by simp; omega
  have s1:=zyz (m:=m) (x:=x) (v:=(c.List_,(c.List_.length:Int),c.Sign_,c.Regs_,c.Slots_)) h (by omega) (by omega) hr b0 b1 (by omega) e1 (z2p hkl)
  have s2:=zz1 (m:=m') h hr hR b0 b1 (by omega) hkl (z2p hkl)
  have e2:z44 c c.List_[k] set o=okI c c.List_[k] set op:=by
   unfold z44 okI
   rw [h.place]
   cases fits c c.List_[k] <;> cases rdOk set c.List_[k] <;> cases zba c.List_[k] o <;> simp
  rw [List.drop_eq_getElem_cons hkl]
  have eg:goR c (c.List_[k]::c.List_.drop (k+1)) k set o=bif z44 c c.List_[k] set o then goR c (c.List_.drop (k+1)) (k+1) (z6v c.List_[k] set o).1 (z6v c.List_[k] set o).2 else .inl k:=rfl
  rw [eg]
  rw [e2] at s2 ⊢
  unfold iter
  rw [s1,s2]
  cases hok:okI c c.List_[k] set op with
  | false=>exact ⟨[],[],fun r hr=>(by cases hr),rfl,rfl⟩
  | true =>
   obtain ⟨q1,q2⟩:=h.next hok
   simp only [cond_true]
   have e3:z6v c.List_[k] set o=((za6 c.List_[k] set news op).1,(z6v c.List_[k] set o).2):=by rw [← q1]
   rw [e3]
   exact y08 hr hR hL hm hb j (k+1) f f' _ _ _ _ (by omega) (by omega) (by omega) q2
end
def chk (c:Xe):Int×Int :=
 bif sgn c.Sign_ != 0 then (sgn c.Sign_,-1) else bif (decide ((c.Regs_.length:Int) > 16384) || decide ((c.List_.length:Int) > 32768)) then (181,-1) else bif decide ((c.Slots_.length:Int) > 4096) then (180,-1) else
 bif c.Regs_.all (mayT c.Sign_) then (bif c.Slots_.all (mayS c.Sign_) then (match goR c c.List_ 0 (List.replicate c.Regs_.length false) [] with | .inl k=>(160,(k:Int)) | .inr r=>bif decide ((r.2.length:Int) > 0) then (160,(c.List_.length:Int)) else (0,0)) else (160,-1)) else (160,-1)
theorem zly {n:Nat} {c:Xe} (hn:100000<n) (hs:∀ s ∈ c.Slots_,0≤s.Bits_∧s.Bits_<4294967296) (hb:∀ i ∈ c.List_,0≤i.Bits_∧i.Bits_<4294967296):f16 n c=some (chk c)∧f21 n c=some (chk c):=by
 unfold chk
 obtain ⟨m,rfl⟩:∃ m,n=m+5:=⟨n - 5,by omega⟩
 rw [y5w,y61,y69 _ (by omega),y6m _ (by omega)]
 simp only [Option.bind_some]
 cases sgn c.Sign_ != 0 with
 | true=>exact ⟨rfl,rfl⟩
 | false =>
  have hB:∀ {R:Type},(bif (decide ((c.Regs_.length:Int) > 16384)) then some (Sum.inl true) else some (.inl (decide ((c.List_.length:Int) > 32768))):Option (Bool⊕R))=some (.inl (decide ((c.Regs_.length:Int) > 16384) || decide ((c.List_.length:Int) > 32768))):=by
   intro R
   cases decide ((c.Regs_.length:Int) > 16384) <;> rfl
  simp only [cond_false]
  rw [hB,Option.bind_some,orRet_inl]
  cases hz:(decide ((c.Regs_.length:Int) > 16384) || decide ((c.List_.length:Int) > 32768)) with
  | true=>exact ⟨rfl,rfl⟩
  | false =>
   simp only [Bool.or_eq_false_iff,decide_eq_false_iff_not] at hz
   simp only [cond_false]
   cases hy:decide ((c.Slots_.length:Int) > 4096) with
   | true=>exact ⟨rfl,rfl⟩
   | false =>
    simp only [decide_eq_false_iff_not] at hy
    simp only [cond_false]
    rw [y6b (by omega) (by omega),zz0 (by omega) (by omega)]
    cases hr:c.Regs_.all (mayT c.Sign_) with
    | false=>exact ⟨rfl,rfl⟩
    | true =>
     have hr':∀ t ∈ c.Regs_,mayT c.Sign_ t=true:=List.all_eq_true.1 hr
     simp only [Option.bind_some,Bool.not_true,cond_false,cond_true,Bo.then]
     rw [y6f (by omega) (by omega) hs,zta (by omega) (by omega) hs]
     cases c.Slots_.all (mayS c.Sign_) with
     | false=>exact ⟨rfl,rfl⟩
     | true =>
      simp only [Option.bind_some,orRet_inl,Bool.not_true,cond_false,cond_true,Bo.then]
      rw [zi (by omega),y3z (by omega) (by omega)]
      simp only [Option.bind_some,Bo.then]
      have h0:Two c 0 (List.replicate c.Regs_.length false) [] [] []:=⟨by simp,rfl,by simp,fun x hx=>(by cases hx),trivial⟩
      have hset:List.replicate ((c.Regs_.length:Int)).toNat false=List.replicate c.Regs_.length false:=by rw [Int.toNat_natCast]
      rw [hset]
      obtain ⟨news',op',q0,q1,q2⟩:=y08 (m:=m) (m':=m+1) (x:=c) hr' (by omega) (by omega) (by omega) hb c.List_.length 0 (m+5) (m+5) _ _ _ _ (by omega) (by omega) (by omega) h0
      rw [List.drop_zero] at q0 q1 q2
      have q1:iter (zd9 (m+5) c (c.List_,(c.List_.length:Int),c.Sign_,c.Regs_,c.Slots_)) (m+5) (0,c.Sign_,c.Regs_,c.Slots_,c.List_,List.replicate c.Regs_.length false,[],[])=_:=q1
      have q2:iter (zda (m+5) c ()) (m+5) (0,List.replicate c.Regs_.length false,[])=_:=q2
      rw [q1,q2]
      cases hg:goR c c.List_ 0 (List.replicate c.Regs_.length false) [] with
      | inl k=>exact ⟨rfl,rfl⟩
      | inr r =>
       have:=q0 r hg
       simp only [Option.bind_some,Bo.then,this]
       cases decide ((r.2.length:Int) > 0) <;> exact ⟨rfl,rfl⟩
def zlj (d:Nat) (s t:List Bool):Prop:=s.length=t.length∧∀ j,j ≠ d→s[j]? = t[j]?
inductive zi5 (d:Nat):List Xf→List Xf→Prop
 | nil:zi5 d [] []
 | snoc {o p:List Xf} {x y:Xf}:zi5 d o p→x.Op_=y.Op_→x.Param_=y.Param_→zlj d x.Set_ y.Set_→zi5 d (o++[x]) (p++[y])
theorem zi5.len {d:Nat} {o p:List Xf} (h:zi5 d o p):o.length=p.length:=by
 induction h with
 | nil=>rfl
 | snoc _ _ _ _ ih=>simp [ih]
theorem zlj.set {d:Nat} {s t:List Bool} (h:zlj d s t) (j:Nat) (b:Bool):zlj d (s.set j b) (t.set j b):=by
 refine ⟨by simp [h.1],fun k hk=>?_⟩
 rw [List.getElem?_set,List.getElem?_set,h.1,h.2 k hk]
abbrev y34 (c:Xe):List Bool:=List.replicate c.Regs_.length false
theorem zt4 {c:Xe} (h:(chk c).1=0):(sgn c.Sign_ != 0)=false∧decide ((c.Regs_.length:Int) > 16384)=false∧decide ((c.List_.length:Int) > 32768)=false∧decide ((c.Slots_.length:Int) > 4096)=false∧c.Regs_.all (mayT c.Sign_)=true∧c.Slots_.all (mayS c.Sign_)=true ∧
  ∃ r,goR c c.List_ 0 (y34 c) [] = .inr r∧r.2=[]:=by
 unfold chk at h
 cases h1:sgn c.Sign_ != 0 with
 | true =>
  rw [h1] at h
  have h:sgn c.Sign_=0:=h
  rw [h] at h1; cases h1
 | false =>
  rw [h1] at h
  cases h2:decide ((c.Regs_.length:Int) > 16384) with
  | true=>rw [h2] at h; exact absurd (show (181:Int)=0 from h) (by decide)
  | false =>
   cases h3:decide ((c.List_.length:Int) > 32768) with
   | true=>rw [h2,h3] at h; exact absurd (show (181:Int)=0 from h) (by decide)
   | false =>
    rw [h2,h3] at h
    cases h4:decide ((c.Slots_.length:Int) > 4096) with
    | true=>rw [h4] at h; exact absurd (show (180:Int)=0 from h) (by decide)
    | false =>
     rw [h4] at h
     cases h5:c.Regs_.all (mayT c.Sign_) with
     | false=>rw [h5] at h; exact absurd (show (160:Int)=0 from h) (by decide)
     | true =>
      rw [h5] at h
      cases h6:c.Slots_.all (mayS c.Sign_) with
      | false=>rw [h6] at h; exact absurd (show (160:Int)=0 from h) (by decide)
      | true =>
       rw [h6] at h
       refine ⟨rfl,rfl,rfl,rfl,rfl,rfl,?_⟩
       simp only [Bool.or_self,cond_false,cond_true] at h
       cases h7:goR c c.List_ 0 (y34 c) [] with
       | inl k=>rw [h7] at h; exact absurd h (by simp)
       | inr r =>
        rw [h7] at h
        refine ⟨r,rfl,?_⟩
        cases h8:decide ((r.2.length:Int) > 0) with
        | true=>simp only [h8,cond_true] at h; exact absurd h (by simp)
        | false =>
         simp only [decide_eq_false_iff_not] at h8
         exact List.eq_nil_of_length_eq_zero (by omega)
abbrev U32s (c:Xe):Prop:=(∀ s ∈ c.Slots_,0≤s.Bits_∧s.Bits_<4294967296)∧∀ i ∈ c.List_,0≤i.Bits_∧i.Bits_<4294967296
theorem y54 {n:Nat} {c:Xe} (h:zla c):f101 n c=some (c.Sign_,c.Regs_,c.Slots_,c.List_):=by
 rw [y3r,zi h.s,zi h.r,zi h.l,zi h.i]
theorem zn4 (c:Xe):∀ (l:List Xd) (k:Nat) (s:List Bool) (o:List Xf) (r:List Bool×List Xf),goR c l k s o = .inr r→∀ i ∈ l,fits c i=true
 | [],_,_,_,_,_,i,hi=>by cases hi
 | j::l,k,s,o,r,h,i,hi=>by
  simp only [goR] at h
  cases hs:z44 c j s o with
  | false=>rw [hs] at h; cases h
  | true =>
   rw [hs,cond_true] at h
   rcases List.mem_cons.1 hi with rfl | hi
   ·unfold z44 at hs
    simp only [Bool.and_eq_true] at hs
    exact hs.1
   ·exact zn4 c l _ _ _ r h i hi
def Byt (l:List Int):Prop:=∀ b ∈ l,0≤b∧b<256
theorem zt (s:ByteArray):(bytesOf s).length=s.size:=by simp [bytesOf]
theorem z2k (s:ByteArray):Byt (bytesOf s):=fun b hb=>by
 obtain ⟨u,_,rfl⟩:=List.mem_map.1 hb
 have:=u.toNat_lt
 omega
theorem zco (l:List Int):(z1m l).data.toList=l.map fun n=>UInt8.ofNat n.toNat:=by
 have:∀ (l:List Int) (r:ByteArray),(l.foldl (fun r n=>r.push (UInt8.ofNat n.toNat)) r).data.toList=r.data.toList++l.map fun n=>UInt8.ofNat n.toNat:=by
  intro l
  induction l with
  | nil=>intro r; simp
  | cons a l ih=>intro r; rw [List.foldl_cons,ih]; simp [ByteArray.push]
 have h:=this l ByteArray.empty
 simpa [z1m] using h
theorem y5b {s t:ByteArray} (h:s.data.toList=t.data.toList):s=t:=by
 cases s; cases t
 congr 1
 exact Array.ext' h
theorem z5x {l:List Int} (h:Byt l):bytesOf (z1m l)=l:=by
 unfold bytesOf
 rw [zco,List.map_map]
 conv=>rhs; rw [← List.map_id l]
 refine List.map_congr_left fun b hb=>?_
 have:=h b hb
 simp only [Function.comp,id,UInt8.toNat_ofNat']
 omega
theorem zct (s:ByteArray):z1m (bytesOf s)=s:=by
 apply y5b
 rw [zco]
 unfold bytesOf
 rw [List.map_map]
 conv=>rhs; rw [← List.map_id s.data.toList]
 refine List.map_congr_left fun b hb=>?_
 simp
theorem zf9 {s t:ByteArray} (h:bytesOf s=bytesOf t):s=t:=by rw [← zct s,h,zct]
theorem z71 (l:List Int):(z1m l).size=l.length:=by
 have:=congrArg List.length (zco l)
 simpa using this
theorem z3g (s:ByteArray) (a b:Nat):bytesOf (s.extract a b)=((bytesOf s).take b).drop a:=by
 simp [bytesOf,ByteArray.data_extract,List.map_drop,List.map_take,List.extract_eq_take_drop,List.drop_take]
theorem z8c {s:ByteArray} {i:Nat} (h:i<(bytesOf s).length):zb s (i:Int)=(bytesOf s)[i]:=by
 have h2:i<s.data.toList.length:=by simpa [bytesOf] using h
 simp only [zb,bytesOf,Int.toNat_natCast,List.getElem_map]
 rw [List.getD_eq_getElem?_getD,List.getElem?_eq_getElem h2]
 rfl
theorem zb2 {α:Type} {l:List α} {i:Nat} (h:i<l.length):idx l (i:Int)=some l[i]:=by
 unfold idx
 rw [if_pos (by omega),Int.toNat_natCast,List.getElem?_eq_getElem h]
theorem z1r {i:Nat} (h:i<9223372036854775806):IntKind.i64.wrap ((i:Int)+1)=((i+1:Nat):Int):=by
 rw [z61 (by omega) (by omega)]; omega
theorem z50 {α S T R St:Type} (xs:List α) (hm:xs.length<9223372036854775806) (mk:Int→S→St) (P:Nat→S→Prop) (g:S→α→S) (out:S→T) (body:St→Option (Bo St T R))
  (hgo:∀ (i:Nat) (h:i<xs.length) (s:S),P i s→body (mk i s)=some (.go (mk (IntKind.i64.wrap ((i:Int)+1)) (g s xs[i])))∧P (i+1) (g s xs[i])) (hend:∀ s,P xs.length s→body (mk xs.length s)=some (.out (out s))) :
  ∀ (k i:Nat) (s:S) (fuel:Nat),i+k=xs.length→k<fuel→P i s→iter body fuel (mk i s)=some (.out (out ((xs.drop i).foldl g s)))∧P xs.length ((xs.drop i).foldl g s)
 | 0,i,s,fuel+1,h,hf,hp=>by
  obtain rfl:i=xs.length:=by omega
  rw [List.drop_length,List.foldl_nil]
  exact ⟨by simp only [iter,hend s hp],hp⟩
 | k+1,i,s,fuel+1,h,hf,hp=>by
  have hi:i<xs.length:=by omega
  rw [List.drop_eq_getElem_cons hi]
  obtain ⟨h1,h2⟩:=hgo i hi s hp
  rw [z1r (by omega)] at h1
  simp only [iter,h1,List.foldl_cons]
  exact z50 xs hm mk P g out body hgo hend k (i+1) _ fuel (by omega) (by omega) h2
def bs (c:BitVec 64):BitVec 64:=bif c.getLsbD 0 then (c >>> 1) ^^^ 14514072000185962306#64 else c >>> 1
def bs8 (c:BitVec 64):BitVec 64:=bs (bs (bs (bs (bs (bs (bs (bs c)))))))
def bb (c:BitVec 64) (b:Int):BitVec 64:=bs8 (c ^^^ BitVec.ofInt 64 b)
def crc0 (l:List Int):BitVec 64:=l.foldl bb (18446744073709551615#64)
def crcL (l:List Int):Int:=((~~~ crc0 l).toNat:Int)
theorem y4i (c:BitVec 64):c.getLsbD 0=(c.toNat % 2==1):=by
 rw [BitVec.getLsbD,Nat.testBit_zero]
 by_cases h:c.toNat % 2=1 <;> simp [h]
theorem ofI (c:BitVec 64):BitVec.ofInt IntKind.u64.bits (c.toNat:Int)=c:=by
 show BitVec.ofInt 64 (c.toNat:Int)=c
 rw [BitVec.ofInt_natCast]; simp
theorem y3f (c:BitVec 64):IntKind.u64.wrap (c.toNat:Int)=(c.toNat:Int):=z2n (by omega) (by have:=c.isLt; omega)
theorem half (c:BitVec 64):(c.toNat:Int).fdiv (2 ^ min (1:Int).toNat IntKind.u64.bits)=((c >>> 1).toNat:Int):=by
 show (c.toNat:Int).fdiv 2=_
 rw [Int.fdiv_eq_ediv_of_nonneg _ (by decide),BitVec.toNat_ushiftRight,Nat.shiftRight_eq_div_pow]
 omega
theorem y5d (c:BitVec 64):(bs c).toNat=if c.toNat % 2=1 then ((c >>> 1) ^^^ 14514072000185962306#64).toNat else (c >>> 1).toNat:=by
 unfold bs
 rw [y4i]
 by_cases h:c.toNat % 2=1
 ·simp [h]
 ·have:(c.toNat % 2==1)=false:=by simpa using h
  rw [this,cond_false,if_neg h]
theorem xorB (x y:Int):IntKind.u64.wrap (BitVec.ofInt IntKind.u64.bits x ^^^ BitVec.ofInt IntKind.u64.bits y).toNat=((BitVec.ofInt 64 x ^^^ BitVec.ofInt 64 y).toNat:Int):=y3f (BitVec.ofInt 64 x ^^^ BitVec.ofInt 64 y)
theorem ofI' (c:BitVec 64):BitVec.ofInt 64 (c.toNat:Int)=c:=ofI c
theorem yb9 {body:Int×Int→Option (Bo (Yaa) (Yaa) Empty)} (h:∀ (c:BitVec 64) (k:Nat),k<8→body ((c.toNat:Int),(k:Int))=some (.go (((bs c).toNat:Int),((k+1:Nat):Int)))) (he:∀ c:BitVec 64,body ((c.toNat:Int),((8:Nat):Int))=some (.out ((c.toNat:Int),8))) {n:Nat} (hn:10≤n) (c:BitVec 64) :
  iter body n ((c.toNat:Int),0)=some (.out (((bs8 c).toNat:Int),8)):=by
 obtain ⟨m,rfl⟩:∃ m,n=m+9:=⟨n - 9,by omega⟩
 have h0:=h c 0 (by omega)
 simp only [Int.natCast_zero] at h0
 simp only [iter,h0,h _ 1 (by omega),h _ 2 (by omega),h _ 3 (by omega),h _ 4 (by omega),h _ 5 (by omega),h _ 6 (by omega),h _ 7 (by omega),he,bs8]
theorem zrr {n:Nat} {x:ByteArray} {v1:Unit} {q1:Int×Int} {v2:Unit} (c:BitVec 64) (k:Nat) (hk:k<8):ze6 n x v1 q1 v2 ((c.toNat:Int),(k:Int))=some (.go (((bs c).toNat:Int),((k+1:Nat):Int))):=by
 rw [zgz,z1r (by omega),half,xorB,ofI']
 have e1:decide ((k:Int)<8)=true:=by simp; omega
 have e2:(IntKind.u64.wrap (BitVec.ofInt IntKind.u64.bits (c.toNat:Int) &&& BitVec.ofInt IntKind.u64.bits 1).toNat==1)=(c.toNat % 2==1):=by
  have:=zrj (c.toNat:Int) 1 (by decide) (by omega) (by have:=c.isLt; omega)
  have e:((2 ^ 1 - 1:Nat):Int)=1:=rfl
  rw [e] at this
  rw [this,Int.toNat_natCast,z2n (by omega) (by omega)]
  by_cases h:c.toNat % 2=1
  ·have h':c.toNat % 2 ^ 1=1:=h
   simp only [h,h']; rfl
  ·have:(c.toNat % 2==1)=false:=by simpa using h
   rw [this]
   have h':c.toNat % 2 ^ 1=0:=by omega
   simp only [h']; rfl
 have e3:(BitVec.ofInt 64 14514072000185962306)=14514072000185962306#64:=rfl
 rw [e1,cond_true,e2,e3,y5d]
 by_cases h:c.toNat % 2=1
 ·simp [h]
 ·have:(c.toNat % 2==1)=false:=by simpa using h
  rw [this,cond_false,if_neg h]
theorem zoj {n:Nat} {x:ByteArray} {v1:Unit} {q1:Int×Int} {v2:Unit} (c:BitVec 64):ze6 n x v1 q1 v2 ((c.toNat:Int),((8:Nat):Int))=some (.out ((c.toNat:Int),8)):=by
 rw [zgz]; rfl
theorem y99 (c:BitVec 64):cmpl .u64 (c.toNat:Int)=((~~~ c).toNat:Int):=by
 unfold cmpl
 rw [ofI]
 have:BitVec.ofInt IntKind.u64.bits (if IntKind.u64.signed then -1 else IntKind.u64.max)=18446744073709551615#64:=rfl
 rw [this]
 have e:(18446744073709551615#64 ^^^ c) = ~~~ c:=by
  rw [show (18446744073709551615#64:BitVec 64)=BitVec.allOnes 64 from rfl,BitVec.xor_comm,BitVec.xor_allOnes]
 have e2:((18446744073709551615#64 ^^^ c:BitVec 64).toNat)=(~~~ c).toNat:=by rw [e]
 exact (congrArg (fun k:Nat=>IntKind.u64.wrap (k:Int)) e2).trans (y3f _)
theorem zoz {n:Nat} {x:ByteArray} (hx:x.size<9223372036854775000) (hn:x.size+10<n):f199 n x=some (crcL (bytesOf x)):=by
 rw [y3s]
 have hl:=zt x
 have:=(z50 (bytesOf x) (by omega) (fun i (c:BitVec 64)=>((c.toNat:Int),i)) (fun _ _=>True) bb (fun c=>((c.toNat:Int),((bytesOf x).length:Int))) (zip n x ()) (R:=Empty) (fun i hi c _=>⟨by
  rw [zgy]
  have e1:decide ((i:Int)<((bytesOf x).length:Int))=true:=by simp; omega
  have hb:=z2k x _ (List.getElem_mem hi)
  rw [e1,cond_true]
  simp only [zb2 hi,Option.bind_some]
  rw [z2n hb.1 (by omega),xorB,ofI',yb9 zrr zoj (by omega)]
  rfl,trivial⟩) (fun c _=>by
  rw [zgy]
  have e1:decide (((bytesOf x).length:Int)<((bytesOf x).length:Int))=false:=by simp
  simp only [e1,cond_false]) (bytesOf x).length 0 (18446744073709551615#64) n (by omega) (by omega) trivial).1
 have e0:((18446744073709551615#64).toNat:Int)=18446744073709551615:=rfl
 simp only [Int.natCast_zero,e0] at this
 rw [this]
 simp only [Option.bind_some,Bo.then,y99,List.drop_zero]
 rfl
def numN (v:Nat):List Int:=if h:v<128 then [(v:Int)] else ((v % 128+128:Nat):Int)::numN (v / 128)
termination_by v
decreasing_by omega
def num (v:Int):List Int:=if v<128 then [IntKind.u8.wrap v] else numN v.toNat
theorem zbe (x:Int):IntKind.u8.wrap x=x % 256:=by simp [IntKind.wrap,IntKind.bits,IntKind.signed]
theorem zif (x:Int):0≤IntKind.u8.wrap x∧IntKind.u8.wrap x<256:=by rw [zbe]; omega
theorem zbf {x:Int} (h0:0≤x) (h1:x<256):IntKind.u8.wrap x=x:=by rw [zbe]; omega
theorem z39 {v:Nat} (h:v<128):numN v=[(v:Int)]:=by rw [numN,dif_pos h]
theorem zch {v:Nat} (h:¬ v<128):numN v=((v % 128+128:Nat):Int)::numN (v / 128):=by rw [numN,dif_neg h]
theorem y4k (v:Nat):num (v:Int)=numN v:=by
 unfold num
 split
 ·rw [z39 (by omega),zbf (by omega) (by omega)]
 ·rw [Int.toNat_natCast]
theorem zg1:∀ (f v:Nat),v<128 ^ (f+1)→(numN v).length≤f+1
 | 0,v,h=>by rw [z39 (by omega)]; simp
 | f+1,v,h=>by
  by_cases hv:v<128
  ·rw [z39 hv]; simp
  ·rw [zch hv,List.length_cons]
   have:=zg1 f (v / 128) (by rw [Nat.pow_succ] at h; omega)
   omega
theorem z41 {v:Int} (h:v<9223372036854775808):(num v).length≤10:=by
 unfold num
 split
 ·simp
 ·exact zg1 9 v.toNat (by have:(128:Nat) ^ (9+1)=1180591620717411303424:=rfl; omega)
theorem znm:∀ (f v:Nat),v<128 ^ (f+1)→Byt (numN v)
 | 0,v,h=>by rw [z39 (by omega)]; intro b hb; simp at hb; omega
 | f+1,v,h=>by
  by_cases hv:v<128
  ·rw [z39 hv]; intro b hb; simp at hb; omega
  ·rw [zch hv]
   have:=znm f (v / 128) (by rw [Nat.pow_succ] at h; omega)
   intro b hb
   rcases List.mem_cons.1 hb with rfl | hb
   ·omega
   ·exact this b hb
theorem z5g {v:Int} (h:v<9223372036854775808):Byt (num v):=by
 unfold num
 split
 ·intro b hb; simp at hb; rw [hb]; exact zif v
 ·exact znm 9 v.toNat (by have:(128:Nat) ^ (9+1)=1180591620717411303424:=rfl; omega)
theorem ybb:∀ b:BitVec 8,(b ||| 128#8).toNat=b.toNat % 128+128:=by decide
theorem y8m (v:Int) (hv:0≤v):IntKind.u8.wrap ((BitVec.ofInt IntKind.u8.bits (IntKind.u8.wrap v) ||| BitVec.ofInt IntKind.u8.bits 128).toNat:Int)=((v.toNat % 128+128:Nat):Int):=by
 have h:=ybb (BitVec.ofInt 8 (IntKind.u8.wrap v))
 have e:((BitVec.ofInt IntKind.u8.bits (IntKind.u8.wrap v) ||| BitVec.ofInt IntKind.u8.bits 128).toNat)=(BitVec.ofInt 8 (IntKind.u8.wrap v) ||| 128#8).toNat:=rfl
 rw [e,h]
 have e2:(BitVec.ofInt 8 (IntKind.u8.wrap v)).toNat=v.toNat % 256:=by
  rw [BitVec.toNat_ofInt,zbe]; omega
 rw [e2,zbe]
 omega
theorem shr7 (v:Int) (hv:0≤v):v.fdiv (2 ^ min (7:Int).toNat IntKind.i64.bits)=((v.toNat / 128:Nat):Int):=by
 show v.fdiv 128=_
 rw [Int.fdiv_eq_ediv_of_nonneg _ (by decide)]; omega
theorem zjo {n:Nat} {x:List Int×Int}:∀ (f v m:Nat) (l:List Int),v<128 ^ (f+1)→l.length+f+2≤140737488355328 →
  ∃ w:Nat,∃ l',iter (ziq n x ()) (f+1+m) ((v:Int),l)=some (.out ((w:Int),l'))∧l'++[(w:Int)]=l++numN v∧w<128
 | 0,v,m,l,h,hl=>by
  refine ⟨v,l,?_,by rw [z39 (by omega)],by omega⟩
  have e:decide ((v:Int)≥128)=false:=by simp; omega
  rw [show 0+1+m=m+1 by omega,iter,z8i]
  simp only [e,cond_false]
 | f+1,v,m,l,h,hl=>by
  by_cases hv:v<128
  ·refine ⟨v,l,?_,by rw [z39 hv],hv⟩
   have e:decide ((v:Int)≥128)=false:=by simp; omega
   rw [show f+1+1+m=(f+1+m)+1 by omega,iter,z8i]
   simp only [e,cond_false]
  ·obtain ⟨w,l',h1,h2,h3⟩:=zjo (n:=n) (x:=x) f (v / 128) m (l++[((v % 128+128:Nat):Int)]) (by rw [Nat.pow_succ] at h; omega) (by simp; omega)
   refine ⟨w,l',?_,by rw [h2,zch hv]; simp,h3⟩
   have e:decide ((v:Int)≥128)=true:=by simp; omega
   rw [show f+1+1+m=(f+1+m)+1 by omega,iter,z8i]
   simp only [e,cond_true]
   rw [zi (by simp; omega),y8m _ (by omega),shr7 _ (by omega),Int.toNat_natCast]
   exact h1
theorem z5c {n:Nat} {l:List Int} {v:Int} (hn:20≤n) (hv:v<9223372036854775808) (hl:l.length+20≤140737488355328):f217 n (l,v)=some (l++num v):=by
 rw [y3w]
 unfold num
 split
 ·rename_i h
  have e:decide (v≥128)=false:=by simp; omega
  obtain ⟨m,rfl⟩:∃ m,n=m+1:=⟨n - 1,by omega⟩
  rw [iter,z8i]
  simp only [e,cond_false,Option.bind_some,Bo.then]
  rw [zi (by simp; omega)]
 ·rename_i h
  obtain ⟨k,rfl⟩:∃ k:Nat,v=k:=⟨v.toNat,by omega⟩
  obtain ⟨w,l',h1,h2,h3⟩:=zjo (n:=n) (x:=(l,(k:Int))) 9 k (n - 10) l (by have:(128:Nat) ^ (9+1)=1180591620717411303424:=rfl; omega) (by omega)
  rw [show 9+1+(n - 10)=n by omega] at h1
  rw [h1]
  simp only [Option.bind_some,Bo.then]
  have hl':=congrArg List.length h2
  simp only [List.length_append,List.length_cons,List.length_nil] at hl'
  have:=zg1 9 k (by have:(128:Nat) ^ (9+1)=1180591620717411303424:=rfl; omega)
  rw [zi (by simp; omega),zbf (by omega) (by omega),h2,Int.toNat_natCast]
def low (v:Int) (k:Nat):List Int:=(List.range k).map fun i=>IntKind.u8.wrap (v.fdiv (2 ^ (8 * i)))
theorem z5f (v:Int) (k:Nat):(low v k).length=k:=by simp [low]
theorem zb6 (v:Int) (k:Nat):Byt (low v k):=fun b hb=>by
 obtain ⟨i,_,rfl⟩:=List.mem_map.1 hb
 exact zif _
theorem znf (v:Int) (k:Nat):low v (k+1)=low v k++[IntKind.u8.wrap (v.fdiv (2 ^ (8 * k)))]:=by simp [low,List.range_succ]
theorem w8 {i:Nat} (h:i<8):IntKind.i64.wrap (8 * (i:Int))=((8 * i:Nat):Int):=by rw [z61 (by omega) (by omega)]; omega
theorem zne {v:Int} {k:Nat} (hk:k≤8) {l:List Int} {body:Int×List Int→Option (Bo (Int×List Int) (Int×List Int) Empty)}
  (hb:∀ (i:Nat) (m:List Int),i<k→m.length≤l.length+i→body ((i:Int),m)=some (.go (((i+1:Nat):Int),m++[IntKind.u8.wrap (v.fdiv (2 ^ (8 * i)))]))) (he:∀ m,body ((k:Int),m)=some (.out ((k:Int),m))) :
  ∀ (j i n:Nat),i+j=k→j<n→iter body n ((i:Int),l++low v i)=some (.out ((k:Int),l++low v k))
 | 0,i,n+1,h,hn=>by
  obtain rfl:i=k:=by omega
  rw [iter,he]
 | j+1,i,n+1,h,hn=>by
  rw [iter,hb i _ (by omega) (by rw [List.length_append,z5f]; omega),List.append_assoc,← znf]
  exact zne hk hb he j (i+1) n (by omega) (by omega)
theorem y8u (v:Int) (i:Nat) (hi:i<8):v.fdiv (2 ^ min ((8 * i:Nat):Int).toNat IntKind.u64.bits)=v.fdiv (2 ^ (8 * i)):=by
 rw [Int.toNat_natCast,show min (8 * i) IntKind.u64.bits=8 * i from Nat.min_eq_left (by show 8 * i≤64; omega)]
theorem zis {n:Nat} {l:List Int} {v:Int} {k:Nat} (hk:k≤8) (hn:20≤n) (hl:l.length+20≤140737488355328):f219 n (l,v,(k:Int))=some (l++low v k):=by
 rw [y3y]
 have:=zne (v:=v) hk (l:=l) (body:=zir n (l,v,(k:Int)) ()) (fun i m hi hm=>by
  rw [zh5]
  have e:decide ((i:Int)<(k:Int))=true:=by simp; omega
  simp only [e,cond_true,w8 (show i<8 by omega),z1r (show i<9223372036854775806 by omega),y8u v i (by omega)]
  rw [zi (by omega),zi (by simp; omega)]) (fun m=>by
  rw [zh5]
  have e:decide ((k:Int)<(k:Int))=false:=by simp
  simp only [e,cond_false]) k 0 n (by omega) (by omega)
 have e0:low v 0=[]:=rfl
 rw [e0,List.append_nil] at this
 rw [show ((0:Nat):Int)=0 from rfl] at this
 rw [this]; rfl
def off (op:Int):List Nat:=match rowD op with
 | some r=>(bif r.d==0 then [] else [1])++((bif r.a==0 then [] else [2])++((bif r.b==0 then [] else [3])++((bif r.c==0 then [] else [4])++(bif r.n==0 then [] else [5]))))
 | none=>[]
def fv (i:Xd) (k:Nat):Int:=if k=1 then i.D_ else if k=2 then i.A_ else if k=3 then i.B_ else if k=4 then i.C_ else i.N_
theorem zzn {op:Int} (h:∀ k:Int,1≤k→k≤37→(op==k)=false):off op=[]:=by simp only [off,z31 h]
theorem zdm (op:Int):∀ k ∈ off op,1≤k∧k≤5:=by
 unfold off
 split
 ·rename_i r _
  intro k hk
  have one:∀ (b:Bool) (j:Nat),k ∈ (bif b then [] else [j])→k=j:=fun b j h=>by
   cases b
   ·exact List.mem_singleton.1 h
   ·exact nomatch h
  simp only [List.mem_append] at hk
  rcases hk with h | h | h | h | h <;> have:=one _ _ h <;> omega
 ·simp
theorem zes (op:Int):(off op).length≤5:=by
 unfold off
 split
 ·rename_i r _
  cases r.d==0 <;> cases r.a==0 <;> cases r.b==0 <;> cases r.c==0 <;> cases r.n==0 <;> simp
 ·simp
theorem zz2 (n:Nat) (x:Ycj):f220 n x=(ztb n (0,x)).map fun l=>(l.map (·.off),x):=rfl
theorem zp1 (m:Nat) (x:Ycj):f220 (m+4) x=some (off x.1,x):=by
 obtain ⟨op,d,a,b,c,N,bits⟩:=x
 rcases z54 op with (rfl | rfl | rfl | rfl | rfl | rfl | rfl | rfl | rfl | rfl | rfl | rfl | rfl | rfl | rfl | rfl | rfl | rfl | rfl | rfl | rfl | rfl | rfl | rfl | rfl | rfl | rfl | rfl | rfl | rfl | rfl | rfl | rfl | rfl | rfl | rfl | rfl) | h
 iterate 37 (· kernel_rfl)
 rw [zz2,ztc,zm6,zru,y3t]
 have hs:sets ⟨op,d,a,b,c,N,bits⟩=false:=by simp only [sets,z31 h]
 have hr:z1n ⟨op,d,a,b,c,N,bits⟩=[]:=by simp only [z1n,z31 h]
 simp only [hs,hr,zzn h,h 2 (by decide) (by decide),h 29 (by decide) (by decide),h 30 (by decide) (by decide),h 31 (by decide) (by decide),h 32 (by decide) (by decide),h 33 (by decide) (by decide),h 36 (by decide) (by decide),cond_false,Option.bind_some,orRet_inl]
 rfl
def typB (t:Xb):List Int:=IntKind.u8.wrap t.Kind_::(bif t.Kind_==3 then num t.Param_ else [])
def fldB (i:Xd):List Int:=(off i.Op_).flatMap fun k=>num (fv i k)
def z4q (i:Xd):List Int:=IntKind.u8.wrap i.Op_::(fldB i++(bif i.Op_==1 then low (IntKind.u64.wrap i.Bits_) 4 else []))
abbrev LIM:Int:=9223372036854775808
structure z2b (i:Xd):Prop where
 d:i.D_<LIM
 a:i.A_<LIM
 b:i.B_<LIM
 c:i.C_<LIM
 n:i.N_<LIM
theorem z2b.fv {i:Xd} (h:z2b i) (k:Nat):fv i k<LIM:=by
 unfold Loom.fv
 split
 ·exact h.d
 ·split
  ·exact h.a
  ·split
   ·exact h.b
   ·split
    ·exact h.c
    ·exact h.n
theorem zcq {t:Xb} (h:t.Param_<LIM):(typB t).length≤11:=by
 unfold typB
 cases t.Kind_==3
 ·simp
 ·have:=z41 h; simp; omega
theorem z4m {α:Type} (f:α→List Int) (K:Nat):∀ (l:List α),(∀ x ∈ l,(f x).length≤K)→(l.flatMap f).length≤K * l.length
 | [],_=>by simp
 | x::l,h=>by
  rw [List.flatMap_cons,List.length_append,List.length_cons,Nat.mul_succ]
  have:=h x (by simp)
  have:=z4m f K l fun y hy=>h y (by simp [hy])
  omega
theorem zmy {i:Xd} (h:z2b i):(fldB i).length≤50:=by
 have:=z4m (fun k=>num (fv i k)) 10 (off i.Op_) fun k _=>z41 (h.fv k)
 have:=zes i.Op_
 unfold fldB; omega
theorem zki {i:Xd} (h:z2b i):(z4q i).length≤55:=by
 have:=zmy h
 unfold z4q
 cases i.Op_==1 <;> simp [z5f] <;> omega
theorem z5s {α:Type} {f:α→List Int} {l:List α} (h:∀ x ∈ l,Byt (f x)):Byt (l.flatMap f):=fun b hb=>by
 obtain ⟨x,hx,hb⟩:=List.mem_flatMap.1 hb
 exact h x hx b hb
theorem Byt.app {a b:List Int} (ha:Byt a) (hb:Byt b):Byt (a++b):=fun x hx=>(List.mem_append.1 hx).elim (ha x) (hb x)
theorem Byt.cons {a:Int} {b:List Int} (ha:0≤a∧a<256) (hb:Byt b):Byt (a::b):=fun x hx=>(List.mem_cons.1 hx).elim (fun e=>e ▸ ha) (hb x)
theorem Byt.nil:Byt []:=fun _ h=>nomatch h
theorem zo8 {t:Xb} (h:t.Param_<LIM):Byt (typB t):=by
 refine Byt.cons (zif _) ?_
 cases t.Kind_==3
 ·exact Byt.nil
 ·exact z5g h
theorem zxf {i:Xd} (h:z2b i):Byt (z4q i):=by
 refine Byt.cons (zif _) (Byt.app (z5s fun k _=>z5g (h.fv k)) ?_)
 cases i.Op_==1
 ·exact Byt.nil
 ·exact zb6 _ _
abbrev MAXB:Nat:=140737488355328
theorem zp0 {n:Nat} {l:List Int} {t:Xb} (hn:20≤n) (ht:t.Param_<LIM) (hl:l.length+30≤MAXB):f218 n (l,t)=some (l++typB t):=by
 have hl:l.length+30≤140737488355328:=hl
 rw [y3x,zi (by simp; omega)]
 unfold typB
 cases t.Kind_==3 with
 | false=>rfl
 | true =>
  simp only [cond_true]
  rw [z5c hn ht (by simp; omega)]
  simp
theorem y4r (i:Xd) {k:Nat} (h:1≤k∧k≤5):z33 [some i.Op_,some i.D_,some i.A_,some i.B_,some i.C_,some i.N_,none] k=some (fv i k):=by
 have:k=1∨k=2∨k=3∨k=4∨k=5:=by omega
 rcases this with rfl | rfl | rfl | rfl | rfl <;> rfl
theorem z6b {α:Type} (f:α→List Int):∀ (l:List α) (a:List Int),l.foldl (fun s x=>s++f x) a=a++l.flatMap f
 | [],a=>by simp
 | x::l,a=>by rw [List.foldl_cons,z6b f l,List.flatMap_cons,List.append_assoc]
theorem zm7 {n:Nat} {x:Xe} {v4:Unit} {q4:Int×List Int} {i:Xd} {l:List Int} (hn:20≤n) (hi:z2b i) (hl:l.length+100≤MAXB) :
  iter (zeb n x v4 q4 (off i.Op_,((off i.Op_).length:Int),i.Op_,i.D_,i.A_,i.B_,i.C_,i.N_,i.Bits_)) n ((0:Int),l)=some (.out (((off i.Op_).length:Int),l++fldB i)):=by
 have h5:=zes i.Op_
 have hl:l.length+100≤140737488355328:=hl
 have:=(z50 (off i.Op_) (by omega) (fun (j:Int) (s:List Int)=>(j,s)) (fun j s=>s.length≤l.length+10 * j) (fun s k=>s++num (fv i k)) (fun s=>(((off i.Op_).length:Int),s)) (zeb n x v4 q4 (off i.Op_,((off i.Op_).length:Int),i.Op_,i.D_,i.A_,i.B_,i.C_,i.N_,i.Bits_)) (R:=Empty) (fun j hj s hs=>by
  have hb:=z41 (hi.fv ((off i.Op_)[j]))
  refine ⟨?_,by rw [List.length_append]; omega⟩
  rw [zh4]
  have e:decide ((j:Int)<((off i.Op_).length:Int))=true:=by simp; omega
  simp only [e,cond_true,Int.toNat_natCast,List.getElem?_eq_getElem hj]
  rw [zi (by omega)]
  simp only [Option.bind_some,y4r i (zdm i.Op_ _ (List.getElem_mem hj))]
  rw [z5c hn (hi.fv _) (by omega)]
  rfl) (fun s _=>by
  rw [zh4]
  have e:decide (((off i.Op_).length:Int)<((off i.Op_).length:Int))=false:=by simp
  simp only [e,cond_false]) (off i.Op_).length 0 l n (by omega) (by omega) (by omega)).1
 rw [show ((0:Nat):Int)=0 from rfl] at this
 rw [this,List.drop_zero,z6b]
 rfl
def parB (p:Xa):List Int:=IntKind.u8.wrap p.Kind_::(num (p.Name_.size:Int)++(bytesOf p.Name_++num p.Len_))
def z4s (s:Xc):List Int:=(bif s.Keep_ then 1 else 0)::(typB s.Type_++(bif s.Type_.Kind_==2 then num s.Int_ else low (IntKind.u64.wrap s.Bits_) 4))
def z3k (c:Xe):List Int :=
 [108,116,104,49]++num (c.Sign_.length:Int)++c.Sign_.flatMap parB++num (c.Regs_.length:Int)++c.Regs_.flatMap typB++num (c.Slots_.length:Int)++c.Slots_.flatMap z4s++num (c.List_.length:Int)++c.List_.flatMap z4q
def bytC (c:Xe):List Int:=z3k c++low (crcL (z3k c)) 8
structure zl8 (p:Xa):Prop where
 name:p.Name_.size≤64
 len:p.Len_<LIM
structure zgc (x:Xc):Prop where
 par:x.Type_.Param_<LIM
 int:x.Int_<LIM
structure z4t (c:Xe):Prop where
 sl:c.Sign_.length≤64
 rl:c.Regs_.length≤16384
 ol:c.Slots_.length≤4096
 ll:c.List_.length≤32768
 s:∀ p ∈ c.Sign_,zl8 p
 r:∀ t ∈ c.Regs_,t.Param_<LIM
 o:∀ x ∈ c.Slots_,zgc x
 l:∀ i ∈ c.List_,z2b i
theorem z1q {k:Nat} (h:k≤1000000):(k:Int)<LIM:=by show (k:Int)<9223372036854775808; omega
theorem znn {p:Xa} (h:zl8 p):(parB p).length≤85:=by
 have h1:=z41 (z1q (show p.Name_.size≤1000000 by have:=h.name; omega))
 have h2:=z41 h.len
 have h3:=zt p.Name_
 have:=h.name
 simp [parB]; omega
theorem zkw {x:Xc} (h:zgc x):(z4s x).length≤25:=by
 have h1:=zcq h.par
 have h2:=z41 h.int
 unfold z4s
 cases x.Type_.Kind_==2 <;> simp [z5f] <;> omega
theorem zzo {p:Xa} (h:zl8 p):Byt (parB p) :=
 Byt.cons (zif _) (Byt.app (z5g (z1q (show p.Name_.size≤1000000 by have:=h.name; omega))) (Byt.app (z2k _) (z5g h.len)))
theorem zy2 {x:Xc} (h:zgc x):Byt (z4s x):=by
 refine Byt.cons (by cases x.Keep_ <;> simp) (Byt.app (zo8 h.par) ?_)
 cases x.Type_.Kind_==2
 ·exact zb6 _ _
 ·exact z5g h.int
theorem zjj {c:Xe} (h:z4t c):Byt (z3k c):=by
 have k1:=z1q (show c.Sign_.length≤1000000 by have:=h.sl; omega)
 have k2:=z1q (show c.Regs_.length≤1000000 by have:=h.rl; omega)
 have k3:=z1q (show c.Slots_.length≤1000000 by have:=h.ol; omega)
 have k4:=z1q (show c.List_.length≤1000000 by have:=h.ll; omega)
 have hm:Byt [108,116,104,49]:=fun b hb=>by simp at hb; omega
 exact (((((((hm.app (z5g k1)).app (z5s fun p hp=>zzo (h.s p hp))).app (z5g k2)).app (z5s fun t ht=>zo8 (h.r t ht))).app (z5g k3)).app (z5s fun x hx=>zy2 (h.o x hx))).app (z5g k4)).app (z5s fun i hi=>zxf (h.l i hi))
theorem y60 {n:Nat} {c:Xe} {l:List Int} (hn:100000<n) (h:z4t c) (hl:l.length≤10000000):iter (ze7 n c ()) n ((0:Int),l)=some (.out ((c.Sign_.length:Int),l++c.Sign_.flatMap parB)):=by
 have hsl:=h.sl
 have:=(z50 c.Sign_ (by omega) (fun (j:Int) (s:List Int)=>(j,s)) (fun j s=>s.length≤l.length+85 * j) (fun s p=>s++parB p) (fun s=>((c.Sign_.length:Int),s)) (ze7 n c ()) (R:=Empty) (fun j hj s hs=>by
  have hp:=h.s _ (List.getElem_mem hj)
  have hb:=znn hp
  refine ⟨?_,by rw [List.length_append]; omega⟩
  have k1:=z1q (show c.Sign_[j].Name_.size≤1000000 by have:=hp.name; omega)
  have k2:=z41 k1
  have k3:=zt c.Sign_[j].Name_
  have k4:=hp.name
  rw [zh0]
  have e:decide ((j:Int)<(c.Sign_.length:Int))=true:=by simp; omega
  simp only [e,cond_true,zb2 hj,Option.bind_some]
  rw [zi (by simp; omega),z5c (by omega) k1 (by simp; omega)]
  simp only [Option.bind_some]
  rw [zi (by simp; omega),z5c (by omega) hp.len (by simp; omega)]
  simp [parB]) (fun s _=>by
  rw [zh0]
  have e:decide ((c.Sign_.length:Int)<(c.Sign_.length:Int))=false:=by simp
  simp only [e,cond_false]) c.Sign_.length 0 l n (by omega) (by omega) (by omega)).1
 rw [show ((0:Nat):Int)=0 from rfl] at this
 rw [this,List.drop_zero,z6b]
theorem y5z {n:Nat} {c:Xe} {l:List Int} (hn:100000<n) (h:z4t c) (hl:l.length≤10000000):iter (ze8 n c ()) n ((0:Int),l)=some (.out ((c.Regs_.length:Int),l++c.Regs_.flatMap typB)):=by
 have hsl:=h.rl
 have:=(z50 c.Regs_ (by omega) (fun (j:Int) (s:List Int)=>(j,s)) (fun j s=>s.length≤l.length+11 * j) (fun s p=>s++typB p) (fun s=>((c.Regs_.length:Int),s)) (ze8 n c ()) (R:=Empty) (fun j hj s hs=>by
  have hp:=h.r _ (List.getElem_mem hj)
  have hb:=zcq hp
  refine ⟨?_,by rw [List.length_append]; omega⟩
  rw [zh1]
  have e:decide ((j:Int)<(c.Regs_.length:Int))=true:=by simp; omega
  simp only [e,cond_true,zb2 hj,Option.bind_some]
  rw [zp0 (by omega) hp (by show _≤140737488355328; omega)]
  rfl) (fun s _=>by
  rw [zh1]
  have e:decide ((c.Regs_.length:Int)<(c.Regs_.length:Int))=false:=by simp
  simp only [e,cond_false]) c.Regs_.length 0 l n (by omega) (by omega) (by omega)).1
 rw [show ((0:Nat):Int)=0 from rfl] at this
 rw [this,List.drop_zero,z6b]
theorem y5y {n:Nat} {c:Xe} {l:List Int} (hn:100000<n) (h:z4t c) (hl:l.length≤10000000):iter (ze9 n c ()) n ((0:Int),l)=some (.out ((c.Slots_.length:Int),l++c.Slots_.flatMap z4s)):=by
 have hsl:=h.ol
 have:=(z50 c.Slots_ (by omega) (fun (j:Int) (s:List Int)=>(j,s)) (fun j s=>s.length≤l.length+25 * j) (fun s p=>s++z4s p) (fun s=>((c.Slots_.length:Int),s)) (ze9 n c ()) (R:=Empty) (fun j hj s hs=>by
  have hp:=h.o _ (List.getElem_mem hj)
  have hb:=zkw hp
  have ht:=zcq hp.par
  refine ⟨?_,by rw [List.length_append]; omega⟩
  rw [zh2]
  have e:decide ((j:Int)<(c.Slots_.length:Int))=true:=by simp; omega
  have eT:(⟨c.Slots_[j].Type_.Kind_,c.Slots_[j].Type_.Param_⟩:Xb)=c.Slots_[j].Type_:=rfl
  have fin:∀ k:Int,(need ((s.length+([k]:List Int).length) * 1≤140737488355328) ((f218 n ((s++([k]:List Int)),(⟨c.Slots_[j].Type_.Kind_,c.Slots_[j].Type_.Param_⟩:Xb))).bind fun y13=>bif (c.Slots_[j].Type_.Kind_==2) then ((f217 n (y13,c.Slots_[j].Int_)).bind fun y14=>some (.go ((IntKind.i64.wrap ((j:Int)+1)),y14))) else ((f219 n (y13,(IntKind.u64.wrap c.Slots_[j].Bits_),4)).bind fun y15=>some (.go ((IntKind.i64.wrap ((j:Int)+1)),y15)))):Option (Bo (Int×List Int) (Int×List Int) Empty)) =
    some (.go (IntKind.i64.wrap ((j:Int)+1),s++(k::(typB c.Slots_[j].Type_++(bif c.Slots_[j].Type_.Kind_==2 then num c.Slots_[j].Int_ else low (IntKind.u64.wrap c.Slots_[j].Bits_) 4))))):=fun k=>by
   rw [zi (by simp; omega),eT,zp0 (by omega) hp.par (by show _≤140737488355328; simp; omega)]
   simp only [Option.bind_some]
   cases c.Slots_[j].Type_.Kind_==2 with
   | true =>
    simp only [cond_true]
    rw [z5c (by omega) hp.int (by simp; omega)]
    simp
   | false =>
    simp only [cond_false]
    have:=zis (n:=n) (l:=s++[k]++typB c.Slots_[j].Type_) (v:=IntKind.u64.wrap c.Slots_[j].Bits_) (k:=4) (by omega) (by omega) (by simp; omega)
    rw [show ((4:Nat):Int)=4 from rfl] at this
    rw [this]
    simp
  simp only [e,cond_true,zb2 hj,Option.bind_some]
  unfold z4s
  cases c.Slots_[j].Keep_ with
  | true =>
   simp only [cond_true,Option.bind_some,orRet_inl]
   exact fin 1
  | false =>
   simp only [cond_false,Option.bind_some,orRet_inl]
   exact fin 0) (fun s _=>by
  rw [zh2]
  have e:decide ((c.Slots_.length:Int)<(c.Slots_.length:Int))=false:=by simp
  simp only [e,cond_false]) c.Slots_.length 0 l n (by omega) (by omega) (by omega)).1
 rw [show ((0:Nat):Int)=0 from rfl] at this
 rw [this,List.drop_zero,z6b]
theorem y5x {n:Nat} {c:Xe} {l:List Int} (hn:100000<n) (h:z4t c) (hl:l.length≤10000000):iter (zea n c ()) n ((0:Int),l)=some (.out ((c.List_.length:Int),l++c.List_.flatMap z4q)):=by
 have hsl:=h.ll
 obtain ⟨m,hm⟩:∃ m,n=m+4:=⟨n - 4,by omega⟩
 have:=(z50 c.List_ (by omega) (fun (j:Int) (s:List Int)=>(j,s)) (fun j s=>s.length≤l.length+55 * j) (fun s p=>s++z4q p) (fun s=>((c.List_.length:Int),s)) (zea n c ()) (R:=Empty) (fun j hj s hs=>by
  have hp:=h.l _ (List.getElem_mem hj)
  have hb:=zki hp
  have hf:=zmy hp
  refine ⟨?_,by rw [List.length_append]; omega⟩
  rw [zh3]
  have e:decide ((j:Int)<(c.List_.length:Int))=true:=by simp; omega
  have e2:∀ x,f220 n x=some (off x.1,x):=fun x=>by rw [hm]; exact zp1 m x
  simp only [e,cond_true,zb2 hj,Option.bind_some,e2]
  rw [zi (by simp; omega),zm7 (by omega) hp (by show _≤140737488355328; simp; omega)]
  simp only [Option.bind_some,Bo.then]
  unfold z4q
  cases c.List_[j].Op_==1 with
  | true =>
   simp only [cond_true]
   have:=zis (n:=n) (l:=s++[IntKind.u8.wrap c.List_[j].Op_]++fldB c.List_[j]) (v:=IntKind.u64.wrap c.List_[j].Bits_) (k:=4) (by omega) (by omega) (by simp; omega)
   rw [show ((4:Nat):Int)=4 from rfl] at this
   rw [this]
   simp
  | false=>simp) (fun s _=>by
  rw [zh3]
  have e:decide ((c.List_.length:Int)<(c.List_.length:Int))=false:=by simp
  simp only [e,cond_false]) c.List_.length 0 l n (by omega) (by omega) (by omega)).1
 rw [show ((0:Nat):Int)=0 from rfl] at this
 rw [this,List.drop_zero,z6b]
def z6q (c:Xe):ByteArray×Int:=if (chk c).1=0 then (z1m (bytC c),0) else (⟨#[]⟩,(chk c).1)
theorem zjl {c:Xe} (h:z4t c):(c.Sign_.flatMap parB).length≤5440∧(c.Regs_.flatMap typB).length≤180224∧(c.Slots_.flatMap z4s).length≤102400∧(c.List_.flatMap z4q).length≤1802240∧(num (c.Sign_.length:Int)).length≤10∧(num (c.Regs_.length:Int)).length≤10∧(num (c.Slots_.length:Int)).length≤10∧(num (c.List_.length:Int)).length≤10:=by
 have a1:=z4m parB 85 c.Sign_ fun p hp=>znn (h.s p hp)
 have a2:=z4m typB 11 c.Regs_ fun p hp=>zcq (h.r p hp)
 have a3:=z4m z4s 25 c.Slots_ fun p hp=>zkw (h.o p hp)
 have a4:=z4m z4q 55 c.List_ fun p hp=>zki (h.l p hp)
 have:=h.sl
 have:=h.rl
 have:=h.ol
 have:=h.ll
 exact ⟨by omega,by omega,by omega,by omega,z41 (z1q (by omega)),z41 (z1q (by omega)),z41 (z1q (by omega)),z41 (z1q (by omega))⟩
theorem zjk {c:Xe} (h:z4t c):(z3k c).length≤3000000:=by
 obtain ⟨h1,h2,h3,h4,h5,h6,h7,h8⟩:=zjl h
 simp only [z3k,List.length_append,List.length_cons,List.length_nil]
 omega
theorem zt6 {l:List Int} (h:Byt l):crcL (bytesOf (z1m l))=crcL l:=by rw [z5x h]
theorem y3v {n:Nat} {c:Xe} (hn:10000000<n) (hs:∀ s ∈ c.Slots_,0≤s.Bits_∧s.Bits_<4294967296) (hb:∀ i ∈ c.List_,0≤i.Bits_∧i.Bits_<4294967296) (h:(chk c).1=0→z4t c):f216 n c=some (z6q c):=by
 rw [y3u,(zly (by omega) hs hb).1]
 unfold z6q
 simp only [Option.bind_some]
 by_cases h0:(chk c).1=0
 ·have hC:=h h0
  obtain ⟨h1,h2,h3,h4,h5,h6,h7,h8⟩:=zjl hC
  have hsl:=hC.sl
  have hrl:=hC.rl
  have hol:=hC.ol
  have hll:=hC.ll
  rw [if_pos h0,h0]
  simp only [bne_self_eq_false,cond_false]
  have hcl:=zjk hC
  have hby:=zjj hC
  rw [z5c (by omega) (z1q (by omega)) (by simp)]
  simp only [Option.bind_some]
  rw [y60 (by omega) hC (by simp only [List.length_append,List.length_cons,List.length_nil]; omega)]
  simp only [Option.bind_some,Bo.then]
  rw [z5c (by omega) (z1q (by omega)) (by simp only [List.length_append,List.length_cons,List.length_nil]; omega)]
  simp only [Option.bind_some]
  rw [y5z (by omega) hC (by simp only [List.length_append,List.length_cons,List.length_nil]; omega)]
  simp only [Option.bind_some,Bo.then]
  rw [z5c (by omega) (z1q (by omega)) (by simp only [List.length_append,List.length_cons,List.length_nil]; omega)]
  simp only [Option.bind_some]
  rw [y5y (by omega) hC (by simp only [List.length_append,List.length_cons,List.length_nil]; omega)]
  simp only [Option.bind_some,Bo.then]
  rw [z5c (by omega) (z1q (by omega)) (by simp only [List.length_append,List.length_cons,List.length_nil]; omega)]
  simp only [Option.bind_some]
  rw [y5x (by omega) hC (by simp only [List.length_append,List.length_cons,List.length_nil]; omega)]
  simp only [Option.bind_some,Bo.then]
  have e:[108,116,104,49]++num (c.Sign_.length:Int)++c.Sign_.flatMap parB++num (c.Regs_.length:Int)++c.Regs_.flatMap typB++num (c.Slots_.length:Int)++c.Slots_.flatMap z4s++num (c.List_.length:Int)++c.List_.flatMap z4q=z3k c:=rfl
  rw [e,zoz (by rw [z71]; omega) (by rw [z71]; omega),zt6 hby]
  simp only [Option.bind_some]
  have:=zis (n:=n) (l:=z3k c) (v:=crcL (z3k c)) (k:=8) (by omega) (by omega) (by omega)
  rw [show ((8:Nat):Int)=8 from rfl] at this
  rw [this]
  rfl
 ·have hb:((chk c).1 != 0)=true:=by simpa using h0
  rw [if_neg h0,hb,cond_true]
theorem zy0 {l:List Xa} (h:(sgn l != 0)=false):l.length≤64∧l.all mayP=true:=by
 unfold sgn at h
 cases h1:decide ((l.length:Int) > 64) with
 | true=>rw [h1,cond_true] at h; exact absurd h (by decide)
 | false =>
  rw [h1,cond_false] at h
  simp only [decide_eq_false_iff_not] at h1
  refine ⟨by omega,?_⟩
  cases h2:l.all mayP with
  | true=>rfl
  | false=>rw [h2,cond_false] at h; exact absurd h (by decide)
theorem zqt {p:Xa} (h:mayP p=true):p.Name_.size≤64∧(p.Kind_=1∨p.Kind_=2)∧1≤p.Len_∧p.Len_≤4096:=by
 unfold mayP z7v at h
 simp only [Bool.and_eq_true,Bool.not_eq_true',Bool.or_eq_false_iff,decide_eq_false_iff_not,Bool.or_eq_true,beq_iff_eq,decide_eq_true_eq] at h
 obtain ⟨⟨⟨_,h1⟩,_⟩,h2,h3,h4⟩:=h
 exact ⟨by omega,h2,h3,h4⟩
theorem zqu {l:List Xa} {s:Xc} (h:mayS l s=true):mayT l s.Type_=true∧((s.Type_.Kind_=2∧s.Bits_=0∧0≤s.Int_∧s.Int_≤2147483647)∨(s.Type_.Kind_ ≠ 2∧s.Int_=0∧z5y s.Bits_=true)):=by
 unfold mayS at h
 rw [Bool.and_eq_true] at h
 refine ⟨h.1,?_⟩
 by_cases hk:s.Type_.Kind_=2
 ·have e:(s.Type_.Kind_==2)=true:=by simp [hk]
  have h2:=h.2
  rw [e,cond_true] at h2
  simp only [Bool.and_eq_true,beq_iff_eq,decide_eq_true_eq] at h2
  exact .inl ⟨hk,h2.1,h2.2.1,h2.2.2⟩
 ·have e:(s.Type_.Kind_==2)=false:=by simp [hk]
  have h2:=h.2
  rw [e,cond_false] at h2
  simp only [Bool.and_eq_true,beq_iff_eq] at h2
  exact .inr ⟨hk,h2.1,h2.2⟩
theorem zep {l:List Xa} {t:Xb} (hl:l.length≤64) (h:mayT l t=true):(t.Kind_=1∨t.Kind_=2∨t.Kind_=3)∧0≤t.Param_∧t.Param_<64∧(t.Kind_ ≠ 3→t.Param_=0):=by
 unfold mayT at h
 by_cases hk:t.Kind_=3
 ·have e:(t.Kind_==3)=true:=by simp [hk]
  rw [e,cond_true] at h
  simp only [Bool.and_eq_true,decide_eq_true_eq] at h
  exact ⟨.inr (.inr hk),h.1,by omega,fun h=>absurd hk h⟩
 ·have e:(t.Kind_==3)=false:=by simp [hk]
  rw [e,cond_false] at h
  simp only [Bool.and_eq_true,Bool.or_eq_true,beq_iff_eq] at h
  exact ⟨by omega,by omega,by omega,fun _=>h.2⟩
theorem zji {c:Xe} (h:(chk c).1=0) (hl:∀ i ∈ c.List_,z2b i):z4t c:=by
 obtain ⟨h1,h2,h3,h4,h5,h6,_⟩:=zt4 h
 obtain ⟨s1,s2⟩:=zy0 h1
 simp only [decide_eq_false_iff_not] at h2 h3 h4
 rw [List.all_eq_true] at s2 h5 h6
 refine ⟨s1,by omega,by omega,by omega,fun p hp=>?_,fun t ht=>?_,fun x hx=>?_,hl⟩
 ·obtain ⟨q1,_,_,q2⟩:=zqt (s2 p hp)
  exact ⟨q1,by show p.Len_<9223372036854775808; omega⟩
 ·obtain ⟨_,_,q,_⟩:=zep s1 (h5 t ht)
  show t.Param_<9223372036854775808; omega
 ·obtain ⟨q1,q2⟩:=zqu (h6 x hx)
  obtain ⟨_,_,q,_⟩:=zep s1 q1
  refine ⟨by show x.Type_.Param_<9223372036854775808; omega,?_⟩
  show x.Int_<9223372036854775808
  rcases q2 with h | h <;> omega
theorem zsj {c:Xe} (h:zla c):c.Sign_.length<4611686018427387904∧c.Regs_.length<4611686018427387904∧c.Slots_.length<4611686018427387904∧c.List_.length<4611686018427387904:=by
 have:=h.s
 have:=h.r
 have:=h.l
 have:=h.i
 exact ⟨by omega,by omega,by omega,by omega⟩
abbrev Rd (α:Type):=(α×Nat)⊕(Yaa)
def z4r (S:ByteArray) (p k:Nat):Rd ByteArray:=if S.size - p<k then .inr (242,p) else .inl (S.extract p (p+k),p+k)
def numL:Nat→Nat→List Int→(Nat×Nat)⊕Int
 | _,_,[]=>.inr 242
 | k,acc,b::l=>if k=9∨(b=0∧0<k) then .inr 243 else if b<128 then .inl (acc+b.toNat * 128 ^ k,k+1) else numL (k+1) (acc+b.toNat % 128 * 128 ^ k) l
def numR (S:ByteArray) (p most:Nat):Rd Int:=match numL 0 0 ((bytesOf S).drop p) with
 | .inr e=>.inr (e,p)
 | .inl (v,k)=>if most<v then .inr (2,p) else .inl ((v:Int),p+k)
abbrev ANY:Nat:=9223372036854775807
abbrev BIG:Nat:=4611686018427387904
theorem zec {n:Nat} {S:ByteArray} {p k:Nat} (hp:p≤S.size) (hS:S.size≤BIG) (hk:k≤1000):f222 n (S,(p:Int),(k:Int))=some (match z4r S p k with | .inl (s,q)=>.inl (s,S,(q:Int)) | .inr e=>.inr e):=by
 have hS:S.size≤4611686018427387904:=hS
 have e0:IntKind.i64.wrap ((S.size:Int) - (p:Int))=((S.size - p:Nat):Int):=by rw [z61 (by omega) (by omega)]; omega
 have e1:IntKind.i64.wrap ((p:Int)+(k:Int))=((p+k:Nat):Int):=by rw [z61 (by omega) (by omega)]; omega
 rw [y40]
 simp only [e0,e1]
 unfold z4r
 by_cases h:S.size - p<k
 ·have d:decide (((S.size - p:Nat):Int)<(k:Int))=true:=by simp; omega
  rw [d,cond_true,if_pos h]
 ·have d:decide (((S.size - p:Nat):Int)<(k:Int))=false:=by simp; omega
  rw [d,cond_false,if_neg h,zi (by omega)]
  rfl
theorem zj4 {k acc:Nat}:∀ {l:List Int} {v c:Nat},Byt l→acc<128 ^ k→numL k acc l = .inl (v,c)→v<128 ^ c∧k<c∧c≤k+l.length∧(k≤9→c≤9):=by
 intro l
 induction l generalizing k acc with
 | nil=>intro v c _ _ h; cases h
 | cons b l ih =>
  intro v c hB ha h
  simp only [numL] at h
  split at h
  ·cases h
  ·rename_i h1
   have hb:=hB b (by simp)
   split at h
   ·rename_i h2
    cases h
    have:b.toNat * 128 ^ k≤127 * 128 ^ k:=Nat.mul_le_mul_right _ (by omega)
    rw [Nat.pow_succ]
    exact ⟨by omega,by omega,by simp,by omega⟩
   ·have hb2:b.toNat % 128 * 128 ^ k≤127 * 128 ^ k:=Nat.mul_le_mul_right _ (by omega)
    obtain ⟨q1,q2,q3,q4⟩:=ih (k:=k+1) (acc:=acc+b.toNat % 128 * 128 ^ k) (fun x hx=>hB x (by simp [hx])) (by rw [Nat.pow_succ]; omega) h
    exact ⟨q1,by omega,by simp; omega,fun hk=>q4 (by omega)⟩
theorem pow7 (k:Nat):(128:Nat) ^ k=2 ^ (7 * k):=by rw [Nat.pow_mul]
theorem y8n {k a x:Nat} (ha:a<128 ^ k):a ||| x * 128 ^ k=a+x * 128 ^ k:=by
 rw [pow7] at ha ⊢
 rw [Nat.mul_comm,Nat.or_comm,← Nat.two_pow_add_eq_or_of_lt ha,Nat.add_comm]
theorem zqy {k:Nat} (h:k≤8):(128:Nat) ^ k≤72057594037927936:=Nat.pow_le_pow_right (by decide) h
theorem zer {m:Nat} (h:m<18446744073709551616):(BitVec.ofInt 64 (m:Int)).toNat=m:=by
 rw [BitVec.ofInt_natCast,BitVec.toNat_ofNat]; omega
theorem or64 {k a x:Nat} (hk:k≤8) (ha:a<128 ^ k) (hx:x<128):(BitVec.ofInt 64 (a:Int) ||| BitVec.ofInt 64 ((x * 128 ^ k:Nat):Int)).toNat=a+x * 128 ^ k:=by
 have:=zqy hk
 have h2:x * 128 ^ k≤127 * 128 ^ k:=Nat.mul_le_mul_right _ (by omega)
 rw [BitVec.toNat_or,zer (by omega),zer (by omega),y8n ha]
theorem y5a:∀ b:BitVec 8,(b &&& 127#8).toNat=b.toNat % 128:=by decide
theorem y3j {b:Int} (h0:0≤b) (h1:b<256):IntKind.u8.wrap ((BitVec.ofInt IntKind.u8.bits b &&& BitVec.ofInt IntKind.u8.bits 127).toNat:Int)=((b.toNat % 128:Nat):Int):=by
 have h:=y5a (BitVec.ofInt 8 b)
 have e:(BitVec.ofInt IntKind.u8.bits b &&& BitVec.ofInt IntKind.u8.bits 127).toNat=(BitVec.ofInt 8 b &&& 127#8).toNat:=rfl
 rw [e,h]
 have e2:(BitVec.ofInt 8 b).toNat=b.toNat:=by rw [BitVec.toNat_ofInt]; omega
 rw [e2,zbe]; omega
theorem y52 {k x:Nat} (hk:k≤8):((x:Int) * 2 ^ min (7 * k) 64)=((x * 128 ^ k:Nat):Int):=by
 rw [Nat.min_eq_left (by omega),pow7]; simp
theorem zjt {n:Nat} {S:ByteArray} {p0:Nat} {most:Int} (hS:S.size≤BIG):∀ (l:List Int) (k acc p fuel:Nat),(bytesOf S).drop p=l→p≤S.size→acc<128 ^ k→k≤9→l.length<fuel →
  ∃ sh:Int,iter (zit n (S,(p0:Int),most) ()) fuel ((acc:Int),((7 * k:Nat):Int),(p:Int))=some (match numL k acc l with | .inl (v,c)=>.out ((v:Int),sh,((p+(c - k):Nat):Int)) | .inr e=>.ret (e,(p0:Int)))
 | [],k,acc,p,fuel+1,hl,hp,ha,hk,hf=>by
  refine ⟨0,?_⟩
  have:p=S.size:=by
   have:=congrArg List.length hl
   rw [List.length_drop,zt] at this
   simp at this; omega
  subst this
  rw [iter,z8j]
  simp only [beq_self_eq_true,cond_true,numL]
 | b::l,k,acc,p,fuel+1,hl,hp,ha,hk,hf=>by
  have hS':S.size≤4611686018427387904:=hS
  have hlen:=zt S
  have hp2:p<(bytesOf S).length:=by
   have:=congrArg List.length hl
   rw [List.length_drop] at this
   simp at this; omega
  have hbb:(bytesOf S)[p]=b:=by
   rw [List.drop_eq_getElem_cons hp2] at hl
   exact (List.cons.inj hl).1
  have hl2:(bytesOf S).drop (p+1)=l:=by
   rw [List.drop_eq_getElem_cons hp2] at hl
   exact (List.cons.inj hl).2
  have hb:=z2k S b (by rw [← hbb]; exact List.getElem_mem _)
  have e0:((p:Int)==(S.size:Int))=false:=by simp; omega
  have e1:zb S (p:Int)=b:=by rw [z8c hp2,hbb]
  have c0:(bif decide (((7 * k:Nat):Int) > 56) then (some (.inl true)) else (bif decide (((7 * k:Nat):Int) > 0) then (some (.inl (b==0))) else (some (.inl false))):Option (Bool⊕Bo (Yal) (Yal) (Yaa)))=some (.inl (decide (k=9∨(b=0∧0<k)))):=by
   by_cases h9:k=9
   ·subst h9; rfl
   ·have d1:decide (((7 * k:Nat):Int) > 56)=false:=by simp; omega
    rw [d1,cond_false]
    by_cases h0:0<k
    ·have d2:decide (((7 * k:Nat):Int) > 0)=true:=by simp; omega
     rw [d2,cond_true]
     by_cases hb0:b=0 <;> simp [h9,h0,hb0]
    ·have d2:decide (((7 * k:Nat):Int) > 0)=false:=by simp; omega
     rw [d2,cond_false]
     simp [h9,h0]
  simp only [numL]
  by_cases hE:k=9∨(b=0∧0<k)
  ·refine ⟨0,?_⟩
   rw [iter,z8j]
   simp only [e0,cond_false,e1,c0]
   rw [zi (by omega),if_pos hE,decide_eq_true hE]
   rfl
  ·have hk8:k≤8:=by omega
   have eo:(IntKind.u64.wrap ((BitVec.ofInt IntKind.u64.bits (acc:Int) ||| BitVec.ofInt IntKind.u64.bits (IntKind.u64.wrap ((IntKind.u64.wrap (IntKind.u8.wrap ((BitVec.ofInt IntKind.u8.bits b &&& BitVec.ofInt IntKind.u8.bits 127).toNat:Int))) * 2 ^ min ((7 * k:Nat):Int).toNat IntKind.u64.bits))).toNat:Int))=((acc+b.toNat % 128 * 128 ^ k:Nat):Int):=by
    have h8:=zqy hk8
    have h2:b.toNat % 128 * 128 ^ k≤127 * 128 ^ k:=Nat.mul_le_mul_right _ (by omega)
    rw [y3j hb.1 hb.2,z2n (m:=((b.toNat % 128:Nat):Int)) (by omega) (by omega),Int.toNat_natCast]
    have e3:(((b.toNat % 128:Nat):Int) * 2 ^ min (7 * k) IntKind.u64.bits)=((b.toNat % 128 * 128 ^ k:Nat):Int):=y52 hk8
    rw [e3,z2n (m:=((b.toNat % 128 * 128 ^ k:Nat):Int)) (by omega) (by omega)]
    have e4:=or64 (k:=k) (a:=acc) (x:=b.toNat % 128) hk8 ha (by omega)
    have e5:(BitVec.ofInt IntKind.u64.bits (acc:Int) ||| BitVec.ofInt IntKind.u64.bits ((b.toNat % 128 * 128 ^ k:Nat):Int)).toNat=acc+b.toNat % 128 * 128 ^ k:=e4
    rw [e5,z2n (by omega) (by omega)]
   rw [if_neg hE]
   by_cases hb1:b<128
   ·refine ⟨((7 * k:Nat):Int),?_⟩
    have d:decide (b<128)=true:=by simp; omega
    have hm:b.toNat % 128=b.toNat:=by omega
    rw [iter,z8j]
    simp only [e0,cond_false,e1,c0,decide_eq_false hE,Option.bind_some,orRet_inl,d,cond_true,eo]
    rw [zi (by omega),zi (by omega),if_pos hb1,z1r (by omega),hm]
    have ep:p+(k+1 - k)=p+1:=by omega
    simp only [ep]
   ·have d:decide (b<128)=false:=by simp; omega
    have h2:b.toNat % 128 * 128 ^ k≤127 * 128 ^ k:=Nat.mul_le_mul_right _ (by omega)
    obtain ⟨sh,hi⟩:=zjt (n:=n) (S:=S) (p0:=p0) (most:=most) hS l (k+1) (acc+b.toNat % 128 * 128 ^ k) (p+1) fuel hl2 (by omega) (by rw [Nat.pow_succ]; omega) (by omega) (by simp at hf; omega)
    refine ⟨sh,?_⟩
    have e7:IntKind.i64.wrap (((7 * k:Nat):Int)+7)=((7 * (k+1):Nat):Int):=by rw [z61 (by omega) (by omega)]; omega
    rw [iter,z8j]
    simp only [e0,cond_false,e1,c0,decide_eq_false hE,Option.bind_some,orRet_inl,d,eo]
    rw [zi (by omega),zi (by omega),if_neg hb1,z1r (by omega),e7]
    simp only
    rw [hi]
    cases hq:numL (k+1) (acc+b.toNat % 128 * 128 ^ k) l with
    | inr e=>rfl
    | inl r =>
     obtain ⟨v,c⟩:=r
     have:=(zj4 (fun x hx=>z2k S x (by rw [← hl2] at hx; exact List.mem_of_mem_drop hx)) (by rw [Nat.pow_succ]; omega) hq).2.1
     simp only
     rw [show p+1+(c - (k+1))=p+(c - k) by omega]
theorem z5d {n:Nat} {S:ByteArray} {p most:Nat} (hn:S.size<n) (hp:p≤S.size) (hS:S.size≤BIG) (hm:most≤ANY):f223 n (S,(p:Int),(most:Int))=some (match numR S p most with | .inl (v,q)=>.inl (v,S,(q:Int)) | .inr e=>.inr e):=by
 have hm':most≤9223372036854775807:=hm
 obtain ⟨sh,h⟩:=zjt (n:=n) (p0:=p) (most:=most) hS ((bytesOf S).drop p) 0 0 p n rfl hp (by simp) (by omega) (by rw [List.length_drop,zt]; omega)
 rw [y41]
 rw [show (((7 * 0:Nat):Int))=0 from rfl] at h
 simp only
 refine (congrArg (fun z=>Option.bind z _) h).trans ?_
 unfold numR
 cases hq:numL 0 0 ((bytesOf S).drop p) with
 | inr e=>rfl
 | inl r =>
  obtain ⟨v,c⟩:=r
  obtain ⟨q1,_,_,q4⟩:=zj4 (fun x hx=>z2k S x (List.mem_of_mem_drop hx)) (by simp) hq
  have hc:c≤9:=q4 (by omega)
  have:(128:Nat) ^ c≤128 ^ 9:=Nat.pow_le_pow_right (by decide) hc
  have e9:(128:Nat) ^ 9=9223372036854775808:=rfl
  simp only [Option.bind_some,Bo.then]
  rw [z2n (by omega) (by omega)]
  by_cases hv:most<v
  ·have d:decide ((v:Int) > (most:Int))=true:=by simp; omega
   rw [d,cond_true,if_pos hv]
  ·have d:decide ((v:Int) > (most:Int))=false:=by simp; omega
   rw [d,cond_false,if_neg hv,z61 (by omega) (by omega)]
   simp
def oneR (S:ByteArray) (p:Nat) (lo hi:Int):Rd Int:=if S.size - p<1 then .inr (242,(p:Int)) else
 (let b:=zb S (p:Int); if b<lo∨b > hi then .inr (243,(p:Int)) else .inl (b,p+1))
theorem y98 {S:ByteArray} {p:Nat} (h:¬ S.size - p<1) (hp:p≤S.size):zb (S.extract p (p+1)) 0=zb S (p:Int)∧(S.extract p (p+1)).size=1:=by
 have hl:=zt S
 have hp2:p<(bytesOf S).length:=by omega
 have e:bytesOf (S.extract p (p+1))=[(bytesOf S)[p]]:=by
  rw [z3g,List.drop_take]
  rw [List.drop_eq_getElem_cons hp2,show p+1 - p=1 by omega]
  rfl
 have e2:(S.extract p (p+1)).size=1:=by rw [← zt,e]; rfl
 refine ⟨?_,e2⟩
 have:zb (S.extract p (p+1)) ((0:Nat):Int)=(bytesOf (S.extract p (p+1)))[0]'(by rw [e]; simp):=z8c _
 rw [show ((0:Nat):Int)=0 from rfl] at this
 rw [this,z8c hp2]
 simp [e]
theorem zsz (S:ByteArray) (i:Int):0≤zb S i∧zb S i<256:=by
 unfold zb
 have:=(S.data.toList.getD i.toNat 0).toNat_lt
 omega
theorem zed {n:Nat} {S:ByteArray} {p:Nat} {lo hi:Int} (hp:p≤S.size) (hS:S.size≤BIG):f224 n (S,(p:Int),lo,hi)=some (match oneR S p lo hi with | .inl (b,q)=>.inl (b,S,(q:Int)) | .inr e=>.inr e):=by
 have h1:=zec (n:=n) (k:=1) hp hS (by omega)
 rw [show ((1:Nat):Int)=1 from rfl] at h1
 rw [y42,h1]
 unfold z4r oneR
 by_cases h:S.size - p<1
 ·simp only [if_pos h]; rfl
 ·obtain ⟨b1,b2⟩:=y98 h hp
  have hb:=zsz S (p:Int)
  simp only [if_neg h,Option.bind_some,sumE,b1,b2]
  have hw:IntKind.i64.wrap (zb S (p:Int))=zb S (p:Int):=z61 (by omega) (by omega)
  rw [zi (by omega)]
  by_cases hlo:zb S (p:Int)<lo
  ·rw [decide_eq_true hlo,if_pos (.inl hlo)]; rfl
  ·rw [decide_eq_false hlo,cond_false,Option.bind_some,orRet_inl]
   by_cases hhi:zb S (p:Int) > hi
   ·rw [decide_eq_true hhi,if_pos (.inr hhi)]; rfl
   ·rw [decide_eq_false hhi,if_neg (by omega)]
    simp only [cond_false,hw]
def valL (l:List Int):Nat:=l.foldr (fun b a=>b.toNat+256 * a) 0
theorem zg6 (b:Int):∀ l:List Int,valL (l++[b])=valL l+b.toNat * 256 ^ l.length
 | []=>by simp [valL]
 | x::l=>by
  have ih:=zg6 b l
  simp only [valL,List.cons_append,List.foldr_cons,List.length_cons] at ih ⊢
  rw [ih,Nat.pow_succ,Nat.mul_add,Nat.mul_comm _ 256,← Nat.mul_assoc,← Nat.mul_assoc,Nat.mul_comm b.toNat 256,Nat.add_assoc]
theorem zf4:∀ l:List Int,Byt l→valL l<256 ^ l.length
 | [],_=>by simp [valL]
 | x::l,h=>by
  have ih:=zf4 l fun b hb=>h b (by simp [hb])
  have hx:=h x (by simp)
  simp only [valL,List.foldr_cons,List.length_cons,Nat.pow_succ] at ih ⊢
  omega
theorem pow8 (k:Nat):(256:Nat) ^ k=2 ^ (8 * k):=by rw [Nat.pow_mul]
theorem zxs {k:Nat} (h:k≤7):(256:Nat) ^ k≤72057594037927936:=Nat.pow_le_pow_right (by decide) h
theorem orB {k a x:Nat} (hk:k≤7) (ha:a<256 ^ k) (hx:x<256):(BitVec.ofInt 64 (a:Int) ||| BitVec.ofInt 64 ((x * 256 ^ k:Nat):Int)).toNat=a+x * 256 ^ k:=by
 have:=zxs hk
 have h2:x * 256 ^ k≤255 * 256 ^ k:=Nat.mul_le_mul_right _ (by omega)
 rw [BitVec.toNat_or,zer (by omega),zer (by omega)]
 rw [pow8] at ha ⊢
 rw [Nat.mul_comm,Nat.or_comm,← Nat.two_pow_add_eq_or_of_lt ha,Nat.add_comm]
def valR (S:ByteArray) (p k:Nat):Rd Nat:=match z4r S p k with | .inl (s,q)=>.inl (valL (bytesOf s),q) | .inr e=>.inr e
theorem za7 {S s:ByteArray} {p k q:Nat} (h:z4r S p k = .inl (s,q)) (hp:p≤S.size):s=S.extract p (p+k)∧s.size=k∧q=p+k∧q≤S.size:=by
 unfold z4r at h
 split at h
 ·cases h
 ·cases h
  refine ⟨rfl,?_,rfl,by omega⟩
  rw [← zt,z3g,List.length_drop,List.length_take,zt]
  omega
theorem ziv {n:Nat} {S:ByteArray} {p k:Nat} (hn:20≤n) (hp:p≤S.size) (hS:S.size≤BIG) (hk:k≤8):f225 n (S,(p:Int),(k:Int))=some (match valR S p k with | .inl (v,q)=>.inl ((v:Int),S,(q:Int)) | .inr e=>.inr e):=by
 rw [y43,zec hp hS (by omega)]
 unfold valR
 cases hq:z4r S p k with
 | inr e=>rfl
 | inl r =>
  obtain ⟨s,q⟩:=r
  obtain ⟨h1,h2,h3,h4⟩:=za7 hq hp
  have hl:=zt s
  simp only [Option.bind_some,sumE]
  have key:∀ (j i fuel:Nat),i+j=(bytesOf s).length→j<fuel→iter (ziu n (S,(p:Int),(k:Int)) (bytesOf s,((bytesOf s).length:Int),S,(q:Int))) fuel (((valL ((bytesOf s).take i):Nat):Int),(i:Int))=some (.out (((valL (bytesOf s):Nat):Int),((bytesOf s).length:Int))):=by
   intro j
   induction j with
   | zero =>
    intro i fuel hi hf
    obtain ⟨m,rfl⟩:∃ m,fuel=m+1:=⟨fuel - 1,by omega⟩
    obtain rfl:i=(bytesOf s).length:=by omega
    have e:decide (((bytesOf s).length:Int)<((bytesOf s).length:Int))=false:=by simp
    rw [iter,zh6,List.take_length]
    simp only [e,cond_false]
   | succ j ih =>
    intro i fuel hi hf
    obtain ⟨m,rfl⟩:∃ m,fuel=m+1:=⟨fuel - 1,by omega⟩
    have hi2:i<(bytesOf s).length:=by omega
    have hb:=z2k s _ (List.getElem_mem hi2)
    have hv:=zf4 ((bytesOf s).take i) fun b hb=>z2k s b (List.mem_of_mem_take hb)
    rw [List.length_take,Nat.min_eq_left (by omega)] at hv
    have hp:=zxs (k:=i) (by omega)
    have hx:(bytesOf s)[i].toNat * 256 ^ i≤255 * 256 ^ i:=Nat.mul_le_mul_right _ (by omega)
    have e:decide ((i:Int)<((bytesOf s).length:Int))=true:=by simp; omega
    have e8:IntKind.i64.wrap (8 * (i:Int))=((8 * i:Nat):Int):=w8 (by omega)
    have e5:IntKind.u64.wrap (bytesOf s)[i]=(((bytesOf s)[i].toNat:Nat):Int):=by rw [z2n (by omega) (by omega)]; omega
    have e9:((((bytesOf s)[i].toNat:Nat):Int) * 2 ^ min ((8 * i:Nat):Int).toNat IntKind.u64.bits)=(((bytesOf s)[i].toNat * 256 ^ i:Nat):Int):=by
     rw [Int.toNat_natCast,show min (8 * i) IntKind.u64.bits=8 * i from Nat.min_eq_left (by show 8 * i≤64; omega),pow8]; simp
    have e6:(BitVec.ofInt IntKind.u64.bits ((valL ((bytesOf s).take i):Nat):Int) ||| BitVec.ofInt IntKind.u64.bits (((bytesOf s)[i].toNat * 256 ^ i:Nat):Int)).toNat=valL ((bytesOf s).take (i+1)):=by
     refine (orB (k:=i) (by omega) hv (by omega)).trans ?_
     rw [List.take_succ_eq_append_getElem hi2,zg6,List.length_take,Nat.min_eq_left (by omega)]
    have hv2:=zf4 ((bytesOf s).take (i+1)) fun b hb=>z2k s b (List.mem_of_mem_take hb)
    rw [List.length_take,Nat.min_eq_left (by omega)] at hv2
    have hp2:(256:Nat) ^ (i+1)≤256 ^ 8:=Nat.pow_le_pow_right (by decide) (by omega)
    have hp3:(256:Nat) ^ 8=18446744073709551616:=rfl
    rw [iter,zh6]
    simp only [e,cond_true,zb2 hi2,Option.bind_some,e8,e5,e9]
    rw [zi (by omega),z2n (m:=(((bytesOf s)[i].toNat * 256 ^ i:Nat):Int)) (by omega) (by omega),e6,z2n (by omega) (by omega),z1r (by omega)]
    exact ih (i+1) m (by omega) (by omega)
  have h:=key (bytesOf s).length 0 n (by omega) (by omega)
  rw [show ((valL ((bytesOf s).take 0):Nat):Int)=0 from rfl,show ((0:Nat):Int)=0 from rfl] at h
  rw [h]; rfl
def typR (S:ByteArray) (p:Nat):Rd Xb:=match oneR S p 1 3 with
 | .inr e=>.inr e
 | .inl (k,q)=>if k=3 then (match numR S q ANY with | .inr e=>.inr e | .inl (v,r)=>.inl (⟨k,v⟩,r)) else .inl (⟨k,0⟩,q)
theorem z7z {S:ByteArray} {p q:Nat} {lo hi b:Int} (hp:p≤S.size) (h:oneR S p lo hi = .inl (b,q)):q=p+1∧q≤S.size∧b=zb S (p:Int)∧lo≤b∧b≤hi:=by
 unfold oneR at h
 split at h
 ·cases h
 ·simp only at h
  split at h
  ·cases h
  ·cases h
   exact ⟨rfl,by omega,rfl,by omega,by omega⟩
theorem zet {S:ByteArray} {p:Nat} {lo hi e a:Int} (h:oneR S p lo hi = .inr (e,a)):e ≠ 0:=by
 unfold oneR at h
 split at h
 ·cases h; decide
 ·simp only at h
  split at h
  ·cases h; decide
  ·cases h
theorem zzm {l:List Int} {e:Int}:∀ {k acc:Nat},numL k acc l = .inr e→e=242∨e=243:=by
 induction l with
 | nil=>intro k acc h; cases h; exact .inl rfl
 | cons b l ih =>
  intro k acc h
  simp only [numL] at h
  split at h
  ·cases h; exact .inr rfl
  ·split at h
   ·cases h
   ·exact ih h
theorem z3d {S:ByteArray} {p q M:Nat} {v:Int} (hp:p≤S.size) (h:numR S p M = .inl (v,q)):p<q∧q≤S.size∧0≤v∧v≤(M:Int)∧v<LIM:=by
 unfold numR at h
 split at h
 ·cases h
 ·rename_i w c hq
  split at h
  ·cases h
  ·cases h
   obtain ⟨q1,q2,q3,q4⟩:=zj4 (fun x hx=>z2k S x (List.mem_of_mem_drop hx)) (by simp) hq
   rw [List.length_drop,zt] at q3
   have hc:=q4 (by omega)
   have:(128:Nat) ^ c≤128 ^ 9:=Nat.pow_le_pow_right (by decide) hc
   have e9:(128:Nat) ^ 9=9223372036854775808:=rfl
   refine ⟨by omega,by omega,by omega,by omega,?_⟩
   show (w:Int)<9223372036854775808
   omega
theorem z5h {S:ByteArray} {p M:Nat} {e a:Int} (h:numR S p M = .inr (e,a)):e ≠ 0:=by
 unfold numR at h
 split at h
 ·rename_i e' hq
  cases h
  have:=zzm hq
  omega
 ·split at h
  ·cases h; decide
  ·cases h
theorem znp {S:ByteArray} {p k:Nat} {e a:Int} (h:z4r S p k = .inr (e,a)):e ≠ 0:=by
 unfold z4r at h
 split at h
 ·cases h; decide
 ·cases h
theorem zja {S:ByteArray} {p k:Nat} {e a:Int} (h:valR S p k = .inr (e,a)):e ≠ 0:=by
 unfold valR at h
 split at h
 ·cases h
 ·rename_i e' hq; cases h; exact znp hq
theorem zoc {S:ByteArray} {p k q v:Nat} (hp:p≤S.size) (h:valR S p k = .inl (v,q)):q=p+k∧q≤S.size∧v=valL (((bytesOf S).drop p).take k)∧v<256 ^ k:=by
 unfold valR at h
 split at h
 ·rename_i s q' hq
  cases h
  obtain ⟨h1,h2,h3,h4⟩:=za7 hq hp
  refine ⟨h3,h4,?_,?_⟩
  ·rw [h1,z3g,List.drop_take,show p+k - p=k by omega]
  ·have:=zf4 (bytesOf s) (z2k s)
   rw [zt,h2] at this
   exact this
 ·cases h
theorem zdu {S:ByteArray} {p q:Nat} {t:Xb} (hp:p≤S.size) (h:typR S p = .inl (t,q)):p<q∧q≤S.size∧t.Param_<LIM:=by
 unfold typR at h
 split at h
 ·cases h
 ·rename_i k q1 h1
  obtain ⟨a1,a2,_⟩:=z7z hp h1
  split at h
  ·split at h
   ·cases h
   ·rename_i v r h2
    cases h
    obtain ⟨b1,b2,b3,b4,b5⟩:=z3d a2 h2
    exact ⟨by omega,b2,b5⟩
  ·cases h
   exact ⟨by omega,a2,(by show (0:Int)<9223372036854775808; decide)⟩
theorem zr8 {S:ByteArray} {p:Nat} {e a:Int} (h:typR S p = .inr (e,a)):e ≠ 0:=by
 unfold typR at h
 split at h
 ·rename_i e' h1; cases h; exact zet h1
 ·split at h
  ·split at h
   ·rename_i e' h2; cases h; exact z5h h2
   ·cases h
  ·cases h
theorem zp2 {n:Nat} {S:ByteArray} {p:Nat} (hn:S.size<n) (hp:p≤S.size) (hS:S.size≤BIG):f226 n (S,(p:Int))=some (match typR S p with | .inl (t,q)=>.inl (S,(q:Int),t.Kind_,t.Param_) | .inr e=>.inr e):=by
 rw [y44]
 simp only [zed (n:=n) (lo:=1) (hi:=3) hp hS]
 unfold typR
 cases h1:oneR S p 1 3 with
 | inr e=>rfl
 | inl r =>
  obtain ⟨k,q⟩:=r
  obtain ⟨a1,a2,_⟩:=z7z hp h1
  simp only [Option.bind_some,sumE]
  by_cases hk:k=3
  ·have e3:(k==3)=true:=by simp [hk]
   have h2:=z5d (n:=n) (most:=ANY) hn a2 hS (Nat.le_refl _)
   rw [show ((ANY:Nat):Int)=9223372036854775807 from rfl] at h2
   rw [e3,cond_true,if_pos hk,h2]
   cases numR S q ANY with
   | inr e=>rfl
   | inl r=>rfl
  ·have e3:(k==3)=false:=by simp [hk]
   rw [e3,cond_false,if_neg hk]; rfl
def putF (i:Xd) (k:Nat) (v:Int):Xd :=
 ⟨bif Nat.beq k 0 then v else i.Op_,bif Nat.beq k 1 then v else i.D_,bif Nat.beq k 2 then v else i.A_,bif Nat.beq k 3 then v else i.B_,bif Nat.beq k 4 then v else i.C_,bif Nat.beq k 5 then v else i.N_,i.Bits_⟩
def z3f (S:ByteArray):List Nat→Nat→Xd→Rd Xd
 | [],p,i=>.inl (i,p)
 | k::ks,p,i=>match numR S p ANY with
  | .inr e=>.inr e
  | .inl (v,q)=>z3f S ks q (putF i k v)
theorem zhh {S:ByteArray} {e a:Int}:∀ {ks:List Nat} {p:Nat} {i:Xd},z3f S ks p i = .inr (e,a)→e ≠ 0
 | [],p,i,h=>nomatch h
 | k::ks,p,i,h=>by
  simp only [z3f] at h
  split at h
  ·rename_i e' h1; cases h; exact z5h h1
  ·exact zhh h
theorem zde {S:ByteArray}:∀ {ks:List Nat} {p q:Nat} {i j:Xd},(∀ k ∈ ks,1≤k∧k≤5)→p≤S.size→z2b i→z3f S ks p i = .inl (j,q)→p≤q∧q≤S.size∧j.Op_=i.Op_∧j.Bits_=i.Bits_∧z2b j
 | [],p,q,i,j,_,hp,hi,h=>by cases h; exact ⟨Nat.le_refl _,hp,rfl,rfl,hi⟩
 | k::ks,p,q,i,j,hk,hp,hi,h=>by
  simp only [z3f] at h
  split at h
  ·cases h
  ·rename_i v r h1
   obtain ⟨a1,a2,a3,a4,a5⟩:=z3d hp h1
   have hk1:=hk k (by simp)
   have h0:Nat.beq k 0=false:=by cases k with | zero=>omega | succ k=>rfl
   have one:∀ (b:Bool) (w:Int),w<LIM→(bif b then v else w)<LIM:=fun b w hw=>by cases b <;> assumption
   obtain ⟨b1,b2,b3,b4,b5⟩:=zde (fun k hk'=>hk k (by simp [hk'])) a2 (i:=putF i k v) ⟨one _ _ hi.d,one _ _ hi.a,one _ _ hi.b,one _ _ hi.c,one _ _ hi.n⟩ h
   refine ⟨by omega,b2,?_,b4,b5⟩
   rw [b3]
   show (bif Nat.beq k 0 then v else i.Op_)=i.Op_
   rw [h0,cond_false]
theorem zxr (a b c d e f:Int) {k:Nat} (h:1≤k∧k≤5):∃ w,z33 [some a,some b,some c,some d,some e,some f,none] k=some w:=by
 have:k=1∨k=2∨k=3∨k=4∨k=5:=by omega
 rcases this with rfl | rfl | rfl | rfl | rfl <;> exact ⟨_,rfl⟩
theorem zdb {n:Nat} {S:ByteArray} {x:ByteArray×Int} {v4:Int×List Xa×List Xb×List Xc} {q4:Int×ByteArray×Int×List Xd} {bits:Int} {ks:List Nat} (hks:∀ k ∈ ks,1≤k∧k≤5) (hk5:ks.length≤5) (hn:S.size<n) (hS:S.size≤BIG) :
  ∀ (rest:List Nat) (j p fuel:Nat) (i:Xd),ks.drop j=rest→j≤ks.length→rest.length<fuel→p≤S.size→i.Bits_=bits →
   iter (ziw n x v4 q4 (ks,(ks.length:Int),bits)) fuel ((j:Int),S,(p:Int),i.Op_,i.D_,i.A_,i.B_,i.C_,i.N_)=some (match z3f S rest p i with | .inl (i',q)=>.out ((ks.length:Int),S,(q:Int),i'.Op_,i'.D_,i'.A_,i'.B_,i'.C_,i'.N_) | .inr e=>.ret e)
 | [],j,p,fuel+1,i,hj,hj0,hf,hp,hb=>by
  have hj2:ks.length≤j:=List.drop_eq_nil_iff.1 hj
  obtain rfl:j=ks.length:=by omega
  have e:decide ((ks.length:Int)<(ks.length:Int))=false:=by simp
  rw [iter,zhb]
  simp only [e,cond_false,z3f]
 | k::rest,j,p,fuel+1,i,hj,hj0,hf,hp,hb=>by
  have hj2:j<ks.length:=by
   have:=congrArg List.length hj
   rw [List.length_drop] at this
   simp at this; omega
  rw [List.drop_eq_getElem_cons hj2] at hj
  obtain ⟨h1,h2⟩:=List.cons.inj hj
  have hk:=hks k (by rw [← h1]; exact List.getElem_mem _)
  have e:decide ((j:Int)<(ks.length:Int))=true:=by simp; omega
  have hg:ks[(j:Int).toNat]? = some k:=by rw [Int.toNat_natCast,List.getElem?_eq_getElem hj2,h1]
  have hnum:=z5d (n:=n) (most:=ANY) hn hp hS (Nat.le_refl _)
  rw [show ((ANY:Nat):Int)=9223372036854775807 from rfl] at hnum
  obtain ⟨w,hw⟩:=zxr i.Op_ i.D_ i.A_ i.B_ i.C_ i.N_ hk
  rw [iter,zhb]
  simp only [e,cond_true,hg,Option.bind_some,hnum,z3f]
  rw [zi (by omega)]
  cases hq:numR S p ANY with
  | inr e=>rfl
  | inl r =>
   obtain ⟨v,q⟩:=r
   obtain ⟨a1,a2,_⟩:=z3d hp hq
   simp only [Option.bind_some,sumE,hw,z1r (show j<9223372036854775806 by omega)]
   exact zdb hks hk5 hn hS rest (j+1) q fuel (putF i k v) h2 (by omega) (by simp at hf; omega) a2 hb
def z5e (S:ByteArray) (p:Nat):Rd Xd:=match oneR S p 1 37 with
 | .inr e=>.inr e
 | .inl (op,q)=>match z3f S (off op) q ⟨op,0,0,0,0,0,0⟩ with
  | .inr e=>.inr e
  | .inl (i,r)=>if i.Op_=1 then (match valR S r 4 with | .inr e=>.inr e | .inl (v,t)=>.inl (⟨i.Op_,i.D_,i.A_,i.B_,i.C_,i.N_,IntKind.u32.wrap v⟩,t)) else .inl (i,r)
theorem zzg {S:ByteArray} {p:Nat} {e a:Int} (h:z5e S p = .inr (e,a)):e ≠ 0:=by
 unfold z5e at h
 split at h
 ·rename_i e' h1; cases h; exact zet h1
 ·split at h
  ·rename_i e' h1; cases h; exact zhh h1
  ·split at h
   ·split at h
    ·rename_i e' h1; cases h; exact zja h1
    ·cases h
   ·cases h
theorem zye (op:Int):z2b ⟨op,0,0,0,0,0,0⟩:=by
 have h:(0:Int)<9223372036854775808:=by decide
 exact ⟨h,h,h,h,h⟩
theorem zyb (v:Int):0≤IntKind.u32.wrap v∧IntKind.u32.wrap v<4294967296:=by
 have:IntKind.u32.wrap v=v % 4294967296:=by simp [IntKind.wrap,IntKind.bits,IntKind.signed]
 omega
theorem zj3 {S:ByteArray} {p q:Nat} {i:Xd} (hp:p≤S.size) (h:z5e S p = .inl (i,q)):p<q∧q≤S.size∧z2b i∧0≤i.Bits_∧i.Bits_<4294967296:=by
 unfold z5e at h
 split at h
 ·cases h
 ·rename_i op q1 h1
  obtain ⟨a1,a2,_⟩:=z7z hp h1
  split at h
  ·cases h
  ·rename_i j r h2
   obtain ⟨b1,b2,b3,b4,b5⟩:=zde (zdm op) a2 (zye op) h2
   split at h
   ·split at h
    ·cases h
    ·rename_i v t h3
     cases h
     obtain ⟨c1,c2,_⟩:=zoc b2 h3
     exact ⟨by omega,c2,⟨b5.d,b5.a,b5.b,b5.c,b5.n⟩,zyb _⟩
   ·cases h
    rw [b4]
    exact ⟨by omega,b2,b5,Int.le_refl 0,(by show (0:Int)<4294967296; decide)⟩
def z5j (S:ByteArray) (p:Nat):Rd Xc:=match oneR S p 0 1 with
 | .inr e=>.inr e
 | .inl (k,q)=>match typR S q with
  | .inr e=>.inr e
  | .inl (t,r)=>if t.Kind_=2 then (match numR S r ANY with | .inr e=>.inr e | .inl (v,u)=>.inl (⟨t,k==1,0,v⟩,u)) else (match valR S r 4 with | .inr e=>.inr e | .inl (v,u)=>.inl (⟨t,k==1,IntKind.u32.wrap v,0⟩,u))
theorem zzw {S:ByteArray} {p:Nat} {e a:Int} (h:z5j S p = .inr (e,a)):e ≠ 0:=by
 unfold z5j at h
 split at h
 ·rename_i e' h1; cases h; exact zet h1
 ·split at h
  ·rename_i e' h1; cases h; exact zr8 h1
  ·split at h
   ·split at h
    ·rename_i e' h1; cases h; exact z5h h1
    ·cases h
   ·split at h
    ·rename_i e' h1; cases h; exact zja h1
    ·cases h
theorem zf1 {S:ByteArray} {p q:Nat} {x:Xc} (hp:p≤S.size) (h:z5j S p = .inl (x,q)):p<q∧q≤S.size∧zgc x∧0≤x.Bits_∧x.Bits_<4294967296:=by
 have z:(0:Int)<9223372036854775808:=by decide
 have z2:(0:Int)<4294967296:=by decide
 unfold z5j at h
 split at h
 ·cases h
 ·rename_i k q1 h1
  obtain ⟨a1,a2,_⟩:=z7z hp h1
  split at h
  ·cases h
  ·rename_i t r h2
   obtain ⟨b1,b2,b3⟩:=zdu a2 h2
   split at h
   ·split at h
    ·cases h
    ·rename_i v u h3
     cases h
     obtain ⟨c1,c2,c3,c4,c5⟩:=z3d b2 h3
     exact ⟨by omega,c2,⟨b3,c5⟩,Int.le_refl 0,z2⟩
   ·split at h
    ·cases h
    ·rename_i v u h3
     cases h
     obtain ⟨c1,c2,_⟩:=zoc b2 h3
     exact ⟨by omega,c2,⟨b3,z⟩,zyb _⟩
def parR (S:ByteArray) (p:Nat):Rd Xa:=match oneR S p 1 2 with
 | .inr e=>.inr e
 | .inl (k,q)=>match numR S q 64 with
  | .inr e=>.inr e
  | .inl (m,r)=>match z4r S r m.toNat with
   | .inr e=>.inr e
   | .inl (s,t)=>match numR S t ANY with
    | .inr e=>.inr e
    | .inl (v,u)=>.inl (⟨s,k,v⟩,u)
theorem y4q {S:ByteArray} {p:Nat} {e a:Int} (h:parR S p = .inr (e,a)):e ≠ 0:=by
 unfold parR at h
 split at h
 ·rename_i e' h1; cases h; exact zet h1
 ·split at h
  ·rename_i e' h1; cases h; exact z5h h1
  ·split at h
   ·rename_i e' h1; cases h; exact znp h1
   ·split at h
    ·rename_i e' h1; cases h; exact z5h h1
    ·cases h
theorem zno {S:ByteArray} {p q:Nat} {x:Xa} (hp:p≤S.size) (h:parR S p = .inl (x,q)):p<q∧q≤S.size∧zl8 x:=by
 unfold parR at h
 split at h
 ·cases h
 ·rename_i k q1 h1
  obtain ⟨a1,a2,_⟩:=z7z hp h1
  split at h
  ·cases h
  ·rename_i m r h2
   obtain ⟨b1,b2,b3,b4,_⟩:=z3d a2 h2
   split at h
   ·cases h
   ·rename_i s t h3
    obtain ⟨c1,c2,c3,c4⟩:=za7 h3 b2
    split at h
    ·cases h
    ·rename_i v u h4
     cases h
     obtain ⟨d1,d2,d3,d4,d5⟩:=z3d c4 h4
     exact ⟨by omega,d2,⟨by show s.size≤64; omega,d5⟩⟩
def z1z {α:Type} (f:Nat→Rd α):Nat→Nat→Rd (List α)
 | 0,p=>.inl ([],p)
 | k+1,p=>match f p with
  | .inr e=>.inr e
  | .inl (x,q)=>match z1z f k q with
   | .inr e=>.inr e
   | .inl (xs,r)=>.inl (x::xs,r)
theorem z9d {α:Type} {f:Nat→Rd α} (hf:∀ {p e a},f p = .inr (e,a)→e ≠ 0) {e a:Int}:∀ {k p:Nat},z1z f k p = .inr (e,a)→e ≠ 0
 | 0,p,h=>nomatch h
 | k+1,p,h=>by
  simp only [z1z] at h
  split at h
  ·rename_i e' h1; cases h; exact hf h1
  ·split at h
   ·rename_i e' h1; cases h; exact z9d hf h1
   ·cases h
theorem z6g {α:Type} {f:Nat→Rd α} {S:ByteArray} {Q:α→Prop} (hf:∀ {p q x},p≤S.size→f p = .inl (x,q)→q≤S.size∧Q x):∀ {k p q:Nat} {xs:List α},p≤S.size→z1z f k p = .inl (xs,q)→q≤S.size∧xs.length=k∧∀ x ∈ xs,Q x
 | 0,p,q,xs,hp,h=>by cases h; exact ⟨hp,rfl,fun _ h=>nomatch h⟩
 | k+1,p,q,xs,hp,h=>by
  simp only [z1z] at h
  split at h
  ·cases h
  ·rename_i x q1 h1
   obtain ⟨a1,a2⟩:=hf hp h1
   split at h
   ·cases h
   ·rename_i ys r h2
    cases h
    obtain ⟨b1,b2,b3⟩:=z6g hf a1 h2
    refine ⟨b1,by simp [b2],fun y hy=>?_⟩
    rcases List.mem_cons.1 hy with rfl | hy
    ·exact a2
    ·exact b3 y hy
theorem zhw {α:Type} {S:ByteArray} {f:Nat→Rd α} {N:Nat} {body:Int×ByteArray×Int×List α→Option (Bo (Int×ByteArray×Int×List α) (Int×ByteArray×Int×List α) (Yaa))} (hf:∀ {p q x},p≤S.size→f p = .inl (x,q)→q≤S.size)
  (hgo:∀ (i p:Nat) (acc:List α),i<N→p≤S.size→acc.length=i→body ((i:Int),S,(p:Int),acc)=some (match f p with | .inl (x,q)=>.go (((i+1:Nat):Int),S,(q:Int),acc++[x]) | .inr e=>.ret e)) (hend:∀ (p:Int) (acc:List α),body ((N:Int),S,p,acc)=some (.out ((N:Int),S,p,acc))) :
  ∀ (k i p fuel:Nat) (acc:List α),i+k=N→k<fuel→p≤S.size→acc.length=i→iter body fuel ((i:Int),S,(p:Int),acc)=some (match z1z f k p with | .inl (xs,q)=>.out ((N:Int),S,(q:Int),acc++xs) | .inr e=>.ret e)
 | 0,i,p,fuel+1,acc,h,hf',hp,ha=>by
  obtain rfl:i=N:=by omega
  rw [iter,hend]
  simp only [z1z,List.append_nil]
 | k+1,i,p,fuel+1,acc,h,hf',hp,ha=>by
  rw [iter,hgo i p acc (by omega) hp ha]
  simp only [z1z]
  cases hq:f p with
  | inr e=>rfl
  | inl r =>
   obtain ⟨x,q⟩:=r
   simp only
   rw [zhw hf hgo hend k (i+1) q fuel (acc++[x]) (by omega) (by omega) (hf hp hq) (by simp; omega)]
   cases z1z f k q with
   | inr e=>rfl
   | inl r=>simp
section
variable {n:Nat} {S:ByteArray} {x:ByteArray×Int}
theorem zst:((ANY:Nat):Int)=9223372036854775807:=rfl
theorem y65 (hn:S.size<n) (hS:S.size≤BIG) {N:Nat} (hN:N≤100000):∀ {p:Nat},p≤S.size→N<n→iter (zee n x (N:Int)) n ((0:Int),S,(p:Int),([]:List Xa))=some (match z1z (parR S) N p with | .inl (xs,q)=>.out ((N:Int),S,(q:Int),xs) | .inr e=>.ret e):=by
 intro p hp hNn
 have:=zhw (S:=S) (f:=parR S) (N:=N) (body:=zee n x (N:Int)) (fun hp h=>(zno hp h).2.1) (fun i p acc hi hp ha=>by
  rw [zh7]
  have e:decide ((i:Int)<(N:Int))=true:=by simp; omega
  simp only [e,cond_true,zed (n:=n) (lo:=1) (hi:=2) hp hS,parR]
  cases h1:oneR S p 1 2 with
  | inr e=>rfl
  | inl r =>
   obtain ⟨k,q⟩:=r
   obtain ⟨a1,a2,_⟩:=z7z hp h1
   have h2:=z5d (n:=n) (most:=64) hn a2 hS (by decide)
   rw [show ((64:Nat):Int)=64 from rfl] at h2
   simp only [Option.bind_some,sumE,h2]
   cases h3:numR S q 64 with
   | inr e=>rfl
   | inl r =>
    obtain ⟨m,r⟩:=r
    obtain ⟨b1,b2,b3,b4,_⟩:=z3d a2 h3
    have h4:=zec (n:=n) (k:=m.toNat) b2 hS (by omega)
    rw [show ((m.toNat:Nat):Int)=m by omega] at h4
    simp only [Option.bind_some,sumE,h4]
    cases h5:z4r S r m.toNat with
    | inr e=>rfl
    | inl w =>
     obtain ⟨s,t⟩:=w
     obtain ⟨c1,c2,c3,c4⟩:=za7 h5 b2
     have h6:=z5d (n:=n) (most:=ANY) hn c4 hS (Nat.le_refl _)
     rw [zst] at h6
     simp only [Option.bind_some,sumE,h6]
     cases h7:numR S t ANY with
     | inr e=>rfl
     | inl w =>
      obtain ⟨v,u⟩:=w
      simp only [Option.bind_some,sumE]
      rw [zi (by simp; omega),z1r (by omega)]) (fun p acc=>by
  rw [zh7]
  have e:decide ((N:Int)<(N:Int))=false:=by simp
  simp only [e,cond_false]) N 0 p n [] (by omega) hNn hp rfl
 simp only [List.nil_append] at this
 rw [show ((0:Nat):Int)=0 from rfl] at this
 refine this.trans ?_
 cases z1z (parR S) N p <;> rfl
theorem y64 (hn:S.size<n) (hS:S.size≤BIG) {N:Nat} (hN:N≤100000) {l1:List Xa}:∀ {p:Nat},p≤S.size→N<n→iter (zef n x ((N:Int),l1)) n ((0:Int),S,(p:Int),([]:List Xb))=some (match z1z (typR S) N p with | .inl (xs,q)=>.out ((N:Int),S,(q:Int),xs) | .inr e=>.ret e):=by
 intro p hp hNn
 have:=zhw (S:=S) (f:=typR S) (N:=N) (body:=zef n x ((N:Int),l1)) (fun hp h=>(zdu hp h).2.1) (fun i p acc hi hp ha=>by
  rw [zh8]
  have e:decide ((i:Int)<(N:Int))=true:=by simp; omega
  simp only [e,cond_true,zp2 (n:=n) hn hp hS]
  cases h1:typR S p with
  | inr e =>
   simp only [Option.bind_some,sumE,zr7]
  | inl r =>
   obtain ⟨t,q⟩:=r
   simp only [Option.bind_some,sumE,zr7]
   rw [zi (by simp; omega),z1r (by omega)]) (fun p acc=>by
  rw [zh8]
  have e:decide ((N:Int)<(N:Int))=false:=by simp
  simp only [e,cond_false]) N 0 p n [] (by omega) hNn hp rfl
 simp only [List.nil_append] at this
 rw [show ((0:Nat):Int)=0 from rfl] at this
 refine this.trans ?_
 cases z1z (typR S) N p <;> rfl
theorem y63 (hn:S.size+20<n) (hS:S.size≤BIG) {N:Nat} (hN:N≤100000) {l1:List Xa} {l2:List Xb}:∀ {p:Nat},p≤S.size→N<n→iter (zeg n x ((N:Int),l1,l2)) n ((0:Int),S,(p:Int),([]:List Xc))=some (match z1z (z5j S) N p with | .inl (xs,q)=>.out ((N:Int),S,(q:Int),xs) | .inr e=>.ret e):=by
 intro p hp hNn
 have:=zhw (S:=S) (f:=z5j S) (N:=N) (body:=zeg n x ((N:Int),l1,l2)) (fun hp h=>(zf1 hp h).2.1) (fun i p acc hi hp ha=>by
  rw [zh9]
  have e:decide ((i:Int)<(N:Int))=true:=by simp; omega
  simp only [e,cond_true,zed (n:=n) (lo:=0) (hi:=1) hp hS,z5j]
  cases h1:oneR S p 0 1 with
  | inr e=>rfl
  | inl r =>
   obtain ⟨k,q⟩:=r
   obtain ⟨a1,a2,_⟩:=z7z hp h1
   simp only [Option.bind_some,sumE,zp2 (n:=n) (by omega) a2 hS]
   cases h2:typR S q with
   | inr e=>rfl
   | inl r =>
    obtain ⟨t,r⟩:=r
    obtain ⟨b1,b2,_⟩:=zdu a2 h2
    simp only [Option.bind_some,sumE]
    by_cases hk:t.Kind_=2
    ·have e2:(t.Kind_==2)=true:=by simp [hk]
     have h3:=z5d (n:=n) (most:=ANY) (by omega) b2 hS (Nat.le_refl _)
     rw [zst] at h3
     simp only [e2,cond_true,if_pos hk,h3]
     cases numR S r ANY with
     | inr e=>rfl
     | inl w =>
      obtain ⟨v,u⟩:=w
      simp only [Option.bind_some,sumE,orRet_inl]
      rw [zi (by simp; omega),z1r (by omega)]
    ·have e2:(t.Kind_==2)=false:=by simp [hk]
     have h3:=ziv (n:=n) (k:=4) (by omega) b2 hS (by omega)
     rw [show ((4:Nat):Int)=4 from rfl] at h3
     simp only [e2,cond_false,if_neg hk,h3]
     cases valR S r 4 with
     | inr e=>rfl
     | inl w =>
      obtain ⟨v,u⟩:=w
      simp only [Option.bind_some,sumE,orRet_inl]
      rw [zi (by simp; omega),z1r (by omega)]) (fun p acc=>by
  rw [zh9]
  have e:decide ((N:Int)<(N:Int))=false:=by simp
  simp only [e,cond_false]) N 0 p n [] (by omega) hNn hp rfl
 simp only [List.nil_append] at this
 rw [show ((0:Nat):Int)=0 from rfl] at this
 refine this.trans ?_
 cases z1z (z5j S) N p <;> rfl
theorem y62 (hn:S.size+20<n) (hS:S.size≤BIG) {N:Nat} (hN:N≤100000) {l1:List Xa} {l2:List Xb} {l3:List Xc}:∀ {p:Nat},p≤S.size→N<n→iter (zeh n x ((N:Int),l1,l2,l3)) n ((0:Int),S,(p:Int),([]:List Xd))=some (match z1z (z5e S) N p with | .inl (xs,q)=>.out ((N:Int),S,(q:Int),xs) | .inr e=>.ret e):=by
 intro p hp hNn
 have:=zhw (S:=S) (f:=z5e S) (N:=N) (body:=zeh n x ((N:Int),l1,l2,l3)) (fun hp h=>(zj3 hp h).2.1) (fun i p acc hi hp ha=>by
  rw [zha]
  have e:decide ((i:Int)<(N:Int))=true:=by simp; omega
  have e220:∀ y,f220 n y=some (off y.1,y):=fun y=>by
   obtain ⟨m,rfl⟩:∃ m,n=m+4:=⟨n - 4,by omega⟩
   exact zp1 m y
  simp only [e,cond_true,zed (n:=n) (lo:=1) (hi:=37) hp hS,z5e]
  cases h1:oneR S p 1 37 with
  | inr e=>rfl
  | inl r =>
   obtain ⟨op,q⟩:=r
   obtain ⟨a1,a2,_⟩:=z7z hp h1
   simp only [Option.bind_some,sumE,e220]
   have h2:=zdb (n:=n) (S:=S) (x:=x) (v4:=((N:Int),l1,l2,l3)) (q4:=((i:Int),S,(p:Int),acc)) (bits:=0) (ks:=off op) (zdm op) (zes op) (by omega) hS (off op) 0 q n ⟨op,0,0,0,0,0,0⟩ rfl (by omega) (by have:=zes op; omega) a2 rfl
   rw [show ((0:Nat):Int)=0 from rfl] at h2
   simp only [h2]
   cases h3:z3f S (off op) q ⟨op,0,0,0,0,0,0⟩ with
   | inr e=>rfl
   | inl r =>
    obtain ⟨j,r⟩:=r
    obtain ⟨b1,b2,b3,b4,b5⟩:=zde (zdm op) a2 (zye op) h3
    simp only [Option.bind_some,Bo.then]
    by_cases hk:j.Op_=1
    ·have e2:(j.Op_==1)=true:=by simp [hk]
     have h4:=ziv (n:=n) (k:=4) (by omega) b2 hS (by omega)
     rw [show ((4:Nat):Int)=4 from rfl] at h4
     simp only [e2,cond_true,if_pos hk,h4]
     cases valR S r 4 with
     | inr e=>rfl
     | inl w =>
      obtain ⟨v,u⟩:=w
      simp only [Option.bind_some,sumE,orRet_inl]
      rw [zi (by simp; omega),z1r (by omega)]
    ·have e2:(j.Op_==1)=false:=by simp [hk]
     have b4':j.Bits_=0:=b4
     simp only [e2,cond_false,if_neg hk,Option.bind_some,orRet_inl]
     rw [zi (by simp; omega),z1r (by omega),← b4']) (fun p acc=>by
  rw [zha]
  have e:decide ((N:Int)<(N:Int))=false:=by simp
  simp only [e,cond_false]) N 0 p n [] (by omega) hNn hp rfl
 simp only [List.nil_append] at this
 rw [show ((0:Nat):Int)=0 from rfl] at this
 refine this.trans ?_
 cases z1z (z5e S) N p <;> rfl
end
section
variable {n:Nat} {S:ByteArray}
end
def z7f (S:ByteArray) (p:Nat):Rd Xe:=match numR S p 64 with
 | .inr e=>.inr e
 | .inl (n1,p1)=>match z1z (parR S) n1.toNat p1 with
  | .inr e=>.inr e
  | .inl (l1,q1)=>match numR S q1 16384 with
   | .inr e=>.inr e
   | .inl (n2,p2)=>match z1z (typR S) n2.toNat p2 with
    | .inr e=>.inr e
    | .inl (l2,q2)=>match numR S q2 4096 with
     | .inr e=>.inr e
     | .inl (n3,p3)=>match z1z (z5j S) n3.toNat p3 with
      | .inr e=>.inr e
      | .inl (l3,q3)=>match numR S q3 32768 with
       | .inr e=>.inr e
       | .inl (n4,p4)=>match z1z (z5e S) n4.toNat p4 with
        | .inr e=>.inr e
        | .inl (l4,q4)=>.inl (⟨l1,l2,l3,l4⟩,q4)
theorem y46 {n:Nat} {S:ByteArray} {p:Nat} (hn:S.size+100000<n) (hp:p≤S.size) (hS:S.size≤BIG):f227 n (S,(p:Int))=some (match z7f S p with | .inl (c,q)=>.inl (S,(q:Int),c.Sign_,c.Regs_,c.Slots_,c.List_) | .inr e=>.inr e):=by
 rw [y45]
 unfold z7f
 have h1:=z5d (n:=n) (most:=64) (by omega) hp hS (by decide)
 rw [show ((64:Nat):Int)=64 from rfl] at h1
 simp only [h1]
 cases k1:numR S p 64 with
 | inr e=>rfl
 | inl r =>
  obtain ⟨n1,p1⟩:=r
  obtain ⟨a1,a2,a3,a4,_⟩:=z3d hp k1
  have h2:=y65 (n:=n) (x:=(S,(p:Int))) (by omega) hS (N:=n1.toNat) (by omega) a2 (by omega)
  rw [show ((n1.toNat:Nat):Int)=n1 by omega] at h2
  simp only [Option.bind_some,sumE,h2]
  cases k2:z1z (parR S) n1.toNat p1 with
  | inr e=>rfl
  | inl r =>
   obtain ⟨l1,q1⟩:=r
   obtain ⟨b1,_⟩:=z6g (Q:=fun _=>True) (fun hp h=>⟨(zno hp h).2.1,trivial⟩) a2 k2
   have h3:=z5d (n:=n) (most:=16384) (by omega) b1 hS (by decide)
   rw [show ((16384:Nat):Int)=16384 from rfl] at h3
   simp only [Option.bind_some,Bo.then,h3]
   cases k3:numR S q1 16384 with
   | inr e=>rfl
   | inl r =>
    obtain ⟨n2,p2⟩:=r
    obtain ⟨c1,c2,c3,c4,_⟩:=z3d b1 k3
    have h4:=y64 (n:=n) (x:=(S,(p:Int))) (by omega) hS (N:=n2.toNat) (by omega) (l1:=l1) c2 (by omega)
    rw [show ((n2.toNat:Nat):Int)=n2 by omega] at h4
    simp only [Option.bind_some,sumE,h4]
    cases k4:z1z (typR S) n2.toNat p2 with
    | inr e=>rfl
    | inl r =>
     obtain ⟨l2,q2⟩:=r
     obtain ⟨d1,_⟩:=z6g (Q:=fun _=>True) (fun hp h=>⟨(zdu hp h).2.1,trivial⟩) c2 k4
     have h5:=z5d (n:=n) (most:=4096) (by omega) d1 hS (by decide)
     rw [show ((4096:Nat):Int)=4096 from rfl] at h5
     simp only [Option.bind_some,Bo.then,h5]
     cases k5:numR S q2 4096 with
     | inr e=>rfl
     | inl r =>
      obtain ⟨n3,p3⟩:=r
      obtain ⟨e1,e2,e3,e4,_⟩:=z3d d1 k5
      have h6:=y63 (n:=n) (x:=(S,(p:Int))) (by omega) hS (N:=n3.toNat) (by omega) (l1:=l1) (l2:=l2) e2 (by omega)
      rw [show ((n3.toNat:Nat):Int)=n3 by omega] at h6
      simp only [Option.bind_some,sumE,h6]
      cases k6:z1z (z5j S) n3.toNat p3 with
      | inr e=>rfl
      | inl r =>
       obtain ⟨l3,q3⟩:=r
       obtain ⟨ff1,_⟩:=z6g (Q:=fun _=>True) (fun hp h=>⟨(zf1 hp h).2.1,trivial⟩) e2 k6
       have h7:=z5d (n:=n) (most:=32768) (by omega) ff1 hS (by decide)
       rw [show ((32768:Nat):Int)=32768 from rfl] at h7
       simp only [Option.bind_some,Bo.then,h7]
       cases k7:numR S q3 32768 with
       | inr e=>rfl
       | inl r =>
        obtain ⟨n4,p4⟩:=r
        obtain ⟨g1,g2,g3,g4,_⟩:=z3d ff1 k7
        have h8:=y62 (n:=n) (x:=(S,(p:Int))) (by omega) hS (N:=n4.toNat) (by omega) (l1:=l1) (l2:=l2) (l3:=l3) g2 (by omega)
        rw [show ((n4.toNat:Nat):Int)=n4 by omega] at h8
        simp only [Option.bind_some,sumE,h8]
        cases k8:z1z (z5e S) n4.toNat p4 with
        | inr e=>rfl
        | inl r=>rfl
theorem y3m {S:ByteArray} {p q:Nat} {c:Xe} (hp:p≤S.size) (h:z7f S p = .inl (c,q)):q≤S.size∧U32s c∧(∀ i ∈ c.List_,z2b i)∧c.Sign_.length≤64∧c.Regs_.length≤16384∧c.Slots_.length≤4096∧c.List_.length≤32768:=by
 unfold z7f at h
 split at h
 ·cases h
 ·rename_i n1 p1 k1
  obtain ⟨a1,a2,a3,a4,_⟩:=z3d hp k1
  split at h
  ·cases h
  ·rename_i l1 q1 k2
   obtain ⟨b1,b2,_⟩:=z6g (Q:=fun _=>True) (fun hp h=>⟨(zno hp h).2.1,trivial⟩) a2 k2
   split at h
   ·cases h
   ·rename_i n2 p2 k3
    obtain ⟨c1,c2,c3,c4,_⟩:=z3d b1 k3
    split at h
    ·cases h
    ·rename_i l2 q2 k4
     obtain ⟨d1,d2,_⟩:=z6g (Q:=fun _=>True) (fun hp h=>⟨(zdu hp h).2.1,trivial⟩) c2 k4
     split at h
     ·cases h
     ·rename_i n3 p3 k5
      obtain ⟨e1,e2,e3,e4,_⟩:=z3d d1 k5
      split at h
      ·cases h
      ·rename_i l3 q3 k6
       obtain ⟨ff1,ff2,ff3⟩:=z6g (Q:=fun x:Xc=>0≤x.Bits_∧x.Bits_<4294967296) (fun hp h=>⟨(zf1 hp h).2.1,(zf1 hp h).2.2.2⟩) e2 k6
       split at h
       ·cases h
       ·rename_i n4 p4 k7
        obtain ⟨g1,g2,g3,g4,_⟩:=z3d ff1 k7
        split at h
        ·cases h
        ·rename_i l4 q4 k8
         obtain ⟨i1,i2,i3⟩:=z6g (Q:=fun x:Xd=>z2b x∧0≤x.Bits_∧x.Bits_<4294967296) (fun hp h=>⟨(zj3 hp h).2.1,(zj3 hp h).2.2⟩) g2 k8
         cases h
         refine ⟨i1,⟨ff3,fun i hi=>(i3 i hi).2⟩,fun i hi=>(i3 i hi).1,?_,?_,?_,?_⟩
         ·show l1.length≤64; omega
         ·show l2.length≤16384; omega
         ·show l3.length≤4096; omega
         ·show l4.length≤32768; omega
theorem zys {S:ByteArray} {p:Nat} {e a:Int} (h:z7f S p = .inr (e,a)):e ≠ 0:=by
 unfold z7f at h
 split at h
 ·rename_i e' k; cases h; exact z5h k
 ·split at h
  ·rename_i e' k; cases h; exact z9d (fun h=>y4q h) k
  ·split at h
   ·rename_i e' k; cases h; exact z5h k
   ·split at h
    ·rename_i e' k; cases h; exact z9d (fun h=>zr8 h) k
    ·split at h
     ·rename_i e' k; cases h; exact z5h k
     ·split at h
      ·rename_i e' k; cases h; exact z9d (fun h=>zzw h) k
      ·split at h
       ·rename_i e' k; cases h; exact z5h k
       ·split at h
        ·rename_i e' k; cases h; exact z9d (fun h=>zzg h) k
        ·cases h
abbrev y03:=Int×Int×List Xa×List Xb×List Xc×List Xd
def no24 (e a:Int):y03:=(e,a,[],[],[],[])
abbrev mn4 (S:ByteArray):Int:=if (4:Int)<(S.size:Int) then (4:Int) else (S.size:Int)
def zan (S:ByteArray):Bool:=!((S.extract 0 (mn4 S).toNat)==((⟨#[108,116,104,49]⟩:ByteArray).extract 0 (mn4 S).toNat))
def decR (S:ByteArray):y03 :=
 if zan S=true then no24 240 0 else if S.size<4 then no24 242 0 else match z7f S 4 with
  | .inr (e,a)=>no24 e a
  | .inl (c,p)=>match valR S p 8 with
   | .inr (e,a)=>no24 e a
   | .inl (v,q)=>if (v:Int) ≠ crcL ((bytesOf S).take p) then no24 241 p else if q<S.size then no24 244 q else
    if (chk c).1 ≠ 0 then no24 (chk c).1 0 else (0,0,c.Sign_,c.Regs_,c.Slots_,c.List_)
theorem y8j (S:ByteArray):0≤mn4 S∧mn4 S≤(S.size:Int)∧mn4 S≤4:=by
 unfold mn4
 split <;> omega
theorem zfo {S:ByteArray} {p:Nat}:bytesOf (S.extract 0 p)=(bytesOf S).take p:=by rw [z3g,List.drop_zero]
theorem y48 {n:Nat} {S:ByteArray} (hn:S.size+10000000<n) (hS:S.size≤BIG):f228 n S=some (decR S):=by
 obtain ⟨m1,m2,m3⟩:=y8j S
 have hS':S.size≤4611686018427387904:=hS
 rw [y47,y49,zi ⟨m1,m2⟩,zi (by refine ⟨m1,?_⟩; show mn4 S≤((4:Nat):Int); omega)]
 show (Option.bind (bif zan S then _ else _) _)=_
 unfold decR
 cases hb:zan S with
 | true=>rfl
 | false =>
  simp only [cond_false]
  have h1:=zec (n:=n) (S:=S) (p:=0) (k:=4) (by omega) hS (by omega)
  rw [show ((4:Nat):Int)=4 from rfl,show ((0:Nat):Int)=0 from rfl] at h1
  simp only [h1]
  unfold z4r
  by_cases h4:S.size<4
  ·rw [if_pos (show S.size - 0<4 by omega)]
   simp only [if_pos h4]
   rfl
  ·rw [if_neg (show ¬ S.size - 0<4 by omega)]
   simp only [if_neg h4,Option.bind_some,sumE,Bool.false_eq_true,if_false]
   have h2:=y46 (n:=n) (S:=S) (p:=4) (by omega) (by omega) hS
   simp only [Nat.zero_add,h2]
   cases hc:z7f S 4 with
   | inr e =>
    obtain ⟨e,a⟩:=e
    have he:(e != 0)=true:=by simpa using zys hc
    simp only [Option.bind_some,sumE,he,cond_true]
    rfl
   | inl r =>
    obtain ⟨c,p⟩:=r
    obtain ⟨c1,c2,c3,c4,c5,c6,c7⟩:=y3m (by omega) hc
    have h3:=ziv (n:=n) (S:=S) (p:=p) (k:=8) (by omega) c1 hS (by omega)
    rw [show ((8:Nat):Int)=8 from rfl] at h3
    simp only [Option.bind_some,sumE,h3]
    cases hv:valR S p 8 with
    | inr e =>
     obtain ⟨e,a⟩:=e
     have he:(e != 0)=true:=by simpa using zja hv
     simp only [Option.bind_some,sumE,he,cond_true]
     rfl
    | inl r =>
     obtain ⟨v,q⟩:=r
     obtain ⟨d1,d2,d3,d4⟩:=zoc c1 hv
     simp only [Option.bind_some,sumE,Int.toNat_natCast]
     have hsz:(S.extract 0 p).size≤S.size:=by rw [← zt,zfo,List.length_take,zt]; omega
     rw [zi (by omega),zoz (by omega) (by omega),zfo]
     simp only [Option.bind_some]
     by_cases hx:(v:Int)=crcL ((bytesOf S).take p)
     ·have e1:((v:Int) != crcL ((bytesOf S).take p))=false:=by simp [hx]
      rw [e1,if_neg (fun h=>h hx),cond_false]
      by_cases hq:q<S.size
      ·have e2:decide ((q:Int)<(S.size:Int))=true:=by simp; omega
       rw [e2,if_pos hq]; rfl
      ·have e2:decide ((q:Int)<(S.size:Int))=false:=by simp; omega
       rw [e2,if_neg hq]
       have eC:(⟨c.Sign_,c.Regs_,c.Slots_,c.List_⟩:Xe)=c:=rfl
       simp only [cond_false,Option.bind_some,bne_self_eq_false,eC,(zly (n:=n) (c:=c) (by omega) c2.1 c2.2).1]
       by_cases hk:(chk c).1=0
       ·have e3:((chk c).1 != 0)=false:=by simp [hk]
        rw [e3,if_neg (fun h=>h hk)]; rfl
       ·have e3:((chk c).1 != 0)=true:=by simp [hk]
        rw [e3,if_pos hk]; rfl
     ·have e1:((v:Int) != crcL ((bytesOf S).take p))=true:=by simp [hx]
      rw [e1,if_pos hx]; rfl
abbrev at24 (S:ByteArray) (p:Nat) (l r:List Int):Prop:=p≤S.size∧(bytesOf S).drop p=l++r
theorem at24.next {S:ByteArray} {p:Nat} {l r:List Int} (h:at24 S p l r):at24 S (p+l.length) [] r:=by
 have h1:=congrArg List.length h.2
 rw [List.length_drop,zt,List.length_append] at h1
 have:=h.1
 refine ⟨by omega,?_⟩
 rw [← List.drop_drop,h.2,List.drop_left]; rfl
theorem at24.split {S:ByteArray} {p:Nat} {a b r:List Int} (h:at24 S p (a++b) r):at24 S p a (b++r):=⟨h.1,by rw [h.2,List.append_assoc]⟩
theorem at24.rest {S:ByteArray} {p:Nat} {a r:List Int} (h:at24 S p [] (a++r)):at24 S p a r:=⟨h.1,h.2⟩
theorem at24.len {S:ByteArray} {p:Nat} {l r:List Int} (h:at24 S p l r):p+l.length≤S.size:=by
 have h1:=congrArg List.length h.2
 rw [List.length_drop,zt,List.length_append] at h1
 have:=h.1; omega
theorem at24.head {S:ByteArray} {p:Nat} {x:Int} {b r:List Int} (h:at24 S p (x::b) r):at24 S p [x] (b++r):=⟨h.1,by rw [h.2]; rfl⟩
theorem at24.tail {S:ByteArray} {p:Nat} {x:Int} {b r:List Int} (h:at24 S p (x::b) r):at24 S (p+1) b r:=at24.rest h.head.next
theorem at24.app {S:ByteArray} {p:Nat} {a b r:List Int} (h:at24 S p (a++b) r):at24 S (p+a.length) b r:=at24.rest h.split.next
theorem znl {rest:List Int}:∀ (f v k acc:Nat),v<128 ^ (f+1)→k+(f+1)≤9→(0<k→0<v)→numL k acc (numN v++rest) = .inl (acc+v * 128 ^ k,k+(numN v).length)
 | 0,v,k,acc,h,hk,hv=>by
  rw [z39 (by omega)]
  simp only [List.cons_append,List.nil_append,numL]
  rw [if_neg (by omega),if_pos (by omega)]
  simp
 | f+1,v,k,acc,h,hk,hv=>by
  by_cases hs:v<128
  ·rw [z39 hs]
   simp only [List.cons_append,List.nil_append,numL]
   rw [if_neg (by omega),if_pos (by omega)]
   simp
  ·rw [zch hs]
   simp only [List.cons_append,numL]
   rw [if_neg (by omega),if_neg (by omega),znl f (v / 128) (k+1) _ (by rw [Nat.pow_succ] at h; omega) (by omega) (fun _=>by omega)]
   have e1:(((v % 128+128:Nat):Int).toNat) % 128=v % 128:=by omega
   rw [e1,List.length_cons]
   have e2:v % 128 * 128 ^ k+v / 128 * 128 ^ (k+1)=v * 128 ^ k:=by
    rw [Nat.pow_succ,Nat.mul_comm (128 ^ k) 128,← Nat.mul_assoc,← Nat.add_mul]
    congr 1
    omega
   rw [Nat.add_assoc acc,e2]
   congr 2
   omega
theorem z8a {S:ByteArray} {p M:Nat} {v:Int} {r:List Int} (h0:0≤v) (hM:v≤(M:Int)) (hv:v<LIM) (h:at24 S p (num v) r):numR S p M = .inl (v,p+(num v).length):=by
 have hv:v<9223372036854775808:=hv
 obtain ⟨w,rfl⟩:∃ w:Nat,v=w:=⟨v.toNat,by omega⟩
 rw [y4k] at h ⊢
 unfold numR
 rw [h.2,znl 8 w 0 0 (by have:(128:Nat) ^ (8+1)=9223372036854775808:=rfl; omega) (by omega) (by omega)]
 simp only [Nat.pow_zero,Nat.mul_one,Nat.zero_add]
 rw [if_neg (by omega)]
theorem zl9 {S:ByteArray} {p:Nat} {b lo hi:Int} {r:List Int} (h1:lo≤b) (h2:b≤hi) (h:at24 S p [b] r):oneR S p lo hi = .inl (b,p+1):=by
 have hl:=h.len
 have hp2:p<(bytesOf S).length:=by rw [zt]; simp at hl; omega
 have hb:zb S (p:Int)=b:=by
  rw [z8c hp2]
  have:=h.2
  rw [List.drop_eq_getElem_cons hp2] at this
  exact (List.cons.inj this).1
 unfold oneR
 rw [if_neg (by simp at hl; omega)]
 simp only [hb]
 rw [if_neg (by omega)]
theorem zsr {S:ByteArray} {p:Nat} {s:ByteArray} {r:List Int} (h:at24 S p (bytesOf s) r):z4r S p s.size = .inl (s,p+s.size):=by
 have hl:=h.len
 rw [zt] at hl
 unfold z4r
 rw [if_neg (by omega)]
 congr 2
 apply zf9
 rw [z3g,List.drop_take,show p+s.size - p=s.size by omega,h.2,List.take_append_of_le_length (by rw [zt]; omega),List.take_of_length_le (by rw [zt]; omega)]
theorem zob {v:Int} (h0:0≤v):∀ k:Nat,valL (low v k)=v.toNat % 256 ^ k
 | 0=>by simp [low,valL,Nat.mod_one]
 | k+1=>by
  rw [znf,zg6,zob h0 k,z5f]
  have e:(IntKind.u8.wrap (v.fdiv (2 ^ (8 * k)))).toNat=v.toNat / 256 ^ k % 256:=by
   rw [zbe,Int.fdiv_eq_ediv_of_nonneg _ (Int.le_of_lt (Int.pow_pos (by decide)))]
   have e2:((2:Int) ^ (8 * k))=((256 ^ k:Nat):Int):=by rw [pow8]; simp
   rw [e2]
   obtain ⟨w,rfl⟩:∃ w:Nat,v=w:=⟨v.toNat,by omega⟩
   rw [← Int.natCast_ediv]
   simp only [Int.toNat_natCast]
   generalize w / 256 ^ k=z
   omega
  rw [e,Nat.pow_succ]
  exact (Nat.mod_mul.trans (by rw [Nat.mul_comm])).symm
theorem zrg {S:ByteArray} {p k:Nat} {v:Int} {r:List Int} (h0:0≤v) (h:at24 S p (low v k) r):valR S p k = .inl (v.toNat % 256 ^ k,p+k):=by
 have hs:at24 S p (bytesOf (z1m (low v k))) r:=by rw [z5x (zb6 v k)]; exact h
 have:=zsr hs
 rw [z71,z5f] at this
 unfold valR
 rw [this]
 simp only
 rw [z5x (zb6 v k),zob h0]
theorem y05 {S:ByteArray} {p:Nat} {t:Xb} {r:List Int} (hk:t.Kind_=1∨t.Kind_=2∨t.Kind_=3) (h0:0≤t.Param_) (h1:t.Param_<LIM) (hz:t.Kind_ ≠ 3→t.Param_=0) (h:at24 S p (typB t) r):typR S p = .inl (t,p+(typB t).length):=by
 have e8:IntKind.u8.wrap t.Kind_=t.Kind_:=zbf (by omega) (by omega)
 unfold typB at h ⊢
 rw [e8] at h ⊢
 have ho:=zl9 (lo:=1) (hi:=3) (by omega) (by omega) h.head
 have hn:=h.tail
 unfold typR
 rw [ho]
 simp only
 by_cases h3:t.Kind_=3
 ·have e3:(t.Kind_==3)=true:=by simp [h3]
  rw [e3,cond_true] at hn ⊢
  have:=z8a (M:=ANY) h0 (by have:t.Param_<9223372036854775808:=h1; show t.Param_≤9223372036854775807; omega) h1 hn
  rw [if_pos h3,this]
  simp only [List.length_cons]
  congr 2
  omega
 ·have e3:(t.Kind_==3)=false:=by simp [h3]
  rw [e3,cond_false,if_neg h3]
  obtain ⟨k,q⟩:=t
  have:q=0:=hz h3
  subst this
  simp
structure y06 (x:Xc):Prop where
 kind:x.Type_.Kind_=1∨x.Type_.Kind_=2∨x.Type_.Kind_=3
 p0:0≤x.Type_.Param_
 p1:x.Type_.Param_<LIM
 pz:x.Type_.Kind_ ≠ 3→x.Type_.Param_=0
 i0:0≤x.Int_
 i1:x.Int_<LIM
 b0:0≤x.Bits_
 b1:x.Bits_<4294967296
 two:x.Type_.Kind_=2→x.Bits_=0
 not2:x.Type_.Kind_ ≠ 2→x.Int_=0
theorem zra {b:Int} (h0:0≤b) (h1:b<4294967296):IntKind.u64.wrap b=b:=z2n h0 (by omega)
theorem zr9 {b:Int} (h0:0≤b) (h1:b<4294967296):IntKind.u32.wrap ((b.toNat % 256 ^ 4:Nat):Int)=b:=by
 have e:(256:Nat) ^ 4=4294967296:=rfl
 have:IntKind.u32.wrap ((b.toNat % 256 ^ 4:Nat):Int)=((b.toNat % 256 ^ 4:Nat):Int) % 4294967296:=by simp [IntKind.wrap,IntKind.bits,IntKind.signed]
 rw [this,e]; omega
theorem y58 {S:ByteArray} {p:Nat} {x:Xc} {r:List Int} (hx:y06 x) (h:at24 S p (z4s x) r):z5j S p = .inl (x,p+(z4s x).length):=by
 unfold z4s at h ⊢
 have ho:=zl9 (lo:=0) (hi:=1) (by cases x.Keep_ <;> decide) (by cases x.Keep_ <;> decide) h.head
 have ht:=y05 hx.kind hx.p0 hx.p1 hx.pz h.tail.split
 have h3:=h.tail.app
 have ek:((bif x.Keep_ then (1:Int) else 0)==1)=x.Keep_:=by cases x.Keep_ <;> rfl
 unfold z5j
 rw [ho]
 simp only [ht,ek]
 by_cases h2:x.Type_.Kind_=2
 ·have e2:(x.Type_.Kind_==2)=true:=by simp [h2]
  rw [e2,cond_true] at h3 ⊢
  have:=z8a (M:=ANY) hx.i0 (by have:x.Int_<9223372036854775808:=hx.i1; show x.Int_≤9223372036854775807; omega) hx.i1 h3
  simp only [if_pos h2,this,List.length_cons,List.length_append]
  obtain ⟨t,k,b,i⟩:=x
  have:b=0:=hx.two h2
  subst this
  congr 2
  omega
 ·have e2:(x.Type_.Kind_==2)=false:=by simp [h2]
  rw [e2,cond_false,zra hx.b0 hx.b1] at h3 ⊢
  have:=zrg hx.b0 h3
  simp only [if_neg h2,this,List.length_cons,List.length_append,z5f,zr9 hx.b0 hx.b1]
  obtain ⟨t,k,b,i⟩:=x
  have:i=0:=hx.not2 h2
  subst this
  congr 2
  omega
structure ParN (p:Xa):Prop where
 name:p.Name_.size≤64
 kind:p.Kind_=1∨p.Kind_=2
 l0:0≤p.Len_
 l1:p.Len_<LIM
theorem y94 {S:ByteArray} {p:Nat} {x:Xa} {r:List Int} (hx:ParN x) (h:at24 S p (parB x) r):parR S p = .inl (x,p+(parB x).length):=by
 have hk:=hx.kind
 have hn:=hx.name
 have e8:IntKind.u8.wrap x.Kind_=x.Kind_:=zbf (by omega) (by omega)
 unfold parB at h ⊢
 rw [e8] at h ⊢
 have ho:=zl9 (lo:=1) (hi:=2) (by omega) (by omega) h.head
 have hm:=z8a (M:=64) (by omega) (by omega) (z1q (by omega)) h.tail.split
 have hp:=zsr h.tail.app.split
 have hl:=z8a (M:=ANY) hx.l0 (by have:x.Len_<9223372036854775808:=hx.l1; show x.Len_≤9223372036854775807; omega) hx.l1 h.tail.app.app
 unfold parR
 rw [zt] at hl
 rw [ho]
 simp only [hm,Int.toNat_natCast,hp,hl,List.length_cons,List.length_append,zt]
 congr 2
 omega
theorem zd2 {α:Type} {S:ByteArray} {f:Nat→Rd α} {enc:α→List Int}:∀ (xs:List α) (p:Nat) (r:List Int),(∀ x ∈ xs,∀ p r,at24 S p (enc x) r→f p = .inl (x,p+(enc x).length))→at24 S p (xs.flatMap enc) r→z1z f xs.length p = .inl (xs,p+(xs.flatMap enc).length)
 | [],p,r,hf,h=>by simp [z1z]
 | x::xs,p,r,hf,h=>by
  rw [List.flatMap_cons] at h ⊢
  have h1:=at24.split h
  simp only [List.length_cons,z1z]
  rw [hf x (by simp) p _ h1]
  simp only
  rw [zd2 xs _ r (fun y hy=>hf y (by simp [hy])) h.app]
  simp only [List.length_append]
  congr 2
  omega
structure zre (i:Xd):Prop where
 op:1≤i.Op_∧i.Op_≤37
 w0:∀ k,0≤fv i k
 w1:z2b i
 z:∀ k,1≤k→k≤5→k ∉ off i.Op_→fv i k=0
 b0:0≤i.Bits_
 b1:i.Bits_<4294967296
 one:i.Op_ ≠ 1→i.Bits_=0
theorem zlq {S:ByteArray} {i:Xd} (h0:∀ k,0≤fv i k) (h1:z2b i):∀ (ks:List Nat) (p:Nat) (j:Xd) (r:List Int),at24 S p (ks.flatMap fun k=>num (fv i k)) r→z3f S ks p j = .inl (ks.foldl (fun j k=>putF j k (fv i k)) j,p+(ks.flatMap fun k=>num (fv i k)).length)
 | [],p,j,r,h=>rfl
 | k::ks,p,j,r,h=>by
  rw [List.flatMap_cons] at h ⊢
  have:=h1.fv k
  have hn:=z8a (M:=ANY) (h0 k) (by have:fv i k<9223372036854775808:=this; show fv i k≤9223372036854775807; omega) this h.split
  simp only [z3f,hn,List.foldl_cons]
  rw [zlq h0 h1 ks _ _ r h.app,List.length_append,Nat.add_assoc]
theorem y7v {j:Xd} {k k':Nat} {v:Int} (h:1≤k'∧k'≤5):fv (putF j k v) k'=if k=k' then v else fv j k':=by
 have b:∀ m:Nat,Nat.beq k m=decide (k=m):=fun m=>by
  cases hb:Nat.beq k m with
  | true=>exact (decide_eq_true (Nat.eq_of_beq_eq_true hb)).symm
  | false=>exact (decide_eq_false (Nat.ne_of_beq_eq_false hb)).symm
 have:k'=1∨k'=2∨k'=3∨k'=4∨k'=5:=by omega
 rcases this with rfl | rfl | rfl | rfl | rfl <;> simp only [fv,putF,b] <;> (try simp only [if_true,reduceIte,Nat.reduceEqDiff]) <;> (split <;> simp_all)
theorem zns {i:Xd}:∀ (ks:List Nat) (j:Xd),(∀ k ∈ ks,1≤k∧k≤5)→(ks.foldl (fun j k=>putF j k (fv i k)) j).Op_=j.Op_∧(ks.foldl (fun j k=>putF j k (fv i k)) j).Bits_=j.Bits_∧∀ k',1≤k'→k'≤5→fv (ks.foldl (fun j k=>putF j k (fv i k)) j) k'=if k' ∈ ks then fv i k' else fv j k'
 | [],j,h=>⟨rfl,rfl,fun k' _ _=>by simp⟩
 | k::ks,j,h=>by
  rw [List.foldl_cons]
  obtain ⟨a,b,c⟩:=zns ks (putF j k (fv i k)) fun k' hk=>h k' (by simp [hk])
  have hk:=h k (by simp)
  have h0:Nat.beq k 0=false:=by cases k with | zero=>omega | succ k=>rfl
  refine ⟨?_,b,fun k' h1 h2=>?_⟩
  ·rw [a]
   show (bif Nat.beq k 0 then fv i k else j.Op_)=j.Op_
   rw [h0,cond_false]
  ·rw [c k' h1 h2,y7v ⟨h1,h2⟩]
   by_cases hm:k' ∈ ks
   ·simp [hm]
   ·by_cases he:k=k'
    ·subst he; simp [hm]
    ·have:¬ k'=k:=fun e=>he e.symm
     simp [hm,he,this]
theorem zn6 {i j:Xd} (ho:i.Op_=j.Op_) (hb:i.Bits_=j.Bits_) (h:∀ k,1≤k→k≤5→fv i k=fv j k):i=j:=by
 have h1:=h 1 (by omega) (by omega)
 have h2:=h 2 (by omega) (by omega)
 have h3:=h 3 (by omega) (by omega)
 have h4:=h 4 (by omega) (by omega)
 have h5:=h 5 (by omega) (by omega)
 simp [fv] at h1 h2 h3 h4 h5
 cases i; cases j; simp_all
theorem y4f (op b:Int) (k:Nat):fv ⟨op,0,0,0,0,0,b⟩ k=0:=by
 unfold fv
 split
 ·rfl
 ·split
  ·rfl
  ·split
   ·rfl
   ·split <;> rfl
theorem y57 {S:ByteArray} {p:Nat} {i:Xd} {r:List Int} (hi:zre i) (h:at24 S p (z4q i) r):z5e S p = .inl (i,p+(z4q i).length):=by
 have ho':=hi.op
 have e8:IntKind.u8.wrap i.Op_=i.Op_:=zbf (by omega) (by omega)
 unfold z4q fldB at h ⊢
 rw [e8] at h ⊢
 have ho:=zl9 (lo:=1) (hi:=37) ho'.1 ho'.2 h.head
 have hf:=zlq hi.w0 hi.w1 (off i.Op_) (p+1) ⟨i.Op_,0,0,0,0,0,0⟩ _ h.tail.split
 obtain ⟨a,b,c⟩:=zns (i:=i) (off i.Op_) ⟨i.Op_,0,0,0,0,0,0⟩ (zdm i.Op_)
 generalize hj:(off i.Op_).foldl (fun j k=>putF j k (fv i k)) ⟨i.Op_,0,0,0,0,0,0⟩=j at *
 have hfv:∀ k,1≤k→k≤5→fv j k=fv i k:=fun k k1 k2=>by
  rw [c k k1 k2]
  split
  ·rfl
  ·rename_i hm; rw [y4f,hi.z k k1 k2 hm]
 have a:j.Op_=i.Op_:=a
 have b:j.Bits_=0:=b
 unfold z5e
 rw [ho]
 simp only [hf,a]
 have ht:=h.tail.app
 by_cases h1:i.Op_=1
 ·have e1:(i.Op_==1)=true:=by simp [h1]
  rw [e1,cond_true,zra hi.b0 hi.b1] at ht ⊢
  have hv:=zrg hi.b0 ht
  simp only [if_pos h1,hv,zr9 hi.b0 hi.b1,List.length_cons,List.length_append,z5f]
  have:(⟨i.Op_,j.D_,j.A_,j.B_,j.C_,j.N_,i.Bits_⟩:Xd)=i:=zn6 rfl rfl fun k k1 k2=>(show fv _ k=fv j k from rfl).trans (hfv k k1 k2)
  rw [this]
  congr 2
  omega
 ·have e1:(i.Op_==1)=false:=by simp [h1]
  rw [e1,cond_false,if_neg h1]
  have:j=i:=zn6 a (b.trans (hi.one h1).symm) hfv
  rw [this]
  simp only [List.length_cons,List.length_append,List.length_nil]
  congr 2
  omega
structure y04 (c:Xe):Prop where
 s:∀ p ∈ c.Sign_,ParN p
 r:∀ t ∈ c.Regs_,(t.Kind_=1∨t.Kind_=2∨t.Kind_=3)∧0≤t.Param_∧t.Param_<LIM∧(t.Kind_ ≠ 3→t.Param_=0)
 o:∀ x ∈ c.Slots_,y06 x
 l:∀ i ∈ c.List_,zre i
def z7d (c:Xe):List Int :=
 num (c.Sign_.length:Int)++(c.Sign_.flatMap parB++(num (c.Regs_.length:Int)++(c.Regs_.flatMap typB++(num (c.Slots_.length:Int)++(c.Slots_.flatMap z4s++(num (c.List_.length:Int)++c.List_.flatMap z4q))))))
theorem zgq (c:Xe):z3k c=[108,116,104,49]++z7d c:=by simp only [z3k,z7d,List.append_assoc]
theorem y56 {S:ByteArray} {p:Nat} {c:Xe} {r:List Int} (hN:y04 c) (h6:z4t c) (h:at24 S p (z7d c) r):z7f S p = .inl (c,p+(z7d c).length):=by
 have sl:=h6.sl
 have rl:=h6.rl
 have ol:=h6.ol
 have ll:=h6.ll
 unfold z7d at h ⊢
 have a1:=z8a (M:=64) (by omega) (by omega) (z1q (by omega)) h.split
 have a2:=zd2 (f:=parR S) c.Sign_ _ _ (fun x hx p r hp=>y94 (hN.s x hx) hp) h.app.split
 have a3:=z8a (M:=16384) (by omega) (by omega) (z1q (by omega)) h.app.app.split
 have a4:=zd2 (f:=typR S) c.Regs_ _ _ (fun x hx p r hp=>y05 (hN.r x hx).1 (hN.r x hx).2.1 (hN.r x hx).2.2.1 (hN.r x hx).2.2.2 hp) h.app.app.app.split
 have a5:=z8a (M:=4096) (by omega) (by omega) (z1q (by omega)) h.app.app.app.app.split
 have a6:=zd2 (f:=z5j S) c.Slots_ _ _ (fun x hx p r hp=>y58 (hN.o x hx) hp) h.app.app.app.app.app.split
 have a7:=z8a (M:=32768) (by omega) (by omega) (z1q (by omega)) h.app.app.app.app.app.app.split
 have a8:=zd2 (f:=z5e S) c.List_ _ _ (fun x hx p r hp=>y57 (hN.l x hx) hp) h.app.app.app.app.app.app.app
 unfold z7f
 simp only [a1,a2,a3,a4,a5,a6,a7,a8,Int.toNat_natCast,List.length_append]
 congr 2
 omega
theorem zex {c:Xe} {s k:Int} {d:Xb} (h:z1b c s k d=true):0≤k∧(s=0→k=0):=by
 unfold z1b at h
 by_cases hs:s=0
 ·have e:(s==0)=true:=by simp [hs]
  rw [e,cond_true] at h
  simp only [beq_iff_eq] at h
  exact ⟨by omega,fun _=>h⟩
 ·have e:(s==0)=false:=by simp [hs]
  rw [e,cond_false] at h
  split at h
  ·cases h
  ·rename_i t ht
   exact ⟨(zb3 ht).2.1,fun h=>absurd h hs⟩
theorem yba {c:Xe} {s N:Int} {t:Xb} (h:nOk c s N t=true):0≤N∧(s=0→N=0):=by
 unfold nOk at h
 by_cases h1:s=1
 ·have e:(s==1)=true:=by simp [h1]
  rw [e,cond_true] at h
  simp only [Bool.and_eq_true,decide_eq_true_eq] at h
  exact ⟨h.1,by omega⟩
 ·have e:(s==1)=false:=by simp [h1]
  rw [e,cond_false] at h
  by_cases h2:s=2
  ·have e:(s==2)=true:=by simp [h2]
   rw [e,cond_true] at h
   simp only [Bool.or_eq_true,Bool.and_eq_true,beq_iff_eq] at h
   exact ⟨by omega,by omega⟩
  ·have e:(s==2)=false:=by simp [h2]
   rw [e,cond_false] at h
   by_cases h3:s=3
   ·have e:(s==3)=true:=by simp [h3]
    rw [e,cond_true] at h
    split at h
    ·rename_i z hz
     exact ⟨(zb3 hz).2.1,by omega⟩
    ·cases h
   ·have e:(s==3)=false:=by simp [h3]
    rw [e,cond_false] at h
    by_cases h4:s=4
    ·have e:(s==4)=true:=by simp [h4]
     rw [e,cond_true] at h
     simp only [Bool.and_eq_true,decide_eq_true_eq] at h
     exact ⟨h.1,by omega⟩
    ·have e:(s==4)=false:=by simp [h4]
     rw [e,cond_false] at h
     simp only [beq_iff_eq] at h
     exact ⟨by omega,fun _=>h⟩
theorem y4y {op:Int} {r:z3s} (h:rowD op=some r):1≤op∧op≤37:=by
 rcases z54 op with h1 | h1
 ·omega
 ·rw [z31 h1] at h; cases h
theorem zzf {c:Xe} {i:Xd} (h:fits c i=true) (hi:z2b i) (b0:0≤i.Bits_) (b1:i.Bits_<4294967296):zre i:=by
 unfold fits at h
 split at h
 ·cases h
 ·rename_i r hr
  simp only [Bool.and_eq_true] at h
  obtain ⟨h1,h2,h3,h4,h5,h6⟩:=h
  obtain ⟨d0,d1⟩:=zex h1
  obtain ⟨a0,a1⟩:=zex h2
  obtain ⟨e0,e1⟩:=zex h3
  obtain ⟨c0,c1⟩:=zex h4
  obtain ⟨n0,n1⟩:=yba h6
  refine ⟨y4y hr,fun k=>?_,hi,fun k k1 k2 hk=>?_,b0,b1,fun ho=>?_⟩
  ·unfold fv
   split
   ·exact d0
   ·split
    ·exact a0
    ·split
     ·exact e0
     ·split
      ·exact c0
      ·exact n0
  ·simp only [off,hr,List.mem_append,not_or] at hk
   obtain ⟨q1,q2,q3,q4,q5⟩:=hk
   have nt:∀ {s:Int} {m:Nat},k=m→k ∉ (bif s==0 then [] else [m]:List Nat)→s=0:=fun {s m} e hq=>by
    by_cases hs:s=0
    ·exact hs
    ·have:(s==0)=false:=by simp [hs]
     rw [this,cond_false] at hq
     exact absurd (by simp [e]) hq
   have:k=1∨k=2∨k=3∨k=4∨k=5:=by omega
   rcases this with e | e | e | e | e
   ·have:=d1 (nt e q1); subst e; exact this
   ·have:=a1 (nt e q2); subst e; exact this
   ·have:=e1 (nt e q3); subst e; exact this
   ·have:=c1 (nt e q4); subst e; exact this
   ·have:=n1 (nt e q5); subst e; exact this
  ·unfold z7o at h5
   have:(i.Op_==1)=false:=by simp [ho]
   rw [this,cond_false] at h5
   simpa using h5
theorem zyr {c:Xe} (h:(chk c).1=0) (hU:U32s c) (hl:∀ i ∈ c.List_,z2b i):y04 c:=by
 obtain ⟨h1,h2,h3,h4,h5,h6,r,hr,_⟩:=zt4 h
 obtain ⟨s1,s2⟩:=zy0 h1
 rw [List.all_eq_true] at s2 h5 h6
 refine ⟨fun p hp=>?_,fun t ht=>?_,fun x hx=>?_,fun i hi=>?_⟩
 ·obtain ⟨q1,q2,q3,q4⟩:=zqt (s2 p hp)
  exact ⟨q1,q2,by omega,by show p.Len_<9223372036854775808; omega⟩
 ·obtain ⟨q1,q2,q3,q4⟩:=zep s1 (h5 t ht)
  exact ⟨q1,q2,by show t.Param_<9223372036854775808; omega,q4⟩
 ·obtain ⟨q1,q2⟩:=zqu (h6 x hx)
  obtain ⟨t1,t2,t3,t4⟩:=zep s1 q1
  obtain ⟨b0,b1⟩:=hU.1 x hx
  exact ⟨t1,t2,by show x.Type_.Param_<9223372036854775808; omega,t4,by rcases q2 with q | q <;> omega,by show x.Int_<9223372036854775808; rcases q2 with q | q <;> omega,b0,b1,fun h=>by rcases q2 with q | q <;> omega,fun h=>by rcases q2 with q | q <;> omega⟩
 ·exact zzf (zn4 c c.List_ 0 _ _ r hr i hi) (hl i hi) (hU.2 i hi).1 (hU.2 i hi).2
theorem y5e (l:List Int):0≤crcL l∧crcL l<18446744073709551616:=by
 unfold crcL
 have:=(~~~ crc0 l).isLt
 omega
theorem y5c {S:ByteArray} {r:List Int} (h:bytesOf S=[108,116,104,49]++r):zan S=false:=by
 have hl:=zt S
 rw [h] at hl
 simp only [List.length_append,List.length_cons,List.length_nil] at hl
 have hm:(mn4 S).toNat=4:=by unfold mn4; split <;> omega
 unfold zan
 rw [hm]
 have e1:S.extract 0 4=⟨#[108,116,104,49]⟩:=by
  apply zf9
  rw [zfo,h]; rfl
 have e2:(⟨#[108,116,104,49]⟩:ByteArray).extract 0 4=⟨#[108,116,104,49]⟩:=rfl
 rw [e1,e2,z63]; rfl
theorem y3o {c:Xe} (h:(chk c).1=0) (hU:U32s c) (hl:∀ i ∈ c.List_,z2b i):decR (z1m (bytC c))=(0,0,c.Sign_,c.Regs_,c.Slots_,c.List_):=by
 have h6:=zji h hl
 have hN:=zyr h hU hl
 have hby:Byt (bytC c):=(zjj h6).app (zb6 _ _)
 have hb:=z5x hby
 have hlen:=z71 (bytC c)
 have hbl:(bytC c).length=(z3k c).length+8:=by simp only [bytC,List.length_append,z5f]
 have hcl:(z3k c).length=4+(z7d c).length:=by rw [zgq]; simp; omega
 have hb2:bytesOf (z1m (bytC c))=[108,116,104,49]++(z7d c++low (crcL (z3k c)) 8):=by rw [hb,bytC,zgq,List.append_assoc]
 have at1:at24 (z1m (bytC c)) 4 (z7d c) (low (crcL (z3k c)) 8):=⟨by omega,by rw [hb2]; rfl⟩
 have at2:at24 (z1m (bytC c)) (4+(z7d c).length) (low (crcL (z3k c)) 8) []:=by
  have:=at1.next
  exact ⟨this.1,by rw [this.2]; simp⟩
 obtain ⟨k0,k1⟩:=y5e (z3k c)
 have hv:=zrg k0 at2
 have e8:(256:Nat) ^ 8=18446744073709551616:=rfl
 have ht:(bytesOf (z1m (bytC c))).take (4+(z7d c).length)=z3k c:=by
  rw [hb,bytC,← hcl,List.take_left]
 unfold decR
 rw [y5c hb2]
 simp only [Bool.false_eq_true,if_false]
 rw [if_neg (by omega),y56 hN h6 at1]
 simp only [hv,ht]
 rw [if_neg (fun hx=>hx (by omega)),if_neg (by omega),if_neg (fun hx=>hx h)]
abbrev rd24 (S:ByteArray) (p:Nat) (l:List Int) (q:Nat):Prop:=(bytesOf S).drop p=l++(bytesOf S).drop q
theorem rd24.comp {S:ByteArray} {p q r:Nat} {a b:List Int} (h:rd24 S p a q) (g:rd24 S q b r):rd24 S p (a++b) r:=by
 show _=_
 rw [show (bytesOf S).drop p=_ from h,show (bytesOf S).drop q=_ from g,List.append_assoc]
theorem zsy {c:Xe} (h:z4t c):(z1m (bytC c)).size≤3000008:=by
 have:=zjk h
 rw [z71,bytC,List.length_append,z5f]; omega
theorem zoy {c:Xe} (h:(chk c).1=0):z6q c=(z1m (bytC c),0):=by unfold z6q; rw [if_pos h]
theorem y3q {c:Xe} (h:(chk c).1 ≠ 0):z6q c=(⟨#[]⟩,(chk c).1):=by unfold z6q; rw [if_neg h]
theorem z7t {α:Type} {z:α} {N:Nat} (hN:N<9223372036854775806) {body:Int×List α→Option (Bo (Int×List α) (Int×List α) Empty)} (hgo:∀ (i:Nat) (l:List α),i<N→l.length=N→body ((i:Int),l)=some (.go (((i+1:Nat):Int),l.set i z))) (hend:∀ l:List α,l.length=N→body ((N:Int),l)=some (.out ((N:Int),l))) :
  ∀ (k i fuel:Nat) (l:List α),i+k=N→k<fuel→l.length=N→∃ l',iter body fuel ((i:Int),l)=some (.out ((N:Int),l'))
 | 0,i,fuel+1,l,h,hf,hl=>by
  obtain rfl:i=N:=by omega
  exact ⟨l,by rw [iter,hend l hl]⟩
 | k+1,i,fuel+1,l,h,hf,hl=>by
  obtain ⟨l',h'⟩:=z7t hN hgo hend k (i+1) fuel (l.set i z) (by omega) (by omega) (by simpa using hl)
  exact ⟨l',by rw [iter,hgo i l (by omega) hl]; exact h'⟩
section
variable {n:Nat} {x:Xe}
theorem ybc {v:ByteArray×(List Xa)×(List Xb)×(List Xc)×(List Xa)×(List Xb)×(List Xc)×(List Xd)} {l:List Xd} (h:l.length<4611686018427387904) (hn:l.length<n):∃ l',iter (zix n x v) n ((0:Int),l)=some (.out ((l.length:Int),l')) :=
 z7t (z:=⟨99,0,0,0,0,0,0⟩) (N:=l.length) (by omega) (fun i m hi hm=>by
  rw [zhc]
  have e:decide ((i:Int)<(m.length:Int))=true:=by simp; omega
  simp only [e,cond_true,Int.toNat_natCast,List.getElem?_eq_getElem (show i<m.length by omega),Option.bind_some]
  rw [zi (by omega),z1r (by omega)]) (fun m hm=>by
  rw [zhc]
  have e:decide ((l.length:Int)<(m.length:Int))=false:=by simp; omega
  simp only [e,cond_false]) l.length 0 n l (by omega) hn rfl
theorem ybd {v:ByteArray×(List Xb)×(List Xc)×(List Xd)×(List Xa)×(List Xb)×(List Xc)×(List Xd)} {l:List Xa} (h:l.length<4611686018427387904) (hn:l.length<n):∃ l',iter (ziy n x v) n ((0:Int),l)=some (.out ((l.length:Int),l')) :=
 z7t (z:=⟨⟨#[]⟩,0,0⟩) (N:=l.length) (by omega) (fun i m hi hm=>by
  rw [zhd]
  have e:decide ((i:Int)<(m.length:Int))=true:=by simp; omega
  simp only [e,cond_true,Int.toNat_natCast,List.getElem?_eq_getElem (show i<m.length by omega),Option.bind_some]
  rw [zi (by omega),z1r (by omega)]) (fun m hm=>by
  rw [zhd]
  have e:decide ((l.length:Int)<(m.length:Int))=false:=by simp; omega
  simp only [e,cond_false]) l.length 0 n l (by omega) hn rfl
theorem ybe {v:ByteArray×(List Xa)×(List Xc)×(List Xd)×(List Xa)×(List Xb)×(List Xc)×(List Xd)} {l:List Xb} (h:l.length<4611686018427387904) (hn:l.length<n):∃ l',iter (ziz n x v) n ((0:Int),l)=some (.out ((l.length:Int),l')) :=
 z7t (z:=⟨0,0⟩) (N:=l.length) (by omega) (fun i m hi hm=>by
  rw [zhe]
  have e:decide ((i:Int)<(m.length:Int))=true:=by simp; omega
  simp only [e,cond_true,Int.toNat_natCast,List.getElem?_eq_getElem (show i<m.length by omega),Option.bind_some]
  rw [zi (by omega),z1r (by omega)]) (fun m hm=>by
  rw [zhe]
  have e:decide ((l.length:Int)<(m.length:Int))=false:=by simp; omega
  simp only [e,cond_false]) l.length 0 n l (by omega) hn rfl
theorem ybf {v:ByteArray×(List Xa)×(List Xb)×(List Xd)×(List Xa)×(List Xb)×(List Xc)×(List Xd)} {l:List Xc} (h:l.length<4611686018427387904) (hn:l.length<n):∃ l',iter (zj0 n x v) n ((0:Int),l)=some (.out ((l.length:Int),l')) :=
 z7t (z:=⟨⟨0,0⟩,false,0,5⟩) (N:=l.length) (by omega) (fun i m hi hm=>by
  rw [zhf]
  have e:decide ((i:Int)<(m.length:Int))=true:=by simp; omega
  simp only [e,cond_true,Int.toNat_natCast,List.getElem?_eq_getElem (show i<m.length by omega),Option.bind_some]
  rw [zi (by omega),z1r (by omega)]) (fun m hm=>by
  rw [zhf]
  have e:decide ((l.length:Int)<(m.length:Int))=false:=by simp; omega
  simp only [e,cond_false]) l.length 0 n l (by omega) hn rfl
end
theorem zcp {S T R R':Type} {f:T→Option R'} {g:R→Option R'} {t:T}:Option.bind (some (Bo.out t:Bo S T R)) (Bo.then f g)=f t:=rfl
theorem y4s (c:Xe) (hS:zla c) (hU:U32s c) (hl:∀ i ∈ c.List_,z2b i):f237 (fuel c+20000000) c=some true:=by
 have hf:fuel c=c.Sign_.length+c.Regs_.length+c.Slots_.length+c.List_.length+100001:=rfl
 obtain ⟨k1,k2,k3,k4⟩:=zsj hS
 have h0:=fun h=>zji h hl
 have eC:(⟨c.Sign_,c.Regs_,c.Slots_,c.List_⟩:Xe)=c:=rfl
 generalize hn:fuel c+20000000=n
 have w:=y01 (n:=n) (by omega)
 rw [y4a]
 simp only [y54 hS,Option.bind_some,eC,y3v (n:=n) (by omega) hU.1 hU.2 h0]
 by_cases h:(chk c).1=0
 ·have h6:=h0 h
  have hsz:=zsy h6
  have hd:f228 n (z1m (bytC c))=some (0,0,c.Sign_,c.Regs_,c.Slots_,c.List_):=by rw [y48 (by omega) (by show _≤4611686018427387904; omega),y3o h hU hl]
  have hs:=zz3 (n:=n) (c:=c) (by omega) (by omega) (by omega) (by omega) k1 k2 k3 k4
  have e0:((z6q c).2 != 0)=false:=by rw [zoy h]; rfl
  have e1:(z6q c).1=z1m (bytC c):=by rw [zoy h]
  rw [e0,cond_false,e1,hd,Option.bind_some,Option.bind_some]
  obtain ⟨l1,e1⟩:=ybc (n:=n) (x:=c) (v:=(z1m (bytC c),c.Sign_,c.Regs_,c.Slots_,c.Sign_,c.Regs_,c.Slots_,c.List_)) k4 (by omega)
  rw [e1,zcp]
  obtain ⟨l2,e2⟩:=ybd (n:=n) (x:=c) (v:=(z1m (bytC c),c.Regs_,c.Slots_,l1,c.Sign_,c.Regs_,c.Slots_,c.List_)) k1 (by omega)
  refine (congrArg (fun z=>Option.bind z _) e2).trans ?_
  rw [zcp]
  obtain ⟨l3,e3⟩:=ybe (n:=n) (x:=c) (v:=(z1m (bytC c),l2,c.Slots_,l1,c.Sign_,c.Regs_,c.Slots_,c.List_)) k2 (by omega)
  refine (congrArg (fun z=>Option.bind z _) e3).trans ?_
  rw [zcp]
  obtain ⟨l4,e4⟩:=ybf (n:=n) (x:=c) (v:=(z1m (bytC c),l2,l3,l1,c.Sign_,c.Regs_,c.Slots_,c.List_)) k3 (by omega)
  refine (congrArg (fun z=>Option.bind z _) e4).trans ?_
  rw [zcp]
  dsimp only
  rw [Option.bind_some]
  refine (congrArg (fun z=>Option.bind z _) hs).trans ?_
  rw [Option.bind_some,cond_true]
  refine (congrArg (fun z=>Option.bind z _) hs).trans ?_
  rw [Option.bind_some,cond_true,w]
  rfl
 ·have e:((z6q c).2 != 0)=true:=by rw [y3q h]; simpa using h
  rw [e,cond_true,w]; rfl
abbrev y3g:Ty:=.str
def y3e (R:Nat→Nat→Prop) (x:ByteArray):Prop:=R x.size 1
theorem ybg {R:Nat→Nat→Prop} {cs:List AV} (h:OfTy R y3g cs):∃ x:ByteArray,y3e R x∧[.sc (.string x)]=cs:=by
 obtain ⟨b,rfl,h⟩:=h
 exact ⟨b,h,rfl⟩
abbrev z62:Ty:=.int .i64
def z5m (_:Nat→Nat→Prop) (x:Int):Prop:=(Lit.int .i64 x).wf=true
theorem z6x {R:Nat→Nat→Prop} {cs:List AV} (h:OfTy R z62 cs):∃ x:Int,z5m R x∧[.sc (.int .i64 x)]=cs:=by
 obtain ⟨n,rfl,h⟩:=h
 exact ⟨n,h,rfl⟩
abbrev zd1:Ty:=.st (.cons y3g (.cons z62 (.cons z62 (.nil))))
structure zcx (R:Nat→Nat→Prop) (x:Xa):Prop where
 Name_:y3e R x.Name_
 Kind_:z5m R x.Kind_
 Len_:z5m R x.Len_
theorem zl7 {R:Nat→Nat→Prop} {cs:List AV} (h:OfTy R zd1 cs):∃ x:Xa,zcx R x∧(c1 false) x=cs:=by
 obtain ⟨_,_,rfl,h0,h⟩:=h
 obtain ⟨_,_,rfl,h1,h⟩:=h
 obtain ⟨_,_,rfl,h2,h⟩:=h
 obtain rfl:=h
 obtain ⟨x0,w0,rfl⟩:=ybg h0
 obtain ⟨x1,w1,rfl⟩:=z6x h1
 obtain ⟨x2,w2,rfl⟩:=z6x h2
 exact ⟨⟨x0,x1,x2⟩,⟨w0,w1,w2⟩,rfl⟩
abbrev zbi:Ty:=.sl 3 32 zd1
def zbh (R:Nat→Nat→Prop) (x:List Xa):Prop:=R x.length 32∧∀ y ∈ x,zcx R y
theorem zj6 {R:Nat→Nat→Prop} {cs:List AV} (h:OfTy R zbi cs):∃ x:List Xa,zbh R x∧[.im 3 (x.map (c1 false))]=cs:=by
 obtain ⟨xs,rfl,h1,h2⟩:=h
 obtain ⟨ys,h3,rfl⟩:=z9b (c:=(c1 false)) (fun _ h=>zl7 h) h1
 exact ⟨ys,⟨by simpa using h2,h3⟩,rfl⟩
abbrev z9n:Ty:=.st (.cons z62 (.cons z62 (.nil)))
structure z9m (R:Nat→Nat→Prop) (x:Xb):Prop where
 Kind_:z5m R x.Kind_
 Param_:z5m R x.Param_
theorem zdp {R:Nat→Nat→Prop} {cs:List AV} (h:OfTy R z9n cs):∃ x:Xb,z9m R x∧(c2 false) x=cs:=by
 obtain ⟨_,_,rfl,h0,h⟩:=h
 obtain ⟨_,_,rfl,h1,h⟩:=h
 obtain rfl:=h
 obtain ⟨x0,w0,rfl⟩:=z6x h0
 obtain ⟨x1,w1,rfl⟩:=z6x h1
 exact ⟨⟨x0,x1⟩,⟨w0,w1⟩,rfl⟩
abbrev zd0:Ty:=.sl 2 16 z9n
def zcw (R:Nat→Nat→Prop) (x:List Xb):Prop:=R x.length 16∧∀ y ∈ x,z9m R y
theorem zl6 {R:Nat→Nat→Prop} {cs:List AV} (h:OfTy R zd0 cs):∃ x:List Xb,zcw R x∧[.im 2 (x.map (c2 false))]=cs:=by
 obtain ⟨xs,rfl,h1,h2⟩:=h
 obtain ⟨ys,h3,rfl⟩:=z9b (c:=(c2 false)) (fun _ h=>zdp h) h1
 exact ⟨ys,⟨by simpa using h2,h3⟩,rfl⟩
abbrev zyd:Ty:=.bool
def zyc (_:Nat→Nat→Prop) (x:Bool):Prop:=True
theorem y8q {R:Nat→Nat→Prop} {cs:List AV} (h:OfTy R zyd cs):∃ x:Bool,zyc R x∧[.sc (.bool x)]=cs:=by
 obtain ⟨b,rfl⟩:=h
 exact ⟨b,trivial,rfl⟩
abbrev zsp:Ty:=.int .u32
def zlm (_:Nat→Nat→Prop) (x:Int):Prop:=(Lit.int .u32 x).wf=true
theorem y35 {R:Nat→Nat→Prop} {cs:List AV} (h:OfTy R zsp cs):∃ x:Int,zlm R x∧[.sc (.int .u32 x)]=cs:=by
 obtain ⟨n,rfl,h⟩:=h
 exact ⟨n,h,rfl⟩
abbrev zdz:Ty:=.st (.cons z9n (.cons zyd (.cons zsp (.cons z62 (.nil)))))
structure zdx (R:Nat→Nat→Prop) (x:Xc):Prop where
 Type_:z9m R x.Type_
 Keep_:zyc R x.Keep_
 Bits_:zlm R x.Bits_
 Int_:z5m R x.Int_
theorem znu {R:Nat→Nat→Prop} {cs:List AV} (h:OfTy R zdz cs):∃ x:Xc,zdx R x∧(c3 false) x=cs:=by
 obtain ⟨_,_,rfl,h0,h⟩:=h
 obtain ⟨_,_,rfl,h1,h⟩:=h
 obtain ⟨_,_,rfl,h2,h⟩:=h
 obtain ⟨_,_,rfl,h3,h⟩:=h
 obtain rfl:=h
 obtain ⟨x0,w0,rfl⟩:=zdp h0
 obtain ⟨x1,w1,rfl⟩:=y8q h1
 obtain ⟨x2,w2,rfl⟩:=y35 h2
 obtain ⟨x3,w3,rfl⟩:=z6x h3
 exact ⟨⟨x0,x1,x2,x3⟩,⟨w0,w1,w2,w3⟩,rfl⟩
abbrev zcz:Ty:=.sl 5 32 zdz
def zcv (R:Nat→Nat→Prop) (x:List Xc):Prop:=R x.length 32∧∀ y ∈ x,zdx R y
theorem zl5 {R:Nat→Nat→Prop} {cs:List AV} (h:OfTy R zcz cs):∃ x:List Xc,zcv R x∧[.im 5 (x.map (c3 false))]=cs:=by
 obtain ⟨xs,rfl,h1,h2⟩:=h
 obtain ⟨ys,h3,rfl⟩:=z9b (c:=(c3 false)) (fun _ h=>znu h) h1
 exact ⟨ys,⟨by simpa using h2,h3⟩,rfl⟩
abbrev zdy:Ty:=.st (.cons z62 (.cons z62 (.cons z62 (.cons z62 (.cons z62 (.cons z62 (.cons zsp (.nil))))))))
structure zdw (R:Nat→Nat→Prop) (x:Xd):Prop where
 Op_:z5m R x.Op_
 D_:z5m R x.D_
 A_:z5m R x.A_
 B_:z5m R x.B_
 C_:z5m R x.C_
 N_:z5m R x.N_
 Bits_:zlm R x.Bits_
theorem znt {R:Nat→Nat→Prop} {cs:List AV} (h:OfTy R zdy cs):∃ x:Xd,zdw R x∧(c4 false) x=cs:=by
 obtain ⟨_,_,rfl,h0,h⟩:=h
 obtain ⟨_,_,rfl,h1,h⟩:=h
 obtain ⟨_,_,rfl,h2,h⟩:=h
 obtain ⟨_,_,rfl,h3,h⟩:=h
 obtain ⟨_,_,rfl,h4,h⟩:=h
 obtain ⟨_,_,rfl,h5,h⟩:=h
 obtain ⟨_,_,rfl,h6,h⟩:=h
 obtain rfl:=h
 obtain ⟨x0,w0,rfl⟩:=z6x h0
 obtain ⟨x1,w1,rfl⟩:=z6x h1
 obtain ⟨x2,w2,rfl⟩:=z6x h2
 obtain ⟨x3,w3,rfl⟩:=z6x h3
 obtain ⟨x4,w4,rfl⟩:=z6x h4
 obtain ⟨x5,w5,rfl⟩:=z6x h5
 obtain ⟨x6,w6,rfl⟩:=y35 h6
 exact ⟨⟨x0,x1,x2,x3,x4,x5,x6⟩,⟨w0,w1,w2,w3,w4,w5,w6⟩,rfl⟩
abbrev zcy:Ty:=.sl 7 56 zdy
def zcu (R:Nat→Nat→Prop) (x:List Xd):Prop:=R x.length 56∧∀ y ∈ x,zdw R y
theorem zl4 {R:Nat→Nat→Prop} {cs:List AV} (h:OfTy R zcy cs):∃ x:List Xd,zcu R x∧[.im 7 (x.map (c4 false))]=cs:=by
 obtain ⟨xs,rfl,h1,h2⟩:=h
 obtain ⟨ys,h3,rfl⟩:=z9b (c:=(c4 false)) (fun _ h=>znt h) h1
 exact ⟨ys,⟨by simpa using h2,h3⟩,rfl⟩
abbrev y_T_api_Code:Ty:=.st (.cons zbi (.cons zd0 (.cons zcz (.cons zcy (.nil)))))
structure z9l (R:Nat→Nat→Prop) (x:Xe):Prop where
 Sign_:zbh R x.Sign_
 Regs_:zcw R x.Regs_
 Slots_:zcv R x.Slots_
 List_:zcu R x.List_
theorem r_T_api_Code {R:Nat→Nat→Prop} {cs:List AV} (h:OfTy R y_T_api_Code cs):∃ x:Xe,z9l R x∧(c10 false) x=cs:=by
 obtain ⟨_,_,rfl,h0,h⟩:=h
 obtain ⟨_,_,rfl,h1,h⟩:=h
 obtain ⟨_,_,rfl,h2,h⟩:=h
 obtain ⟨_,_,rfl,h3,h⟩:=h
 obtain rfl:=h
 obtain ⟨x0,w0,rfl⟩:=zj6 h0
 obtain ⟨x1,w1,rfl⟩:=zl6 h1
 obtain ⟨x2,w2,rfl⟩:=zl5 h2
 obtain ⟨x3,w3,rfl⟩:=zl4 h3
 exact ⟨⟨x0,x1,x2,x3⟩,⟨w0,w1,w2,w3⟩,rfl⟩
theorem zya {R:Nat→Nat→Prop} {x:Int} (h:zlm R x):0≤x∧x<4294967296:=by
 have h:(Lit.int .u32 x).wf=true:=h
 simp [Lit.wf] at h
 have e1:IntKind.u32.min=0:=by decide
 have e2:IntKind.u32.max=4294967295:=by decide
 omega
theorem i64_in {R:Nat→Nat→Prop} {x:Int} (h:z5m R x):x<9223372036854775808:=by
 have h:(Lit.int .i64 x).wf=true:=h
 simp [Lit.wf] at h
 have e2:IntKind.i64.max=9223372036854775807:=by decide
 omega
theorem zg4 {a:Xe} (h:z9l RSaid a):zla a∧U32s a∧∀ i ∈ a.List_,z2b i :=
 ⟨⟨Nat.le_trans h.Sign_.1 (by decide),Nat.le_trans h.Regs_.1 (by decide),Nat.le_trans h.Slots_.1 (by decide),Nat.le_trans h.List_.1 (by decide)⟩,⟨fun s hs=>zya (h.Slots_.2 s hs).Bits_,fun i hi=>zya (h.List_.2 i hi).Bits_⟩,
  fun i hi=>let w:=h.List_.2 i hi; ⟨i64_in w.D_,i64_in w.A_,i64_in w.B_,i64_in w.C_,i64_in w.N_⟩⟩
theorem pureCodeOwn (a:Xe) (h:z9l RSaid a):∃ n,f237 n a=some true:=⟨_,y4s a (zg4 h).1 (zg4 h).2.1 (zg4 h).2.2⟩
end Loom
