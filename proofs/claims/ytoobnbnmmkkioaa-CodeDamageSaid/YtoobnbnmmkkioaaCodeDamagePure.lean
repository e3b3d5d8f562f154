/- The plain law of CodeDamage: what it answers is true,whatever it is handed (part 1 of 1). -/
import Derived.Test.YtoobnbnmmkkioaaCodeDamageWvB
set_option linter.unusedVariables false
set_option linter.unusedSimpArgs false
set_option linter.unusedSectionVars false
set_option maxRecDepth 100000
namespace Loom
open Go
theorem y5y (n:Nat):f231 (n+100) ()=some true:=by kernel_rfl
theorem y0t {n:Nat} (h:100≤n):f231 n ()=some true:=by
 obtain ⟨m,rfl⟩:∃ m,n=m+100:=⟨n - 100,by omega⟩
 exact y5y m
@[simp] theorem orRet_inl {S R:Type} {A:S→Option R} {s:S}:zk A (.inl s)=A s:=rfl
@[simp] theorem orRet_inr {S R:Type} {A:S→Option R} {r:R}:zk A (.inr r)=some r:=rfl
theorem zi {R:Type} {p:Prop} [Decidable p] {x:Option R} (h:p):need p x=x:=by unfold need; rw [if_pos h]
def mayT (l:List Xa) (t:Xb):Bool :=
 bif t.Kind_==3 then decide (t.Param_≥0) && decide (t.Param_<(l.length:Int)) else (t.Kind_==1 || t.Kind_==2) && t.Param_==0
theorem ztz {n:Nat} (c:Xe) (t:Xb):f31 n (c,t)=some (mayT c.Sign_ t):=by
 rw [y79]
 unfold mayT
 by_cases h1:t.Kind_=1
 ·simp [h1]
 ·by_cases h2:t.Kind_=2
  ·simp [h2]
  ·by_cases h3:t.Kind_=3
   ·by_cases h4:t.Param_≥0 <;> simp [h3,h4]
   ·have e1:(t.Kind_==1)=false:=by simpa using h1
    have e2:(t.Kind_==2)=false:=by simpa using h2
    have e3:(t.Kind_==3)=false:=by simpa using h3
    simp [e1,e2,e3]
theorem zu1 {n:Nat} (l:List Xa) (t:Xb):f39 n (t,l)=some (mayT l t):=by
 rw [y7j]
 unfold mayT
 by_cases h1:t.Kind_=1
 ·simp [h1]
 ·by_cases h2:t.Kind_=2
  ·simp [h2]
  ·by_cases h3:t.Kind_=3
   ·by_cases h4:t.Param_≥0 <;> simp [h3,h4]
   ·have e1:(t.Kind_==1)=false:=by simpa using h1
    have e2:(t.Kind_==2)=false:=by simpa using h2
    have e3:(t.Kind_==3)=false:=by simpa using h3
    simp [e1,e2,e3]
def z6d (x:Int):Bool:=decide (x % 2147483648≤2139095040) || x==2143289344
theorem zt8 {m:Nat} (h:m<4294967296):IntKind.u32.wrap (m:Int)=m:=by
 have:IntKind.u32.wrap (m:Int)=(m:Int) % 4294967296:=by simp [IntKind.wrap,IntKind.bits,IntKind.signed]
 omega
theorem ya4 (x:Int) (h0:0≤x) (h1:x<4294967296):(BitVec.ofInt IntKind.u32.bits x &&& ~~~BitVec.ofInt IntKind.u32.bits 2147483648).toNat=x.toNat % 2147483648:=by
 show (BitVec.ofInt 32 x &&& ~~~BitVec.ofInt 32 2147483648).toNat=_
 have e:(~~~BitVec.ofInt 32 2147483648:BitVec 32)=2147483647#32:=by decide
 rw [e,BitVec.toNat_and]
 have e2:(2147483647#32).toNat=2 ^ 31 - 1:=by decide
 rw [e2,Nat.and_two_pow_sub_one_eq_mod]
 have e3:(BitVec.ofInt 32 x).toNat=x.toNat:=by
  rw [BitVec.toNat_ofInt]
  omega
 rw [e3]
theorem zu4 {n:Nat} (x:Int) (h0:0≤x) (h1:x<4294967296):f52 n x=some (z6d x):=by
 rw [y7u,ya4 x h0 h1,zt8 (by omega)]
 unfold z6d
 have:((x.toNat % 2147483648:Nat):Int)=x % 2147483648:=by omega
 rw [this]
 cases decide (x % 2147483648≤2139095040) <;> rfl
theorem z1s {m:Int} (h0:0≤m) (h:m<18446744073709551616):IntKind.u64.wrap m=m:=by
 have:IntKind.u64.wrap m=m % 18446744073709551616:=by simp [IntKind.wrap,IntKind.bits,IntKind.signed]
 omega
theorem zs1 (x:Int) (k:Nat) (hk:k<64) (h0:0≤x) (h1:x<18446744073709551616):(BitVec.ofInt IntKind.u64.bits x &&& BitVec.ofInt IntKind.u64.bits ((2 ^ k - 1:Nat):Int)).toNat=x.toNat % 2 ^ k:=by
 show (BitVec.ofInt 64 x &&& BitVec.ofInt 64 _).toNat=_
 rw [BitVec.toNat_and]
 have hp:2 ^ k<2 ^ 64:=Nat.pow_lt_pow_right (by decide) hk
 have e2:(BitVec.ofInt 64 ((2 ^ k - 1:Nat):Int)).toNat=2 ^ k - 1:=by
  rw [BitVec.toNat_ofInt]
  have:(0:Nat)<2 ^ k:=Nat.two_pow_pos k
  omega
 have e3:(BitVec.ofInt 64 x).toNat=x.toNat:=by
  rw [BitVec.toNat_ofInt]
  omega
 rw [e2,e3,Nat.and_two_pow_sub_one_eq_mod]
theorem y57 {n:Nat} (x:Int) (h0:0≤x) (h1:x<4294967296):∃ r,f69 n x=some r∧r.2.2.2.2=(decide (x / 8388608 % 256=255) && decide (x % 8388608 ≠ 0)):=by
 rw [y8n]
 have e0:IntKind.u64.wrap x=x:=z1s h0 (by omega)
 have e1:x.fdiv (2 ^ min (23:Int).toNat IntKind.u64.bits)=x / 8388608:=by
  show x.fdiv 8388608=_
  rw [Int.fdiv_eq_ediv_of_nonneg _ (by decide)]
 have e2:(BitVec.ofInt IntKind.u64.bits (x / 8388608) &&& BitVec.ofInt IntKind.u64.bits (255:Int)).toNat=(x / 8388608).toNat % 256:=zs1 (x / 8388608) 8 (by decide) (by omega) (by omega)
 have e3:(BitVec.ofInt IntKind.u64.bits x &&& BitVec.ofInt IntKind.u64.bits (8388607:Int)).toNat=x.toNat % 8388608:=zs1 x 23 (by decide) (by omega) (by omega)
 simp only [e0,e1,e2,e3]
 rw [z1s (m:=(((x / 8388608).toNat % 256:Nat):Int)) (by omega) (by omega),z1s (m:=((x.toNat % 8388608:Nat):Int)) (by omega) (by omega),z3x (by omega) (by omega)]
 have c1:(((x / 8388608).toNat % 256:Nat):Int)=x / 8388608 % 256:=by omega
 have c2:((x.toNat % 8388608:Nat):Int)=x % 8388608:=by omega
 rw [c1,c2]
 by_cases h:x / 8388608 % 256=255
 ·have q:(x / 8388608 % 256==255)=true:=by simp [h]
  simp only [q,cond_true,Option.bind_some,orRet_inl]
  refine ⟨_,rfl,?_⟩
  rw [decide_eq_true h,Bool.true_and]
  show (x % 8388608 != 0)=_
  by_cases h3:x % 8388608=0 <;> simp [h3]
 ·have q:(x / 8388608 % 256==255)=false:=by simp [h]
  simp only [q,cond_false]
  cases (x / 8388608 % 256==0)
  all_goals
   simp only [cond_false,cond_true,Option.bind_some,orRet_inl]
   refine ⟨_,rfl,?_⟩
   rw [decide_eq_false h,Bool.false_and]
theorem zu6 {n:Nat} (x:Int) (h0:0≤x) (h1:x<4294967296):f58 n x=some (z6d x):=by
 have w:IntKind.i64.wrap x=x:=z3x (by omega) (by omega)
 obtain ⟨r,e,e'⟩:=y57 (n:=n) x h0 h1
 rw [y84,w,y8h,e]
 simp only [Option.bind_some,e']
 unfold z6d
 by_cases h:x / 8388608 % 256=255∧x % 8388608 ≠ 0
 ·have q:(decide (x / 8388608 % 256=255) && decide (x % 8388608 ≠ 0))=true:=by simp [h]
  have q2:decide (x % 2147483648≤2139095040)=false:=by simp; omega
  rw [q,q2]
  simp only [cond_true,Option.bind_some,Bool.false_or]
  congr 1
  rw [Bool.eq_iff_iff]
  simp
  omega
 ·have q:(decide (x / 8388608 % 256=255) && decide (x % 8388608 ≠ 0))=false:=by
   rw [Bool.eq_false_iff]
   intro hb
   simp only [Bool.and_eq_true,decide_eq_true_eq] at hb
   exact h hb
  have q2:decide (x % 2147483648≤2139095040)=true:=by simp; omega
  rw [q,q2]
  simp
def mayS (l:List Xa) (s:Xc):Bool :=
 mayT l s.Type_ && (bif s.Type_.Kind_==2 then s.Bits_==0 && (decide (s.Int_≥0) && decide (s.Int_≤2147483647)) else s.Int_==0 && z6d s.Bits_)
theorem y7e {n:Nat} (c:Xe) (s:Xc) (h0:0≤s.Bits_) (h1:s.Bits_<4294967296):f34 n (c,s)=some (mayS c.Sign_ s):=by
 rw [y7d,ztz,zu4 _ h0 h1]
 unfold mayS
 simp only [Option.bind_some]
 cases mayT c.Sign_ s.Type_ <;> cases (s.Type_.Kind_==2) <;> cases (s.Bits_==0) <;> cases (s.Int_==0) <;> cases decide (s.Int_≥0) <;> rfl
theorem y7l {n:Nat} (l:List Xa) (s:Xc) (h0:0≤s.Bits_) (h1:s.Bits_<4294967296):f40 n (s,l)=some (mayS l s):=by
 rw [y7k,zu1,zu6 _ h0 h1]
 unfold mayS
 simp only [Option.bind_some]
 cases mayT l s.Type_ <;> cases (s.Type_.Kind_==2) <;> cases (s.Bits_==0) <;> cases (s.Int_==0) <;> cases decide (s.Int_≥0) <;> rfl
structure z41 where
 d:Int
 a:Int
 b:Int
 c:Int
 n:Int
def rowD (op:Int):Option z41 :=
 bif op==1 then some ⟨1,0,0,0,0⟩ else
 bif op==2 then some ⟨2,0,0,0,1⟩ else
 bif op==3 then some ⟨8,7,0,0,0⟩ else
 bif op==4 then some ⟨4,5,5,0,0⟩ else
 bif op==5 then some ⟨4,5,5,0,0⟩ else
 bif op==6 then some ⟨4,5,5,0,0⟩ else
 bif op==7 then some ⟨4,5,5,0,0⟩ else
 bif op==8 then some ⟨4,5,5,0,0⟩ else
 bif op==9 then some ⟨4,5,5,0,0⟩ else
 bif op==10 then some ⟨4,5,5,0,0⟩ else
 bif op==11 then some ⟨4,5,0,0,0⟩ else
 bif op==12 then some ⟨4,5,0,0,0⟩ else
 bif op==13 then some ⟨4,5,0,0,0⟩ else
 bif op==14 then some ⟨4,5,0,0,0⟩ else
 bif op==15 then some ⟨4,5,5,5,0⟩ else
 bif op==16 then some ⟨1,1,2,0,0⟩ else
 bif op==17 then some ⟨1,2,0,0,0⟩ else
 bif op==18 then some ⟨2,1,0,0,0⟩ else
 bif op==19 then some ⟨1,3,0,0,0⟩ else
 bif op==20 then some ⟨1,3,0,0,0⟩ else
 bif op==21 then some ⟨2,2,0,0,0⟩ else
 bif op==22 then some ⟨2,2,2,0,0⟩ else
 bif op==23 then some ⟨2,2,2,0,0⟩ else
 bif op==24 then some ⟨2,2,2,0,0⟩ else
 bif op==25 then some ⟨2,2,0,0,0⟩ else
 bif op==26 then some ⟨2,2,2,2,0⟩ else
 bif op==27 then some ⟨2,2,2,0,0⟩ else
 bif op==28 then some ⟨2,2,2,0,0⟩ else
 bif op==29 then some ⟨3,0,0,0,2⟩ else
 bif op==30 then some ⟨3,0,0,0,2⟩ else
 bif op==31 then some ⟨0,3,0,0,2⟩ else
 bif op==32 then some ⟨8,0,0,0,3⟩ else
 bif op==33 then some ⟨0,8,0,0,3⟩ else
 bif op==34 then some ⟨0,2,0,0,0⟩ else
 bif op==35 then some ⟨0,0,0,0,0⟩ else
 bif op==36 then some ⟨0,0,0,0,4⟩ else
 bif op==37 then some ⟨0,0,0,0,0⟩ else
 none
theorem z5j (op:Int):(op=1∨op=2∨op=3∨op=4∨op=5∨op=6∨op=7∨op=8∨op=9∨op=10∨op=11∨op=12∨op=13∨op=14∨op=15∨op=16∨op=17∨op=18∨op=19∨op=20∨op=21∨op=22∨op=23∨op=24∨op=25∨op=26∨op=27∨op=28∨op=29∨op=30∨op=31∨op=32∨op=33∨op=34∨op=35∨op=36∨op=37)∨(∀ k:Int,1≤k→k≤37→(op==k)=false):=by
 by_cases h:1≤op∧op≤37
 ·left; omega
 ·right
  intro k h1 h2
  simp only [beq_eq_false_iff_ne,ne_eq]
  omega
theorem zmq {n:Nat} (op:Int):f26 n op=some (match rowD op with | some r=>(true,r.d,r.a,r.b,r.c,r.n) | none=>(false,0,0,0,0,0)):=by
 rw [y73]
 rcases z5j op with (rfl | rfl | rfl | rfl | rfl | rfl | rfl | rfl | rfl | rfl | rfl | rfl | rfl | rfl | rfl | rfl | rfl | rfl | rfl | rfl | rfl | rfl | rfl | rfl | rfl | rfl | rfl | rfl | rfl | rfl | rfl | rfl | rfl | rfl | rfl | rfl | rfl) | h
 iterate 37 (· kernel_rfl)
 simp (discharger:=decide) only [rowD,h,cond_false,Option.bind_some,orRet_inl]
def z4v (s:Int):UInt8:=bif s==1 then 110 else bif s==2 then 119 else bif s==3 then 118 else bif s==4 then 100 else bif s==5 then 120 else bif s==7 then 99 else bif s==8 then 97 else 45
def z7p (s:Int):UInt8:=bif s==1 then 105 else bif s==2 then 112 else bif s==3 then 115 else bif s==4 then 113 else 45
def z3u (r:z41):ByteArray:=⟨#[z4v r.d,z4v r.a,z4v r.b,z4v r.c,z7p r.n]⟩
theorem zmr {n:Nat} (op:Int):f27 n op=some (match rowD op with | some r=>(z3u r,true) | none=>(⟨#[]⟩,false)):=by
 rw [y74]
 rcases z5j op with (rfl | rfl | rfl | rfl | rfl | rfl | rfl | rfl | rfl | rfl | rfl | rfl | rfl | rfl | rfl | rfl | rfl | rfl | rfl | rfl | rfl | rfl | rfl | rfl | rfl | rfl | rfl | rfl | rfl | rfl | rfl | rfl | rfl | rfl | rfl | rfl | rfl) | h
 iterate 37 (· kernel_rfl)
 simp (discharger:=decide) only [rowD,h,cond_false,Option.bind_some,orRet_inl]
theorem z36 {op:Int} (h:∀ k:Int,1≤k→k≤37→(op==k)=false):rowD op=none:=by
 simp (discharger:=decide) only [rowD,h,cond_false]
def z1n (i:Xd):List Int:=match rowD i.Op_ with
 | some r=>(bif r.a==0 then [] else [i.A_])++((bif r.b==0 then [] else [i.B_])++(bif r.c==0 then [] else [i.C_]))
 | none=>[]
def sets (i:Xd):Bool:=match rowD i.Op_ with | some r=>!(r.d==0) | none=>false
theorem zsc (m:Nat) (i:Xd):f9 (m+4) i=some (z1n i):=by
 obtain ⟨op,d,a,b,c,N,bits⟩:=i
 rcases z5j op with (rfl | rfl | rfl | rfl | rfl | rfl | rfl | rfl | rfl | rfl | rfl | rfl | rfl | rfl | rfl | rfl | rfl | rfl | rfl | rfl | rfl | rfl | rfl | rfl | rfl | rfl | rfl | rfl | rfl | rfl | rfl | rfl | rfl | rfl | rfl | rfl | rfl) | h
 iterate 37 (· kernel_rfl)
 rw [yac,zmq]
 simp only [z1n,z36 h]
 kernel_rfl
theorem y6k (m:Nat) (i:Xd):f10 (m+4) i=some (z1n i):=by
 obtain ⟨op,d,a,b,c,N,bits⟩:=i
 rcases z5j op with (rfl | rfl | rfl | rfl | rfl | rfl | rfl | rfl | rfl | rfl | rfl | rfl | rfl | rfl | rfl | rfl | rfl | rfl | rfl | rfl | rfl | rfl | rfl | rfl | rfl | rfl | rfl | rfl | rfl | rfl | rfl | rfl | rfl | rfl | rfl | rfl | rfl) | h
 iterate 37 (· kernel_rfl)
 rw [y6j,zmr]
 simp only [z1n,z36 h]
 kernel_rfl
theorem zmh (n:Nat) (i:Xd):f11 n i=some (sets i):=by
 obtain ⟨op,d,a,b,c,N,bits⟩:=i
 rcases z5j op with (rfl | rfl | rfl | rfl | rfl | rfl | rfl | rfl | rfl | rfl | rfl | rfl | rfl | rfl | rfl | rfl | rfl | rfl | rfl | rfl | rfl | rfl | rfl | rfl | rfl | rfl | rfl | rfl | rfl | rfl | rfl | rfl | rfl | rfl | rfl | rfl | rfl) | h
 iterate 37 (· kernel_rfl)
 rw [y6l,zmq]
 simp only [sets,z36 h]
 kernel_rfl
theorem y6n (n:Nat) (i:Xd):f12 n i=some (sets i):=by
 obtain ⟨op,d,a,b,c,N,bits⟩:=i
 rcases z5j op with (rfl | rfl | rfl | rfl | rfl | rfl | rfl | rfl | rfl | rfl | rfl | rfl | rfl | rfl | rfl | rfl | rfl | rfl | rfl | rfl | rfl | rfl | rfl | rfl | rfl | rfl | rfl | rfl | rfl | rfl | rfl | rfl | rfl | rfl | rfl | rfl | rfl) | h
 iterate 37 (· kernel_rfl)
 rw [y6m,zmr]
 simp only [sets,z36 h]
 kernel_rfl
def elem (op:Int):Bool:=bif decide (op≥3) then decide (op≤15) else false
theorem y6p (n:Nat) (op:Int):f13 n op=some (elem op):=by
 rw [y6o]; unfold elem; cases decide (op≥3) <;> rfl
theorem y6r (n:Nat) (op:Int):f14 n op=some (elem op):=by
 rw [y6q]; unfold elem; cases decide (op≥3) <;> rfl
abbrev ty0:Xb:=⟨0,0⟩
def eqTy (t d:Xb):Bool:=t.Kind_==d.Kind_ && (t.Param_==d.Param_ && true)
def isS (t:Xb) (s:Int) (d:Xb):Bool :=
 bif s==1 then t.Kind_==1 else bif s==2 then t.Kind_==2 else bif s==3 then t.Kind_==3 else bif s==4 then t.Kind_ != 2 else
 bif s==5 then (t.Kind_==1 || eqTy t d) else bif s==7 then (eqTy t d || (t.Kind_==1 && d.Kind_==3)) else true
theorem y7y {n:Nat} (t:Xb) (s:Int) (d:Xb) (h:s ≠ 6):f54 n (t,s,d)=some (isS t s d):=by
 have h6:(s==6)=false:=by simpa using h
 rw [y7x]
 unfold isS eqTy
 simp only [h6,cond_false]
 cases (s==1) <;> cases (s==2) <;> cases (s==3) <;> cases (s==4) <;> cases (s==5) <;> cases (s==7) <;> cases (t.Kind_==1) <;> cases (t.Kind_==d.Kind_ && (t.Param_==d.Param_ && true)) <;> cases (d.Kind_==3) <;> rfl
theorem z3b {α:Type} {l:List α} {n:Int} (h:n<0∨n≥l.length):idx l n=none:=by
 unfold idx
 split
 ·rcases h with h | h
  ·omega
  ·rw [List.getElem?_eq_none]; omega
 ·rfl
theorem z7m {α:Type} {l:List α} {n:Int} (h0:0≤n) (h1:n<l.length):∃ y,idx l n=some y∧y ∈ l:=by
 unfold idx
 rw [if_pos h0]
 have:n.toNat<l.length:=by omega
 exact ⟨l[n.toNat],by simp [this],List.getElem_mem this⟩
theorem zbj {α:Type} {l:List α} {n:Int} {y:α} (h:idx l n=some y):y ∈ l∧0≤n∧n<l.length:=by
 unfold idx at h
 split at h
 ·rename_i h0
  obtain ⟨h1,h2⟩:=List.getElem?_eq_some_iff.1 h
  exact ⟨h2 ▸ List.getElem_mem h1,h0,by omega⟩
 ·cases h
theorem y7w {n:Nat} (a:List Xa) (b:List Xb) (c:List Xc) (d:List Xd) (e:List Bool) (f:List (List Int)) (g:List Int) (k:Int) :
  f53 n (a,b,c,d,e,f,g,k)=some (match idx b k with | some t=>(true,a,b,c,d,e,f,g,t.Kind_,t.Param_) | none=>(false,a,b,c,d,e,f,g,0,0)):=by
 rw [y7v]
 by_cases h:k<0
 ·rw [z3b (.inl h)]; simp [h]
 ·by_cases h2:k≥b.length
  ·rw [z3b (.inr h2)]; simp [h,h2]
  ·obtain ⟨y,hy,_⟩:=z7m (l:=b) (n:=k) (by omega) (by omega)
   rw [hy]
   have e1:decide (k<0)=false:=by simpa using h
   have e2:decide (k≥(b.length:Int))=false:=by simp; omega
   simp [e1,e2,hy]
theorem y8p {n:Nat} (c:Xe) (k:Int):f70 n (c,k)=some (match idx c.Regs_ k with | some t=>(true,t.Kind_,t.Param_) | none=>(false,0,0)):=by
 rw [y8o]
 by_cases h:k<0
 ·rw [z3b (.inl h)]; simp [h]
 ·by_cases h2:k≥c.Regs_.length
  ·rw [z3b (.inr h2)]; simp [h,h2]
  ·obtain ⟨y,hy,_⟩:=z7m (l:=c.Regs_) (n:=k) (by omega) (by omega)
   rw [hy]
   have e1:decide (k<0)=false:=by simpa using h
   have e2:decide (k≥(c.Regs_.length:Int))=false:=by simp; omega
   simp [e1,e2,hy]
theorem zkw {l:List Xa} {t:Xb} (h:mayT l t=true):t.Kind_=1∨t.Kind_=2∨(t.Kind_=3∧0≤t.Param_∧t.Param_<l.length):=by
 unfold mayT at h
 by_cases h3:t.Kind_=3
 ·simp [h3] at h
  exact .inr (.inr ⟨h3,h.1,h.2⟩)
 ·have e3:(t.Kind_==3)=false:=by simpa using h3
  rw [e3] at h
  simp at h
  rcases h.1 with h | h
  ·exact .inl h
  ·exact .inr (.inl h)
def z1c (c:Xe) (s k:Int) (d:Xb):Bool:=bif s==0 then k==0 else match idx c.Regs_ k with | none=>false | some t=>isS t s d
def z4e (s:Int):Prop:=s=0∨s=1∨s=2∨s=3∨s=4∨s=5∨s=7∨s=8
theorem zht {n:Nat} {c:Xe} {s k:Int} {d:Xb} (hs:z4e s) (hr:∀ t ∈ c.Regs_,mayT c.Sign_ t=true):f66 n (c,((z4v s).toNat:Int),k,d)=some (z1c c s k d):=by
 rw [y8i,y8p]
 unfold z1c
 cases hi:idx c.Regs_ k with
 | none=>rcases hs with rfl | rfl | rfl | rfl | rfl | rfl | rfl | rfl <;> kernel_rfl
 | some t =>
  have hk:=zkw (hr t (zbj hi).1)
  rcases hs with rfl | rfl | rfl | rfl | rfl | rfl | rfl | rfl
  ·rfl
  ·rfl
  ·rfl
  ·rfl
  ·rcases hk with h | h | ⟨h,_⟩ <;> simp [h,z4v,isS]
  ·show (bif t.Kind_==1 then some true else some (eqTy t d))=some (t.Kind_==1 || eqTy t d)
   cases (t.Kind_==1) <;> rfl
  ·show (bif eqTy t d then some true else bif t.Kind_==1 then some (d.Kind_==3) else some false)=some (eqTy t d || (t.Kind_==1 && d.Kind_==3))
   cases eqTy t d <;> cases (t.Kind_==1) <;> rfl
  ·rfl
theorem zri {op:Int} {r:z41} (h:rowD op=some r):(z4e r.d∧z4e r.a∧z4e r.b∧z4e r.c)∧((r.n=0∨r.n=1∨r.n=3∨r.n=4)∨r.n=2∧(r.d=3∨r.d=0∧r.a=3)):=by
 rcases z5j op with (rfl | rfl | rfl | rfl | rfl | rfl | rfl | rfl | rfl | rfl | rfl | rfl | rfl | rfl | rfl | rfl | rfl | rfl | rfl | rfl | rfl | rfl | rfl | rfl | rfl | rfl | rfl | rfl | rfl | rfl | rfl | rfl | rfl | rfl | rfl | rfl | rfl) | h0
 iterate 37 (· cases h; simp [z4e])
 rw [z36 h0] at h; cases h
def tyD (c:Xe) (r:z41) (i:Xd):Xb:=bif r.d==0 then ty0 else (idx c.Regs_ i.D_).getD ty0
def tyF (c:Xe) (r:z41) (i:Xd):Xb:=bif r.d==0 then (bif r.a==0 then ty0 else (idx c.Regs_ i.A_).getD ty0) else (idx c.Regs_ i.D_).getD ty0
def nOk (c:Xe) (s N:Int) (t:Xb):Bool :=
 bif s==1 then decide (N≥0) && decide (N≤2147483647) else
 bif s==2 then (N==0 || (N==1 && (match idx c.Sign_ t.Param_ with | some p=>p.Kind_==2 | none=>false))) else
 bif s==3 then (match idx c.Slots_ N with | some z=>eqTy z.Type_ t | none=>false) else
 bif s==4 then decide (N≥0) && decide (N<(c.Sign_.length:Int)) else N==0
def z80 (i:Xd):Bool:=bif i.Op_==1 then z6d i.Bits_ else i.Bits_==0
def fits (c:Xe) (i:Xd):Bool:=match rowD i.Op_ with
 | none=>false
 | some r=>z1c c r.d i.D_ ty0 && (z1c c r.a i.A_ (tyD c r i) && (z1c c r.b i.B_ (tyD c r i) && (z1c c r.c i.C_ (tyD c r i) && (z80 i && nOk c r.n i.N_ (tyF c r i)))))
theorem y8k {n:Nat} {c:Xe} {N p:Int} (hp:0≤p∧p<c.Sign_.length):f67 n (c,N,p)=some (N==0 || (N==1 && (match idx c.Sign_ p with | some p=>p.Kind_==2 | none=>false))):=by
 rw [y8j]
 obtain ⟨y,hy,_⟩:=z7m (l:=c.Sign_) hp.1 hp.2
 rw [hy]
 cases (N==0) <;> cases (N==1) <;> simp
theorem isS3 {t d:Xb} (h:isS t 3 d=true):t.Kind_=3:=by simpa [isS] using h
theorem zrc {c:Xe} {i:Xd} {r:z41} (hr:∀ t ∈ c.Regs_,mayT c.Sign_ t=true) (hp:r.d=3∨r.d=0∧r.a=3) (h1:z1c c r.d i.D_ ty0=true) (h2:z1c c r.a i.A_ (tyD c r i)=true):0≤(tyF c r i).Param_∧(tyF c r i).Param_<c.Sign_.length:=by
 have key:∀ (k:Int) (d:Xb),z1c c 3 k d=true→∃ t,idx c.Regs_ k=some t∧0≤t.Param_∧t.Param_<c.Sign_.length:=fun k d h=>by
  unfold z1c at h
  have e:((3:Int)==0)=false:=by decide
  rw [e,cond_false] at h
  split at h
  ·cases h
  ·rename_i t ht
   have h3:=isS3 h
   rcases zkw (hr t (zbj ht).1) with q | q | q
   ·omega
   ·omega
   ·exact ⟨t,ht,q.2⟩
 rcases hp with hp | ⟨hp,hq⟩
 ·rw [hp] at h1
  obtain ⟨t,ht,h⟩:=key _ _ h1
  unfold tyF
  rw [hp]
  simpa [ht] using h
 ·rw [hq] at h2
  obtain ⟨t,ht,h⟩:=key _ _ h2
  unfold tyF
  rw [hp,hq]
  simpa [ht] using h
theorem zkv {s:Int} (h:z4e s):(((z4v s).toNat:Int) != 45) = !(s==0):=by
 rcases h with rfl | rfl | rfl | rfl | rfl | rfl | rfl | rfl <;> rfl
theorem zy8 {s:Int} (h:z4e s):(((z4v s).toNat:Int)==45)=(s==0):=by
 rcases h with rfl | rfl | rfl | rfl | rfl | rfl | rfl | rfl <;> rfl
theorem zar (r:z41):((z3u r).size:Int)=5:=rfl
theorem y40 (r:z41):zb (z3u r) 0=((z4v r.d).toNat:Int):=rfl
theorem y41 (r:z41):zb (z3u r) 1=((z4v r.a).toNat:Int):=rfl
theorem ych (r:z41):zb (z3u r) 2=((z4v r.b).toNat:Int):=rfl
theorem yci (r:z41):zb (z3u r) 3=((z4v r.c).toNat:Int):=rfl
theorem y42 (r:z41):zb (z3u r) 4=((z7p r.n).toNat:Int):=rfl
theorem z8c {c:Xe} {s k:Int} {d:Xb} (h:z1c c s k d=true) (hs:(s==0)=false):∃ t,idx c.Regs_ k=some t:=by
 unfold z1c at h
 rw [hs,cond_false] at h
 split at h
 ·cases h
 ·rename_i t ht; exact ⟨t,ht⟩
theorem y86 {n:Nat} {c:Xe} {i:Xd} (hr:∀ t ∈ c.Regs_,mayT c.Sign_ t=true) (h0:0≤i.Bits_) (h1:i.Bits_<4294967296):f59 n (c,i)=some (fits c i):=by
 rw [y85,zmr]
 unfold fits
 cases h:rowD i.Op_ with
 | none=>rfl
 | some r =>
  obtain ⟨⟨s1,s2,s3,s4⟩,hn⟩:=zri h
  have n1:(0:Int)≤0∧(0:Int)<5:=by decide
  have n2:(0:Int)≤1∧(1:Int)<5:=by decide
  have n3:(0:Int)≤2∧(2:Int)<5:=by decide
  have n4:(0:Int)≤3∧(3:Int)<5:=by decide
  have n5:(0:Int)≤4∧(4:Int)<5:=by decide
  simp only [Option.bind_some,Bool.not_true,cond_false,zu6 _ h0 h1]
  have hB:(bif (i.Op_ != 1) then (bif (i.Bits_ != 0) then some (Sum.inl (z3u r,true)) else some (Sum.inl (z3u r,!z6d i.Bits_))) else some (Sum.inl (z3u r,!z6d i.Bits_)):Option (ByteArray×Bool⊕Bool))=some (.inl (z3u r,!(z80 i))):=by
   unfold z80
   by_cases q:i.Op_=1
   ·simp [q]
   ·by_cases q2:i.Bits_=0
    ·have:z6d 0=true:=by decide
     simp [q,q2,this]
    ·have e1:(i.Op_==1)=false:=by simpa using q
     have e2:(i.Bits_==0)=false:=by simpa using q2
     simp [bne,e1,e2]
  rw [hB,Option.bind_some,orRet_inl]
  dsimp only
  cases hb:z80 i with
  | false=>simp
  | true =>
   simp only [Bool.not_true,cond_false,zar,zi n1,y40,zkv s1,zht s1 hr,Option.bind_some]
   have hD:(bif !(r.d==0) then (bif !(z1c c r.d i.D_ ty0) then some (Sum.inr false) else (idx c.Regs_ i.D_).bind fun y5=>some (Sum.inl (z3u r,y5.Kind_,y5.Param_))) else (bif i.D_ != 0 then some (Sum.inr false) else some (Sum.inl (z3u r,0,0))):Option (ByteArray×Int×Int⊕Bool))
     = bif z1c c r.d i.D_ ty0 then some (.inl (z3u r,(tyD c r i).Kind_,(tyD c r i).Param_)) else some (.inr false):=by
    cases hz:r.d==0 with
    | true =>
     have:z1c c r.d i.D_ ty0=(i.D_==0):=by unfold z1c; rw [hz]; rfl
     rw [this]
     unfold tyD
     rw [hz]
     have e:(i.D_ != 0) = !(i.D_==0):=rfl
     rw [e]
     cases i.D_==0 <;> rfl
    | false =>
     cases hq:z1c c r.d i.D_ ty0 with
     | false=>simp
     | true =>
      obtain ⟨t,ht⟩:=z8c hq hz
      unfold tyD
      rw [hz,ht]
      simp
   rw [hD]
   cases hd:z1c c r.d i.D_ ty0 with
   | false=>simp
   | true =>
    simp only [cond_true,Option.bind_some,orRet_inl,zar,zi n2,zi n3,zi n4,y41,ych,yci,zht s2 hr,zht s3 hr,zht s4 hr,Bool.true_and]
    cases ha:z1c c r.a i.A_ (tyD c r i) with
    | false=>simp
    | true =>
     cases hbb:z1c c r.b i.B_ (tyD c r i) with
     | false=>simp
     | true =>
      cases hcc:z1c c r.c i.C_ (tyD c r i) with
      | false=>simp
      | true =>
       simp only [cond_true,cond_false,Bool.not_true,Option.bind_some,orRet_inl,zar,zi n1,zi n2,zi n5,y40,y41,y42,zy8 s1,zkv s2,Bool.true_and]
       have hF:((bif r.d==0 then some (Sum.inl (z3u r,!(r.a==0),(tyD c r i).Kind_,(tyD c r i).Param_)) else some (Sum.inl (z3u r,false,(tyD c r i).Kind_,(tyD c r i).Param_)):Option (ByteArray×Bool×Int×Int⊕(ByteArray×Int×Int⊕Bool))).bind (zk fun s4=>bif s4.2.1 then (idx c.Regs_ i.A_).bind fun y9=>some (Sum.inl (s4.1,y9.Kind_,y9.Param_)) else some (Sum.inl (s4.1,s4.2.2.1,s4.2.2.2))))
         = some (.inl (z3u r,(tyF c r i).Kind_,(tyF c r i).Param_)):=by
        unfold tyF tyD
        cases hz:r.d==0 with
        | false=>simp
        | true =>
         cases hza:r.a==0 with
         | true=>simp
         | false =>
          obtain ⟨t,ht⟩:=z8c ha hza
          simp [ht]
       rw [hF]
       simp only [Option.bind_some,orRet_inl,zar,zi n5,y42]
       unfold nOk
       rcases hn with (hn | hn | hn | hn) | ⟨hn,hp⟩
       ·simp only [hn,z7p]
        rfl
       ·simp only [hn,z7p]
        show (bif decide (i.N_≥0) then some (decide (i.N_≤2147483647)) else some false)=some (decide (i.N_≥0) && decide (i.N_≤2147483647))
        cases decide (i.N_≥0) <;> rfl
       ·simp only [hn,z7p]
        show (bif decide (i.N_≥0) then bif decide (i.N_<(c.Slots_.length:Int)) then (idx c.Slots_ i.N_).bind fun y11=>some (eqTy y11.Type_ (tyF c r i)) else some false else some false)=some (match idx c.Slots_ i.N_ with | some z=>eqTy z.Type_ (tyF c r i) | none=>false)
        by_cases q:i.N_≥0
        ·by_cases q2:i.N_<c.Slots_.length
         ·obtain ⟨y,hy,_⟩:=z7m (l:=c.Slots_) q q2
          simp [q,q2,hy]
         ·rw [z3b (by omega)]
          simp [q,q2]
        ·rw [z3b (by omega)]
         simp [q]
       ·simp only [hn,z7p]
        show (bif decide (i.N_≥0) then some (decide (i.N_<(c.Sign_.length:Int))) else some false)=some (decide (i.N_≥0) && decide (i.N_<(c.Sign_.length:Int)))
        cases decide (i.N_≥0) <;> rfl
       ·have:=zrc hr hp hd ha
        simp only [hn,z7p]
        show ((f67 n (c,i.N_,(tyF c r i).Param_)).bind fun y10=>some y10)=_
        rw [y8k this]
        rfl
section
variable {n:Nat} {c:Xe} {i:Xd} {set:List Bool} {news:List (List Int)} {op:List Int}
theorem zew {a b cc d e k dk dp fk fp s m:Int} (hk:k<4) (h1:idx [a,b,cc,d] k=some s) (h2:idx [i.D_,i.A_,i.B_,i.C_] k=some m) (hs:s ≠ 6) :
  zdr n (c.Sign_,c.Regs_,c.Slots_,c.List_,set,news,op,i) (a,b,cc,d,e) (k,c.Sign_,c.Regs_,c.Slots_,c.List_,set,news,op,dk,dp,fk,fp) =
   some (bif z1c c s m ⟨dk,dp⟩ then .go (IntKind.i64.wrap (k+1),c.Sign_,c.Regs_,c.Slots_,c.List_,set,news,op,
    (bif s==0 then dk else bif k==0 then ((idx c.Regs_ m).getD ty0).Kind_ else dk),(bif s==0 then dp else bif k==0 then ((idx c.Regs_ m).getD ty0).Param_ else dp),
    (bif s==0 then fk else bif k==0 then ((idx c.Regs_ m).getD ty0).Kind_ else bif k==1 then (bif a==0 then ((idx c.Regs_ m).getD ty0).Kind_ else fk) else fk),
    (bif s==0 then fp else bif k==0 then ((idx c.Regs_ m).getD ty0).Param_ else bif k==1 then (bif a==0 then ((idx c.Regs_ m).getD ty0).Param_ else fp) else fp))
    else .ret (c.Sign_,c.Regs_,c.Slots_,c.List_,set,news,op)):=by
 rw [zk5]
 have hk':decide (k<4)=true:=by simpa using hk
 simp only [hk',cond_true,h1,h2,Option.bind_some]
 unfold z1c
 cases hz:s==0 with
 | true =>
  simp only [cond_true]
  have e1:(m != 0) = !(m==0):=rfl
  rw [e1]
  cases m==0 <;> rfl
 | false =>
  simp only [cond_false,y7w]
  cases hi:idx c.Regs_ m with
  | none=>rfl
  | some t =>
   simp only [Option.bind_some,Bool.not_true,cond_false,y7y _ _ _ hs]
   have e2:(⟨t.Kind_,t.Param_⟩:Xb)=t:=rfl
   simp only [e2,Option.bind_some,orRet_inl]
   cases isS t s ⟨dk,dp⟩ <;> cases (k==0) <;> cases (k==1) <;> cases (a==0) <;> rfl
theorem zls {s:Int} (h:z4e s):s ≠ 6:=by
 rcases h with rfl | rfl | rfl | rfl | rfl | rfl | rfl | rfl <;> decide
theorem w1:IntKind.i64.wrap (0+1)=1:=by decide
theorem w2:IntKind.i64.wrap (1+1)=2:=by decide
theorem w3:IntKind.i64.wrap (2+1)=3:=by decide
theorem w4:IntKind.i64.wrap (3+1)=4:=by decide
theorem y55 {a b cc d e dk dp fk fp:Int} :
  zdr n (c.Sign_,c.Regs_,c.Slots_,c.List_,set,news,op,i) (a,b,cc,d,e) (4,c.Sign_,c.Regs_,c.Slots_,c.List_,set,news,op,dk,dp,fk,fp)=some (.out (4,c.Sign_,c.Regs_,c.Slots_,c.List_,set,news,op,dk,dp,fk,fp)):=by
 rw [zk5]; rfl
theorem zzt {r:z41} (m:Nat) (h:z4e r.d∧z4e r.a∧z4e r.b∧z4e r.c) :
  iter (zdr n (c.Sign_,c.Regs_,c.Slots_,c.List_,set,news,op,i) (r.d,r.a,r.b,r.c,r.n)) (m+5) (0,c.Sign_,c.Regs_,c.Slots_,c.List_,set,news,op,0,0,0,0) =
   some (bif z1c c r.d i.D_ ty0 && (z1c c r.a i.A_ (tyD c r i) && (z1c c r.b i.B_ (tyD c r i) && z1c c r.c i.C_ (tyD c r i))) then
    .out (4,c.Sign_,c.Regs_,c.Slots_,c.List_,set,news,op,(tyD c r i).Kind_,(tyD c r i).Param_,(tyF c r i).Kind_,(tyF c r i).Param_) else .ret (c.Sign_,c.Regs_,c.Slots_,c.List_,set,news,op)):=by
 obtain ⟨h1,h2,h3,h4⟩:=h
 have eD:∀ b:Bool,b=(r.d==0)→(⟨bif b then 0 else ((idx c.Regs_ i.D_).getD ty0).Kind_,bif b then 0 else ((idx c.Regs_ i.D_).getD ty0).Param_⟩:Xb)=tyD c r i:=by
  intro b hb; unfold tyD; rw [← hb]; cases b <;> rfl
 unfold iter
 rw [zew (s:=r.d) (m:=i.D_) (by decide) rfl rfl (zls h1)]
 have e0:(⟨0,0⟩:Xb)=ty0:=rfl
 rw [e0]
 cases z1c c r.d i.D_ ty0 with
 | false=>rfl
 | true =>
  have k0:((0:Int)==0)=true:=by decide
  simp only [cond_true,w1,k0,Bool.true_and]
  unfold iter
  rw [zew (s:=r.a) (m:=i.A_) (by decide) rfl rfl (zls h2),eD _ rfl]
  cases z1c c r.a i.A_ (tyD c r i) with
  | false=>rfl
  | true =>
   have k1:((1:Int)==0)=false:=by decide
   have k2:((1:Int)==1)=true:=by decide
   simp only [cond_true,w2,k1,k2,cond_false,Bool.true_and,Bool.cond_self]
   unfold iter
   rw [zew (s:=r.b) (m:=i.B_) (by decide) rfl rfl (zls h3),eD _ rfl]
   cases z1c c r.b i.B_ (tyD c r i) with
   | false=>rfl
   | true =>
    have k3:((2:Int)==0)=false:=by decide
    have k4:((2:Int)==1)=false:=by decide
    simp only [cond_true,w3,k3,k4,cond_false,Bool.true_and,Bool.cond_self]
    unfold iter
    rw [zew (s:=r.c) (m:=i.C_) (by decide) rfl rfl (zls h4),eD _ rfl]
    cases z1c c r.c i.C_ (tyD c r i) with
    | false=>rfl
    | true =>
     have k5:((3:Int)==0)=false:=by decide
     have k6:((3:Int)==1)=false:=by decide
     simp only [cond_true,w4,k5,k6,cond_false,Bool.true_and,Bool.cond_self]
     unfold iter
     rw [y55]
     simp only
     congr 13
     all_goals
      first
      | (unfold tyD; cases r.d==0 <;> rfl)
      | (unfold tyF; cases r.d==0 <;> cases r.a==0 <;> rfl)
theorem y7g (m:Nat) (hr:∀ t ∈ c.Regs_,mayT c.Sign_ t=true) (h0:0≤i.Bits_) (h1:i.Bits_<4294967296) :
  f35 (m+5) (c.Sign_,c.Regs_,c.Slots_,c.List_,set,news,op,i)=some (fits c i,c.Sign_,c.Regs_,c.Slots_,c.List_,set,news,op):=by
 rw [y7f,zmq]
 unfold fits
 cases h:rowD i.Op_ with
 | none=>rfl
 | some r =>
  obtain ⟨hs,hn⟩:=zri h
  simp only [Option.bind_some,Bool.not_true,cond_false,zzt m hs,zu4 _ h0 h1]
  cases hd:z1c c r.d i.D_ ty0 with
  | false=>rfl
  | true =>
  cases ha:z1c c r.a i.A_ (tyD c r i) with
  | false=>rfl
  | true =>
  cases hbb:z1c c r.b i.B_ (tyD c r i) with
  | false=>rfl
  | true =>
  cases hcc:z1c c r.c i.C_ (tyD c r i) with
  | false=>rfl
  | true =>
   simp only [Bool.true_and,cond_true,Option.bind_some,Bo.then]
   have hB:(bif (i.Op_==1) then (bif (!z6d i.Bits_) then some (Sum.inl (true,c.Sign_,c.Regs_,c.Slots_,c.List_,set,news,op,r.d,r.a,r.b,r.c,r.n,(tyF c r i).Kind_,(tyF c r i).Param_))
     else (bif i.Op_ != 1 then some (.inl (i.Bits_ != 0,c.Sign_,c.Regs_,c.Slots_,c.List_,set,news,op,r.d,r.a,r.b,r.c,r.n,(tyF c r i).Kind_,(tyF c r i).Param_)) else some (.inl (false,c.Sign_,c.Regs_,c.Slots_,c.List_,set,news,op,r.d,r.a,r.b,r.c,r.n,(tyF c r i).Kind_,(tyF c r i).Param_))))
     else (bif i.Op_ != 1 then some (.inl (i.Bits_ != 0,c.Sign_,c.Regs_,c.Slots_,c.List_,set,news,op,r.d,r.a,r.b,r.c,r.n,(tyF c r i).Kind_,(tyF c r i).Param_)) else some (.inl (false,c.Sign_,c.Regs_,c.Slots_,c.List_,set,news,op,r.d,r.a,r.b,r.c,r.n,(tyF c r i).Kind_,(tyF c r i).Param_))) :
      Option ((Bool×List Xa×List Xb×List Xc×List Xd×List Bool×List (List Int)×List Int×Int×Int×Int×Int×Int×Int×Int)⊕(Bool×List Xa×List Xb×List Xc×List Xd×List Bool×List (List Int)×List Int)))
     = some (.inl (!(z80 i),c.Sign_,c.Regs_,c.Slots_,c.List_,set,news,op,r.d,r.a,r.b,r.c,r.n,(tyF c r i).Kind_,(tyF c r i).Param_)):=by
    unfold z80
    have e1:(i.Op_ != 1) = !(i.Op_==1):=rfl
    have e2:(i.Bits_ != 0) = !(i.Bits_==0):=rfl
    rw [e1,e2]
    cases i.Op_==1 <;> cases z6d i.Bits_ <;> rfl
   rw [hB,Option.bind_some,orRet_inl]
   dsimp only
   cases hb:z80 i with
   | false=>rfl
   | true =>
    simp only [Bool.not_true,cond_false,Bool.true_and]
    unfold nOk
    rcases hn with (hn | hn | hn | hn) | ⟨hn,hp⟩
    ·rw [hn]; rfl
    ·rw [hn]
     show (bif decide (i.N_≥0) then some (decide (i.N_≤2147483647),c.Sign_,c.Regs_,c.Slots_,c.List_,set,news,op) else some (false,c.Sign_,c.Regs_,c.Slots_,c.List_,set,news,op))=some (decide (i.N_≥0) && decide (i.N_≤2147483647),c.Sign_,c.Regs_,c.Slots_,c.List_,set,news,op)
     cases decide (i.N_≥0) <;> rfl
    ·rw [hn]
     show (bif decide (i.N_≥0) then bif decide (i.N_<(c.Slots_.length:Int)) then (idx c.Slots_ i.N_).bind fun y11=>some (eqTy y11.Type_ (tyF c r i),c.Sign_,c.Regs_,c.Slots_,c.List_,set,news,op) else some (false,c.Sign_,c.Regs_,c.Slots_,c.List_,set,news,op) else some (false,c.Sign_,c.Regs_,c.Slots_,c.List_,set,news,op))=some ((match idx c.Slots_ i.N_ with | some z=>eqTy z.Type_ (tyF c r i) | none=>false),c.Sign_,c.Regs_,c.Slots_,c.List_,set,news,op)
     by_cases q:i.N_≥0
     ·by_cases q2:i.N_<c.Slots_.length
      ·obtain ⟨y,hy,_⟩:=z7m (l:=c.Slots_) q q2
       simp [q,q2,hy]
      ·rw [z3b (by omega)]
       simp [q,q2]
     ·rw [z3b (by omega)]
      simp [q]
    ·rw [hn]
     show (bif decide (i.N_≥0) then some (decide (i.N_<(c.Sign_.length:Int)),c.Sign_,c.Regs_,c.Slots_,c.List_,set,news,op) else some (false,c.Sign_,c.Regs_,c.Slots_,c.List_,set,news,op))=some (decide (i.N_≥0) && decide (i.N_<(c.Sign_.length:Int)),c.Sign_,c.Regs_,c.Slots_,c.List_,set,news,op)
     cases decide (i.N_≥0) <;> rfl
    ·obtain ⟨p1,p2⟩:=zrc hr hp hd ha
     obtain ⟨y,hy,_⟩:=z7m (l:=c.Sign_) p1 p2
     rw [hn]
     show (bif i.N_==0 then some (true,c.Sign_,c.Regs_,c.Slots_,c.List_,set,news,op) else bif i.N_==1 then (idx c.Sign_ (tyF c r i).Param_).bind fun y8=>some (y8.Kind_==2,c.Sign_,c.Regs_,c.Slots_,c.List_,set,news,op) else some (false,c.Sign_,c.Regs_,c.Slots_,c.List_,set,news,op))=some ((i.N_==0 || (i.N_==1 && (match idx c.Sign_ (tyF c r i).Param_ with | some p=>p.Kind_==2 | none=>false))),c.Sign_,c.Regs_,c.Slots_,c.List_,set,news,op)
     rw [hy]
     cases (i.N_==0) <;> cases (i.N_==1) <;> simp
end
theorem zi1 {α Y Z:Type} {l:List α} {p:α→Bool} {body:Int→Option (Bo Int Y Z)} {z:Int→Z} {y:Y}
  (hb:∀ (k:Nat) (h:k<l.length),body k=some (bif p l[k] then .go ((k+1:Nat):Int) else .ret (z k))) (he:body l.length=some (.out y)) :
  ∀ (j k f:Nat),k+j=l.length→j<f→iter body f (k:Int)=some (match (l.drop k).findIdx? (fun x=>!p x) with | none=>.out y | some i=>.ret (z ((k+i:Nat):Int)))
 | 0,k,f+1,hk,hf=>by
  obtain rfl:k=l.length:=by omega
  unfold iter
  rw [he]
  simp
 | j+1,k,f+1,hk,hf=>by
  have h:k<l.length:=by omega
  unfold iter
  rw [hb k h,List.drop_eq_getElem_cons h]
  cases hp:p l[k] with
  | false =>
   simp only [cond_false,List.findIdx?_cons,hp,Bool.not_false,if_true]
   rfl
  | true =>
   simp only [cond_true]
   rw [zi1 hb he j (k+1) f (by omega) (by omega)]
   rw [List.findIdx?_cons]
   simp only [hp,Bool.not_true,cond_false,Bool.false_eq_true,if_false]
   cases (l.drop (k+1)).findIdx? (fun x=>!p x) with
   | none=>rfl
   | some i=>simp only [Option.map_some]; congr 4; omega
theorem y07 {α Y Z:Type} {l:List α} {p:α→Bool} {body:Int→Option (Bo Int Y Z)} {z:Int→Z} {y:Y} {f:Nat}
  (hb:∀ (k:Nat) (h:k<l.length),body k=some (bif p l[k] then .go ((k+1:Nat):Int) else .ret (z k))) (he:body l.length=some (.out y)) (hf:l.length<f) :
  iter body f 0=some (match l.findIdx? (fun x=>!p x) with | none=>.out y | some i=>.ret (z (i:Int))):=by
 have:=zi1 hb he l.length 0 f (by omega) hf
 simpa using this
theorem zg8 {α:Type} (l:List α) (p:α→Bool):(l.findIdx? (fun x=>!p x)).isNone=l.all p:=by
 induction l with
 | nil=>rfl
 | cons x l ih =>
  rw [List.findIdx?_cons,List.all_cons,← ih]
  cases p x <;> simp
theorem z4g {α Y Z:Type} {l:List α} {p:α→Bool} {body:Int→Option (Bo Int Y Z)} {z:Z} {y:Y} {f:Nat}
  (hb:∀ (k:Nat) (h:k<l.length),body k=some (bif p l[k] then .go ((k+1:Nat):Int) else .ret z)) (he:body l.length=some (.out y)) (hf:l.length<f) :
  iter body f 0=some (bif l.all p then .out y else .ret z):=by
 rw [y07 (z:=fun _=>z) hb he hf,← zg8]
 cases l.findIdx? (fun x=>!p x) <;> rfl
theorem zfx {α S Z:Type} {l:List α} {F:S→α→S} {Inv:S→Prop} {body:Int×S→Option (Bo (Int×S) (Int×S) Z)}
  (hb:∀ (k:Nat) (s:S) (h:k<l.length),Inv s→body (k,s)=some (.go (((k+1:Nat):Int),F s l[k]))∧Inv (F s l[k])) (he:∀ s,Inv s→body (l.length,s)=some (.out ((l.length:Int),s))) :
  ∀ (j k f:Nat) (s:S),k+j=l.length→j<f→Inv s→iter body f ((k:Int),s)=some (.out ((l.length:Int),(l.drop k).foldl F s))
 | 0,k,f+1,s,hk,hf,hi=>by
  obtain rfl:k=l.length:=by omega
  unfold iter
  rw [he s hi]
  simp
 | j+1,k,f+1,s,hk,hf,hi=>by
  have h:k<l.length:=by omega
  obtain ⟨h1,h2⟩:=hb k s h hi
  unfold iter
  rw [h1,List.drop_eq_getElem_cons h]
  exact zfx hb he j (k+1) f _ (by omega) (by omega) h2
theorem zy5 {α S Z:Type} {l:List α} {F:S→α→S} {Inv:S→Prop} {body:Int×S→Option (Bo (Int×S) (Int×S) Z)} {f:Nat} {s:S}
  (hb:∀ (k:Nat) (s:S) (h:k<l.length),Inv s→body (k,s)=some (.go (((k+1:Nat):Int),F s l[k]))∧Inv (F s l[k])) (he:∀ s,Inv s→body (l.length,s)=some (.out ((l.length:Int),s)))
  (hf:l.length<f) (hi:Inv s):iter body f (0,s)=some (.out ((l.length:Int),l.foldl F s)):=by
 have:=zfx hb he l.length 0 f s (by omega) hf hi
 simpa using this
theorem z2j {k:Nat} (h:k<4611686018427387904):IntKind.i64.wrap ((k:Int)+1)=((k+1:Nat):Int):=by
 rw [z3x (by omega) (by omega)]; simp
theorem ycu {k:Nat} (h:k<4611686018427387904):IntKind.i64.wrap ((k:Int) - 1)=(k:Int) - 1:=z3x (by omega) (by omega)
theorem zao (i:Xd):(z1n i).length≤3:=by
 unfold z1n
 split
 ·rename_i r _
  cases r.a==0 <;> cases r.b==0 <;> cases r.c==0 <;> simp
 ·simp
theorem zcf {c:Xe} {i:Xd} (h:fits c i=true):∃ r,rowD i.Op_=some r∧z1c c r.d i.D_ ty0=true∧z1c c r.a i.A_ (tyD c r i)=true∧z1c c r.b i.B_ (tyD c r i)=true∧z1c c r.c i.C_ (tyD c r i)=true:=by
 unfold fits at h
 split at h
 ·cases h
 ·rename_i r hr
  simp only [Bool.and_eq_true] at h
  exact ⟨r,hr,h.1,h.2.1,h.2.2.1,h.2.2.2.1⟩
theorem zd0 {c:Xe} {s k:Int} {d:Xb} (h:z1c c s k d=true) (hs:(s==0)=false):0≤k∧k<c.Regs_.length:=by
 obtain ⟨t,ht⟩:=z8c h hs
 exact (zbj ht).2
theorem zo8 {c:Xe} {i:Xd} (h:fits c i=true):∀ y ∈ z1n i,0≤y∧y<c.Regs_.length:=by
 obtain ⟨r,hr,h1,h2,h3,h4⟩:=zcf h
 intro y hy
 unfold z1n at hy
 rw [hr] at hy
 simp only [List.mem_append] at hy
 rcases hy with hy | hy | hy
 ·cases hz:r.a==0 with
  | true=>rw [hz] at hy; cases hy
  | false =>
   rw [hz] at hy
   simp only [cond_false,List.mem_singleton] at hy
   subst hy; exact zd0 h2 hz
 ·cases hz:r.b==0 with
  | true=>rw [hz] at hy; cases hy
  | false =>
   rw [hz] at hy
   simp only [cond_false,List.mem_singleton] at hy
   subst hy; exact zd0 h3 hz
 ·cases hz:r.c==0 with
  | true=>rw [hz] at hy; cases hy
  | false =>
   rw [hz] at hy
   simp only [cond_false,List.mem_singleton] at hy
   subst hy; exact zd0 h4 hz
theorem zji {c:Xe} {i:Xd} (h:fits c i=true) (hs:sets i=true):0≤i.D_∧i.D_<c.Regs_.length:=by
 obtain ⟨r,hr,h1,_⟩:=zcf h
 unfold sets at hs
 rw [hr] at hs
 simp only [Bool.not_eq_true'] at hs
 exact zd0 h1 hs
def rdOk (set:List Bool) (i:Xd):Bool:=(z1n i).all fun y=>(set[y.toNat]?).getD false
theorem zbg {α:Type} {l:List α} {y:Int} (h0:0≤y) (h1:y<l.length):∃ b,l[y.toNat]? = some b:=by
 have:y.toNat<l.length:=by omega
 exact ⟨_,List.getElem?_eq_getElem this⟩
theorem zmu {n m:Nat} {c:Xe} {i:Xd} {set:List Bool} {news:List (List Int)} {op:List Int}
  (h:∀ y ∈ z1n i,0≤y∧y<set.length) :
  iter (zmt n (c.Sign_,c.Regs_,c.Slots_,c.List_,set,news,op,i) (((z1n i).length:Int),z1n i)) (m+4) 0=some (bif rdOk set i then .out ((z1n i).length:Int) else .ret ()):=by
 refine z4g (fun k hk=>?_) ?_ (by have:=zao i; omega)
 ·have h3:=zao i
  obtain ⟨y0,y1⟩:=h _ (List.getElem_mem hk)
  obtain ⟨b,hb⟩:=zbg y0 y1
  rw [zk7]
  have e1:decide ((k:Int)<((z1n i).length:Int))=true:=by simp; omega
  have e2:(z1n i)[(k:Int).toNat]? = some (z1n i)[k]:=by simp [hk]
  simp only [e1,cond_true]
  rw [zi (by omega),e2]
  simp only [Option.bind_some]
  rw [zi ⟨y0,y1⟩,hb,z2j (by omega)]
  cases b <;> rfl
 ·rw [zk7]; simp
theorem zzz {n m:Nat} {c:Xe} {i:Xd} {set:List Bool} {op:List Xg} {b0:Bool} (h:∀ y ∈ z1n i,0≤y∧y<set.length) :
  iter (zmx n (c,i,set,op) (b0,z1n i)) (m+4) 0=some (bif rdOk set i then .out ((z1n i).length:Int) else .ret ()):=by
 refine z4g (fun k hk=>?_) ?_ (by have:=zao i; omega)
 ·have h3:=zao i
  obtain ⟨y0,y1⟩:=h _ (List.getElem_mem hk)
  obtain ⟨b,hb⟩:=zbg y0 y1
  rw [zka]
  have e1:decide ((k:Int)<((z1n i).length:Int))=true:=by simp; omega
  have e2:(z1n i)[(k:Int).toNat]? = some (z1n i)[k]:=by simp [hk]
  have e3:idx set (z1n i)[k]=some b:=by unfold idx; rw [if_pos y0,hb]
  simp only [e1,cond_true]
  rw [zi (by omega),e2]
  simp only [Option.bind_some]
  rw [e3,z2j (by omega),hb]
  cases b <;> rfl
 ·rw [zka]; simp
def lst (op:List Int):Int:=match op.getLast? with | some x=>x | none=>-1
def undo (set:List Bool) (l:List Int):List Bool:=l.foldl (fun s r=>s.set r.toNat false) set
def zfl (c:Xe) (k p:Int):Bool:=match idx c.Regs_ k with | some t=>t.Kind_==3 && (t.Param_==p && true) | none=>false
def onD (i:Xd):Bool:=elem i.Op_ || (i.Op_==29 || (i.Op_==30 || i.Op_==32))
def onA (i:Xd):Bool:=i.Op_==31 || i.Op_==33
def zd5 (c:Xe) (i:Xd) (p:Int):Bool:=bif onD i then zfl c i.D_ p else bif onA i then zfl c i.A_ p else false
theorem z7n {α:Type} (l:List α) (h:0<l.length):∃ x,l.getLast? = some x∧l[l.length - 1]? = some x:=by
 rw [List.getLast?_eq_getElem?]
 exact ⟨l[l.length - 1],by simp [h],by simp [h]⟩
theorem z99 {k:Nat} (h0:0<k) (h:k<4611686018427387904):(IntKind.i64.wrap ((k:Int) - 1)).toNat=k - 1∧0≤IntKind.i64.wrap ((k:Int) - 1)∧IntKind.i64.wrap ((k:Int) - 1)<k:=by
 rw [ycu h]; omega
theorem zi5 {R:Type} (op:List Int) (h:op.length<4611686018427387904):(bif (decide ((op.length:Int) > (0:Int))) then (need (0≤(IntKind.i64.wrap ((op.length:Int) - (1:Int)))∧(IntKind.i64.wrap ((op.length:Int) - (1:Int)))<(op.length:Int)) ((op[(IntKind.i64.wrap ((op.length:Int) - (1:Int))).toNat]?).bind fun y1=>some (.inl y1))) else (some (.inl (-1:Int))):Option (Int⊕R))=some (.inl (lst op)):=by
 by_cases h0:0<op.length
 ·have e:decide ((op.length:Int) > 0)=true:=by simp; omega
  obtain ⟨w1,w2,w3⟩:=z99 h0 h
  obtain ⟨x,x1,x2⟩:=z7n op h0
  rw [e,cond_true,zi ⟨w2,w3⟩,w1,x2]
  unfold lst
  rw [x1]; rfl
 ·have:op=[]:=List.eq_nil_of_length_eq_zero (by omega)
  subst this
  rfl
section
variable {n:Nat} {c:Xe} {i:Xd} {set:List Bool} {news:List (List Int)} {op:List Int}
theorem zzx (ho:op.length<4611686018427387904) (h:i.Op_=34):f36 n (c.Sign_,c.Regs_,c.Slots_,c.List_,set,news,op,i)=some (!(decide (lst op≥0) || (op.length:Int)==64),c.Sign_,c.Regs_,c.Slots_,c.List_,set,news,op):=by
 rw [zds]
 dsimp only
 rw [zi5 op ho,h]
 have e1:((34:Int)==34)=true:=rfl
 have e2:((34:Int)==36)=false:=rfl
 simp only [Option.bind_some,orRet_inl,e1,e2,cond_true,cond_false]
 cases decide (lst op≥0) <;> cases ((op.length:Int)==64) <;> rfl
theorem zzv (ho:op.length≤64) (h:i.Op_=36):f36 n (c.Sign_,c.Regs_,c.Slots_,c.List_,set,news,op,i)=some (!(decide (lst op≥0) || (op.length:Int)==64),c.Sign_,c.Regs_,c.Slots_,c.List_,set,news,bif (decide (lst op≥0) || (op.length:Int)==64) then op else op++[i.N_]):=by
 rw [zds]
 dsimp only
 rw [zi5 op (by omega),h]
 have e1:((36:Int)==34)=false:=rfl
 have e2:((36:Int)==36)=true:=rfl
 simp only [Option.bind_some,orRet_inl,e1,e2,cond_true,cond_false]
 rw [zi (by simp; omega)]
 cases decide (lst op≥0) <;> cases ((op.length:Int)==64) <;> rfl
theorem zzw (ho:op.length≤64) (h:i.Op_=37):f36 n (c.Sign_,c.Regs_,c.Slots_,c.List_,set,news,op,i)=some (!(decide (lst op<0)),c.Sign_,c.Regs_,c.Slots_,c.List_,set,news,bif decide (lst op<0) then op else op.dropLast):=by
 rw [zds]
 dsimp only
 rw [zi5 op (by omega),h]
 have e1:((37:Int)==34)=false:=rfl
 have e2:((37:Int)==36)=false:=rfl
 have e3:((37:Int)==35)=false:=rfl
 have e4:((37:Int)==37)=true:=rfl
 simp only [Option.bind_some,orRet_inl,e1,e2,e3,e4,cond_true,cond_false]
 cases hl:decide (lst op<0) with
 | true=>rfl
 | false =>
  have h0:0<op.length:=by
   cases op with
   | nil=>simp [lst] at hl
   | cons _ _=>simp
  obtain ⟨w1,w2,w3⟩:=z99 h0 (by omega)
  rw [cond_false,zi ⟨w2,by omega⟩,w1,zi (by omega)]
  simp [List.dropLast_eq_take]
theorem zzu (ho:op.length≤64) (hf:fits c i=true) (h1:i.Op_ ≠ 34) (h2:i.Op_ ≠ 35) (h3:i.Op_ ≠ 36) (h4:i.Op_ ≠ 37) (hD:onD i=true→∃ t,idx c.Regs_ i.D_=some t) (hA:onA i=true→∃ t,idx c.Regs_ i.A_=some t) :
  f36 n (c.Sign_,c.Regs_,c.Slots_,c.List_,set,news,op,i)=some ((bif decide (lst op<0) then true else zd5 c i (lst op)),c.Sign_,c.Regs_,c.Slots_,c.List_,set,news,op):=by
 rw [zds]
 dsimp only
 rw [zi5 op (by omega)]
 have e1:(i.Op_==34)=false:=by simpa using h1
 have e2:(i.Op_==36)=false:=by simpa using h3
 have e3:(i.Op_==35)=false:=by simpa using h2
 have e4:(i.Op_==37)=false:=by simpa using h4
 simp only [Option.bind_some,orRet_inl,e1,e2,e3,e4,cond_true,cond_false,y6p]
 cases hl:decide (lst op<0) with
 | true=>rfl
 | false =>
  simp only [cond_false]
  have hB:(bif elem i.Op_ then some (Sum.inl (true,lst op)) else bif i.Op_==29 then some (.inl (true,lst op)) else bif i.Op_==30 then some (.inl (true,lst op)) else some (.inl (i.Op_==32,lst op)):Option (Bool×Int⊕(Bool×List Xa×List Xb×List Xc×List Xd×List Bool×List (List Int)×List Int)))=some (.inl (onD i,lst op)):=by
   unfold onD
   cases elem i.Op_ <;> cases i.Op_==29 <;> cases i.Op_==30 <;> rfl
  rw [hB,Option.bind_some,orRet_inl]
  dsimp only
  unfold zd5
  cases hd:onD i with
  | true =>
   obtain ⟨t,ht⟩:=hD hd
   simp only [cond_true,zfl,ht,Option.bind_some]
  | false =>
   simp only [cond_false]
   have hB2:(bif i.Op_==31 then some (Sum.inl (true,lst op)) else some (.inl (i.Op_==33,lst op)):Option (Bool×Int⊕(Bool×List Xa×List Xb×List Xc×List Xd×List Bool×List (List Int)×List Int)))=some (.inl (onA i,lst op)):=by
    unfold onA
    cases i.Op_==31 <;> rfl
   rw [hB2,Option.bind_some,orRet_inl]
   dsimp only
   cases ha:onA i with
   | true =>
    obtain ⟨t,ht⟩:=hA ha
    simp only [cond_true,zfl,ht,Option.bind_some]
   | false=>rfl
theorem zon (set:List Bool) (l:List Int):(undo set l).length=set.length:=by
 unfold undo
 induction l generalizing set with
 | nil=>rfl
 | cons x l ih=>simp only [List.foldl_cons]; rw [ih]; simp
theorem y56 {m:Nat} {nl:List Int} (ho:op.length≤64) (h:i.Op_=35) (hn:0<op.length→lst op<0→news.getLast? = some nl∧news.length<4611686018427387904∧nl.length<m+4∧nl.length<4611686018427387904∧∀ r ∈ nl,0≤r∧r<set.length) :
  f36 (m+4) (c.Sign_,c.Regs_,c.Slots_,c.List_,set,news,op,i)=some (!((op.length:Int)==0 || decide (lst op≥0)),c.Sign_,c.Regs_,c.Slots_,c.List_,bif ((op.length:Int)==0 || decide (lst op≥0)) then (set,news,op) else (undo set nl,news.dropLast,op.dropLast)):=by
 rw [zds]
 dsimp only
 rw [zi5 op (by omega),h]
 have e1:((35:Int)==34)=false:=rfl
 have e2:((35:Int)==36)=false:=rfl
 have e3:((35:Int)==35)=true:=rfl
 simp only [Option.bind_some,orRet_inl,e1,e2,e3,cond_true,cond_false]
 have hB:(bif ((op.length:Int)==0) then some (Sum.inl true) else some (.inl (decide (lst op≥0))):Option (Bool⊕(Bool×List Xa×List Xb×List Xc×List Xd×List Bool×List (List Int)×List Int)))=some (.inl ((op.length:Int)==0 || decide (lst op≥0))):=by
  cases (op.length:Int)==0 <;> rfl
 rw [hB,Option.bind_some,orRet_inl]
 cases hq:((op.length:Int)==0 || decide (lst op≥0)) with
 | true=>rfl
 | false =>
  simp only [Bool.or_eq_false_iff,beq_eq_false_iff_ne,ne_eq,decide_eq_false_iff_not] at hq
  have h0:0<op.length:=by omega
  obtain ⟨n1,n2,n3,n4,n5⟩:=hn h0 (by omega)
  have hnl:0<news.length:=by
   cases news with
   | nil=>simp at n1
   | cons _ _=>simp
  obtain ⟨w1,w2,w3⟩:=z99 h0 (by omega)
  obtain ⟨v1,v2,v3⟩:=z99 hnl n2
  have hg:news[news.length - 1]? = some nl:=by rw [← List.getLast?_eq_getElem?]; exact n1
  simp only [cond_false]
  rw [zi ⟨v2,v3⟩,v1,hg]
  simp only [Option.bind_some]
  have hit:iter (zms (m+4) (c.Sign_,c.Regs_,c.Slots_,c.List_,set,news,op,i) (nl.length:Int)) (m+4) (0,set)=some (.out ((nl.length:Int),undo set nl)):=by
   refine zy5 (F:=fun (s:List Bool) (r:Int)=>s.set r.toNat false) (Inv:=fun (s:List Bool)=>s.length=set.length) (fun k s hk hs=>?_) (fun s hs=>?_) n3 rfl
   ·obtain ⟨r0,r1⟩:=n5 _ (List.getElem_mem hk)
    obtain ⟨b,hb⟩:=zbg (l:=s) r0 (by omega)
    rw [zk6]
    have e1:decide ((k:Int)<(nl.length:Int))=true:=by simp; omega
    have e2:nl[(k:Int).toNat]? = some nl[k]:=by simp [hk]
    dsimp only
    rw [e1,v1,hg]
    simp only [cond_true,Option.bind_some]
    rw [zi (by omega),e2]
    simp only [Option.bind_some]
    rw [zi ⟨r0,by omega⟩,hb,z2j (by omega)]
    exact ⟨rfl,by simpa using hs⟩
   ·rw [zk6]; simp
  rw [hit]
  simp only [Option.bind_some,Bo.then]
  rw [zi ⟨v2,by omega⟩,zi (by omega),zi ⟨w2,by omega⟩,w1,zi (by omega)]
  simp [List.dropLast_eq_take]
end
def z9b (news:List (List Int)) (d:Int):List (List Int):=match news.getLast? with | some l=>news.set (news.length - 1) (l++[d]) | none=>news
section
variable {n:Nat} {c:Xe} {i:Xd} {set:List Bool} {news:List (List Int)} {op:List Int}
theorem zzy {m:Nat} (h:i.Op_=34) (hr:∀ y ∈ z1n i,0≤y∧y<set.length) (ho:op.length≤64) (hn:news.length≤64) :
  f37 (m+4) (c.Sign_,c.Regs_,c.Slots_,c.List_,set,news,op,i)=some (rdOk set i,c.Sign_,c.Regs_,c.Slots_,c.List_,set,bif rdOk set i then news++[[]] else news,bif rdOk set i then op++[-1] else op):=by
 rw [zu0]
 dsimp only
 rw [zsc]
 simp only [Option.bind_some]
 rw [zmu hr]
 cases rdOk set i with
 | false=>rfl
 | true =>
  have e1:((34:Int)==34)=true:=rfl
  have hs:sets i=false:=by
   unfold sets; rw [h]; rfl
  simp only [cond_true,Option.bind_some,Bo.then,h,e1]
  rw [zi (by simp; omega),zi (by simp; omega)]
  simp only [Option.bind_some,orRet_inl,zmh,hs,cond_false]
theorem zc9 {m:Nat} (h:i.Op_ ≠ 34) (hr:∀ y ∈ z1n i,0≤y∧y<set.length) (hD:sets i=true→0≤i.D_∧i.D_<set.length) (hn:news.length≤64) (hnl:∀ l ∈ news,l.length<1000000) :
  f37 (m+4) (c.Sign_,c.Regs_,c.Slots_,c.List_,set,news,op,i)=some (rdOk set i,c.Sign_,c.Regs_,c.Slots_,c.List_,bif rdOk set i && (sets i && !((set[i.D_.toNat]?).getD false)) then (set.set i.D_.toNat true,z9b news i.D_,op) else (set,news,op)):=by
 rw [zu0]
 dsimp only
 rw [zsc]
 simp only [Option.bind_some]
 rw [zmu hr]
 cases rdOk set i with
 | false=>rfl
 | true =>
  have e1:(i.Op_==34)=false:=by simpa using h
  simp only [cond_true,Option.bind_some,Bo.then,e1,cond_false,orRet_inl,zmh]
  cases hs:sets i with
  | false=>rfl
  | true =>
   obtain ⟨d0,d1⟩:=hD hs
   obtain ⟨b,hb⟩:=zbg d0 d1
   simp only [cond_true]
   rw [zi ⟨d0,d1⟩,hb]
   simp only [Option.bind_some,orRet_inl,Option.getD_some]
   cases b with
   | true=>rfl
   | false =>
    simp only [Bool.not_false,cond_true,Bool.and_self]
    rw [zi ⟨d0,d1⟩]
    by_cases h0:0<news.length
    ·obtain ⟨w1,w2,w3⟩:=z99 h0 (by omega)
     obtain ⟨l,l1,l2⟩:=z7n news h0
     have e2:decide (IntKind.i64.wrap ((news.length:Int) - 1)≥0)=true:=by simpa using w2
     have hl:l.length<1000000:=hnl l (List.mem_of_getLast? l1)
     rw [e2,cond_true,zi ⟨w2,w3⟩,w1,l2]
     simp only [Option.bind_some]
     rw [zi (by simp; omega),zi ⟨w2,w3⟩,zi (p:=True∧news.length - 1<news.length) ⟨trivial,by omega⟩]
     unfold z9b
     rw [l1]
    ·have:news=[]:=List.eq_nil_of_length_eq_zero (by omega)
     subst this
     rfl
end
def vecP (c:Xe) (i:Xd):Int:=match idx c.Regs_ (bif onD i then i.D_ else bif onA i then i.A_ else -1) with | some t=>bif t.Kind_==3 then t.Param_ else -1 | none=>-1
theorem y88 {n:Nat} {c:Xe} {i:Xd}:f60 n (c,i)=some (vecP c i):=by
 rw [y87]
 simp only [y6r,Option.bind_some]
 have hB:((bif elem i.Op_ then some (Sum.inl true) else bif i.Op_==29 then some (.inl true) else bif i.Op_==30 then some (.inl true) else some (.inl (i.Op_==32)):Option (Bool⊕(Int⊕Int))).bind (zk fun s1=>bif s1 then some (Sum.inl i.D_) else (bif i.Op_==31 then some (Sum.inl true) else some (.inl (i.Op_==33)):Option (Bool⊕(Int⊕Int))).bind (zk fun s2=>bif s2 then some (Sum.inl i.A_) else some (.inl (-1:Int)))))
   = some (.inl (bif onD i then i.D_ else bif onA i then i.A_ else -1)):=by
  unfold onD onA
  cases elem i.Op_ <;> cases i.Op_==29 <;> cases i.Op_==30 <;> cases i.Op_==32 <;> cases i.Op_==31 <;> cases i.Op_==33 <;> rfl
 rw [hB,Option.bind_some,orRet_inl]
 unfold vecP
 generalize (bif onD i then i.D_ else bif onA i then i.A_ else -1)=k
 by_cases h0:k<0
 ·rw [z3b (.inl h0)]
  simp [h0]
 ·by_cases h1:k≥c.Regs_.length
  ·rw [z3b (.inr h1)]
   simp [h0,h1]
  ·obtain ⟨t,ht,_⟩:=z7m (l:=c.Regs_) (n:=k) (by omega) (by omega)
   have e1:decide (k<0)=false:=by simpa using h0
   have e2:decide (k≥(c.Regs_.length:Int))=false:=by simp; omega
   have e3:(t.Kind_ != 3) = !(t.Kind_==3):=rfl
   simp only [e1,e2,ht,cond_false,Option.bind_some,orRet_inl,e3]
   cases t.Kind_==3 <;> rfl
theorem y9x {c:Xe} {i:Xd} {p:Int} (hp:0≤p):(vecP c i != p) = !(zd5 c i p):=by
 have key:∀ k:Int,((match idx c.Regs_ k with | some t=>bif t.Kind_==3 then t.Param_ else -1 | none=>-1) != p) = !(zfl c k p):=fun k=>by
  unfold zfl
  have e:((-1:Int) != p)=true:=by simp; omega
  cases idx c.Regs_ k with
  | none=>exact e
  | some t =>
   simp only
   cases t.Kind_==3 with
   | false=>exact e
   | true=>simp [bne]
 have e:((-1:Int) != p)=true:=by simp; omega
 unfold vecP zd5
 cases onD i with
 | true=>exact key _
 | false =>
  simp only [cond_false]
  cases onA i with
  | true=>exact key _
  | false =>
   simp only [cond_false,Bool.not_false]
   rw [z3b (.inl (by decide))]
   exact e
def z1u (o:List Xg):Bool:=match o.getLast? with | some x=>x.Op_==36 | none=>false
def lstP (o:List Xg):Int:=match o.getLast? with | some x=>x.Param_ | none=>0
def zbq (i:Xd) (o:List Xg):Bool :=
 bif i.Op_==34 || i.Op_==36 then decide ((o.length:Int)<64) else bif i.Op_==35 then (decide ((o.length:Int) > 0) && !(z1u o)) else bif i.Op_==37 then z1u o else true
def z4f (c:Xe) (i:Xd) (set:List Bool) (o:List Xg):Bool :=
 fits c i && (!(z1u o && (!(i.Op_==37) && vecP c i != lstP o)) && (rdOk set i && zbq i o))
theorem y7n {m:Nat} {c:Xe} {i:Xd} {set:List Bool} {o:List Xg} (hr:∀ t ∈ c.Regs_,mayT c.Sign_ t=true) (h0:0≤i.Bits_) (h1:i.Bits_<4294967296)
  (hs:set.length=c.Regs_.length) (ho:o.length<4611686018427387904):f41 (m+4) (c,i,set,o)=some (z4f c i set o):=by
 rw [y7m]
 have hL:(bif (decide ((o.length:Int) > (0:Int))) then ((idx o (IntKind.i64.wrap ((o.length:Int) - (1:Int)))).bind fun y1=>some (Sum.inl (y1.Op_==36))) else (some (.inl false)):Option (Bool⊕Bool))=some (.inl (z1u o)):=by
  by_cases q:0<o.length
  ·have e:decide ((o.length:Int) > 0)=true:=by simp; omega
   obtain ⟨w1,w2,w3⟩:=z99 q ho
   obtain ⟨x,x1,x2⟩:=z7n o q
   have e2:idx o (IntKind.i64.wrap ((o.length:Int) - 1))=some x:=by unfold idx; rw [if_pos w2,w1,x2]
   rw [e,e2]
   unfold z1u
   rw [x1]; rfl
  ·have:o=[]:=List.eq_nil_of_length_eq_zero (by omega)
   subst this; rfl
 have hP:z1u o=true→idx o (IntKind.i64.wrap ((o.length:Int) - 1))=o.getLast?:=fun hl=>by
  have q:0<o.length:=by
   cases o with
   | nil=>cases hl
   | cons _ _=>simp
  obtain ⟨w1,w2,w3⟩:=z99 q ho
  obtain ⟨x,x1,x2⟩:=z7n o q
  unfold idx
  rw [if_pos w2,w1,x2,x1]
 dsimp only
 rw [hL,Option.bind_some,orRet_inl]
 simp only [y86 hr h0 h1,y88,Option.bind_some]
 unfold z4f
 cases hf:fits c i with
 | false=>rfl
 | true =>
  have hB:(bif z1u o then (bif i.Op_ != 37 then ((idx o (IntKind.i64.wrap ((o.length:Int) - 1))).bind fun y4=>some (Sum.inl (z1u o,vecP c i != y4.Param_))) else some (.inl (z1u o,false))) else some (.inl (z1u o,false)):Option (Bool×Bool⊕Bool))=some (.inl (z1u o,z1u o && (!(i.Op_==37) && vecP c i != lstP o))):=by
   have e1:(i.Op_ != 37) = !(i.Op_==37):=rfl
   rw [e1]
   cases hl:z1u o with
   | false=>rfl
   | true =>
    rw [hP hl]
    cases i.Op_==37 with
    | true=>rfl
    | false =>
     unfold lstP
     cases hg:o.getLast? with
     | none=>unfold z1u at hl; rw [hg] at hl; cases hl
     | some x=>rfl
  simp only [Bool.not_true,cond_false]
  rw [hB,Option.bind_some,orRet_inl]
  dsimp only
  cases hb:(z1u o && (!(i.Op_==37) && vecP c i != lstP o)) with
  | true=>rfl
  | false =>
   simp only [cond_false,y6k,Option.bind_some,Bool.not_false,Bool.true_and]
   rw [zzz (fun y hy=>by rw [hs]; exact zo8 hf y hy)]
   cases rdOk set i with
   | false=>rfl
   | true =>
    simp only [cond_true,Option.bind_some,Bo.then,Bool.true_and]
    unfold zbq
    cases i.Op_==34 <;> cases i.Op_==36 <;> cases i.Op_==35 <;> cases i.Op_==37 <;> cases decide ((o.length:Int) > 0) <;> rfl
def code (o:Xg):Int:=bif o.Op_==36 then o.Param_ else -1
def z48 (o:Xg):Bool:=o.Op_==34
def za9 (N:Nat):List Bool→List (List Int)→List Xg→Prop
 | _,[],[]=>True
 | set,l::ls,w::ws=>undo set l=w.Set_∧l.length≤N∧(∀ r ∈ l,0≤r∧r<set.length)∧za9 N w.Set_ ls ws
 | _,_,_=>False
structure Two (c:Xe) (N:Nat) (set:List Bool) (news:List (List Int)) (op:List Int) (o:List Xg):Prop where
 len:set.length=c.Regs_.length
 op:op=o.map code
 le:o.length≤64
 ok:∀ x ∈ o,x.Op_=34∨(x.Op_=36∧0≤x.Param_)
 ch:za9 N set news.reverse (o.filter z48).reverse
theorem y5h {i:Xd} {r:z41} (h:rowD i.Op_=some r) (hd:onD i=true):(r.d==0)=false:=by
 obtain ⟨op,d,a,b,c,N,bits⟩:=i
 dsimp only at h
 rcases z5j op with (rfl | rfl | rfl | rfl | rfl | rfl | rfl | rfl | rfl | rfl | rfl | rfl | rfl | rfl | rfl | rfl | rfl | rfl | rfl | rfl | rfl | rfl | rfl | rfl | rfl | rfl | rfl | rfl | rfl | rfl | rfl | rfl | rfl | rfl | rfl | rfl | rfl) | h0
 iterate 37 (· first | (cases h; rfl) | (exact absurd hd (by decide)) | (cases h; revert hd; simp [onD,elem]))
 rw [z36 h0] at h; cases h
theorem y5f {i:Xd} {r:z41} (h:rowD i.Op_=some r) (hd:onA i=true):(r.a==0)=false:=by
 obtain ⟨op,d,a,b,c,N,bits⟩:=i
 dsimp only at h
 rcases z5j op with (rfl | rfl | rfl | rfl | rfl | rfl | rfl | rfl | rfl | rfl | rfl | rfl | rfl | rfl | rfl | rfl | rfl | rfl | rfl | rfl | rfl | rfl | rfl | rfl | rfl | rfl | rfl | rfl | rfl | rfl | rfl | rfl | rfl | rfl | rfl | rfl | rfl) | h0
 iterate 37 (· first | (cases h; rfl) | (exact absurd hd (by decide)) | (cases h; revert hd; simp [onA]))
 rw [z36 h0] at h; cases h
theorem y5g {c:Xe} {i:Xd} (h:fits c i=true) (hd:onD i=true):∃ t,idx c.Regs_ i.D_=some t:=by
 obtain ⟨r,hr,h1,_⟩:=zcf h
 exact z8c h1 (y5h hr hd)
theorem y5e {c:Xe} {i:Xd} (h:fits c i=true) (hd:onA i=true):∃ t,idx c.Regs_ i.A_=some t:=by
 obtain ⟨r,hr,_,h1,_⟩:=zcf h
 exact z8c h1 (y5f hr hd)
section
variable {c:Xe} {N:Nat} {set:List Bool} {news:List (List Int)} {op:List Int} {o:List Xg} {i:Xd}
theorem Two.lst (h:Two c N set news op o):lst op=(match o.getLast? with | some x=>code x | none=>-1):=by
 unfold Loom.lst
 rw [h.op,List.getLast?_map]
 cases o.getLast? <;> rfl
theorem Two.loop (h:Two c N set news op o):decide (Loom.lst op≥0)=z1u o∧(z1u o=true→Loom.lst op=lstP o∧0≤lstP o):=by
 rw [h.lst]
 unfold z1u lstP
 cases hg:o.getLast? with
 | none=>exact ⟨by decide,fun h=>by cases h⟩
 | some x =>
  have hx:=h.ok x (List.mem_of_getLast? hg)
  rcases hx with hx | ⟨hx,hp⟩
  ·have e:code x = -1:=by unfold code; rw [hx]; rfl
   have e2:(x.Op_==36)=false:=by rw [hx]; rfl
   simp only [e,e2]
   exact ⟨by decide,fun h=>by cases h⟩
  ·have e:code x=x.Param_:=by unfold code; rw [hx]; rfl
   have e2:(x.Op_==36)=true:=by rw [hx]; rfl
   simp only [e,e2]
   exact ⟨by simpa using hp,fun _=>⟨by trivial,hp⟩⟩
theorem y3v (x:Int):decide (x<0) = !(decide (x≥0)):=by
 by_cases h:x<0
 ·have:¬ x≥0:=by omega
  simp [h]
 ·have:x≥0:=by omega
  simp [h,this]
theorem z3p {N M:Nat} (hNM:N≤M):∀ (set:List Bool) (ls:List (List Int)) (ws:List Xg),za9 N set ls ws→za9 M set ls ws
 | _,[],[],_=>trivial
 | set,l::ls,w::ws,h=>⟨h.1,Nat.le_trans h.2.1 hNM,h.2.2.1,z3p hNM _ ls ws h.2.2.2⟩
 | _,[],_::_,h=>h.elim
 | _,_::_,[],h=>h.elim
theorem zjq {N:Nat}:∀ (set:List Bool) (ls:List (List Int)) (ws:List Xg),za9 N set ls ws→ls.length=ws.length
 | _,[],[],_=>rfl
 | set,l::ls,w::ws,h=>by simp [zjq _ ls ws h.2.2.2]
 | _,[],_::_,h=>h.elim
 | _,_::_,[],h=>h.elim
theorem zm7 {N:Nat}:∀ (set:List Bool) (ls:List (List Int)) (ws:List Xg),za9 N set ls ws→∀ l ∈ ls,l.length≤N
 | _,[],[],_,l,hl=>by cases hl
 | set,l::ls,w::ws,h,x,hx=>by
  rcases List.mem_cons.1 hx with rfl | hx
  ·exact h.2.1
  ·exact zm7 _ ls ws h.2.2.2 x hx
 | _,[],_::_,h,_,_=>h.elim
 | _,_::_,[],h,_,_=>h.elim
theorem Two.newsOk (h:Two c N set news op o):news.length≤64∧∀ l ∈ news,l.length≤N:=by
 have h1:=zjq _ _ _ h.ch
 simp only [List.length_reverse] at h1
 have h2:=List.length_filter_le z48 o
 have:=h.le
 exact ⟨by omega,fun l hl=>zm7 _ _ _ h.ch l (by simpa using hl)⟩
def ze0 (c:Xe) (i:Xd) (op:List Int):Bool :=
 bif i.Op_==34 || i.Op_==36 then !(decide (Loom.lst op≥0) || (op.length:Int)==64) else bif i.Op_==35 then !((op.length:Int)==0 || decide (Loom.lst op≥0)) else bif i.Op_==37 then !(decide (Loom.lst op<0)) else
  bif decide (Loom.lst op<0) then true else zd5 c i (Loom.lst op)
theorem zrb {k:Int} (h:i.Op_=k) (hk:k=34∨k=35∨k=36):vecP c i = -1:=by
 unfold vecP onD onA elem
 rw [h]
 rcases hk with rfl | rfl | rfl
 all_goals
  show (match idx c.Regs_ (-1) with | some t=>bif t.Kind_==3 then t.Param_ else -1 | none=>-1)=_
  rw [z3b (.inl (by decide))]
theorem Two.place (h:Two c N set news op o):ze0 c i op=(!(z1u o && (!(i.Op_==37) && vecP c i != lstP o)) && zbq i o):=by
 obtain ⟨h1,h2⟩:=h.loop
 have hlen:op.length=o.length:=by rw [h.op]; simp
 have hle:=h.le
 unfold ze0 zbq
 rw [y3v,h1,hlen]
 by_cases q4:i.Op_=34∨i.Op_=36
 ·have e1:(i.Op_==34 || i.Op_==36)=true:=by rcases q4 with q | q <;> rw [q] <;> rfl
  have e2:(i.Op_==37)=false:=by rcases q4 with q | q <;> rw [q] <;> rfl
  have e3:vecP c i = -1:=by rcases q4 with q | q <;> exact zrb q (by simp)
  have e4:((o.length:Int)==64) = !(decide ((o.length:Int)<64)):=by
   by_cases q:o.length<64
   ·have:¬ (o.length:Int)=64:=by omega
    have q':(o.length:Int)<64:=by omega
    simp [this,q']
   ·have:(o.length:Int)=64:=by omega
    simp [this]
  rw [e1,e2,e3,e4]
  simp only [cond_true]
  cases hl:z1u o with
  | false=>simp
  | true =>
   have:=(h2 hl).2
   have e5:((-1:Int) != lstP o)=true:=by simp; omega
   rw [e5]; simp
 ·have e1:(i.Op_==34 || i.Op_==36)=false:=by
   have a1:¬ i.Op_=34:=fun q=>q4 (.inl q)
   have a2:¬ i.Op_=36:=fun q=>q4 (.inr q)
   simp [a1,a2]
  rw [e1]
  simp only [cond_false]
  by_cases q5:i.Op_=35
  ·have e2:(i.Op_==35)=true:=by rw [q5]; rfl
   have e3:(i.Op_==37)=false:=by rw [q5]; rfl
   have e4:vecP c i = -1:=zrb q5 (by simp)
   have e6:((o.length:Int)==0) = !(decide ((o.length:Int) > 0)):=by
    by_cases q:0<o.length
    ·have a1:((o.length:Int)==0)=false:=by simp only [beq_eq_false_iff_ne,ne_eq]; omega
     have a2:decide ((o.length:Int) > 0)=true:=by simp only [decide_eq_true_eq]; omega
     rw [a1,a2]; rfl
    ·have:(o.length:Int)=0:=by omega
     simp [this]
   rw [e2,e3,e4,e6]
   simp only [cond_true]
   cases hl:z1u o with
   | false=>simp
   | true =>
    have:=(h2 hl).2
    have e5:((-1:Int) != lstP o)=true:=by simp; omega
    rw [e5]; simp
  ·have e2:(i.Op_==35)=false:=by simpa using q5
   rw [e2]
   simp only [cond_false]
   cases i.Op_==37 with
   | true =>
    simp only [cond_true]
    cases z1u o <;> rfl
   | false =>
    simp only [cond_false]
    cases hl:z1u o with
    | false=>rfl
    | true =>
     obtain ⟨p1,p2⟩:=h2 hl
     rw [p1,y9x p2]
     cases zd5 c i (lstP o) <;> rfl
end
def zan (i:Xd) (set:List Bool) (news:List (List Int)) (op:List Int):List Bool×List (List Int)×List Int :=
 bif i.Op_==34 then (set,news++[[]],op++[-1]) else bif i.Op_==36 then (set,news,op++[i.N_]) else
 bif i.Op_==35 then (undo set (news.getLast?.getD []),news.dropLast,op.dropLast) else bif i.Op_==37 then (set,news,op.dropLast) else
 bif sets i && !((set[i.D_.toNat]?).getD false) then (set.set i.D_.toNat true,z9b news i.D_,op) else (set,news,op)
def okI (c:Xe) (i:Xd) (set:List Bool) (op:List Int):Bool:=fits c i && (ze0 c i op && rdOk set i)
section
variable {c:Xe} {N:Nat} {set:List Bool} {news:List (List Int)} {op:List Int} {o:List Xg} {i:Xd}
theorem zgg {k:Int} (h:i.Op_=k) (hk:k=35∨k=36∨k=37):z1n i=[]∧sets i=false:=by
 unfold z1n sets
 rw [h]
 rcases hk with rfl | rfl | rfl <;> exact ⟨rfl,rfl⟩
theorem Two.last (h:Two c N set news op o) (h0:0<op.length) (h1:Loom.lst op<0):∃ l w,news.getLast? = some l∧o.getLast? = some w∧w.Op_=34∧undo set l=w.Set_∧l.length≤N∧(∀ r ∈ l,0≤r∧r<set.length)∧za9 N w.Set_ news.dropLast.reverse (o.dropLast.filter z48).reverse:=by
 have hlen:op.length=o.length:=by rw [h.op]; simp
 obtain ⟨w,w1,w2⟩:=z7n o (by omega)
 have hw:w.Op_=34:=by
  rcases h.ok w (List.mem_of_getLast? w1) with q | ⟨q,p⟩
  ·exact q
  ·rw [h.lst,w1] at h1
   simp only [code,q] at h1
   have:(bif ((36:Int)==36) then w.Param_ else -1)=w.Param_:=rfl
   omega
 have ho:o=o.dropLast++[w]:=by
  have hne:o ≠ []:=fun e=>by rw [e] at w1; cases w1
  have:=List.dropLast_concat_getLast hne
  rw [List.getLast?_eq_some_getLast hne] at w1
  rw [← Option.some.inj w1]; exact this.symm
 have hc:=h.ch
 rw [ho,List.filter_append] at hc
 have e:[w].filter z48=[w]:=by simp [z48,hw]
 rw [e,List.reverse_append,List.reverse_singleton,List.singleton_append] at hc
 cases hn:news.reverse with
 | nil=>rw [hn] at hc; exact hc.elim
 | cons l ls =>
  rw [hn] at hc
  have hnews:news=ls.reverse++[l]:=by
   have:=congrArg List.reverse hn
   simpa using this
  refine ⟨l,w,by rw [hnews]; simp,w1,hw,hc.1,hc.2.1,hc.2.2.1,?_⟩
  have:news.dropLast=ls.reverse:=by rw [hnews]; simp
  rw [this,List.reverse_reverse]
  exact hc.2.2.2
theorem zzo {m k:Nat} {x:Xe} {v:List Xd×Int×List Xa×List Xb×List Xc} (h:Two c N set news op o) (hN:N<1000000) (hm:N<m) (hr:∀ t ∈ c.Regs_,mayT c.Sign_ t=true) (h0:0≤i.Bits_) (h1:i.Bits_<4294967296)
  (hk:k<1000000) (hv:decide ((k:Int)<v.2.1)=true) (hi:idx v.1 (k:Int)=some i) :
  zdo (m+5) x v ((k:Int),c.Sign_,c.Regs_,c.Slots_,c.List_,set,news,op)=some (bif okI c i set op then .go (((k+1:Nat):Int),c.Sign_,c.Regs_,c.Slots_,c.List_,zan i set news op) else .ret (k:Int)):=by
 rw [zju]
 dsimp only
 rw [hv,hi]
 simp only [cond_true,Option.bind_some]
 rw [y7g m hr h0 h1]
 unfold okI
 cases hf:fits c i with
 | false=>rfl
 | true =>
  have hle:op.length≤64:=by rw [h.op]; simpa using h.le
  obtain ⟨n1,n2⟩:=h.newsOk
  have hrd:∀ y ∈ z1n i,0≤y∧y<set.length:=fun y hy=>by rw [h.len]; exact zo8 hf y hy
  have hD:sets i=true→0≤i.D_∧i.D_<set.length:=fun hs=>by rw [h.len]; exact zji hf hs
  simp only [Option.bind_some,Bool.not_true,cond_false,Bool.true_and]
  unfold ze0 zan
  by_cases q34:i.Op_=34
  ·have e1:(i.Op_==34)=true:=by simpa using q34
   rw [zzx (n:=m+5) (by omega) q34]
   simp only [e1,Bool.true_or,cond_true,Option.bind_some]
   cases hp:(decide (Loom.lst op≥0) || (op.length:Int)==64) with
   | true=>rfl
   | false =>
    simp only [Bool.not_false,Bool.not_true,cond_false,Bool.true_and]
    rw [zzy (m:=m+1) q34 hrd hle n1]
    cases rdOk set i with
    | false=>rfl
    | true =>
     simp only [Option.bind_some,orRet_inl,Bool.not_true,cond_false,cond_true,z2j (show k<4611686018427387904 by omega)]
  ·have e1:(i.Op_==34)=false:=by simpa using q34
   by_cases q36:i.Op_=36
   ·have e2:(i.Op_==36)=true:=by simpa using q36
    obtain ⟨r1,r2⟩:=zgg q36 (by simp)
    have r3:rdOk set i=true:=by unfold rdOk; rw [r1]; rfl
    rw [zzv (n:=m+5) hle q36]
    simp only [e1,e2,Bool.false_or,cond_true,cond_false,Option.bind_some]
    cases hp:(decide (Loom.lst op≥0) || (op.length:Int)==64) with
    | true=>rfl
    | false =>
     simp only [Bool.not_false,Bool.not_true,cond_false,Bool.true_and]
     rw [zc9 (m:=m+1) q34 hrd hD n1 (fun l hl=>by have:=n2 l hl; omega)]
     simp only [r2,r3,Bool.false_and,Bool.and_false,Option.bind_some,orRet_inl,Bool.not_true,cond_false,cond_true,z2j (show k<4611686018427387904 by omega)]
   ·have e2:(i.Op_==36)=false:=by simpa using q36
    by_cases q35:i.Op_=35
    ·have e3:(i.Op_==35)=true:=by simpa using q35
     obtain ⟨r1,r2⟩:=zgg q35 (by simp)
     rw [y56 (m:=m+1) (nl:=news.getLast?.getD []) hle q35 (fun z1 z2=>by
      obtain ⟨l,w,a1,a2,a3,a4,a5,a6,a7⟩:=h.last z1 z2
      rw [a1]
      exact ⟨rfl,by omega,by simp only [Option.getD_some]; omega,by simp only [Option.getD_some]; omega,a6⟩)]
     simp only [e1,e2,e3,Bool.false_or,cond_true,cond_false,Option.bind_some]
     cases hp:((op.length:Int)==0 || decide (Loom.lst op≥0)) with
     | true=>rfl
     | false =>
      have r3:rdOk set i=true:=by unfold rdOk; rw [r1]; rfl
      simp only [Bool.not_false,Bool.not_true,cond_false,Bool.true_and,r3]
      rw [zc9 (m:=m+1) q34 (fun y hy=>by rw [r1] at hy; cases hy) (fun hs=>by rw [r2] at hs; cases hs) (by simp; omega) (fun l hl=>by
       have:=n2 l ((List.dropLast_sublist _).subset hl); omega)]
      have r4:rdOk (undo set (news.getLast?.getD [])) i=true:=by unfold rdOk; rw [r1]; rfl
      simp only [r2,r4,Bool.false_and,Bool.and_false,Option.bind_some,orRet_inl,Bool.not_true,cond_false,cond_true,z2j (show k<4611686018427387904 by omega)]
    ·have e3:(i.Op_==35)=false:=by simpa using q35
     by_cases q37:i.Op_=37
     ·have e4:(i.Op_==37)=true:=by simpa using q37
      obtain ⟨r1,r2⟩:=zgg q37 (by simp)
      have r3:rdOk set i=true:=by unfold rdOk; rw [r1]; rfl
      rw [zzw (n:=m+5) hle q37]
      simp only [e1,e2,e3,e4,Bool.false_or,cond_true,cond_false,Option.bind_some]
      cases hp:decide (Loom.lst op<0) with
      | true=>rfl
      | false =>
       simp only [Bool.not_false,Bool.not_true,cond_false,Bool.true_and]
       rw [zc9 (m:=m+1) q34 hrd hD n1 (fun l hl=>by have:=n2 l hl; omega)]
       simp only [r2,r3,Bool.false_and,Bool.and_false,Option.bind_some,orRet_inl,Bool.not_true,cond_false,cond_true,z2j (show k<4611686018427387904 by omega)]
     ·have e4:(i.Op_==37)=false:=by simpa using q37
      rw [zzu (n:=m+5) hle hf q34 q35 q36 q37 (y5g hf) (y5e hf)]
      simp only [e1,e2,e3,e4,Bool.false_or,cond_true,cond_false,Option.bind_some]
      cases hp:(bif decide (Loom.lst op<0) then true else zd5 c i (Loom.lst op)) with
      | false=>rfl
      | true =>
       simp only [Bool.not_false,Bool.not_true,cond_false,Bool.true_and]
       rw [zc9 (m:=m+1) q34 hrd hD n1 (fun l hl=>by have:=n2 l hl; omega)]
       cases rdOk set i with
       | false=>rfl
       | true =>
        simp only [Bool.true_and,Option.bind_some,orRet_inl,Bool.not_true,cond_false,cond_true,z2j (show k<4611686018427387904 by omega)]
end
def z78 (i:Xd) (set:List Bool) (o:List Xg):List Bool×List Xg :=
 bif i.Op_==34 || i.Op_==36 then (set,o++[⟨i.Op_,i.N_,set⟩]) else bif i.Op_==35 then ((o.getLast?.getD ⟨0,0,[]⟩).Set_,o.dropLast) else bif i.Op_==37 then (set,o.dropLast) else
  bif sets i then (set.set i.D_.toNat true,o) else (set,o)
theorem zu2 {n:Nat} {s:List Bool} (h:s.length≤140737488355328):f42 n s=some s:=by
 rw [y7o,zi (by omega)]
section
variable {c:Xe} {N:Nat} {set:List Bool} {news:List (List Int)} {op:List Int} {o:List Xg} {i:Xd}
theorem zzq {m k:Nat} (h:Two c N set news op o) (hr:∀ t ∈ c.Regs_,mayT c.Sign_ t=true) (hR:c.Regs_.length≤1000000) (h0:0≤i.Bits_) (h1:i.Bits_<4294967296)
  (hk:k<1000000) (hv:k<c.List_.length) (hi:idx c.List_ (k:Int)=some i) :
  zdp (m+4) c () ((k:Int),set,o)=some (bif z4f c i set o then .go (((k+1:Nat):Int),z78 i set o) else .ret (k:Int)):=by
 have hle:=h.le
 have hlen:=h.len
 rw [zjz]
 have e1:decide ((k:Int)<(c.List_.length:Int))=true:=by simp; omega
 dsimp only
 rw [e1,hi]
 simp only [cond_true,Option.bind_some]
 rw [y7n hr h0 h1 hlen (by omega)]
 have w:IntKind.i64.wrap ((k:Int)+1)=((k+1:Nat):Int):=z2j (by omega)
 cases hs:z4f c i set o with
 | false=>rfl
 | true =>
  simp only [Option.bind_some,Bool.not_true,cond_false,cond_true]
  have hs':=hs
  unfold z4f at hs'
  simp only [Bool.and_eq_true] at hs'
  obtain ⟨hf,hv1,hrd,hp⟩:=hs'
  unfold z78
  have hB:(bif i.Op_==34 then some (Sum.inl (true,i.Op_,i.D_,i.A_,i.B_,i.C_,i.N_,i.Bits_)) else some (.inl (i.Op_==36,i.Op_,i.D_,i.A_,i.B_,i.C_,i.N_,i.Bits_)):Option (Bool×Int×Int×Int×Int×Int×Int×Int⊕Bo (Int×List Bool×List Xg) (Int×List Bool×List Xg) Int))
    = some (.inl (i.Op_==34 || i.Op_==36,i.Op_,i.D_,i.A_,i.B_,i.C_,i.N_,i.Bits_)):=by
   cases i.Op_==34 <;> rfl
  rw [hB,Option.bind_some,orRet_inl]
  dsimp only
  cases q1:(i.Op_==34 || i.Op_==36) with
  | true =>
   simp only [cond_true]
   rw [zu2 (by omega)]
   simp only [Option.bind_some]
   rw [zi (by simp; omega),w]
  | false =>
   simp only [cond_false]
   unfold zbq at hp
   rw [q1] at hp
   simp only [cond_false] at hp
   cases q2:i.Op_==35 with
   | true =>
    rw [q2] at hp
    simp only [cond_true,Bool.and_eq_true,decide_eq_true_eq] at hp
    have hpos:0<o.length:=by omega
    obtain ⟨w1,w2,w3⟩:=z99 hpos (by omega)
    obtain ⟨x,x1,x2⟩:=z7n o hpos
    simp only [cond_true]
    rw [zi ⟨w2,w3⟩,w1,x2,x1]
    simp only [Option.bind_some,Option.getD_some]
    have hx:x.Set_.length≤140737488355328:=by
     have hl0:Loom.lst op<0:=by
      have:=h.loop.1
      rw [← this] at hp
      simp at hp; omega
     obtain ⟨l,wv,a1,a2,a3,a4,_⟩:=h.last (by rw [h.op]; simpa using hpos) hl0
     rw [x1] at a2
     cases a2
     rw [← a4,zon]; omega
    rw [zu2 hx]
    simp only [Option.bind_some]
    rw [zi ⟨w2,by omega⟩,zi (by omega),w]
    simp [List.dropLast_eq_take]
   | false =>
    rw [q2] at hp
    simp only [cond_false] at hp ⊢
    cases q3:i.Op_==37 with
    | true =>
     rw [q3] at hp
     simp only [cond_true] at hp ⊢
     have hpos:0<o.length:=by
      cases o with
      | nil=>cases hp
      | cons _ _=>simp
     obtain ⟨w1,w2,w3⟩:=z99 hpos (by omega)
     rw [zi ⟨w2,by omega⟩,w1,zi (by omega),w]
     simp [List.dropLast_eq_take]
    | false =>
     have e:(⟨i.Op_,i.D_,i.A_,i.B_,i.C_,i.N_,i.Bits_⟩:Xd)=i:=rfl
     simp only [cond_false,e,y6n,Option.bind_some]
     cases hss:sets i with
     | false=>simp only [cond_false,w]
     | true =>
      obtain ⟨d0,d1⟩:=zji hf hss
      obtain ⟨b,hb⟩:=zbg (l:=set) d0 (by omega)
      simp only [cond_true]
      rw [zi ⟨d0,by omega⟩,hb]
      simp only [Option.bind_some,w]
theorem zom (l:List Int):∀ (set:List Bool) (j:Nat),(undo set l)[j]? = if l.any (fun r=>r.toNat==j) then (set[j]?).map (fun _=>false) else set[j]?:=by
 unfold undo
 induction l with
 | nil=>intro set j; simp
 | cons r l ih =>
  intro set j
  simp only [List.foldl_cons]
  rw [ih,List.any_cons]
  by_cases h:r.toNat=j
  ·subst h
   simp only [beq_self_eq_true,Bool.true_or,if_true]
   split
   ·by_cases hj:r.toNat<set.length
    ·simp [hj]
    ·simp [hj]
   ·by_cases hj:r.toNat<set.length
    ·simp [hj]
    ·simp [hj]
  ·have e:(r.toNat==j)=false:=by simpa using h
   rw [e,Bool.false_or,List.getElem?_set_ne h]
theorem y0r {l:List Int} {set:List Bool} {d:Int} (hd:set[d.toNat]? = some false):undo (set.set d.toNat true) (l++[d])=undo set l:=by
 apply List.ext_getElem?
 intro j
 have hlt:d.toNat<set.length:=by
  obtain ⟨h,_⟩:=List.getElem?_eq_some_iff.1 hd
  exact h
 rw [zom,zom,List.any_append]
 by_cases h:d.toNat=j
 ·subst h
  simp only [List.any_cons,beq_self_eq_true,Bool.true_or,Bool.or_true,if_true,hd]
  rw [List.getElem?_set_self hlt]
  simp
 ·have e:(d.toNat==j)=false:=by simpa using h
  rw [List.getElem?_set_ne h]
  simp [e]
theorem zyq {set:List Bool} {d:Nat} (h:set[d]? = some true):set.set d true=set:=by
 apply List.ext_getElem?
 intro j
 by_cases hj:d=j
 ·subst hj
  obtain ⟨hl,_⟩:=List.getElem?_eq_some_iff.1 h
  rw [List.getElem?_set_self hl,h]
 ·rw [List.getElem?_set_ne hj]
end
section
variable {c:Xe} {N:Nat} {set:List Bool} {news:List (List Int)} {op:List Int} {o:List Xg} {i:Xd}
theorem y9b (hf:fits c i=true) (h:i.Op_=36):0≤i.N_:=by
 unfold fits at hf
 rw [h] at hf
 have e:rowD 36=some ⟨0,0,0,0,4⟩:=rfl
 rw [e] at hf
 simp only [Bool.and_eq_true] at hf
 have:=hf.2.2.2.2.2
 have e2:nOk c 4 i.N_ (tyF c ⟨0,0,0,0,4⟩ i)=(decide (i.N_≥0) && decide (i.N_<(c.Sign_.length:Int))):=rfl
 rw [e2] at this
 simp at this
 exact this.1
theorem zsn {α:Type} {l:List α} {w:α} (h:l.getLast? = some w):l=l.dropLast++[w]:=by
 have hne:l ≠ []:=fun e=>by rw [e] at h; cases h
 have:=List.dropLast_concat_getLast hne
 rw [List.getLast?_eq_some_getLast hne] at h
 rw [← Option.some.inj h]; exact this.symm
theorem Two.next (h:Two c N set news op o) (hok:okI c i set op=true):(z78 i set o).1=(zan i set news op).1∧Two c (N+1) (zan i set news op).1 (zan i set news op).2.1 (zan i set news op).2.2 (z78 i set o).2:=by
 unfold okI at hok
 simp only [Bool.and_eq_true] at hok
 obtain ⟨hf,hp,hrd⟩:=hok
 have hlen:op.length=o.length:=by rw [h.op]; simp
 unfold ze0 at hp
 unfold zan z78
 by_cases q34:i.Op_=34
 ·have e1:(i.Op_==34)=true:=by simpa using q34
  rw [e1] at hp
  simp only [Bool.true_or,cond_true,Bool.not_eq_true',Bool.or_eq_false_iff,beq_eq_false_iff_ne,ne_eq] at hp
  have hle:=h.le
  simp only [e1,Bool.true_or,cond_true]
  refine ⟨by trivial,h.len,?_,?_,?_,?_⟩
  ·rw [List.map_append,h.op]; simp [code,q34]
  ·simp; omega
  ·intro x hx
   rcases List.mem_append.1 hx with hx | hx
   ·exact h.ok x hx
   ·simp only [List.mem_singleton] at hx
    subst hx; exact .inl q34
  ·rw [List.filter_append]
   have e:[(⟨i.Op_,i.N_,set⟩:Xg)].filter z48=[⟨i.Op_,i.N_,set⟩]:=by simp [z48,q34]
   rw [e,List.reverse_append,List.reverse_append]
   exact ⟨rfl,Nat.zero_le _,fun r hr=>(by cases hr),z3p (Nat.le_succ N) _ _ _ h.ch⟩
 ·have e1:(i.Op_==34)=false:=by simpa using q34
  rw [e1] at hp
  by_cases q36:i.Op_=36
  ·have e2:(i.Op_==36)=true:=by simpa using q36
   rw [e2] at hp
   simp only [Bool.false_or,cond_true,Bool.not_eq_true',Bool.or_eq_false_iff,beq_eq_false_iff_ne,ne_eq] at hp
   have hle:=h.le
   simp only [e1,e2,Bool.false_or,cond_true,cond_false]
   refine ⟨by trivial,h.len,?_,?_,?_,?_⟩
   ·rw [List.map_append,h.op]; simp [code,q36]
   ·simp; omega
   ·intro x hx
    rcases List.mem_append.1 hx with hx | hx
    ·exact h.ok x hx
    ·simp only [List.mem_singleton] at hx
     subst hx; exact .inr ⟨q36,y9b hf q36⟩
   ·rw [List.filter_append]
    have e:[(⟨i.Op_,i.N_,set⟩:Xg)].filter z48=[]:=by simp [z48,q36]
    rw [e,List.append_nil]
    exact z3p (Nat.le_succ N) _ _ _ h.ch
  ·have e2:(i.Op_==36)=false:=by simpa using q36
   rw [e2] at hp
   simp only [Bool.false_or,cond_false] at hp
   simp only [e1,e2,Bool.false_or,cond_false]
   by_cases q35:i.Op_=35
   ·have e3:(i.Op_==35)=true:=by simpa using q35
    rw [e3] at hp
    simp only [cond_true,Bool.not_eq_true',Bool.or_eq_false_iff,beq_eq_false_iff_ne,ne_eq,decide_eq_false_iff_not] at hp
    obtain ⟨l,w,a1,a2,a3,a4,a5,a6,a7⟩:=h.last (by omega) (by omega)
    simp only [e3,cond_true,a1,a2,Option.getD_some]
    have hle:=h.le
    refine ⟨a4.symm,?_,?_,?_,?_,?_⟩
    ·rw [zon]; exact h.len
    ·rw [h.op,List.map_dropLast]
    ·simp; omega
    ·exact fun x hx=>h.ok x ((List.dropLast_sublist _).subset hx)
    ·rw [a4]; exact z3p (Nat.le_succ N) _ _ _ a7
   ·have e3:(i.Op_==35)=false:=by simpa using q35
    rw [e3] at hp
    simp only [cond_false] at hp
    by_cases q37:i.Op_=37
    ·have e4:(i.Op_==37)=true:=by simpa using q37
     rw [e4,y3v,h.loop.1] at hp
     simp only [cond_true,Bool.not_not] at hp
     simp only [e3,e4,cond_true,cond_false]
     have hle:=h.le
     obtain ⟨w,hw⟩:∃ w,o.getLast? = some w:=by
      unfold z1u at hp
      split at hp
      ·exact ⟨_,by assumption⟩
      ·cases hp
     have hww:w.Op_=36:=by
      unfold z1u at hp
      rw [hw] at hp
      simpa using hp
     refine ⟨by trivial,h.len,?_,?_,?_,?_⟩
     ·rw [h.op,List.map_dropLast]
     ·simp; omega
     ·exact fun x hx=>h.ok x ((List.dropLast_sublist _).subset hx)
     ·have:=h.ch
      rw [zsn hw,List.filter_append] at this
      have e:[w].filter z48=[]:=by simp [z48,hww]
      rw [e,List.append_nil] at this
      exact z3p (Nat.le_succ N) _ _ _ this
    ·have e4:(i.Op_==37)=false:=by simpa using q37
     simp only [e3,e4,cond_false]
     cases hs:sets i with
     | false =>
      simp only [Bool.false_and,cond_false]
      exact ⟨by trivial,h.len,h.op,h.le,h.ok,z3p (Nat.le_succ N) _ _ _ h.ch⟩
     | true =>
      obtain ⟨d0,d1⟩:=zji hf hs
      obtain ⟨b,hb⟩:=zbg (l:=set) d0 (by rw [h.len]; exact d1)
      simp only [hb,Option.getD_some,Bool.true_and,cond_true]
      cases b with
      | true =>
       rw [zyq hb]
       exact ⟨rfl,h.len,h.op,h.le,h.ok,z3p (Nat.le_succ N) _ _ _ h.ch⟩
      | false =>
       simp only [Bool.not_false,cond_true]
       refine ⟨by trivial,by simpa using h.len,h.op,h.le,h.ok,?_⟩
       have hc:=h.ch
       cases hn:news.reverse with
       | nil =>
        rw [hn] at hc
        have:news=[]:=by simpa using hn
        subst this
        cases hw:(o.filter z48).reverse with
        | nil=>simp [z9b,za9]
        | cons w ws=>rw [hw] at hc; exact hc.elim
       | cons l ls =>
        rw [hn] at hc
        cases hw:(o.filter z48).reverse with
        | nil=>rw [hw] at hc; exact hc.elim
        | cons w ws =>
         rw [hw] at hc
         obtain ⟨c1,c2,c3,c4⟩:=hc
         have hnews:news=ls.reverse++[l]:=by
          have:=congrArg List.reverse hn
          simpa using this
         have ha:(z9b news i.D_).reverse=(l++[i.D_])::ls:=by
          unfold z9b
          rw [hnews]
          simp
         rw [ha]
         refine ⟨by rw [y0r hb]; exact c1,by simp; omega,fun r hr=>?_,z3p (Nat.le_succ N) _ _ _ c4⟩
         rcases List.mem_append.1 hr with hr | hr
         ·simpa using c3 r hr
         ·simp only [List.mem_singleton] at hr
          subst hr
          refine ⟨d0,?_⟩
          simp only [List.length_set]
          rw [h.len]; exact d1
end
theorem znn {α S Y Z:Type} {l:List α} {p:α→Bool} {g:Nat→S} {body:S→Option (Bo S Y Z)} {z:Nat→Z} {y:Y}
  (hb:∀ (k:Nat) (h:k<l.length),body (g k)=some (bif p l[k] then .go (g (k+1)) else .ret (z k))) (he:body (g l.length)=some (.out y)) :
  ∀ (j k f:Nat),k+j=l.length→j<f→iter body f (g k)=some (match (l.drop k).findIdx? (fun x=>!p x) with | none=>.out y | some i=>.ret (z (k+i)))
 | 0,k,f+1,hk,hf=>by
  obtain rfl:k=l.length:=by omega
  unfold iter
  rw [he]
  simp
 | j+1,k,f+1,hk,hf=>by
  have h:k<l.length:=by omega
  unfold iter
  rw [hb k h,List.drop_eq_getElem_cons h]
  cases hp:p l[k] with
  | false =>
   simp only [cond_false,List.findIdx?_cons,hp,Bool.not_false,if_true]
   rfl
  | true =>
   simp only [cond_true]
   rw [znn hb he j (k+1) f (by omega) (by omega)]
   rw [List.findIdx?_cons]
   simp only [hp,Bool.not_true,cond_false,Bool.false_eq_true,if_false]
   cases (l.drop (k+1)).findIdx? (fun x=>!p x) with
   | none=>rfl
   | some i=>simp only [Option.map_some]; congr 3; omega
theorem znm {α S Y Z:Type} {l:List α} {p:α→Bool} (g:Nat→S) {body:S→Option (Bo S Y Z)} (z:Nat→Z) {y:Y} {f:Nat}
  (hb:∀ (k:Nat) (h:k<l.length),body (g k)=some (bif p l[k] then .go (g (k+1)) else .ret (z k))) (he:body (g l.length)=some (.out y)) (hf:l.length<f) :
  iter body f (g 0)=some (match l.findIdx? (fun x=>!p x) with | none=>.out y | some i=>.ret (z i)):=by
 have:=znn hb he l.length 0 f (by omega) hf
 simpa using this
section
variable {c:Xe}
theorem z2u {α:Type} {l:List α} {k:Nat} (h:k<l.length):idx l (k:Int)=some l[k]:=by simp [idx,h]
theorem y77 {n:Nat} (h:c.Regs_.length<n) (h2:c.Regs_.length<1000000):f29 n (c.Regs_,c.Sign_,c.Regs_,c.Slots_,c.List_)=some (!(c.Regs_.all (mayT c.Sign_)),c.Sign_,c.Regs_,c.Slots_,c.List_):=by
 have hit:iter (zmz n (c.Regs_,c.Sign_,c.Regs_,c.Slots_,c.List_) ()) n ((0:Int),c.Sign_,c.Regs_,c.Slots_,c.List_)=some (match c.Regs_.findIdx? (fun x=>!mayT c.Sign_ x) with | none=>.out ((c.Regs_.length:Int),c.Sign_,c.Regs_,c.Slots_,c.List_) | some i=>.ret ((i:Int),c.Sign_,c.Regs_,c.Slots_,c.List_)):=by
  refine znm (p:=mayT c.Sign_) (fun k=>((k:Int),c.Sign_,c.Regs_,c.Slots_,c.List_)) (fun k=>((k:Int),c.Sign_,c.Regs_,c.Slots_,c.List_)) (fun k hk=>?_) ?_ h
  ·rw [zkc]
   have e1:decide ((k:Int)<(c.Regs_.length:Int))=true:=by simp; omega
   dsimp only
   rw [e1,z2u hk]
   simp only [cond_true,Option.bind_some,y78,ztz,z2j (show k<4611686018427387904 by omega)]
   cases mayT c.Sign_ c.Regs_[k] <;> rfl
  ·rw [zkc]; simp
 rw [y76,y7s]
 dsimp only
 rw [hit,← zg8]
 cases c.Regs_.findIdx? (fun x=>!mayT c.Sign_ x) with
 | none=>rfl
 | some i=>simp [Bo.then]
theorem y7b {n:Nat} (h:c.Slots_.length<n) (h2:c.Slots_.length<1000000) (hb:∀ s ∈ c.Slots_,0≤s.Bits_∧s.Bits_<4294967296):f32 n (c.Slots_,c.Sign_,c.Regs_,c.Slots_,c.List_)=some (!(c.Slots_.all (mayS c.Sign_)),c.Sign_,c.Regs_,c.Slots_,c.List_):=by
 have hit:iter (zn0 n (c.Slots_,c.Sign_,c.Regs_,c.Slots_,c.List_) ()) n ((0:Int),c.Sign_,c.Regs_,c.Slots_,c.List_)=some (match c.Slots_.findIdx? (fun x=>!mayS c.Sign_ x) with | none=>.out ((c.Slots_.length:Int),c.Sign_,c.Regs_,c.Slots_,c.List_) | some i=>.ret ((i:Int),c.Sign_,c.Regs_,c.Slots_,c.List_)):=by
  refine znm (p:=mayS c.Sign_) (fun k=>((k:Int),c.Sign_,c.Regs_,c.Slots_,c.List_)) (fun k=>((k:Int),c.Sign_,c.Regs_,c.Slots_,c.List_)) (fun k hk=>?_) ?_ h
  ·rw [zkd]
   have e1:decide ((k:Int)<(c.Slots_.length:Int))=true:=by simp; omega
   obtain ⟨b0,b1⟩:=hb _ (List.getElem_mem hk)
   dsimp only
   rw [e1,z2u hk]
   simp only [cond_true,Option.bind_some,y7c,y7e _ _ b0 b1,z2j (show k<4611686018427387904 by omega)]
   cases mayS c.Sign_ c.Slots_[k] <;> rfl
  ·rw [zkd]; simp
 rw [y7a,y7t]
 dsimp only
 rw [hit,← zg8]
 cases c.Slots_.findIdx? (fun x=>!mayS c.Sign_ x) with
 | none=>rfl
 | some i=>simp [Bo.then]
theorem zzp {n m:Nat} (h:c.Regs_.length<m) (h2:c.Regs_.length<1000000):iter (zmj n c ()) m 0=some (bif c.Regs_.all (mayT c.Sign_) then .out (c.Regs_.length:Int) else .ret ()):=by
 refine z4g (fun k hk=>?_) ?_ h
 ·rw [zjw]
  have e1:decide ((k:Int)<(c.Regs_.length:Int))=true:=by simp; omega
  rw [e1,z2u hk]
  simp only [cond_true,Option.bind_some,zu1,z2j (show k<4611686018427387904 by omega)]
  cases mayT c.Sign_ c.Regs_[k] <;> rfl
 ·rw [zjw]; simp
theorem ztw {n m:Nat} (h:c.Slots_.length<m) (h2:c.Slots_.length<1000000) (hb:∀ s ∈ c.Slots_,0≤s.Bits_∧s.Bits_<4294967296):iter (zmk n c ()) m 0=some (bif c.Slots_.all (mayS c.Sign_) then .out (c.Slots_.length:Int) else .ret ()):=by
 refine z4g (fun k hk=>?_) ?_ h
 ·rw [zjx]
  have e1:decide ((k:Int)<(c.Slots_.length:Int))=true:=by simp; omega
  obtain ⟨b0,b1⟩:=hb _ (List.getElem_mem hk)
  rw [e1,z2u hk]
  simp only [cond_true,Option.bind_some,y7l _ _ b0 b1,z2j (show k<4611686018427387904 by omega)]
  cases mayS c.Sign_ c.Slots_[k] <;> rfl
 ·rw [zjx]; simp
theorem z4h {S Y Z:Type} {L:Nat} (g:Nat→S) {body:S→Option (Bo S Y Z)} {y:Y} (hb:∀ k,k<L→body (g k)=some (.go (g (k+1)))) (he:body (g L)=some (.out y)) :
  ∀ (j k f:Nat),k+j=L→j<f→iter body f (g k)=some (.out y)
 | 0,k,f+1,hk,hf=>by
  obtain rfl:k=L:=by omega
  unfold iter
  rw [he]
 | j+1,k,f+1,hk,hf=>by
  unfold iter
  rw [hb k (by omega)]
  exact z4h g hb he j (k+1) f (by omega) (by omega)
theorem y4t {n m:Nat} (h:c.Regs_.length<m) (h2:c.Regs_.length<1000000):iter (zml n c ()) m (0,[])=some (.out ((c.Regs_.length:Int),List.replicate c.Regs_.length false)):=by
 refine z4h (L:=c.Regs_.length) (fun k=>((k:Int),List.replicate k false)) (fun k hk=>?_) ?_ c.Regs_.length 0 m (by omega) h
 ·rw [zjy]
  have e1:decide ((k:Int)<(c.Regs_.length:Int))=true:=by simp; omega
  dsimp only
  rw [e1,cond_true,zi (by simp; omega),z2j (by omega),← List.replicate_succ']
 ·rw [zjy]; simp
end
def okB (y:Int):Bool:=(decide (y≥65) && decide (y≤90)) || ((decide (y≥97) && decide (y≤122)) || ((decide (y≥48) && decide (y≤57)) || (y==95 || (y==46 || (y==47 || y==45)))))
theorem idxB (y:Int) (h0:0≤y) (h1:y<256):decide ((Lib.indexByte [95,46,47,45] y.toNat.toUInt8:Int)≥0)=(y==95 || (y==46 || (y==47 || y==45))):=by
 have h:(List.range 256).all (fun k=>decide ((Lib.indexByte [95,46,47,45] k.toUInt8:Int)≥0)==((k:Int)==95 || ((k:Int)==46 || ((k:Int)==47 || (k:Int)==45))))=true:=by kernel_rfl
 have:=List.all_eq_true.1 h y.toNat (by simp; omega)
 have e:((y.toNat:Nat):Int)=y:=by omega
 rw [e] at this
 simpa using this
theorem y8m {n:Nat} (y:Int) (h0:0≤y) (h1:y<256):∃ r,f68 n (⟨#[95,46,47,45]⟩,y)=some r∧decide (r≥0)=(y==95 || (y==46 || (y==47 || y==45))) :=
 ⟨_,by rw [y8l]; rfl,idxB y h0 h1⟩
theorem zm5 {x:ByteArray} {k:Nat} (h:k<(bytesOf x).length):0≤(bytesOf x)[k]∧(bytesOf x)[k]<256∧zb x (k:Int)=(bytesOf x)[k]:=by
 have hl:k<x.data.toList.length:=by simpa [bytesOf] using h
 have e:(bytesOf x)[k]=((x.data.toList[k]).toNat:Int):=by simp [bytesOf]
 have hb:=UInt8.toNat_lt (x.data.toList[k])
 refine ⟨by rw [e]; omega,by rw [e]; omega,?_⟩
 rw [e]
 unfold zb
 rw [List.getD_eq_getElem?_getD,show ((k:Int).toNat)=k from rfl,List.getElem?_eq_getElem hl]
 rfl
theorem zjo (x:ByteArray):(bytesOf x).length=x.size:=by
 unfold bytesOf
 rw [List.length_map]
 rfl
def z86 (x:ByteArray):Bool:=!(x==⟨#[]⟩ || decide ((x.size:Int) > 64)) && (bytesOf x).all okB
theorem y8a {n:Nat} (x:ByteArray) (hn:64<n):f61 n x=some (z86 x):=by
 rw [y89]
 have hB:(bif (x==⟨#[]⟩) then some (Sum.inl true) else some (.inl (decide ((x.size:Int) > 64))):Option (Bool⊕Bool))=some (.inl (x==⟨#[]⟩ || decide ((x.size:Int) > 64))):=by
  cases (x==(⟨#[]⟩:ByteArray)) <;> rfl
 rw [hB,Option.bind_some,orRet_inl]
 unfold z86
 cases hq:(x==⟨#[]⟩ || decide ((x.size:Int) > 64)) with
 | true=>rfl
 | false =>
  have hs:x.size≤64:=by
   simp only [Bool.or_eq_false_iff,decide_eq_false_iff_not] at hq
   omega
  have hl:=zjo x
  have hit:iter (zn3 n x ()) n 0=some (bif (bytesOf x).all okB then .out ((bytesOf x).length:Int) else .ret ()):=by
   refine z4g (fun k hk=>?_) ?_ (by omega)
   ·obtain ⟨b0,b1,_⟩:=zm5 hk
    obtain ⟨r,r1,r2⟩:=y8m (n:=n) _ b0 b1
    rw [zkg]
    have e1:decide ((k:Int)<((bytesOf x).length:Int))=true:=by simp; omega
    rw [e1,z2u hk]
    simp only [cond_true,Option.bind_some]
    generalize (bytesOf x)[k]=y at *
    rw [z2j (by omega)]
    unfold okB
    cases a1:decide (y≥65) <;> cases a2:decide (y≤90) <;> cases a3:decide (y≥97) <;> cases a4:decide (y≤122) <;> cases a5:decide (y≥48) <;> cases a6:decide (y≤57) <;> simp only [a1,a2,a3,a4,a5,a6,cond_true,cond_false,Option.bind_some,orRet_inl,r1,r2] <;> cases (y==95 || (y==46 || (y==47 || y==45))) <;> rfl
   ·rw [zkg]; simp
  rw [hit]
  cases (bytesOf x).all okB <;> rfl
set_option maxHeartbeats 4000000 in
theorem y8e {n:Nat} (x:ByteArray) (hn:64<n):f63 n x=some (z86 x):=by
 rw [y8d]
 have hB:(bif (x==⟨#[]⟩) then some (Sum.inl true) else some (.inl (decide ((x.size:Int) > 64))):Option (Bool⊕Bool))=some (.inl (x==⟨#[]⟩ || decide ((x.size:Int) > 64))):=by
  cases (x==(⟨#[]⟩:ByteArray)) <;> rfl
 rw [hB,Option.bind_some,orRet_inl]
 unfold z86
 cases hq:(x==⟨#[]⟩ || decide ((x.size:Int) > 64)) with
 | true=>rfl
 | false =>
  have hs:x.size≤64:=by
   simp only [Bool.or_eq_false_iff,decide_eq_false_iff_not] at hq
   omega
  have hl:=zjo x
  have hit:iter (zn4 n x ()) n 0=some (bif (bytesOf x).all okB then .out ((bytesOf x).length:Int) else .ret ()):=by
   refine z4g (fun k hk=>?_) ?_ (by omega)
   ·obtain ⟨_,_,b2⟩:=zm5 hk
    rw [zkh]
    have e1:decide ((k:Int)<(x.size:Int))=true:=by simp; omega
    rw [e1,b2,cond_true,zi (by omega),z2j (by omega)]
    generalize (bytesOf x)[k]=y
    unfold okB
    cases decide (y≥97) <;> cases decide (y≤122) <;> cases decide (y≥65) <;> cases decide (y≤90) <;> cases decide (y≥48) <;> cases decide (y≤57) <;> cases (y==95) <;> cases (y==46) <;> cases (y==47) <;> cases (y==45) <;> rfl
   ·rw [zkh,hl]; simp
  rw [hit]
  cases (bytesOf x).all okB <;> rfl
def mayP (p:Xa):Bool:=z86 p.Name_ && ((p.Kind_==1 || p.Kind_==2) && (decide (p.Len_≥1) && decide (p.Len_≤4096)))
theorem zu3 {n:Nat} (p:Xa) (hn:64<n):f48 n p=some (mayP p):=by
 rw [y7p,y8a _ hn]
 unfold mayP
 simp only [Option.bind_some]
 cases z86 p.Name_ <;> cases (p.Kind_==1) <;> cases (p.Kind_==2) <;> cases decide (p.Len_≥1) <;> rfl
theorem zu5 {n:Nat} (p:Xa) (hn:64<n):f55 n p=some (mayP p):=by
 rw [y7z,y8e _ hn]
 unfold mayP
 simp only [Option.bind_some]
 cases z86 p.Name_ <;> cases (p.Kind_==1) <;> cases (p.Kind_==2) <;> cases decide (p.Len_≥1) <;> rfl
theorem zeg {a b:ByteArray}:(a==b)=true↔a=b:=MapKept.bytes_beq a b
theorem z59 (a:ByteArray):(a==a)=true:=zeg.2 rfl
def addP (ks:List ByteArray) (p:Xa):List ByteArray:=bif has p.Name_ ks then ks else ks++[p.Name_]
theorem znf {n:Nat} (hn:64<n):∀ (l:List Xa) (ks:List ByteArray),zai n l ks=some (bif l.all mayP then some (l.foldl addP ks) else none)
 | [],ks=>rfl
 | p::l,ks=>by
  unfold zai
  have e:zhz n p=some (mayP p):=zu3 p hn
  rw [e]
  simp only [Option.bind_some,List.all_cons,List.foldl_cons]
  cases mayP p with
  | false=>rfl
  | true =>
   simp only [cond_true,Bool.true_and]
   exact znf hn l _
theorem y5a (s:ByteArray) (ks:List ByteArray) (p:Xa):has s (addP ks p)=(has s ks || p.Name_==s):=by
 unfold addP
 cases h:has p.Name_ ks with
 | false=>simp [has]
 | true =>
  simp only [cond_true]
  cases hq:p.Name_==s with
  | false=>simp
  | true =>
   rw [zeg] at hq
   subst hq
   simp [h]
theorem zkk {x:List Xa} {k:Nat} (h:k<x.length):(x.take (k+1)).foldl addP []=addP ((x.take k).foldl addP []) x[k]:=by
 rw [List.take_succ_eq_append_getElem h,List.foldl_append]
 rfl
theorem znh {x:List Xa} (s:ByteArray):∀ k,k≤x.length→has s ((x.take k).foldl addP [])=(x.take k).any (fun p=>p.Name_==s)
 | 0,_=>by simp [has]
 | k+1,h=>by
  rw [zkk (by omega),y5a,znh s k (by omega),List.take_succ_eq_append_getElem (by omega),List.any_append]
  simp only [List.any_cons,List.any_nil,Bool.or_false]
def z44 (x:List Xa) (k:Nat):Bool:=match x[k]? with | some p=>!((x.take k).any fun q=>q.Name_==p.Name_) | none=>true
theorem znp {x:List Xa}:∀ k,k≤x.length→((x.take k).foldl addP []).length=(List.range k).countP (z44 x)
 | 0,_=>by simp
 | k+1,h=>by
  have hk:k<x.length:=by omega
  rw [zkk hk,List.range_succ,List.countP_append,← znp k (by omega)]
  have e:z44 x k = !(has x[k].Name_ ((x.take k).foldl addP [])):=by
   unfold z44
   rw [List.getElem?_eq_getElem hk,znh _ k (by omega)]
  have e2:addP ((x.take k).foldl addP []) x[k]=bif has x[k].Name_ ((x.take k).foldl addP []) then (x.take k).foldl addP [] else (x.take k).foldl addP []++[x[k].Name_]:=rfl
  rw [e2]
  cases hh:has x[k].Name_ ((x.take k).foldl addP []) with
  | true=>rw [hh] at e; simp [List.countP_cons,e]
  | false=>rw [hh] at e; simp [List.countP_cons,e]
theorem y6g (x:List Xa):decide (((x.foldl addP []).length:Int)<(x.length:Int)) = !((List.range x.length).all (z44 x)):=by
 have h:=znp (x:=x) x.length (Nat.le_refl _)
 rw [List.take_length] at h
 rw [h]
 have hle:=List.countP_le_length (p:=z44 x) (l:=List.range x.length)
 simp only [List.length_range] at hle
 cases ha:(List.range x.length).all (z44 x) with
 | true =>
  have:(List.range x.length).countP (z44 x)=(List.range x.length).length:=List.countP_eq_length.2 (List.all_eq_true.1 ha)
  rw [this]; simp
 | false =>
  have:(List.range x.length).countP (z44 x) ≠ (List.range x.length).length:=fun e=>by
   have:=List.countP_eq_length.1 e
   have:(List.range x.length).all (z44 x)=true:=List.all_eq_true.2 this
   rw [ha] at this; cases this
  simp only [List.length_range] at this
  simp only [Bool.not_false,decide_eq_true_eq]
  omega
def fnd (x:List Xa) (s:ByteArray):Int×Bool:=match x.findIdx? (fun p=>p.Name_==s) with | none=>(0,false) | some i=>((i:Int),true)
theorem y81 {n:Nat} {x:List Xa} {s:ByteArray} (h:x.length<n) (h2:x.length<1000000):f56 n (x,s)=some (fnd x s):=by
 have hit:iter (zn1 n (x,s) ()) n 0=some (match x.findIdx? (fun p=>!(!(p.Name_==s))) with | none=>.out (x.length:Int) | some i=>.ret (i:Int)):=by
  refine znm (p:=fun p=>!(p.Name_==s)) (fun k=>(k:Int)) (fun k=>(k:Int)) (fun k hk=>?_) ?_ h
  ·rw [zke]
   have e1:decide ((k:Int)<(x.length:Int))=true:=by simp; omega
   dsimp only
   rw [e1,z2u hk]
   simp only [cond_true,Option.bind_some,z2j (show k<4611686018427387904 by omega)]
   cases x[k].Name_==s <;> rfl
  ·rw [zke]; simp
 rw [y80,hit]
 unfold fnd
 simp only [Bool.not_not]
 cases x.findIdx? (fun p=>p.Name_==s) <;> rfl
theorem y00 {x:List Xa} {k:Nat} (hk:k<x.length):(fnd x x[k].Name_).1=(k:Int)↔z44 x k=true:=by
 unfold z44 fnd
 rw [List.getElem?_eq_getElem hk]
 simp only [Bool.not_eq_true']
 cases hf:x.findIdx? (fun p=>p.Name_==x[k].Name_) with
 | none =>
  rw [List.findIdx?_eq_none_iff] at hf
  have:=hf x[k] (List.getElem_mem hk)
  rw [z59] at this; cases this
 | some i =>
  obtain ⟨hi,h1,h2⟩:=List.findIdx?_eq_some_iff_getElem.1 hf
  simp only
  constructor
  ·intro e
   have e:i=k:=by omega
   subst e
   rw [Bool.eq_false_iff]
   intro ha
   obtain ⟨q,hq,hq2⟩:=List.any_eq_true.1 ha
   obtain ⟨j,hj,rfl⟩:=List.getElem_of_mem hq
   simp only [List.length_take] at hj
   have:=h2 j (by omega)
   rw [List.getElem_take] at hq2
   rw [hq2] at this
   simp at this
  ·intro ha
   by_cases hik:i<k
   ·exfalso
    have:(x.take k).any (fun q=>q.Name_==x[k].Name_)=true:=by
     rw [List.any_eq_true]
     exact ⟨x[i],List.mem_take_iff_getElem.2 ⟨i,by omega,rfl⟩,h1⟩
    rw [ha] at this; cases this
   ·by_cases hki:k<i
    ·exfalso
     have:=h2 k hki
     rw [z59] at this; simp at this
    ·omega
def numP (p:Xa):Int:=bif mayP p then (bif p.Kind_==2 then IntKind.i64.wrap (2 * p.Len_) else p.Len_) else 0
theorem y8c {n:Nat} (p:Xa) (hn:64<n):f62 n p=some (numP p):=by
 rw [y8b,zu3 _ hn]
 unfold numP
 simp only [Option.bind_some]
 cases mayP p <;> cases (p.Kind_==2) <;> rfl
theorem y8g {n:Nat} (p:Xa) (hn:64<n):f64 n p=some (numP p):=by
 rw [y8f,zu5 _ hn]
 unfold numP
 simp only [Option.bind_some]
 cases mayP p <;> cases (p.Kind_==2) <;> rfl
def z5z (x:List Xa) (k:Nat):Int:=(x.take k).foldl (fun s p=>IntKind.i64.wrap (s+numP p)) 0
theorem zoi {x:List Xa} {k:Nat} (h:k<x.length):z5z x (k+1)=IntKind.i64.wrap (z5z x k+numP x[k]):=by
 unfold z5z
 rw [List.take_succ_eq_append_getElem h,List.foldl_append]
 rfl
theorem y7r {n:Nat} {x:List Xa} (hn:64<n) (hl:x.length≤64):f49 n x=some (z5z x x.length):=by
 have hit:iter (zmy n x ()) n (0,0)=some (.out (z5z x x.length,(x.length:Int))):=by
  refine z4h (L:=x.length) (fun k=>(z5z x k,(k:Int))) (fun k hk=>?_) ?_ x.length 0 n (by omega) (by omega)
  ·rw [zkb]
   have e1:decide ((k:Int)<(x.length:Int))=true:=by simp; omega
   dsimp only
   rw [e1,z2u hk]
   simp only [cond_true,Option.bind_some,y8c _ hn,z2j (show k<4611686018427387904 by omega),zoi hk]
  ·rw [zkb]; simp
 rw [y7q,hit]
 rfl
theorem y83 {n:Nat} {x:List Xa} (hn:64<n) (hl:x.length≤64):f57 n x=some (z5z x x.length):=by
 have hit:iter (zn2 n x ()) n (0,0)=some (.out (z5z x x.length,(x.length:Int))):=by
  refine z4h (L:=x.length) (fun k=>(z5z x k,(k:Int))) (fun k hk=>?_) ?_ x.length 0 n (by omega) (by omega)
  ·rw [zkf]
   have e1:decide ((k:Int)<(x.length:Int))=true:=by simp; omega
   dsimp only
   rw [e1,z2u hk]
   simp only [cond_true,Option.bind_some,y8g _ hn,z2j (show k<4611686018427387904 by omega),zoi hk]
  ·rw [zkf]; simp
 rw [y82,hit]
 rfl
def sgn (x:List Xa):Int:=bif decide ((x.length:Int) > 64) then 2 else bif x.all mayP then (bif (List.range x.length).all (z44 x) then (bif decide (z5z x x.length > 65536) then 102 else 0) else 101) else 100
theorem y75 {n:Nat} (x:List Xa) (hn:64<n):f28 n x=some (sgn x):=by
 show g28 n x=_
 unfold g28 sgn
 simp only [List.length_map]
 cases hl:decide ((x.length:Int) > 64) with
 | true=>rfl
 | false =>
  have hl':x.length≤64:=by simp only [decide_eq_false_iff_not] at hl; omega
  rw [znf hn]
  cases x.all mayP with
  | false=>rfl
  | true =>
   have e:zw9 n x=some (z5z x x.length):=y7r hn hl'
   simp only [cond_false,cond_true,Option.bind_some,z8x,List.length_map,y6g,e]
   cases (List.range x.length).all (z44 x) <;> cases decide (z5z x x.length > 65536) <;> rfl
theorem y7i {n:Nat} (x:List Xa) (hn:64<n):f38 n x=some (sgn x):=by
 rw [y7h]
 unfold sgn
 cases hl:decide ((x.length:Int) > 64) with
 | true=>rfl
 | false =>
  have hl':x.length≤64:=by simp only [decide_eq_false_iff_not] at hl; omega
  have h1:iter (zmv n x ()) n 0=some (bif x.all mayP then .out (x.length:Int) else .ret ()):=by
   refine z4g (fun k hk=>?_) ?_ (by omega)
   ·rw [zk8]
    have e1:decide ((k:Int)<(x.length:Int))=true:=by simp; omega
    rw [e1,z2u hk]
    simp only [cond_true,Option.bind_some,zu5 _ hn,z2j (show k<4611686018427387904 by omega)]
    cases mayP x[k] <;> rfl
   ·rw [zk8]; simp
  have h2:iter (zmw n x ()) n 0=some (bif (List.range x.length).all (z44 x) then .out (x.length:Int) else .ret ()):=by
   refine z4g (l:=List.range x.length) (fun k hk=>?_) ?_ (by simp; omega)
   ·simp only [List.length_range] at hk
    rw [zk9]
    have e1:decide ((k:Int)<(x.length:Int))=true:=by simp; omega
    rw [e1,z2u hk]
    simp only [cond_true,Option.bind_some,y81 (n:=n) (x:=x) (s:=x[k].Name_) (by omega) (by omega),z2j (show k<4611686018427387904 by omega),List.getElem_range]
    have:=y00 hk
    cases hq:z44 x k with
    | true =>
     have e:=this.2 hq
     rw [e]
     simp
    | false =>
     have e:(fnd x x[k].Name_).1 ≠ (k:Int):=fun e=>by
      have:=this.1 e
      rw [hq] at this; cases this
     have e2:((fnd x x[k].Name_).1 != (k:Int))=true:=by simpa using e
     rw [e2]; rfl
   ·rw [List.length_range,zk9]; simp
  rw [h1]
  simp only [cond_false]
  cases x.all mayP with
  | false=>rfl
  | true =>
   simp only [cond_true,Option.bind_some,Bo.then]
   rw [h2]
   cases (List.range x.length).all (z44 x) with
   | false=>rfl
   | true =>
    simp only [cond_true,Option.bind_some,Bo.then,y83 hn hl']
    cases decide (z5z x x.length > 65536) <;> rfl
theorem zef (a:Int):(a==a)=true:=by simp
theorem zzb (a:Bool):(a==a)=true:=by simp
structure zry (a:Xe):Prop where
 s:a.Sign_.length * 32≤140737488355328
 r:a.Regs_.length * 16≤140737488355328
 l:a.Slots_.length * 32≤140737488355328
 i:a.List_.length * 56≤140737488355328
def fuel (a:Xe):Nat:=a.Sign_.length+a.Regs_.length+a.Slots_.length+a.List_.length+100001
theorem zzs {n:Nat} {c:Xe} (h1:c.Sign_.length<n) (h2:c.Regs_.length<n) (h3:c.Slots_.length<n) (h4:c.List_.length<n)
  (k1:c.Sign_.length<4611686018427387904) (k2:c.Regs_.length<4611686018427387904) (k3:c.Slots_.length<4611686018427387904) (k4:c.List_.length<4611686018427387904):f23 n (c,c)=some true:=by
 have i1:iter (zmm n (c,c) ()) n 0=some (.out (c.Sign_.length:Int)):=by
  refine z4h (L:=c.Sign_.length) (fun k=>(k:Int)) (fun k hk=>?_) ?_ c.Sign_.length 0 n (by omega) h1
  ·rw [zk1]
   have e1:decide ((k:Int)<(c.Sign_.length:Int))=true:=by simp; omega
   dsimp only
   rw [e1,z2u hk]
   simp only [cond_true,Option.bind_some,z2j (show k<4611686018427387904 by omega),zef,z59,Bool.and_self,Bool.not_true,cond_false]
  ·rw [zk1]; simp
 have i2:iter (zmn n (c,c) ()) n 0=some (.out (c.Regs_.length:Int)):=by
  refine z4h (L:=c.Regs_.length) (fun k=>(k:Int)) (fun k hk=>?_) ?_ c.Regs_.length 0 n (by omega) h2
  ·rw [zk2]
   have e1:decide ((k:Int)<(c.Regs_.length:Int))=true:=by simp; omega
   dsimp only
   rw [e1,z2u hk]
   simp only [cond_true,Option.bind_some,z2j (show k<4611686018427387904 by omega),zef,z59,Bool.and_self,Bool.not_true,cond_false]
  ·rw [zk2]; simp
 have i3:iter (zmo n (c,c) ()) n 0=some (.out (c.Slots_.length:Int)):=by
  refine z4h (L:=c.Slots_.length) (fun k=>(k:Int)) (fun k hk=>?_) ?_ c.Slots_.length 0 n (by omega) h3
  ·rw [zk3]
   have e1:decide ((k:Int)<(c.Slots_.length:Int))=true:=by simp; omega
   dsimp only
   rw [e1,z2u hk]
   simp only [cond_true,Option.bind_some,z2j (show k<4611686018427387904 by omega),zef,zzb,z59,Bool.and_self,Bool.not_true,cond_false]
  ·rw [zk3]; simp
 have i4:iter (zmp n (c,c) ()) n 0=some (.out (c.List_.length:Int)):=by
  refine z4h (L:=c.List_.length) (fun k=>(k:Int)) (fun k hk=>?_) ?_ c.List_.length 0 n (by omega) h4
  ·rw [zk4]
   have e1:decide ((k:Int)<(c.List_.length:Int))=true:=by simp; omega
   dsimp only
   rw [e1,z2u hk]
   simp only [cond_true,Option.bind_some,z2j (show k<4611686018427387904 by omega),zef,z59,Bool.and_self,Bool.not_true,cond_false]
  ·rw [zk4]; simp
 rw [y72,i1,i2,i3,i4]
 simp [bne,Bo.then]
def goR (c:Xe):List Xd→Nat→List Bool→List Xg→Nat⊕(List Bool×List Xg)
 | [],_,set,o=>.inr (set,o)
 | i::l,k,set,o=>bif z4f c i set o then goR c l (k+1) (z78 i set o).1 (z78 i set o).2 else .inl k
section
variable {c:Xe}
theorem y1b {m m':Nat} {x:Xe} (hr:∀ t ∈ c.Regs_,mayT c.Sign_ t=true) (hR:c.Regs_.length≤1000000) (hL:c.List_.length<1000000) (hm:c.List_.length<m) (hb:∀ i ∈ c.List_,0≤i.Bits_∧i.Bits_<4294967296) :
  ∀ (j k f f':Nat) (set:List Bool) (news:List (List Int)) (op:List Int) (o:List Xg),k+j=c.List_.length→j<f→j<f'→Two c k set news op o →
   ∃ news' op',(∀ r,goR c (c.List_.drop k) k set o = .inr r→op'.length=r.2.length) ∧
    iter (zdo (m+5) x (c.List_,(c.List_.length:Int),c.Sign_,c.Regs_,c.Slots_)) f ((k:Int),c.Sign_,c.Regs_,c.Slots_,c.List_,set,news,op)=some (match goR c (c.List_.drop k) k set o with | .inl k'=>.ret (k':Int) | .inr r=>.out ((c.List_.length:Int),c.Sign_,c.Regs_,c.Slots_,c.List_,r.1,news',op')) ∧
    iter (zdp (m'+4) c ()) f' ((k:Int),set,o)=some (match goR c (c.List_.drop k) k set o with | .inl k'=>.ret (k':Int) | .inr r=>.out ((c.List_.length:Int),r.1,r.2))
 | 0,k,f+1,f'+1,set,news,op,o,hk,_,_,h=>by
  obtain rfl:k=c.List_.length:=by omega
  rw [List.drop_length]
  refine ⟨news,op,fun r hr=>?_,?_,?_⟩
  ·cases hr; rw [h.op]; simp
  ·unfold iter
   rw [zju]; simp [goR]
  ·unfold iter
   rw [zjz]; simp [goR]
 | j+1,k,f+1,f'+1,set,news,op,o,hk,hf,hf',h=>by
  have hkl:k<c.List_.length:=by omega
  obtain ⟨b0,b1⟩:=hb _ (List.getElem_mem hkl)
  have e1:decide ((k:Int)<(c.List_.length:Int))=true:=by simp; omega
  have s1:=zzo (m:=m) (x:=x) (v:=(c.List_,(c.List_.length:Int),c.Sign_,c.Regs_,c.Slots_)) h (by omega) (by omega) hr b0 b1 (by omega) e1 (z2u hkl)
  have s2:=zzq (m:=m') h hr hR b0 b1 (by omega) hkl (z2u hkl)
  have e2:z4f c c.List_[k] set o=okI c c.List_[k] set op:=by
   unfold z4f okI
   rw [h.place]
   cases fits c c.List_[k] <;> cases rdOk set c.List_[k] <;> cases zbq c.List_[k] o <;> simp
  rw [List.drop_eq_getElem_cons hkl]
  have eg:goR c (c.List_[k]::c.List_.drop (k+1)) k set o=bif z4f c c.List_[k] set o then goR c (c.List_.drop (k+1)) (k+1) (z78 c.List_[k] set o).1 (z78 c.List_[k] set o).2 else .inl k:=rfl
  rw [eg]
  rw [e2] at s2 ⊢
  unfold iter
  rw [s1,s2]
  cases hok:okI c c.List_[k] set op with
  | false=>exact ⟨[],[],fun r hr=>(by cases hr),rfl,rfl⟩
  | true =>
   obtain ⟨q1,q2⟩:=h.next hok
   simp only [cond_true]
   have e3:z78 c.List_[k] set o=((zan c.List_[k] set news op).1,(z78 c.List_[k] set o).2):=by rw [← q1]
   rw [e3]
   exact y1b hr hR hL hm hb j (k+1) f f' _ _ _ _ (by omega) (by omega) (by omega) q2
end
def chk (c:Xe):Int×Int :=
 bif sgn c.Sign_ != 0 then (sgn c.Sign_,-1) else bif (decide ((c.Regs_.length:Int) > 16384) || decide ((c.List_.length:Int) > 32768)) then (181,-1) else bif decide ((c.Slots_.length:Int) > 4096) then (180,-1) else
 bif c.Regs_.all (mayT c.Sign_) then (bif c.Slots_.all (mayS c.Sign_) then (match goR c c.List_ 0 (List.replicate c.Regs_.length false) [] with | .inl k=>(160,(k:Int)) | .inr r=>bif decide ((r.2.length:Int) > 0) then (160,(c.List_.length:Int)) else (0,0)) else (160,-1)) else (160,-1)
theorem zm8 {n:Nat} {c:Xe} (hn:100000<n) (hs:∀ s ∈ c.Slots_,0≤s.Bits_∧s.Bits_<4294967296) (hb:∀ i ∈ c.List_,0≤i.Bits_∧i.Bits_<4294967296):f16 n c=some (chk c)∧f21 n c=some (chk c):=by
 unfold chk
 obtain ⟨m,rfl⟩:∃ m,n=m+5:=⟨n - 5,by omega⟩
 rw [y6s,y6x,y75 _ (by omega),y7i _ (by omega)]
 simp only [Option.bind_some]
 cases sgn c.Sign_ != 0 with
 | true=>exact ⟨rfl,rfl⟩
 | false =>
  have hB:∀ {R:Type},(bif (decide ((c.Regs_.length:Int) > 16384)) then some (Sum.inl true) else some (.inl (decide ((c.List_.length:Int) > 32768))):Option (Bool⊕R))=some (.inl (decide ((c.Regs_.length:Int) > 16384) || decide ((c.List_.length:Int) > 32768))):=by
   intro R
   cases decide ((c.Regs_.length:Int) > 16384) <;> rfl
  simp only [cond_false]
  rw [hB,Option.bind_some,orRet_inl]
  cases hz:(decide ((c.Regs_.length:Int) > 16384) || decide ((c.List_.length:Int) > 32768)) with
  | true=>exact ⟨rfl,rfl⟩
  | false =>
   simp only [Bool.or_eq_false_iff,decide_eq_false_iff_not] at hz
   simp only [cond_false]
   cases hy:decide ((c.Slots_.length:Int) > 4096) with
   | true=>exact ⟨rfl,rfl⟩
   | false =>
    simp only [decide_eq_false_iff_not] at hy
    simp only [cond_false]
    rw [y77 (by omega) (by omega),zzp (by omega) (by omega)]
    cases hr:c.Regs_.all (mayT c.Sign_) with
    | false=>exact ⟨rfl,rfl⟩
    | true =>
     have hr':∀ t ∈ c.Regs_,mayT c.Sign_ t=true:=List.all_eq_true.1 hr
     simp only [Option.bind_some,Bool.not_true,cond_false,cond_true,Bo.then]
     rw [y7b (by omega) (by omega) hs,ztw (by omega) (by omega) hs]
     cases c.Slots_.all (mayS c.Sign_) with
     | false=>exact ⟨rfl,rfl⟩
     | true =>
      simp only [Option.bind_some,orRet_inl,Bool.not_true,cond_false,cond_true,Bo.then]
      rw [zi (by omega),y4t (by omega) (by omega)]
      simp only [Option.bind_some,Bo.then]
      have h0:Two c 0 (List.replicate c.Regs_.length false) [] [] []:=⟨by simp,rfl,by simp,fun x hx=>(by cases hx),trivial⟩
      have hset:List.replicate ((c.Regs_.length:Int)).toNat false=List.replicate c.Regs_.length false:=by rw [Int.toNat_natCast]
      rw [hset]
      obtain ⟨news',op',q0,q1,q2⟩:=y1b (m:=m) (m':=m+1) (x:=c) hr' (by omega) (by omega) (by omega) hb c.List_.length 0 (m+5) (m+5) _ _ _ _ (by omega) (by omega) (by omega) h0
      rw [List.drop_zero] at q0 q1 q2
      have q1:iter (zdo (m+5) c (c.List_,(c.List_.length:Int),c.Sign_,c.Regs_,c.Slots_)) (m+5) (0,c.Sign_,c.Regs_,c.Slots_,c.List_,List.replicate c.Regs_.length false,[],[])=_:=q1
      have q2:iter (zdp (m+5) c ()) (m+5) (0,List.replicate c.Regs_.length false,[])=_:=q2
      rw [q1,q2]
      cases hg:goR c c.List_ 0 (List.replicate c.Regs_.length false) [] with
      | inl k=>exact ⟨rfl,rfl⟩
      | inr r =>
       have:=q0 r hg
       simp only [Option.bind_some,Bo.then,this]
       cases decide ((r.2.length:Int) > 0) <;> exact ⟨rfl,rfl⟩
def zlr (d:Nat) (s t:List Bool):Prop:=s.length=t.length∧∀ j,j ≠ d→s[j]? = t[j]?
inductive zij (d:Nat):List Xg→List Xg→Prop
 | nil:zij d [] []
 | snoc {o p:List Xg} {x y:Xg}:zij d o p→x.Op_=y.Op_→x.Param_=y.Param_→zlr d x.Set_ y.Set_→zij d (o++[x]) (p++[y])
theorem zij.len {d:Nat} {o p:List Xg} (h:zij d o p):o.length=p.length:=by
 induction h with
 | nil=>rfl
 | snoc _ _ _ _ ih=>simp [ih]
theorem zlr.set {d:Nat} {s t:List Bool} (h:zlr d s t) (j:Nat) (b:Bool):zlr d (s.set j b) (t.set j b):=by
 refine ⟨by simp [h.1],fun k hk=>?_⟩
 rw [List.getElem?_set,List.getElem?_set,h.1,h.2 k hk]
abbrev y3w (c:Xe):List Bool:=List.replicate c.Regs_.length false
theorem ztq {c:Xe} (h:(chk c).1=0):(sgn c.Sign_ != 0)=false∧decide ((c.Regs_.length:Int) > 16384)=false∧decide ((c.List_.length:Int) > 32768)=false∧decide ((c.Slots_.length:Int) > 4096)=false∧c.Regs_.all (mayT c.Sign_)=true∧c.Slots_.all (mayS c.Sign_)=true ∧
  ∃ r,goR c c.List_ 0 (y3w c) [] = .inr r∧r.2=[]:=by
 unfold chk at h
 cases h1:sgn c.Sign_ != 0 with
 | true =>
  rw [h1] at h
  have h:sgn c.Sign_=0:=h
  rw [h] at h1; cases h1
 | false =>
  rw [h1] at h
  cases h2:decide ((c.Regs_.length:Int) > 16384) with
  | true=>rw [h2] at h; exact absurd (show (181:Int)=0 from h) (by decide)
  | false =>
   cases h3:decide ((c.List_.length:Int) > 32768) with
   | true=>rw [h2,h3] at h; exact absurd (show (181:Int)=0 from h) (by decide)
   | false =>
    rw [h2,h3] at h
    cases h4:decide ((c.Slots_.length:Int) > 4096) with
    | true=>rw [h4] at h; exact absurd (show (180:Int)=0 from h) (by decide)
    | false =>
     rw [h4] at h
     cases h5:c.Regs_.all (mayT c.Sign_) with
     | false=>rw [h5] at h; exact absurd (show (160:Int)=0 from h) (by decide)
     | true =>
      rw [h5] at h
      cases h6:c.Slots_.all (mayS c.Sign_) with
      | false=>rw [h6] at h; exact absurd (show (160:Int)=0 from h) (by decide)
      | true =>
       rw [h6] at h
       refine ⟨rfl,rfl,rfl,rfl,rfl,rfl,?_⟩
       simp only [Bool.or_self,cond_false,cond_true] at h
       cases h7:goR c c.List_ 0 (y3w c) [] with
       | inl k=>rw [h7] at h; exact absurd h (by simp)
       | inr r =>
        rw [h7] at h
        refine ⟨r,rfl,?_⟩
        cases h8:decide ((r.2.length:Int) > 0) with
        | true=>simp only [h8,cond_true] at h; exact absurd h (by simp)
        | false =>
         simp only [decide_eq_false_iff_not] at h8
         exact List.eq_nil_of_length_eq_zero (by omega)
abbrev U32s (c:Xe):Prop:=(∀ s ∈ c.Slots_,0≤s.Bits_∧s.Bits_<4294967296)∧∀ i ∈ c.List_,0≤i.Bits_∧i.Bits_<4294967296
theorem y5x {n:Nat} {c:Xe} (h:zry c):f101 n c=some (c.Sign_,c.Regs_,c.Slots_,c.List_):=by
 rw [y4l,zi h.s,zi h.r,zi h.l,zi h.i]
theorem zng (c:Xe):∀ (l:List Xd) (k:Nat) (s:List Bool) (o:List Xg) (r:List Bool×List Xg),goR c l k s o = .inr r→∀ i ∈ l,fits c i=true
 | [],_,_,_,_,_,i,hi=>by cases hi
 | j::l,k,s,o,r,h,i,hi=>by
  simp only [goR] at h
  cases hs:z4f c j s o with
  | false=>rw [hs] at h; cases h
  | true =>
   rw [hs,cond_true] at h
   rcases List.mem_cons.1 hi with rfl | hi
   ·unfold z4f at hs
    simp only [Bool.and_eq_true] at hs
    exact hs.1
   ·exact zng c l _ _ _ r h i hi
def Byt (l:List Int):Prop:=∀ b ∈ l,0≤b∧b<256
theorem zl (s:ByteArray):(bytesOf s).length=s.size:=by simp [bytesOf]
theorem z1w (s:ByteArray):Byt (bytesOf s):=fun b hb=>by
 obtain ⟨u,_,rfl⟩:=List.mem_map.1 hb
 have:=u.toNat_lt
 omega
theorem zd3 (l:List Int):(zv l).data.toList=l.map fun n=>UInt8.ofNat n.toNat:=by
 have:∀ (l:List Int) (r:ByteArray),(l.foldl (fun r n=>r.push (UInt8.ofNat n.toNat)) r).data.toList=r.data.toList++l.map fun n=>UInt8.ofNat n.toNat:=by
  intro l
  induction l with
  | nil=>intro r; simp
  | cons a l ih=>intro r; rw [List.foldl_cons,ih]; simp [ByteArray.push]
 have h:=this l ByteArray.empty
 simpa [zv] using h
theorem y66 {s t:ByteArray} (h:s.data.toList=t.data.toList):s=t:=by
 cases s; cases t
 congr 1
 exact Array.ext' h
theorem z1t {l:List Int} (h:Byt l):bytesOf (zv l)=l:=by
 unfold bytesOf
 rw [zd3,List.map_map]
 conv=>rhs; rw [← List.map_id l]
 refine List.map_congr_left fun b hb=>?_
 have:=h b hb
 simp only [Function.comp,id,UInt8.toNat_ofNat']
 omega
theorem zd7 (s:ByteArray):zv (bytesOf s)=s:=by
 apply y66
 rw [zd3]
 unfold bytesOf
 rw [List.map_map]
 conv=>rhs; rw [← List.map_id s.data.toList]
 refine List.map_congr_left fun b hb=>?_
 simp
theorem zax {s t:ByteArray} (h:bytesOf s=bytesOf t):s=t:=by rw [← zd7 s,h,zd7]
theorem z3v (l:List Int):(zv l).size=l.length:=by
 have:=congrArg List.length (zd3 l)
 simpa using this
theorem z38 (s:ByteArray) (a b:Nat):bytesOf (s.extract a b)=((bytesOf s).take b).drop a:=by
 simp [bytesOf,ByteArray.data_extract,List.map_drop,List.map_take,List.extract_eq_take_drop,List.drop_take]
theorem z70 {s:ByteArray} {i:Nat} (h:i<(bytesOf s).length):zb s (i:Int)=(bytesOf s)[i]:=by
 have h2:i<s.data.toList.length:=by simpa [bytesOf] using h
 simp only [zb,bytesOf,Int.toNat_natCast,List.getElem_map]
 rw [List.getD_eq_getElem?_getD,List.getElem?_eq_getElem h2]
 rfl
theorem zbi {α:Type} {l:List α} {i:Nat} (h:i<l.length):idx l (i:Int)=some l[i]:=by
 unfold idx
 rw [if_pos (by omega),Int.toNat_natCast,List.getElem?_eq_getElem h]
theorem z2f {i:Nat} (h:i<9223372036854775806):IntKind.i64.wrap ((i:Int)+1)=((i+1:Nat):Int):=by
 rw [z3x (by omega) (by omega)]; omega
theorem z5f {α S T R St:Type} (xs:List α) (hm:xs.length<9223372036854775806) (mk:Int→S→St) (P:Nat→S→Prop) (g:S→α→S) (out:S→T) (body:St→Option (Bo St T R))
  (hgo:∀ (i:Nat) (h:i<xs.length) (s:S),P i s→body (mk i s)=some (.go (mk (IntKind.i64.wrap ((i:Int)+1)) (g s xs[i])))∧P (i+1) (g s xs[i])) (hend:∀ s,P xs.length s→body (mk xs.length s)=some (.out (out s))) :
  ∀ (k i:Nat) (s:S) (fuel:Nat),i+k=xs.length→k<fuel→P i s→iter body fuel (mk i s)=some (.out (out ((xs.drop i).foldl g s)))∧P xs.length ((xs.drop i).foldl g s)
 | 0,i,s,fuel+1,h,hf,hp=>by
  obtain rfl:i=xs.length:=by omega
  rw [List.drop_length,List.foldl_nil]
  exact ⟨by simp only [iter,hend s hp],hp⟩
 | k+1,i,s,fuel+1,h,hf,hp=>by
  have hi:i<xs.length:=by omega
  rw [List.drop_eq_getElem_cons hi]
  obtain ⟨h1,h2⟩:=hgo i hi s hp
  rw [z2f (by omega)] at h1
  simp only [iter,h1,List.foldl_cons]
  exact z5f xs hm mk P g out body hgo hend k (i+1) _ fuel (by omega) (by omega) h2
def bs (c:BitVec 64):BitVec 64:=bif c.getLsbD 0 then (c >>> 1) ^^^ 14514072000185962306#64 else c >>> 1
def bs8 (c:BitVec 64):BitVec 64:=bs (bs (bs (bs (bs (bs (bs (bs c)))))))
def bb (c:BitVec 64) (b:Int):BitVec 64:=bs8 (c ^^^ BitVec.ofInt 64 b)
def crc0 (l:List Int):BitVec 64:=l.foldl bb (18446744073709551615#64)
def crcL (l:List Int):Int:=((~~~ crc0 l).toNat:Int)
theorem y5c (c:BitVec 64):c.getLsbD 0=(c.toNat % 2==1):=by
 rw [BitVec.getLsbD,Nat.testBit_zero]
 by_cases h:c.toNat % 2=1 <;> simp [h]
theorem ofI (c:BitVec 64):BitVec.ofInt IntKind.u64.bits (c.toNat:Int)=c:=by
 show BitVec.ofInt 64 (c.toNat:Int)=c
 rw [BitVec.ofInt_natCast]; simp
theorem y47 (c:BitVec 64):IntKind.u64.wrap (c.toNat:Int)=(c.toNat:Int):=z1s (by omega) (by have:=c.isLt; omega)
theorem half (c:BitVec 64):(c.toNat:Int).fdiv (2 ^ min (1:Int).toNat IntKind.u64.bits)=((c >>> 1).toNat:Int):=by
 show (c.toNat:Int).fdiv 2=_
 rw [Int.fdiv_eq_ediv_of_nonneg _ (by decide),BitVec.toNat_ushiftRight,Nat.shiftRight_eq_div_pow]
 omega
theorem y69 (c:BitVec 64):(bs c).toNat=if c.toNat % 2=1 then ((c >>> 1) ^^^ 14514072000185962306#64).toNat else (c >>> 1).toNat:=by
 unfold bs
 rw [y5c]
 by_cases h:c.toNat % 2=1
 ·simp [h]
 ·have:(c.toNat % 2==1)=false:=by simpa using h
  rw [this,cond_false,if_neg h]
theorem xorB (x y:Int):IntKind.u64.wrap (BitVec.ofInt IntKind.u64.bits x ^^^ BitVec.ofInt IntKind.u64.bits y).toNat=((BitVec.ofInt 64 x ^^^ BitVec.ofInt 64 y).toNat:Int):=y47 (BitVec.ofInt 64 x ^^^ BitVec.ofInt 64 y)
theorem ofI' (c:BitVec 64):BitVec.ofInt 64 (c.toNat:Int)=c:=ofI c
theorem ycb {body:Int×Int→Option (Bo (Yaa) (Yaa) Empty)} (h:∀ (c:BitVec 64) (k:Nat),k<8→body ((c.toNat:Int),(k:Int))=some (.go (((bs c).toNat:Int),((k+1:Nat):Int)))) (he:∀ c:BitVec 64,body ((c.toNat:Int),((8:Nat):Int))=some (.out ((c.toNat:Int),8))) {n:Nat} (hn:10≤n) (c:BitVec 64) :
  iter body n ((c.toNat:Int),0)=some (.out (((bs8 c).toNat:Int),8)):=by
 obtain ⟨m,rfl⟩:∃ m,n=m+9:=⟨n - 9,by omega⟩
 have h0:=h c 0 (by omega)
 simp only [Int.natCast_zero] at h0
 simp only [iter,h0,h _ 1 (by omega),h _ 2 (by omega),h _ 3 (by omega),h _ 4 (by omega),h _ 5 (by omega),h _ 6 (by omega),h _ 7 (by omega),he,bs8]
theorem zs9 {n:Nat} {x:ByteArray} {v1:Unit} {q1:Int×Int} {v2:Unit} (c:BitVec 64) (k:Nat) (hk:k<8):zej n x v1 q1 v2 ((c.toNat:Int),(k:Int))=some (.go (((bs c).toNat:Int),((k+1:Nat):Int))):=by
 rw [zhf,z2f (by omega),half,xorB,ofI']
 have e1:decide ((k:Int)<8)=true:=by simp; omega
 have e2:(IntKind.u64.wrap (BitVec.ofInt IntKind.u64.bits (c.toNat:Int) &&& BitVec.ofInt IntKind.u64.bits 1).toNat==1)=(c.toNat % 2==1):=by
  have:=zs1 (c.toNat:Int) 1 (by decide) (by omega) (by have:=c.isLt; omega)
  have e:((2 ^ 1 - 1:Nat):Int)=1:=rfl
  rw [e] at this
  rw [this,Int.toNat_natCast,z1s (by omega) (by omega)]
  by_cases h:c.toNat % 2=1
  ·have h':c.toNat % 2 ^ 1=1:=h
   simp only [h,h']; rfl
  ·have:(c.toNat % 2==1)=false:=by simpa using h
   rw [this]
   have h':c.toNat % 2 ^ 1=0:=by omega
   simp only [h']; rfl
 have e3:(BitVec.ofInt 64 14514072000185962306)=14514072000185962306#64:=rfl
 rw [e1,cond_true,e2,e3,y69]
 by_cases h:c.toNat % 2=1
 ·simp [h]
 ·have:(c.toNat % 2==1)=false:=by simpa using h
  rw [this,cond_false,if_neg h]
theorem zoy {n:Nat} {x:ByteArray} {v1:Unit} {q1:Int×Int} {v2:Unit} (c:BitVec 64):zej n x v1 q1 v2 ((c.toNat:Int),((8:Nat):Int))=some (.out ((c.toNat:Int),8)):=by
 rw [zhf]; rfl
theorem ya9 (c:BitVec 64):cmpl .u64 (c.toNat:Int)=((~~~ c).toNat:Int):=by
 unfold cmpl
 rw [ofI]
 have:BitVec.ofInt IntKind.u64.bits (if IntKind.u64.signed then -1 else IntKind.u64.max)=18446744073709551615#64:=rfl
 rw [this]
 have e:(18446744073709551615#64 ^^^ c) = ~~~ c:=by
  rw [show (18446744073709551615#64:BitVec 64)=BitVec.allOnes 64 from rfl,BitVec.xor_comm,BitVec.xor_allOnes]
 have e2:((18446744073709551615#64 ^^^ c:BitVec 64).toNat)=(~~~ c).toNat:=by rw [e]
 exact (congrArg (fun k:Nat=>IntKind.u64.wrap (k:Int)) e2).trans (y47 _)
theorem zpf {n:Nat} {x:ByteArray} (hx:x.size<9223372036854775000) (hn:x.size+10<n):f199 n x=some (crcL (bytesOf x)):=by
 rw [y4m]
 have hl:=zl x
 have:=(z5f (bytesOf x) (by omega) (fun i (c:BitVec 64)=>((c.toNat:Int),i)) (fun _ _=>True) bb (fun c=>((c.toNat:Int),((bytesOf x).length:Int))) (zj3 n x ()) (R:=Empty) (fun i hi c _=>⟨by
  rw [zhe]
  have e1:decide ((i:Int)<((bytesOf x).length:Int))=true:=by simp; omega
  have hb:=z1w x _ (List.getElem_mem hi)
  rw [e1,cond_true]
  simp only [zbi hi,Option.bind_some]
  rw [z1s hb.1 (by omega),xorB,ofI',ycb zs9 zoy (by omega)]
  rfl,trivial⟩) (fun c _=>by
  rw [zhe]
  have e1:decide (((bytesOf x).length:Int)<((bytesOf x).length:Int))=false:=by simp
  simp only [e1,cond_false]) (bytesOf x).length 0 (18446744073709551615#64) n (by omega) (by omega) trivial).1
 have e0:((18446744073709551615#64).toNat:Int)=18446744073709551615:=rfl
 simp only [Int.natCast_zero,e0] at this
 rw [this]
 simp only [Option.bind_some,Bo.then,ya9,List.drop_zero]
 rfl
def numN (v:Nat):List Int:=if h:v<128 then [(v:Int)] else ((v % 128+128:Nat):Int)::numN (v / 128)
termination_by v
decreasing_by omega
def num (v:Int):List Int:=if v<128 then [IntKind.u8.wrap v] else numN v.toNat
theorem z8h (x:Int):IntKind.u8.wrap x=x % 256:=by simp [IntKind.wrap,IntKind.bits,IntKind.signed]
theorem zit (x:Int):0≤IntKind.u8.wrap x∧IntKind.u8.wrap x<256:=by rw [z8h]; omega
theorem z52 {x:Int} (h0:0≤x) (h1:x<256):IntKind.u8.wrap x=x:=by rw [z8h]; omega
theorem z35 {v:Nat} (h:v<128):numN v=[(v:Int)]:=by rw [numN,dif_pos h]
theorem z9t {v:Nat} (h:¬ v<128):numN v=((v % 128+128:Nat):Int)::numN (v / 128):=by rw [numN,dif_neg h]
theorem zje (v:Nat):num (v:Int)=numN v:=by
 unfold num
 split
 ·rw [z35 (by omega),z52 (by omega) (by omega)]
 ·rw [Int.toNat_natCast]
theorem zgh:∀ (f v:Nat),v<128 ^ (f+1)→(numN v).length≤f+1
 | 0,v,h=>by rw [z35 (by omega)]; simp
 | f+1,v,h=>by
  by_cases hv:v<128
  ·rw [z35 hv]; simp
  ·rw [z9t hv,List.length_cons]
   have:=zgh f (v / 128) (by rw [Nat.pow_succ] at h; omega)
   omega
theorem z4a {v:Int} (h:v<9223372036854775808):(num v).length≤10:=by
 unfold num
 split
 ·simp
 ·exact zgh 9 v.toNat (by have:(128:Nat) ^ (9+1)=1180591620717411303424:=rfl; omega)
theorem zny:∀ (f v:Nat),v<128 ^ (f+1)→Byt (numN v)
 | 0,v,h=>by rw [z35 (by omega)]; intro b hb; simp at hb; omega
 | f+1,v,h=>by
  by_cases hv:v<128
  ·rw [z35 hv]; intro b hb; simp at hb; omega
  ·rw [z9t hv]
   have:=zny f (v / 128) (by rw [Nat.pow_succ] at h; omega)
   intro b hb
   rcases List.mem_cons.1 hb with rfl | hb
   ·omega
   ·exact this b hb
theorem z5w {v:Int} (h:v<9223372036854775808):Byt (num v):=by
 unfold num
 split
 ·intro b hb; simp at hb; rw [hb]; exact zit v
 ·exact zny 9 v.toNat (by have:(128:Nat) ^ (9+1)=1180591620717411303424:=rfl; omega)
theorem ycd:∀ b:BitVec 8,(b ||| 128#8).toNat=b.toNat % 128+128:=by decide
theorem y9h (v:Int) (hv:0≤v):IntKind.u8.wrap ((BitVec.ofInt IntKind.u8.bits (IntKind.u8.wrap v) ||| BitVec.ofInt IntKind.u8.bits 128).toNat:Int)=((v.toNat % 128+128:Nat):Int):=by
 have h:=ycd (BitVec.ofInt 8 (IntKind.u8.wrap v))
 have e:((BitVec.ofInt IntKind.u8.bits (IntKind.u8.wrap v) ||| BitVec.ofInt IntKind.u8.bits 128).toNat)=(BitVec.ofInt 8 (IntKind.u8.wrap v) ||| 128#8).toNat:=rfl
 rw [e,h]
 have e2:(BitVec.ofInt 8 (IntKind.u8.wrap v)).toNat=v.toNat % 256:=by
  rw [BitVec.toNat_ofInt,z8h]; omega
 rw [e2,z8h]
 omega
theorem shr7 (v:Int) (hv:0≤v):v.fdiv (2 ^ min (7:Int).toNat IntKind.i64.bits)=((v.toNat / 128:Nat):Int):=by
 show v.fdiv 128=_
 rw [Int.fdiv_eq_ediv_of_nonneg _ (by decide)]; omega
theorem zjv {n:Nat} {x:List Int×Int}:∀ (f v m:Nat) (l:List Int),v<128 ^ (f+1)→l.length+f+2≤140737488355328 →
  ∃ w:Nat,∃ l',iter (zj4 n x ()) (f+1+m) ((v:Int),l)=some (.out ((w:Int),l'))∧l'++[(w:Int)]=l++numN v∧w<128
 | 0,v,m,l,h,hl=>by
  refine ⟨v,l,?_,by rw [z35 (by omega)],by omega⟩
  have e:decide ((v:Int)≥128)=false:=by simp; omega
  rw [show 0+1+m=m+1 by omega,iter,z8u]
  simp only [e,cond_false]
 | f+1,v,m,l,h,hl=>by
  by_cases hv:v<128
  ·refine ⟨v,l,?_,by rw [z35 hv],hv⟩
   have e:decide ((v:Int)≥128)=false:=by simp; omega
   rw [show f+1+1+m=(f+1+m)+1 by omega,iter,z8u]
   simp only [e,cond_false]
  ·obtain ⟨w,l',h1,h2,h3⟩:=zjv (n:=n) (x:=x) f (v / 128) m (l++[((v % 128+128:Nat):Int)]) (by rw [Nat.pow_succ] at h; omega) (by simp; omega)
   refine ⟨w,l',?_,by rw [h2,z9t hv]; simp,h3⟩
   have e:decide ((v:Int)≥128)=true:=by simp; omega
   rw [show f+1+1+m=(f+1+m)+1 by omega,iter,z8u]
   simp only [e,cond_true]
   rw [zi (by simp; omega),y9h _ (by omega),shr7 _ (by omega),Int.toNat_natCast]
   exact h1
theorem z5u {n:Nat} {l:List Int} {v:Int} (hn:20≤n) (hv:v<9223372036854775808) (hl:l.length+20≤140737488355328):f217 n (l,v)=some (l++num v):=by
 rw [y4q]
 unfold num
 split
 ·rename_i h
  have e:decide (v≥128)=false:=by simp; omega
  obtain ⟨m,rfl⟩:∃ m,n=m+1:=⟨n - 1,by omega⟩
  rw [iter,z8u]
  simp only [e,cond_false,Option.bind_some,Bo.then]
  rw [zi (by simp; omega)]
 ·rename_i h
  obtain ⟨k,rfl⟩:∃ k:Nat,v=k:=⟨v.toNat,by omega⟩
  obtain ⟨w,l',h1,h2,h3⟩:=zjv (n:=n) (x:=(l,(k:Int))) 9 k (n - 10) l (by have:(128:Nat) ^ (9+1)=1180591620717411303424:=rfl; omega) (by omega)
  rw [show 9+1+(n - 10)=n by omega] at h1
  rw [h1]
  simp only [Option.bind_some,Bo.then]
  have hl':=congrArg List.length h2
  simp only [List.length_append,List.length_cons,List.length_nil] at hl'
  have:=zgh 9 k (by have:(128:Nat) ^ (9+1)=1180591620717411303424:=rfl; omega)
  rw [zi (by simp; omega),z52 (by omega) (by omega),h2,Int.toNat_natCast]
def low (v:Int) (k:Nat):List Int:=(List.range k).map fun i=>IntKind.u8.wrap (v.fdiv (2 ^ (8 * i)))
theorem z3n (v:Int) (k:Nat):(low v k).length=k:=by simp [low]
theorem z3h (v:Int) (k:Nat):Byt (low v k):=fun b hb=>by
 obtain ⟨i,_,rfl⟩:=List.mem_map.1 hb
 exact zit _
theorem znr (v:Int) (k:Nat):low v (k+1)=low v k++[IntKind.u8.wrap (v.fdiv (2 ^ (8 * k)))]:=by simp [low,List.range_succ]
theorem w8 {i:Nat} (h:i<8):IntKind.i64.wrap (8 * (i:Int))=((8 * i:Nat):Int):=by rw [z3x (by omega) (by omega)]; omega
theorem znq {v:Int} {k:Nat} (hk:k≤8) {l:List Int} {body:Int×List Int→Option (Bo (Int×List Int) (Int×List Int) Empty)}
  (hb:∀ (i:Nat) (m:List Int),i<k→m.length≤l.length+i→body ((i:Int),m)=some (.go (((i+1:Nat):Int),m++[IntKind.u8.wrap (v.fdiv (2 ^ (8 * i)))]))) (he:∀ m,body ((k:Int),m)=some (.out ((k:Int),m))) :
  ∀ (j i n:Nat),i+j=k→j<n→iter body n ((i:Int),l++low v i)=some (.out ((k:Int),l++low v k))
 | 0,i,n+1,h,hn=>by
  obtain rfl:i=k:=by omega
  rw [iter,he]
 | j+1,i,n+1,h,hn=>by
  rw [iter,hb i _ (by omega) (by rw [List.length_append,z3n]; omega),List.append_assoc,← znr]
  exact znq hk hb he j (i+1) n (by omega) (by omega)
theorem y9o (v:Int) (i:Nat) (hi:i<8):v.fdiv (2 ^ min ((8 * i:Nat):Int).toNat IntKind.u64.bits)=v.fdiv (2 ^ (8 * i)):=by
 rw [Int.toNat_natCast,show min (8 * i) IntKind.u64.bits=8 * i from Nat.min_eq_left (by show 8 * i≤64; omega)]
theorem zj6 {n:Nat} {l:List Int} {v:Int} {k:Nat} (hk:k≤8) (hn:20≤n) (hl:l.length+20≤140737488355328):f219 n (l,v,(k:Int))=some (l++low v k):=by
 rw [y4s]
 have:=znq (v:=v) hk (l:=l) (body:=zj5 n (l,v,(k:Int)) ()) (fun i m hi hm=>by
  rw [zhl]
  have e:decide ((i:Int)<(k:Int))=true:=by simp; omega
  simp only [e,cond_true,w8 (show i<8 by omega),z2f (show i<9223372036854775806 by omega),y9o v i (by omega)]
  rw [zi (by omega),zi (by simp; omega)]) (fun m=>by
  rw [zhl]
  have e:decide ((k:Int)<(k:Int))=false:=by simp
  simp only [e,cond_false]) k 0 n (by omega) (by omega)
 have e0:low v 0=[]:=rfl
 rw [e0,List.append_nil] at this
 rw [show ((0:Nat):Int)=0 from rfl] at this
 rw [this]; rfl
def off (op:Int):List Nat:=match rowD op with
 | some r=>(bif r.d==0 then [] else [1])++((bif r.a==0 then [] else [2])++((bif r.b==0 then [] else [3])++((bif r.c==0 then [] else [4])++(bif r.n==0 then [] else [5]))))
 | none=>[]
def fv (i:Xd) (k:Nat):Int:=if k=1 then i.D_ else if k=2 then i.A_ else if k=3 then i.B_ else if k=4 then i.C_ else i.N_
theorem y0e {op:Int} (h:∀ k:Int,1≤k→k≤37→(op==k)=false):off op=[]:=by simp only [off,z36 h]
theorem z9u (op:Int):∀ k ∈ off op,1≤k∧k≤5:=by
 unfold off
 split
 ·rename_i r _
  intro k hk
  have one:∀ (b:Bool) (j:Nat),k ∈ (bif b then [] else [j])→k=j:=fun b j h=>by
   cases b
   ·exact List.mem_singleton.1 h
   ·exact nomatch h
  simp only [List.mem_append] at hk
  rcases hk with h | h | h | h | h <;> have:=one _ _ h <;> omega
 ·simp
theorem zf8 (op:Int):(off op).length≤5:=by
 unfold off
 split
 ·rename_i r _
  cases r.d==0 <;> cases r.a==0 <;> cases r.b==0 <;> cases r.c==0 <;> cases r.n==0 <;> simp
 ·simp
theorem zzr (n:Nat) (x:Ycd):f220 n x=(ztx n (0,x)).map fun l=>(l.map (·.off),x):=rfl
theorem zph (m:Nat) (x:Ycd):f220 (m+4) x=some (off x.1,x):=by
 obtain ⟨op,d,a,b,c,N,bits⟩:=x
 rcases z5j op with (rfl | rfl | rfl | rfl | rfl | rfl | rfl | rfl | rfl | rfl | rfl | rfl | rfl | rfl | rfl | rfl | rfl | rfl | rfl | rfl | rfl | rfl | rfl | rfl | rfl | rfl | rfl | rfl | rfl | rfl | rfl | rfl | rfl | rfl | rfl | rfl | rfl) | h
 iterate 37 (· kernel_rfl)
 rw [zzr,zty,zmh,zsc,y4n]
 have hs:sets ⟨op,d,a,b,c,N,bits⟩=false:=by simp only [sets,z36 h]
 have hr:z1n ⟨op,d,a,b,c,N,bits⟩=[]:=by simp only [z1n,z36 h]
 simp only [hs,hr,y0e h,h 2 (by decide) (by decide),h 29 (by decide) (by decide),h 30 (by decide) (by decide),h 31 (by decide) (by decide),h 32 (by decide) (by decide),h 33 (by decide) (by decide),h 36 (by decide) (by decide),cond_false,Option.bind_some,orRet_inl]
 rfl
def typB (t:Xb):List Int:=IntKind.u8.wrap t.Kind_::(bif t.Kind_==3 then num t.Param_ else [])
def fldB (i:Xd):List Int:=(off i.Op_).flatMap fun k=>num (fv i k)
def z3k (i:Xd):List Int:=IntKind.u8.wrap i.Op_::(fldB i++(bif i.Op_==1 then low (IntKind.u64.wrap i.Bits_) 4 else []))
abbrev LIM:Int:=9223372036854775808
structure z29 (i:Xd):Prop where
 d:i.D_<LIM
 a:i.A_<LIM
 b:i.B_<LIM
 c:i.C_<LIM
 n:i.N_<LIM
theorem z29.fv {i:Xd} (h:z29 i) (k:Nat):fv i k<LIM:=by
 unfold Loom.fv
 split
 ·exact h.d
 ·split
  ·exact h.a
  ·split
   ·exact h.b
   ·split
    ·exact h.c
    ·exact h.n
theorem zd4 {t:Xb} (h:t.Param_<LIM):(typB t).length≤11:=by
 unfold typB
 cases t.Kind_==3
 ·simp
 ·have:=z4a h; simp; omega
theorem z50 {α:Type} (f:α→List Int) (K:Nat):∀ (l:List α),(∀ x ∈ l,(f x).length≤K)→(l.flatMap f).length≤K * l.length
 | [],_=>by simp
 | x::l,h=>by
  rw [List.flatMap_cons,List.length_append,List.length_cons,Nat.mul_succ]
  have:=h x (by simp)
  have:=z50 f K l fun y hy=>h y (by simp [hy])
  omega
theorem zn9 {i:Xd} (h:z29 i):(fldB i).length≤50:=by
 have:=z50 (fun k=>num (fv i k)) 10 (off i.Op_) fun k _=>z4a (h.fv k)
 have:=zf8 i.Op_
 unfold fldB; omega
theorem zkp {i:Xd} (h:z29 i):(z3k i).length≤55:=by
 have:=zn9 h
 unfold z3k
 cases i.Op_==1 <;> simp [z3n] <;> omega
theorem z68 {α:Type} {f:α→List Int} {l:List α} (h:∀ x ∈ l,Byt (f x)):Byt (l.flatMap f):=fun b hb=>by
 obtain ⟨x,hx,hb⟩:=List.mem_flatMap.1 hb
 exact h x hx b hb
theorem Byt.app {a b:List Int} (ha:Byt a) (hb:Byt b):Byt (a++b):=fun x hx=>(List.mem_append.1 hx).elim (ha x) (hb x)
theorem Byt.cons {a:Int} {b:List Int} (ha:0≤a∧a<256) (hb:Byt b):Byt (a::b):=fun x hx=>(List.mem_cons.1 hx).elim (fun e=>e ▸ ha) (hb x)
theorem Byt.nil:Byt []:=fun _ h=>nomatch h
theorem zol {t:Xb} (h:t.Param_<LIM):Byt (typB t):=by
 refine Byt.cons (zit _) ?_
 cases t.Kind_==3
 ·exact Byt.nil
 ·exact z5w h
theorem zy3 {i:Xd} (h:z29 i):Byt (z3k i):=by
 refine Byt.cons (zit _) (Byt.app (z68 fun k _=>z5w (h.fv k)) ?_)
 cases i.Op_==1
 ·exact Byt.nil
 ·exact z3h _ _
abbrev MAXB:Nat:=140737488355328
theorem zpg {n:Nat} {l:List Int} {t:Xb} (hn:20≤n) (ht:t.Param_<LIM) (hl:l.length+30≤MAXB):f218 n (l,t)=some (l++typB t):=by
 have hl:l.length+30≤140737488355328:=hl
 rw [y4r,zi (by simp; omega)]
 unfold typB
 cases t.Kind_==3 with
 | false=>rfl
 | true =>
  simp only [cond_true]
  rw [z5u hn ht (by simp; omega)]
  simp
theorem y5k (i:Xd) {k:Nat} (h:1≤k∧k≤5):z39 [some i.Op_,some i.D_,some i.A_,some i.B_,some i.C_,some i.N_,none] k=some (fv i k):=by
 have:k=1∨k=2∨k=3∨k=4∨k=5:=by omega
 rcases this with rfl | rfl | rfl | rfl | rfl <;> rfl
theorem z6o {α:Type} (f:α→List Int):∀ (l:List α) (a:List Int),l.foldl (fun s x=>s++f x) a=a++l.flatMap f
 | [],a=>by simp
 | x::l,a=>by rw [List.foldl_cons,z6o f l,List.flatMap_cons,List.append_assoc]
theorem zmi {n:Nat} {x:Xe} {v4:Unit} {q4:Int×List Int} {i:Xd} {l:List Int} (hn:20≤n) (hi:z29 i) (hl:l.length+100≤MAXB) :
  iter (zeo n x v4 q4 (off i.Op_,((off i.Op_).length:Int),i.Op_,i.D_,i.A_,i.B_,i.C_,i.N_,i.Bits_)) n ((0:Int),l)=some (.out (((off i.Op_).length:Int),l++fldB i)):=by
 have h5:=zf8 i.Op_
 have hl:l.length+100≤140737488355328:=hl
 have:=(z5f (off i.Op_) (by omega) (fun (j:Int) (s:List Int)=>(j,s)) (fun j s=>s.length≤l.length+10 * j) (fun s k=>s++num (fv i k)) (fun s=>(((off i.Op_).length:Int),s)) (zeo n x v4 q4 (off i.Op_,((off i.Op_).length:Int),i.Op_,i.D_,i.A_,i.B_,i.C_,i.N_,i.Bits_)) (R:=Empty) (fun j hj s hs=>by
  have hb:=z4a (hi.fv ((off i.Op_)[j]))
  refine ⟨?_,by rw [List.length_append]; omega⟩
  rw [zhk]
  have e:decide ((j:Int)<((off i.Op_).length:Int))=true:=by simp; omega
  simp only [e,cond_true,Int.toNat_natCast,List.getElem?_eq_getElem hj]
  rw [zi (by omega)]
  simp only [Option.bind_some,y5k i (z9u i.Op_ _ (List.getElem_mem hj))]
  rw [z5u hn (hi.fv _) (by omega)]
  rfl) (fun s _=>by
  rw [zhk]
  have e:decide (((off i.Op_).length:Int)<((off i.Op_).length:Int))=false:=by simp
  simp only [e,cond_false]) (off i.Op_).length 0 l n (by omega) (by omega) (by omega)).1
 rw [show ((0:Nat):Int)=0 from rfl] at this
 rw [this,List.drop_zero,z6o]
 rfl
def parB (p:Xa):List Int:=IntKind.u8.wrap p.Kind_::(num (p.Name_.size:Int)++(bytesOf p.Name_++num p.Len_))
def z3l (s:Xc):List Int:=(bif s.Keep_ then 1 else 0)::(typB s.Type_++(bif s.Type_.Kind_==2 then num s.Int_ else low (IntKind.u64.wrap s.Bits_) 4))
def z2b (c:Xe):List Int :=
 [108,116,104,49]++num (c.Sign_.length:Int)++c.Sign_.flatMap parB++num (c.Regs_.length:Int)++c.Regs_.flatMap typB++num (c.Slots_.length:Int)++c.Slots_.flatMap z3l++num (c.List_.length:Int)++c.List_.flatMap z3k
def bytC (c:Xe):List Int:=z2b c++low (crcL (z2b c)) 8
structure zlh (p:Xa):Prop where
 name:p.Name_.size≤64
 len:p.Len_<LIM
structure zgt (x:Xc):Prop where
 par:x.Type_.Param_<LIM
 int:x.Int_<LIM
structure z56 (c:Xe):Prop where
 sl:c.Sign_.length≤64
 rl:c.Regs_.length≤16384
 ol:c.Slots_.length≤4096
 ll:c.List_.length≤32768
 s:∀ p ∈ c.Sign_,zlh p
 r:∀ t ∈ c.Regs_,t.Param_<LIM
 o:∀ x ∈ c.Slots_,zgt x
 l:∀ i ∈ c.List_,z29 i
theorem z1q {k:Nat} (h:k≤1000000):(k:Int)<LIM:=by show (k:Int)<9223372036854775808; omega
theorem znz {p:Xa} (h:zlh p):(parB p).length≤85:=by
 have h1:=z4a (z1q (show p.Name_.size≤1000000 by have:=h.name; omega))
 have h2:=z4a h.len
 have h3:=zl p.Name_
 have:=h.name
 simp [parB]; omega
theorem zl3 {x:Xc} (h:zgt x):(z3l x).length≤25:=by
 have h1:=zd4 h.par
 have h2:=z4a h.int
 unfold z3l
 cases x.Type_.Kind_==2 <;> simp [z3n] <;> omega
theorem y0f {p:Xa} (h:zlh p):Byt (parB p) :=
 Byt.cons (zit _) (Byt.app (z5w (z1q (show p.Name_.size≤1000000 by have:=h.name; omega))) (Byt.app (z1w _) (z5w h.len)))
theorem zyt {x:Xc} (h:zgt x):Byt (z3l x):=by
 refine Byt.cons (by cases x.Keep_ <;> simp) (Byt.app (zol h.par) ?_)
 cases x.Type_.Kind_==2
 ·exact z3h _ _
 ·exact z5w h.int
theorem z3f {c:Xe} (h:z56 c):Byt (z2b c):=by
 have k1:=z1q (show c.Sign_.length≤1000000 by have:=h.sl; omega)
 have k2:=z1q (show c.Regs_.length≤1000000 by have:=h.rl; omega)
 have k3:=z1q (show c.Slots_.length≤1000000 by have:=h.ol; omega)
 have k4:=z1q (show c.List_.length≤1000000 by have:=h.ll; omega)
 have hm:Byt [108,116,104,49]:=fun b hb=>by simp at hb; omega
 exact (((((((hm.app (z5w k1)).app (z68 fun p hp=>y0f (h.s p hp))).app (z5w k2)).app (z68 fun t ht=>zol (h.r t ht))).app (z5w k3)).app (z68 fun x hx=>zyt (h.o x hx))).app (z5w k4)).app (z68 fun i hi=>zy3 (h.l i hi))
theorem y6w {n:Nat} {c:Xe} {l:List Int} (hn:100000<n) (h:z56 c) (hl:l.length≤10000000):iter (zek n c ()) n ((0:Int),l)=some (.out ((c.Sign_.length:Int),l++c.Sign_.flatMap parB)):=by
 have hsl:=h.sl
 have:=(z5f c.Sign_ (by omega) (fun (j:Int) (s:List Int)=>(j,s)) (fun j s=>s.length≤l.length+85 * j) (fun s p=>s++parB p) (fun s=>((c.Sign_.length:Int),s)) (zek n c ()) (R:=Empty) (fun j hj s hs=>by
  have hp:=h.s _ (List.getElem_mem hj)
  have hb:=znz hp
  refine ⟨?_,by rw [List.length_append]; omega⟩
  have k1:=z1q (show c.Sign_[j].Name_.size≤1000000 by have:=hp.name; omega)
  have k2:=z4a k1
  have k3:=zl c.Sign_[j].Name_
  have k4:=hp.name
  rw [zhg]
  have e:decide ((j:Int)<(c.Sign_.length:Int))=true:=by simp; omega
  simp only [e,cond_true,zbi hj,Option.bind_some]
  rw [zi (by simp; omega),z5u (by omega) k1 (by simp; omega)]
  simp only [Option.bind_some]
  rw [zi (by simp; omega),z5u (by omega) hp.len (by simp; omega)]
  simp [parB]) (fun s _=>by
  rw [zhg]
  have e:decide ((c.Sign_.length:Int)<(c.Sign_.length:Int))=false:=by simp
  simp only [e,cond_false]) c.Sign_.length 0 l n (by omega) (by omega) (by omega)).1
 rw [show ((0:Nat):Int)=0 from rfl] at this
 rw [this,List.drop_zero,z6o]
theorem y6v {n:Nat} {c:Xe} {l:List Int} (hn:100000<n) (h:z56 c) (hl:l.length≤10000000):iter (zel n c ()) n ((0:Int),l)=some (.out ((c.Regs_.length:Int),l++c.Regs_.flatMap typB)):=by
 have hsl:=h.rl
 have:=(z5f c.Regs_ (by omega) (fun (j:Int) (s:List Int)=>(j,s)) (fun j s=>s.length≤l.length+11 * j) (fun s p=>s++typB p) (fun s=>((c.Regs_.length:Int),s)) (zel n c ()) (R:=Empty) (fun j hj s hs=>by
  have hp:=h.r _ (List.getElem_mem hj)
  have hb:=zd4 hp
  refine ⟨?_,by rw [List.length_append]; omega⟩
  rw [zhh]
  have e:decide ((j:Int)<(c.Regs_.length:Int))=true:=by simp; omega
  simp only [e,cond_true,zbi hj,Option.bind_some]
  rw [zpg (by omega) hp (by show _≤140737488355328; omega)]
  rfl) (fun s _=>by
  rw [zhh]
  have e:decide ((c.Regs_.length:Int)<(c.Regs_.length:Int))=false:=by simp
  simp only [e,cond_false]) c.Regs_.length 0 l n (by omega) (by omega) (by omega)).1
 rw [show ((0:Nat):Int)=0 from rfl] at this
 rw [this,List.drop_zero,z6o]
theorem y6u {n:Nat} {c:Xe} {l:List Int} (hn:100000<n) (h:z56 c) (hl:l.length≤10000000):iter (zem n c ()) n ((0:Int),l)=some (.out ((c.Slots_.length:Int),l++c.Slots_.flatMap z3l)):=by
 have hsl:=h.ol
 have:=(z5f c.Slots_ (by omega) (fun (j:Int) (s:List Int)=>(j,s)) (fun j s=>s.length≤l.length+25 * j) (fun s p=>s++z3l p) (fun s=>((c.Slots_.length:Int),s)) (zem n c ()) (R:=Empty) (fun j hj s hs=>by
  have hp:=h.o _ (List.getElem_mem hj)
  have hb:=zl3 hp
  have ht:=zd4 hp.par
  refine ⟨?_,by rw [List.length_append]; omega⟩
  rw [zhi]
  have e:decide ((j:Int)<(c.Slots_.length:Int))=true:=by simp; omega
  have eT:(⟨c.Slots_[j].Type_.Kind_,c.Slots_[j].Type_.Param_⟩:Xb)=c.Slots_[j].Type_:=rfl
  have fin:∀ k:Int,(need ((s.length+([k]:List Int).length) * 1≤140737488355328) ((f218 n ((s++([k]:List Int)),(⟨c.Slots_[j].Type_.Kind_,c.Slots_[j].Type_.Param_⟩:Xb))).bind fun y13=>bif (c.Slots_[j].Type_.Kind_==2) then ((f217 n (y13,c.Slots_[j].Int_)).bind fun y14=>some (.go ((IntKind.i64.wrap ((j:Int)+1)),y14))) else ((f219 n (y13,(IntKind.u64.wrap c.Slots_[j].Bits_),4)).bind fun y15=>some (.go ((IntKind.i64.wrap ((j:Int)+1)),y15)))):Option (Bo (Int×List Int) (Int×List Int) Empty)) =
    some (.go (IntKind.i64.wrap ((j:Int)+1),s++(k::(typB c.Slots_[j].Type_++(bif c.Slots_[j].Type_.Kind_==2 then num c.Slots_[j].Int_ else low (IntKind.u64.wrap c.Slots_[j].Bits_) 4))))):=fun k=>by
   rw [zi (by simp; omega),eT,zpg (by omega) hp.par (by show _≤140737488355328; simp; omega)]
   simp only [Option.bind_some]
   cases c.Slots_[j].Type_.Kind_==2 with
   | true =>
    simp only [cond_true]
    rw [z5u (by omega) hp.int (by simp; omega)]
    simp
   | false =>
    simp only [cond_false]
    have:=zj6 (n:=n) (l:=s++[k]++typB c.Slots_[j].Type_) (v:=IntKind.u64.wrap c.Slots_[j].Bits_) (k:=4) (by omega) (by omega) (by simp; omega)
    rw [show ((4:Nat):Int)=4 from rfl] at this
    rw [this]
    simp
  simp only [e,cond_true,zbi hj,Option.bind_some]
  unfold z3l
  cases c.Slots_[j].Keep_ with
  | true =>
   simp only [cond_true,Option.bind_some,orRet_inl]
   exact fin 1
  | false =>
   simp only [cond_false,Option.bind_some,orRet_inl]
   exact fin 0) (fun s _=>by
  rw [zhi]
  have e:decide ((c.Slots_.length:Int)<(c.Slots_.length:Int))=false:=by simp
  simp only [e,cond_false]) c.Slots_.length 0 l n (by omega) (by omega) (by omega)).1
 rw [show ((0:Nat):Int)=0 from rfl] at this
 rw [this,List.drop_zero,z6o]
theorem y6t {n:Nat} {c:Xe} {l:List Int} (hn:100000<n) (h:z56 c) (hl:l.length≤10000000):iter (zen n c ()) n ((0:Int),l)=some (.out ((c.List_.length:Int),l++c.List_.flatMap z3k)):=by
 have hsl:=h.ll
 obtain ⟨m,hm⟩:∃ m,n=m+4:=⟨n - 4,by omega⟩
 have:=(z5f c.List_ (by omega) (fun (j:Int) (s:List Int)=>(j,s)) (fun j s=>s.length≤l.length+55 * j) (fun s p=>s++z3k p) (fun s=>((c.List_.length:Int),s)) (zen n c ()) (R:=Empty) (fun j hj s hs=>by
  have hp:=h.l _ (List.getElem_mem hj)
  have hb:=zkp hp
  have hf:=zn9 hp
  refine ⟨?_,by rw [List.length_append]; omega⟩
  rw [zhj]
  have e:decide ((j:Int)<(c.List_.length:Int))=true:=by simp; omega
  have e2:∀ x,f220 n x=some (off x.1,x):=fun x=>by rw [hm]; exact zph m x
  simp only [e,cond_true,zbi hj,Option.bind_some,e2]
  rw [zi (by simp; omega),zmi (by omega) hp (by show _≤140737488355328; simp; omega)]
  simp only [Option.bind_some,Bo.then]
  unfold z3k
  cases c.List_[j].Op_==1 with
  | true =>
   simp only [cond_true]
   have:=zj6 (n:=n) (l:=s++[IntKind.u8.wrap c.List_[j].Op_]++fldB c.List_[j]) (v:=IntKind.u64.wrap c.List_[j].Bits_) (k:=4) (by omega) (by omega) (by simp; omega)
   rw [show ((4:Nat):Int)=4 from rfl] at this
   rw [this]
   simp
  | false=>simp) (fun s _=>by
  rw [zhj]
  have e:decide ((c.List_.length:Int)<(c.List_.length:Int))=false:=by simp
  simp only [e,cond_false]) c.List_.length 0 l n (by omega) (by omega) (by omega)).1
 rw [show ((0:Nat):Int)=0 from rfl] at this
 rw [this,List.drop_zero,z6o]
def z73 (c:Xe):ByteArray×Int:=if (chk c).1=0 then (zv (bytC c),0) else (⟨#[]⟩,(chk c).1)
theorem zjs {c:Xe} (h:z56 c):(c.Sign_.flatMap parB).length≤5440∧(c.Regs_.flatMap typB).length≤180224∧(c.Slots_.flatMap z3l).length≤102400∧(c.List_.flatMap z3k).length≤1802240∧(num (c.Sign_.length:Int)).length≤10∧(num (c.Regs_.length:Int)).length≤10∧(num (c.Slots_.length:Int)).length≤10∧(num (c.List_.length:Int)).length≤10:=by
 have a1:=z50 parB 85 c.Sign_ fun p hp=>znz (h.s p hp)
 have a2:=z50 typB 11 c.Regs_ fun p hp=>zd4 (h.r p hp)
 have a3:=z50 z3l 25 c.Slots_ fun p hp=>zl3 (h.o p hp)
 have a4:=z50 z3k 55 c.List_ fun p hp=>zkp (h.l p hp)
 have:=h.sl
 have:=h.rl
 have:=h.ol
 have:=h.ll
 exact ⟨by omega,by omega,by omega,by omega,z4a (z1q (by omega)),z4a (z1q (by omega)),z4a (z1q (by omega)),z4a (z1q (by omega))⟩
theorem zjr {c:Xe} (h:z56 c):(z2b c).length≤3000000:=by
 obtain ⟨h1,h2,h3,h4,h5,h6,h7,h8⟩:=zjs h
 simp only [z2b,List.length_append,List.length_cons,List.length_nil]
 omega
theorem zts {l:List Int} (h:Byt l):crcL (bytesOf (zv l))=crcL l:=by rw [z1t h]
theorem y4p {n:Nat} {c:Xe} (hn:10000000<n) (hs:∀ s ∈ c.Slots_,0≤s.Bits_∧s.Bits_<4294967296) (hb:∀ i ∈ c.List_,0≤i.Bits_∧i.Bits_<4294967296) (h:(chk c).1=0→z56 c):f216 n c=some (z73 c):=by
 rw [y4o,(zm8 (by omega) hs hb).1]
 unfold z73
 simp only [Option.bind_some]
 by_cases h0:(chk c).1=0
 ·have hC:=h h0
  obtain ⟨h1,h2,h3,h4,h5,h6,h7,h8⟩:=zjs hC
  have hsl:=hC.sl
  have hrl:=hC.rl
  have hol:=hC.ol
  have hll:=hC.ll
  rw [if_pos h0,h0]
  simp only [bne_self_eq_false,cond_false]
  have hcl:=zjr hC
  have hby:=z3f hC
  rw [z5u (by omega) (z1q (by omega)) (by simp)]
  simp only [Option.bind_some]
  rw [y6w (by omega) hC (by simp only [List.length_append,List.length_cons,List.length_nil]; omega)]
  simp only [Option.bind_some,Bo.then]
  rw [z5u (by omega) (z1q (by omega)) (by simp only [List.length_append,List.length_cons,List.length_nil]; omega)]
  simp only [Option.bind_some]
  rw [y6v (by omega) hC (by simp only [List.length_append,List.length_cons,List.length_nil]; omega)]
  simp only [Option.bind_some,Bo.then]
  rw [z5u (by omega) (z1q (by omega)) (by simp only [List.length_append,List.length_cons,List.length_nil]; omega)]
  simp only [Option.bind_some]
  rw [y6u (by omega) hC (by simp only [List.length_append,List.length_cons,List.length_nil]; omega)]
  simp only [Option.bind_some,Bo.then]
  rw [z5u (by omega) (z1q (by omega)) (by simp only [List.length_append,List.length_cons,List.length_nil]; omega)]
  simp only [Option.bind_some]
  rw [y6t (by omega) hC (by simp only [List.length_append,List.length_cons,List.length_nil]; omega)]
  simp only [Option.bind_some,Bo.then]
  have e:[108,116,104,49]++num (c.Sign_.length:Int)++c.Sign_.flatMap parB++num (c.Regs_.length:Int)++c.Regs_.flatMap typB++num (c.Slots_.length:Int)++c.Slots_.flatMap z3l++num (c.List_.length:Int)++c.List_.flatMap z3k=z2b c:=rfl
  rw [e,zpf (by rw [z3v]; omega) (by rw [z3v]; omega),zts hby]
  simp only [Option.bind_some]
  have:=zj6 (n:=n) (l:=z2b c) (v:=crcL (z2b c)) (k:=8) (by omega) (by omega) (by omega)
  rw [show ((8:Nat):Int)=8 from rfl] at this
  rw [this]
  rfl
 ·have hb:((chk c).1 != 0)=true:=by simpa using h0
  rw [if_neg h0,hb,cond_true]
theorem zyr {l:List Xa} (h:(sgn l != 0)=false):l.length≤64∧l.all mayP=true:=by
 unfold sgn at h
 cases h1:decide ((l.length:Int) > 64) with
 | true=>rw [h1,cond_true] at h; exact absurd h (by decide)
 | false =>
  rw [h1,cond_false] at h
  simp only [decide_eq_false_iff_not] at h1
  refine ⟨by omega,?_⟩
  cases h2:l.all mayP with
  | true=>rfl
  | false=>rw [h2,cond_false] at h; exact absurd h (by decide)
theorem zr8 {p:Xa} (h:mayP p=true):p.Name_.size≤64∧(p.Kind_=1∨p.Kind_=2)∧1≤p.Len_∧p.Len_≤4096:=by
 unfold mayP z86 at h
 simp only [Bool.and_eq_true,Bool.not_eq_true',Bool.or_eq_false_iff,decide_eq_false_iff_not,Bool.or_eq_true,beq_iff_eq,decide_eq_true_eq] at h
 obtain ⟨⟨⟨_,h1⟩,_⟩,h2,h3,h4⟩:=h
 exact ⟨by omega,h2,h3,h4⟩
theorem zr9 {l:List Xa} {s:Xc} (h:mayS l s=true):mayT l s.Type_=true∧((s.Type_.Kind_=2∧s.Bits_=0∧0≤s.Int_∧s.Int_≤2147483647)∨(s.Type_.Kind_ ≠ 2∧s.Int_=0∧z6d s.Bits_=true)):=by
 unfold mayS at h
 rw [Bool.and_eq_true] at h
 refine ⟨h.1,?_⟩
 by_cases hk:s.Type_.Kind_=2
 ·have e:(s.Type_.Kind_==2)=true:=by simp [hk]
  have h2:=h.2
  rw [e,cond_true] at h2
  simp only [Bool.and_eq_true,beq_iff_eq,decide_eq_true_eq] at h2
  exact .inl ⟨hk,h2.1,h2.2.1,h2.2.2⟩
 ·have e:(s.Type_.Kind_==2)=false:=by simp [hk]
  have h2:=h.2
  rw [e,cond_false] at h2
  simp only [Bool.and_eq_true,beq_iff_eq] at h2
  exact .inr ⟨hk,h2.1,h2.2⟩
theorem zf5 {l:List Xa} {t:Xb} (hl:l.length≤64) (h:mayT l t=true):(t.Kind_=1∨t.Kind_=2∨t.Kind_=3)∧0≤t.Param_∧t.Param_<64∧(t.Kind_ ≠ 3→t.Param_=0):=by
 unfold mayT at h
 by_cases hk:t.Kind_=3
 ·have e:(t.Kind_==3)=true:=by simp [hk]
  rw [e,cond_true] at h
  simp only [Bool.and_eq_true,decide_eq_true_eq] at h
  exact ⟨.inr (.inr hk),h.1,by omega,fun h=>absurd hk h⟩
 ·have e:(t.Kind_==3)=false:=by simp [hk]
  rw [e,cond_false] at h
  simp only [Bool.and_eq_true,Bool.or_eq_true,beq_iff_eq] at h
  exact ⟨by omega,by omega,by omega,fun _=>h.2⟩
theorem z5b {c:Xe} (h:(chk c).1=0) (hl:∀ i ∈ c.List_,z29 i):z56 c:=by
 obtain ⟨h1,h2,h3,h4,h5,h6,_⟩:=ztq h
 obtain ⟨s1,s2⟩:=zyr h1
 simp only [decide_eq_false_iff_not] at h2 h3 h4
 rw [List.all_eq_true] at s2 h5 h6
 refine ⟨s1,by omega,by omega,by omega,fun p hp=>?_,fun t ht=>?_,fun x hx=>?_,hl⟩
 ·obtain ⟨q1,_,_,q2⟩:=zr8 (s2 p hp)
  exact ⟨q1,by show p.Len_<9223372036854775808; omega⟩
 ·obtain ⟨_,_,q,_⟩:=zf5 s1 (h5 t ht)
  show t.Param_<9223372036854775808; omega
 ·obtain ⟨q1,q2⟩:=zr9 (h6 x hx)
  obtain ⟨_,_,q,_⟩:=zf5 s1 q1
  refine ⟨by show x.Type_.Param_<9223372036854775808; omega,?_⟩
  show x.Int_<9223372036854775808
  rcases q2 with h | h <;> omega
abbrev Rd (α:Type):=(α×Nat)⊕(Yaa)
def z4q (S:ByteArray) (p k:Nat):Rd ByteArray:=if S.size - p<k then .inr (242,p) else .inl (S.extract p (p+k),p+k)
def numL:Nat→Nat→List Int→(Nat×Nat)⊕Int
 | _,_,[]=>.inr 242
 | k,acc,b::l=>if k=9∨(b=0∧0<k) then .inr 243 else if b<128 then .inl (acc+b.toNat * 128 ^ k,k+1) else numL (k+1) (acc+b.toNat % 128 * 128 ^ k) l
def numR (S:ByteArray) (p most:Nat):Rd Int:=match numL 0 0 ((bytesOf S).drop p) with
 | .inr e=>.inr (e,p)
 | .inl (v,k)=>if most<v then .inr (2,p) else .inl ((v:Int),p+k)
abbrev ANY:Nat:=9223372036854775807
abbrev BIG:Nat:=4611686018427387904
theorem zep {n:Nat} {S:ByteArray} {p k:Nat} (hp:p≤S.size) (hS:S.size≤BIG) (hk:k≤1000):f222 n (S,(p:Int),(k:Int))=some (match z4q S p k with | .inl (s,q)=>.inl (s,S,(q:Int)) | .inr e=>.inr e):=by
 have hS:S.size≤4611686018427387904:=hS
 have e0:IntKind.i64.wrap ((S.size:Int) - (p:Int))=((S.size - p:Nat):Int):=by rw [z3x (by omega) (by omega)]; omega
 have e1:IntKind.i64.wrap ((p:Int)+(k:Int))=((p+k:Nat):Int):=by rw [z3x (by omega) (by omega)]; omega
 rw [y4u]
 simp only [e0,e1]
 unfold z4q
 by_cases h:S.size - p<k
 ·have d:decide (((S.size - p:Nat):Int)<(k:Int))=true:=by simp; omega
  rw [d,cond_true,if_pos h]
 ·have d:decide (((S.size - p:Nat):Int)<(k:Int))=false:=by simp; omega
  rw [d,cond_false,if_neg h,zi (by omega)]
  rfl
theorem zjd {k acc:Nat}:∀ {l:List Int} {v c:Nat},Byt l→acc<128 ^ k→numL k acc l = .inl (v,c)→v<128 ^ c∧k<c∧c≤k+l.length∧(k≤9→c≤9):=by
 intro l
 induction l generalizing k acc with
 | nil=>intro v c _ _ h; cases h
 | cons b l ih =>
  intro v c hB ha h
  simp only [numL] at h
  split at h
  ·cases h
  ·rename_i h1
   have hb:=hB b (by simp)
   split at h
   ·rename_i h2
    cases h
    have:b.toNat * 128 ^ k≤127 * 128 ^ k:=Nat.mul_le_mul_right _ (by omega)
    rw [Nat.pow_succ]
    exact ⟨by omega,by omega,by simp,by omega⟩
   ·have hb2:b.toNat % 128 * 128 ^ k≤127 * 128 ^ k:=Nat.mul_le_mul_right _ (by omega)
    obtain ⟨q1,q2,q3,q4⟩:=ih (k:=k+1) (acc:=acc+b.toNat % 128 * 128 ^ k) (fun x hx=>hB x (by simp [hx])) (by rw [Nat.pow_succ]; omega) h
    exact ⟨q1,by omega,by simp; omega,fun hk=>q4 (by omega)⟩
theorem pow7 (k:Nat):(128:Nat) ^ k=2 ^ (7 * k):=by rw [Nat.pow_mul]
theorem y9i {k a x:Nat} (ha:a<128 ^ k):a ||| x * 128 ^ k=a+x * 128 ^ k:=by
 rw [pow7] at ha ⊢
 rw [Nat.mul_comm,Nat.or_comm,← Nat.two_pow_add_eq_or_of_lt ha,Nat.add_comm]
theorem zre {k:Nat} (h:k≤8):(128:Nat) ^ k≤72057594037927936:=Nat.pow_le_pow_right (by decide) h
theorem zf7 {m:Nat} (h:m<18446744073709551616):(BitVec.ofInt 64 (m:Int)).toNat=m:=by
 rw [BitVec.ofInt_natCast,BitVec.toNat_ofNat]; omega
theorem or64 {k a x:Nat} (hk:k≤8) (ha:a<128 ^ k) (hx:x<128):(BitVec.ofInt 64 (a:Int) ||| BitVec.ofInt 64 ((x * 128 ^ k:Nat):Int)).toNat=a+x * 128 ^ k:=by
 have:=zre hk
 have h2:x * 128 ^ k≤127 * 128 ^ k:=Nat.mul_le_mul_right _ (by omega)
 rw [BitVec.toNat_or,zf7 (by omega),zf7 (by omega),y9i ha]
theorem y65:∀ b:BitVec 8,(b &&& 127#8).toNat=b.toNat % 128:=by decide
theorem y4c {b:Int} (h0:0≤b) (h1:b<256):IntKind.u8.wrap ((BitVec.ofInt IntKind.u8.bits b &&& BitVec.ofInt IntKind.u8.bits 127).toNat:Int)=((b.toNat % 128:Nat):Int):=by
 have h:=y65 (BitVec.ofInt 8 b)
 have e:(BitVec.ofInt IntKind.u8.bits b &&& BitVec.ofInt IntKind.u8.bits 127).toNat=(BitVec.ofInt 8 b &&& 127#8).toNat:=rfl
 rw [e,h]
 have e2:(BitVec.ofInt 8 b).toNat=b.toNat:=by rw [BitVec.toNat_ofInt]; omega
 rw [e2,z8h]; omega
theorem y5v {k x:Nat} (hk:k≤8):((x:Int) * 2 ^ min (7 * k) 64)=((x * 128 ^ k:Nat):Int):=by
 rw [Nat.min_eq_left (by omega),pow7]; simp
theorem zk0 {n:Nat} {S:ByteArray} {p0:Nat} {most:Int} (hS:S.size≤BIG):∀ (l:List Int) (k acc p fuel:Nat),(bytesOf S).drop p=l→p≤S.size→acc<128 ^ k→k≤9→l.length<fuel →
  ∃ sh:Int,iter (zj7 n (S,(p0:Int),most) ()) fuel ((acc:Int),((7 * k:Nat):Int),(p:Int))=some (match numL k acc l with | .inl (v,c)=>.out ((v:Int),sh,((p+(c - k):Nat):Int)) | .inr e=>.ret (e,(p0:Int)))
 | [],k,acc,p,fuel+1,hl,hp,ha,hk,hf=>by
  refine ⟨0,?_⟩
  have:p=S.size:=by
   have:=congrArg List.length hl
   rw [List.length_drop,zl] at this
   simp at this; omega
  subst this
  rw [iter,z8v]
  simp only [beq_self_eq_true,cond_true,numL]
 | b::l,k,acc,p,fuel+1,hl,hp,ha,hk,hf=>by
  have hS':S.size≤4611686018427387904:=hS
  have hlen:=zl S
  have hp2:p<(bytesOf S).length:=by
   have:=congrArg List.length hl
   rw [List.length_drop] at this
   simp at this; omega
  have hbb:(bytesOf S)[p]=b:=by
   rw [List.drop_eq_getElem_cons hp2] at hl
   exact (List.cons.inj hl).1
  have hl2:(bytesOf S).drop (p+1)=l:=by
   rw [List.drop_eq_getElem_cons hp2] at hl
   exact (List.cons.inj hl).2
  have hb:=z1w S b (by rw [← hbb]; exact List.getElem_mem _)
  have e0:((p:Int)==(S.size:Int))=false:=by simp; omega
  have e1:zb S (p:Int)=b:=by rw [z70 hp2,hbb]
  have c0:(bif decide (((7 * k:Nat):Int) > 56) then (some (.inl true)) else (bif decide (((7 * k:Nat):Int) > 0) then (some (.inl (b==0))) else (some (.inl false))):Option (Bool⊕Bo (Yal) (Yal) (Yaa)))=some (.inl (decide (k=9∨(b=0∧0<k)))):=by
   by_cases h9:k=9
   ·subst h9; rfl
   ·have d1:decide (((7 * k:Nat):Int) > 56)=false:=by simp; omega
    rw [d1,cond_false]
    by_cases h0:0<k
    ·have d2:decide (((7 * k:Nat):Int) > 0)=true:=by simp; omega
     rw [d2,cond_true]
     by_cases hb0:b=0 <;> simp [h9,h0,hb0]
    ·have d2:decide (((7 * k:Nat):Int) > 0)=false:=by simp; omega
     rw [d2,cond_false]
     simp [h9,h0]
  simp only [numL]
  by_cases hE:k=9∨(b=0∧0<k)
  ·refine ⟨0,?_⟩
   rw [iter,z8v]
   simp only [e0,cond_false,e1,c0]
   rw [zi (by omega),if_pos hE,decide_eq_true hE]
   rfl
  ·have hk8:k≤8:=by omega
   have eo:(IntKind.u64.wrap ((BitVec.ofInt IntKind.u64.bits (acc:Int) ||| BitVec.ofInt IntKind.u64.bits (IntKind.u64.wrap ((IntKind.u64.wrap (IntKind.u8.wrap ((BitVec.ofInt IntKind.u8.bits b &&& BitVec.ofInt IntKind.u8.bits 127).toNat:Int))) * 2 ^ min ((7 * k:Nat):Int).toNat IntKind.u64.bits))).toNat:Int))=((acc+b.toNat % 128 * 128 ^ k:Nat):Int):=by
    have h8:=zre hk8
    have h2:b.toNat % 128 * 128 ^ k≤127 * 128 ^ k:=Nat.mul_le_mul_right _ (by omega)
    rw [y4c hb.1 hb.2,z1s (m:=((b.toNat % 128:Nat):Int)) (by omega) (by omega),Int.toNat_natCast]
    have e3:(((b.toNat % 128:Nat):Int) * 2 ^ min (7 * k) IntKind.u64.bits)=((b.toNat % 128 * 128 ^ k:Nat):Int):=y5v hk8
    rw [e3,z1s (m:=((b.toNat % 128 * 128 ^ k:Nat):Int)) (by omega) (by omega)]
    have e4:=or64 (k:=k) (a:=acc) (x:=b.toNat % 128) hk8 ha (by omega)
    have e5:(BitVec.ofInt IntKind.u64.bits (acc:Int) ||| BitVec.ofInt IntKind.u64.bits ((b.toNat % 128 * 128 ^ k:Nat):Int)).toNat=acc+b.toNat % 128 * 128 ^ k:=e4
    rw [e5,z1s (by omega) (by omega)]
   rw [if_neg hE]
   by_cases hb1:b<128
   ·refine ⟨((7 * k:Nat):Int),?_⟩
    have d:decide (b<128)=true:=by simp; omega
    have hm:b.toNat % 128=b.toNat:=by omega
    rw [iter,z8v]
    simp only [e0,cond_false,e1,c0,decide_eq_false hE,Option.bind_some,orRet_inl,d,cond_true,eo]
    rw [zi (by omega),zi (by omega),if_pos hb1,z2f (by omega),hm]
    have ep:p+(k+1 - k)=p+1:=by omega
    simp only [ep]
   ·have d:decide (b<128)=false:=by simp; omega
    have h2:b.toNat % 128 * 128 ^ k≤127 * 128 ^ k:=Nat.mul_le_mul_right _ (by omega)
    obtain ⟨sh,hi⟩:=zk0 (n:=n) (S:=S) (p0:=p0) (most:=most) hS l (k+1) (acc+b.toNat % 128 * 128 ^ k) (p+1) fuel hl2 (by omega) (by rw [Nat.pow_succ]; omega) (by omega) (by simp at hf; omega)
    refine ⟨sh,?_⟩
    have e7:IntKind.i64.wrap (((7 * k:Nat):Int)+7)=((7 * (k+1):Nat):Int):=by rw [z3x (by omega) (by omega)]; omega
    rw [iter,z8v]
    simp only [e0,cond_false,e1,c0,decide_eq_false hE,Option.bind_some,orRet_inl,d,eo]
    rw [zi (by omega),zi (by omega),if_neg hb1,z2f (by omega),e7]
    simp only
    rw [hi]
    cases hq:numL (k+1) (acc+b.toNat % 128 * 128 ^ k) l with
    | inr e=>rfl
    | inl r =>
     obtain ⟨v,c⟩:=r
     have:=(zjd (fun x hx=>z1w S x (by rw [← hl2] at hx; exact List.mem_of_mem_drop hx)) (by rw [Nat.pow_succ]; omega) hq).2.1
     simp only
     rw [show p+1+(c - (k+1))=p+(c - k) by omega]
theorem z5v {n:Nat} {S:ByteArray} {p most:Nat} (hn:S.size<n) (hp:p≤S.size) (hS:S.size≤BIG) (hm:most≤ANY):f223 n (S,(p:Int),(most:Int))=some (match numR S p most with | .inl (v,q)=>.inl (v,S,(q:Int)) | .inr e=>.inr e):=by
 have hm':most≤9223372036854775807:=hm
 obtain ⟨sh,h⟩:=zk0 (n:=n) (p0:=p) (most:=most) hS ((bytesOf S).drop p) 0 0 p n rfl hp (by simp) (by omega) (by rw [List.length_drop,zl]; omega)
 rw [y4v]
 rw [show (((7 * 0:Nat):Int))=0 from rfl] at h
 simp only
 refine (congrArg (fun z=>Option.bind z _) h).trans ?_
 unfold numR
 cases hq:numL 0 0 ((bytesOf S).drop p) with
 | inr e=>rfl
 | inl r =>
  obtain ⟨v,c⟩:=r
  obtain ⟨q1,_,_,q4⟩:=zjd (fun x hx=>z1w S x (List.mem_of_mem_drop hx)) (by simp) hq
  have hc:c≤9:=q4 (by omega)
  have:(128:Nat) ^ c≤128 ^ 9:=Nat.pow_le_pow_right (by decide) hc
  have e9:(128:Nat) ^ 9=9223372036854775808:=rfl
  simp only [Option.bind_some,Bo.then]
  rw [z1s (by omega) (by omega)]
  by_cases hv:most<v
  ·have d:decide ((v:Int) > (most:Int))=true:=by simp; omega
   rw [d,cond_true,if_pos hv]
  ·have d:decide ((v:Int) > (most:Int))=false:=by simp; omega
   rw [d,cond_false,if_neg hv,z3x (by omega) (by omega)]
   simp
def oneR (S:ByteArray) (p:Nat) (lo hi:Int):Rd Int:=if S.size - p<1 then .inr (242,(p:Int)) else
 (let b:=zb S (p:Int); if b<lo∨b > hi then .inr (243,(p:Int)) else .inl (b,p+1))
theorem ya8 {S:ByteArray} {p:Nat} (h:¬ S.size - p<1) (hp:p≤S.size):zb (S.extract p (p+1)) 0=zb S (p:Int)∧(S.extract p (p+1)).size=1:=by
 have hl:=zl S
 have hp2:p<(bytesOf S).length:=by omega
 have e:bytesOf (S.extract p (p+1))=[(bytesOf S)[p]]:=by
  rw [z38,List.drop_take]
  rw [List.drop_eq_getElem_cons hp2,show p+1 - p=1 by omega]
  rfl
 have e2:(S.extract p (p+1)).size=1:=by rw [← zl,e]; rfl
 refine ⟨?_,e2⟩
 have:zb (S.extract p (p+1)) ((0:Nat):Int)=(bytesOf (S.extract p (p+1)))[0]'(by rw [e]; simp):=z70 _
 rw [show ((0:Nat):Int)=0 from rfl] at this
 rw [this,z70 hp2]
 simp [e]
theorem ztl (S:ByteArray) (i:Int):0≤zb S i∧zb S i<256:=by
 unfold zb
 have:=(S.data.toList.getD i.toNat 0).toNat_lt
 omega
theorem zeq {n:Nat} {S:ByteArray} {p:Nat} {lo hi:Int} (hp:p≤S.size) (hS:S.size≤BIG):f224 n (S,(p:Int),lo,hi)=some (match oneR S p lo hi with | .inl (b,q)=>.inl (b,S,(q:Int)) | .inr e=>.inr e):=by
 have h1:=zep (n:=n) (k:=1) hp hS (by omega)
 rw [show ((1:Nat):Int)=1 from rfl] at h1
 rw [y4w,h1]
 unfold z4q oneR
 by_cases h:S.size - p<1
 ·simp only [if_pos h]; rfl
 ·obtain ⟨b1,b2⟩:=ya8 h hp
  have hb:=ztl S (p:Int)
  simp only [if_neg h,Option.bind_some,sumE,b1,b2]
  have hw:IntKind.i64.wrap (zb S (p:Int))=zb S (p:Int):=z3x (by omega) (by omega)
  rw [zi (by omega)]
  by_cases hlo:zb S (p:Int)<lo
  ·rw [decide_eq_true hlo,if_pos (.inl hlo)]; rfl
  ·rw [decide_eq_false hlo,cond_false,Option.bind_some,orRet_inl]
   by_cases hhi:zb S (p:Int) > hi
   ·rw [decide_eq_true hhi,if_pos (.inr hhi)]; rfl
   ·rw [decide_eq_false hhi,if_neg (by omega)]
    simp only [cond_false,hw]
def valL (l:List Int):Nat:=l.foldr (fun b a=>b.toNat+256 * a) 0
theorem zgn (b:Int):∀ l:List Int,valL (l++[b])=valL l+b.toNat * 256 ^ l.length
 | []=>by simp [valL]
 | x::l=>by
  have ih:=zgn b l
  simp only [valL,List.cons_append,List.foldr_cons,List.length_cons] at ih ⊢
  rw [ih,Nat.pow_succ,Nat.mul_add,Nat.mul_comm _ 256,← Nat.mul_assoc,← Nat.mul_assoc,Nat.mul_comm b.toNat 256,Nat.add_assoc]
theorem zfj:∀ l:List Int,Byt l→valL l<256 ^ l.length
 | [],_=>by simp [valL]
 | x::l,h=>by
  have ih:=zfj l fun b hb=>h b (by simp [hb])
  have hx:=h x (by simp)
  simp only [valL,List.foldr_cons,List.length_cons,Nat.pow_succ] at ih ⊢
  omega
theorem pow8 (k:Nat):(256:Nat) ^ k=2 ^ (8 * k):=by rw [Nat.pow_mul]
theorem zyi {k:Nat} (h:k≤7):(256:Nat) ^ k≤72057594037927936:=Nat.pow_le_pow_right (by decide) h
theorem orB {k a x:Nat} (hk:k≤7) (ha:a<256 ^ k) (hx:x<256):(BitVec.ofInt 64 (a:Int) ||| BitVec.ofInt 64 ((x * 256 ^ k:Nat):Int)).toNat=a+x * 256 ^ k:=by
 have:=zyi hk
 have h2:x * 256 ^ k≤255 * 256 ^ k:=Nat.mul_le_mul_right _ (by omega)
 rw [BitVec.toNat_or,zf7 (by omega),zf7 (by omega)]
 rw [pow8] at ha ⊢
 rw [Nat.mul_comm,Nat.or_comm,← Nat.two_pow_add_eq_or_of_lt ha,Nat.add_comm]
def valR (S:ByteArray) (p k:Nat):Rd Nat:=match z4q S p k with | .inl (s,q)=>.inl (valL (bytesOf s),q) | .inr e=>.inr e
theorem z5k {S s:ByteArray} {p k q:Nat} (h:z4q S p k = .inl (s,q)) (hp:p≤S.size):s=S.extract p (p+k)∧s.size=k∧q=p+k∧q≤S.size:=by
 unfold z4q at h
 split at h
 ·cases h
 ·cases h
  refine ⟨rfl,?_,rfl,by omega⟩
  rw [← zl,z38,List.length_drop,List.length_take,zl]
  omega
theorem zj9 {n:Nat} {S:ByteArray} {p k:Nat} (hn:20≤n) (hp:p≤S.size) (hS:S.size≤BIG) (hk:k≤8):f225 n (S,(p:Int),(k:Int))=some (match valR S p k with | .inl (v,q)=>.inl ((v:Int),S,(q:Int)) | .inr e=>.inr e):=by
 rw [y4x,zep hp hS (by omega)]
 unfold valR
 cases hq:z4q S p k with
 | inr e=>rfl
 | inl r =>
  obtain ⟨s,q⟩:=r
  obtain ⟨h1,h2,h3,h4⟩:=z5k hq hp
  have hl:=zl s
  simp only [Option.bind_some,sumE]
  have key:∀ (j i fuel:Nat),i+j=(bytesOf s).length→j<fuel→iter (zj8 n (S,(p:Int),(k:Int)) (bytesOf s,((bytesOf s).length:Int),S,(q:Int))) fuel (((valL ((bytesOf s).take i):Nat):Int),(i:Int))=some (.out (((valL (bytesOf s):Nat):Int),((bytesOf s).length:Int))):=by
   intro j
   induction j with
   | zero =>
    intro i fuel hi hf
    obtain ⟨m,rfl⟩:∃ m,fuel=m+1:=⟨fuel - 1,by omega⟩
    obtain rfl:i=(bytesOf s).length:=by omega
    have e:decide (((bytesOf s).length:Int)<((bytesOf s).length:Int))=false:=by simp
    rw [iter,zhm,List.take_length]
    simp only [e,cond_false]
   | succ j ih =>
    intro i fuel hi hf
    obtain ⟨m,rfl⟩:∃ m,fuel=m+1:=⟨fuel - 1,by omega⟩
    have hi2:i<(bytesOf s).length:=by omega
    have hb:=z1w s _ (List.getElem_mem hi2)
    have hv:=zfj ((bytesOf s).take i) fun b hb=>z1w s b (List.mem_of_mem_take hb)
    rw [List.length_take,Nat.min_eq_left (by omega)] at hv
    have hp:=zyi (k:=i) (by omega)
    have hx:(bytesOf s)[i].toNat * 256 ^ i≤255 * 256 ^ i:=Nat.mul_le_mul_right _ (by omega)
    have e:decide ((i:Int)<((bytesOf s).length:Int))=true:=by simp; omega
    have e8:IntKind.i64.wrap (8 * (i:Int))=((8 * i:Nat):Int):=w8 (by omega)
    have e5:IntKind.u64.wrap (bytesOf s)[i]=(((bytesOf s)[i].toNat:Nat):Int):=by rw [z1s (by omega) (by omega)]; omega
    have e9:((((bytesOf s)[i].toNat:Nat):Int) * 2 ^ min ((8 * i:Nat):Int).toNat IntKind.u64.bits)=(((bytesOf s)[i].toNat * 256 ^ i:Nat):Int):=by
     rw [Int.toNat_natCast,show min (8 * i) IntKind.u64.bits=8 * i from Nat.min_eq_left (by show 8 * i≤64; omega),pow8]; simp
    have e6:(BitVec.ofInt IntKind.u64.bits ((valL ((bytesOf s).take i):Nat):Int) ||| BitVec.ofInt IntKind.u64.bits (((bytesOf s)[i].toNat * 256 ^ i:Nat):Int)).toNat=valL ((bytesOf s).take (i+1)):=by
     refine (orB (k:=i) (by omega) hv (by omega)).trans ?_
     rw [List.take_succ_eq_append_getElem hi2,zgn,List.length_take,Nat.min_eq_left (by omega)]
    have hv2:=zfj ((bytesOf s).take (i+1)) fun b hb=>z1w s b (List.mem_of_mem_take hb)
    rw [List.length_take,Nat.min_eq_left (by omega)] at hv2
    have hp2:(256:Nat) ^ (i+1)≤256 ^ 8:=Nat.pow_le_pow_right (by decide) (by omega)
    have hp3:(256:Nat) ^ 8=18446744073709551616:=rfl
    rw [iter,zhm]
    simp only [e,cond_true,zbi hi2,Option.bind_some,e8,e5,e9]
    rw [zi (by omega),z1s (m:=(((bytesOf s)[i].toNat * 256 ^ i:Nat):Int)) (by omega) (by omega),e6,z1s (by omega) (by omega),z2f (by omega)]
    exact ih (i+1) m (by omega) (by omega)
  have h:=key (bytesOf s).length 0 n (by omega) (by omega)
  rw [show ((valL ((bytesOf s).take 0):Nat):Int)=0 from rfl,show ((0:Nat):Int)=0 from rfl] at h
  rw [h]; rfl
def typR (S:ByteArray) (p:Nat):Rd Xb:=match oneR S p 1 3 with
 | .inr e=>.inr e
 | .inl (k,q)=>if k=3 then (match numR S q ANY with | .inr e=>.inr e | .inl (v,r)=>.inl (⟨k,v⟩,r)) else .inl (⟨k,0⟩,q)
theorem z4c {S:ByteArray} {p q:Nat} {lo hi b:Int} (hp:p≤S.size) (h:oneR S p lo hi = .inl (b,q)):q=p+1∧q≤S.size∧b=zb S (p:Int)∧lo≤b∧b≤hi:=by
 unfold oneR at h
 split at h
 ·cases h
 ·simp only at h
  split at h
  ·cases h
  ·cases h
   exact ⟨rfl,by omega,rfl,by omega,by omega⟩
theorem zf9 {S:ByteArray} {p:Nat} {lo hi e a:Int} (h:oneR S p lo hi = .inr (e,a)):e ≠ 0:=by
 unfold oneR at h
 split at h
 ·cases h; decide
 ·simp only at h
  split at h
  ·cases h; decide
  ·cases h
theorem y0c {l:List Int} {e:Int}:∀ {k acc:Nat},numL k acc l = .inr e→e=242∨e=243:=by
 induction l with
 | nil=>intro k acc h; cases h; exact .inl rfl
 | cons b l ih =>
  intro k acc h
  simp only [numL] at h
  split at h
  ·cases h; exact .inr rfl
  ·split at h
   ·cases h
   ·exact ih h
theorem z2m {S:ByteArray} {p q M:Nat} {v:Int} (hp:p≤S.size) (h:numR S p M = .inl (v,q)):p<q∧q≤S.size∧0≤v∧v≤(M:Int)∧v<LIM:=by
 unfold numR at h
 split at h
 ·cases h
 ·rename_i w c hq
  split at h
  ·cases h
  ·cases h
   obtain ⟨q1,q2,q3,q4⟩:=zjd (fun x hx=>z1w S x (List.mem_of_mem_drop hx)) (by simp) hq
   rw [List.length_drop,zl] at q3
   have hc:=q4 (by omega)
   have:(128:Nat) ^ c≤128 ^ 9:=Nat.pow_le_pow_right (by decide) hc
   have e9:(128:Nat) ^ 9=9223372036854775808:=rfl
   refine ⟨by omega,by omega,by omega,by omega,?_⟩
   show (w:Int)<9223372036854775808
   omega
theorem z5x {S:ByteArray} {p M:Nat} {e a:Int} (h:numR S p M = .inr (e,a)):e ≠ 0:=by
 unfold numR at h
 split at h
 ·rename_i e' hq
  cases h
  have:=y0c hq
  omega
 ·split at h
  ·cases h; decide
  ·cases h
theorem zo0 {S:ByteArray} {p k:Nat} {e a:Int} (h:z4q S p k = .inr (e,a)):e ≠ 0:=by
 unfold z4q at h
 split at h
 ·cases h; decide
 ·cases h
theorem zfk {S:ByteArray} {p k:Nat} {e a:Int} (h:valR S p k = .inr (e,a)):e ≠ 0:=by
 unfold valR at h
 split at h
 ·cases h
 ·rename_i e' hq; cases h; exact zo0 hq
theorem zbv {S:ByteArray} {p k q v:Nat} (hp:p≤S.size) (h:valR S p k = .inl (v,q)):q=p+k∧q≤S.size∧v=valL (((bytesOf S).drop p).take k)∧v<256 ^ k:=by
 unfold valR at h
 split at h
 ·rename_i s q' hq
  cases h
  obtain ⟨h1,h2,h3,h4⟩:=z5k hq hp
  refine ⟨h3,h4,?_,?_⟩
  ·rw [h1,z38,List.drop_take,show p+k - p=k by omega]
  ·have:=zfj (bytesOf s) (z1w s)
   rw [zl,h2] at this
   exact this
 ·cases h
theorem z8g {S:ByteArray} {p q:Nat} {t:Xb} (hp:p≤S.size) (h:typR S p = .inl (t,q)):p<q∧q≤S.size∧t.Param_<LIM:=by
 unfold typR at h
 split at h
 ·cases h
 ·rename_i k q1 h1
  obtain ⟨a1,a2,_⟩:=z4c hp h1
  split at h
  ·split at h
   ·cases h
   ·rename_i v r h2
    cases h
    obtain ⟨b1,b2,b3,b4,b5⟩:=z2m a2 h2
    exact ⟨by omega,b2,b5⟩
  ·cases h
   exact ⟨by omega,a2,(by show (0:Int)<9223372036854775808; decide)⟩
theorem zro {S:ByteArray} {p:Nat} {e a:Int} (h:typR S p = .inr (e,a)):e ≠ 0:=by
 unfold typR at h
 split at h
 ·rename_i e' h1; cases h; exact zf9 h1
 ·split at h
  ·split at h
   ·rename_i e' h2; cases h; exact z5x h2
   ·cases h
  ·cases h
theorem zpi {n:Nat} {S:ByteArray} {p:Nat} (hn:S.size<n) (hp:p≤S.size) (hS:S.size≤BIG):f226 n (S,(p:Int))=some (match typR S p with | .inl (t,q)=>.inl (S,(q:Int),t.Kind_,t.Param_) | .inr e=>.inr e):=by
 rw [y4y]
 simp only [zeq (n:=n) (lo:=1) (hi:=3) hp hS]
 unfold typR
 cases h1:oneR S p 1 3 with
 | inr e=>rfl
 | inl r =>
  obtain ⟨k,q⟩:=r
  obtain ⟨a1,a2,_⟩:=z4c hp h1
  simp only [Option.bind_some,sumE]
  by_cases hk:k=3
  ·have e3:(k==3)=true:=by simp [hk]
   have h2:=z5v (n:=n) (most:=ANY) hn a2 hS (Nat.le_refl _)
   rw [show ((ANY:Nat):Int)=9223372036854775807 from rfl] at h2
   rw [e3,cond_true,if_pos hk,h2]
   cases numR S q ANY with
   | inr e=>rfl
   | inl r=>rfl
  ·have e3:(k==3)=false:=by simp [hk]
   rw [e3,cond_false,if_neg hk]; rfl
def putF (i:Xd) (k:Nat) (v:Int):Xd :=
 ⟨bif Nat.beq k 0 then v else i.Op_,bif Nat.beq k 1 then v else i.D_,bif Nat.beq k 2 then v else i.A_,bif Nat.beq k 3 then v else i.B_,bif Nat.beq k 4 then v else i.C_,bif Nat.beq k 5 then v else i.N_,i.Bits_⟩
def z2t (S:ByteArray):List Nat→Nat→Xd→Rd Xd
 | [],p,i=>.inl (i,p)
 | k::ks,p,i=>match numR S p ANY with
  | .inr e=>.inr e
  | .inl (v,q)=>z2t S ks q (putF i k v)
theorem zhu {S:ByteArray} {e a:Int}:∀ {ks:List Nat} {p:Nat} {i:Xd},z2t S ks p i = .inr (e,a)→e ≠ 0
 | [],p,i,h=>nomatch h
 | k::ks,p,i,h=>by
  simp only [z2t] at h
  split at h
  ·rename_i e' h1; cases h; exact z5x h1
  ·exact zhu h
theorem zaf {S:ByteArray}:∀ {ks:List Nat} {p q:Nat} {i j:Xd},(∀ k ∈ ks,1≤k∧k≤5)→p≤S.size→z29 i→z2t S ks p i = .inl (j,q)→p≤q∧q≤S.size∧j.Op_=i.Op_∧j.Bits_=i.Bits_∧z29 j
 | [],p,q,i,j,_,hp,hi,h=>by cases h; exact ⟨Nat.le_refl _,hp,rfl,rfl,hi⟩
 | k::ks,p,q,i,j,hk,hp,hi,h=>by
  simp only [z2t] at h
  split at h
  ·cases h
  ·rename_i v r h1
   obtain ⟨a1,a2,a3,a4,a5⟩:=z2m hp h1
   have hk1:=hk k (by simp)
   have h0:Nat.beq k 0=false:=by cases k with | zero=>omega | succ k=>rfl
   have one:∀ (b:Bool) (w:Int),w<LIM→(bif b then v else w)<LIM:=fun b w hw=>by cases b <;> assumption
   obtain ⟨b1,b2,b3,b4,b5⟩:=zaf (fun k hk'=>hk k (by simp [hk'])) a2 (i:=putF i k v) ⟨one _ _ hi.d,one _ _ hi.a,one _ _ hi.b,one _ _ hi.c,one _ _ hi.n⟩ h
   refine ⟨by omega,b2,?_,b4,b5⟩
   rw [b3]
   show (bif Nat.beq k 0 then v else i.Op_)=i.Op_
   rw [h0,cond_false]
theorem zyh (a b c d e f:Int) {k:Nat} (h:1≤k∧k≤5):∃ w,z39 [some a,some b,some c,some d,some e,some f,none] k=some w:=by
 have:k=1∨k=2∨k=3∨k=4∨k=5:=by omega
 rcases this with rfl | rfl | rfl | rfl | rfl <;> exact ⟨_,rfl⟩
theorem zdq {n:Nat} {S:ByteArray} {x:ByteArray×Int} {v4:Int×List Xa×List Xb×List Xc} {q4:Int×ByteArray×Int×List Xd} {bits:Int} {ks:List Nat} (hks:∀ k ∈ ks,1≤k∧k≤5) (hk5:ks.length≤5) (hn:S.size<n) (hS:S.size≤BIG) :
  ∀ (rest:List Nat) (j p fuel:Nat) (i:Xd),ks.drop j=rest→j≤ks.length→rest.length<fuel→p≤S.size→i.Bits_=bits →
   iter (zja n x v4 q4 (ks,(ks.length:Int),bits)) fuel ((j:Int),S,(p:Int),i.Op_,i.D_,i.A_,i.B_,i.C_,i.N_)=some (match z2t S rest p i with | .inl (i',q)=>.out ((ks.length:Int),S,(q:Int),i'.Op_,i'.D_,i'.A_,i'.B_,i'.C_,i'.N_) | .inr e=>.ret e)
 | [],j,p,fuel+1,i,hj,hj0,hf,hp,hb=>by
  have hj2:ks.length≤j:=List.drop_eq_nil_iff.1 hj
  obtain rfl:j=ks.length:=by omega
  have e:decide ((ks.length:Int)<(ks.length:Int))=false:=by simp
  rw [iter,zhr]
  simp only [e,cond_false,z2t]
 | k::rest,j,p,fuel+1,i,hj,hj0,hf,hp,hb=>by
  have hj2:j<ks.length:=by
   have:=congrArg List.length hj
   rw [List.length_drop] at this
   simp at this; omega
  rw [List.drop_eq_getElem_cons hj2] at hj
  obtain ⟨h1,h2⟩:=List.cons.inj hj
  have hk:=hks k (by rw [← h1]; exact List.getElem_mem _)
  have e:decide ((j:Int)<(ks.length:Int))=true:=by simp; omega
  have hg:ks[(j:Int).toNat]? = some k:=by rw [Int.toNat_natCast,List.getElem?_eq_getElem hj2,h1]
  have hnum:=z5v (n:=n) (most:=ANY) hn hp hS (Nat.le_refl _)
  rw [show ((ANY:Nat):Int)=9223372036854775807 from rfl] at hnum
  obtain ⟨w,hw⟩:=zyh i.Op_ i.D_ i.A_ i.B_ i.C_ i.N_ hk
  rw [iter,zhr]
  simp only [e,cond_true,hg,Option.bind_some,hnum,z2t]
  rw [zi (by omega)]
  cases hq:numR S p ANY with
  | inr e=>rfl
  | inl r =>
   obtain ⟨v,q⟩:=r
   obtain ⟨a1,a2,_⟩:=z2m hp hq
   simp only [Option.bind_some,sumE,hw,z2f (show j<9223372036854775806 by omega)]
   exact zdq hks hk5 hn hS rest (j+1) q fuel (putF i k v) h2 (by omega) (by simp at hf; omega) a2 hb
def z4o (S:ByteArray) (p:Nat):Rd Xd:=match oneR S p 1 37 with
 | .inr e=>.inr e
 | .inl (op,q)=>match z2t S (off op) q ⟨op,0,0,0,0,0,0⟩ with
  | .inr e=>.inr e
  | .inl (i,r)=>if i.Op_=1 then (match valR S r 4 with | .inr e=>.inr e | .inl (v,t)=>.inl (⟨i.Op_,i.D_,i.A_,i.B_,i.C_,i.N_,IntKind.u32.wrap v⟩,t)) else .inl (i,r)
theorem y05 {S:ByteArray} {p:Nat} {e a:Int} (h:z4o S p = .inr (e,a)):e ≠ 0:=by
 unfold z4o at h
 split at h
 ·rename_i e' h1; cases h; exact zf9 h1
 ·split at h
  ·rename_i e' h1; cases h; exact zhu h1
  ·split at h
   ·split at h
    ·rename_i e' h1; cases h; exact zfk h1
    ·cases h
   ·cases h
theorem zor (op:Int):z29 ⟨op,0,0,0,0,0,0⟩:=by
 have h:(0:Int)<9223372036854775808:=by decide
 exact ⟨h,h,h,h,h⟩
theorem zz2 (v:Int):0≤IntKind.u32.wrap v∧IntKind.u32.wrap v<4294967296:=by
 have:IntKind.u32.wrap v=v % 4294967296:=by simp [IntKind.wrap,IntKind.bits,IntKind.signed]
 omega
theorem zbk {S:ByteArray} {p q:Nat} {i:Xd} (hp:p≤S.size) (h:z4o S p = .inl (i,q)):p<q∧q≤S.size∧z29 i∧0≤i.Bits_∧i.Bits_<4294967296:=by
 unfold z4o at h
 split at h
 ·cases h
 ·rename_i op q1 h1
  obtain ⟨a1,a2,_⟩:=z4c hp h1
  split at h
  ·cases h
  ·rename_i j r h2
   obtain ⟨b1,b2,b3,b4,b5⟩:=zaf (z9u op) a2 (zor op) h2
   split at h
   ·split at h
    ·cases h
    ·rename_i v t h3
     cases h
     obtain ⟨c1,c2,_⟩:=zbv b2 h3
     exact ⟨by omega,c2,⟨b5.d,b5.a,b5.b,b5.c,b5.n⟩,zz2 _⟩
   ·cases h
    rw [b4]
    exact ⟨by omega,b2,b5,Int.le_refl 0,(by show (0:Int)<4294967296; decide)⟩
def z4t (S:ByteArray) (p:Nat):Rd Xc:=match oneR S p 0 1 with
 | .inr e=>.inr e
 | .inl (k,q)=>match typR S q with
  | .inr e=>.inr e
  | .inl (t,r)=>if t.Kind_=2 then (match numR S r ANY with | .inr e=>.inr e | .inl (v,u)=>.inl (⟨t,k==1,0,v⟩,u)) else (match valR S r 4 with | .inr e=>.inr e | .inl (v,u)=>.inl (⟨t,k==1,IntKind.u32.wrap v,0⟩,u))
theorem y0n {S:ByteArray} {p:Nat} {e a:Int} (h:z4t S p = .inr (e,a)):e ≠ 0:=by
 unfold z4t at h
 split at h
 ·rename_i e' h1; cases h; exact zf9 h1
 ·split at h
  ·rename_i e' h1; cases h; exact zro h1
  ·split at h
   ·split at h
    ·rename_i e' h1; cases h; exact z5x h1
    ·cases h
   ·split at h
    ·rename_i e' h1; cases h; exact zfk h1
    ·cases h
theorem z9e {S:ByteArray} {p q:Nat} {x:Xc} (hp:p≤S.size) (h:z4t S p = .inl (x,q)):p<q∧q≤S.size∧zgt x∧0≤x.Bits_∧x.Bits_<4294967296:=by
 have z:(0:Int)<9223372036854775808:=by decide
 have z2:(0:Int)<4294967296:=by decide
 unfold z4t at h
 split at h
 ·cases h
 ·rename_i k q1 h1
  obtain ⟨a1,a2,_⟩:=z4c hp h1
  split at h
  ·cases h
  ·rename_i t r h2
   obtain ⟨b1,b2,b3⟩:=z8g a2 h2
   split at h
   ·split at h
    ·cases h
    ·rename_i v u h3
     cases h
     obtain ⟨c1,c2,c3,c4,c5⟩:=z2m b2 h3
     exact ⟨by omega,c2,⟨b3,c5⟩,Int.le_refl 0,z2⟩
   ·split at h
    ·cases h
    ·rename_i v u h3
     cases h
     obtain ⟨c1,c2,_⟩:=zbv b2 h3
     exact ⟨by omega,c2,⟨b3,z⟩,zz2 _⟩
def parR (S:ByteArray) (p:Nat):Rd Xa:=match oneR S p 1 2 with
 | .inr e=>.inr e
 | .inl (k,q)=>match numR S q 64 with
  | .inr e=>.inr e
  | .inl (m,r)=>match z4q S r m.toNat with
   | .inr e=>.inr e
   | .inl (s,t)=>match numR S t ANY with
    | .inr e=>.inr e
    | .inl (v,u)=>.inl (⟨s,k,v⟩,u)
theorem y5j {S:ByteArray} {p:Nat} {e a:Int} (h:parR S p = .inr (e,a)):e ≠ 0:=by
 unfold parR at h
 split at h
 ·rename_i e' h1; cases h; exact zf9 h1
 ·split at h
  ·rename_i e' h1; cases h; exact z5x h1
  ·split at h
   ·rename_i e' h1; cases h; exact zo0 h1
   ·split at h
    ·rename_i e' h1; cases h; exact z5x h1
    ·cases h
theorem zdy {S:ByteArray} {p q:Nat} {x:Xa} (hp:p≤S.size) (h:parR S p = .inl (x,q)):p<q∧q≤S.size∧zlh x:=by
 unfold parR at h
 split at h
 ·cases h
 ·rename_i k q1 h1
  obtain ⟨a1,a2,_⟩:=z4c hp h1
  split at h
  ·cases h
  ·rename_i m r h2
   obtain ⟨b1,b2,b3,b4,_⟩:=z2m a2 h2
   split at h
   ·cases h
   ·rename_i s t h3
    obtain ⟨c1,c2,c3,c4⟩:=z5k h3 b2
    split at h
    ·cases h
    ·rename_i v u h4
     cases h
     obtain ⟨d1,d2,d3,d4,d5⟩:=z2m c4 h4
     exact ⟨by omega,d2,⟨by show s.size≤64; omega,d5⟩⟩
def z1v {α:Type} (f:Nat→Rd α):Nat→Nat→Rd (List α)
 | 0,p=>.inl ([],p)
 | k+1,p=>match f p with
  | .inr e=>.inr e
  | .inl (x,q)=>match z1v f k q with
   | .inr e=>.inr e
   | .inl (xs,r)=>.inl (x::xs,r)
theorem z9q {α:Type} {f:Nat→Rd α} (hf:∀ {p e a},f p = .inr (e,a)→e ≠ 0) {e a:Int}:∀ {k p:Nat},z1v f k p = .inr (e,a)→e ≠ 0
 | 0,p,h=>nomatch h
 | k+1,p,h=>by
  simp only [z1v] at h
  split at h
  ·rename_i e' h1; cases h; exact hf h1
  ·split at h
   ·rename_i e' h1; cases h; exact z9q hf h1
   ·cases h
theorem z3o {α:Type} {f:Nat→Rd α} {S:ByteArray} {Q:α→Prop} (hf:∀ {p q x},p≤S.size→f p = .inl (x,q)→q≤S.size∧Q x):∀ {k p q:Nat} {xs:List α},p≤S.size→z1v f k p = .inl (xs,q)→q≤S.size∧xs.length=k∧∀ x ∈ xs,Q x
 | 0,p,q,xs,hp,h=>by cases h; exact ⟨hp,rfl,fun _ h=>nomatch h⟩
 | k+1,p,q,xs,hp,h=>by
  simp only [z1v] at h
  split at h
  ·cases h
  ·rename_i x q1 h1
   obtain ⟨a1,a2⟩:=hf hp h1
   split at h
   ·cases h
   ·rename_i ys r h2
    cases h
    obtain ⟨b1,b2,b3⟩:=z3o hf a1 h2
    refine ⟨b1,by simp [b2],fun y hy=>?_⟩
    rcases List.mem_cons.1 hy with rfl | hy
    ·exact a2
    ·exact b3 y hy
theorem zi9 {α:Type} {S:ByteArray} {f:Nat→Rd α} {N:Nat} {body:Int×ByteArray×Int×List α→Option (Bo (Int×ByteArray×Int×List α) (Int×ByteArray×Int×List α) (Yaa))} (hf:∀ {p q x},p≤S.size→f p = .inl (x,q)→q≤S.size)
  (hgo:∀ (i p:Nat) (acc:List α),i<N→p≤S.size→acc.length=i→body ((i:Int),S,(p:Int),acc)=some (match f p with | .inl (x,q)=>.go (((i+1:Nat):Int),S,(q:Int),acc++[x]) | .inr e=>.ret e)) (hend:∀ (p:Int) (acc:List α),body ((N:Int),S,p,acc)=some (.out ((N:Int),S,p,acc))) :
  ∀ (k i p fuel:Nat) (acc:List α),i+k=N→k<fuel→p≤S.size→acc.length=i→iter body fuel ((i:Int),S,(p:Int),acc)=some (match z1v f k p with | .inl (xs,q)=>.out ((N:Int),S,(q:Int),acc++xs) | .inr e=>.ret e)
 | 0,i,p,fuel+1,acc,h,hf',hp,ha=>by
  obtain rfl:i=N:=by omega
  rw [iter,hend]
  simp only [z1v,List.append_nil]
 | k+1,i,p,fuel+1,acc,h,hf',hp,ha=>by
  rw [iter,hgo i p acc (by omega) hp ha]
  simp only [z1v]
  cases hq:f p with
  | inr e=>rfl
  | inl r =>
   obtain ⟨x,q⟩:=r
   simp only
   rw [zi9 hf hgo hend k (i+1) q fuel (acc++[x]) (by omega) (by omega) (hf hp hq) (by simp; omega)]
   cases z1v f k q with
   | inr e=>rfl
   | inl r=>simp
section
variable {n:Nat} {S:ByteArray} {x:ByteArray×Int}
theorem zte:((ANY:Nat):Int)=9223372036854775807:=rfl
theorem y71 (hn:S.size<n) (hS:S.size≤BIG) {N:Nat} (hN:N≤100000):∀ {p:Nat},p≤S.size→N<n→iter (zer n x (N:Int)) n ((0:Int),S,(p:Int),([]:List Xa))=some (match z1v (parR S) N p with | .inl (xs,q)=>.out ((N:Int),S,(q:Int),xs) | .inr e=>.ret e):=by
 intro p hp hNn
 have:=zi9 (S:=S) (f:=parR S) (N:=N) (body:=zer n x (N:Int)) (fun hp h=>(zdy hp h).2.1) (fun i p acc hi hp ha=>by
  rw [zhn]
  have e:decide ((i:Int)<(N:Int))=true:=by simp; omega
  simp only [e,cond_true,zeq (n:=n) (lo:=1) (hi:=2) hp hS,parR]
  cases h1:oneR S p 1 2 with
  | inr e=>rfl
  | inl r =>
   obtain ⟨k,q⟩:=r
   obtain ⟨a1,a2,_⟩:=z4c hp h1
   have h2:=z5v (n:=n) (most:=64) hn a2 hS (by decide)
   rw [show ((64:Nat):Int)=64 from rfl] at h2
   simp only [Option.bind_some,sumE,h2]
   cases h3:numR S q 64 with
   | inr e=>rfl
   | inl r =>
    obtain ⟨m,r⟩:=r
    obtain ⟨b1,b2,b3,b4,_⟩:=z2m a2 h3
    have h4:=zep (n:=n) (k:=m.toNat) b2 hS (by omega)
    rw [show ((m.toNat:Nat):Int)=m by omega] at h4
    simp only [Option.bind_some,sumE,h4]
    cases h5:z4q S r m.toNat with
    | inr e=>rfl
    | inl w =>
     obtain ⟨s,t⟩:=w
     obtain ⟨c1,c2,c3,c4⟩:=z5k h5 b2
     have h6:=z5v (n:=n) (most:=ANY) hn c4 hS (Nat.le_refl _)
     rw [zte] at h6
     simp only [Option.bind_some,sumE,h6]
     cases h7:numR S t ANY with
     | inr e=>rfl
     | inl w =>
      obtain ⟨v,u⟩:=w
      simp only [Option.bind_some,sumE]
      rw [zi (by simp; omega),z2f (by omega)]) (fun p acc=>by
  rw [zhn]
  have e:decide ((N:Int)<(N:Int))=false:=by simp
  simp only [e,cond_false]) N 0 p n [] (by omega) hNn hp rfl
 simp only [List.nil_append] at this
 rw [show ((0:Nat):Int)=0 from rfl] at this
 refine this.trans ?_
 cases z1v (parR S) N p <;> rfl
theorem y70 (hn:S.size<n) (hS:S.size≤BIG) {N:Nat} (hN:N≤100000) {l1:List Xa}:∀ {p:Nat},p≤S.size→N<n→iter (zes n x ((N:Int),l1)) n ((0:Int),S,(p:Int),([]:List Xb))=some (match z1v (typR S) N p with | .inl (xs,q)=>.out ((N:Int),S,(q:Int),xs) | .inr e=>.ret e):=by
 intro p hp hNn
 have:=zi9 (S:=S) (f:=typR S) (N:=N) (body:=zes n x ((N:Int),l1)) (fun hp h=>(z8g hp h).2.1) (fun i p acc hi hp ha=>by
  rw [zho]
  have e:decide ((i:Int)<(N:Int))=true:=by simp; omega
  simp only [e,cond_true,zpi (n:=n) hn hp hS]
  cases h1:typR S p with
  | inr e =>
   simp only [Option.bind_some,sumE,zrn]
  | inl r =>
   obtain ⟨t,q⟩:=r
   simp only [Option.bind_some,sumE,zrn]
   rw [zi (by simp; omega),z2f (by omega)]) (fun p acc=>by
  rw [zho]
  have e:decide ((N:Int)<(N:Int))=false:=by simp
  simp only [e,cond_false]) N 0 p n [] (by omega) hNn hp rfl
 simp only [List.nil_append] at this
 rw [show ((0:Nat):Int)=0 from rfl] at this
 refine this.trans ?_
 cases z1v (typR S) N p <;> rfl
theorem y6z (hn:S.size+20<n) (hS:S.size≤BIG) {N:Nat} (hN:N≤100000) {l1:List Xa} {l2:List Xb}:∀ {p:Nat},p≤S.size→N<n→iter (zet n x ((N:Int),l1,l2)) n ((0:Int),S,(p:Int),([]:List Xc))=some (match z1v (z4t S) N p with | .inl (xs,q)=>.out ((N:Int),S,(q:Int),xs) | .inr e=>.ret e):=by
 intro p hp hNn
 have:=zi9 (S:=S) (f:=z4t S) (N:=N) (body:=zet n x ((N:Int),l1,l2)) (fun hp h=>(z9e hp h).2.1) (fun i p acc hi hp ha=>by
  rw [zhp]
  have e:decide ((i:Int)<(N:Int))=true:=by simp; omega
  simp only [e,cond_true,zeq (n:=n) (lo:=0) (hi:=1) hp hS,z4t]
  cases h1:oneR S p 0 1 with
  | inr e=>rfl
  | inl r =>
   obtain ⟨k,q⟩:=r
   obtain ⟨a1,a2,_⟩:=z4c hp h1
   simp only [Option.bind_some,sumE,zpi (n:=n) (by omega) a2 hS]
   cases h2:typR S q with
   | inr e=>rfl
   | inl r =>
    obtain ⟨t,r⟩:=r
    obtain ⟨b1,b2,_⟩:=z8g a2 h2
    simp only [Option.bind_some,sumE]
    by_cases hk:t.Kind_=2
    ·have e2:(t.Kind_==2)=true:=by simp [hk]
     have h3:=z5v (n:=n) (most:=ANY) (by omega) b2 hS (Nat.le_refl _)
     rw [zte] at h3
     simp only [e2,cond_true,if_pos hk,h3]
     cases numR S r ANY with
     | inr e=>rfl
     | inl w =>
      obtain ⟨v,u⟩:=w
      simp only [Option.bind_some,sumE,orRet_inl]
      rw [zi (by simp; omega),z2f (by omega)]
    ·have e2:(t.Kind_==2)=false:=by simp [hk]
     have h3:=zj9 (n:=n) (k:=4) (by omega) b2 hS (by omega)
     rw [show ((4:Nat):Int)=4 from rfl] at h3
     simp only [e2,cond_false,if_neg hk,h3]
     cases valR S r 4 with
     | inr e=>rfl
     | inl w =>
      obtain ⟨v,u⟩:=w
      simp only [Option.bind_some,sumE,orRet_inl]
      rw [zi (by simp; omega),z2f (by omega)]) (fun p acc=>by
  rw [zhp]
  have e:decide ((N:Int)<(N:Int))=false:=by simp
  simp only [e,cond_false]) N 0 p n [] (by omega) hNn hp rfl
 simp only [List.nil_append] at this
 rw [show ((0:Nat):Int)=0 from rfl] at this
 refine this.trans ?_
 cases z1v (z4t S) N p <;> rfl
theorem y6y (hn:S.size+20<n) (hS:S.size≤BIG) {N:Nat} (hN:N≤100000) {l1:List Xa} {l2:List Xb} {l3:List Xc}:∀ {p:Nat},p≤S.size→N<n→iter (zeu n x ((N:Int),l1,l2,l3)) n ((0:Int),S,(p:Int),([]:List Xd))=some (match z1v (z4o S) N p with | .inl (xs,q)=>.out ((N:Int),S,(q:Int),xs) | .inr e=>.ret e):=by
 intro p hp hNn
 have:=zi9 (S:=S) (f:=z4o S) (N:=N) (body:=zeu n x ((N:Int),l1,l2,l3)) (fun hp h=>(zbk hp h).2.1) (fun i p acc hi hp ha=>by
  rw [zhq]
  have e:decide ((i:Int)<(N:Int))=true:=by simp; omega
  have e220:∀ y,f220 n y=some (off y.1,y):=fun y=>by
   obtain ⟨m,rfl⟩:∃ m,n=m+4:=⟨n - 4,by omega⟩
   exact zph m y
  simp only [e,cond_true,zeq (n:=n) (lo:=1) (hi:=37) hp hS,z4o]
  cases h1:oneR S p 1 37 with
  | inr e=>rfl
  | inl r =>
   obtain ⟨op,q⟩:=r
   obtain ⟨a1,a2,_⟩:=z4c hp h1
   simp only [Option.bind_some,sumE,e220]
   have h2:=zdq (n:=n) (S:=S) (x:=x) (v4:=((N:Int),l1,l2,l3)) (q4:=((i:Int),S,(p:Int),acc)) (bits:=0) (ks:=off op) (z9u op) (zf8 op) (by omega) hS (off op) 0 q n ⟨op,0,0,0,0,0,0⟩ rfl (by omega) (by have:=zf8 op; omega) a2 rfl
   rw [show ((0:Nat):Int)=0 from rfl] at h2
   simp only [h2]
   cases h3:z2t S (off op) q ⟨op,0,0,0,0,0,0⟩ with
   | inr e=>rfl
   | inl r =>
    obtain ⟨j,r⟩:=r
    obtain ⟨b1,b2,b3,b4,b5⟩:=zaf (z9u op) a2 (zor op) h3
    simp only [Option.bind_some,Bo.then]
    by_cases hk:j.Op_=1
    ·have e2:(j.Op_==1)=true:=by simp [hk]
     have h4:=zj9 (n:=n) (k:=4) (by omega) b2 hS (by omega)
     rw [show ((4:Nat):Int)=4 from rfl] at h4
     simp only [e2,cond_true,if_pos hk,h4]
     cases valR S r 4 with
     | inr e=>rfl
     | inl w =>
      obtain ⟨v,u⟩:=w
      simp only [Option.bind_some,sumE,orRet_inl]
      rw [zi (by simp; omega),z2f (by omega)]
    ·have e2:(j.Op_==1)=false:=by simp [hk]
     have b4':j.Bits_=0:=b4
     simp only [e2,cond_false,if_neg hk,Option.bind_some,orRet_inl]
     rw [zi (by simp; omega),z2f (by omega),← b4']) (fun p acc=>by
  rw [zhq]
  have e:decide ((N:Int)<(N:Int))=false:=by simp
  simp only [e,cond_false]) N 0 p n [] (by omega) hNn hp rfl
 simp only [List.nil_append] at this
 rw [show ((0:Nat):Int)=0 from rfl] at this
 refine this.trans ?_
 cases z1v (z4o S) N p <;> rfl
end
section
variable {n:Nat} {S:ByteArray}
end
def z5s (S:ByteArray) (p:Nat):Rd Xe:=match numR S p 64 with
 | .inr e=>.inr e
 | .inl (n1,p1)=>match z1v (parR S) n1.toNat p1 with
  | .inr e=>.inr e
  | .inl (l1,q1)=>match numR S q1 16384 with
   | .inr e=>.inr e
   | .inl (n2,p2)=>match z1v (typR S) n2.toNat p2 with
    | .inr e=>.inr e
    | .inl (l2,q2)=>match numR S q2 4096 with
     | .inr e=>.inr e
     | .inl (n3,p3)=>match z1v (z4t S) n3.toNat p3 with
      | .inr e=>.inr e
      | .inl (l3,q3)=>match numR S q3 32768 with
       | .inr e=>.inr e
       | .inl (n4,p4)=>match z1v (z4o S) n4.toNat p4 with
        | .inr e=>.inr e
        | .inl (l4,q4)=>.inl (⟨l1,l2,l3,l4⟩,q4)
theorem y50 {n:Nat} {S:ByteArray} {p:Nat} (hn:S.size+100000<n) (hp:p≤S.size) (hS:S.size≤BIG):f227 n (S,(p:Int))=some (match z5s S p with | .inl (c,q)=>.inl (S,(q:Int),c.Sign_,c.Regs_,c.Slots_,c.List_) | .inr e=>.inr e):=by
 rw [y4z]
 unfold z5s
 have h1:=z5v (n:=n) (most:=64) (by omega) hp hS (by decide)
 rw [show ((64:Nat):Int)=64 from rfl] at h1
 simp only [h1]
 cases k1:numR S p 64 with
 | inr e=>rfl
 | inl r =>
  obtain ⟨n1,p1⟩:=r
  obtain ⟨a1,a2,a3,a4,_⟩:=z2m hp k1
  have h2:=y71 (n:=n) (x:=(S,(p:Int))) (by omega) hS (N:=n1.toNat) (by omega) a2 (by omega)
  rw [show ((n1.toNat:Nat):Int)=n1 by omega] at h2
  simp only [Option.bind_some,sumE,h2]
  cases k2:z1v (parR S) n1.toNat p1 with
  | inr e=>rfl
  | inl r =>
   obtain ⟨l1,q1⟩:=r
   obtain ⟨b1,_⟩:=z3o (Q:=fun _=>True) (fun hp h=>⟨(zdy hp h).2.1,trivial⟩) a2 k2
   have h3:=z5v (n:=n) (most:=16384) (by omega) b1 hS (by decide)
   rw [show ((16384:Nat):Int)=16384 from rfl] at h3
   simp only [Option.bind_some,Bo.then,h3]
   cases k3:numR S q1 16384 with
   | inr e=>rfl
   | inl r =>
    obtain ⟨n2,p2⟩:=r
    obtain ⟨c1,c2,c3,c4,_⟩:=z2m b1 k3
    have h4:=y70 (n:=n) (x:=(S,(p:Int))) (by omega) hS (N:=n2.toNat) (by omega) (l1:=l1) c2 (by omega)
    rw [show ((n2.toNat:Nat):Int)=n2 by omega] at h4
    simp only [Option.bind_some,sumE,h4]
    cases k4:z1v (typR S) n2.toNat p2 with
    | inr e=>rfl
    | inl r =>
     obtain ⟨l2,q2⟩:=r
     obtain ⟨d1,_⟩:=z3o (Q:=fun _=>True) (fun hp h=>⟨(z8g hp h).2.1,trivial⟩) c2 k4
     have h5:=z5v (n:=n) (most:=4096) (by omega) d1 hS (by decide)
     rw [show ((4096:Nat):Int)=4096 from rfl] at h5
     simp only [Option.bind_some,Bo.then,h5]
     cases k5:numR S q2 4096 with
     | inr e=>rfl
     | inl r =>
      obtain ⟨n3,p3⟩:=r
      obtain ⟨e1,e2,e3,e4,_⟩:=z2m d1 k5
      have h6:=y6z (n:=n) (x:=(S,(p:Int))) (by omega) hS (N:=n3.toNat) (by omega) (l1:=l1) (l2:=l2) e2 (by omega)
      rw [show ((n3.toNat:Nat):Int)=n3 by omega] at h6
      simp only [Option.bind_some,sumE,h6]
      cases k6:z1v (z4t S) n3.toNat p3 with
      | inr e=>rfl
      | inl r =>
       obtain ⟨l3,q3⟩:=r
       obtain ⟨ff1,_⟩:=z3o (Q:=fun _=>True) (fun hp h=>⟨(z9e hp h).2.1,trivial⟩) e2 k6
       have h7:=z5v (n:=n) (most:=32768) (by omega) ff1 hS (by decide)
       rw [show ((32768:Nat):Int)=32768 from rfl] at h7
       simp only [Option.bind_some,Bo.then,h7]
       cases k7:numR S q3 32768 with
       | inr e=>rfl
       | inl r =>
        obtain ⟨n4,p4⟩:=r
        obtain ⟨g1,g2,g3,g4,_⟩:=z2m ff1 k7
        have h8:=y6y (n:=n) (x:=(S,(p:Int))) (by omega) hS (N:=n4.toNat) (by omega) (l1:=l1) (l2:=l2) (l3:=l3) g2 (by omega)
        rw [show ((n4.toNat:Nat):Int)=n4 by omega] at h8
        simp only [Option.bind_some,sumE,h8]
        cases k8:z1v (z4o S) n4.toNat p4 with
        | inr e=>rfl
        | inl r=>rfl
theorem zpa {S:ByteArray} {p q:Nat} {c:Xe} (hp:p≤S.size) (h:z5s S p = .inl (c,q)):q≤S.size∧U32s c∧(∀ i ∈ c.List_,z29 i)∧c.Sign_.length≤64∧c.Regs_.length≤16384∧c.Slots_.length≤4096∧c.List_.length≤32768:=by
 unfold z5s at h
 split at h
 ·cases h
 ·rename_i n1 p1 k1
  obtain ⟨a1,a2,a3,a4,_⟩:=z2m hp k1
  split at h
  ·cases h
  ·rename_i l1 q1 k2
   obtain ⟨b1,b2,_⟩:=z3o (Q:=fun _=>True) (fun hp h=>⟨(zdy hp h).2.1,trivial⟩) a2 k2
   split at h
   ·cases h
   ·rename_i n2 p2 k3
    obtain ⟨c1,c2,c3,c4,_⟩:=z2m b1 k3
    split at h
    ·cases h
    ·rename_i l2 q2 k4
     obtain ⟨d1,d2,_⟩:=z3o (Q:=fun _=>True) (fun hp h=>⟨(z8g hp h).2.1,trivial⟩) c2 k4
     split at h
     ·cases h
     ·rename_i n3 p3 k5
      obtain ⟨e1,e2,e3,e4,_⟩:=z2m d1 k5
      split at h
      ·cases h
      ·rename_i l3 q3 k6
       obtain ⟨ff1,ff2,ff3⟩:=z3o (Q:=fun x:Xc=>0≤x.Bits_∧x.Bits_<4294967296) (fun hp h=>⟨(z9e hp h).2.1,(z9e hp h).2.2.2⟩) e2 k6
       split at h
       ·cases h
       ·rename_i n4 p4 k7
        obtain ⟨g1,g2,g3,g4,_⟩:=z2m ff1 k7
        split at h
        ·cases h
        ·rename_i l4 q4 k8
         obtain ⟨i1,i2,i3⟩:=z3o (Q:=fun x:Xd=>z29 x∧0≤x.Bits_∧x.Bits_<4294967296) (fun hp h=>⟨(zbk hp h).2.1,(zbk hp h).2.2⟩) g2 k8
         cases h
         refine ⟨i1,⟨ff3,fun i hi=>(i3 i hi).2⟩,fun i hi=>(i3 i hi).1,?_,?_,?_,?_⟩
         ·show l1.length≤64; omega
         ·show l2.length≤16384; omega
         ·show l3.length≤4096; omega
         ·show l4.length≤32768; omega
theorem zm9 {S:ByteArray} {p:Nat} {e a:Int} (h:z5s S p = .inr (e,a)):e ≠ 0:=by
 unfold z5s at h
 split at h
 ·rename_i e' k; cases h; exact z5x k
 ·split at h
  ·rename_i e' k; cases h; exact z9q (fun h=>y5j h) k
  ·split at h
   ·rename_i e' k; cases h; exact z5x k
   ·split at h
    ·rename_i e' k; cases h; exact z9q (fun h=>zro h) k
    ·split at h
     ·rename_i e' k; cases h; exact z5x k
     ·split at h
      ·rename_i e' k; cases h; exact z9q (fun h=>y0n h) k
      ·split at h
       ·rename_i e' k; cases h; exact z5x k
       ·split at h
        ·rename_i e' k; cases h; exact z9q (fun h=>y05 h) k
        ·cases h
abbrev y0v:=Int×Int×List Xa×List Xb×List Xc×List Xd
def no24 (e a:Int):y0v:=(e,a,[],[],[],[])
abbrev mn4 (S:ByteArray):Int:=if (4:Int)<(S.size:Int) then (4:Int) else (S.size:Int)
def z7g (S:ByteArray):Bool:=!((S.extract 0 (mn4 S).toNat)==((⟨#[108,116,104,49]⟩:ByteArray).extract 0 (mn4 S).toNat))
def decR (S:ByteArray):y0v :=
 if z7g S=true then no24 240 0 else if S.size<4 then no24 242 0 else match z5s S 4 with
  | .inr (e,a)=>no24 e a
  | .inl (c,p)=>match valR S p 8 with
   | .inr (e,a)=>no24 e a
   | .inl (v,q)=>if (v:Int) ≠ crcL ((bytesOf S).take p) then no24 241 p else if q<S.size then no24 244 q else
    if (chk c).1 ≠ 0 then no24 (chk c).1 0 else (0,0,c.Sign_,c.Regs_,c.Slots_,c.List_)
theorem y9e (S:ByteArray):0≤mn4 S∧mn4 S≤(S.size:Int)∧mn4 S≤4:=by
 unfold mn4
 split <;> omega
theorem z7j {S:ByteArray} {p:Nat}:bytesOf (S.extract 0 p)=(bytesOf S).take p:=by rw [z38,List.drop_zero]
theorem zpj {n:Nat} {S:ByteArray} (hn:S.size+10000000<n) (hS:S.size≤BIG):f228 n S=some (decR S):=by
 obtain ⟨m1,m2,m3⟩:=y9e S
 have hS':S.size≤4611686018427387904:=hS
 rw [y51,y52,zi ⟨m1,m2⟩,zi (by refine ⟨m1,?_⟩; show mn4 S≤((4:Nat):Int); omega)]
 show (Option.bind (bif z7g S then _ else _) _)=_
 unfold decR
 cases hb:z7g S with
 | true=>rfl
 | false =>
  simp only [cond_false]
  have h1:=zep (n:=n) (S:=S) (p:=0) (k:=4) (by omega) hS (by omega)
  rw [show ((4:Nat):Int)=4 from rfl,show ((0:Nat):Int)=0 from rfl] at h1
  simp only [h1]
  unfold z4q
  by_cases h4:S.size<4
  ·rw [if_pos (show S.size - 0<4 by omega)]
   simp only [if_pos h4]
   rfl
  ·rw [if_neg (show ¬ S.size - 0<4 by omega)]
   simp only [if_neg h4,Option.bind_some,sumE,Bool.false_eq_true,if_false]
   have h2:=y50 (n:=n) (S:=S) (p:=4) (by omega) (by omega) hS
   simp only [Nat.zero_add,h2]
   cases hc:z5s S 4 with
   | inr e =>
    obtain ⟨e,a⟩:=e
    have he:(e != 0)=true:=by simpa using zm9 hc
    simp only [Option.bind_some,sumE,he,cond_true]
    rfl
   | inl r =>
    obtain ⟨c,p⟩:=r
    obtain ⟨c1,c2,c3,c4,c5,c6,c7⟩:=zpa (by omega) hc
    have h3:=zj9 (n:=n) (S:=S) (p:=p) (k:=8) (by omega) c1 hS (by omega)
    rw [show ((8:Nat):Int)=8 from rfl] at h3
    simp only [Option.bind_some,sumE,h3]
    cases hv:valR S p 8 with
    | inr e =>
     obtain ⟨e,a⟩:=e
     have he:(e != 0)=true:=by simpa using zfk hv
     simp only [Option.bind_some,sumE,he,cond_true]
     rfl
    | inl r =>
     obtain ⟨v,q⟩:=r
     obtain ⟨d1,d2,d3,d4⟩:=zbv c1 hv
     simp only [Option.bind_some,sumE,Int.toNat_natCast]
     have hsz:(S.extract 0 p).size≤S.size:=by rw [← zl,z7j,List.length_take,zl]; omega
     rw [zi (by omega),zpf (by omega) (by omega),z7j]
     simp only [Option.bind_some]
     by_cases hx:(v:Int)=crcL ((bytesOf S).take p)
     ·have e1:((v:Int) != crcL ((bytesOf S).take p))=false:=by simp [hx]
      rw [e1,if_neg (fun h=>h hx),cond_false]
      by_cases hq:q<S.size
      ·have e2:decide ((q:Int)<(S.size:Int))=true:=by simp; omega
       rw [e2,if_pos hq]; rfl
      ·have e2:decide ((q:Int)<(S.size:Int))=false:=by simp; omega
       rw [e2,if_neg hq]
       have eC:(⟨c.Sign_,c.Regs_,c.Slots_,c.List_⟩:Xe)=c:=rfl
       simp only [cond_false,Option.bind_some,bne_self_eq_false,eC,(zm8 (n:=n) (c:=c) (by omega) c2.1 c2.2).1]
       by_cases hk:(chk c).1=0
       ·have e3:((chk c).1 != 0)=false:=by simp [hk]
        rw [e3,if_neg (fun h=>h hk)]; rfl
       ·have e3:((chk c).1 != 0)=true:=by simp [hk]
        rw [e3,if_pos hk]; rfl
     ·have e1:((v:Int) != crcL ((bytesOf S).take p))=true:=by simp [hx]
      rw [e1,if_pos hx]; rfl
abbrev at24 (S:ByteArray) (p:Nat) (l r:List Int):Prop:=p≤S.size∧(bytesOf S).drop p=l++r
theorem at24.next {S:ByteArray} {p:Nat} {l r:List Int} (h:at24 S p l r):at24 S (p+l.length) [] r:=by
 have h1:=congrArg List.length h.2
 rw [List.length_drop,zl,List.length_append] at h1
 have:=h.1
 refine ⟨by omega,?_⟩
 rw [← List.drop_drop,h.2,List.drop_left]; rfl
theorem at24.split {S:ByteArray} {p:Nat} {a b r:List Int} (h:at24 S p (a++b) r):at24 S p a (b++r):=⟨h.1,by rw [h.2,List.append_assoc]⟩
theorem at24.rest {S:ByteArray} {p:Nat} {a r:List Int} (h:at24 S p [] (a++r)):at24 S p a r:=⟨h.1,h.2⟩
theorem at24.len {S:ByteArray} {p:Nat} {l r:List Int} (h:at24 S p l r):p+l.length≤S.size:=by
 have h1:=congrArg List.length h.2
 rw [List.length_drop,zl,List.length_append] at h1
 have:=h.1; omega
theorem at24.head {S:ByteArray} {p:Nat} {x:Int} {b r:List Int} (h:at24 S p (x::b) r):at24 S p [x] (b++r):=⟨h.1,by rw [h.2]; rfl⟩
theorem at24.tail {S:ByteArray} {p:Nat} {x:Int} {b r:List Int} (h:at24 S p (x::b) r):at24 S (p+1) b r:=at24.rest h.head.next
theorem at24.app {S:ByteArray} {p:Nat} {a b r:List Int} (h:at24 S p (a++b) r):at24 S (p+a.length) b r:=at24.rest h.split.next
theorem znx {rest:List Int}:∀ (f v k acc:Nat),v<128 ^ (f+1)→k+(f+1)≤9→(0<k→0<v)→numL k acc (numN v++rest) = .inl (acc+v * 128 ^ k,k+(numN v).length)
 | 0,v,k,acc,h,hk,hv=>by
  rw [z35 (by omega)]
  simp only [List.cons_append,List.nil_append,numL]
  rw [if_neg (by omega),if_pos (by omega)]
  simp
 | f+1,v,k,acc,h,hk,hv=>by
  by_cases hs:v<128
  ·rw [z35 hs]
   simp only [List.cons_append,List.nil_append,numL]
   rw [if_neg (by omega),if_pos (by omega)]
   simp
  ·rw [z9t hs]
   simp only [List.cons_append,numL]
   rw [if_neg (by omega),if_neg (by omega),znx f (v / 128) (k+1) _ (by rw [Nat.pow_succ] at h; omega) (by omega) (fun _=>by omega)]
   have e1:(((v % 128+128:Nat):Int).toNat) % 128=v % 128:=by omega
   rw [e1,List.length_cons]
   have e2:v % 128 * 128 ^ k+v / 128 * 128 ^ (k+1)=v * 128 ^ k:=by
    rw [Nat.pow_succ,Nat.mul_comm (128 ^ k) 128,← Nat.mul_assoc,← Nat.add_mul]
    congr 1
    omega
   rw [Nat.add_assoc acc,e2]
   congr 2
   omega
theorem z8n {S:ByteArray} {p M:Nat} {v:Int} {r:List Int} (h0:0≤v) (hM:v≤(M:Int)) (hv:v<LIM) (h:at24 S p (num v) r):numR S p M = .inl (v,p+(num v).length):=by
 have hv:v<9223372036854775808:=hv
 obtain ⟨w,rfl⟩:∃ w:Nat,v=w:=⟨v.toNat,by omega⟩
 rw [zje] at h ⊢
 unfold numR
 rw [h.2,znx 8 w 0 0 (by have:(128:Nat) ^ (8+1)=9223372036854775808:=rfl; omega) (by omega) (by omega)]
 simp only [Nat.pow_zero,Nat.mul_one,Nat.zero_add]
 rw [if_neg (by omega)]
theorem zli {S:ByteArray} {p:Nat} {b lo hi:Int} {r:List Int} (h1:lo≤b) (h2:b≤hi) (h:at24 S p [b] r):oneR S p lo hi = .inl (b,p+1):=by
 have hl:=h.len
 have hp2:p<(bytesOf S).length:=by rw [zl]; simp at hl; omega
 have hb:zb S (p:Int)=b:=by
  rw [z70 hp2]
  have:=h.2
  rw [List.drop_eq_getElem_cons hp2] at this
  exact (List.cons.inj this).1
 unfold oneR
 rw [if_neg (by simp at hl; omega)]
 simp only [hb]
 rw [if_neg (by omega)]
theorem ztc {S:ByteArray} {p:Nat} {s:ByteArray} {r:List Int} (h:at24 S p (bytesOf s) r):z4q S p s.size = .inl (s,p+s.size):=by
 have hl:=h.len
 rw [zl] at hl
 unfold z4q
 rw [if_neg (by omega)]
 congr 2
 apply zax
 rw [z38,List.drop_take,show p+s.size - p=s.size by omega,h.2,List.take_append_of_le_length (by rw [zl]; omega),List.take_of_length_le (by rw [zl]; omega)]
theorem zoo {v:Int} (h0:0≤v):∀ k:Nat,valL (low v k)=v.toNat % 256 ^ k
 | 0=>by simp [low,valL,Nat.mod_one]
 | k+1=>by
  rw [znr,zgn,zoo h0 k,z3n]
  have e:(IntKind.u8.wrap (v.fdiv (2 ^ (8 * k)))).toNat=v.toNat / 256 ^ k % 256:=by
   rw [z8h,Int.fdiv_eq_ediv_of_nonneg _ (Int.le_of_lt (Int.pow_pos (by decide)))]
   have e2:((2:Int) ^ (8 * k))=((256 ^ k:Nat):Int):=by rw [pow8]; simp
   rw [e2]
   obtain ⟨w,rfl⟩:∃ w:Nat,v=w:=⟨v.toNat,by omega⟩
   rw [← Int.natCast_ediv]
   simp only [Int.toNat_natCast]
   generalize w / 256 ^ k=z
   omega
  rw [e,Nat.pow_succ]
  exact (Nat.mod_mul.trans (by rw [Nat.mul_comm])).symm
theorem zrx {S:ByteArray} {p k:Nat} {v:Int} {r:List Int} (h0:0≤v) (h:at24 S p (low v k) r):valR S p k = .inl (v.toNat % 256 ^ k,p+k):=by
 have hs:at24 S p (bytesOf (zv (low v k))) r:=by rw [z1t (z3h v k)]; exact h
 have:=ztc hs
 rw [z3v,z3n] at this
 unfold valR
 rw [this]
 simp only
 rw [z1t (z3h v k),zoo h0]
theorem y0y {S:ByteArray} {p:Nat} {t:Xb} {r:List Int} (hk:t.Kind_=1∨t.Kind_=2∨t.Kind_=3) (h0:0≤t.Param_) (h1:t.Param_<LIM) (hz:t.Kind_ ≠ 3→t.Param_=0) (h:at24 S p (typB t) r):typR S p = .inl (t,p+(typB t).length):=by
 have e8:IntKind.u8.wrap t.Kind_=t.Kind_:=z52 (by omega) (by omega)
 unfold typB at h ⊢
 rw [e8] at h ⊢
 have ho:=zli (lo:=1) (hi:=3) (by omega) (by omega) h.head
 have hn:=h.tail
 unfold typR
 rw [ho]
 simp only
 by_cases h3:t.Kind_=3
 ·have e3:(t.Kind_==3)=true:=by simp [h3]
  rw [e3,cond_true] at hn ⊢
  have:=z8n (M:=ANY) h0 (by have:t.Param_<9223372036854775808:=h1; show t.Param_≤9223372036854775807; omega) h1 hn
  rw [if_pos h3,this]
  simp only [List.length_cons]
  congr 2
  omega
 ·have e3:(t.Kind_==3)=false:=by simp [h3]
  rw [e3,cond_false,if_neg h3]
  obtain ⟨k,q⟩:=t
  have:q=0:=hz h3
  subst this
  simp
structure y0z (x:Xc):Prop where
 kind:x.Type_.Kind_=1∨x.Type_.Kind_=2∨x.Type_.Kind_=3
 p0:0≤x.Type_.Param_
 p1:x.Type_.Param_<LIM
 pz:x.Type_.Kind_ ≠ 3→x.Type_.Param_=0
 i0:0≤x.Int_
 i1:x.Int_<LIM
 b0:0≤x.Bits_
 b1:x.Bits_<4294967296
 two:x.Type_.Kind_=2→x.Bits_=0
 not2:x.Type_.Kind_ ≠ 2→x.Int_=0
theorem zrq {b:Int} (h0:0≤b) (h1:b<4294967296):IntKind.u64.wrap b=b:=z1s h0 (by omega)
theorem zrp {b:Int} (h0:0≤b) (h1:b<4294967296):IntKind.u32.wrap ((b.toNat % 256 ^ 4:Nat):Int)=b:=by
 have e:(256:Nat) ^ 4=4294967296:=rfl
 have:IntKind.u32.wrap ((b.toNat % 256 ^ 4:Nat):Int)=((b.toNat % 256 ^ 4:Nat):Int) % 4294967296:=by simp [IntKind.wrap,IntKind.bits,IntKind.signed]
 rw [this,e]; omega
theorem y63 {S:ByteArray} {p:Nat} {x:Xc} {r:List Int} (hx:y0z x) (h:at24 S p (z3l x) r):z4t S p = .inl (x,p+(z3l x).length):=by
 unfold z3l at h ⊢
 have ho:=zli (lo:=0) (hi:=1) (by cases x.Keep_ <;> decide) (by cases x.Keep_ <;> decide) h.head
 have ht:=y0y hx.kind hx.p0 hx.p1 hx.pz h.tail.split
 have h3:=h.tail.app
 have ek:((bif x.Keep_ then (1:Int) else 0)==1)=x.Keep_:=by cases x.Keep_ <;> rfl
 unfold z4t
 rw [ho]
 simp only [ht,ek]
 by_cases h2:x.Type_.Kind_=2
 ·have e2:(x.Type_.Kind_==2)=true:=by simp [h2]
  rw [e2,cond_true] at h3 ⊢
  have:=z8n (M:=ANY) hx.i0 (by have:x.Int_<9223372036854775808:=hx.i1; show x.Int_≤9223372036854775807; omega) hx.i1 h3
  simp only [if_pos h2,this,List.length_cons,List.length_append]
  obtain ⟨t,k,b,i⟩:=x
  have:b=0:=hx.two h2
  subst this
  congr 2
  omega
 ·have e2:(x.Type_.Kind_==2)=false:=by simp [h2]
  rw [e2,cond_false,zrq hx.b0 hx.b1] at h3 ⊢
  have:=zrx hx.b0 h3
  simp only [if_neg h2,this,List.length_cons,List.length_append,z3n,zrp hx.b0 hx.b1]
  obtain ⟨t,k,b,i⟩:=x
  have:i=0:=hx.not2 h2
  subst this
  congr 2
  omega
structure ParN (p:Xa):Prop where
 name:p.Name_.size≤64
 kind:p.Kind_=1∨p.Kind_=2
 l0:0≤p.Len_
 l1:p.Len_<LIM
theorem ya2 {S:ByteArray} {p:Nat} {x:Xa} {r:List Int} (hx:ParN x) (h:at24 S p (parB x) r):parR S p = .inl (x,p+(parB x).length):=by
 have hk:=hx.kind
 have hn:=hx.name
 have e8:IntKind.u8.wrap x.Kind_=x.Kind_:=z52 (by omega) (by omega)
 unfold parB at h ⊢
 rw [e8] at h ⊢
 have ho:=zli (lo:=1) (hi:=2) (by omega) (by omega) h.head
 have hm:=z8n (M:=64) (by omega) (by omega) (z1q (by omega)) h.tail.split
 have hp:=ztc h.tail.app.split
 have hl:=z8n (M:=ANY) hx.l0 (by have:x.Len_<9223372036854775808:=hx.l1; show x.Len_≤9223372036854775807; omega) hx.l1 h.tail.app.app
 unfold parR
 rw [zl] at hl
 rw [ho]
 simp only [hm,Int.toNat_natCast,hp,hl,List.length_cons,List.length_append,zl]
 congr 2
 omega
theorem zdh {α:Type} {S:ByteArray} {f:Nat→Rd α} {enc:α→List Int}:∀ (xs:List α) (p:Nat) (r:List Int),(∀ x ∈ xs,∀ p r,at24 S p (enc x) r→f p = .inl (x,p+(enc x).length))→at24 S p (xs.flatMap enc) r→z1v f xs.length p = .inl (xs,p+(xs.flatMap enc).length)
 | [],p,r,hf,h=>by simp [z1v]
 | x::xs,p,r,hf,h=>by
  rw [List.flatMap_cons] at h ⊢
  have h1:=at24.split h
  simp only [List.length_cons,z1v]
  rw [hf x (by simp) p _ h1]
  simp only
  rw [zdh xs _ r (fun y hy=>hf y (by simp [hy])) h.app]
  simp only [List.length_append]
  congr 2
  omega
structure zrv (i:Xd):Prop where
 op:1≤i.Op_∧i.Op_≤37
 w0:∀ k,0≤fv i k
 w1:z29 i
 z:∀ k,1≤k→k≤5→k ∉ off i.Op_→fv i k=0
 b0:0≤i.Bits_
 b1:i.Bits_<4294967296
 one:i.Op_ ≠ 1→i.Bits_=0
theorem zm0 {S:ByteArray} {i:Xd} (h0:∀ k,0≤fv i k) (h1:z29 i):∀ (ks:List Nat) (p:Nat) (j:Xd) (r:List Int),at24 S p (ks.flatMap fun k=>num (fv i k)) r→z2t S ks p j = .inl (ks.foldl (fun j k=>putF j k (fv i k)) j,p+(ks.flatMap fun k=>num (fv i k)).length)
 | [],p,j,r,h=>rfl
 | k::ks,p,j,r,h=>by
  rw [List.flatMap_cons] at h ⊢
  have:=h1.fv k
  have hn:=z8n (M:=ANY) (h0 k) (by have:fv i k<9223372036854775808:=this; show fv i k≤9223372036854775807; omega) this h.split
  simp only [z2t,hn,List.foldl_cons]
  rw [zm0 h0 h1 ks _ _ r h.app,List.length_append,Nat.add_assoc]
theorem znb {j:Xd} {k k':Nat} {v:Int} (h:1≤k'∧k'≤5):fv (putF j k v) k'=if k=k' then v else fv j k':=by
 have b:∀ m:Nat,Nat.beq k m=decide (k=m):=fun m=>by
  cases hb:Nat.beq k m with
  | true=>exact (decide_eq_true (Nat.eq_of_beq_eq_true hb)).symm
  | false=>exact (decide_eq_false (Nat.ne_of_beq_eq_false hb)).symm
 have:k'=1∨k'=2∨k'=3∨k'=4∨k'=5:=by omega
 rcases this with rfl | rfl | rfl | rfl | rfl <;> simp only [fv,putF,b] <;> (try simp only [if_true,reduceIte,Nat.reduceEqDiff]) <;> (split <;> simp_all)
theorem zo4 {i:Xd}:∀ (ks:List Nat) (j:Xd),(∀ k ∈ ks,1≤k∧k≤5)→(ks.foldl (fun j k=>putF j k (fv i k)) j).Op_=j.Op_∧(ks.foldl (fun j k=>putF j k (fv i k)) j).Bits_=j.Bits_∧∀ k',1≤k'→k'≤5→fv (ks.foldl (fun j k=>putF j k (fv i k)) j) k'=if k' ∈ ks then fv i k' else fv j k'
 | [],j,h=>⟨rfl,rfl,fun k' _ _=>by simp⟩
 | k::ks,j,h=>by
  rw [List.foldl_cons]
  obtain ⟨a,b,c⟩:=zo4 ks (putF j k (fv i k)) fun k' hk=>h k' (by simp [hk])
  have hk:=h k (by simp)
  have h0:Nat.beq k 0=false:=by cases k with | zero=>omega | succ k=>rfl
  refine ⟨?_,b,fun k' h1 h2=>?_⟩
  ·rw [a]
   show (bif Nat.beq k 0 then fv i k else j.Op_)=j.Op_
   rw [h0,cond_false]
  ·rw [c k' h1 h2,znb ⟨h1,h2⟩]
   by_cases hm:k' ∈ ks
   ·simp [hm]
   ·by_cases he:k=k'
    ·subst he; simp [hm]
    ·have:¬ k'=k:=fun e=>he e.symm
     simp [hm,he,this]
theorem zni {i j:Xd} (ho:i.Op_=j.Op_) (hb:i.Bits_=j.Bits_) (h:∀ k,1≤k→k≤5→fv i k=fv j k):i=j:=by
 have h1:=h 1 (by omega) (by omega)
 have h2:=h 2 (by omega) (by omega)
 have h3:=h 3 (by omega) (by omega)
 have h4:=h 4 (by omega) (by omega)
 have h5:=h 5 (by omega) (by omega)
 simp [fv] at h1 h2 h3 h4 h5
 cases i; cases j; simp_all
theorem y59 (op b:Int) (k:Nat):fv ⟨op,0,0,0,0,0,b⟩ k=0:=by
 unfold fv
 split
 ·rfl
 ·split
  ·rfl
  ·split
   ·rfl
   ·split <;> rfl
theorem y62 {S:ByteArray} {p:Nat} {i:Xd} {r:List Int} (hi:zrv i) (h:at24 S p (z3k i) r):z4o S p = .inl (i,p+(z3k i).length):=by
 have ho':=hi.op
 have e8:IntKind.u8.wrap i.Op_=i.Op_:=z52 (by omega) (by omega)
 unfold z3k fldB at h ⊢
 rw [e8] at h ⊢
 have ho:=zli (lo:=1) (hi:=37) ho'.1 ho'.2 h.head
 have hf:=zm0 hi.w0 hi.w1 (off i.Op_) (p+1) ⟨i.Op_,0,0,0,0,0,0⟩ _ h.tail.split
 obtain ⟨a,b,c⟩:=zo4 (i:=i) (off i.Op_) ⟨i.Op_,0,0,0,0,0,0⟩ (z9u i.Op_)
 generalize hj:(off i.Op_).foldl (fun j k=>putF j k (fv i k)) ⟨i.Op_,0,0,0,0,0,0⟩=j at *
 have hfv:∀ k,1≤k→k≤5→fv j k=fv i k:=fun k k1 k2=>by
  rw [c k k1 k2]
  split
  ·rfl
  ·rename_i hm; rw [y59,hi.z k k1 k2 hm]
 have a:j.Op_=i.Op_:=a
 have b:j.Bits_=0:=b
 unfold z4o
 rw [ho]
 simp only [hf,a]
 have ht:=h.tail.app
 by_cases h1:i.Op_=1
 ·have e1:(i.Op_==1)=true:=by simp [h1]
  rw [e1,cond_true,zrq hi.b0 hi.b1] at ht ⊢
  have hv:=zrx hi.b0 ht
  simp only [if_pos h1,hv,zrp hi.b0 hi.b1,List.length_cons,List.length_append,z3n]
  have:(⟨i.Op_,j.D_,j.A_,j.B_,j.C_,j.N_,i.Bits_⟩:Xd)=i:=zni rfl rfl fun k k1 k2=>(show fv _ k=fv j k from rfl).trans (hfv k k1 k2)
  rw [this]
  congr 2
  omega
 ·have e1:(i.Op_==1)=false:=by simp [h1]
  rw [e1,cond_false,if_neg h1]
  have:j=i:=zni a (b.trans (hi.one h1).symm) hfv
  rw [this]
  simp only [List.length_cons,List.length_append,List.length_nil]
  congr 2
  omega
structure y0w (c:Xe):Prop where
 s:∀ p ∈ c.Sign_,ParN p
 r:∀ t ∈ c.Regs_,(t.Kind_=1∨t.Kind_=2∨t.Kind_=3)∧0≤t.Param_∧t.Param_<LIM∧(t.Kind_ ≠ 3→t.Param_=0)
 o:∀ x ∈ c.Slots_,y0z x
 l:∀ i ∈ c.List_,zrv i
def z4l (c:Xe):List Int :=
 num (c.Sign_.length:Int)++(c.Sign_.flatMap parB++(num (c.Regs_.length:Int)++(c.Regs_.flatMap typB++(num (c.Slots_.length:Int)++(c.Slots_.flatMap z3l++(num (c.List_.length:Int)++c.List_.flatMap z3k))))))
theorem z5r (c:Xe):z2b c=[108,116,104,49]++z4l c:=by simp only [z2b,z4l,List.append_assoc]
theorem zlz {S:ByteArray} {p:Nat} {c:Xe} {r:List Int} (hN:y0w c) (h6:z56 c) (h:at24 S p (z4l c) r):z5s S p = .inl (c,p+(z4l c).length):=by
 have sl:=h6.sl
 have rl:=h6.rl
 have ol:=h6.ol
 have ll:=h6.ll
 unfold z4l at h ⊢
 have a1:=z8n (M:=64) (by omega) (by omega) (z1q (by omega)) h.split
 have a2:=zdh (f:=parR S) c.Sign_ _ _ (fun x hx p r hp=>ya2 (hN.s x hx) hp) h.app.split
 have a3:=z8n (M:=16384) (by omega) (by omega) (z1q (by omega)) h.app.app.split
 have a4:=zdh (f:=typR S) c.Regs_ _ _ (fun x hx p r hp=>y0y (hN.r x hx).1 (hN.r x hx).2.1 (hN.r x hx).2.2.1 (hN.r x hx).2.2.2 hp) h.app.app.app.split
 have a5:=z8n (M:=4096) (by omega) (by omega) (z1q (by omega)) h.app.app.app.app.split
 have a6:=zdh (f:=z4t S) c.Slots_ _ _ (fun x hx p r hp=>y63 (hN.o x hx) hp) h.app.app.app.app.app.split
 have a7:=z8n (M:=32768) (by omega) (by omega) (z1q (by omega)) h.app.app.app.app.app.app.split
 have a8:=zdh (f:=z4o S) c.List_ _ _ (fun x hx p r hp=>y62 (hN.l x hx) hp) h.app.app.app.app.app.app.app
 unfold z5s
 simp only [a1,a2,a3,a4,a5,a6,a7,a8,Int.toNat_natCast,List.length_append]
 congr 2
 omega
theorem zfd {c:Xe} {s k:Int} {d:Xb} (h:z1c c s k d=true):0≤k∧(s=0→k=0):=by
 unfold z1c at h
 by_cases hs:s=0
 ·have e:(s==0)=true:=by simp [hs]
  rw [e,cond_true] at h
  simp only [beq_iff_eq] at h
  exact ⟨by omega,fun _=>h⟩
 ·have e:(s==0)=false:=by simp [hs]
  rw [e,cond_false] at h
  split at h
  ·cases h
  ·rename_i t ht
   exact ⟨(zbj ht).2.1,fun h=>absurd h hs⟩
theorem ycc {c:Xe} {s N:Int} {t:Xb} (h:nOk c s N t=true):0≤N∧(s=0→N=0):=by
 unfold nOk at h
 by_cases h1:s=1
 ·have e:(s==1)=true:=by simp [h1]
  rw [e,cond_true] at h
  simp only [Bool.and_eq_true,decide_eq_true_eq] at h
  exact ⟨h.1,by omega⟩
 ·have e:(s==1)=false:=by simp [h1]
  rw [e,cond_false] at h
  by_cases h2:s=2
  ·have e:(s==2)=true:=by simp [h2]
   rw [e,cond_true] at h
   simp only [Bool.or_eq_true,Bool.and_eq_true,beq_iff_eq] at h
   exact ⟨by omega,by omega⟩
  ·have e:(s==2)=false:=by simp [h2]
   rw [e,cond_false] at h
   by_cases h3:s=3
   ·have e:(s==3)=true:=by simp [h3]
    rw [e,cond_true] at h
    split at h
    ·rename_i z hz
     exact ⟨(zbj hz).2.1,by omega⟩
    ·cases h
   ·have e:(s==3)=false:=by simp [h3]
    rw [e,cond_false] at h
    by_cases h4:s=4
    ·have e:(s==4)=true:=by simp [h4]
     rw [e,cond_true] at h
     simp only [Bool.and_eq_true,decide_eq_true_eq] at h
     exact ⟨h.1,by omega⟩
    ·have e:(s==4)=false:=by simp [h4]
     rw [e,cond_false] at h
     simp only [beq_iff_eq] at h
     exact ⟨by omega,fun _=>h⟩
theorem y5r {op:Int} {r:z41} (h:rowD op=some r):1≤op∧op≤37:=by
 rcases z5j op with h1 | h1
 ·omega
 ·rw [z36 h1] at h; cases h
theorem y04 {c:Xe} {i:Xd} (h:fits c i=true) (hi:z29 i) (b0:0≤i.Bits_) (b1:i.Bits_<4294967296):zrv i:=by
 unfold fits at h
 split at h
 ·cases h
 ·rename_i r hr
  simp only [Bool.and_eq_true] at h
  obtain ⟨h1,h2,h3,h4,h5,h6⟩:=h
  obtain ⟨d0,d1⟩:=zfd h1
  obtain ⟨a0,a1⟩:=zfd h2
  obtain ⟨e0,e1⟩:=zfd h3
  obtain ⟨c0,c1⟩:=zfd h4
  obtain ⟨n0,n1⟩:=ycc h6
  refine ⟨y5r hr,fun k=>?_,hi,fun k k1 k2 hk=>?_,b0,b1,fun ho=>?_⟩
  ·unfold fv
   split
   ·exact d0
   ·split
    ·exact a0
    ·split
     ·exact e0
     ·split
      ·exact c0
      ·exact n0
  ·simp only [off,hr,List.mem_append,not_or] at hk
   obtain ⟨q1,q2,q3,q4,q5⟩:=hk
   have nt:∀ {s:Int} {m:Nat},k=m→k ∉ (bif s==0 then [] else [m]:List Nat)→s=0:=fun {s m} e hq=>by
    by_cases hs:s=0
    ·exact hs
    ·have:(s==0)=false:=by simp [hs]
     rw [this,cond_false] at hq
     exact absurd (by simp [e]) hq
   have:k=1∨k=2∨k=3∨k=4∨k=5:=by omega
   rcases this with e | e | e | e | e
   ·have:=d1 (nt e q1); subst e; exact this
   ·have:=a1 (nt e q2); subst e; exact this
   ·have:=e1 (nt e q3); subst e; exact this
   ·have:=c1 (nt e q4); subst e; exact this
   ·have:=n1 (nt e q5); subst e; exact this
  ·unfold z80 at h5
   have:(i.Op_==1)=false:=by simp [ho]
   rw [this,cond_false] at h5
   simpa using h5
theorem zg4 {c:Xe} (h:(chk c).1=0) (hU:U32s c) (hl:∀ i ∈ c.List_,z29 i):y0w c:=by
 obtain ⟨h1,h2,h3,h4,h5,h6,r,hr,_⟩:=ztq h
 obtain ⟨s1,s2⟩:=zyr h1
 rw [List.all_eq_true] at s2 h5 h6
 refine ⟨fun p hp=>?_,fun t ht=>?_,fun x hx=>?_,fun i hi=>?_⟩
 ·obtain ⟨q1,q2,q3,q4⟩:=zr8 (s2 p hp)
  exact ⟨q1,q2,by omega,by show p.Len_<9223372036854775808; omega⟩
 ·obtain ⟨q1,q2,q3,q4⟩:=zf5 s1 (h5 t ht)
  exact ⟨q1,q2,by show t.Param_<9223372036854775808; omega,q4⟩
 ·obtain ⟨q1,q2⟩:=zr9 (h6 x hx)
  obtain ⟨t1,t2,t3,t4⟩:=zf5 s1 q1
  obtain ⟨b0,b1⟩:=hU.1 x hx
  exact ⟨t1,t2,by show x.Type_.Param_<9223372036854775808; omega,t4,by rcases q2 with q | q <;> omega,by show x.Int_<9223372036854775808; rcases q2 with q | q <;> omega,b0,b1,fun h=>by rcases q2 with q | q <;> omega,fun h=>by rcases q2 with q | q <;> omega⟩
 ·exact y04 (zng c c.List_ 0 _ _ r hr i hi) (hl i hi) (hU.2 i hi).1 (hU.2 i hi).2
theorem y6a (l:List Int):0≤crcL l∧crcL l<18446744073709551616:=by
 unfold crcL
 have:=(~~~ crc0 l).isLt
 omega
theorem y67 {S:ByteArray} {r:List Int} (h:bytesOf S=[108,116,104,49]++r):z7g S=false:=by
 have hl:=zl S
 rw [h] at hl
 simp only [List.length_append,List.length_cons,List.length_nil] at hl
 have hm:(mn4 S).toNat=4:=by unfold mn4; split <;> omega
 unfold z7g
 rw [hm]
 have e1:S.extract 0 4=⟨#[108,116,104,49]⟩:=by
  apply zax
  rw [z7j,h]; rfl
 have e2:(⟨#[108,116,104,49]⟩:ByteArray).extract 0 4=⟨#[108,116,104,49]⟩:=rfl
 rw [e1,e2,z59]; rfl
theorem y4i {c:Xe} (h:(chk c).1=0) (hU:U32s c) (hl:∀ i ∈ c.List_,z29 i):decR (zv (bytC c))=(0,0,c.Sign_,c.Regs_,c.Slots_,c.List_):=by
 have h6:=z5b h hl
 have hN:=zg4 h hU hl
 have hby:Byt (bytC c):=(z3f h6).app (z3h _ _)
 have hb:=z1t hby
 have hlen:=z3v (bytC c)
 have hbl:(bytC c).length=(z2b c).length+8:=by simp only [bytC,List.length_append,z3n]
 have hcl:(z2b c).length=4+(z4l c).length:=by rw [z5r]; simp; omega
 have hb2:bytesOf (zv (bytC c))=[108,116,104,49]++(z4l c++low (crcL (z2b c)) 8):=by rw [hb,bytC,z5r,List.append_assoc]
 have at1:at24 (zv (bytC c)) 4 (z4l c) (low (crcL (z2b c)) 8):=⟨by omega,by rw [hb2]; rfl⟩
 have at2:at24 (zv (bytC c)) (4+(z4l c).length) (low (crcL (z2b c)) 8) []:=by
  have:=at1.next
  exact ⟨this.1,by rw [this.2]; simp⟩
 obtain ⟨k0,k1⟩:=y6a (z2b c)
 have hv:=zrx k0 at2
 have e8:(256:Nat) ^ 8=18446744073709551616:=rfl
 have ht:(bytesOf (zv (bytC c))).take (4+(z4l c).length)=z2b c:=by
  rw [hb,bytC,← hcl,List.take_left]
 unfold decR
 rw [y67 hb2]
 simp only [Bool.false_eq_true,if_false]
 rw [if_neg (by omega),zlz hN h6 at1]
 simp only [hv,ht]
 rw [if_neg (fun hx=>hx (by omega)),if_neg (by omega),if_neg (fun hx=>hx h)]
abbrev rd24 (S:ByteArray) (p:Nat) (l:List Int) (q:Nat):Prop:=(bytesOf S).drop p=l++(bytesOf S).drop q
theorem rd24.comp {S:ByteArray} {p q r:Nat} {a b:List Int} (h:rd24 S p a q) (g:rd24 S q b r):rd24 S p (a++b) r:=by
 show _=_
 rw [show (bytesOf S).drop p=_ from h,show (bytesOf S).drop q=_ from g,List.append_assoc]
theorem y0d:∀ {l:List Int} {k acc V c:Nat},Byt l→numL k acc l = .inl (V,c)→∃ w,V=acc+w * 128 ^ k∧l=numN w++l.drop (c - k)∧(0<k→0<w)∧k<c:=by
 intro l
 induction l with
 | nil=>intro k acc V c _ h; cases h
 | cons b l ih =>
  intro k acc V c hB h
  have hb:=hB b (by simp)
  simp only [numL] at h
  split at h
  ·cases h
  ·rename_i h1
   split at h
   ·rename_i h2
    cases h
    refine ⟨b.toNat,rfl,?_,fun hk=>by omega,by omega⟩
    rw [z35 (by omega),show k+1 - k=1 by omega]
    simp only [List.drop_succ_cons,List.drop_zero,List.cons_append,List.nil_append,List.cons.injEq,and_true]
    omega
   ·rename_i h2
    obtain ⟨w,h3,h4,h5,h6⟩:=ih (fun x hx=>hB x (by simp [hx])) h
    have hw:=h5 (by omega)
    refine ⟨b.toNat % 128+128 * w,?_,?_,fun _=>by omega,by omega⟩
    ·rw [h3,Nat.pow_succ,Nat.add_mul,Nat.add_assoc]
     congr 2
     rw [Nat.mul_comm (128 ^ k) 128,← Nat.mul_assoc,Nat.mul_comm w 128]
    ·rw [z9t (by omega)]
     have e1:(b.toNat % 128+128 * w) / 128=w:=by omega
     have e2:(((b.toNat % 128+128 * w) % 128+128:Nat):Int)=b:=by omega
     rw [e1,e2,show c - k=(c - (k+1))+1 by omega,List.drop_succ_cons,List.cons_append,← h4]
theorem z8m {S:ByteArray} {p q M:Nat} {v:Int} (h:numR S p M = .inl (v,q)):rd24 S p (num v) q:=by
 unfold numR at h
 split at h
 ·cases h
 ·rename_i V c hq
  split at h
  ·cases h
  ·cases h
   obtain ⟨w,h1,h2,_⟩:=y0d (fun x hx=>z1w S x (List.mem_of_mem_drop hx)) hq
   simp only [Nat.pow_zero,Nat.mul_one,Nat.zero_add] at h1
   subst h1
   show _=_
   rw [zje,← List.drop_drop]
   exact h2
theorem zlg {S:ByteArray} {p q:Nat} {lo hi b:Int} (hp:p≤S.size) (h:oneR S p lo hi = .inl (b,q)):rd24 S p [b] q:=by
 obtain ⟨h1,h2,h3,_⟩:=z4c hp h
 have hp2:p<(bytesOf S).length:=by rw [zl]; omega
 show _=_
 rw [List.drop_eq_getElem_cons hp2,h1,h3,z70 hp2]; rfl
theorem zta {S s:ByteArray} {p k q:Nat} (hp:p≤S.size) (h:z4q S p k = .inl (s,q)):rd24 S p (bytesOf s) q:=by
 obtain ⟨h1,h2,h3,h4⟩:=z5k h hp
 show _=_
 rw [h1,z38,List.drop_take,show p+k - p=k by omega,h3,← List.drop_drop,List.take_append_drop]
theorem y09 (v:Int) (k:Nat):low v (k+1)=IntKind.u8.wrap v::low (v.fdiv 256) k:=by
 unfold low
 rw [List.range_succ_eq_map,List.map_cons,List.map_map]
 congr 1
 ·simp
 ·refine List.map_congr_left fun i _=>?_
  simp only [Function.comp]
  congr 1
  have pos:∀ m:Nat,(0:Int)≤2 ^ m:=fun m=>Int.le_of_lt (Int.pow_pos (by decide))
  rw [Int.fdiv_eq_ediv_of_nonneg v (pos _),Int.fdiv_eq_ediv_of_nonneg v (show (0:Int)≤256 by decide),Int.fdiv_eq_ediv_of_nonneg _ (pos _),Int.ediv_ediv,if_neg (fun h=>absurd h.1 (by decide)),Int.sub_zero]
  congr 1
  rw [show 8 * i.succ=8+8 * i by omega,Int.pow_add]
  rfl
theorem zf4:∀ l:List Int,Byt l→low ((valL l:Nat):Int) l.length=l
 | [],_=>rfl
 | b::l,h=>by
  have hb:=h b (by simp)
  rw [List.length_cons,y09]
  have e1:IntKind.u8.wrap ((valL (b::l):Nat):Int)=b:=by
   rw [z8h]
   simp only [valL,List.foldr_cons]
   omega
  have e2:((valL (b::l):Nat):Int).fdiv 256=((valL l:Nat):Int):=by
   rw [Int.fdiv_eq_ediv_of_nonneg _ (by decide)]
   simp only [valL,List.foldr_cons]
   omega
  rw [e1,e2,zf4 l fun x hx=>h x (by simp [hx])]
theorem zru {S:ByteArray} {p k q v:Nat} (hp:p≤S.size) (h:valR S p k = .inl (v,q)):rd24 S p (low (v:Int) k) q:=by
 unfold valR at h
 split at h
 ·rename_i s q' hs
  cases h
  obtain ⟨h1,h2,h3,h4⟩:=z5k hs hp
  have:=zf4 (bytesOf s) (z1w s)
  rw [zl,h2] at this
  rw [this]
  exact zta hp hs
 ·cases h
theorem y0x {S:ByteArray} {p q:Nat} {t:Xb} (hp:p≤S.size) (h:typR S p = .inl (t,q)):rd24 S p (typB t) q:=by
 unfold typR at h
 split at h
 ·cases h
 ·rename_i k q1 h1
  obtain ⟨a1,a2,_,a4,a5⟩:=z4c hp h1
  have e8:IntKind.u8.wrap k=k:=z52 (by omega) (by omega)
  have i1:=zlg hp h1
  split at h
  ·rename_i hk
   split at h
   ·cases h
   ·rename_i v r h2
    cases h
    have:=i1.comp (z8m h2)
    unfold typB
    have e3:(k==3)=true:=by simp [hk]
    simp only [e8,e3,cond_true]
    exact this
  ·rename_i hk
   cases h
   unfold typB
   have e3:(k==3)=false:=by simp [hk]
   simp only [e8,e3,cond_false]
   exact i1
theorem zl8 {v:Nat} (h:v<256 ^ 4):IntKind.u64.wrap (IntKind.u32.wrap (v:Int))=(v:Int):=by
 have e:(256:Nat) ^ 4=4294967296:=rfl
 have:IntKind.u32.wrap (v:Int)=(v:Int) % 4294967296:=by simp [IntKind.wrap,IntKind.bits,IntKind.signed]
 rw [this,z1s (by omega) (by omega)]; omega
theorem y61 {S:ByteArray} {p q:Nat} {x:Xc} (hp:p≤S.size) (h:z4t S p = .inl (x,q)):rd24 S p (z3l x) q:=by
 unfold z4t at h
 split at h
 ·cases h
 ·rename_i k q1 h1
  obtain ⟨a1,a2,_,a4,a5⟩:=z4c hp h1
  have i1:=zlg hp h1
  have ek:(bif (k==1) then (1:Int) else 0)=k:=by
   have:k=0∨k=1:=by omega
   rcases this with rfl | rfl <;> rfl
  split at h
  ·cases h
  ·rename_i t r h2
   obtain ⟨b1,b2,_⟩:=z8g a2 h2
   have i2:=y0x a2 h2
   split at h
   ·rename_i hk
    have e2:(t.Kind_==2)=true:=by simp [hk]
    split at h
    ·cases h
    ·rename_i v u h3
     cases h
     unfold z3l
     simp only [ek,e2,cond_true]
     exact i1.comp (i2.comp (z8m h3))
   ·rename_i hk
    have e2:(t.Kind_==2)=false:=by simp [hk]
    split at h
    ·cases h
    ·rename_i v u h3
     cases h
     unfold z3l
     simp only [ek,e2,cond_false,zl8 (zbv b2 h3).2.2.2]
     exact i1.comp (i2.comp (zru b2 h3))
theorem ya1 {S:ByteArray} {p q:Nat} {x:Xa} (hp:p≤S.size) (h:parR S p = .inl (x,q)):rd24 S p (parB x) q:=by
 unfold parR at h
 split at h
 ·cases h
 ·rename_i k q1 h1
  obtain ⟨a1,a2,_,a4,a5⟩:=z4c hp h1
  have e8:IntKind.u8.wrap k=k:=z52 (by omega) (by omega)
  split at h
  ·cases h
  ·rename_i m r h2
   obtain ⟨b1,b2,b3,b4,_⟩:=z2m a2 h2
   split at h
   ·cases h
   ·rename_i s t h3
    obtain ⟨c1,c2,c3,c4⟩:=z5k h3 b2
    split at h
    ·cases h
    ·rename_i v u h4
     cases h
     unfold parB
     have:((s.size:Nat):Int)=m:=by omega
     simp only [e8,this]
     exact (zlg hp h1).comp ((z8m h2).comp ((zta b2 h3).comp (z8m h4)))
theorem zdg {α:Type} {S:ByteArray} {f:Nat→Rd α} {enc:α→List Int} (hf:∀ {p q x},p≤S.size→f p = .inl (x,q)→q≤S.size∧rd24 S p (enc x) q):∀ {k p q:Nat} {xs:List α},p≤S.size→z1v f k p = .inl (xs,q)→rd24 S p (xs.flatMap enc) q
 | 0,p,q,xs,hp,h=>by cases h; rfl
 | k+1,p,q,xs,hp,h=>by
  simp only [z1v] at h
  split at h
  ·cases h
  ·rename_i x q1 h1
   obtain ⟨a1,a2⟩:=hf hp h1
   split at h
   ·cases h
   ·rename_i ys r h2
    cases h
    rw [List.flatMap_cons]
    exact a2.comp (zdg hf a1 h2)
theorem zfw {S:ByteArray} {k:Nat} (hk:1≤k∧k≤5):∀ {ks:List Nat} {p q:Nat} {i j:Xd},k ∉ ks→z2t S ks p i = .inl (j,q)→fv j k=fv i k
 | [],p,q,i,j,_,h=>by cases h; rfl
 | k'::ks,p,q,i,j,hn,h=>by
  simp only [z2t] at h
  split at h
  ·cases h
  ·rename_i v r h1
   rw [zfw hk (fun hm=>hn (by simp [hm])) h,znb hk,if_neg (fun e=>hn (by simp [e]))]
theorem zly {S:ByteArray}:∀ {ks:List Nat} {p q:Nat} {i j:Xd},(∀ k ∈ ks,1≤k∧k≤5)→ks.Nodup→z2t S ks p i = .inl (j,q)→rd24 S p (ks.flatMap fun k=>num (fv j k)) q
 | [],p,q,i,j,_,_,h=>by cases h; rfl
 | k::ks,p,q,i,j,hk,hn,h=>by
  simp only [z2t] at h
  split at h
  ·cases h
  ·rename_i v r h1
   obtain ⟨n1,n2⟩:=List.nodup_cons.1 hn
   have hk1:=hk k (by simp)
   rw [List.flatMap_cons,zfw hk1 n1 h,znb hk1,if_pos rfl]
   exact (z8m h1).comp (zly (fun k' h'=>hk k' (by simp [h'])) n2 h)
theorem zyd (op:Int):(off op).Nodup:=by
 unfold off
 split
 ·rename_i r _
  cases r.d==0 <;> cases r.a==0 <;> cases r.b==0 <;> cases r.c==0 <;> cases r.n==0 <;> decide
 ·decide
theorem y60 {S:ByteArray} {p q:Nat} {i:Xd} (hp:p≤S.size) (h:z4o S p = .inl (i,q)):rd24 S p (z3k i) q:=by
 unfold z4o at h
 split at h
 ·cases h
 ·rename_i op q1 h1
  obtain ⟨a1,a2,_,a4,a5⟩:=z4c hp h1
  have e8:IntKind.u8.wrap op=op:=z52 (by omega) (by omega)
  have i1:=zlg hp h1
  split at h
  ·cases h
  ·rename_i j r h2
   obtain ⟨b1,b2,b3,b4,b5⟩:=zaf (z9u op) a2 (zor op) h2
   have b3:j.Op_=op:=b3
   have i2:=zly (z9u op) (zyd op) h2
   split at h
   ·rename_i ho
    have e1:(op==1)=true:=by rw [← b3]; simp [ho]
    split at h
    ·cases h
    ·rename_i v t h3
     cases h
     unfold z3k fldB
     simp only [b3,e8,e1,cond_true,zl8 (zbv b2 h3).2.2.2]
     exact i1.comp (i2.comp (zru b2 h3))
   ·rename_i ho
    have e1:(op==1)=false:=by rw [← b3]; simp [ho]
    cases h
    unfold z3k fldB
    simp only [b3,e8,e1,cond_false,List.append_nil]
    exact i1.comp i2
theorem y5z {S:ByteArray} {p q:Nat} {c:Xe} (hp:p≤S.size) (h:z5s S p = .inl (c,q)):rd24 S p (z4l c) q:=by
 unfold z5s at h
 split at h
 ·cases h
 ·rename_i n1 p1 k1
  obtain ⟨a1,a2,a3,a4,_⟩:=z2m hp k1
  split at h
  ·cases h
  ·rename_i l1 q1 k2
   obtain ⟨b1,b2,_⟩:=z3o (Q:=fun _=>True) (fun hp h=>⟨(zdy hp h).2.1,trivial⟩) a2 k2
   have i2:=zdg (enc:=parB) (fun hp h=>⟨(zdy hp h).2.1,ya1 hp h⟩) a2 k2
   split at h
   ·cases h
   ·rename_i n2 p2 k3
    obtain ⟨c1,c2,c3,c4,_⟩:=z2m b1 k3
    split at h
    ·cases h
    ·rename_i l2 q2 k4
     obtain ⟨d1,d2,_⟩:=z3o (Q:=fun _=>True) (fun hp h=>⟨(z8g hp h).2.1,trivial⟩) c2 k4
     have i4:=zdg (enc:=typB) (fun hp h=>⟨(z8g hp h).2.1,y0x hp h⟩) c2 k4
     split at h
     ·cases h
     ·rename_i n3 p3 k5
      obtain ⟨e1,e2,e3,e4,_⟩:=z2m d1 k5
      split at h
      ·cases h
      ·rename_i l3 q3 k6
       obtain ⟨g1,g2,_⟩:=z3o (Q:=fun _=>True) (fun hp h=>⟨(z9e hp h).2.1,trivial⟩) e2 k6
       have i6:=zdg (enc:=z3l) (fun hp h=>⟨(z9e hp h).2.1,y61 hp h⟩) e2 k6
       split at h
       ·cases h
       ·rename_i n4 p4 k7
        obtain ⟨j1,j2,j3,j4,_⟩:=z2m g1 k7
        split at h
        ·cases h
        ·rename_i l4 q4 k8
         obtain ⟨m1,m2,_⟩:=z3o (Q:=fun _=>True) (fun hp h=>⟨(zbk hp h).2.1,trivial⟩) j2 k8
         have i8:=zdg (enc:=z3k) (fun hp h=>⟨(zbk hp h).2.1,y60 hp h⟩) j2 k8
         cases h
         unfold z4l
         have e1:((l1.length:Nat):Int)=n1:=by omega
         have e2:((l2.length:Nat):Int)=n2:=by omega
         have e3:((l3.length:Nat):Int)=n3:=by omega
         have e4:((l4.length:Nat):Int)=n4:=by omega
         simp only [e1,e2,e3,e4]
         exact (z8m k1).comp (i2.comp ((z8m k3).comp (i4.comp ((z8m k5).comp (i6.comp ((z8m k7).comp i8))))))
theorem zpe (S:ByteArray):(∃ c:Xe,(chk c).1=0∧U32s c∧(∀ i ∈ c.List_,z29 i)∧S=zv (bytC c)∧decR S=(0,0,c.Sign_,c.Regs_,c.Slots_,c.List_))∨∃ e a,e ≠ 0∧decR S=no24 e a:=by
 unfold decR
 cases hb:z7g S with
 | true=>exact .inr ⟨240,0,by decide,rfl⟩
 | false =>
  simp only [Bool.false_eq_true,if_false]
  by_cases h4:S.size<4
  ·rw [if_pos h4]; exact .inr ⟨242,0,by decide,rfl⟩
  ·rw [if_neg h4]
   cases hc:z5s S 4 with
   | inr e=>obtain ⟨e,a⟩:=e; exact .inr ⟨e,a,zm9 hc,rfl⟩
   | inl r =>
    obtain ⟨c,p⟩:=r
    obtain ⟨c1,c2,c3,_⟩:=zpa (by omega) hc
    simp only
    cases hv:valR S p 8 with
    | inr e=>obtain ⟨e,a⟩:=e; exact .inr ⟨e,a,zfk hv,rfl⟩
    | inl r =>
     obtain ⟨v,q⟩:=r
     obtain ⟨d1,d2,d3,d4⟩:=zbv c1 hv
     simp only
     by_cases hx:(v:Int)=crcL ((bytesOf S).take p)
     ·rw [if_neg (fun h=>h hx)]
      by_cases hq:q<S.size
      ·rw [if_pos hq]; exact .inr ⟨244,q,by decide,rfl⟩
      ·rw [if_neg hq]
       by_cases hk:(chk c).1=0
       ·rw [if_neg (fun h=>h hk)]
        refine .inl ⟨c,hk,c2,c3,?_,rfl⟩
        have hl:=zl S
        have hm:(mn4 S).toNat=4:=by unfold mn4; split <;> omega
        have m4:(bytesOf S).take 4=[108,116,104,49]:=by
         unfold z7g at hb
         rw [hm] at hb
         simp only [Bool.not_eq_false'] at hb
         have hb:=zeg.1 hb
         have:=congrArg bytesOf hb
         rw [z7j] at this
         exact this
        have i1:(bytesOf S).drop 4=z4l c++(bytesOf S).drop p:=y5z (by omega) hc
        have i2:(bytesOf S).drop p=low (v:Int) 8++(bytesOf S).drop q:=zru c1 hv
        have hd:(bytesOf S).drop q=[]:=List.drop_eq_nil_of_le (by omega)
        rw [hd,List.append_nil] at i2
        have e1:bytesOf S=z2b c++(bytesOf S).drop p:=by
         rw [z5r,List.append_assoc,← i1,← m4,List.take_append_drop]
        have e2:(bytesOf S).take p=z2b c:=by
         have h1:(bytesOf S).take p++(bytesOf S).drop p=z2b c++(bytesOf S).drop p:=by rw [List.take_append_drop]; exact e1
         exact List.append_cancel_right h1
        apply zax
        have hby:Byt (bytC c):=(z3f (z5b hk c3)).app (z3h _ _)
        rw [z1t hby,bytC,← e2,← hx,← i2,List.take_append_drop]
       ·rw [if_pos hk]; exact .inr ⟨(chk c).1,0,hk,rfl⟩
     ·rw [if_pos hx]; exact .inr ⟨241,p,by decide,rfl⟩
theorem ztk {c:Xe} (h:z56 c):(zv (bytC c)).size≤3000008:=by
 have:=zjr h
 rw [z3v,bytC,List.length_append,z3n]; omega
theorem zpd {c:Xe} (h:(chk c).1=0):z73 c=(zv (bytC c),0):=by unfold z73; rw [if_pos h]
theorem y4k {c:Xe} (h:(chk c).1 ≠ 0):z73 c=(⟨#[]⟩,(chk c).1):=by unfold z73; rw [if_neg h]
theorem y54 {n:Nat} (hn:0<n):f23 n ((⟨[],[],[],[]⟩:Xe),(⟨[],[],[],[]⟩:Xe))=some true:=by
 have h:(0:Nat)<4611686018427387904:=by omega
 exact zzs hn hn hn hn h h h h
theorem ztj (x y:BitVec 64):bs (x ^^^ y)=bs x ^^^ bs y:=by
 unfold bs
 rw [BitVec.getLsbD_xor,BitVec.ushiftRight_xor_distrib]
 generalize hP:(14514072000185962306#64:BitVec 64)=P
 generalize x >>> 1=a
 generalize y >>> 1=b
 cases x.getLsbD 0 <;> cases y.getLsbD 0
 ·rfl
 ·simp [BitVec.xor_assoc]
 ·simp only [Bool.xor_false,cond_true,cond_false]
  rw [BitVec.xor_assoc,BitVec.xor_comm b P,← BitVec.xor_assoc]
 ·simp only [Bool.xor_self,cond_false,cond_true]
  rw [BitVec.xor_assoc a P,BitVec.xor_comm b P,← BitVec.xor_assoc P P b,BitVec.xor_self,BitVec.zero_xor]
theorem y4f:bs 0#64=0#64:=by decide
theorem y68 {z:BitVec 64} (h:bs z=0#64):z=0#64:=by
 unfold bs at h
 cases hl:z.getLsbD 0 with
 | true =>
  rw [hl,cond_true] at h
  have h63:=congrArg (fun w:BitVec 64=>w.getLsbD 63) h
  simp only [BitVec.getLsbD_xor,BitVec.getLsbD_ushiftRight] at h63
  have e1:z.getLsbD (1+63)=false:=BitVec.getLsbD_of_ge z (1+63) (by omega)
  have e2:(14514072000185962306#64:BitVec 64).getLsbD 63=true:=by decide
  have e3:(0#64:BitVec 64).getLsbD 63=false:=by decide
  rw [e1,e2,e3] at h63
  cases h63
 | false =>
  rw [hl,cond_false] at h
  apply BitVec.eq_of_getLsbD_eq
  intro i hi
  cases i with
  | zero=>rw [hl]; simp
  | succ i =>
   have:=congrArg (fun w:BitVec 64=>w.getLsbD i) h
   simp only [BitVec.getLsbD_ushiftRight] at this
   rw [Nat.add_comm,this]; simp
def itb:Nat→BitVec 64→BitVec 64
 | 0,c=>c
 | n+1,c=>itb n (bs c)
theorem zr5:∀ {n:Nat} {z:BitVec 64},itb n z=0#64→z=0#64
 | 0,z,h=>h
 | n+1,z,h=>y68 (zr5 (n:=n) h)
def bit0 (V:Nat):BitVec 64:=bif V.testBit 0 then 1#64 else 0#64
def pb:Nat→BitVec 64→Nat→BitVec 64
 | 0,c,_=>c
 | n+1,c,V=>pb n (bs (c ^^^ bit0 V)) (V >>> 1)
theorem zzc (V W:Nat):bit0 (V ^^^ W)=bit0 V ^^^ bit0 W:=by
 unfold bit0
 rw [Nat.testBit_xor]
 cases V.testBit 0 <;> cases W.testBit 0 <;> decide
theorem zo2:∀ (n:Nat) (c d:BitVec 64) (V W:Nat),pb n (c ^^^ d) (V ^^^ W)=pb n c V ^^^ pb n d W
 | 0,c,d,V,W=>rfl
 | n+1,c,d,V,W=>by
  simp only [pb]
  rw [zzc,Nat.shiftRight_xor_distrib,← zo2 n,← ztj]
  congr 2
  rw [BitVec.xor_assoc,BitVec.xor_assoc,← BitVec.xor_assoc d,BitVec.xor_comm d,BitVec.xor_assoc]
theorem zgi (w:Nat):∀ (a n:Nat),pb (a+n) 0#64 (w <<< a)=pb n 0#64 w
 | 0,n=>by simp
 | a+1,n=>by
  rw [show a+1+n=(a+n)+1 by omega]
  simp only [pb]
  have e1:bit0 (w <<< (a+1))=0#64:=by
   unfold bit0
   rw [Nat.testBit_shiftLeft]; simp
  have e2:(w <<< (a+1)) >>> 1=w <<< a:=by
   rw [Nat.shiftLeft_succ,Nat.shiftRight_eq_div_pow]; omega
  rw [e1,e2,BitVec.xor_zero,y4f]
  exact zgi w a n
theorem zih:∀ (n:Nat) (c:BitVec 64) (w:Nat),w<2 ^ n→w<18446744073709551616→pb n c w=itb n (c ^^^ BitVec.ofNat 64 w)
 | 0,c,w,h,hw=>by
  obtain rfl:w=0:=by simpa using h
  simp [pb,itb]
 | n+1,c,w,h,hw=>by
  simp only [pb,itb]
  rw [zih n _ (w >>> 1) (by rw [Nat.shiftRight_eq_div_pow]; rw [Nat.pow_succ] at h; omega) (by rw [Nat.shiftRight_eq_div_pow]; omega)]
  congr 1
  have key:bs (BitVec.ofNat 64 w ^^^ bit0 w)=BitVec.ofNat 64 w >>> 1:=by
   have hl:(BitVec.ofNat 64 w ^^^ bit0 w).getLsbD 0=false:=by
    rw [BitVec.getLsbD_xor,BitVec.getLsbD_ofNat]
    unfold bit0
    cases w.testBit 0 <;> decide
   unfold bs
   rw [hl,cond_false,BitVec.ushiftRight_xor_distrib]
   have:bit0 w >>> 1=0#64:=by
    unfold bit0
    cases w.testBit 0 <;> decide
   rw [this,BitVec.xor_zero]
  have e:c ^^^ BitVec.ofNat 64 w=(c ^^^ bit0 w) ^^^ (BitVec.ofNat 64 w ^^^ bit0 w):=by
   rw [BitVec.xor_assoc,BitVec.xor_comm (BitVec.ofNat 64 w),← BitVec.xor_assoc (bit0 w),BitVec.xor_self,BitVec.zero_xor]
  rw [e,ztj (c ^^^ bit0 w),key]
  congr 1
  apply BitVec.eq_of_getLsbD_eq
  intro i hi
  rw [BitVec.getLsbD_ushiftRight,BitVec.getLsbD_ofNat,BitVec.getLsbD_ofNat,Nat.testBit_shiftRight]
  by_cases h63:1+i<64
  ·simp [h63,hi]
  ·have:w.testBit (1+i)=false:=Nat.testBit_lt_two_pow (Nat.lt_of_lt_of_le hw (by rw [show (18446744073709551616:Nat)=2 ^ 64 from rfl]; exact Nat.pow_le_pow_right (by decide) (by omega)))
   simp [this]
theorem zyg:∀ (n m:Nat) (c:BitVec 64) (V:Nat),pb (n+m) c V=pb m (pb n c V) (V >>> n)
 | 0,m,c,V=>by simp [pb]
 | n+1,m,c,V=>by
  rw [show n+1+m=(n+m)+1 by omega]
  simp only [pb]
  rw [zyg n m,← Nat.shiftRight_add,Nat.add_comm 1 n]
theorem za0:∀ (l:List Int) (k:Nat),Byt l→(valL l).testBit k=((l[k / 8]?).getD 0).toNat.testBit (k % 8)
 | [],k,_=>by simp [valL]
 | b::l,k,h=>by
  have hb:=h b (by simp)
  have e:valL (b::l)=2 ^ 8 * valL l+b.toNat:=by
   simp only [valL,List.foldr_cons]; omega
  rw [e,Nat.testBit_two_pow_mul_add _ (by omega)]
  by_cases hk:k<8
  ·rw [if_pos hk,show k / 8=0 by omega,show k % 8=k by omega]; simp
  ·rw [if_neg hk,za0 l (k - 8) fun x hx=>h x (by simp [hx])]
   have e1:k / 8=(k - 8) / 8+1:=by omega
   have e2:(k - 8) % 8=k % 8:=by omega
   rw [e1,e2,List.getElem?_cons_succ]
theorem y0s {b:Int} {l:List Int} (h:0≤b∧b<256):valL (b::l)=b.toNat ^^^ (valL l <<< 8):=by
 have e:valL (b::l)=2 ^ 8 * valL l+b.toNat:=by
  simp only [valL,List.foldr_cons]; omega
 apply Nat.eq_of_testBit_eq
 intro k
 rw [e,Nat.testBit_two_pow_mul_add _ (by omega),Nat.testBit_xor,Nat.testBit_shiftLeft]
 by_cases hk:k<8
 ·have:¬ 8≤k:=by omega
  simp [hk,this]
 ·have h8:8≤k:=by omega
  have:b.toNat.testBit k=false:=Nat.testBit_lt_two_pow (Nat.lt_of_lt_of_le (show b.toNat<2 ^ 8 by omega) (Nat.pow_le_pow_right (by decide) h8))
  simp [hk,h8,this]
theorem ya5 {c:BitVec 64} {b:Int} (h:0≤b∧b<256):bb c b=pb 8 c b.toNat:=by
 rw [zih 8 c b.toNat (by omega) (by omega)]
 have:BitVec.ofInt 64 b=BitVec.ofNat 64 b.toNat:=by
  obtain ⟨w,rfl⟩:∃ w:Nat,b=w:=⟨b.toNat,by omega⟩
  rw [BitVec.ofInt_natCast,Int.toNat_natCast]
 unfold bb
 rw [this]; rfl
theorem zey:∀ (l:List Int) (c:BitVec 64),Byt l→l.foldl bb c=pb (8 * l.length) c (valL l)
 | [],c,_=>rfl
 | b::l,c,h=>by
  have hb:=h b (by simp)
  rw [List.foldl_cons,zey l _ fun x hx=>h x (by simp [hx]),List.length_cons,show 8 * (l.length+1)=8+8 * l.length by omega,zyg,ya5 hb]
  have e1:pb 8 c (valL (b::l))=pb 8 c b.toNat:=by
   rw [y0s hb]
   have:=zo2 8 c 0#64 b.toNat (valL l <<< 8)
   rw [BitVec.xor_zero] at this
   rw [this]
   have z:pb 8 0#64 (valL l <<< 8)=0#64:=zgi (valL l) 8 0
   rw [z,BitVec.xor_zero]
  have e2:valL (b::l) >>> 8=valL l:=by
   rw [Nat.shiftRight_eq_div_pow]
   simp only [valL,List.foldr_cons]; omega
  rw [e1,e2]
theorem zod (X:List Int) (hX:Byt X):(X++low (crcL X) 8).foldl bb (18446744073709551615#64)=itb 64 (18446744073709551615#64):=by
 rw [List.foldl_append]
 have hr:X.foldl bb (18446744073709551615#64)=crc0 X:=rfl
 rw [hr,zey _ _ (z3h _ _),z3n]
 have h0:0≤crcL X:=by unfold crcL; omega
 have hv:valL (low (crcL X) 8)=(~~~ crc0 X).toNat:=by
  have key:∀ v:Int,0≤v→v<18446744073709551616→valL (low v 8)=v.toNat:=fun v h0 h1=>by
   apply Nat.eq_of_testBit_eq
   intro k
   rw [za0 _ _ (z3h _ _)]
   by_cases hk:k / 8<8
   ·have hl:(low v 8)[k / 8]? = some (IntKind.u8.wrap (v.fdiv (2 ^ (8 * (k / 8))))):=by
     simp [low,hk]
    rw [hl,Option.getD_some,z8h,Int.fdiv_eq_ediv_of_nonneg _ (Int.le_of_lt (Int.pow_pos (by decide)))]
    obtain ⟨w,rfl⟩:∃ w:Nat,v=w:=⟨v.toNat,by omega⟩
    have e:((w:Int) / 2 ^ (8 * (k / 8)) % 256).toNat=w / 2 ^ (8 * (k / 8)) % 2 ^ 8:=by
     have:((2:Int) ^ (8 * (k / 8)))=((2 ^ (8 * (k / 8)):Nat):Int):=by simp
     rw [this,← Int.natCast_ediv]
     generalize w / 2 ^ (8 * (k / 8))=z
     omega
    rw [e,Nat.testBit_mod_two_pow,← Nat.shiftRight_eq_div_pow,Nat.testBit_shiftRight,Int.toNat_natCast]
    have:k % 8<8:=by omega
    rw [decide_eq_true this,Bool.true_and,show 8 * (k / 8)+k % 8=k by omega]
   ·have hl:(low v 8)[k / 8]? = none:=List.getElem?_eq_none (by rw [z3n]; omega)
    rw [hl]
    have:v.toNat.testBit k=false:=Nat.testBit_lt_two_pow (Nat.lt_of_lt_of_le (show v.toNat<2 ^ 64 by omega) (Nat.pow_le_pow_right (by decide) (by omega)))
    rw [this]; simp
  have hlt:crcL X<18446744073709551616:=by unfold crcL; have:=(~~~ crc0 X).isLt; omega
  rw [key _ h0 hlt]
  simp [crcL]
 rw [hv,zih 64 _ _ (~~~ crc0 X).isLt (~~~ crc0 X).isLt]
 congr 1
 have:BitVec.ofNat 64 (~~~ crc0 X).toNat = ~~~ crc0 X:=by rw [BitVec.ofNat_toNat,BitVec.setWidth_eq]
 rw [this]
 have h2 : ~~~ crc0 X=crc0 X ^^^ BitVec.allOnes 64:=(BitVec.xor_allOnes).symm
 rw [h2,← BitVec.xor_assoc,BitVec.xor_self,BitVec.zero_xor]
 rfl
theorem ya7 {l m X Y:List Int} {w a:Nat} (hl:Byt l) (hm:Byt m) (hX:Byt X) (hY:Byt Y) (e1:l=X++low (crcL X) 8) (e2:m=Y++low (crcL Y) 8) (hlen:m.length=l.length) (hw:w<18446744073709551616) (ha:a≤8 * l.length) (hwa:w<2 ^ (8 * l.length - a)) (h:valL m=valL l ^^^ (w <<< a)):w=0:=by
 have k1:pb (8 * l.length) (18446744073709551615#64) (valL l)=itb 64 (18446744073709551615#64):=by
  rw [← zey l _ hl,e1]; exact zod X hX
 have k2:pb (8 * l.length) (18446744073709551615#64) (valL m)=itb 64 (18446744073709551615#64):=by
  rw [← hlen,← zey m _ hm,e2]; exact zod Y hY
 have k3:=zo2 (8 * l.length) (18446744073709551615#64) 0#64 (valL l) (w <<< a)
 rw [BitVec.xor_zero,← h,k1,k2] at k3
 have k4:pb (8 * l.length) 0#64 (w <<< a)=0#64:=by
  have:=congrArg (fun z=>itb 64 (18446744073709551615#64) ^^^ z) k3
  simp only [BitVec.xor_self] at this
  rw [← BitVec.xor_assoc,BitVec.xor_self,BitVec.zero_xor] at this
  exact this.symm
 have k5:=zgi w a (8 * l.length - a)
 rw [show a+(8 * l.length - a)=8 * l.length by omega,k4] at k5
 rw [zih _ _ _ hwa hw,BitVec.zero_xor] at k5
 have k6:=zr5 k5.symm
 have:=congrArg BitVec.toNat k6
 rw [BitVec.toNat_ofNat] at this
 simp at this
 omega
theorem y4g {c:Xe} (h:(chk c).1=0) (hU:U32s c) (hl:∀ i ∈ c.List_,z29 i) {k:Nat} (hk:k<(zv (bytC c)).size):∃ e a,e ≠ 0∧decR ((zv (bytC c)).extract 0 k)=no24 e a:=by
 rcases zpe ((zv (bytC c)).extract 0 k) with ⟨d,d1,d2,d3,d4,d5⟩ | h
 ·exfalso
  have hc6:=z5b h hl
  have hd6:=z5b d1 d3
  have hbc:=z1t ((z3f hc6).app (z3h (crcL (z2b c)) 8))
  have hbd:=z1t ((z3f hd6).app (z3h (crcL (z2b d)) 8))
  have hbc:bytesOf (zv (bytC c))=bytC c:=hbc
  have hbd:bytesOf (zv (bytC d))=bytC d:=hbd
  have e1:(bytC c).take k=bytC d:=by rw [← hbd,← d4,z7j,hbc]
  have hlen:=z3v (bytC c)
  have e2:bytC c=bytC d++(bytC c).drop k:=by rw [← e1,List.take_append_drop]
  have a1:at24 (zv (bytC c)) 4 (z4l c) (low (crcL (z2b c)) 8):=by
   refine ⟨?_,by rw [hbc,bytC,z5r,List.append_assoc]; rfl⟩
   rw [hlen,bytC,z5r]; simp <;> omega
  have a2:at24 (zv (bytC c)) 4 (z4l d) (low (crcL (z2b d)) 8++(bytC c).drop k):=by
   refine ⟨a1.1,?_⟩
   rw [hbc]
   conv=>lhs; rw [e2]
   show ((z2b d++low (crcL (z2b d)) 8)++_).drop 4=_
   generalize low (crcL (z2b d)) 8=L
   rw [z5r]; simp
  have q1:=zlz (zg4 h hU hl) hc6 a1
  have q2:=zlz (zg4 d1 d2 d3) hd6 a2
  rw [q1] at q2
  have hcd:c=d:=by
   have:=Sum.inl.inj q2
   exact (Prod.mk.inj this).1
  subst hcd
  have:=congrArg List.length e1
  rw [List.length_take] at this
  omega
 ·exact h
theorem zrd {R:Type} {T:Type} (x:Int) {L:Nat} (h0:0<L) (h1:L<4611686018427387904) (f:Int→T):∃ A:Nat,A<L∧(bif (decide ((x.tmod (L:Int))<(0:Int))) then (some (.inl (f (IntKind.i64.wrap ((x.tmod (L:Int))+(L:Int)))))) else (some (.inl (f (x.tmod (L:Int))))):Option (T⊕R))=some (.inl (f (A:Int))):=by
 have hlt:=Int.tmod_lt_of_pos x (b:=(L:Int)) (by omega)
 have hgt:=Int.lt_tmod_of_pos x (b:=(L:Int)) (by omega)
 by_cases h:x.tmod (L:Int)<0
 ·refine ⟨(x.tmod (L:Int)+L).toNat,by omega,?_⟩
  rw [decide_eq_true h,cond_true,z3x (by omega) (by omega)]
  congr 3; omega
 ·refine ⟨(x.tmod (L:Int)).toNat,by omega,?_⟩
  rw [decide_eq_false h,cond_false]
  congr 3; omega
theorem zzd {b:Int} (h0:0≤b) (i:Nat) (hi:i<64):((b.fdiv (2 ^ min (IntKind.u64.wrap (i:Int)).toNat IntKind.u64.bits)).tmod 2==1)=b.toNat.testBit i:=by
 rw [z1s (by omega) (by omega),Int.toNat_natCast,show min i IntKind.u64.bits=i from Nat.min_eq_left (by show i≤64; omega),Int.fdiv_eq_ediv_of_nonneg _ (Int.le_of_lt (Int.pow_pos (by decide)))]
 obtain ⟨w,rfl⟩:∃ w:Nat,b=w:=⟨b.toNat,by omega⟩
 have e2:((2:Int) ^ i)=((2 ^ i:Nat):Int):=by simp
 rw [e2,← Int.natCast_ediv,Int.toNat_natCast,Nat.testBit_eq_decide_div_mod_eq]
 generalize w / 2 ^ i=z
 rw [Int.tmod_eq_emod_of_nonneg (Int.natCast_nonneg z)]
 by_cases hz:z % 2=1
 ·rw [decide_eq_true hz]; simp; omega
 ·rw [decide_eq_false hz]; simp; omega
theorem yae:∀ (b:BitVec 8) (t:Fin 8),(b ^^^ BitVec.ofNat 8 (2 ^ t.val)).toNat=b.toNat ^^^ 2 ^ t.val:=by decide
theorem yaf {y:Int} {t:Nat} (h0:0≤y) (h1:y<256) (ht:t<8):IntKind.u8.wrap ((BitVec.ofInt IntKind.u8.bits y ^^^ BitVec.ofInt IntKind.u8.bits (IntKind.u8.wrap (1 * 2 ^ min (IntKind.u64.wrap ((t:Nat):Int)).toNat IntKind.u8.bits))).toNat:Int)=((y.toNat ^^^ 2 ^ t:Nat):Int):=by
 have e1:(1 * 2 ^ min (IntKind.u64.wrap ((t:Nat):Int)).toNat IntKind.u8.bits:Int)=((2 ^ t:Nat):Int):=by
  rw [z1s (by omega) (by omega),Int.toNat_natCast,show min t IntKind.u8.bits=t from Nat.min_eq_left (by show t≤8; omega)]; simp
 have h2:2 ^ t<256:=Nat.lt_of_lt_of_le (Nat.pow_lt_pow_right (by decide) ht) (by decide)
 rw [e1,z52 (x:=((2 ^ t:Nat):Int)) (Int.natCast_nonneg _) (Int.ofNat_lt.2 h2)]
 have e3:(BitVec.ofInt IntKind.u8.bits y ^^^ BitVec.ofInt IntKind.u8.bits ((2 ^ t:Nat):Int)).toNat=y.toNat ^^^ 2 ^ t:=by
  have:=yae (BitVec.ofInt 8 y) ⟨t,ht⟩
  have e4:(BitVec.ofInt 8 y).toNat=y.toNat:=by rw [BitVec.toNat_ofInt]; omega
  rw [e4] at this
  have e5:BitVec.ofInt 8 ((2 ^ t:Nat):Int)=BitVec.ofNat 8 (2 ^ t):=BitVec.ofInt_natCast ..
  refine Eq.trans ?_ this
  show (BitVec.ofInt 8 y ^^^ BitVec.ofInt 8 ((2 ^ t:Nat):Int)).toNat=_
  rw [e5]
 rw [e3,z52 (by omega)]
 have:y.toNat ^^^ 2 ^ t<2 ^ 8:=Nat.xor_lt_two_pow (by omega) (by omega)
 omega
structure z64 (l m:List Int) (bits:Nat) (a i:Nat):Prop where
 len:m.length=l.length
 byt:Byt m
 bit:∀ k,(valL m).testBit k=((valL l).testBit k ^^ (decide (a≤k∧k<a+i) && bits.testBit (k - a)))
theorem Byt.get {l:List Int} (h:Byt l) {j:Nat} (hj:j<l.length):0≤l[j]∧l[j]<256:=h _ (List.getElem_mem hj)
theorem z64.step {l m:List Int} {bits a i:Nat} (h:z64 l m bits a i) (hi:a+i<8 * l.length) (hb:bits.testBit i=true):z64 l (m.set ((a+i) / 8) (((m[(a+i) / 8]?.getD 0).toNat ^^^ 2 ^ ((a+i) % 8):Nat):Int)) bits a (i+1):=by
 have hj:(a+i) / 8<m.length:=by have:=h.len; omega
 have hg:=h.byt.get hj
 have hget:m[(a+i) / 8]?.getD 0=m[(a+i) / 8]:=by rw [List.getElem?_eq_getElem hj]; rfl
 rw [hget]
 have hx:m[(a+i) / 8].toNat ^^^ 2 ^ ((a+i) % 8)<2 ^ 8:=Nat.xor_lt_two_pow (by omega) (Nat.pow_lt_pow_right (by decide) (by omega))
 have hB:Byt (m.set ((a+i) / 8) ((m[(a+i) / 8].toNat ^^^ 2 ^ ((a+i) % 8):Nat):Int)):=fun y hy=>by
  rcases List.mem_or_eq_of_mem_set hy with hy | rfl
  ·exact h.byt y hy
  ·omega
 refine ⟨by rw [List.length_set]; exact h.len,hB,fun k=>?_⟩
 rw [za0 _ _ hB]
 by_cases hk:k / 8=(a+i) / 8
 ·have e1:(m.set ((a+i) / 8) ((m[(a+i) / 8].toNat ^^^ 2 ^ ((a+i) % 8):Nat):Int))[k / 8]? = some ((m[(a+i) / 8].toNat ^^^ 2 ^ ((a+i) % 8):Nat):Int):=by
   rw [hk,List.getElem?_set_self hj]
  rw [e1,Option.getD_some,Int.toNat_natCast,Nat.testBit_xor,Nat.testBit_two_pow]
  have hold:=h.bit k
  rw [za0 _ _ h.byt,hk,List.getElem?_eq_getElem hj,Option.getD_some] at hold
  rw [hold]
  by_cases he:k=a+i
  ·subst he
   have d1:decide (a≤a+i∧a+i<a+i)=false:=by simp
   have d2:decide (a≤a+i∧a+i<a+(i+1))=true:=decide_eq_true (by omega)
   rw [d1,d2,show a+i - a=i by omega,hb]; simp
  ·have d1:decide ((a+i) % 8=k % 8)=false:=by simp; omega
   have d2:decide (a≤k∧k<a+i)=decide (a≤k∧k<a+(i+1)):=by
    by_cases hq:a≤k∧k<a+i
    ·rw [decide_eq_true hq,decide_eq_true (by omega)]
    ·rw [decide_eq_false hq,decide_eq_false (by omega)]
   rw [d1,d2]; simp
 ·rw [List.getElem?_set_ne (fun e=>hk e.symm),← za0 _ _ h.byt,h.bit k]
  have d2:decide (a≤k∧k<a+i)=decide (a≤k∧k<a+(i+1)):=by
   by_cases hq:a≤k∧k<a+i
   ·rw [decide_eq_true hq,decide_eq_true (by omega)]
   ·have:k ≠ a+i:=fun e=>hk (by rw [e])
    rw [decide_eq_false hq,decide_eq_false (by omega)]
  rw [d2]
theorem z64.stay {l m:List Int} {bits a i:Nat} (h:z64 l m bits a i) (hb:bits.testBit i=false):z64 l m bits a (i+1):=by
 refine ⟨h.len,h.byt,fun k=>?_⟩
 rw [h.bit k]
 by_cases he:k=a+i
 ·subst he
  rw [show a+i - a=i by omega,hb]; simp
 ·have d2:decide (a≤k∧k<a+i)=decide (a≤k∧k<a+(i+1)):=by
   by_cases hq:a≤k∧k<a+i
   ·rw [decide_eq_true hq,decide_eq_true (by omega)]
   ·rw [decide_eq_false hq,decide_eq_false (by omega)]
  rw [d2]
theorem ze6 {n:Nat} {x:Xe×Xf} {S:ByteArray} {a e:Nat} (hS:S.size<1000000000000) (hB:0≤x.2.Bits_) (ha:a<8 * S.size) (he:e=min 64 (8 * S.size - a)) :
  ∀ (j i fuel:Nat) (m:List Int),i+j=e→j<fuel→z64 (bytesOf S) m x.2.Bits_.toNat a i→∃ m',iter (zev n x (S,((8 * S.size:Nat):Int),(a:Int))) fuel ((i:Int),m)=some (.out ((e:Int),m'))∧z64 (bytesOf S) m' x.2.Bits_.toNat a e
 | 0,i,fuel+1,m,h,hf,hT=>by
  obtain rfl:i=e:=by omega
  refine ⟨m,?_,hT⟩
  rw [iter,zhs]
  by_cases h64:i<64
  ·have e1:decide ((i:Int)<64)=true:=by simp; omega
   have e2:decide (IntKind.i64.wrap ((a:Int)+(i:Int))<((8 * S.size:Nat):Int))=false:=by
    rw [z3x (by omega) (by omega)]; simp; omega
   simp only [e1,e2,cond_true,Option.bind_some,orRet_inl,cond_false]
  ·have e1:decide ((i:Int)<64)=false:=by simp; omega
   simp only [e1,cond_false,Option.bind_some,orRet_inl]
 | j+1,i,fuel+1,m,h,hf,hT=>by
  have hl:=zl S
  have hml:=hT.len
  have hi64:i<64:=by omega
  have hai:a+i<8 * S.size:=by omega
  have e1:decide ((i:Int)<64)=true:=by simp; omega
  have ew:IntKind.i64.wrap ((a:Int)+(i:Int))=((a+i:Nat):Int):=by rw [z3x (by omega) (by omega)]; omega
  have e2:decide (((a+i:Nat):Int)<((8 * S.size:Nat):Int))=true:=by simp; omega
  have ed:IntKind.i64.wrap (((a+i:Nat):Int).tdiv 8)=(((a+i) / 8:Nat):Int):=by
   rw [Int.tdiv_eq_ediv_of_nonneg (by omega),z3x (by omega) (by omega)]; omega
  have em:((a+i:Nat):Int).tmod 8=(((a+i) % 8:Nat):Int):=by
   rw [Int.tmod_eq_emod_of_nonneg (by omega)]; omega
  have hj:(a+i) / 8<m.length:=by omega
  have hg:=hT.byt.get hj
  have step:zev n x (S,((8 * S.size:Nat):Int),(a:Int)) ((i:Int),m)=some (.go (((i+1:Nat):Int),if x.2.Bits_.toNat.testBit i=true then m.set ((a+i) / 8) (((m[(a+i) / 8]?.getD 0).toNat ^^^ 2 ^ ((a+i) % 8):Nat):Int) else m)):=by
   rw [zhs]
   simp only [e1,cond_true,ew,e2,Option.bind_some,orRet_inl,zzd hB i hi64,ed,em,Int.toNat_natCast,z2f (show i<9223372036854775806 by omega)]
   rw [zi (by rw [z1s (by omega) (by omega)]; omega)]
   cases hb:x.2.Bits_.toNat.testBit i with
   | false=>simp
   | true =>
    have hn8:0≤IntKind.u64.wrap (((a+i) % 8:Nat):Int):=by rw [z1s (by omega) (by omega)]; omega
    simp only [cond_true,List.getElem?_eq_getElem hj,Option.bind_some,yaf hg.1 hg.2 (show (a+i) % 8<8 by omega),if_true,Option.getD_some]
    rw [zi (by omega),zi hn8,zi (by omega)]
  rw [iter,step]
  by_cases hb:x.2.Bits_.toNat.testBit i=true
  ·simp only [if_pos hb]
   exact ze6 hS hB ha he j (i+1) fuel _ (by omega) (by omega) (hT.step (by omega) hb)
  ·simp only [if_neg hb]
   exact ze6 hS hB ha he j (i+1) fuel _ (by omega) (by omega) (hT.stay (by simpa using hb))
theorem zt4 {c:Xe} (h:(chk c).1=0) (hl:∀ i ∈ c.List_,z29 i) {m:List Int} {bits a e:Nat} (he:e≤64) (hae:a+e≤8 * (bytC c).length) (hT:z64 (bytC c) m bits a e) (hne:m ≠ bytC c):∃ e a,e ≠ 0∧decR (zv m)=no24 e a:=by
 rcases zpe (zv m) with ⟨d,d1,d2,d3,d4,d5⟩ | h
 ·exfalso
  apply hne
  have hc6:=z5b h hl
  have hd6:=z5b d1 d3
  have hBc:Byt (bytC c):=(z3f hc6).app (z3h _ _)
  have hBd:Byt (bytC d):=(z3f hd6).app (z3h _ _)
  have em:m=bytC d:=by rw [← z1t hT.byt,d4,z1t hBd]
  have hw:bits % 2 ^ e<2 ^ e:=Nat.mod_lt _ (Nat.two_pow_pos e)
  have hx:valL m=valL (bytC c) ^^^ ((bits % 2 ^ e) <<< a):=by
   apply Nat.eq_of_testBit_eq
   intro k
   rw [hT.bit k,Nat.testBit_xor,Nat.testBit_shiftLeft,Nat.testBit_mod_two_pow]
   congr 1
   by_cases hk:a≤k
   ·have:decide (a≤k∧k<a+e)=decide (k - a<e):=by
     by_cases hq:k - a<e
     ·rw [decide_eq_true hq,decide_eq_true (by omega)]
     ·rw [decide_eq_false hq,decide_eq_false (by omega)]
    rw [this,decide_eq_true (show k≥a from hk),Bool.true_and]
   ·have d1:decide (a≤k∧k<a+e)=false:=decide_eq_false (by omega)
    have d2:decide (k≥a)=false:=decide_eq_false (by omega)
    rw [d1,d2]; rfl
  have hlt:bits % 2 ^ e<18446744073709551616:=Nat.lt_of_lt_of_le hw (by rw [show (18446744073709551616:Nat)=2 ^ 64 from rfl]; exact Nat.pow_le_pow_right (by decide) he)
  have hlt2:bits % 2 ^ e<2 ^ (8 * (bytC c).length - a):=Nat.lt_of_lt_of_le hw (Nat.pow_le_pow_right (by decide) (by omega))
  have z:=ya7 hBc hT.byt (z3f hc6) (z3f hd6) rfl em hT.len hlt (by omega) hlt2 hx
  rw [z] at hx
  simp at hx
  rw [← zf4 m hT.byt,← zf4 (bytC c) hBc,hx,hT.len]
 ·exact h
theorem zcw (v:Nat):1≤(numN v).length:=by
 rw [numN]; split <;> simp
theorem zze (c:Xe):16≤(bytC c).length:=by
 have h1:=zcw c.Sign_.length
 have h2:=zcw c.Regs_.length
 have h3:=zcw c.Slots_.length
 have h4:=zcw c.List_.length
 simp only [bytC,z2b,zje,List.length_append,z3n,List.length_cons,List.length_nil]
 omega
theorem y9r {S T R R':Type} {f:T→Option R'} {g:R→Option R'} {t:T}:Option.bind (some (Bo.out t:Bo S T R)) (Bo.then f g)=f t:=rfl
theorem y5l (c:Xe) (hm:Xf) (hS:zry c) (hU:U32s c) (hl:∀ i ∈ c.List_,z29 i) (hB:0≤hm.Bits_):f236 (fuel c+20000000) (c,hm)=some true:=by
 have hf:fuel c=c.Sign_.length+c.Regs_.length+c.Slots_.length+c.List_.length+100001:=rfl
 have h0:=fun h=>z5b h hl
 generalize hn:fuel c+20000000=n
 have w:=y0t (n:=n) (by omega)
 have e216:=y4p (n:=n) (c:=c) (by omega) hU.1 hU.2 h0
 rw [y53,y5x hS,Option.bind_some]
 refine (congrArg (fun z=>Option.bind z _) e216).trans ?_
 rw [Option.bind_some]
 by_cases h:(chk c).1=0
 ·have h6:=h0 h
  have hsz:=ztk h6
  have hmin:=zze c
  have hlen:=z3v (bytC c)
  have hbc:bytesOf (zv (bytC c))=bytC c:=z1t ((z3f h6).app (z3h _ _))
  have e0:((z73 c).2 != 0)=false:=by rw [zpd h]; rfl
  have e1:(z73 c).1=zv (bytC c):=by rw [zpd h]
  rw [e0,cond_false,e1]
  generalize hSS:zv (bytC c)=S at *
  have e2:decide ((S.size:Int)<16)=false:=by simp; omega
  rw [e2,cond_false]
  cases hcut:hm.Cut_ with
  | true =>
   rw [cond_true,zi (by omega)]
   obtain ⟨A,hA,ep⟩:=zrd (R:=Bool) hm.At_ (L:=S.size) (by omega) (by omega) (fun z=>(S,z))
   refine (congrArg (fun z=>Option.bind z _) ep).trans ?_
   rw [Option.bind_some,orRet_inl]
   dsimp only
   rw [zi (by omega),Int.toNat_natCast]
   have hx:(S.extract 0 A).size≤S.size:=by rw [← zl,z7j,List.length_take,zl]; omega
   obtain ⟨e,a,he,hd⟩:=y4g h hU hl (k:=A) (by rw [hSS]; exact hA)
   rw [hSS] at hd
   have e228:f228 n (S.extract 0 A)=some (e,a,[],[],[],[]):=by rw [zpj (by omega) (by show _≤4611686018427387904; omega),hd]; rfl
   have he1:(e != 0)=true:=by simpa using he
   rw [e228,Option.bind_some,he1,cond_true,w]
   rfl
  | false =>
   have e8:IntKind.i64.wrap (8 * (S.size:Int))=((8 * S.size:Nat):Int):=by rw [z3x (by omega) (by omega)]; omega
   rw [cond_false,e8,zi (by omega)]
   obtain ⟨A,hA,ep⟩:=zrd (R:=Bool) hm.At_ (L:=8 * S.size) (by omega) (by omega) (fun z=>(S,((8 * S.size:Nat):Int),z))
   refine (congrArg (fun z=>Option.bind z _) ep).trans ?_
   rw [Option.bind_some,orRet_inl]
   dsimp only
   have hT0:z64 (bytesOf S) (bytesOf S) hm.Bits_.toNat A 0:=⟨rfl,z1w S,fun k=>by
    have:decide (A≤k∧k<A+0)=false:=decide_eq_false (by omega)
    rw [this]; simp⟩
   obtain ⟨m,hi,hT⟩:=ze6 (n:=n) (x:=(c,hm)) (S:=S) (a:=A) (e:=min 64 (8 * S.size - A)) (by omega) hB hA rfl (min 64 (8 * S.size - A)) 0 n (bytesOf S) (by omega) (by omega) hT0
   rw [show ((0:Nat):Int)=0 from rfl] at hi
   rw [hi,y9r]
   dsimp only
   have hml:(zv m).size=S.size:=by rw [z3v,hT.len,zl]
   have e228:=zpj (n:=n) (S:=zv m) (by omega) (by show _≤4611686018427387904; omega)
   rw [e228,Option.bind_some]
   by_cases hmm:m=bytC c
   ·have eS:zv m=S:=by rw [hmm,hSS]
    have hd:decR S=(0,0,c.Sign_,c.Regs_,c.Slots_,c.List_):=by rw [← hSS]; exact y4i h hU hl
    rw [eS,hd,z59,w]
    rfl
   ·rw [hbc] at hT
    obtain ⟨e,a,he,hd⟩:=zt4 h hl (e:=min 64 (8 * S.size - A)) (by omega) (by omega) hT hmm
    have hd':decR (zv m)=(e,a,[],[],[],[]):=hd
    have he2:(e==0)=false:=by simpa using he
    have hne:(zv m==S)=false:=by
     cases hb:zv m==S with
     | false=>rfl
     | true =>
      exfalso; apply hmm
      have:=zeg.1 hb
      rw [← z1t hT.byt,this,hbc]
    rw [hd',hne]
    show (bif (false==(e==0)) then (bif (e==0) then _ else _) else _)=_
    rw [he2,show (false==false)=true from rfl,cond_true,cond_false,y54 (by omega),Option.bind_some,cond_true,w]
    rfl
 ·have e:((z73 c).2 != 0)=true:=by rw [y4k h]; simpa using h
  rw [e,cond_true,w]; rfl
abbrev y48:Ty:=.str
def y46 (R:Nat→Nat→Prop) (x:ByteArray):Prop:=R x.size 1
theorem yce {R:Nat→Nat→Prop} {cs:List AV} (h:OfTy R y48 cs):∃ x:ByteArray,y46 R x∧[.sc (.string x)]=cs:=by
 obtain ⟨b,rfl,h⟩:=h
 exact ⟨b,h,rfl⟩
abbrev z61:Ty:=.int .i64
def z55 (_:Nat→Nat→Prop) (x:Int):Prop:=(Lit.int .i64 x).wf=true
theorem z6g {R:Nat→Nat→Prop} {cs:List AV} (h:OfTy R z61 cs):∃ x:Int,z55 R x∧[.sc (.int .i64 x)]=cs:=by
 obtain ⟨n,rfl,h⟩:=h
 exact ⟨n,h,rfl⟩
abbrev zdf:Ty:=.st (.cons y48 (.cons z61 (.cons z61 (.nil))))
structure zdb (R:Nat→Nat→Prop) (x:Xa):Prop where
 Name_:y46 R x.Name_
 Kind_:z55 R x.Kind_
 Len_:z55 R x.Len_
theorem zlf {R:Nat→Nat→Prop} {cs:List AV} (h:OfTy R zdf cs):∃ x:Xa,zdb R x∧(c1 false) x=cs:=by
 obtain ⟨_,_,rfl,h0,h⟩:=h
 obtain ⟨_,_,rfl,h1,h⟩:=h
 obtain ⟨_,_,rfl,h2,h⟩:=h
 obtain rfl:=h
 obtain ⟨x0,w0,rfl⟩:=yce h0
 obtain ⟨x1,w1,rfl⟩:=z6g h1
 obtain ⟨x2,w2,rfl⟩:=z6g h2
 exact ⟨⟨x0,x1,x2⟩,⟨w0,w1,w2⟩,rfl⟩
abbrev zbx:Ty:=.sl 3 32 zdf
def zbw (R:Nat→Nat→Prop) (x:List Xa):Prop:=R x.length 32∧∀ y ∈ x,zdb R y
theorem zjg {R:Nat→Nat→Prop} {cs:List AV} (h:OfTy R zbx cs):∃ x:List Xa,zbw R x∧[.im 3 (x.map (c1 false))]=cs:=by
 obtain ⟨xs,rfl,h1,h2⟩:=h
 obtain ⟨ys,h3,rfl⟩:=z9o (c:=(c1 false)) (fun _ h=>zlf h) h1
 exact ⟨ys,⟨by simpa using h2,h3⟩,rfl⟩
abbrev za3:Ty:=.st (.cons z61 (.cons z61 (.nil)))
structure za2 (R:Nat→Nat→Prop) (x:Xb):Prop where
 Kind_:z55 R x.Kind_
 Param_:z55 R x.Param_
theorem ze1 {R:Nat→Nat→Prop} {cs:List AV} (h:OfTy R za3 cs):∃ x:Xb,za2 R x∧(c2 false) x=cs:=by
 obtain ⟨_,_,rfl,h0,h⟩:=h
 obtain ⟨_,_,rfl,h1,h⟩:=h
 obtain rfl:=h
 obtain ⟨x0,w0,rfl⟩:=z6g h0
 obtain ⟨x1,w1,rfl⟩:=z6g h1
 exact ⟨⟨x0,x1⟩,⟨w0,w1⟩,rfl⟩
abbrev zde:Ty:=.sl 2 16 za3
def zda (R:Nat→Nat→Prop) (x:List Xb):Prop:=R x.length 16∧∀ y ∈ x,za2 R y
theorem zle {R:Nat→Nat→Prop} {cs:List AV} (h:OfTy R zde cs):∃ x:List Xb,zda R x∧[.im 2 (x.map (c2 false))]=cs:=by
 obtain ⟨xs,rfl,h1,h2⟩:=h
 obtain ⟨ys,h3,rfl⟩:=z9o (c:=(c2 false)) (fun _ h=>ze1 h) h1
 exact ⟨ys,⟨by simpa using h2,h3⟩,rfl⟩
abbrev zoq:Ty:=.bool
def zop (_:Nat→Nat→Prop) (x:Bool):Prop:=True
theorem zyl {R:Nat→Nat→Prop} {cs:List AV} (h:OfTy R zoq cs):∃ x:Bool,zop R x∧[.sc (.bool x)]=cs:=by
 obtain ⟨b,rfl⟩:=h
 exact ⟨b,trivial,rfl⟩
abbrev zt9:Ty:=.int .u32
def zlu (_:Nat→Nat→Prop) (x:Int):Prop:=(Lit.int .u32 x).wf=true
theorem y3x {R:Nat→Nat→Prop} {cs:List AV} (h:OfTy R zt9 cs):∃ x:Int,zlu R x∧[.sc (.int .u32 x)]=cs:=by
 obtain ⟨n,rfl,h⟩:=h
 exact ⟨n,h,rfl⟩
abbrev zeb:Ty:=.st (.cons za3 (.cons zoq (.cons zt9 (.cons z61 (.nil)))))
structure ze9 (R:Nat→Nat→Prop) (x:Xc):Prop where
 Type_:za2 R x.Type_
 Keep_:zop R x.Keep_
 Bits_:zlu R x.Bits_
 Int_:z55 R x.Int_
theorem zo6 {R:Nat→Nat→Prop} {cs:List AV} (h:OfTy R zeb cs):∃ x:Xc,ze9 R x∧(c3 false) x=cs:=by
 obtain ⟨_,_,rfl,h0,h⟩:=h
 obtain ⟨_,_,rfl,h1,h⟩:=h
 obtain ⟨_,_,rfl,h2,h⟩:=h
 obtain ⟨_,_,rfl,h3,h⟩:=h
 obtain rfl:=h
 obtain ⟨x0,w0,rfl⟩:=ze1 h0
 obtain ⟨x1,w1,rfl⟩:=zyl h1
 obtain ⟨x2,w2,rfl⟩:=y3x h2
 obtain ⟨x3,w3,rfl⟩:=z6g h3
 exact ⟨⟨x0,x1,x2,x3⟩,⟨w0,w1,w2,w3⟩,rfl⟩
abbrev zdd:Ty:=.sl 5 32 zeb
def zd9 (R:Nat→Nat→Prop) (x:List Xc):Prop:=R x.length 32∧∀ y ∈ x,ze9 R y
theorem zld {R:Nat→Nat→Prop} {cs:List AV} (h:OfTy R zdd cs):∃ x:List Xc,zd9 R x∧[.im 5 (x.map (c3 false))]=cs:=by
 obtain ⟨xs,rfl,h1,h2⟩:=h
 obtain ⟨ys,h3,rfl⟩:=z9o (c:=(c3 false)) (fun _ h=>zo6 h) h1
 exact ⟨ys,⟨by simpa using h2,h3⟩,rfl⟩
abbrev zea:Ty:=.st (.cons z61 (.cons z61 (.cons z61 (.cons z61 (.cons z61 (.cons z61 (.cons zt9 (.nil))))))))
structure ze8 (R:Nat→Nat→Prop) (x:Xd):Prop where
 Op_:z55 R x.Op_
 D_:z55 R x.D_
 A_:z55 R x.A_
 B_:z55 R x.B_
 C_:z55 R x.C_
 N_:z55 R x.N_
 Bits_:zlu R x.Bits_
theorem zo5 {R:Nat→Nat→Prop} {cs:List AV} (h:OfTy R zea cs):∃ x:Xd,ze8 R x∧(c4 false) x=cs:=by
 obtain ⟨_,_,rfl,h0,h⟩:=h
 obtain ⟨_,_,rfl,h1,h⟩:=h
 obtain ⟨_,_,rfl,h2,h⟩:=h
 obtain ⟨_,_,rfl,h3,h⟩:=h
 obtain ⟨_,_,rfl,h4,h⟩:=h
 obtain ⟨_,_,rfl,h5,h⟩:=h
 obtain ⟨_,_,rfl,h6,h⟩:=h
 obtain rfl:=h
 obtain ⟨x0,w0,rfl⟩:=z6g h0
 obtain ⟨x1,w1,rfl⟩:=z6g h1
 obtain ⟨x2,w2,rfl⟩:=z6g h2
 obtain ⟨x3,w3,rfl⟩:=z6g h3
 obtain ⟨x4,w4,rfl⟩:=z6g h4
 obtain ⟨x5,w5,rfl⟩:=z6g h5
 obtain ⟨x6,w6,rfl⟩:=y3x h6
 exact ⟨⟨x0,x1,x2,x3,x4,x5,x6⟩,⟨w0,w1,w2,w3,w4,w5,w6⟩,rfl⟩
abbrev zdc:Ty:=.sl 7 56 zea
def zd8 (R:Nat→Nat→Prop) (x:List Xd):Prop:=R x.length 56∧∀ y ∈ x,ze8 R y
theorem zlc {R:Nat→Nat→Prop} {cs:List AV} (h:OfTy R zdc cs):∃ x:List Xd,zd8 R x∧[.im 7 (x.map (c4 false))]=cs:=by
 obtain ⟨xs,rfl,h1,h2⟩:=h
 obtain ⟨ys,h3,rfl⟩:=z9o (c:=(c4 false)) (fun _ h=>zo5 h) h1
 exact ⟨ys,⟨by simpa using h2,h3⟩,rfl⟩
abbrev y_T_api_Code:Ty:=.st (.cons zbx (.cons zde (.cons zdd (.cons zdc (.nil)))))
structure za1 (R:Nat→Nat→Prop) (x:Xe):Prop where
 Sign_:zbw R x.Sign_
 Regs_:zda R x.Regs_
 Slots_:zd9 R x.Slots_
 List_:zd8 R x.List_
theorem r_T_api_Code {R:Nat→Nat→Prop} {cs:List AV} (h:OfTy R y_T_api_Code cs):∃ x:Xe,za1 R x∧(c10 false) x=cs:=by
 obtain ⟨_,_,rfl,h0,h⟩:=h
 obtain ⟨_,_,rfl,h1,h⟩:=h
 obtain ⟨_,_,rfl,h2,h⟩:=h
 obtain ⟨_,_,rfl,h3,h⟩:=h
 obtain rfl:=h
 obtain ⟨x0,w0,rfl⟩:=zjg h0
 obtain ⟨x1,w1,rfl⟩:=zle h1
 obtain ⟨x2,w2,rfl⟩:=zld h2
 obtain ⟨x3,w3,rfl⟩:=zlc h3
 exact ⟨⟨x0,x1,x2,x3⟩,⟨w0,w1,w2,w3⟩,rfl⟩
abbrev y49:Ty:=.int .u64
def zt7 (_:Nat→Nat→Prop) (x:Int):Prop:=(Lit.int .u64 x).wf=true
theorem ycf {R:Nat→Nat→Prop} {cs:List AV} (h:OfTy R y49 cs):∃ x:Int,zt7 R x∧[.sc (.int .u64 x)]=cs:=by
 obtain ⟨n,rfl,h⟩:=h
 exact ⟨n,h,rfl⟩
abbrev y_T_lathelaw24_Harm:Ty:=.st (.cons zoq (.cons z61 (.cons y49 (.nil))))
structure z7e (R:Nat→Nat→Prop) (x:Xf):Prop where
 Cut_:zop R x.Cut_
 At_:z55 R x.At_
 Bits_:zt7 R x.Bits_
theorem r_T_lathelaw24_Harm {R:Nat→Nat→Prop} {cs:List AV} (h:OfTy R y_T_lathelaw24_Harm cs):∃ x:Xf,z7e R x∧(c11 false) x=cs:=by
 obtain ⟨_,_,rfl,h0,h⟩:=h
 obtain ⟨_,_,rfl,h1,h⟩:=h
 obtain ⟨_,_,rfl,h2,h⟩:=h
 obtain rfl:=h
 obtain ⟨x0,w0,rfl⟩:=zyl h0
 obtain ⟨x1,w1,rfl⟩:=z6g h1
 obtain ⟨x2,w2,rfl⟩:=ycf h2
 exact ⟨⟨x0,x1,x2⟩,⟨w0,w1,w2⟩,rfl⟩
theorem zz1 {R:Nat→Nat→Prop} {x:Int} (h:zlu R x):0≤x∧x<4294967296:=by
 have h:(Lit.int .u32 x).wf=true:=h
 simp [Lit.wf] at h
 have e1:IntKind.u32.min=0:=by decide
 have e2:IntKind.u32.max=4294967295:=by decide
 omega
theorem i64_in {R:Nat→Nat→Prop} {x:Int} (h:z55 R x):x<9223372036854775808:=by
 have h:(Lit.int .i64 x).wf=true:=h
 simp [Lit.wf] at h
 have e2:IntKind.i64.max=9223372036854775807:=by decide
 omega
theorem zgl {a:Xe} (h:za1 RSaid a):zry a∧U32s a∧∀ i ∈ a.List_,z29 i :=
 ⟨⟨Nat.le_trans h.Sign_.1 (by decide),Nat.le_trans h.Regs_.1 (by decide),Nat.le_trans h.Slots_.1 (by decide),Nat.le_trans h.List_.1 (by decide)⟩,⟨fun s hs=>zz1 (h.Slots_.2 s hs).Bits_,fun i hi=>zz1 (h.List_.2 i hi).Bits_⟩,
  fun i hi=>let w:=h.List_.2 i hi; ⟨i64_in w.D_,i64_in w.A_,i64_in w.B_,i64_in w.C_,i64_in w.N_⟩⟩
theorem y9u {R:Nat→Nat→Prop} {x:Int} (h:zt7 R x):0≤x:=by
 have h:(Lit.int .u64 x).wf=true:=h
 simp [Lit.wf] at h
 have e1:IntKind.u64.min=0:=by decide
 omega
theorem pureCodeDamage (a:Xe) (b:Xf) (h:za1 RSaid a) (k:z7e RSaid b):∃ n,f236 n (a,b)=some true:=⟨_,y5l a b (zgl h).1 (zgl h).2.1 (zgl h).2.2 (y9u k.Bits_)⟩
end Loom
