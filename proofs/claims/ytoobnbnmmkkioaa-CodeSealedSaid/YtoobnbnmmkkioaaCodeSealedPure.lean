/- The plain law of CodeSealed: what it answers is true,whatever it is handed (part 1 of 1). -/
import Derived.Test.YtoobnbnmmkkioaaCodeSealedWvB
set_option linter.unusedVariables false
set_option linter.unusedSimpArgs false
set_option linter.unusedSectionVars false
set_option maxRecDepth 100000
namespace Loom
open Go
theorem y4a (n:Nat):f231 (n+100) ()=some true:=by kernel_rfl
theorem zz3 {n:Nat} (h:100≤n):f231 n ()=some true:=by
 obtain ⟨m,rfl⟩:∃ m,n=m+100:=⟨n - 100,by omega⟩
 exact y4a m
@[simp] theorem orRet_inl {S R:Type} {A:S→Option R} {s:S}:zi A (.inl s)=A s:=rfl
@[simp] theorem orRet_inr {S R:Type} {A:S→Option R} {r:R}:zi A (.inr r)=some r:=rfl
theorem zh {R:Type} {p:Prop} [Decidable p] {x:Option R} (h:p):need p x=x:=by unfold need; rw [if_pos h]
def mayT (l:List Xa) (t:Xb):Bool :=
 bif t.Kind_==3 then decide (t.Param_≥0) && decide (t.Param_<(l.length:Int)) else (t.Kind_==1 || t.Kind_==2) && t.Param_==0
theorem zs6 {n:Nat} (c:Xe) (t:Xb):f31 n (c,t)=some (mayT c.Sign_ t):=by
 rw [y5c]
 unfold mayT
 by_cases h1:t.Kind_=1
 ·simp [h1]
 ·by_cases h2:t.Kind_=2
  ·simp [h2]
  ·by_cases h3:t.Kind_=3
   ·by_cases h4:t.Param_≥0 <;> simp [h3,h4]
   ·have e1:(t.Kind_==1)=false:=by simpa using h1
    have e2:(t.Kind_==2)=false:=by simpa using h2
    have e3:(t.Kind_==3)=false:=by simpa using h3
    simp [e1,e2,e3]
theorem zs8 {n:Nat} (l:List Xa) (t:Xb):f39 n (t,l)=some (mayT l t):=by
 rw [y5m]
 unfold mayT
 by_cases h1:t.Kind_=1
 ·simp [h1]
 ·by_cases h2:t.Kind_=2
  ·simp [h2]
  ·by_cases h3:t.Kind_=3
   ·by_cases h4:t.Param_≥0 <;> simp [h3,h4]
   ·have e1:(t.Kind_==1)=false:=by simpa using h1
    have e2:(t.Kind_==2)=false:=by simpa using h2
    have e3:(t.Kind_==3)=false:=by simpa using h3
    simp [e1,e2,e3]
def z69 (x:Int):Bool:=decide (x % 2147483648≤2139095040) || x==2143289344
theorem zrm {m:Nat} (h:m<4294967296):IntKind.u32.wrap (m:Int)=m:=by
 have:IntKind.u32.wrap (m:Int)=(m:Int) % 4294967296:=by simp [IntKind.wrap,IntKind.bits,IntKind.signed]
 omega
theorem y8h (x:Int) (h0:0≤x) (h1:x<4294967296):(BitVec.ofInt IntKind.u32.bits x &&& ~~~BitVec.ofInt IntKind.u32.bits 2147483648).toNat=x.toNat % 2147483648:=by
 show (BitVec.ofInt 32 x &&& ~~~BitVec.ofInt 32 2147483648).toNat=_
 have e:(~~~BitVec.ofInt 32 2147483648:BitVec 32)=2147483647#32:=by decide
 rw [e,BitVec.toNat_and]
 have e2:(2147483647#32).toNat=2 ^ 31 - 1:=by decide
 rw [e2,Nat.and_two_pow_sub_one_eq_mod]
 have e3:(BitVec.ofInt 32 x).toNat=x.toNat:=by
  rw [BitVec.toNat_ofInt]
  omega
 rw [e3]
theorem zsb {n:Nat} (x:Int) (h0:0≤x) (h1:x<4294967296):f52 n x=some (z69 x):=by
 rw [y5x,y8h x h0 h1,zrm (by omega)]
 unfold z69
 have:((x.toNat % 2147483648:Nat):Int)=x % 2147483648:=by omega
 rw [this]
 cases decide (x % 2147483648≤2139095040) <;> rfl
theorem z1t {m:Int} (h0:0≤m) (h:m<18446744073709551616):IntKind.u64.wrap m=m:=by
 have:IntKind.u64.wrap m=m % 18446744073709551616:=by simp [IntKind.wrap,IntKind.bits,IntKind.signed]
 omega
theorem zqc (x:Int) (k:Nat) (hk:k<64) (h0:0≤x) (h1:x<18446744073709551616):(BitVec.ofInt IntKind.u64.bits x &&& BitVec.ofInt IntKind.u64.bits ((2 ^ k - 1:Nat):Int)).toNat=x.toNat % 2 ^ k:=by
 show (BitVec.ofInt 64 x &&& BitVec.ofInt 64 _).toNat=_
 rw [BitVec.toNat_and]
 have hp:2 ^ k<2 ^ 64:=Nat.pow_lt_pow_right (by decide) hk
 have e2:(BitVec.ofInt 64 ((2 ^ k - 1:Nat):Int)).toNat=2 ^ k - 1:=by
  rw [BitVec.toNat_ofInt]
  have:(0:Nat)<2 ^ k:=Nat.two_pow_pos k
  omega
 have e3:(BitVec.ofInt 64 x).toNat=x.toNat:=by
  rw [BitVec.toNat_ofInt]
  omega
 rw [e2,e3,Nat.and_two_pow_sub_one_eq_mod]
theorem y3h {n:Nat} (x:Int) (h0:0≤x) (h1:x<4294967296):∃ r,f69 n x=some r∧r.2.2.2.2=(decide (x / 8388608 % 256=255) && decide (x % 8388608 ≠ 0)):=by
 rw [y6q]
 have e0:IntKind.u64.wrap x=x:=z1t h0 (by omega)
 have e1:x.fdiv (2 ^ min (23:Int).toNat IntKind.u64.bits)=x / 8388608:=by
  show x.fdiv 8388608=_
  rw [Int.fdiv_eq_ediv_of_nonneg _ (by decide)]
 have e2:(BitVec.ofInt IntKind.u64.bits (x / 8388608) &&& BitVec.ofInt IntKind.u64.bits (255:Int)).toNat=(x / 8388608).toNat % 256:=zqc (x / 8388608) 8 (by decide) (by omega) (by omega)
 have e3:(BitVec.ofInt IntKind.u64.bits x &&& BitVec.ofInt IntKind.u64.bits (8388607:Int)).toNat=x.toNat % 8388608:=zqc x 23 (by decide) (by omega) (by omega)
 simp only [e0,e1,e2,e3]
 rw [z1t (m:=(((x / 8388608).toNat % 256:Nat):Int)) (by omega) (by omega),z1t (m:=((x.toNat % 8388608:Nat):Int)) (by omega) (by omega),z30 (by omega) (by omega)]
 have c1:(((x / 8388608).toNat % 256:Nat):Int)=x / 8388608 % 256:=by omega
 have c2:((x.toNat % 8388608:Nat):Int)=x % 8388608:=by omega
 rw [c1,c2]
 by_cases h:x / 8388608 % 256=255
 ·have q:(x / 8388608 % 256==255)=true:=by simp [h]
  simp only [q,cond_true,Option.bind_some,orRet_inl]
  refine ⟨_,rfl,?_⟩
  rw [decide_eq_true h,Bool.true_and]
  show (x % 8388608 != 0)=_
  by_cases h3:x % 8388608=0 <;> simp [h3]
 ·have q:(x / 8388608 % 256==255)=false:=by simp [h]
  simp only [q,cond_false]
  cases (x / 8388608 % 256==0)
  all_goals
   simp only [cond_false,cond_true,Option.bind_some,orRet_inl]
   refine ⟨_,rfl,?_⟩
   rw [decide_eq_false h,Bool.false_and]
theorem zsd {n:Nat} (x:Int) (h0:0≤x) (h1:x<4294967296):f58 n x=some (z69 x):=by
 have w:IntKind.i64.wrap x=x:=z30 (by omega) (by omega)
 obtain ⟨r,e,e'⟩:=y3h (n:=n) x h0 h1
 rw [y67,w,y6k,e]
 simp only [Option.bind_some,e']
 unfold z69
 by_cases h:x / 8388608 % 256=255∧x % 8388608 ≠ 0
 ·have q:(decide (x / 8388608 % 256=255) && decide (x % 8388608 ≠ 0))=true:=by simp [h]
  have q2:decide (x % 2147483648≤2139095040)=false:=by simp; omega
  rw [q,q2]
  simp only [cond_true,Option.bind_some,Bool.false_or]
  congr 1
  rw [Bool.eq_iff_iff]
  simp
  omega
 ·have q:(decide (x / 8388608 % 256=255) && decide (x % 8388608 ≠ 0))=false:=by
   rw [Bool.eq_false_iff]
   intro hb
   simp only [Bool.and_eq_true,decide_eq_true_eq] at hb
   exact h hb
  have q2:decide (x % 2147483648≤2139095040)=true:=by simp; omega
  rw [q,q2]
  simp
def mayS (l:List Xa) (s:Xc):Bool :=
 mayT l s.Type_ && (bif s.Type_.Kind_==2 then s.Bits_==0 && (decide (s.Int_≥0) && decide (s.Int_≤2147483647)) else s.Int_==0 && z69 s.Bits_)
theorem y5h {n:Nat} (c:Xe) (s:Xc) (h0:0≤s.Bits_) (h1:s.Bits_<4294967296):f34 n (c,s)=some (mayS c.Sign_ s):=by
 rw [y5g,zs6,zsb _ h0 h1]
 unfold mayS
 simp only [Option.bind_some]
 cases mayT c.Sign_ s.Type_ <;> cases (s.Type_.Kind_==2) <;> cases (s.Bits_==0) <;> cases (s.Int_==0) <;> cases decide (s.Int_≥0) <;> rfl
theorem y5o {n:Nat} (l:List Xa) (s:Xc) (h0:0≤s.Bits_) (h1:s.Bits_<4294967296):f40 n (s,l)=some (mayS l s):=by
 rw [y5n,zs8,zsd _ h0 h1]
 unfold mayS
 simp only [Option.bind_some]
 cases mayT l s.Type_ <;> cases (s.Type_.Kind_==2) <;> cases (s.Bits_==0) <;> cases (s.Int_==0) <;> cases decide (s.Int_≥0) <;> rfl
structure z3i where
 d:Int
 a:Int
 b:Int
 c:Int
 n:Int
def rowD (op:Int):Option z3i :=
 bif op==1 then some ⟨1,0,0,0,0⟩ else
 bif op==2 then some ⟨2,0,0,0,1⟩ else
 bif op==3 then some ⟨8,7,0,0,0⟩ else
 bif op==4 then some ⟨4,5,5,0,0⟩ else
 bif op==5 then some ⟨4,5,5,0,0⟩ else
 bif op==6 then some ⟨4,5,5,0,0⟩ else
 bif op==7 then some ⟨4,5,5,0,0⟩ else
 bif op==8 then some ⟨4,5,5,0,0⟩ else
 bif op==9 then some ⟨4,5,5,0,0⟩ else
 bif op==10 then some ⟨4,5,5,0,0⟩ else
 bif op==11 then some ⟨4,5,0,0,0⟩ else
 bif op==12 then some ⟨4,5,0,0,0⟩ else
 bif op==13 then some ⟨4,5,0,0,0⟩ else
 bif op==14 then some ⟨4,5,0,0,0⟩ else
 bif op==15 then some ⟨4,5,5,5,0⟩ else
 bif op==16 then some ⟨1,1,2,0,0⟩ else
 bif op==17 then some ⟨1,2,0,0,0⟩ else
 bif op==18 then some ⟨2,1,0,0,0⟩ else
 bif op==19 then some ⟨1,3,0,0,0⟩ else
 bif op==20 then some ⟨1,3,0,0,0⟩ else
 bif op==21 then some ⟨2,2,0,0,0⟩ else
 bif op==22 then some ⟨2,2,2,0,0⟩ else
 bif op==23 then some ⟨2,2,2,0,0⟩ else
 bif op==24 then some ⟨2,2,2,0,0⟩ else
 bif op==25 then some ⟨2,2,0,0,0⟩ else
 bif op==26 then some ⟨2,2,2,2,0⟩ else
 bif op==27 then some ⟨2,2,2,0,0⟩ else
 bif op==28 then some ⟨2,2,2,0,0⟩ else
 bif op==29 then some ⟨3,0,0,0,2⟩ else
 bif op==30 then some ⟨3,0,0,0,2⟩ else
 bif op==31 then some ⟨0,3,0,0,2⟩ else
 bif op==32 then some ⟨8,0,0,0,3⟩ else
 bif op==33 then some ⟨0,8,0,0,3⟩ else
 bif op==34 then some ⟨0,2,0,0,0⟩ else
 bif op==35 then some ⟨0,0,0,0,0⟩ else
 bif op==36 then some ⟨0,0,0,0,4⟩ else
 bif op==37 then some ⟨0,0,0,0,0⟩ else
 none
theorem z4z (op:Int):(op=1∨op=2∨op=3∨op=4∨op=5∨op=6∨op=7∨op=8∨op=9∨op=10∨op=11∨op=12∨op=13∨op=14∨op=15∨op=16∨op=17∨op=18∨op=19∨op=20∨op=21∨op=22∨op=23∨op=24∨op=25∨op=26∨op=27∨op=28∨op=29∨op=30∨op=31∨op=32∨op=33∨op=34∨op=35∨op=36∨op=37)∨(∀ k:Int,1≤k→k≤37→(op==k)=false):=by
 by_cases h:1≤op∧op≤37
 ·left; omega
 ·right
  intro k h1 h2
  simp only [beq_eq_false_iff_ne,ne_eq]
  omega
theorem zky {n:Nat} (op:Int):f26 n op=some (match rowD op with | some r=>(true,r.d,r.a,r.b,r.c,r.n) | none=>(false,0,0,0,0,0)):=by
 rw [y56]
 rcases z4z op with (rfl | rfl | rfl | rfl | rfl | rfl | rfl | rfl | rfl | rfl | rfl | rfl | rfl | rfl | rfl | rfl | rfl | rfl | rfl | rfl | rfl | rfl | rfl | rfl | rfl | rfl | rfl | rfl | rfl | rfl | rfl | rfl | rfl | rfl | rfl | rfl | rfl) | h
 iterate 37 (· kernel_rfl)
 simp (discharger:=decide) only [rowD,h,cond_false,Option.bind_some,orRet_inl]
def z40 (s:Int):UInt8:=bif s==1 then 110 else bif s==2 then 119 else bif s==3 then 118 else bif s==4 then 100 else bif s==5 then 120 else bif s==7 then 99 else bif s==8 then 97 else 45
def z61 (s:Int):UInt8:=bif s==1 then 105 else bif s==2 then 112 else bif s==3 then 115 else bif s==4 then 113 else 45
def z3a (r:z3i):ByteArray:=⟨#[z40 r.d,z40 r.a,z40 r.b,z40 r.c,z61 r.n]⟩
theorem zcu {n:Nat} (op:Int):f27 n op=some (match rowD op with | some r=>(z3a r,true) | none=>(⟨#[]⟩,false)):=by
 rw [y57]
 rcases z4z op with (rfl | rfl | rfl | rfl | rfl | rfl | rfl | rfl | rfl | rfl | rfl | rfl | rfl | rfl | rfl | rfl | rfl | rfl | rfl | rfl | rfl | rfl | rfl | rfl | rfl | rfl | rfl | rfl | rfl | rfl | rfl | rfl | rfl | rfl | rfl | rfl | rfl) | h
 iterate 37 (· kernel_rfl)
 simp (discharger:=decide) only [rowD,h,cond_false,Option.bind_some,orRet_inl]
theorem z3c {op:Int} (h:∀ k:Int,1≤k→k≤37→(op==k)=false):rowD op=none:=by
 simp (discharger:=decide) only [rowD,h,cond_false]
def z1p (i:Xd):List Int:=match rowD i.Op_ with
 | some r=>(bif r.a==0 then [] else [i.A_])++((bif r.b==0 then [] else [i.B_])++(bif r.c==0 then [] else [i.C_]))
 | none=>[]
def sets (i:Xd):Bool:=match rowD i.Op_ with | some r=>!(r.d==0) | none=>false
theorem zqo (m:Nat) (i:Xd):f9 (m+4) i=some (z1p i):=by
 obtain ⟨op,d,a,b,c,N,bits⟩:=i
 rcases z4z op with (rfl | rfl | rfl | rfl | rfl | rfl | rfl | rfl | rfl | rfl | rfl | rfl | rfl | rfl | rfl | rfl | rfl | rfl | rfl | rfl | rfl | rfl | rfl | rfl | rfl | rfl | rfl | rfl | rfl | rfl | rfl | rfl | rfl | rfl | rfl | rfl | rfl) | h
 iterate 37 (· kernel_rfl)
 rw [y8l,zky]
 simp only [z1p,z3c h]
 kernel_rfl
theorem y4n (m:Nat) (i:Xd):f10 (m+4) i=some (z1p i):=by
 obtain ⟨op,d,a,b,c,N,bits⟩:=i
 rcases z4z op with (rfl | rfl | rfl | rfl | rfl | rfl | rfl | rfl | rfl | rfl | rfl | rfl | rfl | rfl | rfl | rfl | rfl | rfl | rfl | rfl | rfl | rfl | rfl | rfl | rfl | rfl | rfl | rfl | rfl | rfl | rfl | rfl | rfl | rfl | rfl | rfl | rfl) | h
 iterate 37 (· kernel_rfl)
 rw [y4m,zcu]
 simp only [z1p,z3c h]
 kernel_rfl
theorem zkq (n:Nat) (i:Xd):f11 n i=some (sets i):=by
 obtain ⟨op,d,a,b,c,N,bits⟩:=i
 rcases z4z op with (rfl | rfl | rfl | rfl | rfl | rfl | rfl | rfl | rfl | rfl | rfl | rfl | rfl | rfl | rfl | rfl | rfl | rfl | rfl | rfl | rfl | rfl | rfl | rfl | rfl | rfl | rfl | rfl | rfl | rfl | rfl | rfl | rfl | rfl | rfl | rfl | rfl) | h
 iterate 37 (· kernel_rfl)
 rw [y4o,zky]
 simp only [sets,z3c h]
 kernel_rfl
theorem y4q (n:Nat) (i:Xd):f12 n i=some (sets i):=by
 obtain ⟨op,d,a,b,c,N,bits⟩:=i
 rcases z4z op with (rfl | rfl | rfl | rfl | rfl | rfl | rfl | rfl | rfl | rfl | rfl | rfl | rfl | rfl | rfl | rfl | rfl | rfl | rfl | rfl | rfl | rfl | rfl | rfl | rfl | rfl | rfl | rfl | rfl | rfl | rfl | rfl | rfl | rfl | rfl | rfl | rfl) | h
 iterate 37 (· kernel_rfl)
 rw [y4p,zcu]
 simp only [sets,z3c h]
 kernel_rfl
def elem (op:Int):Bool:=bif decide (op≥3) then decide (op≤15) else false
theorem y4s (n:Nat) (op:Int):f13 n op=some (elem op):=by
 rw [y4r]; unfold elem; cases decide (op≥3) <;> rfl
theorem y4u (n:Nat) (op:Int):f14 n op=some (elem op):=by
 rw [y4t]; unfold elem; cases decide (op≥3) <;> rfl
abbrev ty0:Xb:=⟨0,0⟩
def eqTy (t d:Xb):Bool:=t.Kind_==d.Kind_ && (t.Param_==d.Param_ && true)
def isS (t:Xb) (s:Int) (d:Xb):Bool :=
 bif s==1 then t.Kind_==1 else bif s==2 then t.Kind_==2 else bif s==3 then t.Kind_==3 else bif s==4 then t.Kind_ != 2 else
 bif s==5 then (t.Kind_==1 || eqTy t d) else bif s==7 then (eqTy t d || (t.Kind_==1 && d.Kind_==3)) else true
theorem y61 {n:Nat} (t:Xb) (s:Int) (d:Xb) (h:s ≠ 6):f54 n (t,s,d)=some (isS t s d):=by
 have h6:(s==6)=false:=by simpa using h
 rw [y60]
 unfold isS eqTy
 simp only [h6,cond_false]
 cases (s==1) <;> cases (s==2) <;> cases (s==3) <;> cases (s==4) <;> cases (s==5) <;> cases (s==7) <;> cases (t.Kind_==1) <;> cases (t.Kind_==d.Kind_ && (t.Param_==d.Param_ && true)) <;> cases (d.Kind_==3) <;> rfl
theorem z34 {α:Type} {l:List α} {n:Int} (h:n<0∨n≥l.length):idx l n=none:=by
 unfold idx
 split
 ·rcases h with h | h
  ·omega
  ·rw [List.getElem?_eq_none]; omega
 ·rfl
theorem z6u {α:Type} {l:List α} {n:Int} (h0:0≤n) (h1:n<l.length):∃ y,idx l n=some y∧y ∈ l:=by
 unfold idx
 rw [if_pos h0]
 have:n.toNat<l.length:=by omega
 exact ⟨l[n.toNat],by simp [this],List.getElem_mem this⟩
theorem zhu {α:Type} {l:List α} {n:Int} {y:α} (h:idx l n=some y):y ∈ l∧0≤n∧n<l.length:=by
 unfold idx at h
 split at h
 ·rename_i h0
  obtain ⟨h1,h2⟩:=List.getElem?_eq_some_iff.1 h
  exact ⟨h2 ▸ List.getElem_mem h1,h0,by omega⟩
 ·cases h
theorem y5z {n:Nat} (a:List Xa) (b:List Xb) (c:List Xc) (d:List Xd) (e:List Bool) (f:List (List Int)) (g:List Int) (k:Int) :
  f53 n (a,b,c,d,e,f,g,k)=some (match idx b k with | some t=>(true,a,b,c,d,e,f,g,t.Kind_,t.Param_) | none=>(false,a,b,c,d,e,f,g,0,0)):=by
 rw [y5y]
 by_cases h:k<0
 ·rw [z34 (.inl h)]; simp [h]
 ·by_cases h2:k≥b.length
  ·rw [z34 (.inr h2)]; simp [h,h2]
  ·obtain ⟨y,hy,_⟩:=z6u (l:=b) (n:=k) (by omega) (by omega)
   rw [hy]
   have e1:decide (k<0)=false:=by simpa using h
   have e2:decide (k≥(b.length:Int))=false:=by simp; omega
   simp [e1,e2,hy]
theorem y6s {n:Nat} (c:Xe) (k:Int):f70 n (c,k)=some (match idx c.Regs_ k with | some t=>(true,t.Kind_,t.Param_) | none=>(false,0,0)):=by
 rw [y6r]
 by_cases h:k<0
 ·rw [z34 (.inl h)]; simp [h]
 ·by_cases h2:k≥c.Regs_.length
  ·rw [z34 (.inr h2)]; simp [h,h2]
  ·obtain ⟨y,hy,_⟩:=z6u (l:=c.Regs_) (n:=k) (by omega) (by omega)
   rw [hy]
   have e1:decide (k<0)=false:=by simpa using h
   have e2:decide (k≥(c.Regs_.length:Int))=false:=by simp; omega
   simp [e1,e2,hy]
theorem zjh {l:List Xa} {t:Xb} (h:mayT l t=true):t.Kind_=1∨t.Kind_=2∨(t.Kind_=3∧0≤t.Param_∧t.Param_<l.length):=by
 unfold mayT at h
 by_cases h3:t.Kind_=3
 ·simp [h3] at h
  exact .inr (.inr ⟨h3,h.1,h.2⟩)
 ·have e3:(t.Kind_==3)=false:=by simpa using h3
  rw [e3] at h
  simp at h
  rcases h.1 with h | h
  ·exact .inl h
  ·exact .inr (.inl h)
def z1f (c:Xe) (s k:Int) (d:Xb):Bool:=bif s==0 then k==0 else match idx c.Regs_ k with | none=>false | some t=>isS t s d
def z36 (s:Int):Prop:=s=0∨s=1∨s=2∨s=3∨s=4∨s=5∨s=7∨s=8
theorem zg9 {n:Nat} {c:Xe} {s k:Int} {d:Xb} (hs:z36 s) (hr:∀ t ∈ c.Regs_,mayT c.Sign_ t=true):f66 n (c,((z40 s).toNat:Int),k,d)=some (z1f c s k d):=by
 rw [y6l,y6s]
 unfold z1f
 cases hi:idx c.Regs_ k with
 | none=>rcases hs with rfl | rfl | rfl | rfl | rfl | rfl | rfl | rfl <;> kernel_rfl
 | some t =>
  have hk:=zjh (hr t (zhu hi).1)
  rcases hs with rfl | rfl | rfl | rfl | rfl | rfl | rfl | rfl
  ·rfl
  ·rfl
  ·rfl
  ·rfl
  ·rcases hk with h | h | ⟨h,_⟩ <;> simp [h,z40,isS]
  ·show (bif t.Kind_==1 then some true else some (eqTy t d))=some (t.Kind_==1 || eqTy t d)
   cases (t.Kind_==1) <;> rfl
  ·show (bif eqTy t d then some true else bif t.Kind_==1 then some (d.Kind_==3) else some false)=some (eqTy t d || (t.Kind_==1 && d.Kind_==3))
   cases eqTy t d <;> cases (t.Kind_==1) <;> rfl
  ·rfl
theorem ze5 {op:Int} {r:z3i} (h:rowD op=some r):(z36 r.d∧z36 r.a∧z36 r.b∧z36 r.c)∧((r.n=0∨r.n=1∨r.n=3∨r.n=4)∨r.n=2∧(r.d=3∨r.d=0∧r.a=3)):=by
 rcases z4z op with (rfl | rfl | rfl | rfl | rfl | rfl | rfl | rfl | rfl | rfl | rfl | rfl | rfl | rfl | rfl | rfl | rfl | rfl | rfl | rfl | rfl | rfl | rfl | rfl | rfl | rfl | rfl | rfl | rfl | rfl | rfl | rfl | rfl | rfl | rfl | rfl | rfl) | h0
 iterate 37 (· cases h; simp [z36])
 rw [z3c h0] at h; cases h
def tyD (c:Xe) (r:z3i) (i:Xd):Xb:=bif r.d==0 then ty0 else (idx c.Regs_ i.D_).getD ty0
def tyF (c:Xe) (r:z3i) (i:Xd):Xb:=bif r.d==0 then (bif r.a==0 then ty0 else (idx c.Regs_ i.A_).getD ty0) else (idx c.Regs_ i.D_).getD ty0
def nOk (c:Xe) (s N:Int) (t:Xb):Bool :=
 bif s==1 then decide (N≥0) && decide (N≤2147483647) else
 bif s==2 then (N==0 || (N==1 && (match idx c.Sign_ t.Param_ with | some p=>p.Kind_==2 | none=>false))) else
 bif s==3 then (match idx c.Slots_ N with | some z=>eqTy z.Type_ t | none=>false) else
 bif s==4 then decide (N≥0) && decide (N<(c.Sign_.length:Int)) else N==0
def z8w (i:Xd):Bool:=bif i.Op_==1 then z69 i.Bits_ else i.Bits_==0
def fits (c:Xe) (i:Xd):Bool:=match rowD i.Op_ with
 | none=>false
 | some r=>z1f c r.d i.D_ ty0 && (z1f c r.a i.A_ (tyD c r i) && (z1f c r.b i.B_ (tyD c r i) && (z1f c r.c i.C_ (tyD c r i) && (z8w i && nOk c r.n i.N_ (tyF c r i)))))
theorem y6n {n:Nat} {c:Xe} {N p:Int} (hp:0≤p∧p<c.Sign_.length):f67 n (c,N,p)=some (N==0 || (N==1 && (match idx c.Sign_ p with | some p=>p.Kind_==2 | none=>false))):=by
 rw [y6m]
 obtain ⟨y,hy,_⟩:=z6u (l:=c.Sign_) hp.1 hp.2
 rw [hy]
 cases (N==0) <;> cases (N==1) <;> simp
theorem isS3 {t d:Xb} (h:isS t 3 d=true):t.Kind_=3:=by simpa [isS] using h
theorem zpv {c:Xe} {i:Xd} {r:z3i} (hr:∀ t ∈ c.Regs_,mayT c.Sign_ t=true) (hp:r.d=3∨r.d=0∧r.a=3) (h1:z1f c r.d i.D_ ty0=true) (h2:z1f c r.a i.A_ (tyD c r i)=true):0≤(tyF c r i).Param_∧(tyF c r i).Param_<c.Sign_.length:=by
 have key:∀ (k:Int) (d:Xb),z1f c 3 k d=true→∃ t,idx c.Regs_ k=some t∧0≤t.Param_∧t.Param_<c.Sign_.length:=fun k d h=>by
  unfold z1f at h
  have e:((3:Int)==0)=false:=by decide
  rw [e,cond_false] at h
  split at h
  ·cases h
  ·rename_i t ht
   have h3:=isS3 h
   rcases zjh (hr t (zhu ht).1) with q | q | q
   ·omega
   ·omega
   ·exact ⟨t,ht,q.2⟩
 rcases hp with hp | ⟨hp,hq⟩
 ·rw [hp] at h1
  obtain ⟨t,ht,h⟩:=key _ _ h1
  unfold tyF
  rw [hp]
  simpa [ht] using h
 ·rw [hq] at h2
  obtain ⟨t,ht,h⟩:=key _ _ h2
  unfold tyF
  rw [hp,hq]
  simpa [ht] using h
theorem zjf {s:Int} (h:z36 s):(((z40 s).toNat:Int) != 45) = !(s==0):=by
 rcases h with rfl | rfl | rfl | rfl | rfl | rfl | rfl | rfl <;> rfl
theorem zws {s:Int} (h:z36 s):(((z40 s).toNat:Int)==45)=(s==0):=by
 rcases h with rfl | rfl | rfl | rfl | rfl | rfl | rfl | rfl <;> rfl
theorem za2 (r:z3i):((z3a r).size:Int)=5:=rfl
theorem y1z (r:z3i):za (z3a r) 0=((z40 r.d).toNat:Int):=rfl
theorem y2a (r:z3i):za (z3a r) 1=((z40 r.a).toNat:Int):=rfl
theorem yak (r:z3i):za (z3a r) 2=((z40 r.b).toNat:Int):=rfl
theorem yal (r:z3i):za (z3a r) 3=((z40 r.c).toNat:Int):=rfl
theorem y2b (r:z3i):za (z3a r) 4=((z61 r.n).toNat:Int):=rfl
theorem z7j {c:Xe} {s k:Int} {d:Xb} (h:z1f c s k d=true) (hs:(s==0)=false):∃ t,idx c.Regs_ k=some t:=by
 unfold z1f at h
 rw [hs,cond_false] at h
 split at h
 ·cases h
 ·rename_i t ht; exact ⟨t,ht⟩
theorem y69 {n:Nat} {c:Xe} {i:Xd} (hr:∀ t ∈ c.Regs_,mayT c.Sign_ t=true) (h0:0≤i.Bits_) (h1:i.Bits_<4294967296):f59 n (c,i)=some (fits c i):=by
 rw [y68,zcu]
 unfold fits
 cases h:rowD i.Op_ with
 | none=>rfl
 | some r =>
  obtain ⟨⟨s1,s2,s3,s4⟩,hn⟩:=ze5 h
  have n1:(0:Int)≤0∧(0:Int)<5:=by decide
  have n2:(0:Int)≤1∧(1:Int)<5:=by decide
  have n3:(0:Int)≤2∧(2:Int)<5:=by decide
  have n4:(0:Int)≤3∧(3:Int)<5:=by decide
  have n5:(0:Int)≤4∧(4:Int)<5:=by decide
  simp only [Option.bind_some,Bool.not_true,cond_false,zsd _ h0 h1]
  have hB:(bif (i.Op_ != 1) then (bif (i.Bits_ != 0) then some (Sum.inl (z3a r,true)) else some (Sum.inl (z3a r,!z69 i.Bits_))) else some (Sum.inl (z3a r,!z69 i.Bits_)):Option (ByteArray×Bool⊕Bool))=some (.inl (z3a r,!(z8w i))):=by
   unfold z8w
   by_cases q:i.Op_=1
   ·simp [q]
   ·by_cases q2:i.Bits_=0
    ·have:z69 0=true:=by decide
     simp [q,q2,this]
    ·have e1:(i.Op_==1)=false:=by simpa using q
     have e2:(i.Bits_==0)=false:=by simpa using q2
     simp [bne,e1,e2]
  rw [hB,Option.bind_some,orRet_inl]
  dsimp only
  cases hb:z8w i with
  | false=>simp
  | true =>
   simp only [Bool.not_true,cond_false,za2,zh n1,y1z,zjf s1,zg9 s1 hr,Option.bind_some]
   have hD:(bif !(r.d==0) then (bif !(z1f c r.d i.D_ ty0) then some (Sum.inr false) else (idx c.Regs_ i.D_).bind fun y5=>some (Sum.inl (z3a r,y5.Kind_,y5.Param_))) else (bif i.D_ != 0 then some (Sum.inr false) else some (Sum.inl (z3a r,0,0))):Option (ByteArray×Int×Int⊕Bool))
     = bif z1f c r.d i.D_ ty0 then some (.inl (z3a r,(tyD c r i).Kind_,(tyD c r i).Param_)) else some (.inr false):=by
    cases hz:r.d==0 with
    | true =>
     have:z1f c r.d i.D_ ty0=(i.D_==0):=by unfold z1f; rw [hz]; rfl
     rw [this]
     unfold tyD
     rw [hz]
     have e:(i.D_ != 0) = !(i.D_==0):=rfl
     rw [e]
     cases i.D_==0 <;> rfl
    | false =>
     cases hq:z1f c r.d i.D_ ty0 with
     | false=>simp
     | true =>
      obtain ⟨t,ht⟩:=z7j hq hz
      unfold tyD
      rw [hz,ht]
      simp
   rw [hD]
   cases hd:z1f c r.d i.D_ ty0 with
   | false=>simp
   | true =>
    simp only [cond_true,Option.bind_some,orRet_inl,za2,zh n2,zh n3,zh n4,y2a,yak,yal,zg9 s2 hr,zg9 s3 hr,zg9 s4 hr,Bool.true_and]
    cases ha:z1f c r.a i.A_ (tyD c r i) with
    | false=>simp
    | true =>
     cases hbb:z1f c r.b i.B_ (tyD c r i) with
     | false=>simp
     | true =>
      cases hcc:z1f c r.c i.C_ (tyD c r i) with
      | false=>simp
      | true =>
       simp only [cond_true,cond_false,Bool.not_true,Option.bind_some,orRet_inl,za2,zh n1,zh n2,zh n5,y1z,y2a,y2b,zws s1,zjf s2,Bool.true_and]
       have hF:((bif r.d==0 then some (Sum.inl (z3a r,!(r.a==0),(tyD c r i).Kind_,(tyD c r i).Param_)) else some (Sum.inl (z3a r,false,(tyD c r i).Kind_,(tyD c r i).Param_)):Option (ByteArray×Bool×Int×Int⊕(ByteArray×Int×Int⊕Bool))).bind (zi fun s4=>bif s4.2.1 then (idx c.Regs_ i.A_).bind fun y9=>some (Sum.inl (s4.1,y9.Kind_,y9.Param_)) else some (Sum.inl (s4.1,s4.2.2.1,s4.2.2.2))))
         = some (.inl (z3a r,(tyF c r i).Kind_,(tyF c r i).Param_)):=by
        unfold tyF tyD
        cases hz:r.d==0 with
        | false=>simp
        | true =>
         cases hza:r.a==0 with
         | true=>simp
         | false =>
          obtain ⟨t,ht⟩:=z7j ha hza
          simp [ht]
       rw [hF]
       simp only [Option.bind_some,orRet_inl,za2,zh n5,y2b]
       unfold nOk
       rcases hn with (hn | hn | hn | hn) | ⟨hn,hp⟩
       ·simp only [hn,z61]
        rfl
       ·simp only [hn,z61]
        show (bif decide (i.N_≥0) then some (decide (i.N_≤2147483647)) else some false)=some (decide (i.N_≥0) && decide (i.N_≤2147483647))
        cases decide (i.N_≥0) <;> rfl
       ·simp only [hn,z61]
        show (bif decide (i.N_≥0) then bif decide (i.N_<(c.Slots_.length:Int)) then (idx c.Slots_ i.N_).bind fun y11=>some (eqTy y11.Type_ (tyF c r i)) else some false else some false)=some (match idx c.Slots_ i.N_ with | some z=>eqTy z.Type_ (tyF c r i) | none=>false)
        by_cases q:i.N_≥0
        ·by_cases q2:i.N_<c.Slots_.length
         ·obtain ⟨y,hy,_⟩:=z6u (l:=c.Slots_) q q2
          simp [q,q2,hy]
         ·rw [z34 (by omega)]
          simp [q,q2]
        ·rw [z34 (by omega)]
         simp [q]
       ·simp only [hn,z61]
        show (bif decide (i.N_≥0) then some (decide (i.N_<(c.Sign_.length:Int))) else some false)=some (decide (i.N_≥0) && decide (i.N_<(c.Sign_.length:Int)))
        cases decide (i.N_≥0) <;> rfl
       ·have:=zpv hr hp hd ha
        simp only [hn,z61]
        show ((f67 n (c,i.N_,(tyF c r i).Param_)).bind fun y10=>some y10)=_
        rw [y6n this]
        rfl
section
variable {n:Nat} {c:Xe} {i:Xd} {set:List Bool} {news:List (List Int)} {op:List Int}
theorem zds {a b cc d e k dk dp fk fp s m:Int} (hk:k<4) (h1:idx [a,b,cc,d] k=some s) (h2:idx [i.D_,i.A_,i.B_,i.C_] k=some m) (hs:s ≠ 6) :
  zcv n (c.Sign_,c.Regs_,c.Slots_,c.List_,set,news,op,i) (a,b,cc,d,e) (k,c.Sign_,c.Regs_,c.Slots_,c.List_,set,news,op,dk,dp,fk,fp) =
   some (bif z1f c s m ⟨dk,dp⟩ then .go (IntKind.i64.wrap (k+1),c.Sign_,c.Regs_,c.Slots_,c.List_,set,news,op,
    (bif s==0 then dk else bif k==0 then ((idx c.Regs_ m).getD ty0).Kind_ else dk),(bif s==0 then dp else bif k==0 then ((idx c.Regs_ m).getD ty0).Param_ else dp),
    (bif s==0 then fk else bif k==0 then ((idx c.Regs_ m).getD ty0).Kind_ else bif k==1 then (bif a==0 then ((idx c.Regs_ m).getD ty0).Kind_ else fk) else fk),
    (bif s==0 then fp else bif k==0 then ((idx c.Regs_ m).getD ty0).Param_ else bif k==1 then (bif a==0 then ((idx c.Regs_ m).getD ty0).Param_ else fp) else fp))
    else .ret (c.Sign_,c.Regs_,c.Slots_,c.List_,set,news,op)):=by
 rw [ziq]
 have hk':decide (k<4)=true:=by simpa using hk
 simp only [hk',cond_true,h1,h2,Option.bind_some]
 unfold z1f
 cases hz:s==0 with
 | true =>
  simp only [cond_true]
  have e1:(m != 0) = !(m==0):=rfl
  rw [e1]
  cases m==0 <;> rfl
 | false =>
  simp only [cond_false,y5z]
  cases hi:idx c.Regs_ m with
  | none=>rfl
  | some t =>
   simp only [Option.bind_some,Bool.not_true,cond_false,y61 _ _ _ hs]
   have e2:(⟨t.Kind_,t.Param_⟩:Xb)=t:=rfl
   simp only [e2,Option.bind_some,orRet_inl]
   cases isS t s ⟨dk,dp⟩ <;> cases (k==0) <;> cases (k==1) <;> cases (a==0) <;> rfl
theorem zk5 {s:Int} (h:z36 s):s ≠ 6:=by
 rcases h with rfl | rfl | rfl | rfl | rfl | rfl | rfl | rfl <;> decide
theorem w1:IntKind.i64.wrap (0+1)=1:=by decide
theorem w2:IntKind.i64.wrap (1+1)=2:=by decide
theorem w3:IntKind.i64.wrap (2+1)=3:=by decide
theorem w4:IntKind.i64.wrap (3+1)=4:=by decide
theorem y3f {a b cc d e dk dp fk fp:Int} :
  zcv n (c.Sign_,c.Regs_,c.Slots_,c.List_,set,news,op,i) (a,b,cc,d,e) (4,c.Sign_,c.Regs_,c.Slots_,c.List_,set,news,op,dk,dp,fk,fp)=some (.out (4,c.Sign_,c.Regs_,c.Slots_,c.List_,set,news,op,dk,dp,fk,fp)):=by
 rw [ziq]; rfl
theorem zy8 {r:z3i} (m:Nat) (h:z36 r.d∧z36 r.a∧z36 r.b∧z36 r.c) :
  iter (zcv n (c.Sign_,c.Regs_,c.Slots_,c.List_,set,news,op,i) (r.d,r.a,r.b,r.c,r.n)) (m+5) (0,c.Sign_,c.Regs_,c.Slots_,c.List_,set,news,op,0,0,0,0) =
   some (bif z1f c r.d i.D_ ty0 && (z1f c r.a i.A_ (tyD c r i) && (z1f c r.b i.B_ (tyD c r i) && z1f c r.c i.C_ (tyD c r i))) then
    .out (4,c.Sign_,c.Regs_,c.Slots_,c.List_,set,news,op,(tyD c r i).Kind_,(tyD c r i).Param_,(tyF c r i).Kind_,(tyF c r i).Param_) else .ret (c.Sign_,c.Regs_,c.Slots_,c.List_,set,news,op)):=by
 obtain ⟨h1,h2,h3,h4⟩:=h
 have eD:∀ b:Bool,b=(r.d==0)→(⟨bif b then 0 else ((idx c.Regs_ i.D_).getD ty0).Kind_,bif b then 0 else ((idx c.Regs_ i.D_).getD ty0).Param_⟩:Xb)=tyD c r i:=by
  intro b hb; unfold tyD; rw [← hb]; cases b <;> rfl
 unfold iter
 rw [zds (s:=r.d) (m:=i.D_) (by decide) rfl rfl (zk5 h1)]
 have e0:(⟨0,0⟩:Xb)=ty0:=rfl
 rw [e0]
 cases z1f c r.d i.D_ ty0 with
 | false=>rfl
 | true =>
  have k0:((0:Int)==0)=true:=by decide
  simp only [cond_true,w1,k0,Bool.true_and]
  unfold iter
  rw [zds (s:=r.a) (m:=i.A_) (by decide) rfl rfl (zk5 h2),eD _ rfl]
  cases z1f c r.a i.A_ (tyD c r i) with
  | false=>rfl
  | true =>
   have k1:((1:Int)==0)=false:=by decide
   have k2:((1:Int)==1)=true:=by decide
   simp only [cond_true,w2,k1,k2,cond_false,Bool.true_and,Bool.cond_self]
   unfold iter
   rw [zds (s:=r.b) (m:=i.B_) (by decide) rfl rfl (zk5 h3),eD _ rfl]
   cases z1f c r.b i.B_ (tyD c r i) with
   | false=>rfl
   | true =>
    have k3:((2:Int)==0)=false:=by decide
    have k4:((2:Int)==1)=false:=by decide
    simp only [cond_true,w3,k3,k4,cond_false,Bool.true_and,Bool.cond_self]
    unfold iter
    rw [zds (s:=r.c) (m:=i.C_) (by decide) rfl rfl (zk5 h4),eD _ rfl]
    cases z1f c r.c i.C_ (tyD c r i) with
    | false=>rfl
    | true =>
     have k5:((3:Int)==0)=false:=by decide
     have k6:((3:Int)==1)=false:=by decide
     simp only [cond_true,w4,k5,k6,cond_false,Bool.true_and,Bool.cond_self]
     unfold iter
     rw [y3f]
     simp only
     congr 13
     all_goals
      first
      | (unfold tyD; cases r.d==0 <;> rfl)
      | (unfold tyF; cases r.d==0 <;> cases r.a==0 <;> rfl)
theorem y5j (m:Nat) (hr:∀ t ∈ c.Regs_,mayT c.Sign_ t=true) (h0:0≤i.Bits_) (h1:i.Bits_<4294967296) :
  f35 (m+5) (c.Sign_,c.Regs_,c.Slots_,c.List_,set,news,op,i)=some (fits c i,c.Sign_,c.Regs_,c.Slots_,c.List_,set,news,op):=by
 rw [y5i,zky]
 unfold fits
 cases h:rowD i.Op_ with
 | none=>rfl
 | some r =>
  obtain ⟨hs,hn⟩:=ze5 h
  simp only [Option.bind_some,Bool.not_true,cond_false,zy8 m hs,zsb _ h0 h1]
  cases hd:z1f c r.d i.D_ ty0 with
  | false=>rfl
  | true =>
  cases ha:z1f c r.a i.A_ (tyD c r i) with
  | false=>rfl
  | true =>
  cases hbb:z1f c r.b i.B_ (tyD c r i) with
  | false=>rfl
  | true =>
  cases hcc:z1f c r.c i.C_ (tyD c r i) with
  | false=>rfl
  | true =>
   simp only [Bool.true_and,cond_true,Option.bind_some,Bo.then]
   have hB:(bif (i.Op_==1) then (bif (!z69 i.Bits_) then some (Sum.inl (true,c.Sign_,c.Regs_,c.Slots_,c.List_,set,news,op,r.d,r.a,r.b,r.c,r.n,(tyF c r i).Kind_,(tyF c r i).Param_))
     else (bif i.Op_ != 1 then some (.inl (i.Bits_ != 0,c.Sign_,c.Regs_,c.Slots_,c.List_,set,news,op,r.d,r.a,r.b,r.c,r.n,(tyF c r i).Kind_,(tyF c r i).Param_)) else some (.inl (false,c.Sign_,c.Regs_,c.Slots_,c.List_,set,news,op,r.d,r.a,r.b,r.c,r.n,(tyF c r i).Kind_,(tyF c r i).Param_))))
     else (bif i.Op_ != 1 then some (.inl (i.Bits_ != 0,c.Sign_,c.Regs_,c.Slots_,c.List_,set,news,op,r.d,r.a,r.b,r.c,r.n,(tyF c r i).Kind_,(tyF c r i).Param_)) else some (.inl (false,c.Sign_,c.Regs_,c.Slots_,c.List_,set,news,op,r.d,r.a,r.b,r.c,r.n,(tyF c r i).Kind_,(tyF c r i).Param_))) :
      Option ((Bool×List Xa×List Xb×List Xc×List Xd×List Bool×List (List Int)×List Int×Int×Int×Int×Int×Int×Int×Int)⊕(Bool×List Xa×List Xb×List Xc×List Xd×List Bool×List (List Int)×List Int)))
     = some (.inl (!(z8w i),c.Sign_,c.Regs_,c.Slots_,c.List_,set,news,op,r.d,r.a,r.b,r.c,r.n,(tyF c r i).Kind_,(tyF c r i).Param_)):=by
    unfold z8w
    have e1:(i.Op_ != 1) = !(i.Op_==1):=rfl
    have e2:(i.Bits_ != 0) = !(i.Bits_==0):=rfl
    rw [e1,e2]
    cases i.Op_==1 <;> cases z69 i.Bits_ <;> rfl
   rw [hB,Option.bind_some,orRet_inl]
   dsimp only
   cases hb:z8w i with
   | false=>rfl
   | true =>
    simp only [Bool.not_true,cond_false,Bool.true_and]
    unfold nOk
    rcases hn with (hn | hn | hn | hn) | ⟨hn,hp⟩
    ·rw [hn]; rfl
    ·rw [hn]
     show (bif decide (i.N_≥0) then some (decide (i.N_≤2147483647),c.Sign_,c.Regs_,c.Slots_,c.List_,set,news,op) else some (false,c.Sign_,c.Regs_,c.Slots_,c.List_,set,news,op))=some (decide (i.N_≥0) && decide (i.N_≤2147483647),c.Sign_,c.Regs_,c.Slots_,c.List_,set,news,op)
     cases decide (i.N_≥0) <;> rfl
    ·rw [hn]
     show (bif decide (i.N_≥0) then bif decide (i.N_<(c.Slots_.length:Int)) then (idx c.Slots_ i.N_).bind fun y11=>some (eqTy y11.Type_ (tyF c r i),c.Sign_,c.Regs_,c.Slots_,c.List_,set,news,op) else some (false,c.Sign_,c.Regs_,c.Slots_,c.List_,set,news,op) else some (false,c.Sign_,c.Regs_,c.Slots_,c.List_,set,news,op))=some ((match idx c.Slots_ i.N_ with | some z=>eqTy z.Type_ (tyF c r i) | none=>false),c.Sign_,c.Regs_,c.Slots_,c.List_,set,news,op)
     by_cases q:i.N_≥0
     ·by_cases q2:i.N_<c.Slots_.length
      ·obtain ⟨y,hy,_⟩:=z6u (l:=c.Slots_) q q2
       simp [q,q2,hy]
      ·rw [z34 (by omega)]
       simp [q,q2]
     ·rw [z34 (by omega)]
      simp [q]
    ·rw [hn]
     show (bif decide (i.N_≥0) then some (decide (i.N_<(c.Sign_.length:Int)),c.Sign_,c.Regs_,c.Slots_,c.List_,set,news,op) else some (false,c.Sign_,c.Regs_,c.Slots_,c.List_,set,news,op))=some (decide (i.N_≥0) && decide (i.N_<(c.Sign_.length:Int)),c.Sign_,c.Regs_,c.Slots_,c.List_,set,news,op)
     cases decide (i.N_≥0) <;> rfl
    ·obtain ⟨p1,p2⟩:=zpv hr hp hd ha
     obtain ⟨y,hy,_⟩:=z6u (l:=c.Sign_) p1 p2
     rw [hn]
     show (bif i.N_==0 then some (true,c.Sign_,c.Regs_,c.Slots_,c.List_,set,news,op) else bif i.N_==1 then (idx c.Sign_ (tyF c r i).Param_).bind fun y8=>some (y8.Kind_==2,c.Sign_,c.Regs_,c.Slots_,c.List_,set,news,op) else some (false,c.Sign_,c.Regs_,c.Slots_,c.List_,set,news,op))=some ((i.N_==0 || (i.N_==1 && (match idx c.Sign_ (tyF c r i).Param_ with | some p=>p.Kind_==2 | none=>false))),c.Sign_,c.Regs_,c.Slots_,c.List_,set,news,op)
     rw [hy]
     cases (i.N_==0) <;> cases (i.N_==1) <;> simp
end
theorem zgg {α Y Z:Type} {l:List α} {p:α→Bool} {body:Int→Option (Bo Int Y Z)} {z:Int→Z} {y:Y}
  (hb:∀ (k:Nat) (h:k<l.length),body k=some (bif p l[k] then .go ((k+1:Nat):Int) else .ret (z k))) (he:body l.length=some (.out y)) :
  ∀ (j k f:Nat),k+j=l.length→j<f→iter body f (k:Int)=some (match (l.drop k).findIdx? (fun x=>!p x) with | none=>.out y | some i=>.ret (z ((k+i:Nat):Int)))
 | 0,k,f+1,hk,hf=>by
  obtain rfl:k=l.length:=by omega
  unfold iter
  rw [he]
  simp
 | j+1,k,f+1,hk,hf=>by
  have h:k<l.length:=by omega
  unfold iter
  rw [hb k h,List.drop_eq_getElem_cons h]
  cases hp:p l[k] with
  | false =>
   simp only [cond_false,List.findIdx?_cons,hp,Bool.not_false,if_true]
   rfl
  | true =>
   simp only [cond_true]
   rw [zgg hb he j (k+1) f (by omega) (by omega)]
   rw [List.findIdx?_cons]
   simp only [hp,Bool.not_true,cond_false,Bool.false_eq_true,if_false]
   cases (l.drop (k+1)).findIdx? (fun x=>!p x) with
   | none=>rfl
   | some i=>simp only [Option.map_some]; congr 4; omega
theorem zyk {α Y Z:Type} {l:List α} {p:α→Bool} {body:Int→Option (Bo Int Y Z)} {z:Int→Z} {y:Y} {f:Nat}
  (hb:∀ (k:Nat) (h:k<l.length),body k=some (bif p l[k] then .go ((k+1:Nat):Int) else .ret (z k))) (he:body l.length=some (.out y)) (hf:l.length<f) :
  iter body f 0=some (match l.findIdx? (fun x=>!p x) with | none=>.out y | some i=>.ret (z (i:Int))):=by
 have:=zgg hb he l.length 0 f (by omega) hf
 simpa using this
theorem zev {α:Type} (l:List α) (p:α→Bool):(l.findIdx? (fun x=>!p x)).isNone=l.all p:=by
 induction l with
 | nil=>rfl
 | cons x l ih =>
  rw [List.findIdx?_cons,List.all_cons,← ih]
  cases p x <;> simp
theorem z44 {α Y Z:Type} {l:List α} {p:α→Bool} {body:Int→Option (Bo Int Y Z)} {z:Z} {y:Y} {f:Nat}
  (hb:∀ (k:Nat) (h:k<l.length),body k=some (bif p l[k] then .go ((k+1:Nat):Int) else .ret z)) (he:body l.length=some (.out y)) (hf:l.length<f) :
  iter body f 0=some (bif l.all p then .out y else .ret z):=by
 rw [zyk (z:=fun _=>z) hb he hf,← zev]
 cases l.findIdx? (fun x=>!p x) <;> rfl
theorem zel {α S Z:Type} {l:List α} {F:S→α→S} {Inv:S→Prop} {body:Int×S→Option (Bo (Int×S) (Int×S) Z)}
  (hb:∀ (k:Nat) (s:S) (h:k<l.length),Inv s→body (k,s)=some (.go (((k+1:Nat):Int),F s l[k]))∧Inv (F s l[k])) (he:∀ s,Inv s→body (l.length,s)=some (.out ((l.length:Int),s))) :
  ∀ (j k f:Nat) (s:S),k+j=l.length→j<f→Inv s→iter body f ((k:Int),s)=some (.out ((l.length:Int),(l.drop k).foldl F s))
 | 0,k,f+1,s,hk,hf,hi=>by
  obtain rfl:k=l.length:=by omega
  unfold iter
  rw [he s hi]
  simp
 | j+1,k,f+1,s,hk,hf,hi=>by
  have h:k<l.length:=by omega
  obtain ⟨h1,h2⟩:=hb k s h hi
  unfold iter
  rw [h1,List.drop_eq_getElem_cons h]
  exact zel hb he j (k+1) f _ (by omega) (by omega) h2
theorem zwp {α S Z:Type} {l:List α} {F:S→α→S} {Inv:S→Prop} {body:Int×S→Option (Bo (Int×S) (Int×S) Z)} {f:Nat} {s:S}
  (hb:∀ (k:Nat) (s:S) (h:k<l.length),Inv s→body (k,s)=some (.go (((k+1:Nat):Int),F s l[k]))∧Inv (F s l[k])) (he:∀ s,Inv s→body (l.length,s)=some (.out ((l.length:Int),s)))
  (hf:l.length<f) (hi:Inv s):iter body f (0,s)=some (.out ((l.length:Int),l.foldl F s)):=by
 have:=zel hb he l.length 0 f s (by omega) hf hi
 simpa using this
theorem z2f {k:Nat} (h:k<4611686018427387904):IntKind.i64.wrap ((k:Int)+1)=((k+1:Nat):Int):=by
 rw [z30 (by omega) (by omega)]; simp
theorem yax {k:Nat} (h:k<4611686018427387904):IntKind.i64.wrap ((k:Int) - 1)=(k:Int) - 1:=z30 (by omega) (by omega)
theorem z9z (i:Xd):(z1p i).length≤3:=by
 unfold z1p
 split
 ·rename_i r _
  cases r.a==0 <;> cases r.b==0 <;> cases r.c==0 <;> simp
 ·simp
theorem zbu {c:Xe} {i:Xd} (h:fits c i=true):∃ r,rowD i.Op_=some r∧z1f c r.d i.D_ ty0=true∧z1f c r.a i.A_ (tyD c r i)=true∧z1f c r.b i.B_ (tyD c r i)=true∧z1f c r.c i.C_ (tyD c r i)=true:=by
 unfold fits at h
 split at h
 ·cases h
 ·rename_i r hr
  simp only [Bool.and_eq_true] at h
  exact ⟨r,hr,h.1,h.2.1,h.2.2.1,h.2.2.2.1⟩
theorem zcf {c:Xe} {s k:Int} {d:Xb} (h:z1f c s k d=true) (hs:(s==0)=false):0≤k∧k<c.Regs_.length:=by
 obtain ⟨t,ht⟩:=z7j h hs
 exact (zhu ht).2
theorem zm6 {c:Xe} {i:Xd} (h:fits c i=true):∀ y ∈ z1p i,0≤y∧y<c.Regs_.length:=by
 obtain ⟨r,hr,h1,h2,h3,h4⟩:=zbu h
 intro y hy
 unfold z1p at hy
 rw [hr] at hy
 simp only [List.mem_append] at hy
 rcases hy with hy | hy | hy
 ·cases hz:r.a==0 with
  | true=>rw [hz] at hy; cases hy
  | false =>
   rw [hz] at hy
   simp only [cond_false,List.mem_singleton] at hy
   subst hy; exact zcf h2 hz
 ·cases hz:r.b==0 with
  | true=>rw [hz] at hy; cases hy
  | false =>
   rw [hz] at hy
   simp only [cond_false,List.mem_singleton] at hy
   subst hy; exact zcf h3 hz
 ·cases hz:r.c==0 with
  | true=>rw [hz] at hy; cases hy
  | false =>
   rw [hz] at hy
   simp only [cond_false,List.mem_singleton] at hy
   subst hy; exact zcf h4 hz
theorem zhz {c:Xe} {i:Xd} (h:fits c i=true) (hs:sets i=true):0≤i.D_∧i.D_<c.Regs_.length:=by
 obtain ⟨r,hr,h1,_⟩:=zbu h
 unfold sets at hs
 rw [hr] at hs
 simp only [Bool.not_eq_true'] at hs
 exact zcf h1 hs
def rdOk (set:List Bool) (i:Xd):Bool:=(z1p i).all fun y=>(set[y.toNat]?).getD false
theorem zau {α:Type} {l:List α} {y:Int} (h0:0≤y) (h1:y<l.length):∃ b,l[y.toNat]? = some b:=by
 have:y.toNat<l.length:=by omega
 exact ⟨_,List.getElem?_eq_getElem this⟩
theorem zl1 {n m:Nat} {c:Xe} {i:Xd} {set:List Bool} {news:List (List Int)} {op:List Int}
  (h:∀ y ∈ z1p i,0≤y∧y<set.length) :
  iter (zl0 n (c.Sign_,c.Regs_,c.Slots_,c.List_,set,news,op,i) (((z1p i).length:Int),z1p i)) (m+4) 0=some (bif rdOk set i then .out ((z1p i).length:Int) else .ret ()):=by
 refine z44 (fun k hk=>?_) ?_ (by have:=z9z i; omega)
 ·have h3:=z9z i
  obtain ⟨y0,y1⟩:=h _ (List.getElem_mem hk)
  obtain ⟨b,hb⟩:=zau y0 y1
  rw [zis]
  have e1:decide ((k:Int)<((z1p i).length:Int))=true:=by simp; omega
  have e2:(z1p i)[(k:Int).toNat]? = some (z1p i)[k]:=by simp [hk]
  simp only [e1,cond_true]
  rw [zh (by omega),e2]
  simp only [Option.bind_some]
  rw [zh ⟨y0,y1⟩,hb,z2f (by omega)]
  cases b <;> rfl
 ·rw [zis]; simp
theorem zye {n m:Nat} {c:Xe} {i:Xd} {set:List Bool} {op:List Xg} {b0:Bool} (h:∀ y ∈ z1p i,0≤y∧y<set.length) :
  iter (zl4 n (c,i,set,op) (b0,z1p i)) (m+4) 0=some (bif rdOk set i then .out ((z1p i).length:Int) else .ret ()):=by
 refine z44 (fun k hk=>?_) ?_ (by have:=z9z i; omega)
 ·have h3:=z9z i
  obtain ⟨y0,y1⟩:=h _ (List.getElem_mem hk)
  obtain ⟨b,hb⟩:=zau y0 y1
  rw [ziv]
  have e1:decide ((k:Int)<((z1p i).length:Int))=true:=by simp; omega
  have e2:(z1p i)[(k:Int).toNat]? = some (z1p i)[k]:=by simp [hk]
  have e3:idx set (z1p i)[k]=some b:=by unfold idx; rw [if_pos y0,hb]
  simp only [e1,cond_true]
  rw [zh (by omega),e2]
  simp only [Option.bind_some]
  rw [e3,z2f (by omega),hb]
  cases b <;> rfl
 ·rw [ziv]; simp
def lst (op:List Int):Int:=match op.getLast? with | some x=>x | none=>-1
def undo (set:List Bool) (l:List Int):List Bool:=l.foldl (fun s r=>s.set r.toNat false) set
def ze9 (c:Xe) (k p:Int):Bool:=match idx c.Regs_ k with | some t=>t.Kind_==3 && (t.Param_==p && true) | none=>false
def onD (i:Xd):Bool:=elem i.Op_ || (i.Op_==29 || (i.Op_==30 || i.Op_==32))
def onA (i:Xd):Bool:=i.Op_==31 || i.Op_==33
def zci (c:Xe) (i:Xd) (p:Int):Bool:=bif onD i then ze9 c i.D_ p else bif onA i then ze9 c i.A_ p else false
theorem z6v {α:Type} (l:List α) (h:0<l.length):∃ x,l.getLast? = some x∧l[l.length - 1]? = some x:=by
 rw [List.getLast?_eq_getElem?]
 exact ⟨l[l.length - 1],by simp [h],by simp [h]⟩
theorem z8d {k:Nat} (h0:0<k) (h:k<4611686018427387904):(IntKind.i64.wrap ((k:Int) - 1)).toNat=k - 1∧0≤IntKind.i64.wrap ((k:Int) - 1)∧IntKind.i64.wrap ((k:Int) - 1)<k:=by
 rw [yax h]; omega
theorem zgk {R:Type} (op:List Int) (h:op.length<4611686018427387904):(bif (decide ((op.length:Int) > (0:Int))) then (need (0≤(IntKind.i64.wrap ((op.length:Int) - (1:Int)))∧(IntKind.i64.wrap ((op.length:Int) - (1:Int)))<(op.length:Int)) ((op[(IntKind.i64.wrap ((op.length:Int) - (1:Int))).toNat]?).bind fun y1=>some (.inl y1))) else (some (.inl (-1:Int))):Option (Int⊕R))=some (.inl (lst op)):=by
 by_cases h0:0<op.length
 ·have e:decide ((op.length:Int) > 0)=true:=by simp; omega
  obtain ⟨w1,w2,w3⟩:=z8d h0 h
  obtain ⟨x,x1,x2⟩:=z6v op h0
  rw [e,cond_true,zh ⟨w2,w3⟩,w1,x2]
  unfold lst
  rw [x1]; rfl
 ·have:op=[]:=List.eq_nil_of_length_eq_zero (by omega)
  subst this
  rfl
section
variable {n:Nat} {c:Xe} {i:Xd} {set:List Bool} {news:List (List Int)} {op:List Int}
theorem zyc (ho:op.length<4611686018427387904) (h:i.Op_=34):f36 n (c.Sign_,c.Regs_,c.Slots_,c.List_,set,news,op,i)=some (!(decide (lst op≥0) || (op.length:Int)==64),c.Sign_,c.Regs_,c.Slots_,c.List_,set,news,op):=by
 rw [zcw]
 dsimp only
 rw [zgk op ho,h]
 have e1:((34:Int)==34)=true:=rfl
 have e2:((34:Int)==36)=false:=rfl
 simp only [Option.bind_some,orRet_inl,e1,e2,cond_true,cond_false]
 cases decide (lst op≥0) <;> cases ((op.length:Int)==64) <;> rfl
theorem zya (ho:op.length≤64) (h:i.Op_=36):f36 n (c.Sign_,c.Regs_,c.Slots_,c.List_,set,news,op,i)=some (!(decide (lst op≥0) || (op.length:Int)==64),c.Sign_,c.Regs_,c.Slots_,c.List_,set,news,bif (decide (lst op≥0) || (op.length:Int)==64) then op else op++[i.N_]):=by
 rw [zcw]
 dsimp only
 rw [zgk op (by omega),h]
 have e1:((36:Int)==34)=false:=rfl
 have e2:((36:Int)==36)=true:=rfl
 simp only [Option.bind_some,orRet_inl,e1,e2,cond_true,cond_false]
 rw [zh (by simp; omega)]
 cases decide (lst op≥0) <;> cases ((op.length:Int)==64) <;> rfl
theorem zyb (ho:op.length≤64) (h:i.Op_=37):f36 n (c.Sign_,c.Regs_,c.Slots_,c.List_,set,news,op,i)=some (!(decide (lst op<0)),c.Sign_,c.Regs_,c.Slots_,c.List_,set,news,bif decide (lst op<0) then op else op.dropLast):=by
 rw [zcw]
 dsimp only
 rw [zgk op (by omega),h]
 have e1:((37:Int)==34)=false:=rfl
 have e2:((37:Int)==36)=false:=rfl
 have e3:((37:Int)==35)=false:=rfl
 have e4:((37:Int)==37)=true:=rfl
 simp only [Option.bind_some,orRet_inl,e1,e2,e3,e4,cond_true,cond_false]
 cases hl:decide (lst op<0) with
 | true=>rfl
 | false =>
  have h0:0<op.length:=by
   cases op with
   | nil=>simp [lst] at hl
   | cons _ _=>simp
  obtain ⟨w1,w2,w3⟩:=z8d h0 (by omega)
  rw [cond_false,zh ⟨w2,by omega⟩,w1,zh (by omega)]
  simp [List.dropLast_eq_take]
theorem zy9 (ho:op.length≤64) (hf:fits c i=true) (h1:i.Op_ ≠ 34) (h2:i.Op_ ≠ 35) (h3:i.Op_ ≠ 36) (h4:i.Op_ ≠ 37) (hD:onD i=true→∃ t,idx c.Regs_ i.D_=some t) (hA:onA i=true→∃ t,idx c.Regs_ i.A_=some t) :
  f36 n (c.Sign_,c.Regs_,c.Slots_,c.List_,set,news,op,i)=some ((bif decide (lst op<0) then true else zci c i (lst op)),c.Sign_,c.Regs_,c.Slots_,c.List_,set,news,op):=by
 rw [zcw]
 dsimp only
 rw [zgk op (by omega)]
 have e1:(i.Op_==34)=false:=by simpa using h1
 have e2:(i.Op_==36)=false:=by simpa using h3
 have e3:(i.Op_==35)=false:=by simpa using h2
 have e4:(i.Op_==37)=false:=by simpa using h4
 simp only [Option.bind_some,orRet_inl,e1,e2,e3,e4,cond_true,cond_false,y4s]
 cases hl:decide (lst op<0) with
 | true=>rfl
 | false =>
  simp only [cond_false]
  have hB:(bif elem i.Op_ then some (Sum.inl (true,lst op)) else bif i.Op_==29 then some (.inl (true,lst op)) else bif i.Op_==30 then some (.inl (true,lst op)) else some (.inl (i.Op_==32,lst op)):Option (Bool×Int⊕(Bool×List Xa×List Xb×List Xc×List Xd×List Bool×List (List Int)×List Int)))=some (.inl (onD i,lst op)):=by
   unfold onD
   cases elem i.Op_ <;> cases i.Op_==29 <;> cases i.Op_==30 <;> rfl
  rw [hB,Option.bind_some,orRet_inl]
  dsimp only
  unfold zci
  cases hd:onD i with
  | true =>
   obtain ⟨t,ht⟩:=hD hd
   simp only [cond_true,ze9,ht,Option.bind_some]
  | false =>
   simp only [cond_false]
   have hB2:(bif i.Op_==31 then some (Sum.inl (true,lst op)) else some (.inl (i.Op_==33,lst op)):Option (Bool×Int⊕(Bool×List Xa×List Xb×List Xc×List Xd×List Bool×List (List Int)×List Int)))=some (.inl (onA i,lst op)):=by
    unfold onA
    cases i.Op_==31 <;> rfl
   rw [hB2,Option.bind_some,orRet_inl]
   dsimp only
   cases ha:onA i with
   | true =>
    obtain ⟨t,ht⟩:=hA ha
    simp only [cond_true,ze9,ht,Option.bind_some]
   | false=>rfl
theorem zmj (set:List Bool) (l:List Int):(undo set l).length=set.length:=by
 unfold undo
 induction l generalizing set with
 | nil=>rfl
 | cons x l ih=>simp only [List.foldl_cons]; rw [ih]; simp
theorem y3g {m:Nat} {nl:List Int} (ho:op.length≤64) (h:i.Op_=35) (hn:0<op.length→lst op<0→news.getLast? = some nl∧news.length<4611686018427387904∧nl.length<m+4∧nl.length<4611686018427387904∧∀ r ∈ nl,0≤r∧r<set.length) :
  f36 (m+4) (c.Sign_,c.Regs_,c.Slots_,c.List_,set,news,op,i)=some (!((op.length:Int)==0 || decide (lst op≥0)),c.Sign_,c.Regs_,c.Slots_,c.List_,bif ((op.length:Int)==0 || decide (lst op≥0)) then (set,news,op) else (undo set nl,news.dropLast,op.dropLast)):=by
 rw [zcw]
 dsimp only
 rw [zgk op (by omega),h]
 have e1:((35:Int)==34)=false:=rfl
 have e2:((35:Int)==36)=false:=rfl
 have e3:((35:Int)==35)=true:=rfl
 simp only [Option.bind_some,orRet_inl,e1,e2,e3,cond_true,cond_false]
 have hB:(bif ((op.length:Int)==0) then some (Sum.inl true) else some (.inl (decide (lst op≥0))):Option (Bool⊕(Bool×List Xa×List Xb×List Xc×List Xd×List Bool×List (List Int)×List Int)))=some (.inl ((op.length:Int)==0 || decide (lst op≥0))):=by
  cases (op.length:Int)==0 <;> rfl
 rw [hB,Option.bind_some,orRet_inl]
 cases hq:((op.length:Int)==0 || decide (lst op≥0)) with
 | true=>rfl
 | false =>
  simp only [Bool.or_eq_false_iff,beq_eq_false_iff_ne,ne_eq,decide_eq_false_iff_not] at hq
  have h0:0<op.length:=by omega
  obtain ⟨n1,n2,n3,n4,n5⟩:=hn h0 (by omega)
  have hnl:0<news.length:=by
   cases news with
   | nil=>simp at n1
   | cons _ _=>simp
  obtain ⟨w1,w2,w3⟩:=z8d h0 (by omega)
  obtain ⟨v1,v2,v3⟩:=z8d hnl n2
  have hg:news[news.length - 1]? = some nl:=by rw [← List.getLast?_eq_getElem?]; exact n1
  simp only [cond_false]
  rw [zh ⟨v2,v3⟩,v1,hg]
  simp only [Option.bind_some]
  have hit:iter (zkz (m+4) (c.Sign_,c.Regs_,c.Slots_,c.List_,set,news,op,i) (nl.length:Int)) (m+4) (0,set)=some (.out ((nl.length:Int),undo set nl)):=by
   refine zwp (F:=fun (s:List Bool) (r:Int)=>s.set r.toNat false) (Inv:=fun (s:List Bool)=>s.length=set.length) (fun k s hk hs=>?_) (fun s hs=>?_) n3 rfl
   ·obtain ⟨r0,r1⟩:=n5 _ (List.getElem_mem hk)
    obtain ⟨b,hb⟩:=zau (l:=s) r0 (by omega)
    rw [zir]
    have e1:decide ((k:Int)<(nl.length:Int))=true:=by simp; omega
    have e2:nl[(k:Int).toNat]? = some nl[k]:=by simp [hk]
    dsimp only
    rw [e1,v1,hg]
    simp only [cond_true,Option.bind_some]
    rw [zh (by omega),e2]
    simp only [Option.bind_some]
    rw [zh ⟨r0,by omega⟩,hb,z2f (by omega)]
    exact ⟨rfl,by simpa using hs⟩
   ·rw [zir]; simp
  rw [hit]
  simp only [Option.bind_some,Bo.then]
  rw [zh ⟨v2,by omega⟩,zh (by omega),zh ⟨w2,by omega⟩,w1,zh (by omega)]
  simp [List.dropLast_eq_take]
end
def z8f (news:List (List Int)) (d:Int):List (List Int):=match news.getLast? with | some l=>news.set (news.length - 1) (l++[d]) | none=>news
section
variable {n:Nat} {c:Xe} {i:Xd} {set:List Bool} {news:List (List Int)} {op:List Int}
theorem zyd {m:Nat} (h:i.Op_=34) (hr:∀ y ∈ z1p i,0≤y∧y<set.length) (ho:op.length≤64) (hn:news.length≤64) :
  f37 (m+4) (c.Sign_,c.Regs_,c.Slots_,c.List_,set,news,op,i)=some (rdOk set i,c.Sign_,c.Regs_,c.Slots_,c.List_,set,bif rdOk set i then news++[[]] else news,bif rdOk set i then op++[-1] else op):=by
 rw [zs7]
 dsimp only
 rw [zqo]
 simp only [Option.bind_some]
 rw [zl1 hr]
 cases rdOk set i with
 | false=>rfl
 | true =>
  have e1:((34:Int)==34)=true:=rfl
  have hs:sets i=false:=by
   unfold sets; rw [h]; rfl
  simp only [cond_true,Option.bind_some,Bo.then,h,e1]
  rw [zh (by simp; omega),zh (by simp; omega)]
  simp only [Option.bind_some,orRet_inl,zkq,hs,cond_false]
theorem zbn {m:Nat} (h:i.Op_ ≠ 34) (hr:∀ y ∈ z1p i,0≤y∧y<set.length) (hD:sets i=true→0≤i.D_∧i.D_<set.length) (hn:news.length≤64) (hnl:∀ l ∈ news,l.length<1000000) :
  f37 (m+4) (c.Sign_,c.Regs_,c.Slots_,c.List_,set,news,op,i)=some (rdOk set i,c.Sign_,c.Regs_,c.Slots_,c.List_,bif rdOk set i && (sets i && !((set[i.D_.toNat]?).getD false)) then (set.set i.D_.toNat true,z8f news i.D_,op) else (set,news,op)):=by
 rw [zs7]
 dsimp only
 rw [zqo]
 simp only [Option.bind_some]
 rw [zl1 hr]
 cases rdOk set i with
 | false=>rfl
 | true =>
  have e1:(i.Op_==34)=false:=by simpa using h
  simp only [cond_true,Option.bind_some,Bo.then,e1,cond_false,orRet_inl,zkq]
  cases hs:sets i with
  | false=>rfl
  | true =>
   obtain ⟨d0,d1⟩:=hD hs
   obtain ⟨b,hb⟩:=zau d0 d1
   simp only [cond_true]
   rw [zh ⟨d0,d1⟩,hb]
   simp only [Option.bind_some,orRet_inl,Option.getD_some]
   cases b with
   | true=>rfl
   | false =>
    simp only [Bool.not_false,cond_true,Bool.and_self]
    rw [zh ⟨d0,d1⟩]
    by_cases h0:0<news.length
    ·obtain ⟨w1,w2,w3⟩:=z8d h0 (by omega)
     obtain ⟨l,l1,l2⟩:=z6v news h0
     have e2:decide (IntKind.i64.wrap ((news.length:Int) - 1)≥0)=true:=by simpa using w2
     have hl:l.length<1000000:=hnl l (List.mem_of_getLast? l1)
     rw [e2,cond_true,zh ⟨w2,w3⟩,w1,l2]
     simp only [Option.bind_some]
     rw [zh (by simp; omega),zh ⟨w2,w3⟩,zh (p:=True∧news.length - 1<news.length) ⟨trivial,by omega⟩]
     unfold z8f
     rw [l1]
    ·have:news=[]:=List.eq_nil_of_length_eq_zero (by omega)
     subst this
     rfl
end
def vecP (c:Xe) (i:Xd):Int:=match idx c.Regs_ (bif onD i then i.D_ else bif onA i then i.A_ else -1) with | some t=>bif t.Kind_==3 then t.Param_ else -1 | none=>-1
theorem y6b {n:Nat} {c:Xe} {i:Xd}:f60 n (c,i)=some (vecP c i):=by
 rw [y6a]
 simp only [y4u,Option.bind_some]
 have hB:((bif elem i.Op_ then some (Sum.inl true) else bif i.Op_==29 then some (.inl true) else bif i.Op_==30 then some (.inl true) else some (.inl (i.Op_==32)):Option (Bool⊕(Int⊕Int))).bind (zi fun s1=>bif s1 then some (Sum.inl i.D_) else (bif i.Op_==31 then some (Sum.inl true) else some (.inl (i.Op_==33)):Option (Bool⊕(Int⊕Int))).bind (zi fun s2=>bif s2 then some (Sum.inl i.A_) else some (.inl (-1:Int)))))
   = some (.inl (bif onD i then i.D_ else bif onA i then i.A_ else -1)):=by
  unfold onD onA
  cases elem i.Op_ <;> cases i.Op_==29 <;> cases i.Op_==30 <;> cases i.Op_==32 <;> cases i.Op_==31 <;> cases i.Op_==33 <;> rfl
 rw [hB,Option.bind_some,orRet_inl]
 unfold vecP
 generalize (bif onD i then i.D_ else bif onA i then i.A_ else -1)=k
 by_cases h0:k<0
 ·rw [z34 (.inl h0)]
  simp [h0]
 ·by_cases h1:k≥c.Regs_.length
  ·rw [z34 (.inr h1)]
   simp [h0,h1]
  ·obtain ⟨t,ht,_⟩:=z6u (l:=c.Regs_) (n:=k) (by omega) (by omega)
   have e1:decide (k<0)=false:=by simpa using h0
   have e2:decide (k≥(c.Regs_.length:Int))=false:=by simp; omega
   have e3:(t.Kind_ != 3) = !(t.Kind_==3):=rfl
   simp only [e1,e2,ht,cond_false,Option.bind_some,orRet_inl,e3]
   cases t.Kind_==3 <;> rfl
theorem y8b {c:Xe} {i:Xd} {p:Int} (hp:0≤p):(vecP c i != p) = !(zci c i p):=by
 have key:∀ k:Int,((match idx c.Regs_ k with | some t=>bif t.Kind_==3 then t.Param_ else -1 | none=>-1) != p) = !(ze9 c k p):=fun k=>by
  unfold ze9
  have e:((-1:Int) != p)=true:=by simp; omega
  cases idx c.Regs_ k with
  | none=>exact e
  | some t =>
   simp only
   cases t.Kind_==3 with
   | false=>exact e
   | true=>simp [bne]
 have e:((-1:Int) != p)=true:=by simp; omega
 unfold vecP zci
 cases onD i with
 | true=>exact key _
 | false =>
  simp only [cond_false]
  cases onA i with
  | true=>exact key _
  | false =>
   simp only [cond_false,Bool.not_false]
   rw [z34 (.inl (by decide))]
   exact e
def z1u (o:List Xg):Bool:=match o.getLast? with | some x=>x.Op_==36 | none=>false
def lstP (o:List Xg):Int:=match o.getLast? with | some x=>x.Param_ | none=>0
def zb1 (i:Xd) (o:List Xg):Bool :=
 bif i.Op_==34 || i.Op_==36 then decide ((o.length:Int)<64) else bif i.Op_==35 then (decide ((o.length:Int) > 0) && !(z1u o)) else bif i.Op_==37 then z1u o else true
def z5b (c:Xe) (i:Xd) (set:List Bool) (o:List Xg):Bool :=
 fits c i && (!(z1u o && (!(i.Op_==37) && vecP c i != lstP o)) && (rdOk set i && zb1 i o))
theorem y5q {m:Nat} {c:Xe} {i:Xd} {set:List Bool} {o:List Xg} (hr:∀ t ∈ c.Regs_,mayT c.Sign_ t=true) (h0:0≤i.Bits_) (h1:i.Bits_<4294967296)
  (hs:set.length=c.Regs_.length) (ho:o.length<4611686018427387904):f41 (m+4) (c,i,set,o)=some (z5b c i set o):=by
 rw [y5p]
 have hL:(bif (decide ((o.length:Int) > (0:Int))) then ((idx o (IntKind.i64.wrap ((o.length:Int) - (1:Int)))).bind fun y1=>some (Sum.inl (y1.Op_==36))) else (some (.inl false)):Option (Bool⊕Bool))=some (.inl (z1u o)):=by
  by_cases q:0<o.length
  ·have e:decide ((o.length:Int) > 0)=true:=by simp; omega
   obtain ⟨w1,w2,w3⟩:=z8d q ho
   obtain ⟨x,x1,x2⟩:=z6v o q
   have e2:idx o (IntKind.i64.wrap ((o.length:Int) - 1))=some x:=by unfold idx; rw [if_pos w2,w1,x2]
   rw [e,e2]
   unfold z1u
   rw [x1]; rfl
  ·have:o=[]:=List.eq_nil_of_length_eq_zero (by omega)
   subst this; rfl
 have hP:z1u o=true→idx o (IntKind.i64.wrap ((o.length:Int) - 1))=o.getLast?:=fun hl=>by
  have q:0<o.length:=by
   cases o with
   | nil=>cases hl
   | cons _ _=>simp
  obtain ⟨w1,w2,w3⟩:=z8d q ho
  obtain ⟨x,x1,x2⟩:=z6v o q
  unfold idx
  rw [if_pos w2,w1,x2,x1]
 dsimp only
 rw [hL,Option.bind_some,orRet_inl]
 simp only [y69 hr h0 h1,y6b,Option.bind_some]
 unfold z5b
 cases hf:fits c i with
 | false=>rfl
 | true =>
  have hB:(bif z1u o then (bif i.Op_ != 37 then ((idx o (IntKind.i64.wrap ((o.length:Int) - 1))).bind fun y4=>some (Sum.inl (z1u o,vecP c i != y4.Param_))) else some (.inl (z1u o,false))) else some (.inl (z1u o,false)):Option (Bool×Bool⊕Bool))=some (.inl (z1u o,z1u o && (!(i.Op_==37) && vecP c i != lstP o))):=by
   have e1:(i.Op_ != 37) = !(i.Op_==37):=rfl
   rw [e1]
   cases hl:z1u o with
   | false=>rfl
   | true =>
    rw [hP hl]
    cases i.Op_==37 with
    | true=>rfl
    | false =>
     unfold lstP
     cases hg:o.getLast? with
     | none=>unfold z1u at hl; rw [hg] at hl; cases hl
     | some x=>rfl
  simp only [Bool.not_true,cond_false]
  rw [hB,Option.bind_some,orRet_inl]
  dsimp only
  cases hb:(z1u o && (!(i.Op_==37) && vecP c i != lstP o)) with
  | true=>rfl
  | false =>
   simp only [cond_false,y4n,Option.bind_some,Bool.not_false,Bool.true_and]
   rw [zye (fun y hy=>by rw [hs]; exact zm6 hf y hy)]
   cases rdOk set i with
   | false=>rfl
   | true =>
    simp only [cond_true,Option.bind_some,Bo.then,Bool.true_and]
    unfold zb1
    cases i.Op_==34 <;> cases i.Op_==36 <;> cases i.Op_==35 <;> cases i.Op_==37 <;> cases decide ((o.length:Int) > 0) <;> rfl
def code (o:Xg):Int:=bif o.Op_==36 then o.Param_ else -1
def z3z (o:Xg):Bool:=o.Op_==34
def z9h (N:Nat):List Bool→List (List Int)→List Xg→Prop
 | _,[],[]=>True
 | set,l::ls,w::ws=>undo set l=w.Set_∧l.length≤N∧(∀ r ∈ l,0≤r∧r<set.length)∧z9h N w.Set_ ls ws
 | _,_,_=>False
structure Two (c:Xe) (N:Nat) (set:List Bool) (news:List (List Int)) (op:List Int) (o:List Xg):Prop where
 len:set.length=c.Regs_.length
 op:op=o.map code
 le:o.length≤64
 ok:∀ x ∈ o,x.Op_=34∨(x.Op_=36∧0≤x.Param_)
 ch:z9h N set news.reverse (o.filter z3z).reverse
theorem y3x {i:Xd} {r:z3i} (h:rowD i.Op_=some r) (hd:onD i=true):(r.d==0)=false:=by
 obtain ⟨op,d,a,b,c,N,bits⟩:=i
 dsimp only at h
 rcases z4z op with (rfl | rfl | rfl | rfl | rfl | rfl | rfl | rfl | rfl | rfl | rfl | rfl | rfl | rfl | rfl | rfl | rfl | rfl | rfl | rfl | rfl | rfl | rfl | rfl | rfl | rfl | rfl | rfl | rfl | rfl | rfl | rfl | rfl | rfl | rfl | rfl | rfl) | h0
 iterate 37 (· first | (cases h; rfl) | (exact absurd hd (by decide)) | (cases h; revert hd; simp [onD,elem]))
 rw [z3c h0] at h; cases h
theorem y3v {i:Xd} {r:z3i} (h:rowD i.Op_=some r) (hd:onA i=true):(r.a==0)=false:=by
 obtain ⟨op,d,a,b,c,N,bits⟩:=i
 dsimp only at h
 rcases z4z op with (rfl | rfl | rfl | rfl | rfl | rfl | rfl | rfl | rfl | rfl | rfl | rfl | rfl | rfl | rfl | rfl | rfl | rfl | rfl | rfl | rfl | rfl | rfl | rfl | rfl | rfl | rfl | rfl | rfl | rfl | rfl | rfl | rfl | rfl | rfl | rfl | rfl) | h0
 iterate 37 (· first | (cases h; rfl) | (exact absurd hd (by decide)) | (cases h; revert hd; simp [onA]))
 rw [z3c h0] at h; cases h
theorem y3w {c:Xe} {i:Xd} (h:fits c i=true) (hd:onD i=true):∃ t,idx c.Regs_ i.D_=some t:=by
 obtain ⟨r,hr,h1,_⟩:=zbu h
 exact z7j h1 (y3x hr hd)
theorem y3u {c:Xe} {i:Xd} (h:fits c i=true) (hd:onA i=true):∃ t,idx c.Regs_ i.A_=some t:=by
 obtain ⟨r,hr,_,h1,_⟩:=zbu h
 exact z7j h1 (y3v hr hd)
section
variable {c:Xe} {N:Nat} {set:List Bool} {news:List (List Int)} {op:List Int} {o:List Xg} {i:Xd}
theorem Two.lst (h:Two c N set news op o):lst op=(match o.getLast? with | some x=>code x | none=>-1):=by
 unfold Loom.lst
 rw [h.op,List.getLast?_map]
 cases o.getLast? <;> rfl
theorem Two.loop (h:Two c N set news op o):decide (Loom.lst op≥0)=z1u o∧(z1u o=true→Loom.lst op=lstP o∧0≤lstP o):=by
 rw [h.lst]
 unfold z1u lstP
 cases hg:o.getLast? with
 | none=>exact ⟨by decide,fun h=>by cases h⟩
 | some x =>
  have hx:=h.ok x (List.mem_of_getLast? hg)
  rcases hx with hx | ⟨hx,hp⟩
  ·have e:code x = -1:=by unfold code; rw [hx]; rfl
   have e2:(x.Op_==36)=false:=by rw [hx]; rfl
   simp only [e,e2]
   exact ⟨by decide,fun h=>by cases h⟩
  ·have e:code x=x.Param_:=by unfold code; rw [hx]; rfl
   have e2:(x.Op_==36)=true:=by rw [hx]; rfl
   simp only [e,e2]
   exact ⟨by simpa using hp,fun _=>⟨by trivial,hp⟩⟩
theorem y1w (x:Int):decide (x<0) = !(decide (x≥0)):=by
 by_cases h:x<0
 ·have:¬ x≥0:=by omega
  simp [h]
 ·have:x≥0:=by omega
  simp [h,this]
theorem z3j {N M:Nat} (hNM:N≤M):∀ (set:List Bool) (ls:List (List Int)) (ws:List Xg),z9h N set ls ws→z9h M set ls ws
 | _,[],[],_=>trivial
 | set,l::ls,w::ws,h=>⟨h.1,Nat.le_trans h.2.1 hNM,h.2.2.1,z3j hNM _ ls ws h.2.2.2⟩
 | _,[],_::_,h=>h.elim
 | _,_::_,[],h=>h.elim
theorem zi9 {N:Nat}:∀ (set:List Bool) (ls:List (List Int)) (ws:List Xg),z9h N set ls ws→ls.length=ws.length
 | _,[],[],_=>rfl
 | set,l::ls,w::ws,h=>by simp [zi9 _ ls ws h.2.2.2]
 | _,[],_::_,h=>h.elim
 | _,_::_,[],h=>h.elim
theorem zkg {N:Nat}:∀ (set:List Bool) (ls:List (List Int)) (ws:List Xg),z9h N set ls ws→∀ l ∈ ls,l.length≤N
 | _,[],[],_,l,hl=>by cases hl
 | set,l::ls,w::ws,h,x,hx=>by
  rcases List.mem_cons.1 hx with rfl | hx
  ·exact h.2.1
  ·exact zkg _ ls ws h.2.2.2 x hx
 | _,[],_::_,h,_,_=>h.elim
 | _,_::_,[],h,_,_=>h.elim
theorem Two.newsOk (h:Two c N set news op o):news.length≤64∧∀ l ∈ news,l.length≤N:=by
 have h1:=zi9 _ _ _ h.ch
 simp only [List.length_reverse] at h1
 have h2:=List.length_filter_le z3z o
 have:=h.le
 exact ⟨by omega,fun l hl=>zkg _ _ _ h.ch l (by simpa using hl)⟩
def zd7 (c:Xe) (i:Xd) (op:List Int):Bool :=
 bif i.Op_==34 || i.Op_==36 then !(decide (Loom.lst op≥0) || (op.length:Int)==64) else bif i.Op_==35 then !((op.length:Int)==0 || decide (Loom.lst op≥0)) else bif i.Op_==37 then !(decide (Loom.lst op<0)) else
  bif decide (Loom.lst op<0) then true else zci c i (Loom.lst op)
theorem zpu {k:Int} (h:i.Op_=k) (hk:k=34∨k=35∨k=36):vecP c i = -1:=by
 unfold vecP onD onA elem
 rw [h]
 rcases hk with rfl | rfl | rfl
 all_goals
  show (match idx c.Regs_ (-1) with | some t=>bif t.Kind_==3 then t.Param_ else -1 | none=>-1)=_
  rw [z34 (.inl (by decide))]
theorem Two.place (h:Two c N set news op o):zd7 c i op=(!(z1u o && (!(i.Op_==37) && vecP c i != lstP o)) && zb1 i o):=by
 obtain ⟨h1,h2⟩:=h.loop
 have hlen:op.length=o.length:=by rw [h.op]; simp
 have hle:=h.le
 unfold zd7 zb1
 rw [y1w,h1,hlen]
 by_cases q4:i.Op_=34∨i.Op_=36
 ·have e1:(i.Op_==34 || i.Op_==36)=true:=by rcases q4 with q | q <;> rw [q] <;> rfl
  have e2:(i.Op_==37)=false:=by rcases q4 with q | q <;> rw [q] <;> rfl
  have e3:vecP c i = -1:=by rcases q4 with q | q <;> exact zpu q (by simp)
  have e4:((o.length:Int)==64) = !(decide ((o.length:Int)<64)):=by
   by_cases q:o.length<64
   ·have:¬ (o.length:Int)=64:=by omega
    have q':(o.length:Int)<64:=by omega
    simp [this,q']
   ·have:(o.length:Int)=64:=by omega
    simp [this]
  rw [e1,e2,e3,e4]
  simp only [cond_true]
  cases hl:z1u o with
  | false=>simp
  | true =>
   have:=(h2 hl).2
   have e5:((-1:Int) != lstP o)=true:=by simp; omega
   rw [e5]; simp
 ·have e1:(i.Op_==34 || i.Op_==36)=false:=by
   have a1:¬ i.Op_=34:=fun q=>q4 (.inl q)
   have a2:¬ i.Op_=36:=fun q=>q4 (.inr q)
   simp [a1,a2]
  rw [e1]
  simp only [cond_false]
  by_cases q5:i.Op_=35
  ·have e2:(i.Op_==35)=true:=by rw [q5]; rfl
   have e3:(i.Op_==37)=false:=by rw [q5]; rfl
   have e4:vecP c i = -1:=zpu q5 (by simp)
   have e6:((o.length:Int)==0) = !(decide ((o.length:Int) > 0)):=by
    by_cases q:0<o.length
    ·have a1:((o.length:Int)==0)=false:=by simp only [beq_eq_false_iff_ne,ne_eq]; omega
     have a2:decide ((o.length:Int) > 0)=true:=by simp only [decide_eq_true_eq]; omega
     rw [a1,a2]; rfl
    ·have:(o.length:Int)=0:=by omega
     simp [this]
   rw [e2,e3,e4,e6]
   simp only [cond_true]
   cases hl:z1u o with
   | false=>simp
   | true =>
    have:=(h2 hl).2
    have e5:((-1:Int) != lstP o)=true:=by simp; omega
    rw [e5]; simp
  ·have e2:(i.Op_==35)=false:=by simpa using q5
   rw [e2]
   simp only [cond_false]
   cases i.Op_==37 with
   | true =>
    simp only [cond_true]
    cases z1u o <;> rfl
   | false =>
    simp only [cond_false]
    cases hl:z1u o with
    | false=>rfl
    | true =>
     obtain ⟨p1,p2⟩:=h2 hl
     rw [p1,y8b p2]
     cases zci c i (lstP o) <;> rfl
end
def z9x (i:Xd) (set:List Bool) (news:List (List Int)) (op:List Int):List Bool×List (List Int)×List Int :=
 bif i.Op_==34 then (set,news++[[]],op++[-1]) else bif i.Op_==36 then (set,news,op++[i.N_]) else
 bif i.Op_==35 then (undo set (news.getLast?.getD []),news.dropLast,op.dropLast) else bif i.Op_==37 then (set,news,op.dropLast) else
 bif sets i && !((set[i.D_.toNat]?).getD false) then (set.set i.D_.toNat true,z8f news i.D_,op) else (set,news,op)
def okI (c:Xe) (i:Xd) (set:List Bool) (op:List Int):Bool:=fits c i && (zd7 c i op && rdOk set i)
section
variable {c:Xe} {N:Nat} {set:List Bool} {news:List (List Int)} {op:List Int} {o:List Xg} {i:Xd}
theorem zf3 {k:Int} (h:i.Op_=k) (hk:k=35∨k=36∨k=37):z1p i=[]∧sets i=false:=by
 unfold z1p sets
 rw [h]
 rcases hk with rfl | rfl | rfl <;> exact ⟨rfl,rfl⟩
theorem Two.last (h:Two c N set news op o) (h0:0<op.length) (h1:Loom.lst op<0):∃ l w,news.getLast? = some l∧o.getLast? = some w∧w.Op_=34∧undo set l=w.Set_∧l.length≤N∧(∀ r ∈ l,0≤r∧r<set.length)∧z9h N w.Set_ news.dropLast.reverse (o.dropLast.filter z3z).reverse:=by
 have hlen:op.length=o.length:=by rw [h.op]; simp
 obtain ⟨w,w1,w2⟩:=z6v o (by omega)
 have hw:w.Op_=34:=by
  rcases h.ok w (List.mem_of_getLast? w1) with q | ⟨q,p⟩
  ·exact q
  ·rw [h.lst,w1] at h1
   simp only [code,q] at h1
   have:(bif ((36:Int)==36) then w.Param_ else -1)=w.Param_:=rfl
   omega
 have ho:o=o.dropLast++[w]:=by
  have hne:o ≠ []:=fun e=>by rw [e] at w1; cases w1
  have:=List.dropLast_concat_getLast hne
  rw [List.getLast?_eq_some_getLast hne] at w1
  rw [← Option.some.inj w1]; exact this.symm
 have hc:=h.ch
 rw [ho,List.filter_append] at hc
 have e:[w].filter z3z=[w]:=by simp [z3z,hw]
 rw [e,List.reverse_append,List.reverse_singleton,List.singleton_append] at hc
 cases hn:news.reverse with
 | nil=>rw [hn] at hc; exact hc.elim
 | cons l ls =>
  rw [hn] at hc
  have hnews:news=ls.reverse++[l]:=by
   have:=congrArg List.reverse hn
   simpa using this
  refine ⟨l,w,by rw [hnews]; simp,w1,hw,hc.1,hc.2.1,hc.2.2.1,?_⟩
  have:news.dropLast=ls.reverse:=by rw [hnews]; simp
  rw [this,List.reverse_reverse]
  exact hc.2.2.2
theorem zy1 {m k:Nat} {x:Xe} {v:List Xd×Int×List Xa×List Xb×List Xc} (h:Two c N set news op o) (hN:N<1000000) (hm:N<m) (hr:∀ t ∈ c.Regs_,mayT c.Sign_ t=true) (h0:0≤i.Bits_) (h1:i.Bits_<4294967296)
  (hk:k<1000000) (hv:decide ((k:Int)<v.2.1)=true) (hi:idx v.1 (k:Int)=some i) :
  zcq (m+5) x v ((k:Int),c.Sign_,c.Regs_,c.Slots_,c.List_,set,news,op)=some (bif okI c i set op then .go (((k+1:Nat):Int),c.Sign_,c.Regs_,c.Slots_,c.List_,z9x i set news op) else .ret (k:Int)):=by
 rw [zib]
 dsimp only
 rw [hv,hi]
 simp only [cond_true,Option.bind_some]
 rw [y5j m hr h0 h1]
 unfold okI
 cases hf:fits c i with
 | false=>rfl
 | true =>
  have hle:op.length≤64:=by rw [h.op]; simpa using h.le
  obtain ⟨n1,n2⟩:=h.newsOk
  have hrd:∀ y ∈ z1p i,0≤y∧y<set.length:=fun y hy=>by rw [h.len]; exact zm6 hf y hy
  have hD:sets i=true→0≤i.D_∧i.D_<set.length:=fun hs=>by rw [h.len]; exact zhz hf hs
  simp only [Option.bind_some,Bool.not_true,cond_false,Bool.true_and]
  unfold zd7 z9x
  by_cases q34:i.Op_=34
  ·have e1:(i.Op_==34)=true:=by simpa using q34
   rw [zyc (n:=m+5) (by omega) q34]
   simp only [e1,Bool.true_or,cond_true,Option.bind_some]
   cases hp:(decide (Loom.lst op≥0) || (op.length:Int)==64) with
   | true=>rfl
   | false =>
    simp only [Bool.not_false,Bool.not_true,cond_false,Bool.true_and]
    rw [zyd (m:=m+1) q34 hrd hle n1]
    cases rdOk set i with
    | false=>rfl
    | true =>
     simp only [Option.bind_some,orRet_inl,Bool.not_true,cond_false,cond_true,z2f (show k<4611686018427387904 by omega)]
  ·have e1:(i.Op_==34)=false:=by simpa using q34
   by_cases q36:i.Op_=36
   ·have e2:(i.Op_==36)=true:=by simpa using q36
    obtain ⟨r1,r2⟩:=zf3 q36 (by simp)
    have r3:rdOk set i=true:=by unfold rdOk; rw [r1]; rfl
    rw [zya (n:=m+5) hle q36]
    simp only [e1,e2,Bool.false_or,cond_true,cond_false,Option.bind_some]
    cases hp:(decide (Loom.lst op≥0) || (op.length:Int)==64) with
    | true=>rfl
    | false =>
     simp only [Bool.not_false,Bool.not_true,cond_false,Bool.true_and]
     rw [zbn (m:=m+1) q34 hrd hD n1 (fun l hl=>by have:=n2 l hl; omega)]
     simp only [r2,r3,Bool.false_and,Bool.and_false,Option.bind_some,orRet_inl,Bool.not_true,cond_false,cond_true,z2f (show k<4611686018427387904 by omega)]
   ·have e2:(i.Op_==36)=false:=by simpa using q36
    by_cases q35:i.Op_=35
    ·have e3:(i.Op_==35)=true:=by simpa using q35
     obtain ⟨r1,r2⟩:=zf3 q35 (by simp)
     rw [y3g (m:=m+1) (nl:=news.getLast?.getD []) hle q35 (fun z1 z2=>by
      obtain ⟨l,w,a1,a2,a3,a4,a5,a6,a7⟩:=h.last z1 z2
      rw [a1]
      exact ⟨rfl,by omega,by simp only [Option.getD_some]; omega,by simp only [Option.getD_some]; omega,a6⟩)]
     simp only [e1,e2,e3,Bool.false_or,cond_true,cond_false,Option.bind_some]
     cases hp:((op.length:Int)==0 || decide (Loom.lst op≥0)) with
     | true=>rfl
     | false =>
      have r3:rdOk set i=true:=by unfold rdOk; rw [r1]; rfl
      simp only [Bool.not_false,Bool.not_true,cond_false,Bool.true_and,r3]
      rw [zbn (m:=m+1) q34 (fun y hy=>by rw [r1] at hy; cases hy) (fun hs=>by rw [r2] at hs; cases hs) (by simp; omega) (fun l hl=>by
       have:=n2 l ((List.dropLast_sublist _).subset hl); omega)]
      have r4:rdOk (undo set (news.getLast?.getD [])) i=true:=by unfold rdOk; rw [r1]; rfl
      simp only [r2,r4,Bool.false_and,Bool.and_false,Option.bind_some,orRet_inl,Bool.not_true,cond_false,cond_true,z2f (show k<4611686018427387904 by omega)]
    ·have e3:(i.Op_==35)=false:=by simpa using q35
     by_cases q37:i.Op_=37
     ·have e4:(i.Op_==37)=true:=by simpa using q37
      obtain ⟨r1,r2⟩:=zf3 q37 (by simp)
      have r3:rdOk set i=true:=by unfold rdOk; rw [r1]; rfl
      rw [zyb (n:=m+5) hle q37]
      simp only [e1,e2,e3,e4,Bool.false_or,cond_true,cond_false,Option.bind_some]
      cases hp:decide (Loom.lst op<0) with
      | true=>rfl
      | false =>
       simp only [Bool.not_false,Bool.not_true,cond_false,Bool.true_and]
       rw [zbn (m:=m+1) q34 hrd hD n1 (fun l hl=>by have:=n2 l hl; omega)]
       simp only [r2,r3,Bool.false_and,Bool.and_false,Option.bind_some,orRet_inl,Bool.not_true,cond_false,cond_true,z2f (show k<4611686018427387904 by omega)]
     ·have e4:(i.Op_==37)=false:=by simpa using q37
      rw [zy9 (n:=m+5) hle hf q34 q35 q36 q37 (y3w hf) (y3u hf)]
      simp only [e1,e2,e3,e4,Bool.false_or,cond_true,cond_false,Option.bind_some]
      cases hp:(bif decide (Loom.lst op<0) then true else zci c i (Loom.lst op)) with
      | false=>rfl
      | true =>
       simp only [Bool.not_false,Bool.not_true,cond_false,Bool.true_and]
       rw [zbn (m:=m+1) q34 hrd hD n1 (fun l hl=>by have:=n2 l hl; omega)]
       cases rdOk set i with
       | false=>rfl
       | true =>
        simp only [Bool.true_and,Option.bind_some,orRet_inl,Bool.not_true,cond_false,cond_true,z2f (show k<4611686018427387904 by omega)]
end
def z6i (i:Xd) (set:List Bool) (o:List Xg):List Bool×List Xg :=
 bif i.Op_==34 || i.Op_==36 then (set,o++[⟨i.Op_,i.N_,set⟩]) else bif i.Op_==35 then ((o.getLast?.getD ⟨0,0,[]⟩).Set_,o.dropLast) else bif i.Op_==37 then (set,o.dropLast) else
  bif sets i then (set.set i.D_.toNat true,o) else (set,o)
theorem zs9 {n:Nat} {s:List Bool} (h:s.length≤140737488355328):f42 n s=some s:=by
 rw [y5r,zh (by omega)]
section
variable {c:Xe} {N:Nat} {set:List Bool} {news:List (List Int)} {op:List Int} {o:List Xg} {i:Xd}
theorem zy5 {m k:Nat} (h:Two c N set news op o) (hr:∀ t ∈ c.Regs_,mayT c.Sign_ t=true) (hR:c.Regs_.length≤1000000) (h0:0≤i.Bits_) (h1:i.Bits_<4294967296)
  (hk:k<1000000) (hv:k<c.List_.length) (hi:idx c.List_ (k:Int)=some i) :
  zcs (m+4) c () ((k:Int),set,o)=some (bif z5b c i set o then .go (((k+1:Nat):Int),z6i i set o) else .ret (k:Int)):=by
 have hle:=h.le
 have hlen:=h.len
 rw [zik]
 have e1:decide ((k:Int)<(c.List_.length:Int))=true:=by simp; omega
 dsimp only
 rw [e1,hi]
 simp only [cond_true,Option.bind_some]
 rw [y5q hr h0 h1 hlen (by omega)]
 have w:IntKind.i64.wrap ((k:Int)+1)=((k+1:Nat):Int):=z2f (by omega)
 cases hs:z5b c i set o with
 | false=>rfl
 | true =>
  simp only [Option.bind_some,Bool.not_true,cond_false,cond_true]
  have hs':=hs
  unfold z5b at hs'
  simp only [Bool.and_eq_true] at hs'
  obtain ⟨hf,hv1,hrd,hp⟩:=hs'
  unfold z6i
  have hB:(bif i.Op_==34 then some (Sum.inl (true,i.Op_,i.D_,i.A_,i.B_,i.C_,i.N_,i.Bits_)) else some (.inl (i.Op_==36,i.Op_,i.D_,i.A_,i.B_,i.C_,i.N_,i.Bits_)):Option (Bool×Int×Int×Int×Int×Int×Int×Int⊕Bo (Int×List Bool×List Xg) (Int×List Bool×List Xg) Int))
    = some (.inl (i.Op_==34 || i.Op_==36,i.Op_,i.D_,i.A_,i.B_,i.C_,i.N_,i.Bits_)):=by
   cases i.Op_==34 <;> rfl
  rw [hB,Option.bind_some,orRet_inl]
  dsimp only
  cases q1:(i.Op_==34 || i.Op_==36) with
  | true =>
   simp only [cond_true]
   rw [zs9 (by omega)]
   simp only [Option.bind_some]
   rw [zh (by simp; omega),w]
  | false =>
   simp only [cond_false]
   unfold zb1 at hp
   rw [q1] at hp
   simp only [cond_false] at hp
   cases q2:i.Op_==35 with
   | true =>
    rw [q2] at hp
    simp only [cond_true,Bool.and_eq_true,decide_eq_true_eq] at hp
    have hpos:0<o.length:=by omega
    obtain ⟨w1,w2,w3⟩:=z8d hpos (by omega)
    obtain ⟨x,x1,x2⟩:=z6v o hpos
    simp only [cond_true]
    rw [zh ⟨w2,w3⟩,w1,x2,x1]
    simp only [Option.bind_some,Option.getD_some]
    have hx:x.Set_.length≤140737488355328:=by
     have hl0:Loom.lst op<0:=by
      have:=h.loop.1
      rw [← this] at hp
      simp at hp; omega
     obtain ⟨l,wv,a1,a2,a3,a4,_⟩:=h.last (by rw [h.op]; simpa using hpos) hl0
     rw [x1] at a2
     cases a2
     rw [← a4,zmj]; omega
    rw [zs9 hx]
    simp only [Option.bind_some]
    rw [zh ⟨w2,by omega⟩,zh (by omega),w]
    simp [List.dropLast_eq_take]
   | false =>
    rw [q2] at hp
    simp only [cond_false] at hp ⊢
    cases q3:i.Op_==37 with
    | true =>
     rw [q3] at hp
     simp only [cond_true] at hp ⊢
     have hpos:0<o.length:=by
      cases o with
      | nil=>cases hp
      | cons _ _=>simp
     obtain ⟨w1,w2,w3⟩:=z8d hpos (by omega)
     rw [zh ⟨w2,by omega⟩,w1,zh (by omega),w]
     simp [List.dropLast_eq_take]
    | false =>
     have e:(⟨i.Op_,i.D_,i.A_,i.B_,i.C_,i.N_,i.Bits_⟩:Xd)=i:=rfl
     simp only [cond_false,e,y4q,Option.bind_some]
     cases hss:sets i with
     | false=>simp only [cond_false,w]
     | true =>
      obtain ⟨d0,d1⟩:=zhz hf hss
      obtain ⟨b,hb⟩:=zau (l:=set) d0 (by omega)
      simp only [cond_true]
      rw [zh ⟨d0,by omega⟩,hb]
      simp only [Option.bind_some,w]
theorem zmi (l:List Int):∀ (set:List Bool) (j:Nat),(undo set l)[j]? = if l.any (fun r=>r.toNat==j) then (set[j]?).map (fun _=>false) else set[j]?:=by
 unfold undo
 induction l with
 | nil=>intro set j; simp
 | cons r l ih =>
  intro set j
  simp only [List.foldl_cons]
  rw [ih,List.any_cons]
  by_cases h:r.toNat=j
  ·subst h
   simp only [beq_self_eq_true,Bool.true_or,if_true]
   split
   ·by_cases hj:r.toNat<set.length
    ·simp [hj]
    ·simp [hj]
   ·by_cases hj:r.toNat<set.length
    ·simp [hj]
    ·simp [hj]
  ·have e:(r.toNat==j)=false:=by simpa using h
   rw [e,Bool.false_or,List.getElem?_set_ne h]
theorem zz2 {l:List Int} {set:List Bool} {d:Int} (hd:set[d.toNat]? = some false):undo (set.set d.toNat true) (l++[d])=undo set l:=by
 apply List.ext_getElem?
 intro j
 have hlt:d.toNat<set.length:=by
  obtain ⟨h,_⟩:=List.getElem?_eq_some_iff.1 hd
  exact h
 rw [zmi,zmi,List.any_append]
 by_cases h:d.toNat=j
 ·subst h
  simp only [List.any_cons,beq_self_eq_true,Bool.true_or,Bool.or_true,if_true,hd]
  rw [List.getElem?_set_self hlt]
  simp
 ·have e:(d.toNat==j)=false:=by simpa using h
  rw [List.getElem?_set_ne h]
  simp [e]
theorem zx7 {set:List Bool} {d:Nat} (h:set[d]? = some true):set.set d true=set:=by
 apply List.ext_getElem?
 intro j
 by_cases hj:d=j
 ·subst hj
  obtain ⟨hl,_⟩:=List.getElem?_eq_some_iff.1 h
  rw [List.getElem?_set_self hl,h]
 ·rw [List.getElem?_set_ne hj]
end
section
variable {c:Xe} {N:Nat} {set:List Bool} {news:List (List Int)} {op:List Int} {o:List Xg} {i:Xd}
theorem y7u (hf:fits c i=true) (h:i.Op_=36):0≤i.N_:=by
 unfold fits at hf
 rw [h] at hf
 have e:rowD 36=some ⟨0,0,0,0,4⟩:=rfl
 rw [e] at hf
 simp only [Bool.and_eq_true] at hf
 have:=hf.2.2.2.2.2
 have e2:nOk c 4 i.N_ (tyF c ⟨0,0,0,0,4⟩ i)=(decide (i.N_≥0) && decide (i.N_<(c.Sign_.length:Int))):=rfl
 rw [e2] at this
 simp at this
 exact this.1
theorem zqy {α:Type} {l:List α} {w:α} (h:l.getLast? = some w):l=l.dropLast++[w]:=by
 have hne:l ≠ []:=fun e=>by rw [e] at h; cases h
 have:=List.dropLast_concat_getLast hne
 rw [List.getLast?_eq_some_getLast hne] at h
 rw [← Option.some.inj h]; exact this.symm
theorem Two.next (h:Two c N set news op o) (hok:okI c i set op=true):(z6i i set o).1=(z9x i set news op).1∧Two c (N+1) (z9x i set news op).1 (z9x i set news op).2.1 (z9x i set news op).2.2 (z6i i set o).2:=by
 unfold okI at hok
 simp only [Bool.and_eq_true] at hok
 obtain ⟨hf,hp,hrd⟩:=hok
 have hlen:op.length=o.length:=by rw [h.op]; simp
 unfold zd7 at hp
 unfold z9x z6i
 by_cases q34:i.Op_=34
 ·have e1:(i.Op_==34)=true:=by simpa using q34
  rw [e1] at hp
  simp only [Bool.true_or,cond_true,Bool.not_eq_true',Bool.or_eq_false_iff,beq_eq_false_iff_ne,ne_eq] at hp
  have hle:=h.le
  simp only [e1,Bool.true_or,cond_true]
  refine ⟨by trivial,h.len,?_,?_,?_,?_⟩
  ·rw [List.map_append,h.op]; simp [code,q34]
  ·simp; omega
  ·intro x hx
   rcases List.mem_append.1 hx with hx | hx
   ·exact h.ok x hx
   ·simp only [List.mem_singleton] at hx
    subst hx; exact .inl q34
  ·rw [List.filter_append]
   have e:[(⟨i.Op_,i.N_,set⟩:Xg)].filter z3z=[⟨i.Op_,i.N_,set⟩]:=by simp [z3z,q34]
   rw [e,List.reverse_append,List.reverse_append]
   exact ⟨rfl,Nat.zero_le _,fun r hr=>(by cases hr),z3j (Nat.le_succ N) _ _ _ h.ch⟩
 ·have e1:(i.Op_==34)=false:=by simpa using q34
  rw [e1] at hp
  by_cases q36:i.Op_=36
  ·have e2:(i.Op_==36)=true:=by simpa using q36
   rw [e2] at hp
   simp only [Bool.false_or,cond_true,Bool.not_eq_true',Bool.or_eq_false_iff,beq_eq_false_iff_ne,ne_eq] at hp
   have hle:=h.le
   simp only [e1,e2,Bool.false_or,cond_true,cond_false]
   refine ⟨by trivial,h.len,?_,?_,?_,?_⟩
   ·rw [List.map_append,h.op]; simp [code,q36]
   ·simp; omega
   ·intro x hx
    rcases List.mem_append.1 hx with hx | hx
    ·exact h.ok x hx
    ·simp only [List.mem_singleton] at hx
     subst hx; exact .inr ⟨q36,y7u hf q36⟩
   ·rw [List.filter_append]
    have e:[(⟨i.Op_,i.N_,set⟩:Xg)].filter z3z=[]:=by simp [z3z,q36]
    rw [e,List.append_nil]
    exact z3j (Nat.le_succ N) _ _ _ h.ch
  ·have e2:(i.Op_==36)=false:=by simpa using q36
   rw [e2] at hp
   simp only [Bool.false_or,cond_false] at hp
   simp only [e1,e2,Bool.false_or,cond_false]
   by_cases q35:i.Op_=35
   ·have e3:(i.Op_==35)=true:=by simpa using q35
    rw [e3] at hp
    simp only [cond_true,Bool.not_eq_true',Bool.or_eq_false_iff,beq_eq_false_iff_ne,ne_eq,decide_eq_false_iff_not] at hp
    obtain ⟨l,w,a1,a2,a3,a4,a5,a6,a7⟩:=h.last (by omega) (by omega)
    simp only [e3,cond_true,a1,a2,Option.getD_some]
    have hle:=h.le
    refine ⟨a4.symm,?_,?_,?_,?_,?_⟩
    ·rw [zmj]; exact h.len
    ·rw [h.op,List.map_dropLast]
    ·simp; omega
    ·exact fun x hx=>h.ok x ((List.dropLast_sublist _).subset hx)
    ·rw [a4]; exact z3j (Nat.le_succ N) _ _ _ a7
   ·have e3:(i.Op_==35)=false:=by simpa using q35
    rw [e3] at hp
    simp only [cond_false] at hp
    by_cases q37:i.Op_=37
    ·have e4:(i.Op_==37)=true:=by simpa using q37
     rw [e4,y1w,h.loop.1] at hp
     simp only [cond_true,Bool.not_not] at hp
     simp only [e3,e4,cond_true,cond_false]
     have hle:=h.le
     obtain ⟨w,hw⟩:∃ w,o.getLast? = some w:=by
      unfold z1u at hp
      split at hp
      ·exact ⟨_,by assumption⟩
      ·cases hp
     have hww:w.Op_=36:=by
      unfold z1u at hp
      rw [hw] at hp
      simpa using hp
     refine ⟨by trivial,h.len,?_,?_,?_,?_⟩
     ·rw [h.op,List.map_dropLast]
     ·simp; omega
     ·exact fun x hx=>h.ok x ((List.dropLast_sublist _).subset hx)
     ·have:=h.ch
      rw [zqy hw,List.filter_append] at this
      have e:[w].filter z3z=[]:=by simp [z3z,hww]
      rw [e,List.append_nil] at this
      exact z3j (Nat.le_succ N) _ _ _ this
    ·have e4:(i.Op_==37)=false:=by simpa using q37
     simp only [e3,e4,cond_false]
     cases hs:sets i with
     | false =>
      simp only [Bool.false_and,cond_false]
      exact ⟨by trivial,h.len,h.op,h.le,h.ok,z3j (Nat.le_succ N) _ _ _ h.ch⟩
     | true =>
      obtain ⟨d0,d1⟩:=zhz hf hs
      obtain ⟨b,hb⟩:=zau (l:=set) d0 (by rw [h.len]; exact d1)
      simp only [hb,Option.getD_some,Bool.true_and,cond_true]
      cases b with
      | true =>
       rw [zx7 hb]
       exact ⟨rfl,h.len,h.op,h.le,h.ok,z3j (Nat.le_succ N) _ _ _ h.ch⟩
      | false =>
       simp only [Bool.not_false,cond_true]
       refine ⟨by trivial,by simpa using h.len,h.op,h.le,h.ok,?_⟩
       have hc:=h.ch
       cases hn:news.reverse with
       | nil =>
        rw [hn] at hc
        have:news=[]:=by simpa using hn
        subst this
        cases hw:(o.filter z3z).reverse with
        | nil=>simp [z8f,z9h]
        | cons w ws=>rw [hw] at hc; exact hc.elim
       | cons l ls =>
        rw [hn] at hc
        cases hw:(o.filter z3z).reverse with
        | nil=>rw [hw] at hc; exact hc.elim
        | cons w ws =>
         rw [hw] at hc
         obtain ⟨c1,c2,c3,c4⟩:=hc
         have hnews:news=ls.reverse++[l]:=by
          have:=congrArg List.reverse hn
          simpa using this
         have ha:(z8f news i.D_).reverse=(l++[i.D_])::ls:=by
          unfold z8f
          rw [hnews]
          simp
         rw [ha]
         refine ⟨by rw [zz2 hb]; exact c1,by simp; omega,fun r hr=>?_,z3j (Nat.le_succ N) _ _ _ c4⟩
         rcases List.mem_append.1 hr with hr | hr
         ·simpa using c3 r hr
         ·simp only [List.mem_singleton] at hr
          subst hr
          refine ⟨d0,?_⟩
          simp only [List.length_set]
          rw [h.len]; exact d1
end
theorem zlt {α S Y Z:Type} {l:List α} {p:α→Bool} {g:Nat→S} {body:S→Option (Bo S Y Z)} {z:Nat→Z} {y:Y}
  (hb:∀ (k:Nat) (h:k<l.length),body (g k)=some (bif p l[k] then .go (g (k+1)) else .ret (z k))) (he:body (g l.length)=some (.out y)) :
  ∀ (j k f:Nat),k+j=l.length→j<f→iter body f (g k)=some (match (l.drop k).findIdx? (fun x=>!p x) with | none=>.out y | some i=>.ret (z (k+i)))
 | 0,k,f+1,hk,hf=>by
  obtain rfl:k=l.length:=by omega
  unfold iter
  rw [he]
  simp
 | j+1,k,f+1,hk,hf=>by
  have h:k<l.length:=by omega
  unfold iter
  rw [hb k h,List.drop_eq_getElem_cons h]
  cases hp:p l[k] with
  | false =>
   simp only [cond_false,List.findIdx?_cons,hp,Bool.not_false,if_true]
   rfl
  | true =>
   simp only [cond_true]
   rw [zlt hb he j (k+1) f (by omega) (by omega)]
   rw [List.findIdx?_cons]
   simp only [hp,Bool.not_true,cond_false,Bool.false_eq_true,if_false]
   cases (l.drop (k+1)).findIdx? (fun x=>!p x) with
   | none=>rfl
   | some i=>simp only [Option.map_some]; congr 3; omega
theorem zls {α S Y Z:Type} {l:List α} {p:α→Bool} (g:Nat→S) {body:S→Option (Bo S Y Z)} (z:Nat→Z) {y:Y} {f:Nat}
  (hb:∀ (k:Nat) (h:k<l.length),body (g k)=some (bif p l[k] then .go (g (k+1)) else .ret (z k))) (he:body (g l.length)=some (.out y)) (hf:l.length<f) :
  iter body f (g 0)=some (match l.findIdx? (fun x=>!p x) with | none=>.out y | some i=>.ret (z i)):=by
 have:=zlt hb he l.length 0 f (by omega) hf
 simpa using this
section
variable {c:Xe}
theorem z2m {α:Type} {l:List α} {k:Nat} (h:k<l.length):idx l (k:Int)=some l[k]:=by simp [idx,h]
theorem y5a {n:Nat} (h:c.Regs_.length<n) (h2:c.Regs_.length<1000000):f29 n (c.Regs_,c.Sign_,c.Regs_,c.Slots_,c.List_)=some (!(c.Regs_.all (mayT c.Sign_)),c.Sign_,c.Regs_,c.Slots_,c.List_):=by
 have hit:iter (zl6 n (c.Regs_,c.Sign_,c.Regs_,c.Slots_,c.List_) ()) n ((0:Int),c.Sign_,c.Regs_,c.Slots_,c.List_)=some (match c.Regs_.findIdx? (fun x=>!mayT c.Sign_ x) with | none=>.out ((c.Regs_.length:Int),c.Sign_,c.Regs_,c.Slots_,c.List_) | some i=>.ret ((i:Int),c.Sign_,c.Regs_,c.Slots_,c.List_)):=by
  refine zls (p:=mayT c.Sign_) (fun k=>((k:Int),c.Sign_,c.Regs_,c.Slots_,c.List_)) (fun k=>((k:Int),c.Sign_,c.Regs_,c.Slots_,c.List_)) (fun k hk=>?_) ?_ h
  ·rw [zix]
   have e1:decide ((k:Int)<(c.Regs_.length:Int))=true:=by simp; omega
   dsimp only
   rw [e1,z2m hk]
   simp only [cond_true,Option.bind_some,y5b,zs6,z2f (show k<4611686018427387904 by omega)]
   cases mayT c.Sign_ c.Regs_[k] <;> rfl
  ·rw [zix]; simp
 rw [y59,y5v]
 dsimp only
 rw [hit,← zev]
 cases c.Regs_.findIdx? (fun x=>!mayT c.Sign_ x) with
 | none=>rfl
 | some i=>simp [Bo.then]
theorem y5e {n:Nat} (h:c.Slots_.length<n) (h2:c.Slots_.length<1000000) (hb:∀ s ∈ c.Slots_,0≤s.Bits_∧s.Bits_<4294967296):f32 n (c.Slots_,c.Sign_,c.Regs_,c.Slots_,c.List_)=some (!(c.Slots_.all (mayS c.Sign_)),c.Sign_,c.Regs_,c.Slots_,c.List_):=by
 have hit:iter (zl7 n (c.Slots_,c.Sign_,c.Regs_,c.Slots_,c.List_) ()) n ((0:Int),c.Sign_,c.Regs_,c.Slots_,c.List_)=some (match c.Slots_.findIdx? (fun x=>!mayS c.Sign_ x) with | none=>.out ((c.Slots_.length:Int),c.Sign_,c.Regs_,c.Slots_,c.List_) | some i=>.ret ((i:Int),c.Sign_,c.Regs_,c.Slots_,c.List_)):=by
  refine zls (p:=mayS c.Sign_) (fun k=>((k:Int),c.Sign_,c.Regs_,c.Slots_,c.List_)) (fun k=>((k:Int),c.Sign_,c.Regs_,c.Slots_,c.List_)) (fun k hk=>?_) ?_ h
  ·rw [ziy]
   have e1:decide ((k:Int)<(c.Slots_.length:Int))=true:=by simp; omega
   obtain ⟨b0,b1⟩:=hb _ (List.getElem_mem hk)
   dsimp only
   rw [e1,z2m hk]
   simp only [cond_true,Option.bind_some,y5f,y5h _ _ b0 b1,z2f (show k<4611686018427387904 by omega)]
   cases mayS c.Sign_ c.Slots_[k] <;> rfl
  ·rw [ziy]; simp
 rw [y5d,y5w]
 dsimp only
 rw [hit,← zev]
 cases c.Slots_.findIdx? (fun x=>!mayS c.Sign_ x) with
 | none=>rfl
 | some i=>simp [Bo.then]
theorem zy4 {n m:Nat} (h:c.Regs_.length<m) (h2:c.Regs_.length<1000000):iter (zkr n c ()) m 0=some (bif c.Regs_.all (mayT c.Sign_) then .out (c.Regs_.length:Int) else .ret ()):=by
 refine z44 (fun k hk=>?_) ?_ h
 ·rw [zih]
  have e1:decide ((k:Int)<(c.Regs_.length:Int))=true:=by simp; omega
  rw [e1,z2m hk]
  simp only [cond_true,Option.bind_some,zs8,z2f (show k<4611686018427387904 by omega)]
  cases mayT c.Sign_ c.Regs_[k] <;> rfl
 ·rw [zih]; simp
theorem zs3 {n m:Nat} (h:c.Slots_.length<m) (h2:c.Slots_.length<1000000) (hb:∀ s ∈ c.Slots_,0≤s.Bits_∧s.Bits_<4294967296):iter (zks n c ()) m 0=some (bif c.Slots_.all (mayS c.Sign_) then .out (c.Slots_.length:Int) else .ret ()):=by
 refine z44 (fun k hk=>?_) ?_ h
 ·rw [zii]
  have e1:decide ((k:Int)<(c.Slots_.length:Int))=true:=by simp; omega
  obtain ⟨b0,b1⟩:=hb _ (List.getElem_mem hk)
  rw [e1,z2m hk]
  simp only [cond_true,Option.bind_some,y5o _ _ b0 b1,z2f (show k<4611686018427387904 by omega)]
  cases mayS c.Sign_ c.Slots_[k] <;> rfl
 ·rw [zii]; simp
theorem z45 {S Y Z:Type} {L:Nat} (g:Nat→S) {body:S→Option (Bo S Y Z)} {y:Y} (hb:∀ k,k<L→body (g k)=some (.go (g (k+1)))) (he:body (g L)=some (.out y)) :
  ∀ (j k f:Nat),k+j=L→j<f→iter body f (g k)=some (.out y)
 | 0,k,f+1,hk,hf=>by
  obtain rfl:k=L:=by omega
  unfold iter
  rw [he]
 | j+1,k,f+1,hk,hf=>by
  unfold iter
  rw [hb k (by omega)]
  exact z45 g hb he j (k+1) f (by omega) (by omega)
theorem y30 {n m:Nat} (h:c.Regs_.length<m) (h2:c.Regs_.length<1000000):iter (zkt n c ()) m (0,[])=some (.out ((c.Regs_.length:Int),List.replicate c.Regs_.length false)):=by
 refine z45 (L:=c.Regs_.length) (fun k=>((k:Int),List.replicate k false)) (fun k hk=>?_) ?_ c.Regs_.length 0 m (by omega) h
 ·rw [zij]
  have e1:decide ((k:Int)<(c.Regs_.length:Int))=true:=by simp; omega
  dsimp only
  rw [e1,cond_true,zh (by simp; omega),z2f (by omega),← List.replicate_succ']
 ·rw [zij]; simp
end
def okB (y:Int):Bool:=(decide (y≥65) && decide (y≤90)) || ((decide (y≥97) && decide (y≤122)) || ((decide (y≥48) && decide (y≤57)) || (y==95 || (y==46 || (y==47 || y==45)))))
theorem idxB (y:Int) (h0:0≤y) (h1:y<256):decide ((Lib.indexByte [95,46,47,45] y.toNat.toUInt8:Int)≥0)=(y==95 || (y==46 || (y==47 || y==45))):=by
 have h:(List.range 256).all (fun k=>decide ((Lib.indexByte [95,46,47,45] k.toUInt8:Int)≥0)==((k:Int)==95 || ((k:Int)==46 || ((k:Int)==47 || (k:Int)==45))))=true:=by kernel_rfl
 have:=List.all_eq_true.1 h y.toNat (by simp; omega)
 have e:((y.toNat:Nat):Int)=y:=by omega
 rw [e] at this
 simpa using this
theorem y6p {n:Nat} (y:Int) (h0:0≤y) (h1:y<256):∃ r,f68 n (⟨#[95,46,47,45]⟩,y)=some r∧decide (r≥0)=(y==95 || (y==46 || (y==47 || y==45))) :=
 ⟨_,by rw [y6o]; rfl,idxB y h0 h1⟩
theorem zke {x:ByteArray} {k:Nat} (h:k<(bytesOf x).length):0≤(bytesOf x)[k]∧(bytesOf x)[k]<256∧za x (k:Int)=(bytesOf x)[k]:=by
 have hl:k<x.data.toList.length:=by simpa [bytesOf] using h
 have e:(bytesOf x)[k]=((x.data.toList[k]).toNat:Int):=by simp [bytesOf]
 have hb:=UInt8.toNat_lt (x.data.toList[k])
 refine ⟨by rw [e]; omega,by rw [e]; omega,?_⟩
 rw [e]
 unfold za
 rw [List.getD_eq_getElem?_getD,show ((k:Int).toNat)=k from rfl,List.getElem?_eq_getElem hl]
 rfl
theorem zi7 (x:ByteArray):(bytesOf x).length=x.size:=by
 unfold bytesOf
 rw [List.length_map]
 rfl
def z94 (x:ByteArray):Bool:=!(x==⟨#[]⟩ || decide ((x.size:Int) > 64)) && (bytesOf x).all okB
theorem y6d {n:Nat} (x:ByteArray) (hn:64<n):f61 n x=some (z94 x):=by
 rw [y6c]
 have hB:(bif (x==⟨#[]⟩) then some (Sum.inl true) else some (.inl (decide ((x.size:Int) > 64))):Option (Bool⊕Bool))=some (.inl (x==⟨#[]⟩ || decide ((x.size:Int) > 64))):=by
  cases (x==(⟨#[]⟩:ByteArray)) <;> rfl
 rw [hB,Option.bind_some,orRet_inl]
 unfold z94
 cases hq:(x==⟨#[]⟩ || decide ((x.size:Int) > 64)) with
 | true=>rfl
 | false =>
  have hs:x.size≤64:=by
   simp only [Bool.or_eq_false_iff,decide_eq_false_iff_not] at hq
   omega
  have hl:=zi7 x
  have hit:iter (zla n x ()) n 0=some (bif (bytesOf x).all okB then .out ((bytesOf x).length:Int) else .ret ()):=by
   refine z44 (fun k hk=>?_) ?_ (by omega)
   ·obtain ⟨b0,b1,_⟩:=zke hk
    obtain ⟨r,r1,r2⟩:=y6p (n:=n) _ b0 b1
    rw [zj1]
    have e1:decide ((k:Int)<((bytesOf x).length:Int))=true:=by simp; omega
    rw [e1,z2m hk]
    simp only [cond_true,Option.bind_some]
    generalize (bytesOf x)[k]=y at *
    rw [z2f (by omega)]
    unfold okB
    cases a1:decide (y≥65) <;> cases a2:decide (y≤90) <;> cases a3:decide (y≥97) <;> cases a4:decide (y≤122) <;> cases a5:decide (y≥48) <;> cases a6:decide (y≤57) <;> simp only [a1,a2,a3,a4,a5,a6,cond_true,cond_false,Option.bind_some,orRet_inl,r1,r2] <;> cases (y==95 || (y==46 || (y==47 || y==45))) <;> rfl
   ·rw [zj1]; simp
  rw [hit]
  cases (bytesOf x).all okB <;> rfl
set_option maxHeartbeats 4000000 in
theorem y6h {n:Nat} (x:ByteArray) (hn:64<n):f63 n x=some (z94 x):=by
 rw [y6g]
 have hB:(bif (x==⟨#[]⟩) then some (Sum.inl true) else some (.inl (decide ((x.size:Int) > 64))):Option (Bool⊕Bool))=some (.inl (x==⟨#[]⟩ || decide ((x.size:Int) > 64))):=by
  cases (x==(⟨#[]⟩:ByteArray)) <;> rfl
 rw [hB,Option.bind_some,orRet_inl]
 unfold z94
 cases hq:(x==⟨#[]⟩ || decide ((x.size:Int) > 64)) with
 | true=>rfl
 | false =>
  have hs:x.size≤64:=by
   simp only [Bool.or_eq_false_iff,decide_eq_false_iff_not] at hq
   omega
  have hl:=zi7 x
  have hit:iter (zlb n x ()) n 0=some (bif (bytesOf x).all okB then .out ((bytesOf x).length:Int) else .ret ()):=by
   refine z44 (fun k hk=>?_) ?_ (by omega)
   ·obtain ⟨_,_,b2⟩:=zke hk
    rw [zj2]
    have e1:decide ((k:Int)<(x.size:Int))=true:=by simp; omega
    rw [e1,b2,cond_true,zh (by omega),z2f (by omega)]
    generalize (bytesOf x)[k]=y
    unfold okB
    cases decide (y≥97) <;> cases decide (y≤122) <;> cases decide (y≥65) <;> cases decide (y≤90) <;> cases decide (y≥48) <;> cases decide (y≤57) <;> cases (y==95) <;> cases (y==46) <;> cases (y==47) <;> cases (y==45) <;> rfl
   ·rw [zj2,hl]; simp
  rw [hit]
  cases (bytesOf x).all okB <;> rfl
def mayP (p:Xa):Bool:=z94 p.Name_ && ((p.Kind_==1 || p.Kind_==2) && (decide (p.Len_≥1) && decide (p.Len_≤4096)))
theorem zsa {n:Nat} (p:Xa) (hn:64<n):f48 n p=some (mayP p):=by
 rw [y5s,y6d _ hn]
 unfold mayP
 simp only [Option.bind_some]
 cases z94 p.Name_ <;> cases (p.Kind_==1) <;> cases (p.Kind_==2) <;> cases decide (p.Len_≥1) <;> rfl
theorem zsc {n:Nat} (p:Xa) (hn:64<n):f55 n p=some (mayP p):=by
 rw [y62,y6h _ hn]
 unfold mayP
 simp only [Option.bind_some]
 cases z94 p.Name_ <;> cases (p.Kind_==1) <;> cases (p.Kind_==2) <;> cases decide (p.Len_≥1) <;> rfl
theorem zn5 {a b:ByteArray}:(a==b)=true↔a=b:=MapKept.bytes_beq a b
theorem z6p (a:ByteArray):(a==a)=true:=zn5.2 rfl
def addP (ks:List ByteArray) (p:Xa):List ByteArray:=bif has p.Name_ ks then ks else ks++[p.Name_]
theorem zlm {n:Nat} (hn:64<n):∀ (l:List Xa) (ks:List ByteArray),z9q n l ks=some (bif l.all mayP then some (l.foldl addP ks) else none)
 | [],ks=>rfl
 | p::l,ks=>by
  unfold z9q
  have e:zge n p=some (mayP p):=zsa p hn
  rw [e]
  simp only [Option.bind_some,List.all_cons,List.foldl_cons]
  cases mayP p with
  | false=>rfl
  | true =>
   simp only [cond_true,Bool.true_and]
   exact zlm hn l _
theorem y3q (s:ByteArray) (ks:List ByteArray) (p:Xa):has s (addP ks p)=(has s ks || p.Name_==s):=by
 unfold addP
 cases h:has p.Name_ ks with
 | false=>simp [has]
 | true =>
  simp only [cond_true]
  cases hq:p.Name_==s with
  | false=>simp
  | true =>
   rw [zn5] at hq
   subst hq
   simp [h]
theorem zj5 {x:List Xa} {k:Nat} (h:k<x.length):(x.take (k+1)).foldl addP []=addP ((x.take k).foldl addP []) x[k]:=by
 rw [List.take_succ_eq_append_getElem h,List.foldl_append]
 rfl
theorem zln {x:List Xa} (s:ByteArray):∀ k,k≤x.length→has s ((x.take k).foldl addP [])=(x.take k).any (fun p=>p.Name_==s)
 | 0,_=>by simp [has]
 | k+1,h=>by
  rw [zj5 (by omega),y3q,zln s k (by omega),List.take_succ_eq_append_getElem (by omega),List.any_append]
  simp only [List.any_cons,List.any_nil,Bool.or_false]
def z3v (x:List Xa) (k:Nat):Bool:=match x[k]? with | some p=>!((x.take k).any fun q=>q.Name_==p.Name_) | none=>true
theorem zlv {x:List Xa}:∀ k,k≤x.length→((x.take k).foldl addP []).length=(List.range k).countP (z3v x)
 | 0,_=>by simp
 | k+1,h=>by
  have hk:k<x.length:=by omega
  rw [zj5 hk,List.range_succ,List.countP_append,← zlv k (by omega)]
  have e:z3v x k = !(has x[k].Name_ ((x.take k).foldl addP [])):=by
   unfold z3v
   rw [List.getElem?_eq_getElem hk,zln _ k (by omega)]
  have e2:addP ((x.take k).foldl addP []) x[k]=bif has x[k].Name_ ((x.take k).foldl addP []) then (x.take k).foldl addP [] else (x.take k).foldl addP []++[x[k].Name_]:=rfl
  rw [e2]
  cases hh:has x[k].Name_ ((x.take k).foldl addP []) with
  | true=>rw [hh] at e; simp [List.countP_cons,e]
  | false=>rw [hh] at e; simp [List.countP_cons,e]
theorem y4j (x:List Xa):decide (((x.foldl addP []).length:Int)<(x.length:Int)) = !((List.range x.length).all (z3v x)):=by
 have h:=zlv (x:=x) x.length (Nat.le_refl _)
 rw [List.take_length] at h
 rw [h]
 have hle:=List.countP_le_length (p:=z3v x) (l:=List.range x.length)
 simp only [List.length_range] at hle
 cases ha:(List.range x.length).all (z3v x) with
 | true =>
  have:(List.range x.length).countP (z3v x)=(List.range x.length).length:=List.countP_eq_length.2 (List.all_eq_true.1 ha)
  rw [this]; simp
 | false =>
  have:(List.range x.length).countP (z3v x) ≠ (List.range x.length).length:=fun e=>by
   have:=List.countP_eq_length.1 e
   have:(List.range x.length).all (z3v x)=true:=List.all_eq_true.2 this
   rw [ha] at this; cases this
  simp only [List.length_range] at this
  simp only [Bool.not_false,decide_eq_true_eq]
  omega
def fnd (x:List Xa) (s:ByteArray):Int×Bool:=match x.findIdx? (fun p=>p.Name_==s) with | none=>(0,false) | some i=>((i:Int),true)
theorem y64 {n:Nat} {x:List Xa} {s:ByteArray} (h:x.length<n) (h2:x.length<1000000):f56 n (x,s)=some (fnd x s):=by
 have hit:iter (zl8 n (x,s) ()) n 0=some (match x.findIdx? (fun p=>!(!(p.Name_==s))) with | none=>.out (x.length:Int) | some i=>.ret (i:Int)):=by
  refine zls (p:=fun p=>!(p.Name_==s)) (fun k=>(k:Int)) (fun k=>(k:Int)) (fun k hk=>?_) ?_ h
  ·rw [ziz]
   have e1:decide ((k:Int)<(x.length:Int))=true:=by simp; omega
   dsimp only
   rw [e1,z2m hk]
   simp only [cond_true,Option.bind_some,z2f (show k<4611686018427387904 by omega)]
   cases x[k].Name_==s <;> rfl
  ·rw [ziz]; simp
 rw [y63,hit]
 unfold fnd
 simp only [Bool.not_not]
 cases x.findIdx? (fun p=>p.Name_==s) <;> rfl
theorem zyf {x:List Xa} {k:Nat} (hk:k<x.length):(fnd x x[k].Name_).1=(k:Int)↔z3v x k=true:=by
 unfold z3v fnd
 rw [List.getElem?_eq_getElem hk]
 simp only [Bool.not_eq_true']
 cases hf:x.findIdx? (fun p=>p.Name_==x[k].Name_) with
 | none =>
  rw [List.findIdx?_eq_none_iff] at hf
  have:=hf x[k] (List.getElem_mem hk)
  rw [z6p] at this; cases this
 | some i =>
  obtain ⟨hi,h1,h2⟩:=List.findIdx?_eq_some_iff_getElem.1 hf
  simp only
  constructor
  ·intro e
   have e:i=k:=by omega
   subst e
   rw [Bool.eq_false_iff]
   intro ha
   obtain ⟨q,hq,hq2⟩:=List.any_eq_true.1 ha
   obtain ⟨j,hj,rfl⟩:=List.getElem_of_mem hq
   simp only [List.length_take] at hj
   have:=h2 j (by omega)
   rw [List.getElem_take] at hq2
   rw [hq2] at this
   simp at this
  ·intro ha
   by_cases hik:i<k
   ·exfalso
    have:(x.take k).any (fun q=>q.Name_==x[k].Name_)=true:=by
     rw [List.any_eq_true]
     exact ⟨x[i],List.mem_take_iff_getElem.2 ⟨i,by omega,rfl⟩,h1⟩
    rw [ha] at this; cases this
   ·by_cases hki:k<i
    ·exfalso
     have:=h2 k hki
     rw [z6p] at this; simp at this
    ·omega
def numP (p:Xa):Int:=bif mayP p then (bif p.Kind_==2 then IntKind.i64.wrap (2 * p.Len_) else p.Len_) else 0
theorem y6f {n:Nat} (p:Xa) (hn:64<n):f62 n p=some (numP p):=by
 rw [y6e,zsa _ hn]
 unfold numP
 simp only [Option.bind_some]
 cases mayP p <;> cases (p.Kind_==2) <;> rfl
theorem y6j {n:Nat} (p:Xa) (hn:64<n):f64 n p=some (numP p):=by
 rw [y6i,zsc _ hn]
 unfold numP
 simp only [Option.bind_some]
 cases mayP p <;> cases (p.Kind_==2) <;> rfl
def z5c (x:List Xa) (k:Nat):Int:=(x.take k).foldl (fun s p=>IntKind.i64.wrap (s+numP p)) 0
theorem zmf {x:List Xa} {k:Nat} (h:k<x.length):z5c x (k+1)=IntKind.i64.wrap (z5c x k+numP x[k]):=by
 unfold z5c
 rw [List.take_succ_eq_append_getElem h,List.foldl_append]
 rfl
theorem y5u {n:Nat} {x:List Xa} (hn:64<n) (hl:x.length≤64):f49 n x=some (z5c x x.length):=by
 have hit:iter (zl5 n x ()) n (0,0)=some (.out (z5c x x.length,(x.length:Int))):=by
  refine z45 (L:=x.length) (fun k=>(z5c x k,(k:Int))) (fun k hk=>?_) ?_ x.length 0 n (by omega) (by omega)
  ·rw [ziw]
   have e1:decide ((k:Int)<(x.length:Int))=true:=by simp; omega
   dsimp only
   rw [e1,z2m hk]
   simp only [cond_true,Option.bind_some,y6f _ hn,z2f (show k<4611686018427387904 by omega),zmf hk]
  ·rw [ziw]; simp
 rw [y5t,hit]
 rfl
theorem y66 {n:Nat} {x:List Xa} (hn:64<n) (hl:x.length≤64):f57 n x=some (z5c x x.length):=by
 have hit:iter (zl9 n x ()) n (0,0)=some (.out (z5c x x.length,(x.length:Int))):=by
  refine z45 (L:=x.length) (fun k=>(z5c x k,(k:Int))) (fun k hk=>?_) ?_ x.length 0 n (by omega) (by omega)
  ·rw [zj0]
   have e1:decide ((k:Int)<(x.length:Int))=true:=by simp; omega
   dsimp only
   rw [e1,z2m hk]
   simp only [cond_true,Option.bind_some,y6j _ hn,z2f (show k<4611686018427387904 by omega),zmf hk]
  ·rw [zj0]; simp
 rw [y65,hit]
 rfl
def sgn (x:List Xa):Int:=bif decide ((x.length:Int) > 64) then 2 else bif x.all mayP then (bif (List.range x.length).all (z3v x) then (bif decide (z5c x x.length > 65536) then 102 else 0) else 101) else 100
theorem y58 {n:Nat} (x:List Xa) (hn:64<n):f28 n x=some (sgn x):=by
 show g28 n x=_
 unfold g28 sgn
 simp only [List.length_map]
 cases hl:decide ((x.length:Int) > 64) with
 | true=>rfl
 | false =>
  have hl':x.length≤64:=by simp only [decide_eq_false_iff_not] at hl; omega
  rw [zlm hn]
  cases x.all mayP with
  | false=>rfl
  | true =>
   have e:zut n x=some (z5c x x.length):=y5u hn hl'
   simp only [cond_false,cond_true,Option.bind_some,z81,List.length_map,y4j,e]
   cases (List.range x.length).all (z3v x) <;> cases decide (z5c x x.length > 65536) <;> rfl
theorem y5l {n:Nat} (x:List Xa) (hn:64<n):f38 n x=some (sgn x):=by
 rw [y5k]
 unfold sgn
 cases hl:decide ((x.length:Int) > 64) with
 | true=>rfl
 | false =>
  have hl':x.length≤64:=by simp only [decide_eq_false_iff_not] at hl; omega
  have h1:iter (zl2 n x ()) n 0=some (bif x.all mayP then .out (x.length:Int) else .ret ()):=by
   refine z44 (fun k hk=>?_) ?_ (by omega)
   ·rw [zit]
    have e1:decide ((k:Int)<(x.length:Int))=true:=by simp; omega
    rw [e1,z2m hk]
    simp only [cond_true,Option.bind_some,zsc _ hn,z2f (show k<4611686018427387904 by omega)]
    cases mayP x[k] <;> rfl
   ·rw [zit]; simp
  have h2:iter (zl3 n x ()) n 0=some (bif (List.range x.length).all (z3v x) then .out (x.length:Int) else .ret ()):=by
   refine z44 (l:=List.range x.length) (fun k hk=>?_) ?_ (by simp; omega)
   ·simp only [List.length_range] at hk
    rw [ziu]
    have e1:decide ((k:Int)<(x.length:Int))=true:=by simp; omega
    rw [e1,z2m hk]
    simp only [cond_true,Option.bind_some,y64 (n:=n) (x:=x) (s:=x[k].Name_) (by omega) (by omega),z2f (show k<4611686018427387904 by omega),List.getElem_range]
    have:=zyf hk
    cases hq:z3v x k with
    | true =>
     have e:=this.2 hq
     rw [e]
     simp
    | false =>
     have e:(fnd x x[k].Name_).1 ≠ (k:Int):=fun e=>by
      have:=this.1 e
      rw [hq] at this; cases this
     have e2:((fnd x x[k].Name_).1 != (k:Int))=true:=by simpa using e
     rw [e2]; rfl
   ·rw [List.length_range,ziu]; simp
  rw [h1]
  simp only [cond_false]
  cases x.all mayP with
  | false=>rfl
  | true =>
   simp only [cond_true,Option.bind_some,Bo.then]
   rw [h2]
   cases (List.range x.length).all (z3v x) with
   | false=>rfl
   | true =>
    simp only [cond_true,Option.bind_some,Bo.then,y66 hn hl']
    cases decide (z5c x x.length > 65536) <;> rfl
theorem zdg (a:Int):(a==a)=true:=by simp
theorem zxp (a:Bool):(a==a)=true:=by simp
def fuel (a:Xe):Nat:=a.Sign_.length+a.Regs_.length+a.Slots_.length+a.List_.length+100001
theorem zy7 {n:Nat} {c:Xe} (h1:c.Sign_.length<n) (h2:c.Regs_.length<n) (h3:c.Slots_.length<n) (h4:c.List_.length<n)
  (k1:c.Sign_.length<4611686018427387904) (k2:c.Regs_.length<4611686018427387904) (k3:c.Slots_.length<4611686018427387904) (k4:c.List_.length<4611686018427387904):f23 n (c,c)=some true:=by
 have i1:iter (zku n (c,c) ()) n 0=some (.out (c.Sign_.length:Int)):=by
  refine z45 (L:=c.Sign_.length) (fun k=>(k:Int)) (fun k hk=>?_) ?_ c.Sign_.length 0 n (by omega) h1
  ·rw [zim]
   have e1:decide ((k:Int)<(c.Sign_.length:Int))=true:=by simp; omega
   dsimp only
   rw [e1,z2m hk]
   simp only [cond_true,Option.bind_some,z2f (show k<4611686018427387904 by omega),zdg,z6p,Bool.and_self,Bool.not_true,cond_false]
  ·rw [zim]; simp
 have i2:iter (zkv n (c,c) ()) n 0=some (.out (c.Regs_.length:Int)):=by
  refine z45 (L:=c.Regs_.length) (fun k=>(k:Int)) (fun k hk=>?_) ?_ c.Regs_.length 0 n (by omega) h2
  ·rw [zin]
   have e1:decide ((k:Int)<(c.Regs_.length:Int))=true:=by simp; omega
   dsimp only
   rw [e1,z2m hk]
   simp only [cond_true,Option.bind_some,z2f (show k<4611686018427387904 by omega),zdg,z6p,Bool.and_self,Bool.not_true,cond_false]
  ·rw [zin]; simp
 have i3:iter (zkw n (c,c) ()) n 0=some (.out (c.Slots_.length:Int)):=by
  refine z45 (L:=c.Slots_.length) (fun k=>(k:Int)) (fun k hk=>?_) ?_ c.Slots_.length 0 n (by omega) h3
  ·rw [zio]
   have e1:decide ((k:Int)<(c.Slots_.length:Int))=true:=by simp; omega
   dsimp only
   rw [e1,z2m hk]
   simp only [cond_true,Option.bind_some,z2f (show k<4611686018427387904 by omega),zdg,zxp,z6p,Bool.and_self,Bool.not_true,cond_false]
  ·rw [zio]; simp
 have i4:iter (zkx n (c,c) ()) n 0=some (.out (c.List_.length:Int)):=by
  refine z45 (L:=c.List_.length) (fun k=>(k:Int)) (fun k hk=>?_) ?_ c.List_.length 0 n (by omega) h4
  ·rw [zip]
   have e1:decide ((k:Int)<(c.List_.length:Int))=true:=by simp; omega
   dsimp only
   rw [e1,z2m hk]
   simp only [cond_true,Option.bind_some,z2f (show k<4611686018427387904 by omega),zdg,z6p,Bool.and_self,Bool.not_true,cond_false]
  ·rw [zip]; simp
 rw [y55,i1,i2,i3,i4]
 simp [bne,Bo.then]
def goR (c:Xe):List Xd→Nat→List Bool→List Xg→Nat⊕(List Bool×List Xg)
 | [],_,set,o=>.inr (set,o)
 | i::l,k,set,o=>bif z5b c i set o then goR c l (k+1) (z6i i set o).1 (z6i i set o).2 else .inl k
section
variable {c:Xe}
theorem zz6 {m m':Nat} {x:Xe} (hr:∀ t ∈ c.Regs_,mayT c.Sign_ t=true) (hR:c.Regs_.length≤1000000) (hL:c.List_.length<1000000) (hm:c.List_.length<m) (hb:∀ i ∈ c.List_,0≤i.Bits_∧i.Bits_<4294967296) :
  ∀ (j k f f':Nat) (set:List Bool) (news:List (List Int)) (op:List Int) (o:List Xg),k+j=c.List_.length→j<f→j<f'→Two c k set news op o →
   ∃ news' op',(∀ r,goR c (c.List_.drop k) k set o = .inr r→op'.length=r.2.length) ∧
    iter (zcq (m+5) x (c.List_,(c.List_.length:Int),c.Sign_,c.Regs_,c.Slots_)) f ((k:Int),c.Sign_,c.Regs_,c.Slots_,c.List_,set,news,op)=some (match goR c (c.List_.drop k) k set o with | .inl k'=>.ret (k':Int) | .inr r=>.out ((c.List_.length:Int),c.Sign_,c.Regs_,c.Slots_,c.List_,r.1,news',op')) ∧
    iter (zcs (m'+4) c ()) f' ((k:Int),set,o)=some (match goR c (c.List_.drop k) k set o with | .inl k'=>.ret (k':Int) | .inr r=>.out ((c.List_.length:Int),r.1,r.2))
 | 0,k,f+1,f'+1,set,news,op,o,hk,_,_,h=>by
  obtain rfl:k=c.List_.length:=by omega
  rw [List.drop_length]
  refine ⟨news,op,fun r hr=>?_,?_,?_⟩
  ·cases hr; rw [h.op]; simp
  ·unfold iter
   rw [zib]; simp [goR]
  ·unfold iter
   rw [zik]; simp [goR]
 | j+1,k,f+1,f'+1,set,news,op,o,hk,hf,hf',h=>by
  have hkl:k<c.List_.length:=by omega
  obtain ⟨b0,b1⟩:=hb _ (List.getElem_mem hkl)
  have e1:decide ((k:Int)<(c.List_.length:Int))=true:=by simp; omega
  have s1:=zy1 (m:=m) (x:=x) (v:=(c.List_,(c.List_.length:Int),c.Sign_,c.Regs_,c.Slots_)) h (by omega) (by omega) hr b0 b1 (by omega) e1 (z2m hkl)
  have s2:=zy5 (m:=m') h hr hR b0 b1 (by omega) hkl (z2m hkl)
  have e2:z5b c c.List_[k] set o=okI c c.List_[k] set op:=by
   unfold z5b okI
   rw [h.place]
   cases fits c c.List_[k] <;> cases rdOk set c.List_[k] <;> cases zb1 c.List_[k] o <;> simp
  rw [List.drop_eq_getElem_cons hkl]
  have eg:goR c (c.List_[k]::c.List_.drop (k+1)) k set o=bif z5b c c.List_[k] set o then goR c (c.List_.drop (k+1)) (k+1) (z6i c.List_[k] set o).1 (z6i c.List_[k] set o).2 else .inl k:=rfl
  rw [eg]
  rw [e2] at s2 ⊢
  unfold iter
  rw [s1,s2]
  cases hok:okI c c.List_[k] set op with
  | false=>exact ⟨[],[],fun r hr=>(by cases hr),rfl,rfl⟩
  | true =>
   obtain ⟨q1,q2⟩:=h.next hok
   simp only [cond_true]
   have e3:z6i c.List_[k] set o=((z9x c.List_[k] set news op).1,(z6i c.List_[k] set o).2):=by rw [← q1]
   rw [e3]
   exact zz6 hr hR hL hm hb j (k+1) f f' _ _ _ _ (by omega) (by omega) (by omega) q2
end
def chk (c:Xe):Int×Int :=
 bif sgn c.Sign_ != 0 then (sgn c.Sign_,-1) else bif (decide ((c.Regs_.length:Int) > 16384) || decide ((c.List_.length:Int) > 32768)) then (181,-1) else bif decide ((c.Slots_.length:Int) > 4096) then (180,-1) else
 bif c.Regs_.all (mayT c.Sign_) then (bif c.Slots_.all (mayS c.Sign_) then (match goR c c.List_ 0 (List.replicate c.Regs_.length false) [] with | .inl k=>(160,(k:Int)) | .inr r=>bif decide ((r.2.length:Int) > 0) then (160,(c.List_.length:Int)) else (0,0)) else (160,-1)) else (160,-1)
theorem zkh {n:Nat} {c:Xe} (hn:100000<n) (hs:∀ s ∈ c.Slots_,0≤s.Bits_∧s.Bits_<4294967296) (hb:∀ i ∈ c.List_,0≤i.Bits_∧i.Bits_<4294967296):f16 n c=some (chk c)∧f21 n c=some (chk c):=by
 unfold chk
 obtain ⟨m,rfl⟩:∃ m,n=m+5:=⟨n - 5,by omega⟩
 rw [y4v,y50,y58 _ (by omega),y5l _ (by omega)]
 simp only [Option.bind_some]
 cases sgn c.Sign_ != 0 with
 | true=>exact ⟨rfl,rfl⟩
 | false =>
  have hB:∀ {R:Type},(bif (decide ((c.Regs_.length:Int) > 16384)) then some (Sum.inl true) else some (.inl (decide ((c.List_.length:Int) > 32768))):Option (Bool⊕R))=some (.inl (decide ((c.Regs_.length:Int) > 16384) || decide ((c.List_.length:Int) > 32768))):=by
   intro R
   cases decide ((c.Regs_.length:Int) > 16384) <;> rfl
  simp only [cond_false]
  rw [hB,Option.bind_some,orRet_inl]
  cases hz:(decide ((c.Regs_.length:Int) > 16384) || decide ((c.List_.length:Int) > 32768)) with
  | true=>exact ⟨rfl,rfl⟩
  | false =>
   simp only [Bool.or_eq_false_iff,decide_eq_false_iff_not] at hz
   simp only [cond_false]
   cases hy:decide ((c.Slots_.length:Int) > 4096) with
   | true=>exact ⟨rfl,rfl⟩
   | false =>
    simp only [decide_eq_false_iff_not] at hy
    simp only [cond_false]
    rw [y5a (by omega) (by omega),zy4 (by omega) (by omega)]
    cases hr:c.Regs_.all (mayT c.Sign_) with
    | false=>exact ⟨rfl,rfl⟩
    | true =>
     have hr':∀ t ∈ c.Regs_,mayT c.Sign_ t=true:=List.all_eq_true.1 hr
     simp only [Option.bind_some,Bool.not_true,cond_false,cond_true,Bo.then]
     rw [y5e (by omega) (by omega) hs,zs3 (by omega) (by omega) hs]
     cases c.Slots_.all (mayS c.Sign_) with
     | false=>exact ⟨rfl,rfl⟩
     | true =>
      simp only [Option.bind_some,orRet_inl,Bool.not_true,cond_false,cond_true,Bo.then]
      rw [zh (by omega),y30 (by omega) (by omega)]
      simp only [Option.bind_some,Bo.then]
      have h0:Two c 0 (List.replicate c.Regs_.length false) [] [] []:=⟨by simp,rfl,by simp,fun x hx=>(by cases hx),trivial⟩
      have hset:List.replicate ((c.Regs_.length:Int)).toNat false=List.replicate c.Regs_.length false:=by rw [Int.toNat_natCast]
      rw [hset]
      obtain ⟨news',op',q0,q1,q2⟩:=zz6 (m:=m) (m':=m+1) (x:=c) hr' (by omega) (by omega) (by omega) hb c.List_.length 0 (m+5) (m+5) _ _ _ _ (by omega) (by omega) (by omega) h0
      rw [List.drop_zero] at q0 q1 q2
      have q1:iter (zcq (m+5) c (c.List_,(c.List_.length:Int),c.Sign_,c.Regs_,c.Slots_)) (m+5) (0,c.Sign_,c.Regs_,c.Slots_,c.List_,List.replicate c.Regs_.length false,[],[])=_:=q1
      have q2:iter (zcs (m+5) c ()) (m+5) (0,List.replicate c.Regs_.length false,[])=_:=q2
      rw [q1,q2]
      cases hg:goR c c.List_ 0 (List.replicate c.Regs_.length false) [] with
      | inl k=>exact ⟨rfl,rfl⟩
      | inr r =>
       have:=q0 r hg
       simp only [Option.bind_some,Bo.then,this]
       cases decide ((r.2.length:Int) > 0) <;> exact ⟨rfl,rfl⟩
def zk3 (d:Nat) (s t:List Bool):Prop:=s.length=t.length∧∀ j,j ≠ d→s[j]? = t[j]?
inductive zgz (d:Nat):List Xg→List Xg→Prop
 | nil:zgz d [] []
 | snoc {o p:List Xg} {x y:Xg}:zgz d o p→x.Op_=y.Op_→x.Param_=y.Param_→zk3 d x.Set_ y.Set_→zgz d (o++[x]) (p++[y])
theorem zgz.len {d:Nat} {o p:List Xg} (h:zgz d o p):o.length=p.length:=by
 induction h with
 | nil=>rfl
 | snoc _ _ _ _ ih=>simp [ih]
theorem zk3.set {d:Nat} {s t:List Bool} (h:zk3 d s t) (j:Nat) (b:Bool):zk3 d (s.set j b) (t.set j b):=by
 refine ⟨by simp [h.1],fun k hk=>?_⟩
 rw [List.getElem?_set,List.getElem?_set,h.1,h.2 k hk]
abbrev U32s (c:Xe):Prop:=(∀ s ∈ c.Slots_,0≤s.Bits_∧s.Bits_<4294967296)∧∀ i ∈ c.List_,0≤i.Bits_∧i.Bits_<4294967296
def Byt (l:List Int):Prop:=∀ b ∈ l,0≤b∧b<256
theorem zv (s:ByteArray):(bytesOf s).length=s.size:=by simp [bytesOf]
theorem z1o (s:ByteArray):Byt (bytesOf s):=fun b hb=>by
 obtain ⟨u,_,rfl⟩:=List.mem_map.1 hb
 have:=u.toNat_lt
 omega
theorem zrf (l:List Int):(z3g l).data.toList=l.map fun n=>UInt8.ofNat n.toNat:=by
 have:∀ (l:List Int) (r:ByteArray),(l.foldl (fun r n=>r.push (UInt8.ofNat n.toNat)) r).data.toList=r.data.toList++l.map fun n=>UInt8.ofNat n.toNat:=by
  intro l
  induction l with
  | nil=>intro r; simp
  | cons a l ih=>intro r; rw [List.foldl_cons,ih]; simp [ByteArray.push]
 have h:=this l ByteArray.empty
 simpa [z3g] using h
theorem zrg (l:List Int):(z3g l).size=l.length:=by
 have:=congrArg List.length (zrf l)
 simpa using this
theorem z4m (s:ByteArray) (a b:Nat):bytesOf (s.extract a b)=((bytesOf s).take b).drop a:=by
 simp [bytesOf,ByteArray.data_extract,List.map_drop,List.map_take,List.extract_eq_take_drop,List.drop_take]
theorem z56 {s:ByteArray} {i:Nat} (h:i<(bytesOf s).length):za s (i:Int)=(bytesOf s)[i]:=by
 have h2:i<s.data.toList.length:=by simpa [bytesOf] using h
 simp only [za,bytesOf,Int.toNat_natCast,List.getElem_map]
 rw [List.getD_eq_getElem?_getD,List.getElem?_eq_getElem h2]
 rfl
theorem zwn {α:Type} {l:List α} {i:Nat} (h:i<l.length):idx l (i:Int)=some l[i]:=by
 unfold idx
 rw [if_pos (by omega),Int.toNat_natCast,List.getElem?_eq_getElem h]
theorem zz {i:Nat} (h:i<9223372036854775806):IntKind.i64.wrap ((i:Int)+1)=((i+1:Nat):Int):=by
 rw [z30 (by omega) (by omega)]; omega
theorem zd1 {α S T R St:Type} (xs:List α) (hm:xs.length<9223372036854775806) (mk:Int→S→St) (P:Nat→S→Prop) (g:S→α→S) (out:S→T) (body:St→Option (Bo St T R))
  (hgo:∀ (i:Nat) (h:i<xs.length) (s:S),P i s→body (mk i s)=some (.go (mk (IntKind.i64.wrap ((i:Int)+1)) (g s xs[i])))∧P (i+1) (g s xs[i])) (hend:∀ s,P xs.length s→body (mk xs.length s)=some (.out (out s))) :
  ∀ (k i:Nat) (s:S) (fuel:Nat),i+k=xs.length→k<fuel→P i s→iter body fuel (mk i s)=some (.out (out ((xs.drop i).foldl g s)))∧P xs.length ((xs.drop i).foldl g s)
 | 0,i,s,fuel+1,h,hf,hp=>by
  obtain rfl:i=xs.length:=by omega
  rw [List.drop_length,List.foldl_nil]
  exact ⟨by simp only [iter,hend s hp],hp⟩
 | k+1,i,s,fuel+1,h,hf,hp=>by
  have hi:i<xs.length:=by omega
  rw [List.drop_eq_getElem_cons hi]
  obtain ⟨h1,h2⟩:=hgo i hi s hp
  rw [zz (by omega)] at h1
  simp only [iter,h1,List.foldl_cons]
  exact zd1 xs hm mk P g out body hgo hend k (i+1) _ fuel (by omega) (by omega) h2
def bs (c:BitVec 64):BitVec 64:=bif c.getLsbD 0 then (c >>> 1) ^^^ 14514072000185962306#64 else c >>> 1
def bs8 (c:BitVec 64):BitVec 64:=bs (bs (bs (bs (bs (bs (bs (bs c)))))))
def bb (c:BitVec 64) (b:Int):BitVec 64:=bs8 (c ^^^ BitVec.ofInt 64 b)
def crc0 (l:List Int):BitVec 64:=l.foldl bb (18446744073709551615#64)
def crcL (l:List Int):Int:=((~~~ crc0 l).toNat:Int)
theorem y3s (c:BitVec 64):c.getLsbD 0=(c.toNat % 2==1):=by
 rw [BitVec.getLsbD,Nat.testBit_zero]
 by_cases h:c.toNat % 2=1 <;> simp [h]
theorem ofI (c:BitVec 64):BitVec.ofInt IntKind.u64.bits (c.toNat:Int)=c:=by
 show BitVec.ofInt 64 (c.toNat:Int)=c
 rw [BitVec.ofInt_natCast]; simp
theorem y2f (c:BitVec 64):IntKind.u64.wrap (c.toNat:Int)=(c.toNat:Int):=z1t (by omega) (by have:=c.isLt; omega)
theorem half (c:BitVec 64):(c.toNat:Int).fdiv (2 ^ min (1:Int).toNat IntKind.u64.bits)=((c >>> 1).toNat:Int):=by
 show (c.toNat:Int).fdiv 2=_
 rw [Int.fdiv_eq_ediv_of_nonneg _ (by decide),BitVec.toNat_ushiftRight,Nat.shiftRight_eq_div_pow]
 omega
theorem zru (c:BitVec 64):(bs c).toNat=if c.toNat % 2=1 then ((c >>> 1) ^^^ 14514072000185962306#64).toNat else (c >>> 1).toNat:=by
 unfold bs
 rw [y3s]
 by_cases h:c.toNat % 2=1
 ·simp [h]
 ·have:(c.toNat % 2==1)=false:=by simpa using h
  rw [this,cond_false,if_neg h]
theorem xorB (x y:Int):IntKind.u64.wrap (BitVec.ofInt IntKind.u64.bits x ^^^ BitVec.ofInt IntKind.u64.bits y).toNat=((BitVec.ofInt 64 x ^^^ BitVec.ofInt 64 y).toNat:Int):=y2f (BitVec.ofInt 64 x ^^^ BitVec.ofInt 64 y)
theorem ofI' (c:BitVec 64):BitVec.ofInt 64 (c.toNat:Int)=c:=ofI c
theorem zqk {n:Nat} {x:ByteArray} {v1:Unit} {q1:Int×Int} {v2:Unit} (c:BitVec 64) (k:Nat) (hk:k<8):zdj n x v1 q1 v2 ((c.toNat:Int),(k:Int))=some (.go (((bs c).toNat:Int),((k+1:Nat):Int))):=by
 rw [zfy,zz (by omega),half,xorB,ofI']
 have e1:decide ((k:Int)<8)=true:=by simp; omega
 have e2:((c.toNat:Int).tmod 2==1)=(c.toNat % 2==1):=by
  rw [Int.tmod_eq_emod_of_nonneg (by omega)]
  by_cases h:c.toNat % 2=1
  ·rw [h]; simp; omega
  ·have:(c.toNat % 2==1)=false:=by simpa using h
   rw [this]; simp; omega
 have e3:(BitVec.ofInt 64 14514072000185962306)=14514072000185962306#64:=rfl
 rw [e1,cond_true,e2,e3,zru]
 by_cases h:c.toNat % 2=1
 ·simp [h]
 ·have:(c.toNat % 2==1)=false:=by simpa using h
  rw [this,cond_false,if_neg h]
theorem zmt {n:Nat} {x:ByteArray} {v1:Unit} {q1:Int×Int} {v2:Unit} (c:BitVec 64):zdj n x v1 q1 v2 ((c.toNat:Int),((8:Nat):Int))=some (.out ((c.toNat:Int),8)):=by
 rw [zfy]; rfl
theorem y1u {body:Int×Int→Option (Bo (Yaa) (Yaa) Empty)} (h:∀ (c:BitVec 64) (k:Nat),k<8→body ((c.toNat:Int),(k:Int))=some (.go (((bs c).toNat:Int),((k+1:Nat):Int)))) (he:∀ c:BitVec 64,body ((c.toNat:Int),((8:Nat):Int))=some (.out ((c.toNat:Int),8))) {n:Nat} (hn:10≤n) (c:BitVec 64) :
  iter body n ((c.toNat:Int),0)=some (.out (((bs8 c).toNat:Int),8)):=by
 obtain ⟨m,rfl⟩:∃ m,n=m+9:=⟨n - 9,by omega⟩
 have h0:=h c 0 (by omega)
 simp only [Int.natCast_zero] at h0
 simp only [iter,h0,h _ 1 (by omega),h _ 2 (by omega),h _ 3 (by omega),h _ 4 (by omega),h _ 5 (by omega),h _ 6 (by omega),h _ 7 (by omega),he,bs8]
theorem zql {n:Nat} {x:ByteArray} {v1:Unit} {q1:Int×Int} {v2:Unit} (c:BitVec 64) (k:Nat) (hk:k<8):zdk n x v1 q1 v2 ((c.toNat:Int),(k:Int))=some (.go (((bs c).toNat:Int),((k+1:Nat):Int))):=by
 rw [zg0,zz (by omega),half,xorB,ofI']
 have e1:decide ((k:Int)<8)=true:=by simp; omega
 have e2:(IntKind.u64.wrap (BitVec.ofInt IntKind.u64.bits (c.toNat:Int) &&& BitVec.ofInt IntKind.u64.bits 1).toNat==1)=(c.toNat % 2==1):=by
  have:=zqc (c.toNat:Int) 1 (by decide) (by omega) (by have:=c.isLt; omega)
  have e:((2 ^ 1 - 1:Nat):Int)=1:=rfl
  rw [e] at this
  rw [this,Int.toNat_natCast,z1t (by omega) (by omega)]
  by_cases h:c.toNat % 2=1
  ·have h':c.toNat % 2 ^ 1=1:=h
   simp only [h,h']; rfl
  ·have:(c.toNat % 2==1)=false:=by simpa using h
   rw [this]
   have h':c.toNat % 2 ^ 1=0:=by omega
   simp only [h']; rfl
 have e3:(BitVec.ofInt 64 14514072000185962306)=14514072000185962306#64:=rfl
 rw [e1,cond_true,e2,e3,zru]
 by_cases h:c.toNat % 2=1
 ·simp [h]
 ·have:(c.toNat % 2==1)=false:=by simpa using h
  rw [this,cond_false,if_neg h]
theorem zmu {n:Nat} {x:ByteArray} {v1:Unit} {q1:Int×Int} {v2:Unit} (c:BitVec 64):zdk n x v1 q1 v2 ((c.toNat:Int),((8:Nat):Int))=some (.out ((c.toNat:Int),8)):=by
 rw [zg0]; rfl
theorem zz8 (c:BitVec 64):cmpl .u64 (c.toNat:Int)=((~~~ c).toNat:Int):=by
 unfold cmpl
 rw [ofI]
 have:BitVec.ofInt IntKind.u64.bits (if IntKind.u64.signed then -1 else IntKind.u64.max)=18446744073709551615#64:=rfl
 rw [this]
 have e:(18446744073709551615#64 ^^^ c) = ~~~ c:=by
  rw [show (18446744073709551615#64:BitVec 64)=BitVec.allOnes 64 from rfl,BitVec.xor_comm,BitVec.xor_allOnes]
 have e2:((18446744073709551615#64 ^^^ c:BitVec 64).toNat)=(~~~ c).toNat:=by rw [e]
 exact (congrArg (fun k:Nat=>IntKind.u64.wrap (k:Int)) e2).trans (y2f _)
theorem zn9 {n:Nat} {x:ByteArray} (hx:x.size<9223372036854775000) (hn:x.size+10<n):f198 n x=some (crcL (bytesOf x)):=by
 rw [y2n]
 have hl:=zv x
 have:=(zd1 (bytesOf x) (by omega) (fun i (c:BitVec 64)=>((c.toNat:Int),i)) (fun _ _=>True) bb (fun c=>((c.toNat:Int),((bytesOf x).length:Int))) (zhj n x ()) (R:=Empty) (fun i hi c _=>⟨by
  rw [zfx]
  have e1:decide ((i:Int)<(x.size:Int))=true:=by simp; omega
  have hb:=z1o x _ (List.getElem_mem hi)
  rw [e1,cond_true,zh (by simp; omega),z56 hi,z1t hb.1 (by omega),xorB,ofI',y1u zqk zmt (by omega)]
  rfl,trivial⟩) (fun c _=>by
  rw [zfx]
  have e1:decide (((bytesOf x).length:Int)<(x.size:Int))=false:=by simp; omega
  simp only [e1,cond_false]) (bytesOf x).length 0 (18446744073709551615#64) n (by omega) (by omega) trivial).1
 have e0:((18446744073709551615#64).toNat:Int)=18446744073709551615:=rfl
 simp only [Int.natCast_zero,e0] at this
 rw [this]
 simp only [Option.bind_some,Bo.then,zz8,List.drop_zero]
 rfl
theorem y2p {n:Nat} {x:ByteArray} (hx:x.size<9223372036854775000) (hn:x.size+10<n):f199 n x=some (crcL (bytesOf x)):=by
 rw [y2o]
 have hl:=zv x
 have:=(zd1 (bytesOf x) (by omega) (fun i (c:BitVec 64)=>((c.toNat:Int),i)) (fun _ _=>True) bb (fun c=>((c.toNat:Int),((bytesOf x).length:Int))) (zhk n x ()) (R:=Empty) (fun i hi c _=>⟨by
  rw [zfz]
  have e1:decide ((i:Int)<((bytesOf x).length:Int))=true:=by simp; omega
  have hb:=z1o x _ (List.getElem_mem hi)
  rw [e1,cond_true]
  simp only [zwn hi,Option.bind_some]
  rw [z1t hb.1 (by omega),xorB,ofI',y1u zql zmu (by omega)]
  rfl,trivial⟩) (fun c _=>by
  rw [zfz]
  have e1:decide (((bytesOf x).length:Int)<((bytesOf x).length:Int))=false:=by simp
  simp only [e1,cond_false]) (bytesOf x).length 0 (18446744073709551615#64) n (by omega) (by omega) trivial).1
 have e0:((18446744073709551615#64).toNat:Int)=18446744073709551615:=rfl
 simp only [Int.natCast_zero,e0] at this
 rw [this]
 simp only [Option.bind_some,Bo.then,zz8,List.drop_zero]
 rfl
theorem y88 (x:Int):IntKind.u8.wrap x=x % 256:=by simp [IntKind.wrap,IntKind.bits,IntKind.signed]
theorem y49 (v:Int) (hv:0≤v):v.tmod 128=((v.toNat % 128:Nat):Int):=by
 rw [Int.tmod_eq_emod_of_nonneg hv]; omega
def low (v:Int) (k:Nat):List Int:=(List.range k).map fun i=>IntKind.u8.wrap (v.fdiv (2 ^ (8 * i)))
theorem zpr (v:Int) (k:Nat):(low v k).length=k:=by simp [low]
theorem zyn (v:Int) (k:Nat):low v (k+1)=low v k++[IntKind.u8.wrap (v.fdiv (2 ^ (8 * k)))]:=by simp [low,List.range_succ]
theorem w8 {i:Nat} (h:i<8):IntKind.i64.wrap (8 * (i:Int))=((8 * i:Nat):Int):=by rw [z30 (by omega) (by omega)]; omega
theorem zlw {v:Int} {k:Nat} (hk:k≤8) {l:List Int} {body:Int×List Int→Option (Bo (Int×List Int) (Int×List Int) Empty)}
  (hb:∀ (i:Nat) (m:List Int),i<k→m.length≤l.length+i→body ((i:Int),m)=some (.go (((i+1:Nat):Int),m++[IntKind.u8.wrap (v.fdiv (2 ^ (8 * i)))]))) (he:∀ m,body ((k:Int),m)=some (.out ((k:Int),m))) :
  ∀ (j i n:Nat),i+j=k→j<n→iter body n ((i:Int),l++low v i)=some (.out ((k:Int),l++low v k))
 | 0,i,n+1,h,hn=>by
  obtain rfl:i=k:=by omega
  rw [iter,he]
 | j+1,i,n+1,h,hn=>by
  rw [iter,hb i _ (by omega) (by rw [List.length_append,zpr]; omega),List.append_assoc,← zyn]
  exact zlw hk hb he j (i+1) n (by omega) (by omega)
theorem y85 (v:Int) (i:Nat) (hi:i<8):v.fdiv (2 ^ min ((8 * i:Nat):Int).toNat IntKind.u64.bits)=v.fdiv (2 ^ (8 * i)):=by
 rw [Int.toNat_natCast,show min (8 * i) IntKind.u64.bits=8 * i from Nat.min_eq_left (by show 8 * i≤64; omega)]
def off (op:Int):List Nat:=match rowD op with
 | some r=>(bif r.d==0 then [] else [1])++((bif r.a==0 then [] else [2])++((bif r.b==0 then [] else [3])++((bif r.c==0 then [] else [4])++(bif r.n==0 then [] else [5]))))
 | none=>[]
theorem zyr {op:Int} (h:∀ k:Int,1≤k→k≤37→(op==k)=false):off op=[]:=by simp only [off,z3c h]
theorem zgt (op:Int):∀ k ∈ off op,1≤k∧k≤5:=by
 unfold off
 split
 ·rename_i r _
  intro k hk
  have one:∀ (b:Bool) (j:Nat),k ∈ (bif b then [] else [j])→k=j:=fun b j h=>by
   cases b
   ·exact List.mem_singleton.1 h
   ·exact nomatch h
  simp only [List.mem_append] at hk
  rcases hk with h | h | h | h | h <;> have:=one _ _ h <;> omega
 ·simp
theorem zpt (op:Int):(off op).length≤5:=by
 unfold off
 split
 ·rename_i r _
  cases r.d==0 <;> cases r.a==0 <;> cases r.b==0 <;> cases r.c==0 <;> cases r.n==0 <;> simp
 ·simp
theorem zy6 (n:Nat) (x:Ych):f220 n x=(zs4 n (0,x)).map fun l=>(l.map (·.off),x):=rfl
theorem y31 (m:Nat) (x:Ych):f220 (m+4) x=some (off x.1,x):=by
 obtain ⟨op,d,a,b,c,N,bits⟩:=x
 rcases z4z op with (rfl | rfl | rfl | rfl | rfl | rfl | rfl | rfl | rfl | rfl | rfl | rfl | rfl | rfl | rfl | rfl | rfl | rfl | rfl | rfl | rfl | rfl | rfl | rfl | rfl | rfl | rfl | rfl | rfl | rfl | rfl | rfl | rfl | rfl | rfl | rfl | rfl) | h
 iterate 37 (· kernel_rfl)
 rw [zy6,zs5,zkq,zqo,y2z]
 have hs:sets ⟨op,d,a,b,c,N,bits⟩=false:=by simp only [sets,z3c h]
 have hr:z1p ⟨op,d,a,b,c,N,bits⟩=[]:=by simp only [z1p,z3c h]
 simp only [hs,hr,zyr h,h 2 (by decide) (by decide),h 29 (by decide) (by decide),h 30 (by decide) (by decide),h 31 (by decide) (by decide),h 32 (by decide) (by decide),h 33 (by decide) (by decide),h 36 (by decide) (by decide),cond_false,Option.bind_some,orRet_inl]
 rfl
abbrev LIM:Int:=9223372036854775808
structure zad (i:Xd):Prop where
 d:i.D_<LIM
 a:i.A_<LIM
 b:i.B_<LIM
 c:i.C_<LIM
 n:i.N_<LIM
theorem Byt.cons {a:Int} {b:List Int} (ha:0≤a∧a<256) (hb:Byt b):Byt (a::b):=fun x hx=>(List.mem_cons.1 hx).elim (fun e=>e ▸ ha) (hb x)
theorem Byt.nil:Byt []:=fun _ h=>nomatch h
theorem z9w {s:Int} (h:z36 s) (h6:s ≠ 6):(((z40 s).toNat:Int) != 45) = !(s==0):=by
 unfold z36 at h
 have:s=0∨s=1∨s=2∨s=3∨s=4∨s=5∨s=7∨s=8:=by omega
 rcases this with rfl | rfl | rfl | rfl | rfl | rfl | rfl | rfl <;> rfl
theorem zr4 {s:Int} (h:s=0∨s=1∨s=3∨s=4∨s=2):(((z61 s).toNat:Int) != 45) = !(s==0):=by
 rcases h with rfl | rfl | rfl | rfl | rfl <;> rfl
theorem row6 {op:Int} {r:z3i} (h:rowD op=some r):r.d ≠ 6∧r.a ≠ 6∧r.b ≠ 6∧r.c ≠ 6:=by
 obtain ⟨⟨h1,h2,h3,h4⟩,_⟩:=ze5 h
 unfold z36 at h1 h2 h3 h4
 omega
structure y8f (p:Xa):Prop where
 name:p.Name_.size≤64
 len:p.Len_<LIM
structure y4c (x:Xc):Prop where
 par:x.Type_.Param_<LIM
 int:x.Int_<LIM
abbrev Rd (α:Type):=(α×Nat)⊕(Yaa)
def z39 (S:ByteArray) (p k:Nat):Rd ByteArray:=if S.size - p<k then .inr (242,p) else .inl (S.extract p (p+k),p+k)
def numL:Nat→Nat→List Int→(Nat×Nat)⊕Int
 | _,_,[]=>.inr 242
 | k,acc,b::l=>if k=9∨(b=0∧0<k) then .inr 243 else if b<128 then .inl (acc+b.toNat * 128 ^ k,k+1) else numL (k+1) (acc+b.toNat % 128 * 128 ^ k) l
def numR (S:ByteArray) (p most:Nat):Rd Int:=match numL 0 0 ((bytesOf S).drop p) with
 | .inr e=>.inr (e,p)
 | .inl (v,k)=>if most<v then .inr (2,p) else .inl ((v:Int),p+k)
abbrev ANY:Nat:=9223372036854775807
abbrev BIG:Nat:=4611686018427387904
theorem zdm {n:Nat} {S:ByteArray} {p k:Nat} (hp:p≤S.size) (hS:S.size≤BIG) (hk:k≤1000):f222 n (S,(p:Int),(k:Int))=some (match z39 S p k with | .inl (s,q)=>.inl (s,S,(q:Int)) | .inr e=>.inr e):=by
 have hS:S.size≤4611686018427387904:=hS
 have e0:IntKind.i64.wrap ((S.size:Int) - (p:Int))=((S.size - p:Nat):Int):=by rw [z30 (by omega) (by omega)]; omega
 have e1:IntKind.i64.wrap ((p:Int)+(k:Int))=((p+k:Nat):Int):=by rw [z30 (by omega) (by omega)]; omega
 rw [y34]
 simp only [e0,e1]
 unfold z39
 by_cases h:S.size - p<k
 ·have d:decide (((S.size - p:Nat):Int)<(k:Int))=true:=by simp; omega
  rw [d,cond_true,if_pos h]
 ·have d:decide (((S.size - p:Nat):Int)<(k:Int))=false:=by simp; omega
  rw [d,cond_false,if_neg h,zh (by omega)]
  rfl
theorem zdz {k acc:Nat}:∀ {l:List Int} {v c:Nat},Byt l→acc<128 ^ k→numL k acc l = .inl (v,c)→v<128 ^ c∧k<c∧c≤k+l.length∧(k≤9→c≤9):=by
 intro l
 induction l generalizing k acc with
 | nil=>intro v c _ _ h; cases h
 | cons b l ih =>
  intro v c hB ha h
  simp only [numL] at h
  split at h
  ·cases h
  ·rename_i h1
   have hb:=hB b (by simp)
   split at h
   ·rename_i h2
    cases h
    have:b.toNat * 128 ^ k≤127 * 128 ^ k:=Nat.mul_le_mul_right _ (by omega)
    rw [Nat.pow_succ]
    exact ⟨by omega,by omega,by simp,by omega⟩
   ·have hb2:b.toNat % 128 * 128 ^ k≤127 * 128 ^ k:=Nat.mul_le_mul_right _ (by omega)
    obtain ⟨q1,q2,q3,q4⟩:=ih (k:=k+1) (acc:=acc+b.toNat % 128 * 128 ^ k) (fun x hx=>hB x (by simp [hx])) (by rw [Nat.pow_succ]; omega) h
    exact ⟨q1,by omega,by simp; omega,fun hk=>q4 (by omega)⟩
theorem pow7 (k:Nat):(128:Nat) ^ k=2 ^ (7 * k):=by rw [Nat.pow_mul]
theorem y7z {k a x:Nat} (ha:a<128 ^ k):a ||| x * 128 ^ k=a+x * 128 ^ k:=by
 rw [pow7] at ha ⊢
 rw [Nat.mul_comm,Nat.or_comm,← Nat.two_pow_add_eq_or_of_lt ha,Nat.add_comm]
theorem zhw {k:Nat} (h:k≤8):(128:Nat) ^ k≤72057594037927936:=Nat.pow_le_pow_right (by decide) h
theorem z8n {m:Nat} (h:m<18446744073709551616):(BitVec.ofInt 64 (m:Int)).toNat=m:=by
 rw [BitVec.ofInt_natCast,BitVec.toNat_ofNat]; omega
theorem or64 {k a x:Nat} (hk:k≤8) (ha:a<128 ^ k) (hx:x<128):(BitVec.ofInt 64 (a:Int) ||| BitVec.ofInt 64 ((x * 128 ^ k:Nat):Int)).toNat=a+x * 128 ^ k:=by
 have:=zhw hk
 have h2:x * 128 ^ k≤127 * 128 ^ k:=Nat.mul_le_mul_right _ (by omega)
 rw [BitVec.toNat_or,z8n (by omega),z8n (by omega),y7z ha]
theorem y4d:∀ b:BitVec 8,(b &&& 127#8).toNat=b.toNat % 128:=by decide
theorem y2i {b:Int} (h0:0≤b) (h1:b<256):IntKind.u8.wrap ((BitVec.ofInt IntKind.u8.bits b &&& BitVec.ofInt IntKind.u8.bits 127).toNat:Int)=((b.toNat % 128:Nat):Int):=by
 have h:=y4d (BitVec.ofInt 8 b)
 have e:(BitVec.ofInt IntKind.u8.bits b &&& BitVec.ofInt IntKind.u8.bits 127).toNat=(BitVec.ofInt 8 b &&& 127#8).toNat:=rfl
 rw [e,h]
 have e2:(BitVec.ofInt 8 b).toNat=b.toNat:=by rw [BitVec.toNat_ofInt]; omega
 rw [e2,y88]; omega
theorem zq2 {k x:Nat} (hk:k≤8):((x:Int) * 2 ^ min (7 * k) 64)=((x * 128 ^ k:Nat):Int):=by
 rw [Nat.min_eq_left (by omega),pow7]; simp
theorem zil {n:Nat} {S:ByteArray} {p0:Nat} {most:Int} (hS:S.size≤BIG):∀ (l:List Int) (k acc p fuel:Nat),(bytesOf S).drop p=l→p≤S.size→acc<128 ^ k→k≤9→l.length<fuel →
  ∃ sh:Int,iter (zho n (S,(p0:Int),most) ()) fuel ((acc:Int),((7 * k:Nat):Int),(p:Int))=some (match numL k acc l with | .inl (v,c)=>.out ((v:Int),sh,((p+(c - k):Nat):Int)) | .inr e=>.ret (e,(p0:Int)))
 | [],k,acc,p,fuel+1,hl,hp,ha,hk,hf=>by
  refine ⟨0,?_⟩
  have:p=S.size:=by
   have:=congrArg List.length hl
   rw [List.length_drop,zv] at this
   simp at this; omega
  subst this
  rw [iter,z7z]
  simp only [beq_self_eq_true,cond_true,numL]
 | b::l,k,acc,p,fuel+1,hl,hp,ha,hk,hf=>by
  have hS':S.size≤4611686018427387904:=hS
  have hlen:=zv S
  have hp2:p<(bytesOf S).length:=by
   have:=congrArg List.length hl
   rw [List.length_drop] at this
   simp at this; omega
  have hbb:(bytesOf S)[p]=b:=by
   rw [List.drop_eq_getElem_cons hp2] at hl
   exact (List.cons.inj hl).1
  have hl2:(bytesOf S).drop (p+1)=l:=by
   rw [List.drop_eq_getElem_cons hp2] at hl
   exact (List.cons.inj hl).2
  have hb:=z1o S b (by rw [← hbb]; exact List.getElem_mem _)
  have e0:((p:Int)==(S.size:Int))=false:=by simp; omega
  have e1:za S (p:Int)=b:=by rw [z56 hp2,hbb]
  have c0:(bif decide (((7 * k:Nat):Int) > 56) then (some (.inl true)) else (bif decide (((7 * k:Nat):Int) > 0) then (some (.inl (b==0))) else (some (.inl false))):Option (Bool⊕Bo (Yae) (Yae) (Yaa)))=some (.inl (decide (k=9∨(b=0∧0<k)))):=by
   by_cases h9:k=9
   ·subst h9; rfl
   ·have d1:decide (((7 * k:Nat):Int) > 56)=false:=by simp; omega
    rw [d1,cond_false]
    by_cases h0:0<k
    ·have d2:decide (((7 * k:Nat):Int) > 0)=true:=by simp; omega
     rw [d2,cond_true]
     by_cases hb0:b=0 <;> simp [h9,h0,hb0]
    ·have d2:decide (((7 * k:Nat):Int) > 0)=false:=by simp; omega
     rw [d2,cond_false]
     simp [h9,h0]
  simp only [numL]
  by_cases hE:k=9∨(b=0∧0<k)
  ·refine ⟨0,?_⟩
   rw [iter,z7z]
   simp only [e0,cond_false,e1,c0]
   rw [zh (by omega),if_pos hE,decide_eq_true hE]
   rfl
  ·have hk8:k≤8:=by omega
   have eo:(IntKind.u64.wrap ((BitVec.ofInt IntKind.u64.bits (acc:Int) ||| BitVec.ofInt IntKind.u64.bits (IntKind.u64.wrap ((IntKind.u64.wrap (IntKind.u8.wrap ((BitVec.ofInt IntKind.u8.bits b &&& BitVec.ofInt IntKind.u8.bits 127).toNat:Int))) * 2 ^ min ((7 * k:Nat):Int).toNat IntKind.u64.bits))).toNat:Int))=((acc+b.toNat % 128 * 128 ^ k:Nat):Int):=by
    have h8:=zhw hk8
    have h2:b.toNat % 128 * 128 ^ k≤127 * 128 ^ k:=Nat.mul_le_mul_right _ (by omega)
    rw [y2i hb.1 hb.2,z1t (m:=((b.toNat % 128:Nat):Int)) (by omega) (by omega),Int.toNat_natCast]
    have e3:(((b.toNat % 128:Nat):Int) * 2 ^ min (7 * k) IntKind.u64.bits)=((b.toNat % 128 * 128 ^ k:Nat):Int):=zq2 hk8
    rw [e3,z1t (m:=((b.toNat % 128 * 128 ^ k:Nat):Int)) (by omega) (by omega)]
    have e4:=or64 (k:=k) (a:=acc) (x:=b.toNat % 128) hk8 ha (by omega)
    have e5:(BitVec.ofInt IntKind.u64.bits (acc:Int) ||| BitVec.ofInt IntKind.u64.bits ((b.toNat % 128 * 128 ^ k:Nat):Int)).toNat=acc+b.toNat % 128 * 128 ^ k:=e4
    rw [e5,z1t (by omega) (by omega)]
   rw [if_neg hE]
   by_cases hb1:b<128
   ·refine ⟨((7 * k:Nat):Int),?_⟩
    have d:decide (b<128)=true:=by simp; omega
    have hm:b.toNat % 128=b.toNat:=by omega
    rw [iter,z7z]
    simp only [e0,cond_false,e1,c0,decide_eq_false hE,Option.bind_some,orRet_inl,d,cond_true,eo]
    rw [zh (by omega),zh (by omega),if_pos hb1,zz (by omega),hm]
    have ep:p+(k+1 - k)=p+1:=by omega
    simp only [ep]
   ·have d:decide (b<128)=false:=by simp; omega
    have h2:b.toNat % 128 * 128 ^ k≤127 * 128 ^ k:=Nat.mul_le_mul_right _ (by omega)
    obtain ⟨sh,hi⟩:=zil (n:=n) (S:=S) (p0:=p0) (most:=most) hS l (k+1) (acc+b.toNat % 128 * 128 ^ k) (p+1) fuel hl2 (by omega) (by rw [Nat.pow_succ]; omega) (by omega) (by simp at hf; omega)
    refine ⟨sh,?_⟩
    have e7:IntKind.i64.wrap (((7 * k:Nat):Int)+7)=((7 * (k+1):Nat):Int):=by rw [z30 (by omega) (by omega)]; omega
    rw [iter,z7z]
    simp only [e0,cond_false,e1,c0,decide_eq_false hE,Option.bind_some,orRet_inl,d,eo]
    rw [zh (by omega),zh (by omega),if_neg hb1,zz (by omega),e7]
    simp only
    rw [hi]
    cases hq:numL (k+1) (acc+b.toNat % 128 * 128 ^ k) l with
    | inr e=>rfl
    | inl r =>
     obtain ⟨v,c⟩:=r
     have:=(zdz (fun x hx=>z1o S x (by rw [← hl2] at hx; exact List.mem_of_mem_drop hx)) (by rw [Nat.pow_succ]; omega) hq).2.1
     simp only
     rw [show p+1+(c - (k+1))=p+(c - k) by omega]
theorem z59 {n:Nat} {S:ByteArray} {p most:Nat} (hn:S.size<n) (hp:p≤S.size) (hS:S.size≤BIG) (hm:most≤ANY):f223 n (S,(p:Int),(most:Int))=some (match numR S p most with | .inl (v,q)=>.inl (v,S,(q:Int)) | .inr e=>.inr e):=by
 have hm':most≤9223372036854775807:=hm
 obtain ⟨sh,h⟩:=zil (n:=n) (p0:=p) (most:=most) hS ((bytesOf S).drop p) 0 0 p n rfl hp (by simp) (by omega) (by rw [List.length_drop,zv]; omega)
 rw [y35]
 rw [show (((7 * 0:Nat):Int))=0 from rfl] at h
 simp only
 refine (congrArg (fun z=>Option.bind z _) h).trans ?_
 unfold numR
 cases hq:numL 0 0 ((bytesOf S).drop p) with
 | inr e=>rfl
 | inl r =>
  obtain ⟨v,c⟩:=r
  obtain ⟨q1,_,_,q4⟩:=zdz (fun x hx=>z1o S x (List.mem_of_mem_drop hx)) (by simp) hq
  have hc:c≤9:=q4 (by omega)
  have:(128:Nat) ^ c≤128 ^ 9:=Nat.pow_le_pow_right (by decide) hc
  have e9:(128:Nat) ^ 9=9223372036854775808:=rfl
  simp only [Option.bind_some,Bo.then]
  rw [z1t (by omega) (by omega)]
  by_cases hv:most<v
  ·have d:decide ((v:Int) > (most:Int))=true:=by simp; omega
   rw [d,cond_true,if_pos hv]
  ·have d:decide ((v:Int) > (most:Int))=false:=by simp; omega
   rw [d,cond_false,if_neg hv,z30 (by omega) (by omega)]
   simp
abbrev Rf (S:ByteArray) (p e a:Int):Xf:=⟨S,p,e,a⟩
theorem z8k {n:Nat} {S:ByteArray} {p P e a:Int}:f208 n (Rf S p 0 P,e,a)=some (S,p,e,a):=by
 rw [znb]; rfl
theorem zig {n:Nat} {S:ByteArray} {p0 M:Nat} {most:Int} (hm:most=(M:Int)∨(most = -1∧M=ANY)) (hS:S.size≤BIG):∀ (l:List Int) (k acc p fuel:Nat),(bytesOf S).drop p=l→p≤S.size→acc<128 ^ k→k≤9→l.length<fuel →
  ∃ q:Int,iter (zhl n (Rf S (p0:Int) 0 0,most) ()) fuel ((acc:Int),(k:Int),(p:Int))=some (match numL k acc l with | .inl (v,c)=>(if M<v then .ret (0,S,q,2,(p0:Int)) else .ret ((v:Int),S,((p+(c - k):Nat):Int),0,0)) | .inr e=>.ret (0,S,q,e,(p0:Int)))
 | [],k,acc,p,fuel+1,hl,hp,ha,hk,hf=>by
  refine ⟨p,?_⟩
  have:p=S.size:=by
   have:=congrArg List.length hl
   rw [List.length_drop,zv] at this
   simp at this; omega
  subst this
  have e:decide ((S.size:Int)≥(S.size:Int))=true:=by simp
  rw [iter,z6d]
  simp only [beq_self_eq_true,cond_true,numL,e]
  rw [z8k]; rfl
 | b::l,k,acc,p,fuel+1,hl,hp,ha,hk,hf=>by
  have hS':S.size≤4611686018427387904:=hS
  have hlen:=zv S
  have hp2:p<(bytesOf S).length:=by
   have:=congrArg List.length hl
   rw [List.length_drop] at this
   simp at this; omega
  have hbb:(bytesOf S)[p]=b:=by
   rw [List.drop_eq_getElem_cons hp2] at hl
   exact (List.cons.inj hl).1
  have hl2:(bytesOf S).drop (p+1)=l:=by
   rw [List.drop_eq_getElem_cons hp2] at hl
   exact (List.cons.inj hl).2
  have hb:=z1o S b (by rw [← hbb]; exact List.getElem_mem _)
  have e0:decide ((p:Int)≥(S.size:Int))=false:=by simp; omega
  have e1:za S (p:Int)=b:=by rw [z56 hp2,hbb]
  have eb:IntKind.i64.wrap b=b:=z30 (by omega) (by omega)
  have c0:(bif ((k:Int)==9) then (some (.inl true)) else (bif (b==0) then (some (.inl (decide ((k:Int) > 0)))) else (some (.inl false))):Option (Bool⊕Bo (Yae) (Yae) (Yaj)))=some (.inl (decide (k=9∨(b=0∧0<k)))):=by
   by_cases h9:k=9
   ·subst h9; rfl
   ·have d1:((k:Int)==9)=false:=by simp; omega
    rw [d1,cond_false]
    by_cases hb0:b=0
    ·subst hb0
     by_cases h0:0<k <;> simp [h9,h0]
    ·have d2:(b==0)=false:=by simpa using hb0
     rw [d2,cond_false]
     simp [h9,hb0]
  simp only [numL]
  by_cases hE:k=9∨(b=0∧0<k)
  ·refine ⟨((p+1:Nat):Int),?_⟩
   rw [iter,z6d]
   simp only [beq_self_eq_true,cond_true,e0,cond_false,e1,eb,c0]
   rw [zh (by omega),if_pos hE,decide_eq_true hE,zz (by omega)]
   simp only [Option.bind_some,orRet_inl,cond_true]
   rw [z8k]; rfl
  ·have hk8:k≤8:=by omega
   have h8:=zhw hk8
   have h2:b.toNat % 128 * 128 ^ k≤127 * 128 ^ k:=Nat.mul_le_mul_right _ (by omega)
   have e7:IntKind.u64.wrap (IntKind.i64.wrap (7 * (k:Int)))=((7 * k:Nat):Int):=by
    rw [z30 (by omega) (by omega),z1t (by omega) (by omega)]; omega
   have eo:(IntKind.i64.wrap ((BitVec.ofInt IntKind.i64.bits (acc:Int) ||| BitVec.ofInt IntKind.i64.bits (IntKind.i64.wrap ((b.tmod 128) * 2 ^ min ((7 * k:Nat):Int).toNat IntKind.i64.bits))).toNat:Int))=((acc+b.toNat % 128 * 128 ^ k:Nat):Int):=by
    rw [y49 _ hb.1,Int.toNat_natCast]
    have e3:(((b.toNat % 128:Nat):Int) * 2 ^ min (7 * k) IntKind.i64.bits)=((b.toNat % 128 * 128 ^ k:Nat):Int):=zq2 hk8
    rw [e3,z30 (n:=((b.toNat % 128 * 128 ^ k:Nat):Int)) (by omega) (by omega)]
    have e4:=or64 (k:=k) (a:=acc) (x:=b.toNat % 128) hk8 ha (by omega)
    have e5:(BitVec.ofInt IntKind.i64.bits (acc:Int) ||| BitVec.ofInt IntKind.i64.bits ((b.toNat % 128 * 128 ^ k:Nat):Int)).toNat=acc+b.toNat % 128 * 128 ^ k:=e4
    rw [e5,z30 (by omega) (by omega)]
   rw [if_neg hE]
   by_cases hb1:b<128
   ·refine ⟨((p+1:Nat):Int),?_⟩
    have d:decide (b<128)=true:=by simp; omega
    have hm2:b.toNat % 128=b.toNat:=by omega
    have ep:p+(k+1 - k)=p+1:=by omega
    have hv:acc+b.toNat * 128 ^ k≤9223372036854775807:=by rw [← hm2]; omega
    have cm:(bif decide (most≥0) then (some (.inl (decide (((acc+b.toNat * 128 ^ k:Nat):Int) > most)))) else (some (.inl false)):Option (Bool⊕Bo (Yae) (Yae) (Yaj)))=some (.inl (decide (M<acc+b.toNat * 128 ^ k))):=by
     rcases hm with rfl | ⟨rfl,rfl⟩
     ·have:decide ((M:Int)≥0)=true:=by simp
      rw [this,cond_true]
      congr 2
      by_cases h:M<acc+b.toNat * 128 ^ k
      ·rw [decide_eq_true h,decide_eq_true (by omega)]
      ·rw [decide_eq_false h,decide_eq_false (by omega)]
     ·have:decide ((-1:Int)≥0)=false:=rfl
      rw [this,cond_false]
      have h:¬ (ANY<acc+b.toNat * 128 ^ k):=by show ¬ 9223372036854775807<_; omega
      rw [decide_eq_false h]
    rw [iter,z6d]
    simp only [beq_self_eq_true,cond_true,e0,cond_false,e1,eb,c0,decide_eq_false hE,Option.bind_some,orRet_inl,e7,d,eo]
    rw [zh (by omega),zh (by omega),if_pos hb1,hm2,cm,zz (by omega)]
    simp only [Option.bind_some,orRet_inl,ep]
    by_cases hM:M<acc+b.toNat * 128 ^ k
    ·rw [decide_eq_true hM,cond_true,if_pos hM,z8k]; rfl
    ·rw [decide_eq_false hM,cond_false,if_neg hM]
   ·have d:decide (b<128)=false:=by simp; omega
    obtain ⟨q,hi⟩:=zig (n:=n) (S:=S) (p0:=p0) (M:=M) (most:=most) hm hS l (k+1) (acc+b.toNat % 128 * 128 ^ k) (p+1) fuel hl2 (by omega) (by rw [Nat.pow_succ]; omega) (by omega) (by simp at hf; omega)
    refine ⟨q,?_⟩
    rw [iter,z6d]
    simp only [beq_self_eq_true,cond_true,e0,cond_false,e1,eb,c0,decide_eq_false hE,Option.bind_some,orRet_inl,e7,d,eo]
    rw [zh (by omega),zh (by omega),if_neg hb1,zz (show p<9223372036854775806 by omega),zz (show k<9223372036854775806 by omega)]
    simp only
    rw [hi]
    cases hq:numL (k+1) (acc+b.toNat % 128 * 128 ^ k) l with
    | inr e=>rfl
    | inl r =>
     obtain ⟨v,c⟩:=r
     have:=(zdz (fun x hx=>z1o S x (by rw [← hl2] at hx; exact List.mem_of_mem_drop hx)) (by rw [Nat.pow_succ]; omega) hq).2.1
     simp only
     rw [show p+1+(c - (k+1))=p+(c - k) by omega]
theorem z58 {n:Nat} {S:ByteArray} {p M:Nat} {most:Int} (hm:most=(M:Int)∨(most = -1∧M=ANY)) (hn:S.size<n) (hp:p≤S.size) (hS:S.size≤BIG):∃ q:Int,f207 n (Rf S (p:Int) 0 0,most)=some (match numR S p M with | .inl (v,p')=>(v,S,(p':Int),0,0) | .inr (e,a)=>(0,S,q,e,a)):=by
 obtain ⟨q,h⟩:=zig (n:=n) (p0:=p) hm hS ((bytesOf S).drop p) 0 0 p n rfl hp (by simp) (by omega) (by rw [List.length_drop,zv]; omega)
 refine ⟨q,?_⟩
 rw [zna]
 rw [show ((0:Nat):Int)=0 from rfl] at h
 simp only
 refine (congrArg (fun z=>Option.bind z _) h).trans ?_
 unfold numR
 cases hq:numL 0 0 ((bytesOf S).drop p) with
 | inr e=>rfl
 | inl r =>
  obtain ⟨v,c⟩:=r
  simp only
  split <;> rfl
theorem z8z {n:Nat} {S:ByteArray} {p e a most:Int} (hn:0<n) (he:e ≠ 0):f207 n (Rf S p e a,most)=some (0,S,p,e,a):=by
 obtain ⟨m,rfl⟩:∃ m,n=m+1:=⟨n - 1,by omega⟩
 have d:(e==0)=false:=by simpa using he
 rw [zna,iter,z6d]
 simp only [d,cond_false,Option.bind_some,Bo.then]
theorem zam {n:Nat} {S:ByteArray} {p k:Nat} (hp:p≤S.size) (hS:S.size≤BIG) (hk:k≤1000):f210 n (Rf S (p:Int) 0 0,(k:Int))=some (match z39 S p k with | .inl (s,q)=>(s,S,(q:Int),0,0) | .inr (e,a)=>(⟨#[]⟩,S,(p:Int),e,a)):=by
 have hS:S.size≤4611686018427387904:=hS
 have e0:IntKind.i64.wrap ((S.size:Int) - (p:Int))=((S.size - p:Nat):Int):=by rw [z30 (by omega) (by omega)]; omega
 have e1:IntKind.i64.wrap ((p:Int)+(k:Int))=((p+k:Nat):Int):=by rw [z30 (by omega) (by omega)]; omega
 rw [znd]
 simp only [e0,e1,bne_self_eq_false,cond_false]
 unfold z39
 by_cases h:S.size - p<k
 ·have d:decide (((S.size - p:Nat):Int)<(k:Int))=true:=by simp; omega
  rw [d,cond_true,if_pos h,z8k]; rfl
 ·have d:decide (((S.size - p:Nat):Int)<(k:Int))=false:=by simp; omega
  rw [d,cond_false,if_neg h,zh (by omega)]
  rfl
theorem z5s {n:Nat} {S:ByteArray} {p e a k:Int} (he:e ≠ 0):f210 n (Rf S p e a,k)=some (⟨#[]⟩,S,p,e,a):=by
 have d:(e != 0)=true:=by simpa using he
 rw [znd]
 simp only [d,cond_true]
def oneR (S:ByteArray) (p:Nat) (lo hi:Int):Rd Int:=if S.size - p<1 then .inr (242,(p:Int)) else
 (let b:=za S (p:Int); if b<lo∨b > hi then .inr (243,(p:Int)) else .inl (b,p+1))
theorem zz7 {S:ByteArray} {p:Nat} (h:¬ S.size - p<1) (hp:p≤S.size):za (S.extract p (p+1)) 0=za S (p:Int)∧(S.extract p (p+1)).size=1:=by
 have hl:=zv S
 have hp2:p<(bytesOf S).length:=by omega
 have e:bytesOf (S.extract p (p+1))=[(bytesOf S)[p]]:=by
  rw [z4m,List.drop_take]
  rw [List.drop_eq_getElem_cons hp2,show p+1 - p=1 by omega]
  rfl
 have e2:(S.extract p (p+1)).size=1:=by rw [← zv,e]; rfl
 refine ⟨?_,e2⟩
 have:za (S.extract p (p+1)) ((0:Nat):Int)=(bytesOf (S.extract p (p+1)))[0]'(by rw [e]; simp):=z56 _
 rw [show ((0:Nat):Int)=0 from rfl] at this
 rw [this,z56 hp2]
 simp [e]
theorem zi6 (S:ByteArray) (i:Int):0≤za S i∧za S i<256:=by
 unfold za
 have:=(S.data.toList.getD i.toNat 0).toNat_lt
 omega
theorem zdn {n:Nat} {S:ByteArray} {p:Nat} {lo hi:Int} (hp:p≤S.size) (hS:S.size≤BIG):f224 n (S,(p:Int),lo,hi)=some (match oneR S p lo hi with | .inl (b,q)=>.inl (b,S,(q:Int)) | .inr e=>.inr e):=by
 have h1:=zdm (n:=n) (k:=1) hp hS (by omega)
 rw [show ((1:Nat):Int)=1 from rfl] at h1
 rw [y36,h1]
 unfold z39 oneR
 by_cases h:S.size - p<1
 ·simp only [if_pos h]; rfl
 ·obtain ⟨b1,b2⟩:=zz7 h hp
  have hb:=zi6 S (p:Int)
  simp only [if_neg h,Option.bind_some,sumE,b1,b2]
  have hw:IntKind.i64.wrap (za S (p:Int))=za S (p:Int):=z30 (by omega) (by omega)
  rw [zh (by omega)]
  by_cases hlo:za S (p:Int)<lo
  ·rw [decide_eq_true hlo,if_pos (.inl hlo)]; rfl
  ·rw [decide_eq_false hlo,cond_false,Option.bind_some,orRet_inl]
   by_cases hhi:za S (p:Int) > hi
   ·rw [decide_eq_true hhi,if_pos (.inr hhi)]; rfl
   ·rw [decide_eq_false hhi,if_neg (by omega)]
    simp only [cond_false,hw]
theorem zdl {n:Nat} {S:ByteArray} {p:Nat} {lo hi:Int} (hp:p≤S.size) (hS:S.size≤BIG):∃ q:Int,f209 n (Rf S (p:Int) 0 0,lo,hi)=some (match oneR S p lo hi with | .inl (b,p')=>(b,S,(p':Int),0,0) | .inr (e,a)=>(0,S,q,e,a)):=by
 have h1:=zam (n:=n) (k:=1) hp hS (by omega)
 rw [show ((1:Nat):Int)=1 from rfl] at h1
 rw [znc]
 simp only [h1]
 unfold z39 oneR
 by_cases h:S.size - p<1
 ·refine ⟨p,?_⟩
  simp only [if_pos h]; rfl
 ·obtain ⟨b1,b2⟩:=zz7 h hp
  have hb:=zi6 S (p:Int)
  refine ⟨((p+1:Nat):Int),?_⟩
  simp only [if_neg h,Option.bind_some,b1,b2,bne_self_eq_false,cond_false]
  rw [zh (by omega),z30 (by omega) (by omega)]
  by_cases hlo:za S (p:Int)<lo
  ·rw [decide_eq_true hlo,if_pos (.inl hlo)]
   simp only [cond_true,Option.bind_some,orRet_inl]
   rw [z8k]; rfl
  ·rw [decide_eq_false hlo,cond_false,Option.bind_some,orRet_inl]
   by_cases hhi:za S (p:Int) > hi
   ·rw [decide_eq_true hhi,if_pos (.inr hhi)]
    simp only [cond_true]
    rw [z8k]; rfl
   ·rw [decide_eq_false hhi,if_neg (by omega)]; rfl
theorem zy2 {n:Nat} {S:ByteArray} {p e a lo hi:Int} (he:e ≠ 0):f209 n (Rf S p e a,lo,hi)=some (0,S,p,e,a):=by
 have d:(e != 0)=true:=by simpa using he
 rw [znc,z5s he]
 simp only [Option.bind_some,d,cond_true]
def valL (l:List Int):Nat:=l.foldr (fun b a=>b.toNat+256 * a) 0
theorem zmk (b:Int):∀ l:List Int,valL (l++[b])=valL l+b.toNat * 256 ^ l.length
 | []=>by simp [valL]
 | x::l=>by
  have ih:=zmk b l
  simp only [valL,List.cons_append,List.foldr_cons,List.length_cons] at ih ⊢
  rw [ih,Nat.pow_succ,Nat.mul_add,Nat.mul_comm _ 256,← Nat.mul_assoc,← Nat.mul_assoc,Nat.mul_comm b.toNat 256,Nat.add_assoc]
theorem z8r:∀ l:List Int,Byt l→valL l<256 ^ l.length
 | [],_=>by simp [valL]
 | x::l,h=>by
  have ih:=z8r l fun b hb=>h b (by simp [hb])
  have hx:=h x (by simp)
  simp only [valL,List.foldr_cons,List.length_cons,Nat.pow_succ] at ih ⊢
  omega
theorem pow8 (k:Nat):(256:Nat) ^ k=2 ^ (8 * k):=by rw [Nat.pow_mul]
theorem zm3 {k:Nat} (h:k≤7):(256:Nat) ^ k≤72057594037927936:=Nat.pow_le_pow_right (by decide) h
theorem orB {k a x:Nat} (hk:k≤7) (ha:a<256 ^ k) (hx:x<256):(BitVec.ofInt 64 (a:Int) ||| BitVec.ofInt 64 ((x * 256 ^ k:Nat):Int)).toNat=a+x * 256 ^ k:=by
 have:=zm3 hk
 have h2:x * 256 ^ k≤255 * 256 ^ k:=Nat.mul_le_mul_right _ (by omega)
 rw [BitVec.toNat_or,z8n (by omega),z8n (by omega)]
 rw [pow8] at ha ⊢
 rw [Nat.mul_comm,Nat.or_comm,← Nat.two_pow_add_eq_or_of_lt ha,Nat.add_comm]
theorem z8l {n:Nat} {s:ByteArray} (hs:s.size≤8) (hn:20≤n):f213 n s=some ((valL (bytesOf s):Nat):Int):=by
 have hl:=zv s
 have key:∀ (j fuel:Nat),j≤s.size→j<fuel→iter (zhm n s ()) fuel (((valL ((bytesOf s).drop j):Nat):Int),(j:Int) - 1)=some (.out (((valL (bytesOf s):Nat):Int),-1)):=by
  intro j
  induction j with
  | zero =>
   intro fuel _ hf
   obtain ⟨m,rfl⟩:∃ m,fuel=m+1:=⟨fuel - 1,by omega⟩
   rw [iter,zg1]; rfl
  | succ j ih =>
   intro fuel hj hf
   obtain ⟨m,rfl⟩:∃ m,fuel=m+1:=⟨fuel - 1,by omega⟩
   have hj2:j<(bytesOf s).length:=by omega
   have hb:=z1o s _ (List.getElem_mem hj2)
   have hv:=z8r ((bytesOf s).drop (j+1)) fun b hb=>z1o s b (List.mem_of_mem_drop hb)
   rw [List.length_drop] at hv
   have hp:(256:Nat) ^ ((bytesOf s).length - (j+1))≤72057594037927936:=zm3 (by omega)
   have e1:((j+1:Nat):Int) - 1=(j:Int):=by omega
   have e2:decide ((j:Int)≥0)=true:=by simp
   have e3:IntKind.i64.wrap ((j:Int) - 1)=(j:Int) - 1:=z30 (by omega) (by omega)
   have e4:IntKind.u64.wrap (((valL ((bytesOf s).drop (j+1)):Nat):Int) * 2 ^ min (8:Int).toNat IntKind.u64.bits)=((256 * valL ((bytesOf s).drop (j+1)):Nat):Int):=by
    have:(((valL ((bytesOf s).drop (j+1)):Nat):Int) * 2 ^ min (8:Int).toNat IntKind.u64.bits)=((256 * valL ((bytesOf s).drop (j+1)):Nat):Int):=by
     show (((valL ((bytesOf s).drop (j+1)):Nat):Int) * 256)=_
     omega
    rw [this,z1t (by omega) (by omega)]
   have e5:IntKind.u64.wrap (bytesOf s)[j]=(((bytesOf s)[j].toNat:Nat):Int):=by rw [z1t (by omega) (by omega)]; omega
   have e6:(BitVec.ofInt IntKind.u64.bits ((256 * valL ((bytesOf s).drop (j+1)):Nat):Int) ||| BitVec.ofInt IntKind.u64.bits (((bytesOf s)[j].toNat:Nat):Int)).toNat=valL ((bytesOf s).drop j):=by
    have:(BitVec.ofInt 64 ((256 * valL ((bytesOf s).drop (j+1)):Nat):Int) ||| BitVec.ofInt 64 (((bytesOf s)[j].toNat:Nat):Int)).toNat=valL ((bytesOf s).drop j):=by
     rw [BitVec.toNat_or,z8n (by omega),z8n (by omega),List.drop_eq_getElem_cons hj2]
     have h8:(bytesOf s)[j].toNat<2 ^ 8:=by omega
     rw [show (256:Nat)=2 ^ 8 from rfl,← Nat.two_pow_add_eq_or_of_lt h8]
     simp only [valL,List.foldr_cons]
     omega
    exact this
   rw [iter,zg1]
   simp only [e1,e2,cond_true,z56 hj2,e3,e4,e5,e6]
   rw [zh (by omega)]
   have hv2:=z8r ((bytesOf s).drop j) fun b hb=>z1o s b (List.mem_of_mem_drop hb)
   rw [List.length_drop] at hv2
   have hp2:(256:Nat) ^ ((bytesOf s).length - j)≤256 ^ 8:=Nat.pow_le_pow_right (by decide) (by omega)
   have hp3:(256:Nat) ^ 8=18446744073709551616:=rfl
   rw [z1t (by omega) (by omega)]
   exact ih m (by omega) (by omega)
 rw [y2w]
 have h:=key s.size n (by omega) (by omega)
 rw [List.drop_eq_nil_of_le (by omega)] at h
 have e0:IntKind.i64.wrap ((s.size:Int) - 1)=(s.size:Int) - 1:=z30 (by omega) (by omega)
 rw [e0]
 rw [show ((valL []:Nat):Int)=0 from rfl] at h
 rw [h]; rfl
def valR (S:ByteArray) (p k:Nat):Rd Nat:=match z39 S p k with | .inl (s,q)=>.inl (valL (bytesOf s),q) | .inr e=>.inr e
theorem z46 {S s:ByteArray} {p k q:Nat} (h:z39 S p k = .inl (s,q)) (hp:p≤S.size):s=S.extract p (p+k)∧s.size=k∧q=p+k∧q≤S.size:=by
 unfold z39 at h
 split at h
 ·cases h
 ·cases h
  refine ⟨rfl,?_,rfl,by omega⟩
  rw [← zv,z4m,List.length_drop,List.length_take,zv]
  omega
theorem zhq {n:Nat} {S:ByteArray} {p k:Nat} (hn:20≤n) (hp:p≤S.size) (hS:S.size≤BIG) (hk:k≤8):f225 n (S,(p:Int),(k:Int))=some (match valR S p k with | .inl (v,q)=>.inl ((v:Int),S,(q:Int)) | .inr e=>.inr e):=by
 rw [y37,zdm hp hS (by omega)]
 unfold valR
 cases hq:z39 S p k with
 | inr e=>rfl
 | inl r =>
  obtain ⟨s,q⟩:=r
  obtain ⟨h1,h2,h3,h4⟩:=z46 hq hp
  have hl:=zv s
  simp only [Option.bind_some,sumE]
  have key:∀ (j i fuel:Nat),i+j=(bytesOf s).length→j<fuel→iter (zhp n (S,(p:Int),(k:Int)) (bytesOf s,((bytesOf s).length:Int),S,(q:Int))) fuel (((valL ((bytesOf s).take i):Nat):Int),(i:Int))=some (.out (((valL (bytesOf s):Nat):Int),((bytesOf s).length:Int))):=by
   intro j
   induction j with
   | zero =>
    intro i fuel hi hf
    obtain ⟨m,rfl⟩:∃ m,fuel=m+1:=⟨fuel - 1,by omega⟩
    obtain rfl:i=(bytesOf s).length:=by omega
    have e:decide (((bytesOf s).length:Int)<((bytesOf s).length:Int))=false:=by simp
    rw [iter,zg3,List.take_length]
    simp only [e,cond_false]
   | succ j ih =>
    intro i fuel hi hf
    obtain ⟨m,rfl⟩:∃ m,fuel=m+1:=⟨fuel - 1,by omega⟩
    have hi2:i<(bytesOf s).length:=by omega
    have hb:=z1o s _ (List.getElem_mem hi2)
    have hv:=z8r ((bytesOf s).take i) fun b hb=>z1o s b (List.mem_of_mem_take hb)
    rw [List.length_take,Nat.min_eq_left (by omega)] at hv
    have hp:=zm3 (k:=i) (by omega)
    have hx:(bytesOf s)[i].toNat * 256 ^ i≤255 * 256 ^ i:=Nat.mul_le_mul_right _ (by omega)
    have e:decide ((i:Int)<((bytesOf s).length:Int))=true:=by simp; omega
    have e8:IntKind.i64.wrap (8 * (i:Int))=((8 * i:Nat):Int):=w8 (by omega)
    have e5:IntKind.u64.wrap (bytesOf s)[i]=(((bytesOf s)[i].toNat:Nat):Int):=by rw [z1t (by omega) (by omega)]; omega
    have e9:((((bytesOf s)[i].toNat:Nat):Int) * 2 ^ min ((8 * i:Nat):Int).toNat IntKind.u64.bits)=(((bytesOf s)[i].toNat * 256 ^ i:Nat):Int):=by
     rw [Int.toNat_natCast,show min (8 * i) IntKind.u64.bits=8 * i from Nat.min_eq_left (by show 8 * i≤64; omega),pow8]; simp
    have e6:(BitVec.ofInt IntKind.u64.bits ((valL ((bytesOf s).take i):Nat):Int) ||| BitVec.ofInt IntKind.u64.bits (((bytesOf s)[i].toNat * 256 ^ i:Nat):Int)).toNat=valL ((bytesOf s).take (i+1)):=by
     refine (orB (k:=i) (by omega) hv (by omega)).trans ?_
     rw [List.take_succ_eq_append_getElem hi2,zmk,List.length_take,Nat.min_eq_left (by omega)]
    have hv2:=z8r ((bytesOf s).take (i+1)) fun b hb=>z1o s b (List.mem_of_mem_take hb)
    rw [List.length_take,Nat.min_eq_left (by omega)] at hv2
    have hp2:(256:Nat) ^ (i+1)≤256 ^ 8:=Nat.pow_le_pow_right (by decide) (by omega)
    have hp3:(256:Nat) ^ 8=18446744073709551616:=rfl
    rw [iter,zg3]
    simp only [e,cond_true,zwn hi2,Option.bind_some,e8,e5,e9]
    rw [zh (by omega),z1t (m:=(((bytesOf s)[i].toNat * 256 ^ i:Nat):Int)) (by omega) (by omega),e6,z1t (by omega) (by omega),zz (by omega)]
    exact ih (i+1) m (by omega) (by omega)
  have h:=key (bytesOf s).length 0 n (by omega) (by omega)
  rw [show ((valL ((bytesOf s).take 0):Nat):Int)=0 from rfl,show ((0:Nat):Int)=0 from rfl] at h
  rw [h]; rfl
def typR (S:ByteArray) (p:Nat):Rd Xb:=match oneR S p 1 3 with
 | .inr e=>.inr e
 | .inl (k,q)=>if k=3 then (match numR S q ANY with | .inr e=>.inr e | .inl (v,r)=>.inl (⟨k,v⟩,r)) else .inl (⟨k,0⟩,q)
theorem z4f {S:ByteArray} {p q:Nat} {lo hi b:Int} (hp:p≤S.size) (h:oneR S p lo hi = .inl (b,q)):q=p+1∧q≤S.size∧b=za S (p:Int)∧lo≤b∧b≤hi:=by
 unfold oneR at h
 split at h
 ·cases h
 ·simp only at h
  split at h
  ·cases h
  ·cases h
   exact ⟨rfl,by omega,rfl,by omega,by omega⟩
theorem z6x {S:ByteArray} {p:Nat} {lo hi e a:Int} (h:oneR S p lo hi = .inr (e,a)):e ≠ 0:=by
 unfold oneR at h
 split at h
 ·cases h; decide
 ·simp only at h
  split at h
  ·cases h; decide
  ·cases h
theorem zyq {l:List Int} {e:Int}:∀ {k acc:Nat},numL k acc l = .inr e→e=242∨e=243:=by
 induction l with
 | nil=>intro k acc h; cases h; exact .inl rfl
 | cons b l ih =>
  intro k acc h
  simp only [numL] at h
  split at h
  ·cases h; exact .inr rfl
  ·split at h
   ·cases h
   ·exact ih h
theorem z2c {S:ByteArray} {p q M:Nat} {v:Int} (hp:p≤S.size) (h:numR S p M = .inl (v,q)):p<q∧q≤S.size∧0≤v∧v≤(M:Int)∧v<LIM:=by
 unfold numR at h
 split at h
 ·cases h
 ·rename_i w c hq
  split at h
  ·cases h
  ·cases h
   obtain ⟨q1,q2,q3,q4⟩:=zdz (fun x hx=>z1o S x (List.mem_of_mem_drop hx)) (by simp) hq
   rw [List.length_drop,zv] at q3
   have hc:=q4 (by omega)
   have:(128:Nat) ^ c≤128 ^ 9:=Nat.pow_le_pow_right (by decide) hc
   have e9:(128:Nat) ^ 9=9223372036854775808:=rfl
   refine ⟨by omega,by omega,by omega,by omega,?_⟩
   show (w:Int)<9223372036854775808
   omega
theorem z2w {S:ByteArray} {p M:Nat} {e a:Int} (h:numR S p M = .inr (e,a)):e ≠ 0:=by
 unfold numR at h
 split at h
 ·rename_i e' hq
  cases h
  have:=zyq hq
  omega
 ·split at h
  ·cases h; decide
  ·cases h
theorem zcc {S:ByteArray} {p k:Nat} {e a:Int} (h:z39 S p k = .inr (e,a)):e ≠ 0:=by
 unfold z39 at h
 split at h
 ·cases h; decide
 ·cases h
theorem zi1 {S:ByteArray} {p k:Nat} {e a:Int} (h:valR S p k = .inr (e,a)):e ≠ 0:=by
 unfold valR at h
 split at h
 ·cases h
 ·rename_i e' hq; cases h; exact zcc hq
theorem zml {S:ByteArray} {p k q v:Nat} (hp:p≤S.size) (h:valR S p k = .inl (v,q)):q=p+k∧q≤S.size∧v=valL (((bytesOf S).drop p).take k)∧v<256 ^ k:=by
 unfold valR at h
 split at h
 ·rename_i s q' hq
  cases h
  obtain ⟨h1,h2,h3,h4⟩:=z46 hq hp
  refine ⟨h3,h4,?_,?_⟩
  ·rw [h1,z4m,List.drop_take,show p+k - p=k by omega]
  ·have:=z8r (bytesOf s) (z1o s)
   rw [zv,h2] at this
   exact this
 ·cases h
theorem z7n {S:ByteArray} {p q:Nat} {t:Xb} (hp:p≤S.size) (h:typR S p = .inl (t,q)):p<q∧q≤S.size∧t.Param_<LIM:=by
 unfold typR at h
 split at h
 ·cases h
 ·rename_i k q1 h1
  obtain ⟨a1,a2,_⟩:=z4f hp h1
  split at h
  ·split at h
   ·cases h
   ·rename_i v r h2
    cases h
    obtain ⟨b1,b2,b3,b4,b5⟩:=z2c a2 h2
    exact ⟨by omega,b2,b5⟩
  ·cases h
   exact ⟨by omega,a2,(by show (0:Int)<9223372036854775808; decide)⟩
theorem zb5 {S:ByteArray} {p:Nat} {e a:Int} (h:typR S p = .inr (e,a)):e ≠ 0:=by
 unfold typR at h
 split at h
 ·rename_i e' h1; cases h; exact z6x h1
 ·split at h
  ·split at h
   ·rename_i e' h2; cases h; exact z2w h2
   ·cases h
  ·cases h
theorem zng {n:Nat} {S:ByteArray} {p:Nat} (hn:S.size<n) (hp:p≤S.size) (hS:S.size≤BIG):f226 n (S,(p:Int))=some (match typR S p with | .inl (t,q)=>.inl (S,(q:Int),t.Kind_,t.Param_) | .inr e=>.inr e):=by
 rw [y38]
 simp only [zdn (n:=n) (lo:=1) (hi:=3) hp hS]
 unfold typR
 cases h1:oneR S p 1 3 with
 | inr e=>rfl
 | inl r =>
  obtain ⟨k,q⟩:=r
  obtain ⟨a1,a2,_⟩:=z4f hp h1
  simp only [Option.bind_some,sumE]
  by_cases hk:k=3
  ·have e3:(k==3)=true:=by simp [hk]
   have h2:=z59 (n:=n) (most:=ANY) hn a2 hS (Nat.le_refl _)
   rw [show ((ANY:Nat):Int)=9223372036854775807 from rfl] at h2
   rw [e3,cond_true,if_pos hk,h2]
   cases numR S q ANY with
   | inr e=>rfl
   | inl r=>rfl
  ·have e3:(k==3)=false:=by simp [hk]
   rw [e3,cond_false,if_neg hk]; rfl
theorem znf {n:Nat} {S:ByteArray} {p:Nat} (hn:S.size<n) (hp:p≤S.size) (hS:S.size≤BIG):∃ q k v:Int,f211 n (Rf S (p:Int) 0 0)=some (match typR S p with | .inl (t,p')=>(S,(p':Int),0,0,t.Kind_,t.Param_) | .inr (e,a)=>(S,q,e,a,k,v)):=by
 obtain ⟨q1,h1⟩:=zdl (n:=n) (lo:=1) (hi:=3) hp hS
 rw [zne,h1]
 unfold typR
 cases h2:oneR S p 1 3 with
 | inr e =>
  obtain ⟨e,a⟩:=e
  exact ⟨q1,0,0,rfl⟩
 | inl r =>
  obtain ⟨k,q⟩:=r
  obtain ⟨a1,a2,_⟩:=z4f hp h2
  simp only [Option.bind_some]
  by_cases hk:k=3
  ·have e3:(k==3)=true:=by simp [hk]
   obtain ⟨q3,h3⟩:=z58 (n:=n) (M:=ANY) (most:=-1) (.inr ⟨rfl,rfl⟩) hn a2 hS
   rw [e3,cond_true,if_pos hk]
   simp only [h3,Option.bind_some]
   cases numR S q ANY with
   | inr e=>exact ⟨q3,k,0,rfl⟩
   | inl r=>exact ⟨0,0,0,rfl⟩
  ·have e3:(k==3)=false:=by simp [hk]
   rw [e3,cond_false,if_neg hk]
   exact ⟨0,0,0,rfl⟩
theorem zy3 {n:Nat} {S:ByteArray} {p e a:Int} (he:e ≠ 0):f211 n (Rf S p e a)=some (S,p,e,a,0,0):=by
 rw [zne,zy2 he]; rfl
def putF (i:Xd) (k:Nat) (v:Int):Xd :=
 ⟨bif Nat.beq k 0 then v else i.Op_,bif Nat.beq k 1 then v else i.D_,bif Nat.beq k 2 then v else i.A_,bif Nat.beq k 3 then v else i.B_,bif Nat.beq k 4 then v else i.C_,bif Nat.beq k 5 then v else i.N_,i.Bits_⟩
def z32 (S:ByteArray):List Nat→Nat→Xd→Rd Xd
 | [],p,i=>.inl (i,p)
 | k::ks,p,i=>match numR S p ANY with
  | .inr e=>.inr e
  | .inl (v,q)=>z32 S ks q (putF i k v)
theorem zbo {S:ByteArray} {e a:Int}:∀ {ks:List Nat} {p:Nat} {i:Xd},z32 S ks p i = .inr (e,a)→e ≠ 0
 | [],p,i,h=>nomatch h
 | k::ks,p,i,h=>by
  simp only [z32] at h
  split at h
  ·rename_i e' h1; cases h; exact z2w h1
  ·exact zbo h
theorem z9n {S:ByteArray}:∀ {ks:List Nat} {p q:Nat} {i j:Xd},(∀ k ∈ ks,1≤k∧k≤5)→p≤S.size→zad i→z32 S ks p i = .inl (j,q)→p≤q∧q≤S.size∧j.Op_=i.Op_∧j.Bits_=i.Bits_∧zad j
 | [],p,q,i,j,_,hp,hi,h=>by cases h; exact ⟨Nat.le_refl _,hp,rfl,rfl,hi⟩
 | k::ks,p,q,i,j,hk,hp,hi,h=>by
  simp only [z32] at h
  split at h
  ·cases h
  ·rename_i v r h1
   obtain ⟨a1,a2,a3,a4,a5⟩:=z2c hp h1
   have hk1:=hk k (by simp)
   have h0:Nat.beq k 0=false:=by cases k with | zero=>omega | succ k=>rfl
   have one:∀ (b:Bool) (w:Int),w<LIM→(bif b then v else w)<LIM:=fun b w hw=>by cases b <;> assumption
   obtain ⟨b1,b2,b3,b4,b5⟩:=z9n (fun k hk'=>hk k (by simp [hk'])) a2 (i:=putF i k v) ⟨one _ _ hi.d,one _ _ hi.a,one _ _ hi.b,one _ _ hi.c,one _ _ hi.n⟩ h
   refine ⟨by omega,b2,?_,b4,b5⟩
   rw [b3]
   show (bif Nat.beq k 0 then v else i.Op_)=i.Op_
   rw [h0,cond_false]
theorem zx0 (a b c d e f:Int) {k:Nat} (h:1≤k∧k≤5):∃ w,z3f [some a,some b,some c,some d,some e,some f,none] k=some w:=by
 have:k=1∨k=2∨k=3∨k=4∨k=5:=by omega
 rcases this with rfl | rfl | rfl | rfl | rfl <;> exact ⟨_,rfl⟩
theorem zct {n:Nat} {S:ByteArray} {x:ByteArray×Int} {v4:Int×List Xa×List Xb×List Xc} {q4:Int×ByteArray×Int×List Xd} {bits:Int} {ks:List Nat} (hks:∀ k ∈ ks,1≤k∧k≤5) (hk5:ks.length≤5) (hn:S.size<n) (hS:S.size≤BIG) :
  ∀ (rest:List Nat) (j p fuel:Nat) (i:Xd),ks.drop j=rest→j≤ks.length→rest.length<fuel→p≤S.size→i.Bits_=bits →
   iter (zhr n x v4 q4 (ks,(ks.length:Int),bits)) fuel ((j:Int),S,(p:Int),i.Op_,i.D_,i.A_,i.B_,i.C_,i.N_)=some (match z32 S rest p i with | .inl (i',q)=>.out ((ks.length:Int),S,(q:Int),i'.Op_,i'.D_,i'.A_,i'.B_,i'.C_,i'.N_) | .inr e=>.ret e)
 | [],j,p,fuel+1,i,hj,hj0,hf,hp,hb=>by
  have hj2:ks.length≤j:=List.drop_eq_nil_iff.1 hj
  obtain rfl:j=ks.length:=by omega
  have e:decide ((ks.length:Int)<(ks.length:Int))=false:=by simp
  rw [iter,zg8]
  simp only [e,cond_false,z32]
 | k::rest,j,p,fuel+1,i,hj,hj0,hf,hp,hb=>by
  have hj2:j<ks.length:=by
   have:=congrArg List.length hj
   rw [List.length_drop] at this
   simp at this; omega
  rw [List.drop_eq_getElem_cons hj2] at hj
  obtain ⟨h1,h2⟩:=List.cons.inj hj
  have hk:=hks k (by rw [← h1]; exact List.getElem_mem _)
  have e:decide ((j:Int)<(ks.length:Int))=true:=by simp; omega
  have hg:ks[(j:Int).toNat]? = some k:=by rw [Int.toNat_natCast,List.getElem?_eq_getElem hj2,h1]
  have hnum:=z59 (n:=n) (most:=ANY) hn hp hS (Nat.le_refl _)
  rw [show ((ANY:Nat):Int)=9223372036854775807 from rfl] at hnum
  obtain ⟨w,hw⟩:=zx0 i.Op_ i.D_ i.A_ i.B_ i.C_ i.N_ hk
  rw [iter,zg8]
  simp only [e,cond_true,hg,Option.bind_some,hnum,z32]
  rw [zh (by omega)]
  cases hq:numR S p ANY with
  | inr e=>rfl
  | inl r =>
   obtain ⟨v,q⟩:=r
   obtain ⟨a1,a2,_⟩:=z2c hp hq
   simp only [Option.bind_some,sumE,hw,zz (show j<9223372036854775806 by omega)]
   exact zct hks hk5 hn hS rest (j+1) q fuel (putF i k v) h2 (by omega) (by simp at hf; omega) a2 hb
def offL:Nat→List Int→List Nat
 | _,[]=>[]
 | j,s::L=>(bif s==0 then [] else [j+1])++offL (j+1) L
theorem yai {op:Int} {r:z3i} (h:rowD op=some r):off op=offL 0 [r.d,r.a,r.b,r.c,r.n]:=by
 simp only [off,h,offL,List.append_nil]
abbrev FS (i:Xd):Int×Int×Int×Int×Int:=(i.D_,i.A_,i.B_,i.C_,i.N_)
theorem zek {n:Nat} {x:Xf} {v1:Int×ByteArray} {k:Int} {S:ByteArray} {p e a:Int} {F:Int×Int×Int×Int×Int} (he:e ≠ 0):z8m n x v1 (k,S,p,e,a,F)=some (.out (k,S,p,e,a,F)):=by
 have d:(e==0)=false:=by simpa using he
 rw [z7y]
 simp only [d]
 cases decide (k<(v1.2.size:Int)) <;> rfl
theorem zcr {n:Nat} {S R:ByteArray} {x:Xf} {op:Int} (hn:S.size<n) (hS:S.size≤BIG) :
  ∀ (L:List Int) (j p fuel:Nat) (i:Xd),j+L.length=5→R.size=5→(∀ (t:Nat) (h:t<L.length),(za R ((j+t:Nat):Int)==45)=(L[t]==0))→L.length+1<fuel→p≤S.size →
   ∃ (j' q:Int) (i':Xd),iter (z8m n x (op,R)) fuel ((j:Int),S,(p:Int),0,0,FS i)=some (.out (match z32 S (offL j L) p i with | .inl (i1,r)=>(5,S,(r:Int),0,0,FS i1) | .inr (e,a)=>(j',S,q,e,a,FS i')))
 | [],j,p,fuel+1,i,hj,hR,hb,hf,hp=>by
  obtain rfl:j=5:=by simpa using hj
  refine ⟨0,0,i,?_⟩
  have e:decide (((5:Nat):Int)<(R.size:Int))=false:=by simp; omega
  rw [iter,z7y]
  simp only [e,cond_false,Option.bind_some,orRet_inl,offL,z32]
  rfl
 | s::L,j,p,fuel+1,i,hj,hR,hb,hf,hp=>by
  simp only [List.length_cons] at hj hf
  have e:decide ((j:Int)<(R.size:Int))=true:=by simp; omega
  have hb0:=hb 0 (by simp)
  simp only [Nat.add_zero,List.getElem_cons_zero] at hb0
  have hb1:∀ (t:Nat) (h:t<L.length),(za R ((j+1+t:Nat):Int)==45)=(L[t]==0):=fun t ht=>by
   have:=hb (t+1) (by simp; omega)
   rw [show j+(t+1)=j+1+t by omega] at this
   simpa using this
  cases hs:s==0 with
  | true =>
   obtain ⟨j',q,i',h⟩:=zcr (n:=n) (S:=S) (R:=R) (x:=x) (op:=op) hn hS L (j+1) p fuel i (by omega) hR hb1 (by omega) hp
   refine ⟨j',q,i',?_⟩
   rw [iter,z7y]
   simp only [e,cond_true,beq_self_eq_true,Option.bind_some,orRet_inl,hb0,hs,zz (show j<9223372036854775806 by omega),offL,List.nil_append]
   rw [zh (by omega)]
   exact h
  | false =>
   obtain ⟨q0,hnum⟩:=z58 (n:=n) (M:=ANY) (most:=-1) (.inr ⟨rfl,rfl⟩) hn hp hS
   have step:∀ (v P E A:Int),(bif ((j:Int)==0) then (some (.go (((j+1:Nat):Int),S,P,E,A,v,i.A_,i.B_,i.C_,i.N_))) else (bif ((j:Int)==1) then (some (.go (((j+1:Nat):Int),S,P,E,A,i.D_,v,i.B_,i.C_,i.N_))) else (bif ((j:Int)==2) then (some (.go (((j+1:Nat):Int),S,P,E,A,i.D_,i.A_,v,i.C_,i.N_))) else (bif ((j:Int)==3) then (some (.go (((j+1:Nat):Int),S,P,E,A,i.D_,i.A_,i.B_,v,i.N_))) else (some (.go (((j+1:Nat):Int),S,P,E,A,i.D_,i.A_,i.B_,i.C_,v)))))):Option (Bo (Yaw) (Yaw) Empty)) =
     some (.go (((j+1:Nat):Int),S,P,E,A,FS (putF i (j+1) v))):=fun v P E A=>by
    have:j=0∨j=1∨j=2∨j=3∨j=4:=by omega
    rcases this with rfl | rfl | rfl | rfl | rfl <;> rfl
   have hbody:∀ (v P E A:Int),f207 n (Rf S (p:Int) 0 0,-1)=some (v,S,P,E,A)→z8m n x (op,R) ((j:Int),S,(p:Int),0,0,FS i)=some (.go (((j+1:Nat):Int),S,P,E,A,FS (putF i (j+1) v))):=fun v P E A hv=>by
    rw [z7y]
    simp only [e,cond_true,beq_self_eq_true,Option.bind_some,orRet_inl,hb0,hs,zz (show j<9223372036854775806 by omega),cond_false]
    rw [zh (by omega)]
    refine (congrArg (fun z=>Option.bind z _) hv).trans ?_
    exact step v P E A
   rw [iter]
   simp only [offL,hs,cond_false,List.cons_append,List.nil_append,z32]
   cases hq:numR S p ANY with
   | inr e =>
    obtain ⟨e,a⟩:=e
    rw [hq] at hnum
    refine ⟨((j+1:Nat):Int),q0,putF i (j+1) 0,?_⟩
    rw [hbody _ _ _ _ hnum]
    obtain ⟨m,rfl⟩:∃ m,fuel=m+1:=⟨fuel - 1,by omega⟩
    simp only
    rw [iter,zek (z2w hq)]
   | inl r =>
    obtain ⟨v,r⟩:=r
    rw [hq] at hnum
    obtain ⟨a1,a2,_⟩:=z2c hp hq
    obtain ⟨j',q,i',h⟩:=zcr (n:=n) (S:=S) (R:=R) (x:=x) (op:=op) hn hS L (j+1) r fuel (putF i (j+1) v) (by omega) hR hb1 (by omega) a2
    refine ⟨j',q,i',?_⟩
    rw [hbody _ _ _ _ hnum]
    exact h
def z3m (S:ByteArray) (p:Nat):Rd Xd:=match oneR S p 1 37 with
 | .inr e=>.inr e
 | .inl (op,q)=>match z32 S (off op) q ⟨op,0,0,0,0,0,0⟩ with
  | .inr e=>.inr e
  | .inl (i,r)=>if i.Op_=1 then (match valR S r 4 with | .inr e=>.inr e | .inl (v,t)=>.inl (⟨i.Op_,i.D_,i.A_,i.B_,i.C_,i.N_,IntKind.u32.wrap v⟩,t)) else .inl (i,r)
theorem zlo {S:ByteArray} {p:Nat} {e a:Int} (h:z3m S p = .inr (e,a)):e ≠ 0:=by
 unfold z3m at h
 split at h
 ·rename_i e' h1; cases h; exact z6x h1
 ·split at h
  ·rename_i e' h1; cases h; exact zbo h1
  ·split at h
   ·split at h
    ·rename_i e' h1; cases h; exact zi1 h1
    ·cases h
   ·cases h
theorem zmm (op:Int):zad ⟨op,0,0,0,0,0,0⟩:=by
 have h:(0:Int)<9223372036854775808:=by decide
 exact ⟨h,h,h,h,h⟩
theorem zxg (v:Int):0≤IntKind.u32.wrap v∧IntKind.u32.wrap v<4294967296:=by
 have:IntKind.u32.wrap v=v % 4294967296:=by simp [IntKind.wrap,IntKind.bits,IntKind.signed]
 omega
theorem zdw {S:ByteArray} {p q:Nat} {i:Xd} (hp:p≤S.size) (h:z3m S p = .inl (i,q)):p<q∧q≤S.size∧zad i∧0≤i.Bits_∧i.Bits_<4294967296:=by
 unfold z3m at h
 split at h
 ·cases h
 ·rename_i op q1 h1
  obtain ⟨a1,a2,_⟩:=z4f hp h1
  split at h
  ·cases h
  ·rename_i j r h2
   obtain ⟨b1,b2,b3,b4,b5⟩:=z9n (zgt op) a2 (zmm op) h2
   split at h
   ·split at h
    ·cases h
    ·rename_i v t h3
     cases h
     obtain ⟨c1,c2,_⟩:=zml b2 h3
     exact ⟨by omega,c2,⟨b5.d,b5.a,b5.b,b5.c,b5.n⟩,zxg _⟩
   ·cases h
    rw [b4]
    exact ⟨by omega,b2,b5,Int.le_refl 0,(by show (0:Int)<4294967296; decide)⟩
theorem y2y {n:Nat} {S:ByteArray} {p:Nat} (hn:S.size+20<n) (hp:p≤S.size) (hS:S.size≤BIG):∃ (q:Int) (i':Xd),f214 n (Rf S (p:Int) 0 0)=some (match z3m S p with | .inl (i,r)=>(S,(r:Int),0,0,i.Op_,i.D_,i.A_,i.B_,i.C_,i.N_,i.Bits_) | .inr (e,a)=>(S,q,e,a,i'.Op_,i'.D_,i'.A_,i'.B_,i'.C_,i'.N_,i'.Bits_)):=by
 obtain ⟨q1,h1⟩:=zdl (n:=n) (lo:=1) (hi:=37) hp hS
 rw [y2x,h1]
 unfold z3m
 cases h2:oneR S p 1 37 with
 | inr e =>
  obtain ⟨e,a⟩:=e
  have he:=z6x h2
  refine ⟨q1,⟨0,0,0,0,0,0,0⟩,?_⟩
  have hit:∀ (x:Xf) (v1:Ybq) (F:Ybl),iter (z8m n x v1) n ((0:Int),S,q1,e,a,F)=some (.out ((0:Int),S,q1,e,a,F)):=fun x v1 F=>by
   cases n with
   | zero=>omega
   | succ m=>rw [iter,zek he]
  simp only [Option.bind_some,zcu,hit,Bo.then]
  rfl
 | inl r =>
  obtain ⟨op,q⟩:=r
  obtain ⟨a1,a2,a3,a4,a5⟩:=z4f hp h2
  simp only [Option.bind_some,zcu]
  have hsome:∃ r,rowD op=some r:=by
   rcases z4z op with h | h
   ·rcases h with rfl | rfl | rfl | rfl | rfl | rfl | rfl | rfl | rfl | rfl | rfl | rfl | rfl | rfl | rfl | rfl | rfl | rfl | rfl | rfl | rfl | rfl | rfl | rfl | rfl | rfl | rfl | rfl | rfl | rfl | rfl | rfl | rfl | rfl | rfl | rfl | rfl <;> exact ⟨_,rfl⟩
   ·have:=h op a4 a5
    simp at this
  obtain ⟨r,hr⟩:=hsome
  obtain ⟨⟨s1,s2,s3,s4⟩,sN⟩:=ze5 hr
  obtain ⟨t1,t2,t3,t4⟩:=row6 hr
  have sN':r.n=0∨r.n=1∨r.n=3∨r.n=4∨r.n=2:=by
   rcases sN with h | h
   ·omega
   ·omega
  have neg:∀ {u:Int} {b:Bool},(u != 45) = !b→(u==45)=b:=fun {u b} h=>by
   have:(u != 45) = !(u==45):=rfl
   rw [this] at h
   cases hu:u==45 <;> cases b <;> simp_all
  have hbs:∀ (t:Nat) (h:t<[r.d,r.a,r.b,r.c,r.n].length),(za (z3a r) ((0+t:Nat):Int)==45)=([r.d,r.a,r.b,r.c,r.n][t]==0):=fun t ht=>by
   have:t=0∨t=1∨t=2∨t=3∨t=4:=by simp at ht; omega
   rcases this with rfl | rfl | rfl | rfl | rfl
   ·exact neg (z9w s1 t1)
   ·exact neg (z9w s2 t2)
   ·exact neg (z9w s3 t3)
   ·exact neg (z9w s4 t4)
   ·exact neg (zr4 sN')
  obtain ⟨j',q2,i',hl⟩:=zcr (n:=n) (S:=S) (R:=z3a r) (x:=Rf S (p:Int) 0 0) (op:=op) (by omega) hS [r.d,r.a,r.b,r.c,r.n] 0 q n ⟨op,0,0,0,0,0,0⟩ rfl rfl hbs (by simp; omega) a2
  rw [← yai hr] at hl
  rw [show ((0:Nat):Int)=0 from rfl] at hl
  simp only [hr]
  simp only [hl,Option.bind_some,Bo.then]
  cases hf:z32 S (off op) q ⟨op,0,0,0,0,0,0⟩ with
  | inr e =>
   obtain ⟨e,a⟩:=e
   have he:=zbo hf
   refine ⟨q2,⟨op,i'.D_,i'.A_,i'.B_,i'.C_,i'.N_,0⟩,?_⟩
   have e210:f210 n (Rf S q2 e a,4)=some (⟨#[]⟩,S,q2,e,a):=z5s he
   have e213:f213 n (⟨#[]⟩:ByteArray)=some 0:=z8l (s:=⟨#[]⟩) (by decide) (by omega)
   simp only [e210,Option.bind_some,e213]
   cases op==1 <;> rfl
  | inl r2 =>
   obtain ⟨i,r2⟩:=r2
   obtain ⟨b1,b2,b3,b4,b5⟩:=z9n (zgt op) a2 (zmm op) hf
   simp only [b3]
   by_cases ho:op=1
   ·have e1:(op==1)=true:=by simp [ho]
    have h4:=zam (n:=n) (k:=4) b2 hS (by omega)
    rw [show ((4:Nat):Int)=4 from rfl] at h4
    rw [e1]
    simp only [cond_true,h4,Option.bind_some,if_pos ho]
    unfold valR
    cases hv:z39 S r2 4 with
    | inr e =>
     obtain ⟨e,a⟩:=e
     have e213:f213 n (⟨#[]⟩:ByteArray)=some 0:=z8l (s:=⟨#[]⟩) (by decide) (by omega)
     simp only [e213]
     exact ⟨r2,⟨op,i.D_,i.A_,i.B_,i.C_,i.N_,0⟩,rfl⟩
    | inl w =>
     obtain ⟨s,w⟩:=w
     obtain ⟨c1,c2,c3,c4⟩:=z46 hv b2
     have e213:=z8l (n:=n) (s:=s) (by omega) (by omega)
     simp only [e213]
     exact ⟨0,i,rfl⟩
   ·have e1:(op==1)=false:=by simp [ho]
    rw [e1,if_neg ho]
    refine ⟨0,i,?_⟩
    have b3':i.Op_=op:=b3
    simp only [cond_false,Option.bind_some,orRet_inl,show i.Bits_=0 from b4,b3']
def z3p (S:ByteArray) (p:Nat):Rd Xc:=match oneR S p 0 1 with
 | .inr e=>.inr e
 | .inl (k,q)=>match typR S q with
  | .inr e=>.inr e
  | .inl (t,r)=>if t.Kind_=2 then (match numR S r ANY with | .inr e=>.inr e | .inl (v,u)=>.inl (⟨t,k==1,0,v⟩,u)) else (match valR S r 4 with | .inr e=>.inr e | .inl (v,u)=>.inl (⟨t,k==1,IntKind.u32.wrap v,0⟩,u))
theorem zf6 {S:ByteArray} {p:Nat} {e a:Int} (h:z3p S p = .inr (e,a)):e ≠ 0:=by
 unfold z3p at h
 split at h
 ·rename_i e' h1; cases h; exact z6x h1
 ·split at h
  ·rename_i e' h1; cases h; exact zb5 h1
  ·split at h
   ·split at h
    ·rename_i e' h1; cases h; exact z2w h1
    ·cases h
   ·split at h
    ·rename_i e' h1; cases h; exact zi1 h1
    ·cases h
theorem z8q {S:ByteArray} {p q:Nat} {x:Xc} (hp:p≤S.size) (h:z3p S p = .inl (x,q)):p<q∧q≤S.size∧y4c x∧0≤x.Bits_∧x.Bits_<4294967296:=by
 have z:(0:Int)<9223372036854775808:=by decide
 have z2:(0:Int)<4294967296:=by decide
 unfold z3p at h
 split at h
 ·cases h
 ·rename_i k q1 h1
  obtain ⟨a1,a2,_⟩:=z4f hp h1
  split at h
  ·cases h
  ·rename_i t r h2
   obtain ⟨b1,b2,b3⟩:=z7n a2 h2
   split at h
   ·split at h
    ·cases h
    ·rename_i v u h3
     cases h
     obtain ⟨c1,c2,c3,c4,c5⟩:=z2c b2 h3
     exact ⟨by omega,c2,⟨b3,c5⟩,Int.le_refl 0,z2⟩
   ·split at h
    ·cases h
    ·rename_i v u h3
     cases h
     obtain ⟨c1,c2,_⟩:=zml b2 h3
     exact ⟨by omega,c2,⟨b3,z⟩,zxg _⟩
def parR (S:ByteArray) (p:Nat):Rd Xa:=match oneR S p 1 2 with
 | .inr e=>.inr e
 | .inl (k,q)=>match numR S q 64 with
  | .inr e=>.inr e
  | .inl (m,r)=>match z39 S r m.toNat with
   | .inr e=>.inr e
   | .inl (s,t)=>match numR S t ANY with
    | .inr e=>.inr e
    | .inl (v,u)=>.inl (⟨s,k,v⟩,u)
theorem zhv {S:ByteArray} {p:Nat} {e a:Int} (h:parR S p = .inr (e,a)):e ≠ 0:=by
 unfold parR at h
 split at h
 ·rename_i e' h1; cases h; exact z6x h1
 ·split at h
  ·rename_i e' h1; cases h; exact z2w h1
  ·split at h
   ·rename_i e' h1; cases h; exact zcc h1
   ·split at h
    ·rename_i e' h1; cases h; exact z2w h1
    ·cases h
theorem zd5 {S:ByteArray} {p q:Nat} {x:Xa} (hp:p≤S.size) (h:parR S p = .inl (x,q)):p<q∧q≤S.size∧y8f x:=by
 unfold parR at h
 split at h
 ·cases h
 ·rename_i k q1 h1
  obtain ⟨a1,a2,_⟩:=z4f hp h1
  split at h
  ·cases h
  ·rename_i m r h2
   obtain ⟨b1,b2,b3,b4,_⟩:=z2c a2 h2
   split at h
   ·cases h
   ·rename_i s t h3
    obtain ⟨c1,c2,c3,c4⟩:=z46 h3 b2
    split at h
    ·cases h
    ·rename_i v u h4
     cases h
     obtain ⟨d1,d2,d3,d4,d5⟩:=z2c c4 h4
     exact ⟨by omega,d2,⟨by show s.size≤64; omega,d5⟩⟩
def z1d {α:Type} (f:Nat→Rd α):Nat→Nat→Rd (List α)
 | 0,p=>.inl ([],p)
 | k+1,p=>match f p with
  | .inr e=>.inr e
  | .inl (x,q)=>match z1d f k q with
   | .inr e=>.inr e
   | .inl (xs,r)=>.inl (x::xs,r)
theorem z4w {α:Type} {f:Nat→Rd α} (hf:∀ {p e a},f p = .inr (e,a)→e ≠ 0) {e a:Int}:∀ {k p:Nat},z1d f k p = .inr (e,a)→e ≠ 0
 | 0,p,h=>nomatch h
 | k+1,p,h=>by
  simp only [z1d] at h
  split at h
  ·rename_i e' h1; cases h; exact hf h1
  ·split at h
   ·rename_i e' h1; cases h; exact z4w hf h1
   ·cases h
theorem z41 {α:Type} {f:Nat→Rd α} {S:ByteArray} {Q:α→Prop} (hf:∀ {p q x},p≤S.size→f p = .inl (x,q)→q≤S.size∧Q x):∀ {k p q:Nat} {xs:List α},p≤S.size→z1d f k p = .inl (xs,q)→q≤S.size∧xs.length=k∧∀ x ∈ xs,Q x
 | 0,p,q,xs,hp,h=>by cases h; exact ⟨hp,rfl,fun _ h=>nomatch h⟩
 | k+1,p,q,xs,hp,h=>by
  simp only [z1d] at h
  split at h
  ·cases h
  ·rename_i x q1 h1
   obtain ⟨a1,a2⟩:=hf hp h1
   split at h
   ·cases h
   ·rename_i ys r h2
    cases h
    obtain ⟨b1,b2,b3⟩:=z41 hf a1 h2
    refine ⟨b1,by simp [b2],fun y hy=>?_⟩
    rcases List.mem_cons.1 hy with rfl | hy
    ·exact a2
    ·exact b3 y hy
theorem zgp {α:Type} {S:ByteArray} {f:Nat→Rd α} {N:Nat} {body:Int×ByteArray×Int×List α→Option (Bo (Int×ByteArray×Int×List α) (Int×ByteArray×Int×List α) (Yaa))} (hf:∀ {p q x},p≤S.size→f p = .inl (x,q)→q≤S.size)
  (hgo:∀ (i p:Nat) (acc:List α),i<N→p≤S.size→acc.length=i→body ((i:Int),S,(p:Int),acc)=some (match f p with | .inl (x,q)=>.go (((i+1:Nat):Int),S,(q:Int),acc++[x]) | .inr e=>.ret e)) (hend:∀ (p:Int) (acc:List α),body ((N:Int),S,p,acc)=some (.out ((N:Int),S,p,acc))) :
  ∀ (k i p fuel:Nat) (acc:List α),i+k=N→k<fuel→p≤S.size→acc.length=i→iter body fuel ((i:Int),S,(p:Int),acc)=some (match z1d f k p with | .inl (xs,q)=>.out ((N:Int),S,(q:Int),acc++xs) | .inr e=>.ret e)
 | 0,i,p,fuel+1,acc,h,hf',hp,ha=>by
  obtain rfl:i=N:=by omega
  rw [iter,hend]
  simp only [z1d,List.append_nil]
 | k+1,i,p,fuel+1,acc,h,hf',hp,ha=>by
  rw [iter,hgo i p acc (by omega) hp ha]
  simp only [z1d]
  cases hq:f p with
  | inr e=>rfl
  | inl r =>
   obtain ⟨x,q⟩:=r
   simp only
   rw [zgp hf hgo hend k (i+1) q fuel (acc++[x]) (by omega) (by omega) (hf hp hq) (by simp; omega)]
   cases z1d f k q with
   | inr e=>rfl
   | inl r=>simp
theorem zgo {α:Type} {S:ByteArray} {f:Nat→Rd α} {N:Nat} {body:Int×ByteArray×Int×Int×Int×List α→Option (Bo (Int×ByteArray×Int×Int×Int×List α) (Int×ByteArray×Int×Int×Int×List α) Empty)} (hf:∀ {p q x},p≤S.size→f p = .inl (x,q)→q≤S.size) (hfe:∀ {p e a},f p = .inr (e,a)→e ≠ 0)
  (hgo:∀ (i p:Nat) (acc:List α),i<N→p≤S.size→acc.length=i→∃ (q:Int) (acc':List α),body ((i:Int),S,(p:Int),0,0,acc)=some (.go (match f p with | .inl (x,q)=>(((i+1:Nat):Int),S,(q:Int),0,0,acc++[x]) | .inr (e,a)=>(((i+1:Nat):Int),S,q,e,a,acc'))))
  (herr:∀ (i p e a:Int) (acc:List α),e ≠ 0→body (i,S,p,e,a,acc)=some (.out (i,S,p,e,a,acc))) (hend:∀ (p:Int) (acc:List α),body ((N:Int),S,p,0,0,acc)=some (.out ((N:Int),S,p,0,0,acc))) :
  ∀ (k i p fuel:Nat) (acc:List α),i+k=N→k+1<fuel→p≤S.size→acc.length=i→∃ (j q:Int) (acc':List α),iter body fuel ((i:Int),S,(p:Int),0,0,acc)=some (.out (match z1d f k p with | .inl (xs,q)=>((N:Int),S,(q:Int),0,0,acc++xs) | .inr (e,a)=>(j,S,q,e,a,acc')))
 | 0,i,p,fuel+1,acc,h,hf',hp,ha=>by
  obtain rfl:i=N:=by omega
  refine ⟨0,0,[],?_⟩
  rw [iter,hend]
  simp only [z1d,List.append_nil]
 | k+1,i,p,fuel+1,acc,h,hf',hp,ha=>by
  obtain ⟨q0,acc0,hb⟩:=hgo i p acc (by omega) hp ha
  rw [iter,hb]
  simp only [z1d]
  cases hq:f p with
  | inr e =>
   obtain ⟨e,a⟩:=e
   refine ⟨((i+1:Nat):Int),q0,acc0,?_⟩
   obtain ⟨m,rfl⟩:∃ m,fuel=m+1:=⟨fuel - 1,by omega⟩
   simp only
   rw [iter,herr _ _ _ _ _ (hfe hq)]
  | inl r =>
   obtain ⟨x,q⟩:=r
   obtain ⟨j,q1,acc1,h1⟩:=zgo hf hfe hgo herr hend k (i+1) q fuel (acc++[x]) (by omega) (by omega) (hf hp hq) (by simp; omega)
   refine ⟨j,q1,acc1,?_⟩
   simp only
   rw [h1]
   cases z1d f k q with
   | inr e=>rfl
   | inl r=>simp
theorem z9t {S T R:Type} {body:S→Option (Bo S T R)} {s:S} {t:T} {n:Nat} (hn:0<n) (h:body s=some (.out t)):iter body n s=some (.out t):=by
 cases n with
 | zero=>omega
 | succ m=>rw [iter,h]
section
variable {n:Nat} {S:ByteArray} {x:ByteArray×Int}
theorem zrp:((ANY:Nat):Int)=9223372036854775807:=rfl
theorem y54 (hn:S.size<n) (hS:S.size≤BIG) {N:Nat} (hN:N≤100000):∀ {p:Nat},p≤S.size→N<n→iter (zdo n x (N:Int)) n ((0:Int),S,(p:Int),([]:List Xa))=some (match z1d (parR S) N p with | .inl (xs,q)=>.out ((N:Int),S,(q:Int),xs) | .inr e=>.ret e):=by
 intro p hp hNn
 have:=zgp (S:=S) (f:=parR S) (N:=N) (body:=zdo n x (N:Int)) (fun hp h=>(zd5 hp h).2.1) (fun i p acc hi hp ha=>by
  rw [zg4]
  have e:decide ((i:Int)<(N:Int))=true:=by simp; omega
  simp only [e,cond_true,zdn (n:=n) (lo:=1) (hi:=2) hp hS,parR]
  cases h1:oneR S p 1 2 with
  | inr e=>rfl
  | inl r =>
   obtain ⟨k,q⟩:=r
   obtain ⟨a1,a2,_⟩:=z4f hp h1
   have h2:=z59 (n:=n) (most:=64) hn a2 hS (by decide)
   rw [show ((64:Nat):Int)=64 from rfl] at h2
   simp only [Option.bind_some,sumE,h2]
   cases h3:numR S q 64 with
   | inr e=>rfl
   | inl r =>
    obtain ⟨m,r⟩:=r
    obtain ⟨b1,b2,b3,b4,_⟩:=z2c a2 h3
    have h4:=zdm (n:=n) (k:=m.toNat) b2 hS (by omega)
    rw [show ((m.toNat:Nat):Int)=m by omega] at h4
    simp only [Option.bind_some,sumE,h4]
    cases h5:z39 S r m.toNat with
    | inr e=>rfl
    | inl w =>
     obtain ⟨s,t⟩:=w
     obtain ⟨c1,c2,c3,c4⟩:=z46 h5 b2
     have h6:=z59 (n:=n) (most:=ANY) hn c4 hS (Nat.le_refl _)
     rw [zrp] at h6
     simp only [Option.bind_some,sumE,h6]
     cases h7:numR S t ANY with
     | inr e=>rfl
     | inl w =>
      obtain ⟨v,u⟩:=w
      simp only [Option.bind_some,sumE]
      rw [zh (by simp; omega),zz (by omega)]) (fun p acc=>by
  rw [zg4]
  have e:decide ((N:Int)<(N:Int))=false:=by simp
  simp only [e,cond_false]) N 0 p n [] (by omega) hNn hp rfl
 simp only [List.nil_append] at this
 rw [show ((0:Nat):Int)=0 from rfl] at this
 refine this.trans ?_
 cases z1d (parR S) N p <;> rfl
theorem y53 (hn:S.size<n) (hS:S.size≤BIG) {N:Nat} (hN:N≤100000) {l1:List Xa}:∀ {p:Nat},p≤S.size→N<n→iter (zdp n x ((N:Int),l1)) n ((0:Int),S,(p:Int),([]:List Xb))=some (match z1d (typR S) N p with | .inl (xs,q)=>.out ((N:Int),S,(q:Int),xs) | .inr e=>.ret e):=by
 intro p hp hNn
 have:=zgp (S:=S) (f:=typR S) (N:=N) (body:=zdp n x ((N:Int),l1)) (fun hp h=>(z7n hp h).2.1) (fun i p acc hi hp ha=>by
  rw [zg5]
  have e:decide ((i:Int)<(N:Int))=true:=by simp; omega
  simp only [e,cond_true,zng (n:=n) hn hp hS]
  cases h1:typR S p with
  | inr e =>
   simp only [Option.bind_some,sumE,zq4]
  | inl r =>
   obtain ⟨t,q⟩:=r
   simp only [Option.bind_some,sumE,zq4]
   rw [zh (by simp; omega),zz (by omega)]) (fun p acc=>by
  rw [zg5]
  have e:decide ((N:Int)<(N:Int))=false:=by simp
  simp only [e,cond_false]) N 0 p n [] (by omega) hNn hp rfl
 simp only [List.nil_append] at this
 rw [show ((0:Nat):Int)=0 from rfl] at this
 refine this.trans ?_
 cases z1d (typR S) N p <;> rfl
theorem y52 (hn:S.size+20<n) (hS:S.size≤BIG) {N:Nat} (hN:N≤100000) {l1:List Xa} {l2:List Xb}:∀ {p:Nat},p≤S.size→N<n→iter (zdq n x ((N:Int),l1,l2)) n ((0:Int),S,(p:Int),([]:List Xc))=some (match z1d (z3p S) N p with | .inl (xs,q)=>.out ((N:Int),S,(q:Int),xs) | .inr e=>.ret e):=by
 intro p hp hNn
 have:=zgp (S:=S) (f:=z3p S) (N:=N) (body:=zdq n x ((N:Int),l1,l2)) (fun hp h=>(z8q hp h).2.1) (fun i p acc hi hp ha=>by
  rw [zg6]
  have e:decide ((i:Int)<(N:Int))=true:=by simp; omega
  simp only [e,cond_true,zdn (n:=n) (lo:=0) (hi:=1) hp hS,z3p]
  cases h1:oneR S p 0 1 with
  | inr e=>rfl
  | inl r =>
   obtain ⟨k,q⟩:=r
   obtain ⟨a1,a2,_⟩:=z4f hp h1
   simp only [Option.bind_some,sumE,zng (n:=n) (by omega) a2 hS]
   cases h2:typR S q with
   | inr e=>rfl
   | inl r =>
    obtain ⟨t,r⟩:=r
    obtain ⟨b1,b2,_⟩:=z7n a2 h2
    simp only [Option.bind_some,sumE]
    by_cases hk:t.Kind_=2
    ·have e2:(t.Kind_==2)=true:=by simp [hk]
     have h3:=z59 (n:=n) (most:=ANY) (by omega) b2 hS (Nat.le_refl _)
     rw [zrp] at h3
     simp only [e2,cond_true,if_pos hk,h3]
     cases numR S r ANY with
     | inr e=>rfl
     | inl w =>
      obtain ⟨v,u⟩:=w
      simp only [Option.bind_some,sumE,orRet_inl]
      rw [zh (by simp; omega),zz (by omega)]
    ·have e2:(t.Kind_==2)=false:=by simp [hk]
     have h3:=zhq (n:=n) (k:=4) (by omega) b2 hS (by omega)
     rw [show ((4:Nat):Int)=4 from rfl] at h3
     simp only [e2,cond_false,if_neg hk,h3]
     cases valR S r 4 with
     | inr e=>rfl
     | inl w =>
      obtain ⟨v,u⟩:=w
      simp only [Option.bind_some,sumE,orRet_inl]
      rw [zh (by simp; omega),zz (by omega)]) (fun p acc=>by
  rw [zg6]
  have e:decide ((N:Int)<(N:Int))=false:=by simp
  simp only [e,cond_false]) N 0 p n [] (by omega) hNn hp rfl
 simp only [List.nil_append] at this
 rw [show ((0:Nat):Int)=0 from rfl] at this
 refine this.trans ?_
 cases z1d (z3p S) N p <;> rfl
theorem y51 (hn:S.size+20<n) (hS:S.size≤BIG) {N:Nat} (hN:N≤100000) {l1:List Xa} {l2:List Xb} {l3:List Xc}:∀ {p:Nat},p≤S.size→N<n→iter (zdr n x ((N:Int),l1,l2,l3)) n ((0:Int),S,(p:Int),([]:List Xd))=some (match z1d (z3m S) N p with | .inl (xs,q)=>.out ((N:Int),S,(q:Int),xs) | .inr e=>.ret e):=by
 intro p hp hNn
 have:=zgp (S:=S) (f:=z3m S) (N:=N) (body:=zdr n x ((N:Int),l1,l2,l3)) (fun hp h=>(zdw hp h).2.1) (fun i p acc hi hp ha=>by
  rw [zg7]
  have e:decide ((i:Int)<(N:Int))=true:=by simp; omega
  have e220:∀ y,f220 n y=some (off y.1,y):=fun y=>by
   obtain ⟨m,rfl⟩:∃ m,n=m+4:=⟨n - 4,by omega⟩
   exact y31 m y
  simp only [e,cond_true,zdn (n:=n) (lo:=1) (hi:=37) hp hS,z3m]
  cases h1:oneR S p 1 37 with
  | inr e=>rfl
  | inl r =>
   obtain ⟨op,q⟩:=r
   obtain ⟨a1,a2,_⟩:=z4f hp h1
   simp only [Option.bind_some,sumE,e220]
   have h2:=zct (n:=n) (S:=S) (x:=x) (v4:=((N:Int),l1,l2,l3)) (q4:=((i:Int),S,(p:Int),acc)) (bits:=0) (ks:=off op) (zgt op) (zpt op) (by omega) hS (off op) 0 q n ⟨op,0,0,0,0,0,0⟩ rfl (by omega) (by have:=zpt op; omega) a2 rfl
   rw [show ((0:Nat):Int)=0 from rfl] at h2
   simp only [h2]
   cases h3:z32 S (off op) q ⟨op,0,0,0,0,0,0⟩ with
   | inr e=>rfl
   | inl r =>
    obtain ⟨j,r⟩:=r
    obtain ⟨b1,b2,b3,b4,b5⟩:=z9n (zgt op) a2 (zmm op) h3
    simp only [Option.bind_some,Bo.then]
    by_cases hk:j.Op_=1
    ·have e2:(j.Op_==1)=true:=by simp [hk]
     have h4:=zhq (n:=n) (k:=4) (by omega) b2 hS (by omega)
     rw [show ((4:Nat):Int)=4 from rfl] at h4
     simp only [e2,cond_true,if_pos hk,h4]
     cases valR S r 4 with
     | inr e=>rfl
     | inl w =>
      obtain ⟨v,u⟩:=w
      simp only [Option.bind_some,sumE,orRet_inl]
      rw [zh (by simp; omega),zz (by omega)]
    ·have e2:(j.Op_==1)=false:=by simp [hk]
     have b4':j.Bits_=0:=b4
     simp only [e2,cond_false,if_neg hk,Option.bind_some,orRet_inl]
     rw [zh (by simp; omega),zz (by omega),← b4']) (fun p acc=>by
  rw [zg7]
  have e:decide ((N:Int)<(N:Int))=false:=by simp
  simp only [e,cond_false]) N 0 p n [] (by omega) hNn hp rfl
 simp only [List.nil_append] at this
 rw [show ((0:Nat):Int)=0 from rfl] at this
 refine this.trans ?_
 cases z1d (z3m S) N p <;> rfl
end
section
variable {n:Nat} {S:ByteArray} {x:Xf}
theorem zic {v1 i p e a:Int} {acc:List Xa} (he:e ≠ 0):z8g n x v1 (i,S,p,e,a,acc)=some (.out (i,S,p,e,a,acc)):=by
 have d:(e==0)=false:=by simpa using he
 rw [zbj]; simp only [d]
 cases decide (i<v1) <;> rfl
theorem zid {v:Int×List Xa} {i p e a:Int} {acc:List Xb} (he:e ≠ 0):z8h n x v (i,S,p,e,a,acc)=some (.out (i,S,p,e,a,acc)):=by
 have d:(e==0)=false:=by simpa using he
 rw [zbk]; simp only [d]
 cases decide (i<v.1) <;> rfl
theorem zie {v:Int×List Xa×List Xb} {i p e a:Int} {acc:List Xc} (he:e ≠ 0):z8i n x v (i,S,p,e,a,acc)=some (.out (i,S,p,e,a,acc)):=by
 have d:(e==0)=false:=by simpa using he
 rw [zbl]; simp only [d]
 cases decide (i<v.1) <;> rfl
theorem zif {v:Int×List Xa×List Xb×List Xc} {i p e a:Int} {acc:List Xd} (he:e ≠ 0):z8j n x v (i,S,p,e,a,acc)=some (.out (i,S,p,e,a,acc)):=by
 have d:(e==0)=false:=by simpa using he
 rw [zbm]; simp only [d]
 cases decide (i<v.1) <;> rfl
theorem y2v (hn:S.size+20<n) {p:Nat} (hp:p≤S.size) (hS:S.size≤BIG):∃ (q k v b i:Int) (t:Bool),f212 n (Rf S (p:Int) 0 0)=some (match z3p S p with | .inl (y,r)=>(S,(r:Int),0,0,y.Type_.Kind_,y.Type_.Param_,y.Keep_,y.Bits_,y.Int_) | .inr (e,a)=>(S,q,e,a,k,v,t,b,i)):=by
 have e213:f213 n (⟨#[]⟩:ByteArray)=some 0:=z8l (s:=⟨#[]⟩) (by decide) (by omega)
 obtain ⟨q1,h1⟩:=zdl (n:=n) (lo:=0) (hi:=1) hp hS
 rw [y2u,h1]
 unfold z3p
 cases h2:oneR S p 0 1 with
 | inr e =>
  obtain ⟨e,a⟩:=e
  have he:=z6x h2
  have e1:f211 n (Rf S q1 e a)=some (S,q1,e,a,0,0):=zy3 he
  have e2:f210 n (Rf S q1 e a,4)=some (⟨#[]⟩,S,q1,e,a):=z5s he
  simp only [Option.bind_some,e1,e2,e213]
  exact ⟨q1,0,0,0,0,false,rfl⟩
 | inl r =>
  obtain ⟨k,q⟩:=r
  obtain ⟨a1,a2,_⟩:=z4f hp h2
  obtain ⟨q2,k2,v2,h3⟩:=znf (n:=n) (by omega) a2 hS
  simp only [Option.bind_some,h3]
  cases h4:typR S q with
  | inr e =>
   obtain ⟨e,a⟩:=e
   have he:=zb5 h4
   have e1:f207 n (Rf S q2 e a,-1)=some (0,S,q2,e,a):=z8z (by omega) he
   have e2:f210 n (Rf S q2 e a,4)=some (⟨#[]⟩,S,q2,e,a):=z5s he
   simp only [e1,e2,Option.bind_some,e213]
   cases k2==2
   ·exact ⟨q2,k2,v2,0,0,(k==1),rfl⟩
   ·exact ⟨q2,k2,v2,0,0,(k==1),rfl⟩
  | inl r =>
   obtain ⟨t,r⟩:=r
   obtain ⟨b1,b2,_⟩:=z7n a2 h4
   by_cases hk:t.Kind_=2
   ·have e2:(t.Kind_==2)=true:=by simp [hk]
    obtain ⟨q3,h5⟩:=z58 (n:=n) (M:=ANY) (most:=-1) (.inr ⟨rfl,rfl⟩) (by omega) b2 hS
    simp only [e2,cond_true,if_pos hk,h5,Option.bind_some]
    cases numR S r ANY with
    | inr e=>exact ⟨q3,t.Kind_,t.Param_,0,0,(k==1),rfl⟩
    | inl w=>exact ⟨0,0,0,0,0,false,rfl⟩
   ·have e2:(t.Kind_==2)=false:=by simp [hk]
    have h5:=zam (n:=n) (k:=4) b2 hS (by omega)
    rw [show ((4:Nat):Int)=4 from rfl] at h5
    simp only [e2,cond_false,if_neg hk,h5,Option.bind_some]
    unfold valR
    cases hv:z39 S r 4 with
    | inr e =>
     simp only [e213,Option.bind_some]
     exact ⟨r,t.Kind_,t.Param_,0,0,(k==1),rfl⟩
    | inl w =>
     obtain ⟨s,w⟩:=w
     obtain ⟨c1,c2,c3,c4⟩:=z46 hv b2
     simp only [z8l (n:=n) (s:=s) (by omega) (by omega),Option.bind_some]
     exact ⟨0,0,0,0,0,false,trivial⟩
theorem y4z (hn:S.size+20<n) (hS:S.size≤BIG) {N:Nat} (hN:N≤100000) {p:Nat} (hp:p≤S.size) (hNn:N+1<n):∃ (j q:Int) (l:List Xa),iter (z8g n x (N:Int)) n ((0:Int),S,(p:Int),0,0,([]:List Xa))=some (.out (match z1d (parR S) N p with | .inl (xs,q)=>((N:Int),S,(q:Int),0,0,xs) | .inr (e,a)=>(j,S,q,e,a,l))):=by
 have:=zgo (S:=S) (f:=parR S) (N:=N) (body:=z8g n x (N:Int)) (fun hp h=>(zd5 hp h).2.1) (fun h=>zhv h) (fun i p acc hi hp ha=>by
  rw [zbj]
  have e:decide ((i:Int)<(N:Int))=true:=by simp; omega
  have nd:∀ (y:Xa) (P E A:Int),(need ((acc.length+([y]:List Xa).length) * 32≤140737488355328) (some (.go (IntKind.i64.wrap ((i:Int)+1),S,P,E,A,acc++[y]))):Option (Bo (Int×ByteArray×Int×Int×Int×List Xa) (Int×ByteArray×Int×Int×Int×List Xa) Empty))=some (.go (((i+1:Nat):Int),S,P,E,A,acc++[y])):=fun y P E A=>by
   rw [zh (by simp; omega),zz (by omega)]
  simp only [e,cond_true,beq_self_eq_true,Option.bind_some,orRet_inl,parR]
  obtain ⟨q1,h1⟩:=zdl (n:=n) (lo:=1) (hi:=2) hp hS
  simp only [h1]
  cases h2:oneR S p 1 2 with
  | inr e =>
   obtain ⟨e,a⟩:=e
   have he:=z6x h2
   have e1:∀ m,f207 n (Rf S q1 e a,m)=some (0,S,q1,e,a):=fun m=>z8z (by omega) he
   have e2:∀ k,f210 n (Rf S q1 e a,k)=some (⟨#[]⟩,S,q1,e,a):=fun k=>z5s he
   simp only [Option.bind_some,e1,e2]
   exact ⟨q1,_,nd _ _ _ _⟩
  | inl r =>
   obtain ⟨k,q⟩:=r
   obtain ⟨a1,a2,_⟩:=z4f hp h2
   obtain ⟨q2,h3⟩:=z58 (n:=n) (M:=64) (most:=64) (.inl rfl) (by omega) a2 hS
   simp only [Option.bind_some,h3]
   cases h4:numR S q 64 with
   | inr e =>
    obtain ⟨e,a⟩:=e
    have he:=z2w h4
    have e1:∀ m,f207 n (Rf S q2 e a,m)=some (0,S,q2,e,a):=fun m=>z8z (by omega) he
    have e2:∀ k,f210 n (Rf S q2 e a,k)=some (⟨#[]⟩,S,q2,e,a):=fun k=>z5s he
    simp only [Option.bind_some,e1,e2]
    exact ⟨q2,_,nd _ _ _ _⟩
   | inl r =>
    obtain ⟨m,r⟩:=r
    obtain ⟨b1,b2,b3,b4,_⟩:=z2c a2 h4
    have h5:=zam (n:=n) (k:=m.toNat) b2 hS (by omega)
    rw [show ((m.toNat:Nat):Int)=m by omega] at h5
    simp only [Option.bind_some,h5]
    cases h6:z39 S r m.toNat with
    | inr e =>
     obtain ⟨e,a⟩:=e
     have he:=zcc h6
     have e1:∀ m,f207 n (Rf S (r:Int) e a,m)=some (0,S,(r:Int),e,a):=fun m=>z8z (by omega) he
     simp only [Option.bind_some,e1]
     exact ⟨r,_,nd _ _ _ _⟩
    | inl w =>
     obtain ⟨s,t⟩:=w
     obtain ⟨c1,c2,c3,c4⟩:=z46 h6 b2
     obtain ⟨q3,h7⟩:=z58 (n:=n) (M:=ANY) (most:=-1) (.inr ⟨rfl,rfl⟩) (by omega) c4 hS
     simp only [Option.bind_some,h7]
     cases h8:numR S t ANY with
     | inr e=>exact ⟨q3,_,nd _ _ _ _⟩
     | inl w=>exact ⟨0,[],nd _ _ _ _⟩) (fun i p e a acc he=>zic he) (fun p acc=>by
  rw [zbj]
  have e:decide ((N:Int)<(N:Int))=false:=by simp
  simp only [e,cond_false,Option.bind_some,orRet_inl]) N 0 p n [] (by omega) hNn hp rfl
 simp only [List.nil_append] at this
 rw [show ((0:Nat):Int)=0 from rfl] at this
 obtain ⟨j,q,l,h⟩:=this
 refine ⟨j,q,l,h.trans ?_⟩
 cases z1d (parR S) N p <;> rfl
theorem y4y (hn:S.size+20<n) (hS:S.size≤BIG) {N:Nat} (hN:N≤100000) {l1:List Xa} {p:Nat} (hp:p≤S.size) (hNn:N+1<n):∃ (j q:Int) (l:List Xb),iter (z8h n x ((N:Int),l1)) n ((0:Int),S,(p:Int),0,0,([]:List Xb))=some (.out (match z1d (typR S) N p with | .inl (xs,q)=>((N:Int),S,(q:Int),0,0,xs) | .inr (e,a)=>(j,S,q,e,a,l))):=by
 have:=zgo (S:=S) (f:=typR S) (N:=N) (body:=z8h n x ((N:Int),l1)) (fun hp h=>(z7n hp h).2.1) (fun h=>zb5 h) (fun i p acc hi hp ha=>by
  rw [zbk]
  have e:decide ((i:Int)<(N:Int))=true:=by simp; omega
  obtain ⟨q1,k1,v1,h1⟩:=znf (n:=n) (by omega) hp hS
  simp only [e,cond_true,beq_self_eq_true,Option.bind_some,orRet_inl,h1]
  rw [zh (by simp; omega),zz (by omega)]
  cases typR S p with
  | inr e=>exact ⟨q1,_,rfl⟩
  | inl r=>exact ⟨0,[],rfl⟩) (fun i p e a acc he=>zid he) (fun p acc=>by
  rw [zbk]
  have e:decide ((N:Int)<(N:Int))=false:=by simp
  simp only [e,cond_false,Option.bind_some,orRet_inl]) N 0 p n [] (by omega) hNn hp rfl
 simp only [List.nil_append] at this
 rw [show ((0:Nat):Int)=0 from rfl] at this
 obtain ⟨j,q,l,h⟩:=this
 refine ⟨j,q,l,h.trans ?_⟩
 cases z1d (typR S) N p <;> rfl
theorem y4x (hn:S.size+20<n) (hS:S.size≤BIG) {N:Nat} (hN:N≤100000) {l1:List Xa} {l2:List Xb} {p:Nat} (hp:p≤S.size) (hNn:N+1<n):∃ (j q:Int) (l:List Xc),iter (z8i n x ((N:Int),l1,l2)) n ((0:Int),S,(p:Int),0,0,([]:List Xc))=some (.out (match z1d (z3p S) N p with | .inl (xs,q)=>((N:Int),S,(q:Int),0,0,xs) | .inr (e,a)=>(j,S,q,e,a,l))):=by
 have:=zgo (S:=S) (f:=z3p S) (N:=N) (body:=z8i n x ((N:Int),l1,l2)) (fun hp h=>(z8q hp h).2.1) (fun h=>zf6 h) (fun i p acc hi hp ha=>by
  rw [zbl]
  have e:decide ((i:Int)<(N:Int))=true:=by simp; omega
  obtain ⟨q1,k1,v1,b1,i1,t1,h1⟩:=y2v hn hp hS
  simp only [e,cond_true,beq_self_eq_true,Option.bind_some,orRet_inl,h1]
  rw [zh (by simp; omega),zz (by omega)]
  cases z3p S p with
  | inr e=>exact ⟨q1,_,rfl⟩
  | inl r=>exact ⟨0,[],rfl⟩) (fun i p e a acc he=>zie he) (fun p acc=>by
  rw [zbl]
  have e:decide ((N:Int)<(N:Int))=false:=by simp
  simp only [e,cond_false,Option.bind_some,orRet_inl]) N 0 p n [] (by omega) hNn hp rfl
 simp only [List.nil_append] at this
 rw [show ((0:Nat):Int)=0 from rfl] at this
 obtain ⟨j,q,l,h⟩:=this
 refine ⟨j,q,l,h.trans ?_⟩
 cases z1d (z3p S) N p <;> rfl
theorem y4w (hn:S.size+20<n) (hS:S.size≤BIG) {N:Nat} (hN:N≤100000) {l1:List Xa} {l2:List Xb} {l3:List Xc} {p:Nat} (hp:p≤S.size) (hNn:N+1<n):∃ (j q:Int) (l:List Xd),iter (z8j n x ((N:Int),l1,l2,l3)) n ((0:Int),S,(p:Int),0,0,([]:List Xd))=some (.out (match z1d (z3m S) N p with | .inl (xs,q)=>((N:Int),S,(q:Int),0,0,xs) | .inr (e,a)=>(j,S,q,e,a,l))):=by
 have:=zgo (S:=S) (f:=z3m S) (N:=N) (body:=z8j n x ((N:Int),l1,l2,l3)) (fun hp h=>(zdw hp h).2.1) (fun h=>zlo h) (fun i p acc hi hp ha=>by
  rw [zbm]
  have e:decide ((i:Int)<(N:Int))=true:=by simp; omega
  obtain ⟨q1,i1,h1⟩:=y2y hn hp hS
  simp only [e,cond_true,beq_self_eq_true,Option.bind_some,orRet_inl,h1]
  rw [zh (by simp; omega),zz (by omega)]
  cases z3m S p with
  | inr e=>exact ⟨q1,_,rfl⟩
  | inl r=>exact ⟨0,[],rfl⟩) (fun i p e a acc he=>zif he) (fun p acc=>by
  rw [zbm]
  have e:decide ((N:Int)<(N:Int))=false:=by simp
  simp only [e,cond_false,Option.bind_some,orRet_inl]) N 0 p n [] (by omega) hNn hp rfl
 simp only [List.nil_append] at this
 rw [show ((0:Nat):Int)=0 from rfl] at this
 obtain ⟨j,q,l,h⟩:=this
 refine ⟨j,q,l,h.trans ?_⟩
 cases z1d (z3m S) N p <;> rfl
end
def z6b (S:ByteArray) (p:Nat):Rd Xe:=match numR S p 64 with
 | .inr e=>.inr e
 | .inl (n1,p1)=>match z1d (parR S) n1.toNat p1 with
  | .inr e=>.inr e
  | .inl (l1,q1)=>match numR S q1 16384 with
   | .inr e=>.inr e
   | .inl (n2,p2)=>match z1d (typR S) n2.toNat p2 with
    | .inr e=>.inr e
    | .inl (l2,q2)=>match numR S q2 4096 with
     | .inr e=>.inr e
     | .inl (n3,p3)=>match z1d (z3p S) n3.toNat p3 with
      | .inr e=>.inr e
      | .inl (l3,q3)=>match numR S q3 32768 with
       | .inr e=>.inr e
       | .inl (n4,p4)=>match z1d (z3m S) n4.toNat p4 with
        | .inr e=>.inr e
        | .inl (l4,q4)=>.inl (⟨l1,l2,l3,l4⟩,q4)
theorem y3a {n:Nat} {S:ByteArray} {p:Nat} (hn:S.size+100000<n) (hp:p≤S.size) (hS:S.size≤BIG):f227 n (S,(p:Int))=some (match z6b S p with | .inl (c,q)=>.inl (S,(q:Int),c.Sign_,c.Regs_,c.Slots_,c.List_) | .inr e=>.inr e):=by
 rw [y39]
 unfold z6b
 have h1:=z59 (n:=n) (most:=64) (by omega) hp hS (by decide)
 rw [show ((64:Nat):Int)=64 from rfl] at h1
 simp only [h1]
 cases k1:numR S p 64 with
 | inr e=>rfl
 | inl r =>
  obtain ⟨n1,p1⟩:=r
  obtain ⟨a1,a2,a3,a4,_⟩:=z2c hp k1
  have h2:=y54 (n:=n) (x:=(S,(p:Int))) (by omega) hS (N:=n1.toNat) (by omega) a2 (by omega)
  rw [show ((n1.toNat:Nat):Int)=n1 by omega] at h2
  simp only [Option.bind_some,sumE,h2]
  cases k2:z1d (parR S) n1.toNat p1 with
  | inr e=>rfl
  | inl r =>
   obtain ⟨l1,q1⟩:=r
   obtain ⟨b1,_⟩:=z41 (Q:=fun _=>True) (fun hp h=>⟨(zd5 hp h).2.1,trivial⟩) a2 k2
   have h3:=z59 (n:=n) (most:=16384) (by omega) b1 hS (by decide)
   rw [show ((16384:Nat):Int)=16384 from rfl] at h3
   simp only [Option.bind_some,Bo.then,h3]
   cases k3:numR S q1 16384 with
   | inr e=>rfl
   | inl r =>
    obtain ⟨n2,p2⟩:=r
    obtain ⟨c1,c2,c3,c4,_⟩:=z2c b1 k3
    have h4:=y53 (n:=n) (x:=(S,(p:Int))) (by omega) hS (N:=n2.toNat) (by omega) (l1:=l1) c2 (by omega)
    rw [show ((n2.toNat:Nat):Int)=n2 by omega] at h4
    simp only [Option.bind_some,sumE,h4]
    cases k4:z1d (typR S) n2.toNat p2 with
    | inr e=>rfl
    | inl r =>
     obtain ⟨l2,q2⟩:=r
     obtain ⟨d1,_⟩:=z41 (Q:=fun _=>True) (fun hp h=>⟨(z7n hp h).2.1,trivial⟩) c2 k4
     have h5:=z59 (n:=n) (most:=4096) (by omega) d1 hS (by decide)
     rw [show ((4096:Nat):Int)=4096 from rfl] at h5
     simp only [Option.bind_some,Bo.then,h5]
     cases k5:numR S q2 4096 with
     | inr e=>rfl
     | inl r =>
      obtain ⟨n3,p3⟩:=r
      obtain ⟨e1,e2,e3,e4,_⟩:=z2c d1 k5
      have h6:=y52 (n:=n) (x:=(S,(p:Int))) (by omega) hS (N:=n3.toNat) (by omega) (l1:=l1) (l2:=l2) e2 (by omega)
      rw [show ((n3.toNat:Nat):Int)=n3 by omega] at h6
      simp only [Option.bind_some,sumE,h6]
      cases k6:z1d (z3p S) n3.toNat p3 with
      | inr e=>rfl
      | inl r =>
       obtain ⟨l3,q3⟩:=r
       obtain ⟨ff1,_⟩:=z41 (Q:=fun _=>True) (fun hp h=>⟨(z8q hp h).2.1,trivial⟩) e2 k6
       have h7:=z59 (n:=n) (most:=32768) (by omega) ff1 hS (by decide)
       rw [show ((32768:Nat):Int)=32768 from rfl] at h7
       simp only [Option.bind_some,Bo.then,h7]
       cases k7:numR S q3 32768 with
       | inr e=>rfl
       | inl r =>
        obtain ⟨n4,p4⟩:=r
        obtain ⟨g1,g2,g3,g4,_⟩:=z2c ff1 k7
        have h8:=y51 (n:=n) (x:=(S,(p:Int))) (by omega) hS (N:=n4.toNat) (by omega) (l1:=l1) (l2:=l2) (l3:=l3) g2 (by omega)
        rw [show ((n4.toNat:Nat):Int)=n4 by omega] at h8
        simp only [Option.bind_some,sumE,h8]
        cases k8:z1d (z3m S) n4.toNat p4 with
        | inr e=>rfl
        | inl r=>rfl
theorem y2t {n:Nat} {S:ByteArray} {p:Nat} (hn:S.size+100020<n) (hp:p≤S.size) (hS:S.size≤BIG):∃ (q:Int) (j1:List Xa) (j2:List Xb) (j3:List Xc) (j4:List Xd),f206 n (Rf S (p:Int) 0 0)=some (match z6b S p with | .inl (c,r)=>(S,(r:Int),0,0,c.Sign_,c.Regs_,c.Slots_,c.List_) | .inr (e,a)=>(S,q,e,a,j1,j2,j3,j4)):=by
 have E7:∀ {q e a m:Int},e ≠ 0→f207 n (Rf S q e a,m)=some (0,S,q,e,a):=fun he=>z8z (by omega) he
 have L1:∀ {x:Xf} {v i q e a:Int} {l:List Xa},e ≠ 0→iter (z8g n x v) n (i,S,q,e,a,l)=some (.out (i,S,q,e,a,l)):=fun he=>z9t (by omega) (zic he)
 have L2:∀ {x:Xf} {v:Int×List Xa} {i q e a:Int} {l:List Xb},e ≠ 0→iter (z8h n x v) n (i,S,q,e,a,l)=some (.out (i,S,q,e,a,l)):=fun he=>z9t (by omega) (zid he)
 have L3:∀ {x:Xf} {v:Int×List Xa×List Xb} {i q e a:Int} {l:List Xc},e ≠ 0→iter (z8i n x v) n (i,S,q,e,a,l)=some (.out (i,S,q,e,a,l)):=fun he=>z9t (by omega) (zie he)
 have L4:∀ {x:Xf} {v:Int×List Xa×List Xb×List Xc} {i q e a:Int} {l:List Xd},e ≠ 0→iter (z8j n x v) n (i,S,q,e,a,l)=some (.out (i,S,q,e,a,l)):=fun he=>z9t (by omega) (zif he)
 rw [y2s]
 unfold z6b
 obtain ⟨u1,h1⟩:=z58 (n:=n) (M:=64) (most:=64) (.inl rfl) (by omega) hp hS
 simp only [h1]
 cases k1:numR S p 64 with
 | inr e =>
  obtain ⟨e,a⟩:=e
  have he:=z2w k1
  simp only [Option.bind_some,Bo.then,E7 he,L1 he,L2 he,L3 he,L4 he]
  exact ⟨u1,[],[],[],[],rfl⟩
 | inl r =>
  obtain ⟨n1,p1⟩:=r
  obtain ⟨a1,a2,a3,a4,_⟩:=z2c hp k1
  obtain ⟨z1,u2,l1',h2⟩:=y4z (n:=n) (x:=Rf S (p:Int) 0 0) (by omega) hS (N:=n1.toNat) (by omega) a2 (by omega)
  rw [show ((n1.toNat:Nat):Int)=n1 by omega] at h2
  simp only [Option.bind_some,h2]
  cases k2:z1d (parR S) n1.toNat p1 with
  | inr e =>
   obtain ⟨e,a⟩:=e
   have he:=z4w (fun h=>zhv h) k2
   simp only [Option.bind_some,Bo.then,E7 he,L2 he,L3 he,L4 he]
   exact ⟨u2,l1',[],[],[],rfl⟩
  | inl r =>
   obtain ⟨l1,q1⟩:=r
   obtain ⟨b1,_⟩:=z41 (Q:=fun _=>True) (fun hp h=>⟨(zd5 hp h).2.1,trivial⟩) a2 k2
   obtain ⟨u3,h3⟩:=z58 (n:=n) (M:=16384) (most:=16384) (.inl rfl) (by omega) b1 hS
   simp only [Option.bind_some,Bo.then,h3]
   cases k3:numR S q1 16384 with
   | inr e =>
    obtain ⟨e,a⟩:=e
    have he:=z2w k3
    simp only [Option.bind_some,Bo.then,E7 he,L2 he,L3 he,L4 he]
    exact ⟨u3,l1,[],[],[],rfl⟩
   | inl r =>
    obtain ⟨n2,p2⟩:=r
    obtain ⟨c1,c2,c3,c4,_⟩:=z2c b1 k3
    obtain ⟨z2,u4,l2',h4⟩:=y4y (n:=n) (x:=Rf S (p:Int) 0 0) (by omega) hS (N:=n2.toNat) (by omega) (l1:=l1) c2 (by omega)
    rw [show ((n2.toNat:Nat):Int)=n2 by omega] at h4
    simp only [Option.bind_some,h4]
    cases k4:z1d (typR S) n2.toNat p2 with
    | inr e =>
     obtain ⟨e,a⟩:=e
     have he:=z4w (fun h=>zb5 h) k4
     simp only [Option.bind_some,Bo.then,E7 he,L3 he,L4 he]
     exact ⟨u4,l1,l2',[],[],rfl⟩
    | inl r =>
     obtain ⟨l2,q2⟩:=r
     obtain ⟨d1,_⟩:=z41 (Q:=fun _=>True) (fun hp h=>⟨(z7n hp h).2.1,trivial⟩) c2 k4
     obtain ⟨u5,h5⟩:=z58 (n:=n) (M:=4096) (most:=4096) (.inl rfl) (by omega) d1 hS
     simp only [Option.bind_some,Bo.then,h5]
     cases k5:numR S q2 4096 with
     | inr e =>
      obtain ⟨e,a⟩:=e
      have he:=z2w k5
      simp only [Option.bind_some,Bo.then,E7 he,L3 he,L4 he]
      exact ⟨u5,l1,l2,[],[],rfl⟩
     | inl r =>
      obtain ⟨n3,p3⟩:=r
      obtain ⟨e1,e2,e3,e4,_⟩:=z2c d1 k5
      obtain ⟨z3,u6,l3',h6⟩:=y4x (n:=n) (x:=Rf S (p:Int) 0 0) (by omega) hS (N:=n3.toNat) (by omega) (l1:=l1) (l2:=l2) e2 (by omega)
      rw [show ((n3.toNat:Nat):Int)=n3 by omega] at h6
      simp only [Option.bind_some,h6]
      cases k6:z1d (z3p S) n3.toNat p3 with
      | inr e =>
       obtain ⟨e,a⟩:=e
       have he:=z4w (fun h=>zf6 h) k6
       simp only [Option.bind_some,Bo.then,E7 he,L4 he]
       exact ⟨u6,l1,l2,l3',[],rfl⟩
      | inl r =>
       obtain ⟨l3,q3⟩:=r
       obtain ⟨ff1,_⟩:=z41 (Q:=fun _=>True) (fun hp h=>⟨(z8q hp h).2.1,trivial⟩) e2 k6
       obtain ⟨u7,h7⟩:=z58 (n:=n) (M:=32768) (most:=32768) (.inl rfl) (by omega) ff1 hS
       simp only [Option.bind_some,Bo.then,h7]
       cases k7:numR S q3 32768 with
       | inr e =>
        obtain ⟨e,a⟩:=e
        have he:=z2w k7
        simp only [Option.bind_some,Bo.then,E7 he,L4 he]
        exact ⟨u7,l1,l2,l3,[],rfl⟩
       | inl r =>
        obtain ⟨n4,p4⟩:=r
        obtain ⟨g1,g2,g3,g4,_⟩:=z2c ff1 k7
        obtain ⟨z4,u8,l4',h8⟩:=y4w (n:=n) (x:=Rf S (p:Int) 0 0) (by omega) hS (N:=n4.toNat) (by omega) (l1:=l1) (l2:=l2) (l3:=l3) g2 (by omega)
        rw [show ((n4.toNat:Nat):Int)=n4 by omega] at h8
        simp only [Option.bind_some,h8]
        cases k8:z1d (z3m S) n4.toNat p4 with
        | inr e =>
         obtain ⟨e,a⟩:=e
         simp only [Option.bind_some,Bo.then]
         exact ⟨u8,l1,l2,l3,l4',rfl⟩
        | inl r=>exact ⟨0,[],[],[],[],rfl⟩
theorem zhe {S:ByteArray} {p q:Nat} {c:Xe} (hp:p≤S.size) (h:z6b S p = .inl (c,q)):q≤S.size∧U32s c∧(∀ i ∈ c.List_,zad i)∧c.Sign_.length≤64∧c.Regs_.length≤16384∧c.Slots_.length≤4096∧c.List_.length≤32768:=by
 unfold z6b at h
 split at h
 ·cases h
 ·rename_i n1 p1 k1
  obtain ⟨a1,a2,a3,a4,_⟩:=z2c hp k1
  split at h
  ·cases h
  ·rename_i l1 q1 k2
   obtain ⟨b1,b2,_⟩:=z41 (Q:=fun _=>True) (fun hp h=>⟨(zd5 hp h).2.1,trivial⟩) a2 k2
   split at h
   ·cases h
   ·rename_i n2 p2 k3
    obtain ⟨c1,c2,c3,c4,_⟩:=z2c b1 k3
    split at h
    ·cases h
    ·rename_i l2 q2 k4
     obtain ⟨d1,d2,_⟩:=z41 (Q:=fun _=>True) (fun hp h=>⟨(z7n hp h).2.1,trivial⟩) c2 k4
     split at h
     ·cases h
     ·rename_i n3 p3 k5
      obtain ⟨e1,e2,e3,e4,_⟩:=z2c d1 k5
      split at h
      ·cases h
      ·rename_i l3 q3 k6
       obtain ⟨ff1,ff2,ff3⟩:=z41 (Q:=fun x:Xc=>0≤x.Bits_∧x.Bits_<4294967296) (fun hp h=>⟨(z8q hp h).2.1,(z8q hp h).2.2.2⟩) e2 k6
       split at h
       ·cases h
       ·rename_i n4 p4 k7
        obtain ⟨g1,g2,g3,g4,_⟩:=z2c ff1 k7
        split at h
        ·cases h
        ·rename_i l4 q4 k8
         obtain ⟨i1,i2,i3⟩:=z41 (Q:=fun x:Xd=>zad x∧0≤x.Bits_∧x.Bits_<4294967296) (fun hp h=>⟨(zdw hp h).2.1,(zdw hp h).2.2⟩) g2 k8
         cases h
         refine ⟨i1,⟨ff3,fun i hi=>(i3 i hi).2⟩,fun i hi=>(i3 i hi).1,?_,?_,?_,?_⟩
         ·show l1.length≤64; omega
         ·show l2.length≤16384; omega
         ·show l3.length≤4096; omega
         ·show l4.length≤32768; omega
theorem zki {S:ByteArray} {p:Nat} {e a:Int} (h:z6b S p = .inr (e,a)):e ≠ 0:=by
 unfold z6b at h
 split at h
 ·rename_i e' k; cases h; exact z2w k
 ·split at h
  ·rename_i e' k; cases h; exact z4w (fun h=>zhv h) k
  ·split at h
   ·rename_i e' k; cases h; exact z2w k
   ·split at h
    ·rename_i e' k; cases h; exact z4w (fun h=>zb5 h) k
    ·split at h
     ·rename_i e' k; cases h; exact z2w k
     ·split at h
      ·rename_i e' k; cases h; exact z4w (fun h=>zf6 h) k
      ·split at h
       ·rename_i e' k; cases h; exact z2w k
       ·split at h
        ·rename_i e' k; cases h; exact z4w (fun h=>zlo h) k
        ·cases h
abbrev zq6:=Int×Int×List Xa×List Xb×List Xc×List Xd
def no24 (e a:Int):zq6:=(e,a,[],[],[],[])
abbrev mn4 (S:ByteArray):Int:=if (4:Int)<(S.size:Int) then (4:Int) else (S.size:Int)
def zag (S:ByteArray):Bool:=!((S.extract 0 (mn4 S).toNat)==((⟨#[108,116,104,49]⟩:ByteArray).extract 0 (mn4 S).toNat))
def decR (S:ByteArray):zq6 :=
 if zag S=true then no24 240 0 else if S.size<4 then no24 242 0 else match z6b S 4 with
  | .inr (e,a)=>no24 e a
  | .inl (c,p)=>match valR S p 8 with
   | .inr (e,a)=>no24 e a
   | .inl (v,q)=>if (v:Int) ≠ crcL ((bytesOf S).take p) then no24 241 p else if q<S.size then no24 244 q else
    if (chk c).1 ≠ 0 then no24 (chk c).1 0 else (0,0,c.Sign_,c.Regs_,c.Slots_,c.List_)
theorem zwv (S:ByteArray):0≤mn4 S∧mn4 S≤(S.size:Int)∧mn4 S≤4:=by
 unfold mn4
 split <;> omega
theorem zbe {S:ByteArray} {p:Nat}:bytesOf (S.extract 0 p)=(bytesOf S).take p:=by rw [z4m,List.drop_zero]
theorem y3c {n:Nat} {S:ByteArray} (hn:S.size+10000000<n) (hS:S.size≤BIG):f228 n S=some (decR S):=by
 obtain ⟨m1,m2,m3⟩:=zwv S
 have hS':S.size≤4611686018427387904:=hS
 rw [y3b,y3d,zh ⟨m1,m2⟩,zh (by refine ⟨m1,?_⟩; show mn4 S≤((4:Nat):Int); omega)]
 show (Option.bind (bif zag S then _ else _) _)=_
 unfold decR
 cases hb:zag S with
 | true=>rfl
 | false =>
  simp only [cond_false]
  have h1:=zdm (n:=n) (S:=S) (p:=0) (k:=4) (by omega) hS (by omega)
  rw [show ((4:Nat):Int)=4 from rfl,show ((0:Nat):Int)=0 from rfl] at h1
  simp only [h1]
  unfold z39
  by_cases h4:S.size<4
  ·rw [if_pos (show S.size - 0<4 by omega)]
   simp only [if_pos h4]
   rfl
  ·rw [if_neg (show ¬ S.size - 0<4 by omega)]
   simp only [if_neg h4,Option.bind_some,sumE,Bool.false_eq_true,if_false]
   have h2:=y3a (n:=n) (S:=S) (p:=4) (by omega) (by omega) hS
   simp only [Nat.zero_add,h2]
   cases hc:z6b S 4 with
   | inr e =>
    obtain ⟨e,a⟩:=e
    have he:(e != 0)=true:=by simpa using zki hc
    simp only [Option.bind_some,sumE,he,cond_true]
    rfl
   | inl r =>
    obtain ⟨c,p⟩:=r
    obtain ⟨c1,c2,c3,c4,c5,c6,c7⟩:=zhe (by omega) hc
    have h3:=zhq (n:=n) (S:=S) (p:=p) (k:=8) (by omega) c1 hS (by omega)
    rw [show ((8:Nat):Int)=8 from rfl] at h3
    simp only [Option.bind_some,sumE,h3]
    cases hv:valR S p 8 with
    | inr e =>
     obtain ⟨e,a⟩:=e
     have he:(e != 0)=true:=by simpa using zi1 hv
     simp only [Option.bind_some,sumE,he,cond_true]
     rfl
    | inl r =>
     obtain ⟨v,q⟩:=r
     obtain ⟨d1,d2,d3,d4⟩:=zml c1 hv
     simp only [Option.bind_some,sumE,Int.toNat_natCast]
     have hsz:(S.extract 0 p).size≤S.size:=by rw [← zv,zbe,List.length_take,zv]; omega
     rw [zh (by omega),y2p (by omega) (by omega),zbe]
     simp only [Option.bind_some]
     by_cases hx:(v:Int)=crcL ((bytesOf S).take p)
     ·have e1:((v:Int) != crcL ((bytesOf S).take p))=false:=by simp [hx]
      rw [e1,if_neg (fun h=>h hx),cond_false]
      by_cases hq:q<S.size
      ·have e2:decide ((q:Int)<(S.size:Int))=true:=by simp; omega
       rw [e2,if_pos hq]; rfl
      ·have e2:decide ((q:Int)<(S.size:Int))=false:=by simp; omega
       rw [e2,if_neg hq]
       have eC:(⟨c.Sign_,c.Regs_,c.Slots_,c.List_⟩:Xe)=c:=rfl
       simp only [cond_false,Option.bind_some,bne_self_eq_false,eC,(zkh (n:=n) (c:=c) (by omega) c2.1 c2.2).1]
       by_cases hk:(chk c).1=0
       ·have e3:((chk c).1 != 0)=false:=by simp [hk]
        rw [e3,if_neg (fun h=>h hk)]; rfl
       ·have e3:((chk c).1 != 0)=true:=by simp [hk]
        rw [e3,if_pos hk]; rfl
     ·have e1:((v:Int) != crcL ((bytesOf S).take p))=true:=by simp [hx]
      rw [e1,if_pos hx]; rfl
theorem y2r {n:Nat} {S:ByteArray} (hn:S.size+10000000<n) (hS:S.size≤BIG):f205 n S=some (decR S):=by
 obtain ⟨m1,m2,m3⟩:=zwv S
 have hS':S.size≤4611686018427387904:=hS
 rw [y2q,zh ⟨m1,m2⟩,zh (by refine ⟨m1,?_⟩; show mn4 S≤((4:Nat):Int); omega)]
 show (bif zag S then _ else _)=_
 unfold decR
 cases hb:zag S with
 | true=>rfl
 | false =>
  simp only [cond_false]
  by_cases h4:S.size<4
  ·have e:decide (mn4 S<4)=true:=by simp; unfold mn4; split <;> omega
   show (bif decide (mn4 S<4) then _ else _)=_
   rw [e]
   simp only [if_pos h4]
   rfl
  ·have e:decide (mn4 S<4)=false:=by simp; unfold mn4; split <;> omega
   show (bif decide (mn4 S<4) then _ else _)=_
   rw [e]
   simp only [if_neg h4,cond_false,Bool.false_eq_true,if_false]
   have e208:∀ (P E A e a:Int),f208 n (Rf S P E A,e,a)=some (if E=0 then (S,P,e,a) else (S,P,E,A)):=fun P E A e a=>by
    rw [znb]
    by_cases h0:E=0
    ·subst h0; rfl
    ·have:(E==0)=false:=by simpa using h0
     rw [if_neg h0]
     simp only [this,cond_false,Option.bind_some,orRet_inl]
   obtain ⟨u1,j1,j2,j3,j4,h2⟩:=y2t (n:=n) (S:=S) (p:=4) (by omega) (by omega) hS
   rw [show ((4:Nat):Int)=4 from rfl] at h2
   simp only [h2]
   cases hc:z6b S 4 with
   | inr e =>
    obtain ⟨e,a⟩:=e
    have he:=zki hc
    have he1:(e != 0)=true:=by simpa using he
    have he2:(e==0)=false:=by simpa using he
    have e10:f210 n (Rf S u1 e a,8)=some (⟨#[]⟩,S,u1,e,a):=z5s he
    simp only [Option.bind_some,e10,he2,cond_false,orRet_inl,he1,cond_true]
    rfl
   | inl r =>
    obtain ⟨c,p⟩:=r
    obtain ⟨c1,c2,c3,c4,c5,c6,c7⟩:=zhe (by omega) hc
    have h3:=zam (n:=n) (S:=S) (p:=p) (k:=8) c1 hS (by omega)
    rw [show ((8:Nat):Int)=8 from rfl] at h3
    simp only [Option.bind_some,h3]
    unfold valR
    cases hv:z39 S p 8 with
    | inr e =>
     obtain ⟨e,a⟩:=e
     have he:=zcc hv
     have he1:(e != 0)=true:=by simpa using he
     have he2:(e==0)=false:=by simpa using he
     simp only [Option.bind_some,he2,cond_false,orRet_inl,he1,cond_true]
     rfl
    | inl r =>
     obtain ⟨s,q⟩:=r
     obtain ⟨d1,d2,d3,d4⟩:=z46 hv c1
     have hsz:(S.extract 0 p).size≤S.size:=by rw [← zv,zbe,List.length_take,zv]; omega
     simp only [Option.bind_some,z8l (n:=n) (s:=s) (by omega) (by omega),Int.toNat_natCast,beq_self_eq_true,cond_true]
     rw [zh (by omega),zn9 (by omega) (by omega),zbe]
     simp only [Option.bind_some,orRet_inl]
     by_cases hx:((valL (bytesOf s):Nat):Int)=crcL ((bytesOf S).take p)
     ·have e1:(((valL (bytesOf s):Nat):Int) != crcL ((bytesOf S).take p))=false:=by simp [hx]
      rw [if_neg (fun h=>h hx)]
      simp only [e1,cond_false,Option.bind_some,orRet_inl,beq_self_eq_true,cond_true]
      by_cases hq:q<S.size
      ·have e2:decide ((q:Int)<(S.size:Int))=true:=by simp; omega
       rw [if_pos hq]
       simp only [e2,cond_true,e208,if_true,Option.bind_some,orRet_inl]
       rfl
      ·have e2:decide ((q:Int)<(S.size:Int))=false:=by simp; omega
       rw [if_neg hq]
       have eC:(⟨c.Sign_,c.Regs_,c.Slots_,c.List_⟩:Xe)=c:=rfl
       simp only [e2,cond_false,Option.bind_some,orRet_inl,bne_self_eq_false,eC,(zkh (n:=n) (c:=c) (by omega) c2.1 c2.2).2]
       by_cases hk:(chk c).1=0
       ·have e3:((chk c).1 != 0)=false:=by simp [hk]
        rw [e3,if_neg (fun h=>h hk)]; rfl
       ·have e3:((chk c).1 != 0)=true:=by simp [hk]
        rw [e3,if_pos hk]; rfl
     ·have e1:(((valL (bytesOf s):Nat):Int) != crcL ((bytesOf S).take p))=true:=by simp [hx]
      rw [if_pos hx]
      have e5:((241:Int)==0)=false:=rfl
      have e6:((241:Int) != 0)=true:=rfl
      simp only [e1,cond_true,e208,if_true,Option.bind_some,orRet_inl,e5,e6,cond_false]
      rfl
abbrev z70 (a:zq6):Xe:=⟨a.2.2.1,a.2.2.2.1,a.2.2.2.2.1,a.2.2.2.2.2⟩
theorem zxx (S:ByteArray):(z70 (decR S)).Sign_.length≤64∧(z70 (decR S)).Regs_.length≤16384∧(z70 (decR S)).Slots_.length≤4096∧(z70 (decR S)).List_.length≤32768:=by
 have z:∀ e a,(z70 (no24 e a)).Sign_.length≤64∧(z70 (no24 e a)).Regs_.length≤16384∧(z70 (no24 e a)).Slots_.length≤4096∧(z70 (no24 e a)).List_.length≤32768:=fun e a=>⟨Nat.zero_le _,Nat.zero_le _,Nat.zero_le _,Nat.zero_le _⟩
 unfold decR
 split
 ·exact z _ _
 ·split
  ·exact z _ _
  ·rename_i h4
   split
   ·exact z _ _
   ·rename_i c p hc
    obtain ⟨_,_,_,c4,c5,c6,c7⟩:=zhe (by omega) hc
    split
    ·exact z _ _
    ·split
     ·exact z _ _
     ·split
      ·exact z _ _
      ·split
       ·exact z _ _
       ·exact ⟨c4,c5,c6,c7⟩
theorem zxq {n:Nat} {S:ByteArray} (hn:S.size+10000000<n) (hS:S.size≤BIG):((f228 n S).bind fun y1=>(f205 n S).bind fun y2=>(f23 n (z70 y1,z70 y2)).bind fun y3=>bif y3 then (bif (y1.1==y2.1) then (bif (y1.2.1==y2.2.1) then ((f231 n ()).bind fun y4=>some y4) else (some false)) else (some false)) else (some false))=some true:=by
 obtain ⟨k1,k2,k3,k4⟩:=zxx S
 rw [y3c hn hS,y2r hn hS]
 simp only [Option.bind_some]
 rw [zy7 (by omega) (by omega) (by omega) (by omega) (by omega) (by omega) (by omega) (by omega),zz3 (by omega)]
 simp
def zk4 (S:ByteArray):ByteArray:=z3g (bytesOf S++low (crcL (bytesOf S)) 8)
theorem zrc (S:ByteArray):(zk4 S).size=S.size+8:=by
 rw [zk4,zrg,List.length_append,zv,zpr]
theorem y33 {n:Nat} {S:ByteArray} (hn:S.size+20<n) (hS:S.size+20≤140737488355328):f221 n S=some (zk4 S):=by
 rw [y32,zn9 (by omega) (by omega)]
 have hl:=zv S
 simp only [Option.bind_some]
 rw [zh (by omega)]
 have:=zlw (v:=crcL (bytesOf S)) (k:=8) (by omega) (l:=bytesOf S) (body:=zhn n S (crcL (bytesOf S))) (fun i m hi hm=>by
  rw [zg2]
  have e:decide ((i:Int)<8)=true:=by simp; omega
  have e2:IntKind.u64.wrap ((8 * i:Nat):Int)=((8 * i:Nat):Int):=z1t (by omega) (by omega)
  simp only [e,cond_true,w8 (show i<8 by omega),e2,zz (show i<9223372036854775806 by omega),y85 _ i (by omega)]
  rw [zh (by omega),zh (by simp; omega)]) (fun m=>by
  rw [zg2]; rfl) 8 0 n (by omega) (by omega)
 have e0:low (crcL (bytesOf S)) 0=[]:=rfl
 rw [e0,List.append_nil] at this
 rw [show ((0:Nat):Int)=0 from rfl] at this
 rw [this]; rfl
theorem zjg:(⟨#[108,116,104,49]⟩:ByteArray).size=4:=rfl
theorem y3z (s b:ByteArray) (hs:s.size≤140737488351232) (hb:b.size≤140737488351232):f234 (s.size+b.size+10000100) (s,b)=some true:=by
 have hm:((⟨#[108,116,104,49]⟩:ByteArray)++s).size=4+s.size:=by rw [ByteArray.size_append,zjg]
 have hz:=zrc ((⟨#[108,116,104,49]⟩:ByteArray)++s)
 have ht:(zk4 ((⟨#[108,116,104,49]⟩:ByteArray)++s)++b).size=4+s.size+8+b.size:=by rw [ByteArray.size_append,hz,hm]
 have e221:=y33 (n:=s.size+b.size+10000100) (S:=(⟨#[108,116,104,49]⟩:ByteArray)++s) (by omega) (by omega)
 rw [y3e,zh (by rw [zjg]; show 4+s.size≤_; omega)]
 simp only [e221,Option.bind_some]
 rw [zh (by rw [hz,hm]; omega)]
 exact zxq (by omega) (by rw [ht]; show _≤4611686018427387904; omega)
abbrev y_str:Ty:=.str
def zrl (R:Nat→Nat→Prop) (x:ByteArray):Prop:=R x.size 1
theorem r_str {R:Nat→Nat→Prop} {cs:List AV} (h:OfTy R y_str cs):∃ x:ByteArray,zrl R x∧[.sc (.string x)]=cs:=by
 obtain ⟨b,rfl,h⟩:=h
 exact ⟨b,h,rfl⟩
theorem pureCodeSealed (x y:ByteArray) (h:zrl RSaid x) (k:zrl RSaid y):∃ n,f234 n (x,y)=some true:=by
 have h:x.size * 1≤reachBytes:=h
 have k:y.size * 1≤reachBytes:=k
 rw [Nat.mul_one] at h k
 exact ⟨_,y3z x y (Nat.le_trans h (by decide)) (Nat.le_trans k (by decide))⟩
end Loom
