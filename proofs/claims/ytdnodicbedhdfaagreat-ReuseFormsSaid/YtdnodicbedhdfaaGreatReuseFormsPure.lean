/- The plain law of ReuseForms: what it answers is true,whatever it is handed (part 1 of 1). -/
import Derived.Test.YtdnodicbedhdfaaGreatReuseFormsWvB
set_option linter.unusedVariables false
set_option linter.unusedSimpArgs false
set_option linter.unusedSectionVars false
set_option maxRecDepth 100000
open Bool (and_eq_true and_eq_true_iff cond_self false_eq not_eq_false' not_eq_true' or_eq_false_iff)
open List (all_eq_true any_cons any_eq_true append_inj' append_nil dropLast_eq_take drop_eq_getElem_cons drop_length drop_zero ext_getElem? filter_append findIdx?_cons foldl_cons getElem?_eq_getElem getElem?_eq_none getElem?_map getElem?_range getElem?_set getElem?_set_self getElem_mem length_map length_range length_set map_append mem_append mem_singleton range replicate reverse)
open Nat (le_of_ble_eq_true le_succ)
open Option (getD_some map_some)
namespace Loom
open Go
@[simp] theorem orRet_inl {S R:Type} {A:S->Option R} {s:S}:zj A (.inl s)=A s:=rfl
@[simp] theorem orRet_inr {S R:Type} {A:S->Option R} {r:R}:zj A (.inr r)=some r:=rfl
theorem zg {R:Type} {p:Prop} [Decidable p] {x:Option R} (h:p):need p x=x:=by unfold need;rw [if_pos h]
def mayT (l:List Xa) (t:Xb):Bool :=
 bif t.Kind_==3 then decide (t.Param_>=0)&&decide (t.Param_<(l.length:Int)) else (t.Kind_==1||t.Kind_==2)&&t.Param_==0
theorem zt7 {n:Nat} (c:Xe) (t:Xb):f31 n (c,t)=some (mayT c.Sign_ t):=by
 rw [y6u];unfold mayT;by_cases h1:t.Kind_=1
 ·simp [h1]
 ·by_cases h2:t.Kind_=2
  ·simp [h2]
  ·by_cases h3:t.Kind_=3
   ·by_cases h4:t.Param_>=0<;>simp [h3,h4]
   ·have e1:(t.Kind_==1)=false:=by simpa using h1
    have e2:(t.Kind_==2)=false:=by simpa using h2
    have e3:(t.Kind_==3)=false:=by simpa using h3
    simp [e1,e2,e3]
theorem zt9 {n:Nat} (l:List Xa) (t:Xb):f39 n (t,l)=some (mayT l t):=by
 rw [y74];unfold mayT;by_cases h1:t.Kind_=1
 ·simp [h1]
 ·by_cases h2:t.Kind_=2
  ·simp [h2]
  ·by_cases h3:t.Kind_=3
   ·by_cases h4:t.Param_>=0<;>simp [h3,h4]
   ·have e1:(t.Kind_==1)=false:=by simpa using h1
    have e2:(t.Kind_==2)=false:=by simpa using h2
    have e3:(t.Kind_==3)=false:=by simpa using h3
    simp [e1,e2,e3]
def z5w (x:Int):Bool:=decide (x % 2147483648<=2139095040)||x==2143289344
theorem zsl {m:Nat} (h:m<4294967296):IntKind.u32.wrap (m:Int)=m:=by
 have:IntKind.u32.wrap (m:Int)=(m:Int) % 4294967296:=by simp [IntKind.wrap,IntKind.bits,IntKind.signed]
 omega
theorem yd9 (x:Int) (h0:0<=x) (h1:x<4294967296):(BitVec.ofInt IntKind.u32.bits x &&& ~~~BitVec.ofInt IntKind.u32.bits 2147483648).toNat=x.toNat % 2147483648:=by
 show (BitVec.ofInt 32 x &&& ~~~BitVec.ofInt 32 2147483648).toNat=_;have e:(~~~BitVec.ofInt 32 2147483648:BitVec 32)=2147483647#32:=by decide
 rw [e,BitVec.toNat_and];have e2:(2147483647#32).toNat=2 ^ 31 - 1:=by decide
 rw [e2,Nat.and_two_pow_sub_one_eq_mod]
 have e3:(BitVec.ofInt 32 x).toNat=x.toNat:=by rw [BitVec.toNat_ofInt];omega
 rw [e3]
theorem ztc {n:Nat} (x:Int) (h0:0<=x) (h1:x<4294967296):f52 n x=some (z5w x):=by
 rw [y7f,yd9 x h0 h1,zsl (by omega)];unfold z5w;have:((x.toNat % 2147483648:Nat):Int)=x % 2147483648:=by omega
 rw [this];cases decide (x % 2147483648<=2139095040)<;>rfl
theorem zfi {m:Int} (h0:0<=m) (h:m<18446744073709551616):IntKind.u64.wrap m=m:=by
 have:IntKind.u64.wrap m=m % 18446744073709551616:=by simp [IntKind.wrap,IntKind.bits,IntKind.signed]
 omega
theorem y0g (x:Int) (k:Nat) (hk:k<64) (h0:0<=x) (h1:x<18446744073709551616):(BitVec.ofInt IntKind.u64.bits x &&& BitVec.ofInt IntKind.u64.bits ((2 ^ k - 1:Nat):Int)).toNat=x.toNat % 2 ^ k:=by
 show (BitVec.ofInt 64 x &&& BitVec.ofInt 64 _).toNat=_;rw [BitVec.toNat_and];have hp:2 ^ k<2 ^ 64:=Nat.pow_lt_pow_right (by decide) hk
 have e2:(BitVec.ofInt 64 ((2 ^ k - 1:Nat):Int)).toNat=2 ^ k - 1:=by rw [BitVec.toNat_ofInt];have:(0:Nat)<2 ^ k:=Nat.two_pow_pos k;omega
 have e3:(BitVec.ofInt 64 x).toNat=x.toNat:=by rw [BitVec.toNat_ofInt];omega
 rw [e2,e3,Nat.and_two_pow_sub_one_eq_mod]
theorem y4j {n:Nat} (x:Int) (h0:0<=x) (h1:x<4294967296):∃ r,f69 n x=some r/\r.2.2.2.2=(decide (x / 8388608 % 256=255)&&decide (x % 8388608≠0)):=by
 rw [y88];have e0:IntKind.u64.wrap x=x:=zfi h0 (by omega)
 have e1:x.fdiv (2 ^ min (23:Int).toNat IntKind.u64.bits)=x / 8388608:=by show x.fdiv 8388608=_;rw [Int.fdiv_eq_ediv_of_nonneg _ (by decide)]
 have e2:(BitVec.ofInt IntKind.u64.bits (x / 8388608) &&& BitVec.ofInt IntKind.u64.bits (255:Int)).toNat=(x / 8388608).toNat % 256:=y0g (x / 8388608) 8 (by decide) (by omega) (by omega);have e3:(BitVec.ofInt IntKind.u64.bits x &&& BitVec.ofInt IntKind.u64.bits (8388607:Int)).toNat=x.toNat % 8388608:=y0g x 23 (by decide) (by omega) (by omega);simp only [e0,e1,e2,e3];rw [zfi (m:=(((x / 8388608).toNat % 256:Nat):Int)) (by omega) (by omega),zfi (m:=((x.toNat % 8388608:Nat):Int)) (by omega) (by omega),zei (by omega) (by omega)];have c1:(((x / 8388608).toNat % 256:Nat):Int)=x / 8388608 % 256:=by omega
 have c2:((x.toNat % 8388608:Nat):Int)=x % 8388608:=by omega
 rw [c1,c2];by_cases h:x / 8388608 % 256=255
 ·have q:(x / 8388608 % 256==255)=true:=by simp [h]
  simp only [q,cond_true,Option.bind_some,orRet_inl];refine ⟨_,rfl,?_⟩;rw [decide_eq_true h,Bool.true_and];show (x % 8388608 != 0)=_;by_cases h3:x % 8388608=0<;>simp [h3]
 ·have q:(x / 8388608 % 256==255)=false:=by simp [h]
  simp only [q,cond_false];cases (x / 8388608 % 256==0)
  all_goals
   simp only [cond_false,cond_true,Option.bind_some,orRet_inl];refine ⟨_,rfl,?_⟩;rw [decide_eq_false h,Bool.false_and]
theorem zte {n:Nat} (x:Int) (h0:0<=x) (h1:x<4294967296):f58 n x=some (z5w x):=by
 have w:IntKind.i64.wrap x=x:=zei (by omega) (by omega);obtain ⟨r,e,e'⟩:=y4j (n:=n) x h0 h1;rw [y7p,w,y82,e];simp only [Option.bind_some,e'];unfold z5w;by_cases h:x / 8388608 % 256=255/\x % 8388608≠0
 ·have q:(decide (x / 8388608 % 256=255)&&decide (x % 8388608≠0))=true:=by simp [h]
  have q2:decide (x % 2147483648<=2139095040)=false:=by simp;omega
  rw [q,q2];simp only [cond_true,Option.bind_some,Bool.false_or];congr 1;rw [Bool.eq_iff_iff];simp;omega
 ·have q:(decide (x / 8388608 % 256=255)&&decide (x % 8388608≠0))=false:=by rw [Bool.eq_false_iff];intro hb;simp only [and_eq_true,decide_eq_true_eq] at hb;exact h hb
  have q2:decide (x % 2147483648<=2139095040)=true:=by simp;omega
  rw [q,q2];simp
def mayS (l:List Xa) (s:Xc):Bool :=
 mayT l s.Type_&&(bif s.Type_.Kind_==2 then s.Bits_==0&&(decide (s.Int_>=0)&&decide (s.Int_<=2147483647)) else s.Int_==0&&z5w s.Bits_)
theorem y6z {n:Nat} (c:Xe) (s:Xc) (h0:0<=s.Bits_) (h1:s.Bits_<4294967296):f34 n (c,s)=some (mayS c.Sign_ s):=by rw [y6y,zt7,ztc _ h0 h1];unfold mayS;simp only [Option.bind_some];cases mayT c.Sign_ s.Type_<;>cases (s.Type_.Kind_==2)<;>cases (s.Bits_==0)<;>cases (s.Int_==0)<;>cases decide (s.Int_>=0)<;>rfl
theorem y76 {n:Nat} (l:List Xa) (s:Xc) (h0:0<=s.Bits_) (h1:s.Bits_<4294967296):f40 n (s,l)=some (mayS l s):=by rw [y75,zt9,zte _ h0 h1];unfold mayS;simp only [Option.bind_some];cases mayT l s.Type_<;>cases (s.Type_.Kind_==2)<;>cases (s.Bits_==0)<;>cases (s.Int_==0)<;>cases decide (s.Int_>=0)<;>rfl
structure z3m where
 d:Int
 a:Int
 b:Int
 c:Int
 n:Int
def rowD (op:Int):Option z3m :=
 bif op==1 then some ⟨1,0,0,0,0⟩ else
 bif op==2 then some ⟨2,0,0,0,1⟩ else
 bif op==3 then some ⟨8,7,0,0,0⟩ else
 bif op==4 then some ⟨4,5,5,0,0⟩ else
 bif op==5 then some ⟨4,5,5,0,0⟩ else
 bif op==6 then some ⟨4,5,5,0,0⟩ else
 bif op==7 then some ⟨4,5,5,0,0⟩ else
 bif op==8 then some ⟨4,5,5,0,0⟩ else
 bif op==9 then some ⟨4,5,5,0,0⟩ else
 bif op==10 then some ⟨4,5,5,0,0⟩ else
 bif op==11 then some ⟨4,5,0,0,0⟩ else
 bif op==12 then some ⟨4,5,0,0,0⟩ else
 bif op==13 then some ⟨4,5,0,0,0⟩ else
 bif op==14 then some ⟨4,5,0,0,0⟩ else
 bif op==15 then some ⟨4,5,5,5,0⟩ else
 bif op==16 then some ⟨1,1,2,0,0⟩ else
 bif op==17 then some ⟨1,2,0,0,0⟩ else
 bif op==18 then some ⟨2,1,0,0,0⟩ else
 bif op==19 then some ⟨1,3,0,0,0⟩ else
 bif op==20 then some ⟨1,3,0,0,0⟩ else
 bif op==21 then some ⟨2,2,0,0,0⟩ else
 bif op==22 then some ⟨2,2,2,0,0⟩ else
 bif op==23 then some ⟨2,2,2,0,0⟩ else
 bif op==24 then some ⟨2,2,2,0,0⟩ else
 bif op==25 then some ⟨2,2,0,0,0⟩ else
 bif op==26 then some ⟨2,2,2,2,0⟩ else
 bif op==27 then some ⟨2,2,2,0,0⟩ else
 bif op==28 then some ⟨2,2,2,0,0⟩ else
 bif op==29 then some ⟨3,0,0,0,2⟩ else
 bif op==30 then some ⟨3,0,0,0,2⟩ else
 bif op==31 then some ⟨0,3,0,0,2⟩ else
 bif op==32 then some ⟨8,0,0,0,3⟩ else
 bif op==33 then some ⟨0,8,0,0,3⟩ else
 bif op==34 then some ⟨0,2,0,0,0⟩ else
 bif op==35 then some ⟨0,0,0,0,0⟩ else
 bif op==36 then some ⟨0,0,0,0,4⟩ else
 bif op==37 then some ⟨0,0,0,0,0⟩ else
 none
theorem z3t (op:Int):(op=1\/op=2\/op=3\/op=4\/op=5\/op=6\/op=7\/op=8\/op=9\/op=10\/op=11\/op=12\/op=13\/op=14\/op=15\/op=16\/op=17\/op=18\/op=19\/op=20\/op=21\/op=22\/op=23\/op=24\/op=25\/op=26\/op=27\/op=28\/op=29\/op=30\/op=31\/op=32\/op=33\/op=34\/op=35\/op=36\/op=37)\/(∀ k:Int,1<=k->k<=37->(op==k)=false):=by
 by_cases h:1<=op/\op<=37
 ·left;omega
 ·right;intro k h1 h2;simp only [beq_eq_false_iff_ne,ne_eq];omega
theorem zkz {n:Nat} (op:Int):f26 n op=some (match rowD op with | some r=>(true,r.d,r.a,r.b,r.c,r.n) | none=>(false,0,0,0,0,0)):=by
 rw [y6o];rcases z3t op with (rfl | rfl | rfl | rfl | rfl | rfl | rfl | rfl | rfl | rfl | rfl | rfl | rfl | rfl | rfl | rfl | rfl | rfl | rfl | rfl | rfl | rfl | rfl | rfl | rfl | rfl | rfl | rfl | rfl | rfl | rfl | rfl | rfl | rfl | rfl | rfl | rfl) | h
 iterate 37 (· kernel_rfl)
 simp (discharger:=decide) only [rowD,h,cond_false,Option.bind_some,orRet_inl]
def z43 (s:Int):UInt8:=bif s==1 then 110 else bif s==2 then 119 else bif s==3 then 118 else bif s==4 then 100 else bif s==5 then 120 else bif s==7 then 99 else bif s==8 then 97 else 45
def z6o (s:Int):UInt8:=bif s==1 then 105 else bif s==2 then 112 else bif s==3 then 115 else bif s==4 then 113 else 45
def z3h (r:z3m):ByteArray:=⟨#[z43 r.d,z43 r.a,z43 r.b,z43 r.c,z6o r.n]⟩
theorem zl0 {n:Nat} (op:Int):f27 n op=some (match rowD op with | some r=>(z3h r,true) | none=>(⟨#[]⟩,false)):=by
 rw [y6p];rcases z3t op with (rfl | rfl | rfl | rfl | rfl | rfl | rfl | rfl | rfl | rfl | rfl | rfl | rfl | rfl | rfl | rfl | rfl | rfl | rfl | rfl | rfl | rfl | rfl | rfl | rfl | rfl | rfl | rfl | rfl | rfl | rfl | rfl | rfl | rfl | rfl | rfl | rfl) | h
 iterate 37 (· kernel_rfl)
 simp (discharger:=decide) only [rowD,h,cond_false,Option.bind_some,orRet_inl]
theorem z30 {op:Int} (h:∀ k:Int,1<=k->k<=37->(op==k)=false):rowD op=none:=by simp (discharger:=decide) only [rowD,h,cond_false]
def zq (i:Xd):List Int:=match rowD i.Op_ with
 | some r=>(bif r.a==0 then [] else [i.A_])++((bif r.b==0 then [] else [i.B_])++(bif r.c==0 then [] else [i.C_]))
 | none=>[]
def sets (i:Xd):Bool:=match rowD i.Op_ with | some r=>!(r.d==0) | none=>false
theorem zrr (m:Nat) (i:Xd):f9 (m+4) i=some (zq i):=by
 obtain ⟨op,d,a,b,c,N,bits⟩:=i;rcases z3t op with (rfl | rfl | rfl | rfl | rfl | rfl | rfl | rfl | rfl | rfl | rfl | rfl | rfl | rfl | rfl | rfl | rfl | rfl | rfl | rfl | rfl | rfl | rfl | rfl | rfl | rfl | rfl | rfl | rfl | rfl | rfl | rfl | rfl | rfl | rfl | rfl | rfl) | h
 iterate 37 (· kernel_rfl)
 rw [ydd,zkz];simp only [zq,z30 h];kernel_rfl
theorem y6d (m:Nat) (i:Xd):f10 (m+4) i=some (zq i):=by
 obtain ⟨op,d,a,b,c,N,bits⟩:=i;rcases z3t op with (rfl | rfl | rfl | rfl | rfl | rfl | rfl | rfl | rfl | rfl | rfl | rfl | rfl | rfl | rfl | rfl | rfl | rfl | rfl | rfl | rfl | rfl | rfl | rfl | rfl | rfl | rfl | rfl | rfl | rfl | rfl | rfl | rfl | rfl | rfl | rfl | rfl) | h
 iterate 37 (· kernel_rfl)
 rw [y6c,zl0];simp only [zq,z30 h];kernel_rfl
theorem zg6 (n:Nat) (i:Xd):f11 n i=some (sets i):=by
 obtain ⟨op,d,a,b,c,N,bits⟩:=i;rcases z3t op with (rfl | rfl | rfl | rfl | rfl | rfl | rfl | rfl | rfl | rfl | rfl | rfl | rfl | rfl | rfl | rfl | rfl | rfl | rfl | rfl | rfl | rfl | rfl | rfl | rfl | rfl | rfl | rfl | rfl | rfl | rfl | rfl | rfl | rfl | rfl | rfl | rfl) | h
 iterate 37 (· kernel_rfl)
 rw [y6e,zkz];simp only [sets,z30 h];kernel_rfl
theorem y6g (n:Nat) (i:Xd):f12 n i=some (sets i):=by
 obtain ⟨op,d,a,b,c,N,bits⟩:=i;rcases z3t op with (rfl | rfl | rfl | rfl | rfl | rfl | rfl | rfl | rfl | rfl | rfl | rfl | rfl | rfl | rfl | rfl | rfl | rfl | rfl | rfl | rfl | rfl | rfl | rfl | rfl | rfl | rfl | rfl | rfl | rfl | rfl | rfl | rfl | rfl | rfl | rfl | rfl) | h
 iterate 37 (· kernel_rfl)
 rw [y6f,zl0];simp only [sets,z30 h];kernel_rfl
def elem (op:Int):Bool:=bif decide (op>=3) then decide (op<=15) else false
theorem y6i (n:Nat) (op:Int):f13 n op=some (elem op):=by rw [y6h];unfold elem;cases decide (op>=3)<;>rfl
theorem y6k (n:Nat) (op:Int):f14 n op=some (elem op):=by rw [y6j];unfold elem;cases decide (op>=3)<;>rfl
abbrev ty0:Xb:=⟨0,0⟩
def eqTy (t d:Xb):Bool:=t.Kind_==d.Kind_&&(t.Param_==d.Param_&&true)
def isS (t:Xb) (s:Int) (d:Xb):Bool :=
 bif s==1 then t.Kind_==1 else bif s==2 then t.Kind_==2 else bif s==3 then t.Kind_==3 else bif s==4 then t.Kind_ != 2 else
 bif s==5 then (t.Kind_==1||eqTy t d) else bif s==7 then (eqTy t d||(t.Kind_==1&&d.Kind_==3)) else true
theorem y7j {n:Nat} (t:Xb) (s:Int) (d:Xb) (h:s≠6):f54 n (t,s,d)=some (isS t s d):=by
 have h6:(s==6)=false:=by simpa using h
 rw [y7i];unfold isS eqTy;simp only [h6,cond_false];cases (s==1)<;>cases (s==2)<;>cases (s==3)<;>cases (s==4)<;>cases (s==5)<;>cases (s==7)<;>cases (t.Kind_==1)<;>cases (t.Kind_==d.Kind_&&(t.Param_==d.Param_&&true))<;>cases (d.Kind_==3)<;>rfl
theorem z1y {α:Type} {l:List α} {n:Int} (h:n<0\/n>=l.length):idx l n=none:=by
 unfold idx;split
 ·rcases h with h | h
  ·omega
  ·rw [getElem?_eq_none];omega
 ·rfl
theorem z6m {α:Type} {l:List α} {n:Int} (h0:0<=n) (h1:n<l.length):∃ y,idx l n=some y/\y∈l:=by
 unfold idx;rw [if_pos h0];have:n.toNat<l.length:=by omega
 exact ⟨l[n.toNat],by simp [this],getElem_mem this⟩
theorem z4w {α:Type} {l:List α} {n:Int} {y:α} (h:idx l n=some y):y∈l/\0<=n/\n<l.length:=by
 unfold idx at h;split at h
 ·rename_i h0;obtain ⟨h1,h2⟩:=List.getElem?_eq_some_iff.1 h;exact ⟨h2 ▸ getElem_mem h1,h0,by omega⟩
 ·cases h
theorem y7h {n:Nat} (a:List Xa) (b:List Xb) (c:List Xc) (d:List Xd) (e:List Bool) (f:List (List Int)) (g:List Int) (k:Int) :
  f53 n (a,b,c,d,e,f,g,k)=some (match idx b k with | some t=>(true,a,b,c,d,e,f,g,t.Kind_,t.Param_) | none=>(false,a,b,c,d,e,f,g,0,0)):=by
 rw [y7g];by_cases h:k<0
 ·rw [z1y (.inl h)];simp [h]
 ·by_cases h2:k>=b.length
  ·rw [z1y (.inr h2)];simp [h,h2]
  ·obtain ⟨y,hy,_⟩:=z6m (l:=b) (n:=k) (by omega) (by omega);rw [hy];have e1:decide (k<0)=false:=by simpa using h
   have e2:decide (k>=(b.length:Int))=false:=by simp;omega
   simp [e1,e2,hy]
theorem y8a {n:Nat} (c:Xe) (k:Int):f70 n (c,k)=some (match idx c.Regs_ k with | some t=>(true,t.Kind_,t.Param_) | none=>(false,0,0)):=by
 rw [y89];by_cases h:k<0
 ·rw [z1y (.inl h)];simp [h]
 ·by_cases h2:k>=c.Regs_.length
  ·rw [z1y (.inr h2)];simp [h,h2]
  ·obtain ⟨y,hy,_⟩:=z6m (l:=c.Regs_) (n:=k) (by omega) (by omega);rw [hy];have e1:decide (k<0)=false:=by simpa using h
   have e2:decide (k>=(c.Regs_.length:Int))=false:=by simp;omega
   simp [e1,e2,hy]
theorem zjd {l:List Xa} {t:Xb} (h:mayT l t=true):t.Kind_=1\/t.Kind_=2\/(t.Kind_=3/\0<=t.Param_/\t.Param_<l.length):=by
 unfold mayT at h;by_cases h3:t.Kind_=3
 ·simp [h3] at h;exact .inr (.inr ⟨h3,h.1,h.2⟩)
 ·have e3:(t.Kind_==3)=false:=by simpa using h3
  rw [e3] at h;simp at h;rcases h.1 with h | h
  ·exact .inl h
  ·exact .inr (.inl h)
def zr (c:Xe) (s k:Int) (d:Xb):Bool:=bif s==0 then k==0 else match idx c.Regs_ k with | none=>false | some t=>isS t s d
def z3u (s:Int):Prop:=s=0\/s=1\/s=2\/s=3\/s=4\/s=5\/s=7\/s=8
theorem zge {n:Nat} {c:Xe} {s k:Int} {d:Xb} (hs:z3u s) (hr:∀ t∈c.Regs_,mayT c.Sign_ t=true):f66 n (c,((z43 s).toNat:Int),k,d)=some (zr c s k d):=by
 rw [y83,y8a];unfold zr;cases hi:idx c.Regs_ k with
 | none=>rcases hs with rfl | rfl | rfl | rfl | rfl | rfl | rfl | rfl<;>kernel_rfl
 | some t =>
  have hk:=zjd (hr t (z4w hi).1);rcases hs with rfl | rfl | rfl | rfl | rfl | rfl | rfl | rfl
  ·rfl
  ·rfl
  ·rfl
  ·rfl
  ·rcases hk with h | h | ⟨h,_⟩<;>simp [h,z43,isS]
  ·show (bif t.Kind_==1 then some true else some (eqTy t d))=some (t.Kind_==1||eqTy t d);cases (t.Kind_==1)<;>rfl
  ·show (bif eqTy t d then some true else bif t.Kind_==1 then some (d.Kind_==3) else some false)=some (eqTy t d||(t.Kind_==1&&d.Kind_==3));cases eqTy t d<;>cases (t.Kind_==1)<;>rfl
  ·rfl
theorem zr1 {op:Int} {r:z3m} (h:rowD op=some r):(z3u r.d/\z3u r.a/\z3u r.b/\z3u r.c)/\((r.n=0\/r.n=1\/r.n=3\/r.n=4)\/r.n=2/\(r.d=3\/r.d=0/\r.a=3)):=by
 rcases z3t op with (rfl | rfl | rfl | rfl | rfl | rfl | rfl | rfl | rfl | rfl | rfl | rfl | rfl | rfl | rfl | rfl | rfl | rfl | rfl | rfl | rfl | rfl | rfl | rfl | rfl | rfl | rfl | rfl | rfl | rfl | rfl | rfl | rfl | rfl | rfl | rfl | rfl) | h0
 iterate 37 (· cases h;simp [z3u])
 rw [z30 h0] at h;cases h
def tyD (c:Xe) (r:z3m) (i:Xd):Xb:=bif r.d==0 then ty0 else (idx c.Regs_ i.D_).getD ty0
def tyF (c:Xe) (r:z3m) (i:Xd):Xb:=bif r.d==0 then (bif r.a==0 then ty0 else (idx c.Regs_ i.A_).getD ty0) else (idx c.Regs_ i.D_).getD ty0
def nOk (c:Xe) (s N:Int) (t:Xb):Bool :=
 bif s==1 then decide (N>=0)&&decide (N<=2147483647) else
 bif s==2 then (N==0||(N==1&&(match idx c.Sign_ t.Param_ with | some p=>p.Kind_==2 | none=>false))) else
 bif s==3 then (match idx c.Slots_ N with | some z=>eqTy z.Type_ t | none=>false) else
 bif s==4 then decide (N>=0)&&decide (N<(c.Sign_.length:Int)) else N==0
def z53 (i:Xd):Bool:=bif i.Op_==1 then z5w i.Bits_ else i.Bits_==0
def fits (c:Xe) (i:Xd):Bool:=match rowD i.Op_ with
 | none=>false
 | some r=>zr c r.d i.D_ ty0&&(zr c r.a i.A_ (tyD c r i)&&(zr c r.b i.B_ (tyD c r i)&&(zr c r.c i.C_ (tyD c r i)&&(z53 i&&nOk c r.n i.N_ (tyF c r i)))))
theorem y85 {n:Nat} {c:Xe} {N p:Int} (hp:0<=p/\p<c.Sign_.length):f67 n (c,N,p)=some (N==0||(N==1&&(match idx c.Sign_ p with | some p=>p.Kind_==2 | none=>false))):=by rw [y84];obtain ⟨y,hy,_⟩:=z6m (l:=c.Sign_) hp.1 hp.2;rw [hy];cases (N==0)<;>cases (N==1)<;>simp
theorem isS3 {t d:Xb} (h:isS t 3 d=true):t.Kind_=3:=by simpa [isS] using h
theorem zqt {c:Xe} {i:Xd} {r:z3m} (hr:∀ t∈c.Regs_,mayT c.Sign_ t=true) (hp:r.d=3\/r.d=0/\r.a=3) (h1:zr c r.d i.D_ ty0=true) (h2:zr c r.a i.A_ (tyD c r i)=true):0<=(tyF c r i).Param_/\(tyF c r i).Param_<c.Sign_.length:=by
 have key:∀ (k:Int) (d:Xb),zr c 3 k d=true->∃ t,idx c.Regs_ k=some t/\0<=t.Param_/\t.Param_<c.Sign_.length:=λk d h=>by
  unfold zr at h;have e:((3:Int)==0)=false:=by decide
  rw [e,cond_false] at h;split at h
  ·cases h
  ·rename_i t ht;have h3:=isS3 h;rcases zjd (hr t (z4w ht).1) with q | q | q
   ·omega
   ·omega
   ·exact ⟨t,ht,q.2⟩
 rcases hp with hp | ⟨hp,hq⟩
 ·rw [hp] at h1;obtain ⟨t,ht,h⟩:=key _ _ h1;unfold tyF;rw [hp];simpa [ht] using h
 ·rw [hq] at h2;obtain ⟨t,ht,h⟩:=key _ _ h2;unfold tyF;rw [hp,hq];simpa [ht] using h
theorem zjc {s:Int} (h:z3u s):(((z43 s).toNat:Int) != 45) = !(s==0):=by rcases h with rfl | rfl | rfl | rfl | rfl | rfl | rfl | rfl<;>rfl
theorem zxy {s:Int} (h:z3u s):(((z43 s).toNat:Int)==45)=(s==0):=by rcases h with rfl | rfl | rfl | rfl | rfl | rfl | rfl | rfl<;>rfl
theorem z9x (r:z3m):((z3h r).size:Int)=5:=rfl
theorem y3n (r:z3m):z8 (z3h r) 0=((z43 r.d).toNat:Int):=rfl
theorem y3o (r:z3m):z8 (z3h r) 1=((z43 r.a).toNat:Int):=rfl
theorem yfa (r:z3m):z8 (z3h r) 2=((z43 r.b).toNat:Int):=rfl
theorem yfb (r:z3m):z8 (z3h r) 3=((z43 r.c).toNat:Int):=rfl
theorem y3p (r:z3m):z8 (z3h r) 4=((z6o r.n).toNat:Int):=rfl
theorem z4m {c:Xe} {s k:Int} {d:Xb} (h:zr c s k d=true) (hs:(s==0)=false):∃ t,idx c.Regs_ k=some t:=by
 unfold zr at h;rw [hs,cond_false] at h;split at h
 ·cases h
 ·rename_i t ht;exact ⟨t,ht⟩
theorem y7r {n:Nat} {c:Xe} {i:Xd} (hr:∀ t∈c.Regs_,mayT c.Sign_ t=true) (h0:0<=i.Bits_) (h1:i.Bits_<4294967296):f59 n (c,i)=some (fits c i):=by
 rw [y7q,zl0];unfold fits;cases h:rowD i.Op_ with
 | none=>rfl
 | some r =>
  obtain ⟨⟨s1,s2,s3,s4⟩,hn⟩:=zr1 h;have n1:(0:Int)<=0/\(0:Int)<5:=by decide
  have n2:(0:Int)<=1/\(1:Int)<5:=by decide
  have n3:(0:Int)<=2/\(2:Int)<5:=by decide
  have n4:(0:Int)<=3/\(3:Int)<5:=by decide
  have n5:(0:Int)<=4/\(4:Int)<5:=by decide
  simp only [Option.bind_some,Bool.not_true,cond_false,zte _ h0 h1]
  have hB:(bif (i.Op_ != 1) then (bif (i.Bits_ != 0) then some (Sum.inl (z3h r,true)) else some (Sum.inl (z3h r,!z5w i.Bits_))) else some (Sum.inl (z3h r,!z5w i.Bits_)):Option (ByteArray×Bool⊕Bool))=some (.inl (z3h r,!(z53 i))):=by
   unfold z53;by_cases q:i.Op_=1
   ·simp [q]
   ·by_cases q2:i.Bits_=0
    ·have:z5w 0=true:=by decide
     simp [q,q2,this]
    ·have e1:(i.Op_==1)=false:=by simpa using q
     have e2:(i.Bits_==0)=false:=by simpa using q2
     simp [bne,e1,e2]
  rw [hB,Option.bind_some,orRet_inl];dsimp only;cases hb:z53 i with
  | false=>simp
  | true =>
   simp only [Bool.not_true,cond_false,z9x,zg n1,y3n,zjc s1,zge s1 hr,Option.bind_some]
   have hD:(bif !(r.d==0) then (bif !(zr c r.d i.D_ ty0) then some (Sum.inr false) else (idx c.Regs_ i.D_).bind λy5=>some (Sum.inl (z3h r,y5.Kind_,y5.Param_))) else (bif i.D_ != 0 then some (Sum.inr false) else some (Sum.inl (z3h r,0,0))):Option (ByteArray×Int×Int⊕Bool))
     = bif zr c r.d i.D_ ty0 then some (.inl (z3h r,(tyD c r i).Kind_,(tyD c r i).Param_)) else some (.inr false):=by
    cases hz:r.d==0 with
    | true =>
     have:zr c r.d i.D_ ty0=(i.D_==0):=by unfold zr;rw [hz];rfl
     rw [this];unfold tyD;rw [hz];have e:(i.D_ != 0) = !(i.D_==0):=rfl;rw [e];cases i.D_==0<;>rfl
    | false =>
     cases hq:zr c r.d i.D_ ty0 with
     | false=>simp
     | true =>obtain ⟨t,ht⟩:=z4m hq hz;unfold tyD;rw [hz,ht];simp
   rw [hD];cases hd:zr c r.d i.D_ ty0 with
   | false=>simp
   | true =>
    simp only [cond_true,Option.bind_some,orRet_inl,z9x,zg n2,zg n3,zg n4,y3o,yfa,yfb,zge s2 hr,zge s3 hr,zge s4 hr,Bool.true_and];cases ha:zr c r.a i.A_ (tyD c r i) with
    | false=>simp
    | true =>
     cases hbb:zr c r.b i.B_ (tyD c r i) with
     | false=>simp
     | true =>
      cases hcc:zr c r.c i.C_ (tyD c r i) with
      | false=>simp
      | true =>
       simp only [cond_true,cond_false,Bool.not_true,Option.bind_some,orRet_inl,z9x,zg n1,zg n2,zg n5,y3n,y3o,y3p,zxy s1,zjc s2,Bool.true_and]
       have hF:((bif r.d==0 then some (Sum.inl (z3h r,!(r.a==0),(tyD c r i).Kind_,(tyD c r i).Param_)) else some (Sum.inl (z3h r,false,(tyD c r i).Kind_,(tyD c r i).Param_)):Option (ByteArray×Bool×Int×Int⊕(ByteArray×Int×Int⊕Bool))).bind (zj λs4=>bif s4.2.1 then (idx c.Regs_ i.A_).bind λy9=>some (Sum.inl (s4.1,y9.Kind_,y9.Param_)) else some (Sum.inl (s4.1,s4.2.2.1,s4.2.2.2))))
         = some (.inl (z3h r,(tyF c r i).Kind_,(tyF c r i).Param_)):=by
        unfold tyF tyD;cases hz:r.d==0 with
        | false=>simp
        | true =>
         cases hza:r.a==0 with
         | true=>simp
         | false =>obtain ⟨t,ht⟩:=z4m ha hza;simp [ht]
       rw [hF];simp only [Option.bind_some,orRet_inl,z9x,zg n5,y3p];unfold nOk;rcases hn with (hn | hn | hn | hn) | ⟨hn,hp⟩
       ·simp only [hn,z6o];rfl
       ·simp only [hn,z6o];show (bif decide (i.N_>=0) then some (decide (i.N_<=2147483647)) else some false)=some (decide (i.N_>=0)&&decide (i.N_<=2147483647));cases decide (i.N_>=0)<;>rfl
       ·simp only [hn,z6o];show (bif decide (i.N_>=0) then bif decide (i.N_<(c.Slots_.length:Int)) then (idx c.Slots_ i.N_).bind λy11=>some (eqTy y11.Type_ (tyF c r i)) else some false else some false)=some (match idx c.Slots_ i.N_ with | some z=>eqTy z.Type_ (tyF c r i) | none=>false);by_cases q:i.N_>=0
        ·by_cases q2:i.N_<c.Slots_.length
         ·obtain ⟨y,hy,_⟩:=z6m (l:=c.Slots_) q q2;simp [q,q2,hy]
         ·rw [z1y (by omega)];simp [q,q2]
        ·rw [z1y (by omega)];simp [q]
       ·simp only [hn,z6o];show (bif decide (i.N_>=0) then some (decide (i.N_<(c.Sign_.length:Int))) else some false)=some (decide (i.N_>=0)&&decide (i.N_<(c.Sign_.length:Int)));cases decide (i.N_>=0)<;>rfl
       ·have:=zqt hr hp hd ha;simp only [hn,z6o];show ((f67 n (c,i.N_,(tyF c r i).Param_)).bind λy10=>some y10)=_;rw [y85 this];rfl
section
variable {n:Nat} {c:Xe} {i:Xd} {set:List Bool} {news:List (List Int)} {op:List Int}
theorem ze3 {a b cc d e k dk dp fk fp s m:Int} (hk:k<4) (h1:idx [a,b,cc,d] k=some s) (h2:idx [i.D_,i.A_,i.B_,i.C_] k=some m) (hs:s≠6) :
  zcy n (c.Sign_,c.Regs_,c.Slots_,c.List_,set,news,op,i) (a,b,cc,d,e) (k,c.Sign_,c.Regs_,c.Slots_,c.List_,set,news,op,dk,dp,fk,fp) =
   some (bif zr c s m ⟨dk,dp⟩ then .go (IntKind.i64.wrap (k+1),c.Sign_,c.Regs_,c.Slots_,c.List_,set,news,op,
    (bif s==0 then dk else bif k==0 then ((idx c.Regs_ m).getD ty0).Kind_ else dk),(bif s==0 then dp else bif k==0 then ((idx c.Regs_ m).getD ty0).Param_ else dp),
    (bif s==0 then fk else bif k==0 then ((idx c.Regs_ m).getD ty0).Kind_ else bif k==1 then (bif a==0 then ((idx c.Regs_ m).getD ty0).Kind_ else fk) else fk),
    (bif s==0 then fp else bif k==0 then ((idx c.Regs_ m).getD ty0).Param_ else bif k==1 then (bif a==0 then ((idx c.Regs_ m).getD ty0).Param_ else fp) else fp))
    else .ret (c.Sign_,c.Regs_,c.Slots_,c.List_,set,news,op)):=by
 rw [zij];have hk':decide (k<4)=true:=by simpa using hk
 simp only [hk',cond_true,h1,h2,Option.bind_some];unfold zr;cases hz:s==0 with
 | true =>simp only [cond_true];have e1:(m != 0) = !(m==0):=rfl;rw [e1];cases m==0<;>rfl
 | false =>
  simp only [cond_false,y7h];cases hi:idx c.Regs_ m with
  | none=>rfl
  | some t =>simp only [Option.bind_some,Bool.not_true,cond_false,y7j _ _ _ hs];have e2:(⟨t.Kind_,t.Param_⟩:Xb)=t:=rfl;simp only [e2,Option.bind_some,orRet_inl];cases isS t s ⟨dk,dp⟩<;>cases (k==0)<;>cases (k==1)<;>cases (a==0)<;>rfl
theorem zk3 {s:Int} (h:z3u s):s≠6:=by rcases h with rfl | rfl | rfl | rfl | rfl | rfl | rfl | rfl<;>decide
theorem w1:IntKind.i64.wrap (0+1)=1:=by decide
theorem w2:IntKind.i64.wrap (1+1)=2:=by decide
theorem w3:IntKind.i64.wrap (2+1)=3:=by decide
theorem w4:IntKind.i64.wrap (3+1)=4:=by decide
theorem y4h {a b cc d e dk dp fk fp:Int} :
  zcy n (c.Sign_,c.Regs_,c.Slots_,c.List_,set,news,op,i) (a,b,cc,d,e) (4,c.Sign_,c.Regs_,c.Slots_,c.List_,set,news,op,dk,dp,fk,fp)=some (.out (4,c.Sign_,c.Regs_,c.Slots_,c.List_,set,news,op,dk,dp,fk,fp)):=by
 rw [zij];rfl
theorem zzj {r:z3m} (m:Nat) (h:z3u r.d/\z3u r.a/\z3u r.b/\z3u r.c) :
  iter (zcy n (c.Sign_,c.Regs_,c.Slots_,c.List_,set,news,op,i) (r.d,r.a,r.b,r.c,r.n)) (m+5) (0,c.Sign_,c.Regs_,c.Slots_,c.List_,set,news,op,0,0,0,0) =
   some (bif zr c r.d i.D_ ty0&&(zr c r.a i.A_ (tyD c r i)&&(zr c r.b i.B_ (tyD c r i)&&zr c r.c i.C_ (tyD c r i))) then
    .out (4,c.Sign_,c.Regs_,c.Slots_,c.List_,set,news,op,(tyD c r i).Kind_,(tyD c r i).Param_,(tyF c r i).Kind_,(tyF c r i).Param_) else .ret (c.Sign_,c.Regs_,c.Slots_,c.List_,set,news,op)):=by
 obtain ⟨h1,h2,h3,h4⟩:=h
 have eD:∀ b:Bool,b=(r.d==0)->(⟨bif b then 0 else ((idx c.Regs_ i.D_).getD ty0).Kind_,bif b then 0 else ((idx c.Regs_ i.D_).getD ty0).Param_⟩:Xb)=tyD c r i:=by intro b hb;unfold tyD;rw [<- hb];cases b<;>rfl
 unfold iter;rw [ze3 (s:=r.d) (m:=i.D_) (by decide) rfl rfl (zk3 h1)];have e0:(⟨0,0⟩:Xb)=ty0:=rfl;rw [e0];cases zr c r.d i.D_ ty0 with
 | false=>rfl
 | true =>
  have k0:((0:Int)==0)=true:=by decide
  simp only [cond_true,w1,k0,Bool.true_and];unfold iter;rw [ze3 (s:=r.a) (m:=i.A_) (by decide) rfl rfl (zk3 h2),eD _ rfl];cases zr c r.a i.A_ (tyD c r i) with
  | false=>rfl
  | true =>
   have k1:((1:Int)==0)=false:=by decide
   have k2:((1:Int)==1)=true:=by decide
   simp only [cond_true,w2,k1,k2,cond_false,Bool.true_and,cond_self];unfold iter;rw [ze3 (s:=r.b) (m:=i.B_) (by decide) rfl rfl (zk3 h3),eD _ rfl];cases zr c r.b i.B_ (tyD c r i) with
   | false=>rfl
   | true =>
    have k3:((2:Int)==0)=false:=by decide
    have k4:((2:Int)==1)=false:=by decide
    simp only [cond_true,w3,k3,k4,cond_false,Bool.true_and,cond_self];unfold iter;rw [ze3 (s:=r.c) (m:=i.C_) (by decide) rfl rfl (zk3 h4),eD _ rfl];cases zr c r.c i.C_ (tyD c r i) with
    | false=>rfl
    | true =>
     have k5:((3:Int)==0)=false:=by decide
     have k6:((3:Int)==1)=false:=by decide
     simp only [cond_true,w4,k5,k6,cond_false,Bool.true_and,cond_self];unfold iter;rw [y4h];simp only;congr 13
     all_goals
      first
      | (unfold tyD;cases r.d==0<;>rfl)
      | (unfold tyF;cases r.d==0<;>cases r.a==0<;>rfl)
theorem y71 (m:Nat) (hr:∀ t∈c.Regs_,mayT c.Sign_ t=true) (h0:0<=i.Bits_) (h1:i.Bits_<4294967296) :
  f35 (m+5) (c.Sign_,c.Regs_,c.Slots_,c.List_,set,news,op,i)=some (fits c i,c.Sign_,c.Regs_,c.Slots_,c.List_,set,news,op):=by
 rw [y70,zkz];unfold fits;cases h:rowD i.Op_ with
 | none=>rfl
 | some r =>
  obtain ⟨hs,hn⟩:=zr1 h;simp only [Option.bind_some,Bool.not_true,cond_false,zzj m hs,ztc _ h0 h1];cases hd:zr c r.d i.D_ ty0 with
  | false=>rfl
  | true =>
  cases ha:zr c r.a i.A_ (tyD c r i) with
  | false=>rfl
  | true =>
  cases hbb:zr c r.b i.B_ (tyD c r i) with
  | false=>rfl
  | true =>
  cases hcc:zr c r.c i.C_ (tyD c r i) with
  | false=>rfl
  | true =>
   simp only [Bool.true_and,cond_true,Option.bind_some,Bo.then]
   have hB:(bif (i.Op_==1) then (bif (!z5w i.Bits_) then some (Sum.inl (true,c.Sign_,c.Regs_,c.Slots_,c.List_,set,news,op,r.d,r.a,r.b,r.c,r.n,(tyF c r i).Kind_,(tyF c r i).Param_))
     else (bif i.Op_ != 1 then some (.inl (i.Bits_ != 0,c.Sign_,c.Regs_,c.Slots_,c.List_,set,news,op,r.d,r.a,r.b,r.c,r.n,(tyF c r i).Kind_,(tyF c r i).Param_)) else some (.inl (false,c.Sign_,c.Regs_,c.Slots_,c.List_,set,news,op,r.d,r.a,r.b,r.c,r.n,(tyF c r i).Kind_,(tyF c r i).Param_))))
     else (bif i.Op_ != 1 then some (.inl (i.Bits_ != 0,c.Sign_,c.Regs_,c.Slots_,c.List_,set,news,op,r.d,r.a,r.b,r.c,r.n,(tyF c r i).Kind_,(tyF c r i).Param_)) else some (.inl (false,c.Sign_,c.Regs_,c.Slots_,c.List_,set,news,op,r.d,r.a,r.b,r.c,r.n,(tyF c r i).Kind_,(tyF c r i).Param_))) :
      Option ((Bool×List Xa×List Xb×List Xc×List Xd×List Bool×List (List Int)×List Int×Int×Int×Int×Int×Int×Int×Int)⊕(Bool×List Xa×List Xb×List Xc×List Xd×List Bool×List (List Int)×List Int)))
     = some (.inl (!(z53 i),c.Sign_,c.Regs_,c.Slots_,c.List_,set,news,op,r.d,r.a,r.b,r.c,r.n,(tyF c r i).Kind_,(tyF c r i).Param_)):=by
    unfold z53;have e1:(i.Op_ != 1) = !(i.Op_==1):=rfl;have e2:(i.Bits_ != 0) = !(i.Bits_==0):=rfl;rw [e1,e2];cases i.Op_==1<;>cases z5w i.Bits_<;>rfl
   rw [hB,Option.bind_some,orRet_inl];dsimp only;cases hb:z53 i with
   | false=>rfl
   | true =>
    simp only [Bool.not_true,cond_false,Bool.true_and];unfold nOk;rcases hn with (hn | hn | hn | hn) | ⟨hn,hp⟩
    ·rw [hn];rfl
    ·rw [hn];show (bif decide (i.N_>=0) then some (decide (i.N_<=2147483647),c.Sign_,c.Regs_,c.Slots_,c.List_,set,news,op) else some (false,c.Sign_,c.Regs_,c.Slots_,c.List_,set,news,op))=some (decide (i.N_>=0)&&decide (i.N_<=2147483647),c.Sign_,c.Regs_,c.Slots_,c.List_,set,news,op);cases decide (i.N_>=0)<;>rfl
    ·rw [hn];show (bif decide (i.N_>=0) then bif decide (i.N_<(c.Slots_.length:Int)) then (idx c.Slots_ i.N_).bind λy11=>some (eqTy y11.Type_ (tyF c r i),c.Sign_,c.Regs_,c.Slots_,c.List_,set,news,op) else some (false,c.Sign_,c.Regs_,c.Slots_,c.List_,set,news,op) else some (false,c.Sign_,c.Regs_,c.Slots_,c.List_,set,news,op))=some ((match idx c.Slots_ i.N_ with | some z=>eqTy z.Type_ (tyF c r i) | none=>false),c.Sign_,c.Regs_,c.Slots_,c.List_,set,news,op);by_cases q:i.N_>=0
     ·by_cases q2:i.N_<c.Slots_.length
      ·obtain ⟨y,hy,_⟩:=z6m (l:=c.Slots_) q q2;simp [q,q2,hy]
      ·rw [z1y (by omega)];simp [q,q2]
     ·rw [z1y (by omega)];simp [q]
    ·rw [hn];show (bif decide (i.N_>=0) then some (decide (i.N_<(c.Sign_.length:Int)),c.Sign_,c.Regs_,c.Slots_,c.List_,set,news,op) else some (false,c.Sign_,c.Regs_,c.Slots_,c.List_,set,news,op))=some (decide (i.N_>=0)&&decide (i.N_<(c.Sign_.length:Int)),c.Sign_,c.Regs_,c.Slots_,c.List_,set,news,op);cases decide (i.N_>=0)<;>rfl
    ·obtain ⟨p1,p2⟩:=zqt hr hp hd ha;obtain ⟨y,hy,_⟩:=z6m (l:=c.Sign_) p1 p2;rw [hn];show (bif i.N_==0 then some (true,c.Sign_,c.Regs_,c.Slots_,c.List_,set,news,op) else bif i.N_==1 then (idx c.Sign_ (tyF c r i).Param_).bind λy8=>some (y8.Kind_==2,c.Sign_,c.Regs_,c.Slots_,c.List_,set,news,op) else some (false,c.Sign_,c.Regs_,c.Slots_,c.List_,set,news,op))=some ((i.N_==0||(i.N_==1&&(match idx c.Sign_ (tyF c r i).Param_ with | some p=>p.Kind_==2 | none=>false))),c.Sign_,c.Regs_,c.Slots_,c.List_,set,news,op);rw [hy];cases (i.N_==0)<;>cases (i.N_==1)<;>simp
end
theorem zgo {α Y Z:Type} {l:List α} {p:α->Bool} {body:Int->Option (Bo Int Y Z)} {z:Int->Z} {y:Y}
  (hb:∀ (k:Nat) (h:k<l.length),body k=some (bif p l[k] then .go ((k+1:Nat):Int) else .ret (z k))) (he:body l.length=some (.out y)) :
  ∀ (j k f:Nat),k+j=l.length->j<f->iter body f (k:Int)=some (match (l.drop k).findIdx? (λx=>!p x) with | none=>.out y | some i=>.ret (z ((k+i:Nat):Int)))
 | 0,k,f+1,hk,hf=>by
  obtain rfl:k=l.length:=by omega
  unfold iter;rw [he];simp
 | j+1,k,f+1,hk,hf=>by
  have h:k<l.length:=by omega
  unfold iter;rw [hb k h,drop_eq_getElem_cons h];cases hp:p l[k] with
  | false =>simp only [cond_false,findIdx?_cons,hp,Bool.not_false,if_true];rfl
  | true =>
   simp only [cond_true];rw [zgo hb he j (k+1) f (by omega) (by omega)];rw [findIdx?_cons];simp only [hp,Bool.not_true,cond_false,Bool.false_eq_true,if_false];cases (l.drop (k+1)).findIdx? (λx=>!p x) with
   | none=>rfl
   | some i=>simp only [map_some];congr 4;omega
theorem zzu {α Y Z:Type} {l:List α} {p:α->Bool} {body:Int->Option (Bo Int Y Z)} {z:Int->Z} {y:Y} {f:Nat}
  (hb:∀ (k:Nat) (h:k<l.length),body k=some (bif p l[k] then .go ((k+1:Nat):Int) else .ret (z k))) (he:body l.length=some (.out y)) (hf:l.length<f) :
  iter body f 0=some (match l.findIdx? (λx=>!p x) with | none=>.out y | some i=>.ret (z (i:Int))):=by
 have:=zgo hb he l.length 0 f (by omega) hf;simpa using this
theorem zf2 {α:Type} (l:List α) (p:α->Bool):(l.findIdx? (λx=>!p x)).isNone=l.all p:=by
 induction l with
 | nil=>rfl
 | cons x l ih =>rw [findIdx?_cons,List.all_cons,<- ih];cases p x<;>simp
theorem z3v {α Y Z:Type} {l:List α} {p:α->Bool} {body:Int->Option (Bo Int Y Z)} {z:Z} {y:Y} {f:Nat}
  (hb:∀ (k:Nat) (h:k<l.length),body k=some (bif p l[k] then .go ((k+1:Nat):Int) else .ret z)) (he:body l.length=some (.out y)) (hf:l.length<f) :
  iter body f 0=some (bif l.all p then .out y else .ret z):=by
 rw [zzu (z:=λ_=>z) hb he hf,<- zf2];cases l.findIdx? (λx=>!p x)<;>rfl
theorem zer {α S Z:Type} {l:List α} {F:S->α->S} {Inv:S->Prop} {body:Int×S->Option (Bo (Int×S) (Int×S) Z)}
  (hb:∀ (k:Nat) (s:S) (h:k<l.length),Inv s->body (k,s)=some (.go (((k+1:Nat):Int),F s l[k]))/\Inv (F s l[k])) (he:∀ s,Inv s->body (l.length,s)=some (.out ((l.length:Int),s))) :
  ∀ (j k f:Nat) (s:S),k+j=l.length->j<f->Inv s->iter body f ((k:Int),s)=some (.out ((l.length:Int),(l.drop k).foldl F s))
 | 0,k,f+1,s,hk,hf,hi=>by
  obtain rfl:k=l.length:=by omega
  unfold iter;rw [he s hi];simp
 | j+1,k,f+1,s,hk,hf,hi=>by
  have h:k<l.length:=by omega
  obtain ⟨h1,h2⟩:=hb k s h hi;unfold iter;rw [h1,drop_eq_getElem_cons h];exact zer hb he j (k+1) f _ (by omega) (by omega) h2
theorem zxu {α S Z:Type} {l:List α} {F:S->α->S} {Inv:S->Prop} {body:Int×S->Option (Bo (Int×S) (Int×S) Z)} {f:Nat} {s:S}
  (hb:∀ (k:Nat) (s:S) (h:k<l.length),Inv s->body (k,s)=some (.go (((k+1:Nat):Int),F s l[k]))/\Inv (F s l[k])) (he:∀ s,Inv s->body (l.length,s)=some (.out ((l.length:Int),s)))
  (hf:l.length<f) (hi:Inv s):iter body f (0,s)=some (.out ((l.length:Int),l.foldl F s)):=by
 have:=zer hb he l.length 0 f s (by omega) hf hi;simpa using this
theorem z1g {k:Nat} (h:k<4611686018427387904):IntKind.i64.wrap ((k:Int)+1)=((k+1:Nat):Int):=by rw [zei (by omega) (by omega)];simp
theorem yfo {k:Nat} (h:k<4611686018427387904):IntKind.i64.wrap ((k:Int) - 1)=(k:Int) - 1:=zei (by omega) (by omega)
theorem z9u (i:Xd):(zq i).length<=3:=by
 unfold zq;split
 ·rename_i r _;cases r.a==0<;>cases r.b==0<;>cases r.c==0<;>simp
 ·simp
theorem zbn {c:Xe} {i:Xd} (h:fits c i=true):∃ r,rowD i.Op_=some r/\zr c r.d i.D_ ty0=true/\zr c r.a i.A_ (tyD c r i)=true/\zr c r.b i.B_ (tyD c r i)=true/\zr c r.c i.C_ (tyD c r i)=true:=by
 unfold fits at h;split at h
 ·cases h
 ·rename_i r hr;simp only [and_eq_true] at h;exact ⟨r,hr,h.1,h.2.1,h.2.2.1,h.2.2.2.1⟩
theorem zc8 {c:Xe} {s k:Int} {d:Xb} (h:zr c s k d=true) (hs:(s==0)=false):0<=k/\k<c.Regs_.length:=by obtain ⟨t,ht⟩:=z4m h hs;exact (z4w ht).2
theorem zmg {c:Xe} {i:Xd} (h:fits c i=true):∀ y∈zq i,0<=y/\y<c.Regs_.length:=by
 obtain ⟨r,hr,h1,h2,h3,h4⟩:=zbn h;intro y hy;unfold zq at hy;rw [hr] at hy;simp only [mem_append] at hy;rcases hy with hy | hy | hy
 ·cases hz:r.a==0 with
  | true=>rw [hz] at hy;cases hy
  | false =>rw [hz] at hy;simp only [cond_false,mem_singleton] at hy;subst hy;exact zc8 h2 hz
 ·cases hz:r.b==0 with
  | true=>rw [hz] at hy;cases hy
  | false =>rw [hz] at hy;simp only [cond_false,mem_singleton] at hy;subst hy;exact zc8 h3 hz
 ·cases hz:r.c==0 with
  | true=>rw [hz] at hy;cases hy
  | false =>rw [hz] at hy;simp only [cond_false,mem_singleton] at hy;subst hy;exact zc8 h4 hz
theorem zhy {c:Xe} {i:Xd} (h:fits c i=true) (hs:sets i=true):0<=i.D_/\i.D_<c.Regs_.length:=by obtain ⟨r,hr,h1,_⟩:=zbn h;unfold sets at hs;rw [hr] at hs;simp only [not_eq_true'] at hs;exact zc8 h1 hs
def rdOk (set:List Bool) (i:Xd):Bool:=(zq i).all λy=>(set[y.toNat]?).getD false
theorem zal {α:Type} {l:List α} {y:Int} (h0:0<=y) (h1:y<l.length):∃ b,l[y.toNat]?=some b:=by
 have:y.toNat<l.length:=by omega
 exact ⟨_,getElem?_eq_getElem this⟩
theorem zl3 {n m:Nat} {c:Xe} {i:Xd} {set:List Bool} {news:List (List Int)} {op:List Int}
  (h:∀ y∈zq i,0<=y/\y<set.length) :
  iter (zl2 n (c.Sign_,c.Regs_,c.Slots_,c.List_,set,news,op,i) (((zq i).length:Int),zq i)) (m+4) 0=some (bif rdOk set i then .out ((zq i).length:Int) else .ret ()):=by
 refine z3v (λk hk=>?_) ?_ (by have:=z9u i;omega)
 ·have h3:=z9u i;obtain ⟨y0,y1⟩:=h _ (getElem_mem hk);obtain ⟨b,hb⟩:=zal y0 y1;rw [zil];have e1:decide ((k:Int)<((zq i).length:Int))=true:=by simp;omega
  have e2:(zq i)[(k:Int).toNat]?=some (zq i)[k]:=by simp [hk]
  simp only [e1,cond_true];rw [zg (by omega),e2];simp only [Option.bind_some];rw [zg ⟨y0,y1⟩,hb,z1g (by omega)];cases b<;>rfl
 ·rw [zil];simp
theorem zzp {n m:Nat} {c:Xe} {i:Xd} {set:List Bool} {op:List Xh} {b0:Bool} (h:∀ y∈zq i,0<=y/\y<set.length) :
  iter (zl6 n (c,i,set,op) (b0,zq i)) (m+4) 0=some (bif rdOk set i then .out ((zq i).length:Int) else .ret ()):=by
 refine z3v (λk hk=>?_) ?_ (by have:=z9u i;omega)
 ·have h3:=z9u i;obtain ⟨y0,y1⟩:=h _ (getElem_mem hk);obtain ⟨b,hb⟩:=zal y0 y1;rw [zio];have e1:decide ((k:Int)<((zq i).length:Int))=true:=by simp;omega
  have e2:(zq i)[(k:Int).toNat]?=some (zq i)[k]:=by simp [hk]
  have e3:idx set (zq i)[k]=some b:=by unfold idx;rw [if_pos y0,hb]
  simp only [e1,cond_true];rw [zg (by omega),e2];simp only [Option.bind_some];rw [e3,z1g (by omega),hb];cases b<;>rfl
 ·rw [zio];simp
def lst (op:List Int):Int:=match op.getLast? with | some x=>x | none=>-1
def undo (set:List Bool) (l:List Int):List Bool:=l.foldl (λs r=>s.set r.toNat false) set
def zeh (c:Xe) (k p:Int):Bool:=match idx c.Regs_ k with | some t=>t.Kind_==3&&(t.Param_==p&&true) | none=>false
def onD (i:Xd):Bool:=elem i.Op_||(i.Op_==29||(i.Op_==30||i.Op_==32))
def onA (i:Xd):Bool:=i.Op_==31||i.Op_==33
def zcb (c:Xe) (i:Xd) (p:Int):Bool:=bif onD i then zeh c i.D_ p else bif onA i then zeh c i.A_ p else false
theorem z5j {α:Type} (l:List α) (h:0<l.length):∃ x,l.getLast? = some x/\l[l.length - 1]?=some x:=by rw [List.getLast?_eq_getElem?];exact ⟨l[l.length - 1],by simp [h],by simp [h]⟩
theorem z85 {k:Nat} (h0:0<k) (h:k<4611686018427387904):(IntKind.i64.wrap ((k:Int) - 1)).toNat=k - 1/\0<=IntKind.i64.wrap ((k:Int) - 1)/\IntKind.i64.wrap ((k:Int) - 1)<k:=by rw [yfo h];omega
theorem zgs {R:Type} (op:List Int) (h:op.length<4611686018427387904):(bif (decide ((op.length:Int) > (0:Int))) then (need (0<=(IntKind.i64.wrap ((op.length:Int) - (1:Int)))/\(IntKind.i64.wrap ((op.length:Int) - (1:Int)))<(op.length:Int)) ((op[(IntKind.i64.wrap ((op.length:Int) - (1:Int))).toNat]?).bind λy1=>some (.inl y1))) else (some (.inl (-1:Int))):Option (Int⊕R))=some (.inl (lst op)):=by
 by_cases h0:0<op.length
 ·have e:decide ((op.length:Int) > 0)=true:=by simp;omega
  obtain ⟨w1,w2,w3⟩:=z85 h0 h;obtain ⟨x,x1,x2⟩:=z5j op h0;rw [e,cond_true,zg ⟨w2,w3⟩,w1,x2];unfold lst;rw [x1];rfl
 ·have:op=[]:=List.eq_nil_of_length_eq_zero (by omega);subst this;rfl
section
variable {n:Nat} {c:Xe} {i:Xd} {set:List Bool} {news:List (List Int)} {op:List Int}
theorem zzn (ho:op.length<4611686018427387904) (h:i.Op_=34):f36 n (c.Sign_,c.Regs_,c.Slots_,c.List_,set,news,op,i)=some (!(decide (lst op>=0)||(op.length:Int)==64),c.Sign_,c.Regs_,c.Slots_,c.List_,set,news,op):=by rw [zcz];dsimp only;rw [zgs op ho,h];have e1:((34:Int)==34)=true:=rfl;have e2:((34:Int)==36)=false:=rfl;simp only [Option.bind_some,orRet_inl,e1,e2,cond_true,cond_false];cases decide (lst op>=0)<;>cases ((op.length:Int)==64)<;>rfl
theorem zzl (ho:op.length<=64) (h:i.Op_=36):f36 n (c.Sign_,c.Regs_,c.Slots_,c.List_,set,news,op,i)=some (!(decide (lst op>=0)||(op.length:Int)==64),c.Sign_,c.Regs_,c.Slots_,c.List_,set,news,bif (decide (lst op>=0)||(op.length:Int)==64) then op else op++[i.N_]):=by rw [zcz];dsimp only;rw [zgs op (by omega),h];have e1:((36:Int)==34)=false:=rfl;have e2:((36:Int)==36)=true:=rfl;simp only [Option.bind_some,orRet_inl,e1,e2,cond_true,cond_false];rw [zg (by simp;omega)];cases decide (lst op>=0)<;>cases ((op.length:Int)==64)<;>rfl
theorem zzm (ho:op.length<=64) (h:i.Op_=37):f36 n (c.Sign_,c.Regs_,c.Slots_,c.List_,set,news,op,i)=some (!(decide (lst op<0)),c.Sign_,c.Regs_,c.Slots_,c.List_,set,news,bif decide (lst op<0) then op else op.dropLast):=by
 rw [zcz];dsimp only;rw [zgs op (by omega),h];have e1:((37:Int)==34)=false:=rfl;have e2:((37:Int)==36)=false:=rfl;have e3:((37:Int)==35)=false:=rfl;have e4:((37:Int)==37)=true:=rfl;simp only [Option.bind_some,orRet_inl,e1,e2,e3,e4,cond_true,cond_false];cases hl:decide (lst op<0) with
 | true=>rfl
 | false =>
  have h0:0<op.length:=by
   cases op with
   | nil=>simp [lst] at hl
   | cons _ _=>simp
  obtain ⟨w1,w2,w3⟩:=z85 h0 (by omega);rw [cond_false,zg ⟨w2,by omega⟩,w1,zg (by omega)];simp [dropLast_eq_take]
theorem zzk (ho:op.length<=64) (hf:fits c i=true) (h1:i.Op_≠34) (h2:i.Op_≠35) (h3:i.Op_≠36) (h4:i.Op_≠37) (hD:onD i=true->∃ t,idx c.Regs_ i.D_=some t) (hA:onA i=true->∃ t,idx c.Regs_ i.A_=some t) :
  f36 n (c.Sign_,c.Regs_,c.Slots_,c.List_,set,news,op,i)=some ((bif decide (lst op<0) then true else zcb c i (lst op)),c.Sign_,c.Regs_,c.Slots_,c.List_,set,news,op):=by
 rw [zcz];dsimp only;rw [zgs op (by omega)];have e1:(i.Op_==34)=false:=by simpa using h1
 have e2:(i.Op_==36)=false:=by simpa using h3
 have e3:(i.Op_==35)=false:=by simpa using h2
 have e4:(i.Op_==37)=false:=by simpa using h4
 simp only [Option.bind_some,orRet_inl,e1,e2,e3,e4,cond_true,cond_false,y6i];cases hl:decide (lst op<0) with
 | true=>rfl
 | false =>
  simp only [cond_false]
  have hB:(bif elem i.Op_ then some (Sum.inl (true,lst op)) else bif i.Op_==29 then some (.inl (true,lst op)) else bif i.Op_==30 then some (.inl (true,lst op)) else some (.inl (i.Op_==32,lst op)):Option (Bool×Int⊕(Bool×List Xa×List Xb×List Xc×List Xd×List Bool×List (List Int)×List Int)))=some (.inl (onD i,lst op)):=by unfold onD;cases elem i.Op_<;>cases i.Op_==29<;>cases i.Op_==30<;>rfl
  rw [hB,Option.bind_some,orRet_inl];dsimp only;unfold zcb;cases hd:onD i with
  | true =>obtain ⟨t,ht⟩:=hD hd;simp only [cond_true,zeh,ht,Option.bind_some]
  | false =>
   simp only [cond_false]
   have hB2:(bif i.Op_==31 then some (Sum.inl (true,lst op)) else some (.inl (i.Op_==33,lst op)):Option (Bool×Int⊕(Bool×List Xa×List Xb×List Xc×List Xd×List Bool×List (List Int)×List Int)))=some (.inl (onA i,lst op)):=by unfold onA;cases i.Op_==31<;>rfl
   rw [hB2,Option.bind_some,orRet_inl];dsimp only;cases ha:onA i with
   | true =>obtain ⟨t,ht⟩:=hA ha;simp only [cond_true,zeh,ht,Option.bind_some]
   | false=>rfl
theorem zmz (set:List Bool) (l:List Int):(undo set l).length=set.length:=by
 unfold undo
 induction l generalizing set with
 | nil=>rfl
 | cons x l ih=>simp only [foldl_cons];rw [ih];simp
theorem y4i {m:Nat} {nl:List Int} (ho:op.length<=64) (h:i.Op_=35) (hn:0<op.length->lst op<0->news.getLast? = some nl/\news.length<4611686018427387904/\nl.length<m+4/\nl.length<4611686018427387904/\∀ r∈nl,0<=r/\r<set.length) :
  f36 (m+4) (c.Sign_,c.Regs_,c.Slots_,c.List_,set,news,op,i)=some (!((op.length:Int)==0||decide (lst op>=0)),c.Sign_,c.Regs_,c.Slots_,c.List_,bif ((op.length:Int)==0||decide (lst op>=0)) then (set,news,op) else (undo set nl,news.dropLast,op.dropLast)):=by
 rw [zcz];dsimp only;rw [zgs op (by omega),h];have e1:((35:Int)==34)=false:=rfl;have e2:((35:Int)==36)=false:=rfl;have e3:((35:Int)==35)=true:=rfl;simp only [Option.bind_some,orRet_inl,e1,e2,e3,cond_true,cond_false]
 have hB:(bif ((op.length:Int)==0) then some (Sum.inl true) else some (.inl (decide (lst op>=0))):Option (Bool⊕(Bool×List Xa×List Xb×List Xc×List Xd×List Bool×List (List Int)×List Int)))=some (.inl ((op.length:Int)==0||decide (lst op>=0))):=by cases (op.length:Int)==0<;>rfl
 rw [hB,Option.bind_some,orRet_inl];cases hq:((op.length:Int)==0||decide (lst op>=0)) with
 | true=>rfl
 | false =>
  simp only [or_eq_false_iff,beq_eq_false_iff_ne,ne_eq,decide_eq_false_iff_not] at hq;have h0:0<op.length:=by omega
  obtain ⟨n1,n2,n3,n4,n5⟩:=hn h0 (by omega)
  have hnl:0<news.length:=by
   cases news with
   | nil=>simp at n1
   | cons _ _=>simp
  obtain ⟨w1,w2,w3⟩:=z85 h0 (by omega);obtain ⟨v1,v2,v3⟩:=z85 hnl n2;have hg:news[news.length - 1]?=some nl:=by rw [<- List.getLast?_eq_getElem?];exact n1
  simp only [cond_false];rw [zg ⟨v2,v3⟩,v1,hg];simp only [Option.bind_some]
  have hit:iter (zl1 (m+4) (c.Sign_,c.Regs_,c.Slots_,c.List_,set,news,op,i) (nl.length:Int)) (m+4) (0,set)=some (.out ((nl.length:Int),undo set nl)):=by
   refine zxu (F:=λ(s:List Bool) (r:Int)=>s.set r.toNat false) (Inv:=λ(s:List Bool)=>s.length=set.length) (λk s hk hs=>?_) (λs hs=>?_) n3 rfl
   ·obtain ⟨r0,r1⟩:=n5 _ (getElem_mem hk);obtain ⟨b,hb⟩:=zal (l:=s) r0 (by omega);rw [zik];have e1:decide ((k:Int)<(nl.length:Int))=true:=by simp;omega
    have e2:nl[(k:Int).toNat]?=some nl[k]:=by simp [hk]
    dsimp only;rw [e1,v1,hg];simp only [cond_true,Option.bind_some];rw [zg (by omega),e2];simp only [Option.bind_some];rw [zg ⟨r0,by omega⟩,hb,z1g (by omega)];exact ⟨rfl,by simpa using hs⟩
   ·rw [zik];simp
  rw [hit];simp only [Option.bind_some,Bo.then];rw [zg ⟨v2,by omega⟩,zg (by omega),zg ⟨w2,by omega⟩,w1,zg (by omega)];simp [dropLast_eq_take]
end
def z88 (news:List (List Int)) (d:Int):List (List Int):=match news.getLast? with | some l=>news.set (news.length - 1) (l++[d]) | none=>news
section
variable {n:Nat} {c:Xe} {i:Xd} {set:List Bool} {news:List (List Int)} {op:List Int}
theorem zzo {m:Nat} (h:i.Op_=34) (hr:∀ y∈zq i,0<=y/\y<set.length) (ho:op.length<=64) (hn:news.length<=64) :
  f37 (m+4) (c.Sign_,c.Regs_,c.Slots_,c.List_,set,news,op,i)=some (rdOk set i,c.Sign_,c.Regs_,c.Slots_,c.List_,set,bif rdOk set i then news++[[]] else news,bif rdOk set i then op++[-1] else op):=by
 rw [zt8];dsimp only;rw [zrr];simp only [Option.bind_some];rw [zl3 hr];cases rdOk set i with
 | false=>rfl
 | true =>
  have e1:((34:Int)==34)=true:=rfl
  have hs:sets i=false:=by unfold sets;rw [h];rfl
  simp only [cond_true,Option.bind_some,Bo.then,h,e1];rw [zg (by simp;omega),zg (by simp;omega)];simp only [Option.bind_some,orRet_inl,zg6,hs,cond_false]
theorem zbg {m:Nat} (h:i.Op_≠34) (hr:∀ y∈zq i,0<=y/\y<set.length) (hD:sets i=true->0<=i.D_/\i.D_<set.length) (hn:news.length<=64) (hnl:∀ l∈news,l.length<1000000) :
  f37 (m+4) (c.Sign_,c.Regs_,c.Slots_,c.List_,set,news,op,i)=some (rdOk set i,c.Sign_,c.Regs_,c.Slots_,c.List_,bif rdOk set i&&(sets i&&!((set[i.D_.toNat]?).getD false)) then (set.set i.D_.toNat true,z88 news i.D_,op) else (set,news,op)):=by
 rw [zt8];dsimp only;rw [zrr];simp only [Option.bind_some];rw [zl3 hr];cases rdOk set i with
 | false=>rfl
 | true =>
  have e1:(i.Op_==34)=false:=by simpa using h
  simp only [cond_true,Option.bind_some,Bo.then,e1,cond_false,orRet_inl,zg6];cases hs:sets i with
  | false=>rfl
  | true =>
   obtain ⟨d0,d1⟩:=hD hs;obtain ⟨b,hb⟩:=zal d0 d1;simp only [cond_true];rw [zg ⟨d0,d1⟩,hb];simp only [Option.bind_some,orRet_inl,getD_some];cases b with
   | true=>rfl
   | false =>
    simp only [Bool.not_false,cond_true,Bool.and_self];rw [zg ⟨d0,d1⟩];by_cases h0:0<news.length
    ·obtain ⟨w1,w2,w3⟩:=z85 h0 (by omega);obtain ⟨l,l1,l2⟩:=z5j news h0;have e2:decide (IntKind.i64.wrap ((news.length:Int) - 1)>=0)=true:=by simpa using w2
     have hl:l.length<1000000:=hnl l (List.mem_of_getLast? l1);rw [e2,cond_true,zg ⟨w2,w3⟩,w1,l2];simp only [Option.bind_some];rw [zg (by simp;omega),zg ⟨w2,w3⟩,zg (p:=True/\news.length - 1<news.length) ⟨trivial,by omega⟩];unfold z88;rw [l1]
    ·have:news=[]:=List.eq_nil_of_length_eq_zero (by omega);subst this;rfl
end
def vecP (c:Xe) (i:Xd):Int:=match idx c.Regs_ (bif onD i then i.D_ else bif onA i then i.A_ else -1) with | some t=>bif t.Kind_==3 then t.Param_ else -1 | none=>-1
theorem y7t {n:Nat} {c:Xe} {i:Xd}:f60 n (c,i)=some (vecP c i):=by
 rw [y7s];simp only [y6k,Option.bind_some]
 have hB:((bif elem i.Op_ then some (Sum.inl true) else bif i.Op_==29 then some (.inl true) else bif i.Op_==30 then some (.inl true) else some (.inl (i.Op_==32)):Option (Bool⊕(Int⊕Int))).bind (zj λs1=>bif s1 then some (Sum.inl i.D_) else (bif i.Op_==31 then some (Sum.inl true) else some (.inl (i.Op_==33)):Option (Bool⊕(Int⊕Int))).bind (zj λs2=>bif s2 then some (Sum.inl i.A_) else some (.inl (-1:Int)))))
   = some (.inl (bif onD i then i.D_ else bif onA i then i.A_ else -1)):=by
  unfold onD onA;cases elem i.Op_<;>cases i.Op_==29<;>cases i.Op_==30<;>cases i.Op_==32<;>cases i.Op_==31<;>cases i.Op_==33<;>rfl
 rw [hB,Option.bind_some,orRet_inl];unfold vecP;generalize (bif onD i then i.D_ else bif onA i then i.A_ else -1)=k;by_cases h0:k<0
 ·rw [z1y (.inl h0)];simp [h0]
 ·by_cases h1:k>=c.Regs_.length
  ·rw [z1y (.inr h1)];simp [h0,h1]
  ·obtain ⟨t,ht,_⟩:=z6m (l:=c.Regs_) (n:=k) (by omega) (by omega);have e1:decide (k<0)=false:=by simpa using h0
   have e2:decide (k>=(c.Regs_.length:Int))=false:=by simp;omega
   have e3:(t.Kind_ != 3) = !(t.Kind_==3):=rfl;simp only [e1,e2,ht,cond_false,Option.bind_some,orRet_inl,e3];cases t.Kind_==3<;>rfl
theorem yd4 {c:Xe} {i:Xd} {p:Int} (hp:0<=p):(vecP c i != p) = !(zcb c i p):=by
 have key:∀ k:Int,((match idx c.Regs_ k with | some t=>bif t.Kind_==3 then t.Param_ else -1 | none=>-1) != p) = !(zeh c k p):=λk=>by
  unfold zeh;have e:((-1:Int) != p)=true:=by simp;omega
  cases idx c.Regs_ k with
  | none=>exact e
  | some t =>
   simp only;cases t.Kind_==3 with
   | false=>exact e
   | true=>simp [bne]
 have e:((-1:Int) != p)=true:=by simp;omega
 unfold vecP zcb;cases onD i with
 | true=>exact key _
 | false =>
  simp only [cond_false];cases onA i with
  | true=>exact key _
  | false =>simp only [cond_false,Bool.not_false];rw [z1y (.inl (by decide))];exact e
def z11 (o:List Xh):Bool:=match o.getLast? with | some x=>x.Op_==36 | none=>false
def lstP (o:List Xh):Int:=match o.getLast? with | some x=>x.Param_ | none=>0
def z44 (i:Xd) (o:List Xh):Bool :=
 bif i.Op_==34||i.Op_==36 then decide ((o.length:Int)<64) else bif i.Op_==35 then (decide ((o.length:Int) > 0)&&!(z11 o)) else bif i.Op_==37 then z11 o else true
def z12 (c:Xe) (i:Xd) (set:List Bool) (o:List Xh):Bool :=
 fits c i&&(!(z11 o&&(!(i.Op_==37)&&vecP c i != lstP o))&&(rdOk set i&&z44 i o))
theorem y78 {m:Nat} {c:Xe} {i:Xd} {set:List Bool} {o:List Xh} (hr:∀ t∈c.Regs_,mayT c.Sign_ t=true) (h0:0<=i.Bits_) (h1:i.Bits_<4294967296)
  (hs:set.length=c.Regs_.length) (ho:o.length<4611686018427387904):f41 (m+4) (c,i,set,o)=some (z12 c i set o):=by
 rw [y77]
 have hL:(bif (decide ((o.length:Int) > (0:Int))) then ((idx o (IntKind.i64.wrap ((o.length:Int) - (1:Int)))).bind λy1=>some (Sum.inl (y1.Op_==36))) else (some (.inl false)):Option (Bool⊕Bool))=some (.inl (z11 o)):=by
  by_cases q:0<o.length
  ·have e:decide ((o.length:Int) > 0)=true:=by simp;omega
   obtain ⟨w1,w2,w3⟩:=z85 q ho;obtain ⟨x,x1,x2⟩:=z5j o q;have e2:idx o (IntKind.i64.wrap ((o.length:Int) - 1))=some x:=by unfold idx;rw [if_pos w2,w1,x2]
   rw [e,e2];unfold z11;rw [x1];rfl
  ·have:o=[]:=List.eq_nil_of_length_eq_zero (by omega);subst this;rfl
 have hP:z11 o=true->idx o (IntKind.i64.wrap ((o.length:Int) - 1))=o.getLast?:=λhl=>by
  have q:0<o.length:=by
   cases o with
   | nil=>cases hl
   | cons _ _=>simp
  obtain ⟨w1,w2,w3⟩:=z85 q ho;obtain ⟨x,x1,x2⟩:=z5j o q;unfold idx;rw [if_pos w2,w1,x2,x1]
 dsimp only;rw [hL,Option.bind_some,orRet_inl];simp only [y7r hr h0 h1,y7t,Option.bind_some];unfold z12;cases hf:fits c i with
 | false=>rfl
 | true =>
  have hB:(bif z11 o then (bif i.Op_ != 37 then ((idx o (IntKind.i64.wrap ((o.length:Int) - 1))).bind λy4=>some (Sum.inl (z11 o,vecP c i != y4.Param_))) else some (.inl (z11 o,false))) else some (.inl (z11 o,false)):Option (Bool×Bool⊕Bool))=some (.inl (z11 o,z11 o&&(!(i.Op_==37)&&vecP c i != lstP o))):=by
   have e1:(i.Op_ != 37) = !(i.Op_==37):=rfl;rw [e1];cases hl:z11 o with
   | false=>rfl
   | true =>
    rw [hP hl];cases i.Op_==37 with
    | true=>rfl
    | false =>
     unfold lstP;cases hg:o.getLast? with
     | none=>unfold z11 at hl;rw [hg] at hl;cases hl
     | some x=>rfl
  simp only [Bool.not_true,cond_false];rw [hB,Option.bind_some,orRet_inl];dsimp only;cases hb:(z11 o&&(!(i.Op_==37)&&vecP c i != lstP o)) with
  | true=>rfl
  | false =>
   simp only [cond_false,y6d,Option.bind_some,Bool.not_false,Bool.true_and];rw [zzp (λy hy=>by rw [hs];exact zmg hf y hy)];cases rdOk set i with
   | false=>rfl
   | true =>simp only [cond_true,Option.bind_some,Bo.then,Bool.true_and];unfold z44;cases i.Op_==34<;>cases i.Op_==36<;>cases i.Op_==35<;>cases i.Op_==37<;>cases decide ((o.length:Int) > 0)<;>rfl
def code (o:Xh):Int:=bif o.Op_==36 then o.Param_ else -1
def z3s (o:Xh):Bool:=o.Op_==34
def z9b (N:Nat):List Bool->List (List Int)->List Xh->Prop
 | _,[],[]=>True
 | set,l::ls,w::ws=>undo set l=w.Set_/\l.length<=N/\(∀ r∈l,0<=r/\r<set.length)/\z9b N w.Set_ ls ws
 | _,_,_=>False
structure Two (c:Xe) (N:Nat) (set:List Bool) (news:List (List Int)) (op:List Int) (o:List Xh):Prop where
 len:set.length=c.Regs_.length
 op:op=o.map code
 le:o.length<=64
 ok:∀ x∈o,x.Op_=34\/(x.Op_=36/\0<=x.Param_)
 ch:z9b N set news.reverse (o.filter z3s).reverse
theorem y5j {i:Xd} {r:z3m} (h:rowD i.Op_=some r) (hd:onD i=true):(r.d==0)=false:=by
 obtain ⟨op,d,a,b,c,N,bits⟩:=i;dsimp only at h;rcases z3t op with (rfl | rfl | rfl | rfl | rfl | rfl | rfl | rfl | rfl | rfl | rfl | rfl | rfl | rfl | rfl | rfl | rfl | rfl | rfl | rfl | rfl | rfl | rfl | rfl | rfl | rfl | rfl | rfl | rfl | rfl | rfl | rfl | rfl | rfl | rfl | rfl | rfl) | h0
 iterate 37 (· first | (cases h;rfl) | (exact absurd hd (by decide)) | (cases h;revert hd;simp [onD,elem]))
 rw [z30 h0] at h;cases h
theorem y5h {i:Xd} {r:z3m} (h:rowD i.Op_=some r) (hd:onA i=true):(r.a==0)=false:=by
 obtain ⟨op,d,a,b,c,N,bits⟩:=i;dsimp only at h;rcases z3t op with (rfl | rfl | rfl | rfl | rfl | rfl | rfl | rfl | rfl | rfl | rfl | rfl | rfl | rfl | rfl | rfl | rfl | rfl | rfl | rfl | rfl | rfl | rfl | rfl | rfl | rfl | rfl | rfl | rfl | rfl | rfl | rfl | rfl | rfl | rfl | rfl | rfl) | h0
 iterate 37 (· first | (cases h;rfl) | (exact absurd hd (by decide)) | (cases h;revert hd;simp [onA]))
 rw [z30 h0] at h;cases h
theorem y5i {c:Xe} {i:Xd} (h:fits c i=true) (hd:onD i=true):∃ t,idx c.Regs_ i.D_=some t:=by obtain ⟨r,hr,h1,_⟩:=zbn h;exact z4m h1 (y5j hr hd)
theorem y5g {c:Xe} {i:Xd} (h:fits c i=true) (hd:onA i=true):∃ t,idx c.Regs_ i.A_=some t:=by obtain ⟨r,hr,_,h1,_⟩:=zbn h;exact z4m h1 (y5h hr hd)
section
variable {c:Xe} {N:Nat} {set:List Bool} {news:List (List Int)} {op:List Int} {o:List Xh} {i:Xd}
theorem Two.lst (h:Two c N set news op o):lst op=(match o.getLast? with | some x=>code x | none=>-1):=by unfold Loom.lst;rw [h.op,List.getLast?_map];cases o.getLast?<;>rfl
theorem Two.loop (h:Two c N set news op o):decide (Loom.lst op>=0)=z11 o/\(z11 o=true->Loom.lst op=lstP o/\0<=lstP o):=by
 rw [h.lst];unfold z11 lstP;cases hg:o.getLast? with
 | none=>exact ⟨by decide,λh=>by cases h⟩
 | some x =>
  have hx:=h.ok x (List.mem_of_getLast? hg);rcases hx with hx | ⟨hx,hp⟩
  ·have e:code x = -1:=by unfold code;rw [hx];rfl
   have e2:(x.Op_==36)=false:=by rw [hx];rfl
   simp only [e,e2];exact ⟨by decide,λh=>by cases h⟩
  ·have e:code x=x.Param_:=by unfold code;rw [hx];rfl
   have e2:(x.Op_==36)=true:=by rw [hx];rfl
   simp only [e,e2];exact ⟨by simpa using hp,λ_=>⟨by trivial,hp⟩⟩
theorem y3j (x:Int):decide (x<0) = !(decide (x>=0)):=by
 by_cases h:x<0
 ·have:¬ x>=0:=by omega
  simp [h]
 ·have:x>=0:=by omega
  simp [h,this]
theorem z39 {N M:Nat} (hNM:N<=M):∀ (set:List Bool) (ls:List (List Int)) (ws:List Xh),z9b N set ls ws->z9b M set ls ws
 | _,[],[],_=>trivial
 | set,l::ls,w::ws,h=>⟨h.1,Nat.le_trans h.2.1 hNM,h.2.2.1,z39 hNM _ ls ws h.2.2.2⟩
 | _,[],_::_,h=>h.elim
 | _,_::_,[],h=>h.elim
theorem zi7 {N:Nat}:∀ (set:List Bool) (ls:List (List Int)) (ws:List Xh),z9b N set ls ws->ls.length=ws.length
 | _,[],[],_=>rfl
 | set,l::ls,w::ws,h=>by simp [zi7 _ ls ws h.2.2.2]
 | _,[],_::_,h=>h.elim
 | _,_::_,[],h=>h.elim
theorem zkg {N:Nat}:∀ (set:List Bool) (ls:List (List Int)) (ws:List Xh),z9b N set ls ws->∀ l∈ls,l.length<=N
 | _,[],[],_,l,hl=>by cases hl
 | set,l::ls,w::ws,h,x,hx=>by
  rcases List.mem_cons.1 hx with rfl | hx
  ·exact h.2.1
  ·exact zkg _ ls ws h.2.2.2 x hx
 | _,[],_::_,h,_,_=>h.elim
 | _,_::_,[],h,_,_=>h.elim
theorem Two.newsOk (h:Two c N set news op o):news.length<=64/\∀ l∈news,l.length<=N:=by have h1:=zi7 _ _ _ h.ch;simp only [List.length_reverse] at h1;have h2:=List.length_filter_le z3s o;have:=h.le;exact ⟨by omega,λl hl=>zkg _ _ _ h.ch l (by simpa using hl)⟩
def zdb (c:Xe) (i:Xd) (op:List Int):Bool :=
 bif i.Op_==34||i.Op_==36 then !(decide (Loom.lst op>=0)||(op.length:Int)==64) else bif i.Op_==35 then !((op.length:Int)==0||decide (Loom.lst op>=0)) else bif i.Op_==37 then !(decide (Loom.lst op<0)) else
  bif decide (Loom.lst op<0) then true else zcb c i (Loom.lst op)
theorem zqs {k:Int} (h:i.Op_=k) (hk:k=34\/k=35\/k=36):vecP c i = -1:=by
 unfold vecP onD onA elem;rw [h];rcases hk with rfl | rfl | rfl
 all_goals
  show (match idx c.Regs_ (-1) with | some t=>bif t.Kind_==3 then t.Param_ else -1 | none=>-1)=_;rw [z1y (.inl (by decide))]
theorem Two.place (h:Two c N set news op o):zdb c i op=(!(z11 o&&(!(i.Op_==37)&&vecP c i != lstP o))&&z44 i o):=by
 obtain ⟨h1,h2⟩:=h.loop;have hlen:op.length=o.length:=by rw [h.op];simp
 have hle:=h.le;unfold zdb z44;rw [y3j,h1,hlen];by_cases q4:i.Op_=34\/i.Op_=36
 ·have e1:(i.Op_==34||i.Op_==36)=true:=by rcases q4 with q | q<;>rw [q]<;>rfl
  have e2:(i.Op_==37)=false:=by rcases q4 with q | q<;>rw [q]<;>rfl
  have e3:vecP c i = -1:=by rcases q4 with q | q<;>exact zqs q (by simp)
  have e4:((o.length:Int)==64) = !(decide ((o.length:Int)<64)):=by
   by_cases q:o.length<64
   ·have:¬ (o.length:Int)=64:=by omega
    have q':(o.length:Int)<64:=by omega
    simp [this,q']
   ·have:(o.length:Int)=64:=by omega
    simp [this]
  rw [e1,e2,e3,e4];simp only [cond_true];cases hl:z11 o with
  | false=>simp
  | true =>
   have:=(h2 hl).2;have e5:((-1:Int) != lstP o)=true:=by simp;omega
   rw [e5];simp
 ·have e1:(i.Op_==34||i.Op_==36)=false:=by have a1:¬ i.Op_=34:=λq=>q4 (.inl q);have a2:¬ i.Op_=36:=λq=>q4 (.inr q);simp [a1,a2]
  rw [e1];simp only [cond_false];by_cases q5:i.Op_=35
  ·have e2:(i.Op_==35)=true:=by rw [q5];rfl
   have e3:(i.Op_==37)=false:=by rw [q5];rfl
   have e4:vecP c i = -1:=zqs q5 (by simp)
   have e6:((o.length:Int)==0) = !(decide ((o.length:Int) > 0)):=by
    by_cases q:0<o.length
    ·have a1:((o.length:Int)==0)=false:=by simp only [beq_eq_false_iff_ne,ne_eq];omega
     have a2:decide ((o.length:Int) > 0)=true:=by simp only [decide_eq_true_eq];omega
     rw [a1,a2];rfl
    ·have:(o.length:Int)=0:=by omega
     simp [this]
   rw [e2,e3,e4,e6];simp only [cond_true];cases hl:z11 o with
   | false=>simp
   | true =>
    have:=(h2 hl).2;have e5:((-1:Int) != lstP o)=true:=by simp;omega
    rw [e5];simp
  ·have e2:(i.Op_==35)=false:=by simpa using q5
   rw [e2];simp only [cond_false];cases i.Op_==37 with
   | true =>simp only [cond_true];cases z11 o<;>rfl
   | false =>
    simp only [cond_false];cases hl:z11 o with
    | false=>rfl
    | true =>obtain ⟨p1,p2⟩:=h2 hl;rw [p1,yd4 p2];cases zcb c i (lstP o)<;>rfl
end
def z9r (i:Xd) (set:List Bool) (news:List (List Int)) (op:List Int):List Bool×List (List Int)×List Int :=
 bif i.Op_==34 then (set,news++[[]],op++[-1]) else bif i.Op_==36 then (set,news,op++[i.N_]) else
 bif i.Op_==35 then (undo set (news.getLast?.getD []),news.dropLast,op.dropLast) else bif i.Op_==37 then (set,news,op.dropLast) else
 bif sets i&&!((set[i.D_.toNat]?).getD false) then (set.set i.D_.toNat true,z88 news i.D_,op) else (set,news,op)
def okI (c:Xe) (i:Xd) (set:List Bool) (op:List Int):Bool:=fits c i&&(zdb c i op&&rdOk set i)
section
variable {c:Xe} {N:Nat} {set:List Bool} {news:List (List Int)} {op:List Int} {o:List Xh} {i:Xd}
theorem zfb {k:Int} (h:i.Op_=k) (hk:k=35\/k=36\/k=37):zq i=[]/\sets i=false:=by unfold zq sets;rw [h];rcases hk with rfl | rfl | rfl<;>exact ⟨rfl,rfl⟩
theorem Two.last (h:Two c N set news op o) (h0:0<op.length) (h1:Loom.lst op<0):∃ l w,news.getLast? = some l/\o.getLast? = some w/\w.Op_=34/\undo set l=w.Set_/\l.length<=N/\(∀ r∈l,0<=r/\r<set.length)/\z9b N w.Set_ news.dropLast.reverse (o.dropLast.filter z3s).reverse:=by
 have hlen:op.length=o.length:=by rw [h.op];simp
 obtain ⟨w,w1,w2⟩:=z5j o (by omega)
 have hw:w.Op_=34:=by
  rcases h.ok w (List.mem_of_getLast? w1) with q | ⟨q,p⟩
  ·exact q
  ·rw [h.lst,w1] at h1;simp only [code,q] at h1;have:(bif ((36:Int)==36) then w.Param_ else -1)=w.Param_:=rfl;omega
 have ho:o=o.dropLast++[w]:=by
  have hne:o≠[]:=λe=>by rw [e] at w1;cases w1
  have:=List.dropLast_concat_getLast hne;rw [List.getLast?_eq_some_getLast hne] at w1;rw [<- Option.some.inj w1];exact this.symm
 have hc:=h.ch;rw [ho,filter_append] at hc;have e:[w].filter z3s=[w]:=by simp [z3s,hw]
 rw [e,List.reverse_append,List.reverse_singleton,List.singleton_append] at hc;cases hn:news.reverse with
 | nil=>rw [hn] at hc;exact hc.elim
 | cons l ls =>
  rw [hn] at hc
  have hnews:news=ls.reverse++[l]:=by have:=congrArg reverse hn;simpa using this
  refine ⟨l,w,by rw [hnews];simp,w1,hw,hc.1,hc.2.1,hc.2.2.1,?_⟩;have:news.dropLast=ls.reverse:=by rw [hnews];simp
  rw [this,List.reverse_reverse];exact hc.2.2.2
theorem zzf {m k:Nat} {x:Xe} {v:List Xd×Int×List Xa×List Xb×List Xc} (h:Two c N set news op o) (hN:N<1000000) (hm:N<m) (hr:∀ t∈c.Regs_,mayT c.Sign_ t=true) (h0:0<=i.Bits_) (h1:i.Bits_<4294967296)
  (hk:k<1000000) (hv:decide ((k:Int)<v.2.1)=true) (hi:idx v.1 (k:Int)=some i) :
  zcw (m+5) x v ((k:Int),c.Sign_,c.Regs_,c.Slots_,c.List_,set,news,op)=some (bif okI c i set op then .go (((k+1:Nat):Int),c.Sign_,c.Regs_,c.Slots_,c.List_,z9r i set news op) else .ret (k:Int)):=by
 rw [zia];dsimp only;rw [hv,hi];simp only [cond_true,Option.bind_some];rw [y71 m hr h0 h1];unfold okI;cases hf:fits c i with
 | false=>rfl
 | true =>
  have hle:op.length<=64:=by rw [h.op];simpa using h.le
  obtain ⟨n1,n2⟩:=h.newsOk;have hrd:∀ y∈zq i,0<=y/\y<set.length:=λy hy=>by rw [h.len];exact zmg hf y hy
  have hD:sets i=true->0<=i.D_/\i.D_<set.length:=λhs=>by rw [h.len];exact zhy hf hs
  simp only [Option.bind_some,Bool.not_true,cond_false,Bool.true_and];unfold zdb z9r;by_cases q34:i.Op_=34
  ·have e1:(i.Op_==34)=true:=by simpa using q34
   rw [zzn (n:=m+5) (by omega) q34];simp only [e1,Bool.true_or,cond_true,Option.bind_some];cases hp:(decide (Loom.lst op>=0)||(op.length:Int)==64) with
   | true=>rfl
   | false =>
    simp only [Bool.not_false,Bool.not_true,cond_false,Bool.true_and];rw [zzo (m:=m+1) q34 hrd hle n1];cases rdOk set i with
    | false=>rfl
    | true =>simp only [Option.bind_some,orRet_inl,Bool.not_true,cond_false,cond_true,z1g (show k<4611686018427387904 by omega)]
  ·have e1:(i.Op_==34)=false:=by simpa using q34
   by_cases q36:i.Op_=36
   ·have e2:(i.Op_==36)=true:=by simpa using q36
    obtain ⟨r1,r2⟩:=zfb q36 (by simp);have r3:rdOk set i=true:=by unfold rdOk;rw [r1];rfl
    rw [zzl (n:=m+5) hle q36];simp only [e1,e2,Bool.false_or,cond_true,cond_false,Option.bind_some];cases hp:(decide (Loom.lst op>=0)||(op.length:Int)==64) with
    | true=>rfl
    | false =>simp only [Bool.not_false,Bool.not_true,cond_false,Bool.true_and];rw [zbg (m:=m+1) q34 hrd hD n1 (λl hl=>by have:=n2 l hl;omega)];simp only [r2,r3,Bool.false_and,Bool.and_false,Option.bind_some,orRet_inl,Bool.not_true,cond_false,cond_true,z1g (show k<4611686018427387904 by omega)]
   ·have e2:(i.Op_==36)=false:=by simpa using q36
    by_cases q35:i.Op_=35
    ·have e3:(i.Op_==35)=true:=by simpa using q35
     obtain ⟨r1,r2⟩:=zfb q35 (by simp)
     rw [y4i (m:=m+1) (nl:=news.getLast?.getD []) hle q35 (λz1 z2=>by obtain ⟨l,w,a1,a2,a3,a4,a5,a6,a7⟩:=h.last z1 z2;rw [a1];exact ⟨rfl,by omega,by simp only [getD_some];omega,by simp only [getD_some];omega,a6⟩)]
     simp only [e1,e2,e3,Bool.false_or,cond_true,cond_false,Option.bind_some];cases hp:((op.length:Int)==0||decide (Loom.lst op>=0)) with
     | true=>rfl
     | false =>
      have r3:rdOk set i=true:=by unfold rdOk;rw [r1];rfl
      simp only [Bool.not_false,Bool.not_true,cond_false,Bool.true_and,r3]
      rw [zbg (m:=m+1) q34 (λy hy=>by rw [r1] at hy;cases hy) (λhs=>by rw [r2] at hs;cases hs) (by simp;omega) (λl hl=>by have:=n2 l ((List.dropLast_sublist _).subset hl);omega)]
      have r4:rdOk (undo set (news.getLast?.getD [])) i=true:=by unfold rdOk;rw [r1];rfl
      simp only [r2,r4,Bool.false_and,Bool.and_false,Option.bind_some,orRet_inl,Bool.not_true,cond_false,cond_true,z1g (show k<4611686018427387904 by omega)]
    ·have e3:(i.Op_==35)=false:=by simpa using q35
     by_cases q37:i.Op_=37
     ·have e4:(i.Op_==37)=true:=by simpa using q37
      obtain ⟨r1,r2⟩:=zfb q37 (by simp);have r3:rdOk set i=true:=by unfold rdOk;rw [r1];rfl
      rw [zzm (n:=m+5) hle q37];simp only [e1,e2,e3,e4,Bool.false_or,cond_true,cond_false,Option.bind_some];cases hp:decide (Loom.lst op<0) with
      | true=>rfl
      | false =>simp only [Bool.not_false,Bool.not_true,cond_false,Bool.true_and];rw [zbg (m:=m+1) q34 hrd hD n1 (λl hl=>by have:=n2 l hl;omega)];simp only [r2,r3,Bool.false_and,Bool.and_false,Option.bind_some,orRet_inl,Bool.not_true,cond_false,cond_true,z1g (show k<4611686018427387904 by omega)]
     ·have e4:(i.Op_==37)=false:=by simpa using q37
      rw [zzk (n:=m+5) hle hf q34 q35 q36 q37 (y5i hf) (y5g hf)];simp only [e1,e2,e3,e4,Bool.false_or,cond_true,cond_false,Option.bind_some];cases hp:(bif decide (Loom.lst op<0) then true else zcb c i (Loom.lst op)) with
      | false=>rfl
      | true =>
       simp only [Bool.not_false,Bool.not_true,cond_false,Bool.true_and];rw [zbg (m:=m+1) q34 hrd hD n1 (λl hl=>by have:=n2 l hl;omega)];cases rdOk set i with
       | false=>rfl
       | true =>simp only [Bool.true_and,Option.bind_some,orRet_inl,Bool.not_true,cond_false,cond_true,z1g (show k<4611686018427387904 by omega)]
end
def z1e (i:Xd) (set:List Bool) (o:List Xh):List Bool×List Xh :=
 bif i.Op_==34||i.Op_==36 then (set,o++[⟨i.Op_,i.N_,set⟩]) else bif i.Op_==35 then ((o.getLast?.getD ⟨0,0,[]⟩).Set_,o.dropLast) else bif i.Op_==37 then (set,o.dropLast) else
  bif sets i then (set.set i.D_.toNat true,o) else (set,o)
theorem zta {n:Nat} {s:List Bool} (h:s.length<=140737488355328):f42 n s=some s:=by rw [y79,zg (by omega)]
section
variable {c:Xe} {N:Nat} {set:List Bool} {news:List (List Int)} {op:List Int} {o:List Xh} {i:Xd}
theorem zzh {m k:Nat} (h:Two c N set news op o) (hr:∀ t∈c.Regs_,mayT c.Sign_ t=true) (hR:c.Regs_.length<=1000000) (h0:0<=i.Bits_) (h1:i.Bits_<4294967296)
  (hk:k<1000000) (hv:k<c.List_.length) (hi:idx c.List_ (k:Int)=some i) :
  zcx (m+4) c () ((k:Int),set,o)=some (bif z12 c i set o then .go (((k+1:Nat):Int),z1e i set o) else .ret (k:Int)):=by
 have hle:=h.le;have hlen:=h.len;rw [zie];have e1:decide ((k:Int)<(c.List_.length:Int))=true:=by simp;omega
 dsimp only;rw [e1,hi];simp only [cond_true,Option.bind_some];rw [y78 hr h0 h1 hlen (by omega)];have w:IntKind.i64.wrap ((k:Int)+1)=((k+1:Nat):Int):=z1g (by omega);cases hs:z12 c i set o with
 | false=>rfl
 | true =>
  simp only [Option.bind_some,Bool.not_true,cond_false,cond_true];have hs':=hs;unfold z12 at hs';simp only [and_eq_true] at hs';obtain ⟨hf,hv1,hrd,hp⟩:=hs';unfold z1e
  have hB:(bif i.Op_==34 then some (Sum.inl (true,i.Op_,i.D_,i.A_,i.B_,i.C_,i.N_,i.Bits_)) else some (.inl (i.Op_==36,i.Op_,i.D_,i.A_,i.B_,i.C_,i.N_,i.Bits_)):Option (Bool×Int×Int×Int×Int×Int×Int×Int⊕Bo (Int×List Bool×List Xh) (Int×List Bool×List Xh) Int))
    = some (.inl (i.Op_==34||i.Op_==36,i.Op_,i.D_,i.A_,i.B_,i.C_,i.N_,i.Bits_)):=by
   cases i.Op_==34<;>rfl
  rw [hB,Option.bind_some,orRet_inl];dsimp only;cases q1:(i.Op_==34||i.Op_==36) with
  | true =>simp only [cond_true];rw [zta (by omega)];simp only [Option.bind_some];rw [zg (by simp;omega),w]
  | false =>
   simp only [cond_false];unfold z44 at hp;rw [q1] at hp;simp only [cond_false] at hp;cases q2:i.Op_==35 with
   | true =>
    rw [q2] at hp;simp only [cond_true,and_eq_true,decide_eq_true_eq] at hp;have hpos:0<o.length:=by omega
    obtain ⟨w1,w2,w3⟩:=z85 hpos (by omega);obtain ⟨x,x1,x2⟩:=z5j o hpos;simp only [cond_true];rw [zg ⟨w2,w3⟩,w1,x2,x1];simp only [Option.bind_some,getD_some]
    have hx:x.Set_.length<=140737488355328:=by
     have hl0:Loom.lst op<0:=by have:=h.loop.1;rw [<- this] at hp;simp at hp;omega
     obtain ⟨l,wv,a1,a2,a3,a4,_⟩:=h.last (by rw [h.op];simpa using hpos) hl0;rw [x1] at a2;cases a2;rw [<- a4,zmz];omega
    rw [zta hx];simp only [Option.bind_some];rw [zg ⟨w2,by omega⟩,zg (by omega),w];simp [dropLast_eq_take]
   | false =>
    rw [q2] at hp;simp only [cond_false] at hp ⊢;cases q3:i.Op_==37 with
    | true =>
     rw [q3] at hp;simp only [cond_true] at hp ⊢
     have hpos:0<o.length:=by
      cases o with
      | nil=>cases hp
      | cons _ _=>simp
     obtain ⟨w1,w2,w3⟩:=z85 hpos (by omega);rw [zg ⟨w2,by omega⟩,w1,zg (by omega),w];simp [dropLast_eq_take]
    | false =>
     have e:(⟨i.Op_,i.D_,i.A_,i.B_,i.C_,i.N_,i.Bits_⟩:Xd)=i:=rfl;simp only [cond_false,e,y6g,Option.bind_some];cases hss:sets i with
     | false=>simp only [cond_false,w]
     | true =>obtain ⟨d0,d1⟩:=zhy hf hss;obtain ⟨b,hb⟩:=zal (l:=set) d0 (by omega);simp only [cond_true];rw [zg ⟨d0,by omega⟩,hb];simp only [Option.bind_some,w]
theorem zmy (l:List Int):∀ (set:List Bool) (j:Nat),(undo set l)[j]?=if l.any (λr=>r.toNat==j) then (set[j]?).map (λ_=>false) else set[j]?:=by
 unfold undo
 induction l with
 | nil=>intro set j;simp
 | cons r l ih =>
  intro set j;simp only [foldl_cons];rw [ih,any_cons];by_cases h:r.toNat=j
  ·subst h;simp only [beq_self_eq_true,Bool.true_or,if_true];split
   ·by_cases hj:r.toNat<set.length
    ·simp [hj]
    ·simp [hj]
   ·by_cases hj:r.toNat<set.length
    ·simp [hj]
    ·simp [hj]
  ·have e:(r.toNat==j)=false:=by simpa using h
   rw [e,Bool.false_or,List.getElem?_set_ne h]
theorem y0e {l:List Int} {set:List Bool} {d:Int} (hd:set[d.toNat]?=some false):undo (set.set d.toNat true) (l++[d])=undo set l:=by
 apply ext_getElem?;intro j
 have hlt:d.toNat<set.length:=by obtain ⟨h,_⟩:=List.getElem?_eq_some_iff.1 hd;exact h
 rw [zmy,zmy,List.any_append];by_cases h:d.toNat=j
 ·subst h;simp only [any_cons,beq_self_eq_true,Bool.true_or,Bool.or_true,if_true,hd];rw [getElem?_set_self hlt];simp
 ·have e:(d.toNat==j)=false:=by simpa using h
  rw [List.getElem?_set_ne h];simp [e]
theorem zyj {set:List Bool} {d:Nat} (h:set[d]?=some true):set.set d true=set:=by
 apply ext_getElem?;intro j;by_cases hj:d=j
 ·subst hj;obtain ⟨hl,_⟩:=List.getElem?_eq_some_iff.1 h;rw [getElem?_set_self hl,h]
 ·rw [List.getElem?_set_ne hj]
end
section
variable {c:Xe} {N:Nat} {set:List Bool} {news:List (List Int)} {op:List Int} {o:List Xh} {i:Xd}
theorem ycd (hf:fits c i=true) (h:i.Op_=36):0<=i.N_:=by unfold fits at hf;rw [h] at hf;have e:rowD 36=some ⟨0,0,0,0,4⟩:=rfl;rw [e] at hf;simp only [and_eq_true] at hf;have:=hf.2.2.2.2.2;have e2:nOk c 4 i.N_ (tyF c ⟨0,0,0,0,4⟩ i)=(decide (i.N_>=0)&&decide (i.N_<(c.Sign_.length:Int))):=rfl;rw [e2] at this;simp at this;exact this.1
theorem zgu {α:Type} {l:List α} {w:α} (h:l.getLast? = some w):l=l.dropLast++[w]:=by
 have hne:l≠[]:=λe=>by rw [e] at h;cases h
 have:=List.dropLast_concat_getLast hne;rw [List.getLast?_eq_some_getLast hne] at h;rw [<- Option.some.inj h];exact this.symm
theorem Two.next (h:Two c N set news op o) (hok:okI c i set op=true):(z1e i set o).1=(z9r i set news op).1/\Two c (N+1) (z9r i set news op).1 (z9r i set news op).2.1 (z9r i set news op).2.2 (z1e i set o).2:=by
 unfold okI at hok;simp only [and_eq_true] at hok;obtain ⟨hf,hp,hrd⟩:=hok;have hlen:op.length=o.length:=by rw [h.op];simp
 unfold zdb at hp;unfold z9r z1e;by_cases q34:i.Op_=34
 ·have e1:(i.Op_==34)=true:=by simpa using q34
  rw [e1] at hp;simp only [Bool.true_or,cond_true,not_eq_true',or_eq_false_iff,beq_eq_false_iff_ne,ne_eq] at hp;have hle:=h.le;simp only [e1,Bool.true_or,cond_true];refine ⟨by trivial,h.len,?_,?_,?_,?_⟩
  ·rw [map_append,h.op];simp [code,q34]
  ·simp;omega
  ·intro x hx;rcases mem_append.1 hx with hx | hx
   ·exact h.ok x hx
   ·simp only [mem_singleton] at hx;subst hx;exact .inl q34
  ·rw [filter_append];have e:[(⟨i.Op_,i.N_,set⟩:Xh)].filter z3s=[⟨i.Op_,i.N_,set⟩]:=by simp [z3s,q34]
   rw [e,List.reverse_append,List.reverse_append];exact ⟨rfl,Nat.zero_le _,λr hr=>(by cases hr),z39 (le_succ N) _ _ _ h.ch⟩
 ·have e1:(i.Op_==34)=false:=by simpa using q34
  rw [e1] at hp;by_cases q36:i.Op_=36
  ·have e2:(i.Op_==36)=true:=by simpa using q36
   rw [e2] at hp;simp only [Bool.false_or,cond_true,not_eq_true',or_eq_false_iff,beq_eq_false_iff_ne,ne_eq] at hp;have hle:=h.le;simp only [e1,e2,Bool.false_or,cond_true,cond_false];refine ⟨by trivial,h.len,?_,?_,?_,?_⟩
   ·rw [map_append,h.op];simp [code,q36]
   ·simp;omega
   ·intro x hx;rcases mem_append.1 hx with hx | hx
    ·exact h.ok x hx
    ·simp only [mem_singleton] at hx;subst hx;exact .inr ⟨q36,ycd hf q36⟩
   ·rw [filter_append];have e:[(⟨i.Op_,i.N_,set⟩:Xh)].filter z3s=[]:=by simp [z3s,q36]
    rw [e,append_nil];exact z39 (le_succ N) _ _ _ h.ch
  ·have e2:(i.Op_==36)=false:=by simpa using q36
   rw [e2] at hp;simp only [Bool.false_or,cond_false] at hp;simp only [e1,e2,Bool.false_or,cond_false];by_cases q35:i.Op_=35
   ·have e3:(i.Op_==35)=true:=by simpa using q35
    rw [e3] at hp;simp only [cond_true,not_eq_true',or_eq_false_iff,beq_eq_false_iff_ne,ne_eq,decide_eq_false_iff_not] at hp;obtain ⟨l,w,a1,a2,a3,a4,a5,a6,a7⟩:=h.last (by omega) (by omega);simp only [e3,cond_true,a1,a2,getD_some];have hle:=h.le;refine ⟨a4.symm,?_,?_,?_,?_,?_⟩
    ·rw [zmz];exact h.len
    ·rw [h.op,List.map_dropLast]
    ·simp;omega
    ·exact λx hx=>h.ok x ((List.dropLast_sublist _).subset hx)
    ·rw [a4];exact z39 (le_succ N) _ _ _ a7
   ·have e3:(i.Op_==35)=false:=by simpa using q35
    rw [e3] at hp;simp only [cond_false] at hp;by_cases q37:i.Op_=37
    ·have e4:(i.Op_==37)=true:=by simpa using q37
     rw [e4,y3j,h.loop.1] at hp;simp only [cond_true,Bool.not_not] at hp;simp only [e3,e4,cond_true,cond_false];have hle:=h.le
     obtain ⟨w,hw⟩:∃ w,o.getLast? = some w:=by
      unfold z11 at hp;split at hp
      ·exact ⟨_,by assumption⟩
      ·cases hp
     have hww:w.Op_=36:=by unfold z11 at hp;rw [hw] at hp;simpa using hp
     refine ⟨by trivial,h.len,?_,?_,?_,?_⟩
     ·rw [h.op,List.map_dropLast]
     ·simp;omega
     ·exact λx hx=>h.ok x ((List.dropLast_sublist _).subset hx)
     ·have:=h.ch;rw [zgu hw,filter_append] at this;have e:[w].filter z3s=[]:=by simp [z3s,hww]
      rw [e,append_nil] at this;exact z39 (le_succ N) _ _ _ this
    ·have e4:(i.Op_==37)=false:=by simpa using q37
     simp only [e3,e4,cond_false];cases hs:sets i with
     | false =>simp only [Bool.false_and,cond_false];exact ⟨by trivial,h.len,h.op,h.le,h.ok,z39 (le_succ N) _ _ _ h.ch⟩
     | true =>
      obtain ⟨d0,d1⟩:=zhy hf hs;obtain ⟨b,hb⟩:=zal (l:=set) d0 (by rw [h.len];exact d1);simp only [hb,getD_some,Bool.true_and,cond_true];cases b with
      | true =>rw [zyj hb];exact ⟨rfl,h.len,h.op,h.le,h.ok,z39 (le_succ N) _ _ _ h.ch⟩
      | false =>
       simp only [Bool.not_false,cond_true];refine ⟨by trivial,by simpa using h.len,h.op,h.le,h.ok,?_⟩;have hc:=h.ch;cases hn:news.reverse with
       | nil =>
        rw [hn] at hc;have:news=[]:=by simpa using hn
        subst this;cases hw:(o.filter z3s).reverse with
        | nil=>simp [z88,z9b]
        | cons w ws=>rw [hw] at hc;exact hc.elim
       | cons l ls =>
        rw [hn] at hc;cases hw:(o.filter z3s).reverse with
        | nil=>rw [hw] at hc;exact hc.elim
        | cons w ws =>
         rw [hw] at hc;obtain ⟨c1,c2,c3,c4⟩:=hc
         have hnews:news=ls.reverse++[l]:=by have:=congrArg reverse hn;simpa using this
         have ha:(z88 news i.D_).reverse=(l++[i.D_])::ls:=by unfold z88;rw [hnews];simp
         rw [ha];refine ⟨by rw [y0e hb];exact c1,by simp;omega,λr hr=>?_,z39 (le_succ N) _ _ _ c4⟩;rcases mem_append.1 hr with hr | hr
         ·simpa using c3 r hr
         ·simp only [mem_singleton] at hr;subst hr;refine ⟨d0,?_⟩;simp only [length_set];rw [h.len];exact d1
end
theorem zm1 {α S Y Z:Type} {l:List α} {p:α->Bool} {g:Nat->S} {body:S->Option (Bo S Y Z)} {z:Nat->Z} {y:Y}
  (hb:∀ (k:Nat) (h:k<l.length),body (g k)=some (bif p l[k] then .go (g (k+1)) else .ret (z k))) (he:body (g l.length)=some (.out y)) :
  ∀ (j k f:Nat),k+j=l.length->j<f->iter body f (g k)=some (match (l.drop k).findIdx? (λx=>!p x) with | none=>.out y | some i=>.ret (z (k+i)))
 | 0,k,f+1,hk,hf=>by
  obtain rfl:k=l.length:=by omega
  unfold iter;rw [he];simp
 | j+1,k,f+1,hk,hf=>by
  have h:k<l.length:=by omega
  unfold iter;rw [hb k h,drop_eq_getElem_cons h];cases hp:p l[k] with
  | false =>simp only [cond_false,findIdx?_cons,hp,Bool.not_false,if_true];rfl
  | true =>
   simp only [cond_true];rw [zm1 hb he j (k+1) f (by omega) (by omega)];rw [findIdx?_cons];simp only [hp,Bool.not_true,cond_false,Bool.false_eq_true,if_false];cases (l.drop (k+1)).findIdx? (λx=>!p x) with
   | none=>rfl
   | some i=>simp only [map_some];congr 3;omega
theorem zm0 {α S Y Z:Type} {l:List α} {p:α->Bool} (g:Nat->S) {body:S->Option (Bo S Y Z)} (z:Nat->Z) {y:Y} {f:Nat}
  (hb:∀ (k:Nat) (h:k<l.length),body (g k)=some (bif p l[k] then .go (g (k+1)) else .ret (z k))) (he:body (g l.length)=some (.out y)) (hf:l.length<f) :
  iter body f (g 0)=some (match l.findIdx? (λx=>!p x) with | none=>.out y | some i=>.ret (z i)):=by
 have:=zm1 hb he l.length 0 f (by omega) hf;simpa using this
section
variable {c:Xe}
theorem z1l {α:Type} {l:List α} {k:Nat} (h:k<l.length):idx l (k:Int)=some l[k]:=by simp [idx,h]
theorem y6s {n:Nat} (h:c.Regs_.length<n) (h2:c.Regs_.length<1000000):f29 n (c.Regs_,c.Sign_,c.Regs_,c.Slots_,c.List_)=some (!(c.Regs_.all (mayT c.Sign_)),c.Sign_,c.Regs_,c.Slots_,c.List_):=by
 have hit:iter (zl8 n (c.Regs_,c.Sign_,c.Regs_,c.Slots_,c.List_) ()) n ((0:Int),c.Sign_,c.Regs_,c.Slots_,c.List_)=some (match c.Regs_.findIdx? (λx=>!mayT c.Sign_ x) with | none=>.out ((c.Regs_.length:Int),c.Sign_,c.Regs_,c.Slots_,c.List_) | some i=>.ret ((i:Int),c.Sign_,c.Regs_,c.Slots_,c.List_)):=by
  refine zm0 (p:=mayT c.Sign_) (λk=>((k:Int),c.Sign_,c.Regs_,c.Slots_,c.List_)) (λk=>((k:Int),c.Sign_,c.Regs_,c.Slots_,c.List_)) (λk hk=>?_) ?_ h
  ·rw [zir];have e1:decide ((k:Int)<(c.Regs_.length:Int))=true:=by simp;omega
   dsimp only;rw [e1,z1l hk];simp only [cond_true,Option.bind_some,y6t,zt7,z1g (show k<4611686018427387904 by omega)];cases mayT c.Sign_ c.Regs_[k]<;>rfl
  ·rw [zir];simp
 rw [y6r,y7d];dsimp only;rw [hit,<- zf2];cases c.Regs_.findIdx? (λx=>!mayT c.Sign_ x) with
 | none=>rfl
 | some i=>simp [Bo.then]
theorem y6w {n:Nat} (h:c.Slots_.length<n) (h2:c.Slots_.length<1000000) (hb:∀ s∈c.Slots_,0<=s.Bits_/\s.Bits_<4294967296):f32 n (c.Slots_,c.Sign_,c.Regs_,c.Slots_,c.List_)=some (!(c.Slots_.all (mayS c.Sign_)),c.Sign_,c.Regs_,c.Slots_,c.List_):=by
 have hit:iter (zl9 n (c.Slots_,c.Sign_,c.Regs_,c.Slots_,c.List_) ()) n ((0:Int),c.Sign_,c.Regs_,c.Slots_,c.List_)=some (match c.Slots_.findIdx? (λx=>!mayS c.Sign_ x) with | none=>.out ((c.Slots_.length:Int),c.Sign_,c.Regs_,c.Slots_,c.List_) | some i=>.ret ((i:Int),c.Sign_,c.Regs_,c.Slots_,c.List_)):=by
  refine zm0 (p:=mayS c.Sign_) (λk=>((k:Int),c.Sign_,c.Regs_,c.Slots_,c.List_)) (λk=>((k:Int),c.Sign_,c.Regs_,c.Slots_,c.List_)) (λk hk=>?_) ?_ h
  ·rw [zis];have e1:decide ((k:Int)<(c.Slots_.length:Int))=true:=by simp;omega
   obtain ⟨b0,b1⟩:=hb _ (getElem_mem hk);dsimp only;rw [e1,z1l hk];simp only [cond_true,Option.bind_some,y6x,y6z _ _ b0 b1,z1g (show k<4611686018427387904 by omega)];cases mayS c.Sign_ c.Slots_[k]<;>rfl
  ·rw [zis];simp
 rw [y6v,y7e];dsimp only;rw [hit,<- zf2];cases c.Slots_.findIdx? (λx=>!mayS c.Sign_ x) with
 | none=>rfl
 | some i=>simp [Bo.then]
theorem zzg {n m:Nat} (h:c.Regs_.length<m) (h2:c.Regs_.length<1000000):iter (zks n c ()) m 0=some (bif c.Regs_.all (mayT c.Sign_) then .out (c.Regs_.length:Int) else .ret ()):=by
 refine z3v (λk hk=>?_) ?_ h
 ·rw [zib];have e1:decide ((k:Int)<(c.Regs_.length:Int))=true:=by simp;omega
  rw [e1,z1l hk];simp only [cond_true,Option.bind_some,zt9,z1g (show k<4611686018427387904 by omega)];cases mayT c.Sign_ c.Regs_[k]<;>rfl
 ·rw [zib];simp
theorem zt5 {n m:Nat} (h:c.Slots_.length<m) (h2:c.Slots_.length<1000000) (hb:∀ s∈c.Slots_,0<=s.Bits_/\s.Bits_<4294967296):iter (zkt n c ()) m 0=some (bif c.Slots_.all (mayS c.Sign_) then .out (c.Slots_.length:Int) else .ret ()):=by
 refine z3v (λk hk=>?_) ?_ h
 ·rw [zic];have e1:decide ((k:Int)<(c.Slots_.length:Int))=true:=by simp;omega
  obtain ⟨b0,b1⟩:=hb _ (getElem_mem hk);rw [e1,z1l hk];simp only [cond_true,Option.bind_some,y76 _ _ b0 b1,z1g (show k<4611686018427387904 by omega)];cases mayS c.Sign_ c.Slots_[k]<;>rfl
 ·rw [zic];simp
theorem z2e {S Y Z:Type} {L:Nat} (g:Nat->S) {body:S->Option (Bo S Y Z)} {y:Y} (hb:∀ k,k<L->body (g k)=some (.go (g (k+1)))) (he:body (g L)=some (.out y)) :
  ∀ (j k f:Nat),k+j=L->j<f->iter body f (g k)=some (.out y)
 | 0,k,f+1,hk,hf=>by
  obtain rfl:k=L:=by omega
  unfold iter;rw [he]
 | j+1,k,f+1,hk,hf=>by unfold iter;rw [hb k (by omega)];exact z2e g hb he j (k+1) f (by omega) (by omega)
theorem y47 {n m:Nat} (h:c.Regs_.length<m) (h2:c.Regs_.length<1000000):iter (zku n c ()) m (0,[])=some (.out ((c.Regs_.length:Int),replicate c.Regs_.length false)):=by
 refine z2e (L:=c.Regs_.length) (λk=>((k:Int),replicate k false)) (λk hk=>?_) ?_ c.Regs_.length 0 m (by omega) h
 ·rw [zid];have e1:decide ((k:Int)<(c.Regs_.length:Int))=true:=by simp;omega
  dsimp only;rw [e1,cond_true,zg (by simp;omega),z1g (by omega),<- List.replicate_succ']
 ·rw [zid];simp
end
def okB (y:Int):Bool:=(decide (y>=65)&&decide (y<=90))||((decide (y>=97)&&decide (y<=122))||((decide (y>=48)&&decide (y<=57))||(y==95||(y==46||(y==47||y==45)))))
theorem idxB (y:Int) (h0:0<=y) (h1:y<256):decide ((Lib.indexByte [95,46,47,45] y.toNat.toUInt8:Int)>=0)=(y==95||(y==46||(y==47||y==45))):=by
 have h:(range 256).all (λk=>decide ((Lib.indexByte [95,46,47,45] k.toUInt8:Int)>=0)==((k:Int)==95||((k:Int)==46||((k:Int)==47||(k:Int)==45))))=true:=by kernel_rfl
 have:=all_eq_true.1 h y.toNat (by simp;omega);have e:((y.toNat:Nat):Int)=y:=by omega
 rw [e] at this;simpa using this
theorem y87 {n:Nat} (y:Int) (h0:0<=y) (h1:y<256):∃ r,f68 n (⟨#[95,46,47,45]⟩,y)=some r/\decide (r>=0)=(y==95||(y==46||(y==47||y==45))) :=
 ⟨_,by rw [y86];rfl,idxB y h0 h1⟩
theorem zke {x:ByteArray} {k:Nat} (h:k<(bytesOf x).length):0<=(bytesOf x)[k]/\(bytesOf x)[k]<256/\z8 x (k:Int)=(bytesOf x)[k]:=by
 have hl:k<x.data.toList.length:=by simpa [bytesOf] using h
 have e:(bytesOf x)[k]=((x.data.toList[k]).toNat:Int):=by simp [bytesOf]
 have hb:=UInt8.toNat_lt (x.data.toList[k]);refine ⟨by rw [e];omega,by rw [e];omega,?_⟩;rw [e];unfold z8;rw [List.getD_eq_getElem?_getD,show ((k:Int).toNat)=k from rfl,getElem?_eq_getElem hl];rfl
theorem zi5 (x:ByteArray):(bytesOf x).length=x.size:=by unfold bytesOf;rw [length_map];rfl
def z8t (x:ByteArray):Bool:=!(x==⟨#[]⟩||decide ((x.size:Int) > 64))&&(bytesOf x).all okB
theorem y7v {n:Nat} (x:ByteArray) (hn:64<n):f61 n x=some (z8t x):=by
 rw [y7u]
 have hB:(bif (x==⟨#[]⟩) then some (Sum.inl true) else some (.inl (decide ((x.size:Int) > 64))):Option (Bool⊕Bool))=some (.inl (x==⟨#[]⟩||decide ((x.size:Int) > 64))):=by cases (x==(⟨#[]⟩:ByteArray))<;>rfl
 rw [hB,Option.bind_some,orRet_inl];unfold z8t;cases hq:(x==⟨#[]⟩||decide ((x.size:Int) > 64)) with
 | true=>rfl
 | false =>
  have hs:x.size<=64:=by simp only [or_eq_false_iff,decide_eq_false_iff_not] at hq;omega
  have hl:=zi5 x
  have hit:iter (zlc n x ()) n 0=some (bif (bytesOf x).all okB then .out ((bytesOf x).length:Int) else .ret ()):=by
   refine z3v (λk hk=>?_) ?_ (by omega)
   ·obtain ⟨b0,b1,_⟩:=zke hk;obtain ⟨r,r1,r2⟩:=y87 (n:=n) _ b0 b1;rw [ziv];have e1:decide ((k:Int)<((bytesOf x).length:Int))=true:=by simp;omega
    rw [e1,z1l hk];simp only [cond_true,Option.bind_some];generalize (bytesOf x)[k]=y at *;rw [z1g (by omega)];unfold okB;cases a1:decide (y>=65)<;>cases a2:decide (y<=90)<;>cases a3:decide (y>=97)<;>cases a4:decide (y<=122)<;>cases a5:decide (y>=48)<;>cases a6:decide (y<=57)<;>simp only [a1,a2,a3,a4,a5,a6,cond_true,cond_false,Option.bind_some,orRet_inl,r1,r2]<;>cases (y==95||(y==46||(y==47||y==45)))<;>rfl
   ·rw [ziv];simp
  rw [hit];cases (bytesOf x).all okB<;>rfl
set_option maxHeartbeats 4000000 in
theorem y7z {n:Nat} (x:ByteArray) (hn:64<n):f63 n x=some (z8t x):=by
 rw [y7y]
 have hB:(bif (x==⟨#[]⟩) then some (Sum.inl true) else some (.inl (decide ((x.size:Int) > 64))):Option (Bool⊕Bool))=some (.inl (x==⟨#[]⟩||decide ((x.size:Int) > 64))):=by cases (x==(⟨#[]⟩:ByteArray))<;>rfl
 rw [hB,Option.bind_some,orRet_inl];unfold z8t;cases hq:(x==⟨#[]⟩||decide ((x.size:Int) > 64)) with
 | true=>rfl
 | false =>
  have hs:x.size<=64:=by simp only [or_eq_false_iff,decide_eq_false_iff_not] at hq;omega
  have hl:=zi5 x
  have hit:iter (zld n x ()) n 0=some (bif (bytesOf x).all okB then .out ((bytesOf x).length:Int) else .ret ()):=by
   refine z3v (λk hk=>?_) ?_ (by omega)
   ·obtain ⟨_,_,b2⟩:=zke hk;rw [ziw];have e1:decide ((k:Int)<(x.size:Int))=true:=by simp;omega
    rw [e1,b2,cond_true,zg (by omega),z1g (by omega)];generalize (bytesOf x)[k]=y;unfold okB;cases decide (y>=97)<;>cases decide (y<=122)<;>cases decide (y>=65)<;>cases decide (y<=90)<;>cases decide (y>=48)<;>cases decide (y<=57)<;>cases (y==95)<;>cases (y==46)<;>cases (y==47)<;>cases (y==45)<;>rfl
   ·rw [ziw,hl];simp
  rw [hit];cases (bytesOf x).all okB<;>rfl
def mayP (p:Xa):Bool:=z8t p.Name_&&((p.Kind_==1||p.Kind_==2)&&(decide (p.Len_>=1)&&decide (p.Len_<=4096)))
theorem ztb {n:Nat} (p:Xa) (hn:64<n):f48 n p=some (mayP p):=by rw [y7a,y7v _ hn];unfold mayP;simp only [Option.bind_some];cases z8t p.Name_<;>cases (p.Kind_==1)<;>cases (p.Kind_==2)<;>cases decide (p.Len_>=1)<;>rfl
theorem ztd {n:Nat} (p:Xa) (hn:64<n):f55 n p=some (mayP p):=by rw [y7k,y7z _ hn];unfold mayP;simp only [Option.bind_some];cases z8t p.Name_<;>cases (p.Kind_==1)<;>cases (p.Kind_==2)<;>cases decide (p.Len_>=1)<;>rfl
theorem zni {a b:ByteArray}:(a==b)=true↔a=b:=MapKept.bytes_beq a b
theorem z6f (a:ByteArray):(a==a)=true:=zni.2 rfl
def addP (ks:List ByteArray) (p:Xa):List ByteArray:=bif has p.Name_ ks then ks else ks++[p.Name_]
theorem zlu {n:Nat} (hn:64<n):∀ (l:List Xa) (ks:List ByteArray),z9k n l ks=some (bif l.all mayP then some (l.foldl addP ks) else none)
 | [],ks=>rfl
 | p::l,ks=>by
  unfold z9k;have e:zgm n p=some (mayP p):=ztb p hn;rw [e];simp only [Option.bind_some,List.all_cons,foldl_cons];cases mayP p with
  | false=>rfl
  | true =>simp only [cond_true,Bool.true_and];exact zlu hn l _
theorem y5a (s:ByteArray) (ks:List ByteArray) (p:Xa):has s (addP ks p)=(has s ks||p.Name_==s):=by
 unfold addP;cases h:has p.Name_ ks with
 | false=>simp [has]
 | true =>
  simp only [cond_true];cases hq:p.Name_==s with
  | false=>simp
  | true =>rw [zni] at hq;subst hq;simp [h]
theorem zj2 {x:List Xa} {k:Nat} (h:k<x.length):(x.take (k+1)).foldl addP []=addP ((x.take k).foldl addP []) x[k]:=by rw [List.take_succ_eq_append_getElem h,List.foldl_append];rfl
theorem zlx {x:List Xa} (s:ByteArray):∀ k,k<=x.length->has s ((x.take k).foldl addP [])=(x.take k).any (λp=>p.Name_==s)
 | 0,_=>by simp [has]
 | k+1,h=>by rw [zj2 (by omega),y5a,zlx s k (by omega),List.take_succ_eq_append_getElem (by omega),List.any_append];simp only [any_cons,List.any_nil,Bool.or_false]
def z3p (x:List Xa) (k:Nat):Bool:=match x[k]? with | some p=>!((x.take k).any λq=>q.Name_==p.Name_) | none=>true
theorem zm4 {x:List Xa}:∀ k,k<=x.length->((x.take k).foldl addP []).length=(range k).countP (z3p x)
 | 0,_=>by simp
 | k+1,h=>by
  have hk:k<x.length:=by omega
  rw [zj2 hk,List.range_succ,List.countP_append,<- zm4 k (by omega)]
  have e:z3p x k = !(has x[k].Name_ ((x.take k).foldl addP [])):=by unfold z3p;rw [getElem?_eq_getElem hk,zlx _ k (by omega)]
  have e2:addP ((x.take k).foldl addP []) x[k]=bif has x[k].Name_ ((x.take k).foldl addP []) then (x.take k).foldl addP [] else (x.take k).foldl addP []++[x[k].Name_]:=rfl;rw [e2];cases hh:has x[k].Name_ ((x.take k).foldl addP []) with
  | true=>rw [hh] at e;simp [List.countP_cons,e]
  | false=>rw [hh] at e;simp [List.countP_cons,e]
theorem y69 (x:List Xa):decide (((x.foldl addP []).length:Int)<(x.length:Int)) = !((range x.length).all (z3p x)):=by
 have h:=zm4 (x:=x) x.length (Nat.le_refl _);rw [List.take_length] at h;rw [h];have hle:=List.countP_le_length (p:=z3p x) (l:=range x.length);simp only [length_range] at hle;cases ha:(range x.length).all (z3p x) with
 | true =>have:(range x.length).countP (z3p x)=(range x.length).length:=List.countP_eq_length.2 (all_eq_true.1 ha);rw [this];simp
 | false =>
  have:(range x.length).countP (z3p x)≠(range x.length).length:=λe=>by have:=List.countP_eq_length.1 e;have:(range x.length).all (z3p x)=true:=all_eq_true.2 this;rw [ha] at this;cases this
  simp only [length_range] at this;simp only [Bool.not_false,decide_eq_true_eq];omega
def fnd (x:List Xa) (s:ByteArray):Int×Bool:=match x.findIdx? (λp=>p.Name_==s) with | none=>(0,false) | some i=>((i:Int),true)
theorem y7m {n:Nat} {x:List Xa} {s:ByteArray} (h:x.length<n) (h2:x.length<1000000):f56 n (x,s)=some (fnd x s):=by
 have hit:iter (zla n (x,s) ()) n 0=some (match x.findIdx? (λp=>!(!(p.Name_==s))) with | none=>.out (x.length:Int) | some i=>.ret (i:Int)):=by
  refine zm0 (p:=λp=>!(p.Name_==s)) (λk=>(k:Int)) (λk=>(k:Int)) (λk hk=>?_) ?_ h
  ·rw [zit];have e1:decide ((k:Int)<(x.length:Int))=true:=by simp;omega
   dsimp only;rw [e1,z1l hk];simp only [cond_true,Option.bind_some,z1g (show k<4611686018427387904 by omega)];cases x[k].Name_==s<;>rfl
  ·rw [zit];simp
 rw [y7l,hit];unfold fnd;simp only [Bool.not_not];cases x.findIdx? (λp=>p.Name_==s)<;>rfl
theorem zzq {x:List Xa} {k:Nat} (hk:k<x.length):(fnd x x[k].Name_).1=(k:Int)↔z3p x k=true:=by
 unfold z3p fnd;rw [getElem?_eq_getElem hk];simp only [not_eq_true'];cases hf:x.findIdx? (λp=>p.Name_==x[k].Name_) with
 | none =>rw [List.findIdx?_eq_none_iff] at hf;have:=hf x[k] (getElem_mem hk);rw [z6f] at this;cases this
 | some i =>
  obtain ⟨hi,h1,h2⟩:=List.findIdx?_eq_some_iff_getElem.1 hf;simp only;constructor
  ·intro e;have e:i=k:=by omega
   subst e;rw [Bool.eq_false_iff];intro ha;obtain ⟨q,hq,hq2⟩:=any_eq_true.1 ha;obtain ⟨j,hj,rfl⟩:=List.getElem_of_mem hq;simp only [List.length_take] at hj;have:=h2 j (by omega);rw [List.getElem_take] at hq2;rw [hq2] at this;simp at this
  ·intro ha;by_cases hik:i<k
   ·exfalso
    have:(x.take k).any (λq=>q.Name_==x[k].Name_)=true:=by rw [any_eq_true];exact ⟨x[i],List.mem_take_iff_getElem.2 ⟨i,by omega,rfl⟩,h1⟩
    rw [ha] at this;cases this
   ·by_cases hki:k<i
    ·exfalso;have:=h2 k hki;rw [z6f] at this;simp at this
    ·omega
def numP (p:Xa):Int:=bif mayP p then (bif p.Kind_==2 then IntKind.i64.wrap (2 * p.Len_) else p.Len_) else 0
theorem y7x {n:Nat} (p:Xa) (hn:64<n):f62 n p=some (numP p):=by rw [y7w,ztb _ hn];unfold numP;simp only [Option.bind_some];cases mayP p<;>cases (p.Kind_==2)<;>rfl
theorem y81 {n:Nat} (p:Xa) (hn:64<n):f64 n p=some (numP p):=by rw [y80,ztd _ hn];unfold numP;simp only [Option.bind_some];cases mayP p<;>cases (p.Kind_==2)<;>rfl
def z4z (x:List Xa) (k:Nat):Int:=(x.take k).foldl (λs p=>IntKind.i64.wrap (s+numP p)) 0
theorem zmu {x:List Xa} {k:Nat} (h:k<x.length):z4z x (k+1)=IntKind.i64.wrap (z4z x k+numP x[k]):=by unfold z4z;rw [List.take_succ_eq_append_getElem h,List.foldl_append];rfl
theorem y7c {n:Nat} {x:List Xa} (hn:64<n) (hl:x.length<=64):f49 n x=some (z4z x x.length):=by
 have hit:iter (zl7 n x ()) n (0,0)=some (.out (z4z x x.length,(x.length:Int))):=by
  refine z2e (L:=x.length) (λk=>(z4z x k,(k:Int))) (λk hk=>?_) ?_ x.length 0 n (by omega) (by omega)
  ·rw [ziq];have e1:decide ((k:Int)<(x.length:Int))=true:=by simp;omega
   dsimp only;rw [e1,z1l hk];simp only [cond_true,Option.bind_some,y7x _ hn,z1g (show k<4611686018427387904 by omega),zmu hk]
  ·rw [ziq];simp
 rw [y7b,hit];rfl
theorem y7o {n:Nat} {x:List Xa} (hn:64<n) (hl:x.length<=64):f57 n x=some (z4z x x.length):=by
 have hit:iter (zlb n x ()) n (0,0)=some (.out (z4z x x.length,(x.length:Int))):=by
  refine z2e (L:=x.length) (λk=>(z4z x k,(k:Int))) (λk hk=>?_) ?_ x.length 0 n (by omega) (by omega)
  ·rw [ziu];have e1:decide ((k:Int)<(x.length:Int))=true:=by simp;omega
   dsimp only;rw [e1,z1l hk];simp only [cond_true,Option.bind_some,y81 _ hn,z1g (show k<4611686018427387904 by omega),zmu hk]
  ·rw [ziu];simp
 rw [y7n,hit];rfl
def sgn (x:List Xa):Int:=bif decide ((x.length:Int) > 64) then 2 else bif x.all mayP then (bif (range x.length).all (z3p x) then (bif decide (z4z x x.length > 65536) then 102 else 0) else 101) else 100
theorem y6q {n:Nat} (x:List Xa) (hn:64<n):f28 n x=some (sgn x):=by
 show g28 n x=_;unfold g28 sgn;simp only [length_map];cases hl:decide ((x.length:Int) > 64) with
 | true=>rfl
 | false =>
  have hl':x.length<=64:=by simp only [decide_eq_false_iff_not] at hl;omega
  rw [zlu hn];cases x.all mayP with
  | false=>rfl
  | true =>have e:zvz n x=some (z4z x x.length):=y7c hn hl';simp only [cond_false,cond_true,Option.bind_some,z7s,length_map,y69,e];cases (range x.length).all (z3p x)<;>cases decide (z4z x x.length > 65536)<;>rfl
theorem y73 {n:Nat} (x:List Xa) (hn:64<n):f38 n x=some (sgn x):=by
 rw [y72];unfold sgn;cases hl:decide ((x.length:Int) > 64) with
 | true=>rfl
 | false =>
  have hl':x.length<=64:=by simp only [decide_eq_false_iff_not] at hl;omega
  have h1:iter (zl4 n x ()) n 0=some (bif x.all mayP then .out (x.length:Int) else .ret ()):=by
   refine z3v (λk hk=>?_) ?_ (by omega)
   ·rw [zim];have e1:decide ((k:Int)<(x.length:Int))=true:=by simp;omega
    rw [e1,z1l hk];simp only [cond_true,Option.bind_some,ztd _ hn,z1g (show k<4611686018427387904 by omega)];cases mayP x[k]<;>rfl
   ·rw [zim];simp
  have h2:iter (zl5 n x ()) n 0=some (bif (range x.length).all (z3p x) then .out (x.length:Int) else .ret ()):=by
   refine z3v (l:=range x.length) (λk hk=>?_) ?_ (by simp;omega)
   ·simp only [length_range] at hk;rw [zin];have e1:decide ((k:Int)<(x.length:Int))=true:=by simp;omega
    rw [e1,z1l hk];simp only [cond_true,Option.bind_some,y7m (n:=n) (x:=x) (s:=x[k].Name_) (by omega) (by omega),z1g (show k<4611686018427387904 by omega),List.getElem_range];have:=zzq hk;cases hq:z3p x k with
    | true =>have e:=this.2 hq;rw [e];simp
    | false =>
     have e:(fnd x x[k].Name_).1≠(k:Int):=λe=>by have:=this.1 e;rw [hq] at this;cases this
     have e2:((fnd x x[k].Name_).1 != (k:Int))=true:=by simpa using e
     rw [e2];rfl
   ·rw [length_range,zin];simp
  rw [h1];simp only [cond_false];cases x.all mayP with
  | false=>rfl
  | true =>
   simp only [cond_true,Option.bind_some,Bo.then];rw [h2];cases (range x.length).all (z3p x) with
   | false=>rfl
   | true =>simp only [cond_true,Option.bind_some,Bo.then,y7o hn hl'];cases decide (z4z x x.length > 65536)<;>rfl
theorem z89 (a:Int):(a==a)=true:=by simp
theorem zz5 (a:Bool):(a==a)=true:=by simp
structure zfn (a:Xe):Prop where
 s:a.Sign_.length * 32<=140737488355328
 r:a.Regs_.length * 16<=140737488355328
 l:a.Slots_.length * 32<=140737488355328
 i:a.List_.length * 56<=140737488355328
def goR (c:Xe):List Xd->Nat->List Bool->List Xh->Nat⊕(List Bool×List Xh)
 | [],_,set,o=>.inr (set,o)
 | i::l,k,set,o=>bif z12 c i set o then goR c l (k+1) (z1e i set o).1 (z1e i set o).2 else .inl k
section
variable {c:Xe}
theorem y0j {m m':Nat} {x:Xe} (hr:∀ t∈c.Regs_,mayT c.Sign_ t=true) (hR:c.Regs_.length<=1000000) (hL:c.List_.length<1000000) (hm:c.List_.length<m) (hb:∀ i∈c.List_,0<=i.Bits_/\i.Bits_<4294967296) :
  ∀ (j k f f':Nat) (set:List Bool) (news:List (List Int)) (op:List Int) (o:List Xh),k+j=c.List_.length->j<f->j<f'->Two c k set news op o ->
   ∃ news' op',(∀ r,goR c (c.List_.drop k) k set o = .inr r->op'.length=r.2.length) /\
    iter (zcw (m+5) x (c.List_,(c.List_.length:Int),c.Sign_,c.Regs_,c.Slots_)) f ((k:Int),c.Sign_,c.Regs_,c.Slots_,c.List_,set,news,op)=some (match goR c (c.List_.drop k) k set o with | .inl k'=>.ret (k':Int) | .inr r=>.out ((c.List_.length:Int),c.Sign_,c.Regs_,c.Slots_,c.List_,r.1,news',op')) /\
    iter (zcx (m'+4) c ()) f' ((k:Int),set,o)=some (match goR c (c.List_.drop k) k set o with | .inl k'=>.ret (k':Int) | .inr r=>.out ((c.List_.length:Int),r.1,r.2))
 | 0,k,f+1,f'+1,set,news,op,o,hk,_,_,h=>by
  obtain rfl:k=c.List_.length:=by omega
  rw [drop_length];refine ⟨news,op,λr hr=>?_,?_,?_⟩
  ·cases hr;rw [h.op];simp
  ·unfold iter;rw [zia];simp [goR]
  ·unfold iter;rw [zie];simp [goR]
 | j+1,k,f+1,f'+1,set,news,op,o,hk,hf,hf',h=>by
  have hkl:k<c.List_.length:=by omega
  obtain ⟨b0,b1⟩:=hb _ (getElem_mem hkl);have e1:decide ((k:Int)<(c.List_.length:Int))=true:=by simp;omega
  have s1:=zzf (m:=m) (x:=x) (v:=(c.List_,(c.List_.length:Int),c.Sign_,c.Regs_,c.Slots_)) h (by omega) (by omega) hr b0 b1 (by omega) e1 (z1l hkl);have s2:=zzh (m:=m') h hr hR b0 b1 (by omega) hkl (z1l hkl)
  have e2:z12 c c.List_[k] set o=okI c c.List_[k] set op:=by unfold z12 okI;rw [h.place];cases fits c c.List_[k]<;>cases rdOk set c.List_[k]<;>cases z44 c.List_[k] o<;>simp
  rw [drop_eq_getElem_cons hkl];have eg:goR c (c.List_[k]::c.List_.drop (k+1)) k set o=bif z12 c c.List_[k] set o then goR c (c.List_.drop (k+1)) (k+1) (z1e c.List_[k] set o).1 (z1e c.List_[k] set o).2 else .inl k:=rfl;rw [eg];rw [e2] at s2 ⊢;unfold iter;rw [s1,s2];cases hok:okI c c.List_[k] set op with
  | false=>exact ⟨[],[],λr hr=>(by cases hr),rfl,rfl⟩
  | true =>
   obtain ⟨q1,q2⟩:=h.next hok;simp only [cond_true];have e3:z1e c.List_[k] set o=((z9r c.List_[k] set news op).1,(z1e c.List_[k] set o).2):=by rw [<- q1]
   rw [e3];exact y0j hr hR hL hm hb j (k+1) f f' _ _ _ _ (by omega) (by omega) (by omega) q2
end
def chk (c:Xe):Int×Int :=
 bif sgn c.Sign_ != 0 then (sgn c.Sign_,-1) else bif (decide ((c.Regs_.length:Int) > 16384)||decide ((c.List_.length:Int) > 32768)) then (181,-1) else bif decide ((c.Slots_.length:Int) > 4096) then (180,-1) else
 bif c.Regs_.all (mayT c.Sign_) then (bif c.Slots_.all (mayS c.Sign_) then (match goR c c.List_ 0 (replicate c.Regs_.length false) [] with | .inl k=>(160,(k:Int)) | .inr r=>bif decide ((r.2.length:Int) > 0) then (160,(c.List_.length:Int)) else (0,0)) else (160,-1)) else (160,-1)
theorem zkh {n:Nat} {c:Xe} (hn:100000<n) (hs:∀ s∈c.Slots_,0<=s.Bits_/\s.Bits_<4294967296) (hb:∀ i∈c.List_,0<=i.Bits_/\i.Bits_<4294967296):f16 n c=some (chk c)/\f21 n c=some (chk c):=by
 unfold chk;obtain ⟨m,rfl⟩:∃ m,n=m+5:=⟨n - 5,by omega⟩
 rw [y6l,y6m,y6q _ (by omega),y73 _ (by omega)];simp only [Option.bind_some];cases sgn c.Sign_ != 0 with
 | true=>exact ⟨rfl,rfl⟩
 | false =>
  have hB:∀ {R:Type},(bif (decide ((c.Regs_.length:Int) > 16384)) then some (Sum.inl true) else some (.inl (decide ((c.List_.length:Int) > 32768))):Option (Bool⊕R))=some (.inl (decide ((c.Regs_.length:Int) > 16384)||decide ((c.List_.length:Int) > 32768))):=by intro R;cases decide ((c.Regs_.length:Int) > 16384)<;>rfl
  simp only [cond_false];rw [hB,Option.bind_some,orRet_inl];cases hz:(decide ((c.Regs_.length:Int) > 16384)||decide ((c.List_.length:Int) > 32768)) with
  | true=>exact ⟨rfl,rfl⟩
  | false =>
   simp only [or_eq_false_iff,decide_eq_false_iff_not] at hz;simp only [cond_false];cases hy:decide ((c.Slots_.length:Int) > 4096) with
   | true=>exact ⟨rfl,rfl⟩
   | false =>
    simp only [decide_eq_false_iff_not] at hy;simp only [cond_false];rw [y6s (by omega) (by omega),zzg (by omega) (by omega)];cases hr:c.Regs_.all (mayT c.Sign_) with
    | false=>exact ⟨rfl,rfl⟩
    | true =>
     have hr':∀ t∈c.Regs_,mayT c.Sign_ t=true:=all_eq_true.1 hr;simp only [Option.bind_some,Bool.not_true,cond_false,cond_true,Bo.then];rw [y6w (by omega) (by omega) hs,zt5 (by omega) (by omega) hs];cases c.Slots_.all (mayS c.Sign_) with
     | false=>exact ⟨rfl,rfl⟩
     | true =>
      simp only [Option.bind_some,orRet_inl,Bool.not_true,cond_false,cond_true,Bo.then];rw [zg (by omega),y47 (by omega) (by omega)];simp only [Option.bind_some,Bo.then];have h0:Two c 0 (replicate c.Regs_.length false) [] [] []:=⟨by simp,rfl,by simp,λx hx=>(by cases hx),trivial⟩
      have hset:replicate ((c.Regs_.length:Int)).toNat false=replicate c.Regs_.length false:=by rw [Int.toNat_natCast]
      rw [hset];obtain ⟨news',op',q0,q1,q2⟩:=y0j (m:=m) (m':=m+1) (x:=c) hr' (by omega) (by omega) (by omega) hb c.List_.length 0 (m+5) (m+5) _ _ _ _ (by omega) (by omega) (by omega) h0;rw [drop_zero] at q0 q1 q2;have q1:iter (zcw (m+5) c (c.List_,(c.List_.length:Int),c.Sign_,c.Regs_,c.Slots_)) (m+5) (0,c.Sign_,c.Regs_,c.Slots_,c.List_,replicate c.Regs_.length false,[],[])=_:=q1;have q2:iter (zcx (m+5) c ()) (m+5) (0,replicate c.Regs_.length false,[])=_:=q2;rw [q1,q2];cases hg:goR c c.List_ 0 (replicate c.Regs_.length false) [] with
      | inl k=>exact ⟨rfl,rfl⟩
      | inr r =>have:=q0 r hg;simp only [Option.bind_some,Bo.then,this];cases decide ((r.2.length:Int) > 0)<;>exact ⟨rfl,rfl⟩
def z9y (d:Nat) (s t:List Bool):Prop:=s.length=t.length/\∀ j,j≠d->s[j]?=t[j]?
inductive z6c (d:Nat):List Xh->List Xh->Prop
 | nil:z6c d [] []
 | snoc {o p:List Xh} {x y:Xh}:z6c d o p->x.Op_=y.Op_->x.Param_=y.Param_->z9y d x.Set_ y.Set_->z6c d (o++[x]) (p++[y])
theorem z6c.inv {d:Nat} {o p:List Xh} (h:z6c d o p):(o=[]/\p=[])\/∃ o' p' x y,o=o'++[x]/\p=p'++[y]/\z6c d o' p'/\x.Op_=y.Op_/\x.Param_=y.Param_/\z9y d x.Set_ y.Set_:=by
 cases h with
 | nil=>exact .inl ⟨rfl,rfl⟩
 | snoc h1 h2 h3 h4=>exact .inr ⟨_,_,_,_,rfl,rfl,h1,h2,h3,h4⟩
theorem z6c.len {d:Nat} {o p:List Xh} (h:z6c d o p):o.length=p.length:=by
 induction h with
 | nil=>rfl
 | snoc _ _ _ _ ih=>simp [ih]
theorem z9y.refl (d:Nat) (s:List Bool):z9y d s s:=⟨rfl,λ_ _=>rfl⟩
theorem z6c.refl (d:Nat) (o:List Xh):z6c d o o:=by
 have:∀ (n:Nat) (o:List Xh),o.length=n->z6c d o o:=by
  intro n
  induction n with
  | zero=>intro o h;rw [List.eq_nil_of_length_eq_zero h];exact .nil
  | succ n ih =>intro o h;obtain ⟨x,x1,_⟩:=z5j o (by omega);rw [zgu x1];exact .snoc (ih _ (by simp;omega)) rfl rfl (z9y.refl d _)
 exact this _ o rfl
theorem z9y.set {d:Nat} {s t:List Bool} (h:z9y d s t) (j:Nat) (b:Bool):z9y d (s.set j b) (t.set j b):=by refine ⟨by simp [h.1],λk hk=>?_⟩;rw [getElem?_set,getElem?_set,h.1,h.2 k hk]
abbrev z2y (c:Xe):List Bool:=replicate c.Regs_.length false
theorem zcr {c:Xe} (h:(chk c).1=0):(sgn c.Sign_ != 0)=false/\decide ((c.Regs_.length:Int) > 16384)=false/\decide ((c.List_.length:Int) > 32768)=false/\decide ((c.Slots_.length:Int) > 4096)=false/\c.Regs_.all (mayT c.Sign_)=true/\c.Slots_.all (mayS c.Sign_)=true /\
  ∃ r,goR c c.List_ 0 (z2y c) [] = .inr r/\r.2=[]:=by
 unfold chk at h;cases h1:sgn c.Sign_ != 0 with
 | true =>rw [h1] at h;have h:sgn c.Sign_=0:=h;rw [h] at h1;cases h1
 | false =>
  rw [h1] at h;cases h2:decide ((c.Regs_.length:Int) > 16384) with
  | true=>rw [h2] at h;exact absurd (show (181:Int)=0 from h) (by decide)
  | false =>
   cases h3:decide ((c.List_.length:Int) > 32768) with
   | true=>rw [h2,h3] at h;exact absurd (show (181:Int)=0 from h) (by decide)
   | false =>
    rw [h2,h3] at h;cases h4:decide ((c.Slots_.length:Int) > 4096) with
    | true=>rw [h4] at h;exact absurd (show (180:Int)=0 from h) (by decide)
    | false =>
     rw [h4] at h;cases h5:c.Regs_.all (mayT c.Sign_) with
     | false=>rw [h5] at h;exact absurd (show (160:Int)=0 from h) (by decide)
     | true =>
      rw [h5] at h;cases h6:c.Slots_.all (mayS c.Sign_) with
      | false=>rw [h6] at h;exact absurd (show (160:Int)=0 from h) (by decide)
      | true =>
       rw [h6] at h;refine ⟨rfl,rfl,rfl,rfl,rfl,rfl,?_⟩;simp only [Bool.or_self,cond_false,cond_true] at h;cases h7:goR c c.List_ 0 (z2y c) [] with
       | inl k=>rw [h7] at h;exact absurd h (by simp)
       | inr r =>
        rw [h7] at h;refine ⟨r,rfl,?_⟩;cases h8:decide ((r.2.length:Int) > 0) with
        | true=>simp only [h8,cond_true] at h;exact absurd h (by simp)
        | false =>simp only [decide_eq_false_iff_not] at h8;exact List.eq_nil_of_length_eq_zero (by omega)
theorem zlv (c:Xe) (l':List Xd):∀ (l:List Xd) (k:Nat) (s:List Bool) (o:List Xh),goR ⟨c.Sign_,c.Regs_,c.Slots_,l'⟩ l k s o=goR c l k s o
 | [],_,_,_=>rfl
 | i::l,k,s,o=>by simp only [goR];have e:z12 ⟨c.Sign_,c.Regs_,c.Slots_,l'⟩ i s o=z12 c i s o:=rfl;rw [e,zlv c l' l]
theorem y62 {c:Xe} (h:(chk c).1=0) (l:List Xd) (hl:l.length<=32768):chk ⟨c.Sign_,c.Regs_,c.Slots_,l⟩=match goR c l 0 (z2y c) [] with | .inl k=>(160,(k:Int)) | .inr r=>bif decide ((r.2.length:Int) > 0) then (160,(l.length:Int)) else (0,0):=by
 obtain ⟨h1,h2,h3,h4,h5,h6,_⟩:=zcr h;have h3':decide ((l.length:Int) > 32768)=false:=by simp;omega
 unfold chk;dsimp only;rw [h1,h2,h3',h4,h5,h6,zlv];rfl
theorem zsm {x:Int} (h0 : -1000000<=x) (h1:x<=1000000):IntKind.i64.wrap x=x:=zei (by omega) (by omega)
theorem zbs (c:Xe):∀ (l:List Xd) (k:Nat) (s:List Bool) (o:List Xh) (r:List Bool×List Xh),goR c l k s o = .inr r->∀ i∈l,fits c i=true
 | [],_,_,_,_,_,i,hi=>by cases hi
 | j::l,k,s,o,r,h,i,hi=>by
  simp only [goR] at h;cases hs:z12 c j s o with
  | false=>rw [hs] at h;cases h
  | true =>
   rw [hs,cond_true] at h;rcases List.mem_cons.1 hi with rfl | hi
   ·unfold z12 at hs;simp only [and_eq_true] at hs;exact hs.1
   ·exact zbs c l _ _ _ r h i hi
section
variable {P:Program} {T:TT} {pro:List Nat} {R S A V:Type} {Q:R->Prop}
end
section
variable {c d:Xe} {i:Xd}
theorem z78 {c:Xe} {i:Xd} (h:fits c i=true) (ho:sets i=true):∃ t,idx c.Regs_ i.D_=some t/\t∈c.Regs_:=by
 unfold fits at h;unfold sets at ho;split at h
 ·cases h
 ·rename_i r hr;rw [hr] at ho;simp only [and_eq_true] at h;obtain ⟨t,ht⟩:=z4m h.1 (by simpa using ho);exact ⟨t,ht,(z4w ht).1⟩
def zya (i:Xd):Bool:=match rowD i.Op_ with | some r=>!(r.a==0) | none=>false
theorem zzz (i:Xd):(onD i=true->sets i=true)/\(onA i=true->zya i=true):=by
 obtain ⟨op,d,a,b,cc,N,bits⟩:=i;rcases z3t op with (rfl | rfl | rfl | rfl | rfl | rfl | rfl | rfl | rfl | rfl | rfl | rfl | rfl | rfl | rfl | rfl | rfl | rfl | rfl | rfl | rfl | rfl | rfl | rfl | rfl | rfl | rfl | rfl | rfl | rfl | rfl | rfl | rfl | rfl | rfl | rfl | rfl) | h
 iterate 37 (· simp [onD,onA,elem,sets,zya,rowD])
 have he:elem op=false:=by
  cases he:elem op with
  | false=>rfl
  | true =>
   exfalso;unfold elem at he
   have:3<=op/\op<=15:=by
    by_cases q:op>=3
    ·simp [q] at he;omega
    ·simp [q] at he
   have:=h op (by omega) (by omega);simp at this
 simp only [onD,onA,he,h 29 (by decide) (by decide),h 30 (by decide) (by decide),h 31 (by decide) (by decide),h 32 (by decide) (by decide),h 33 (by decide) (by decide)];constructor<;>intro h<;>cases h
end
theorem zzi {n:Nat} {c:Xe} (h1:c.Sign_.length<n) (h2:c.Regs_.length<n) (h3:c.Slots_.length<n) (h4:c.List_.length<n)
  (k1:c.Sign_.length<4611686018427387904) (k2:c.Regs_.length<4611686018427387904) (k3:c.Slots_.length<4611686018427387904) (k4:c.List_.length<4611686018427387904):f23 n (c,c)=some true:=by
 have i1:iter (zkv n (c,c) ()) n 0=some (.out (c.Sign_.length:Int)):=by
  refine z2e (L:=c.Sign_.length) (λk=>(k:Int)) (λk hk=>?_) ?_ c.Sign_.length 0 n (by omega) h1
  ·rw [zif];have e1:decide ((k:Int)<(c.Sign_.length:Int))=true:=by simp;omega
   dsimp only;rw [e1,z1l hk];simp only [cond_true,Option.bind_some,z1g (show k<4611686018427387904 by omega),z89,z6f,Bool.and_self,Bool.not_true,cond_false]
  ·rw [zif];simp
 have i2:iter (zkw n (c,c) ()) n 0=some (.out (c.Regs_.length:Int)):=by
  refine z2e (L:=c.Regs_.length) (λk=>(k:Int)) (λk hk=>?_) ?_ c.Regs_.length 0 n (by omega) h2
  ·rw [zig];have e1:decide ((k:Int)<(c.Regs_.length:Int))=true:=by simp;omega
   dsimp only;rw [e1,z1l hk];simp only [cond_true,Option.bind_some,z1g (show k<4611686018427387904 by omega),z89,z6f,Bool.and_self,Bool.not_true,cond_false]
  ·rw [zig];simp
 have i3:iter (zkx n (c,c) ()) n 0=some (.out (c.Slots_.length:Int)):=by
  refine z2e (L:=c.Slots_.length) (λk=>(k:Int)) (λk hk=>?_) ?_ c.Slots_.length 0 n (by omega) h3
  ·rw [zih];have e1:decide ((k:Int)<(c.Slots_.length:Int))=true:=by simp;omega
   dsimp only;rw [e1,z1l hk];simp only [cond_true,Option.bind_some,z1g (show k<4611686018427387904 by omega),z89,zz5,z6f,Bool.and_self,Bool.not_true,cond_false]
  ·rw [zih];simp
 have i4:iter (zky n (c,c) ()) n 0=some (.out (c.List_.length:Int)):=by
  refine z2e (L:=c.List_.length) (λk=>(k:Int)) (λk hk=>?_) ?_ c.List_.length 0 n (by omega) h4
  ·rw [zii];have e1:decide ((k:Int)<(c.List_.length:Int))=true:=by simp;omega
   dsimp only;rw [e1,z1l hk];simp only [cond_true,Option.bind_some,z1g (show k<4611686018427387904 by omega),z89,z6f,Bool.and_self,Bool.not_true,cond_false]
  ·rw [zii];simp
 rw [y6n,i1,i2,i3,i4];simp [bne,Bo.then]
def yfn (l:List Xa) (t:Xb):Int:=bif t.Kind_ != 3 then 1 else match idx l t.Param_ with | some p=>p.Len_ | none=>0
def zso (c:Xe) (t:Xb) (x:List Int):Prop:=(t.Kind_=2/\x.length<=4096)\/((x.length:Nat):Int)=yfn c.Sign_ t
structure zsq (c:Xe) (set:List Bool) (R:List Xj):Prop where
 len:R.length=c.Regs_.length
 ok:∀ (j:Nat) (t:Xb) (x:Xj),c.Regs_[j]?=some t->R[j]?=some x->(set[j]?).getD false=true->zso c t x.Nums_
theorem y0i {α:Type} {l:List α} {k:Int} (h:0<=k/\k<l.length):∃ y,idx l k=some y/\l[k.toNat]?=some y:=by
 obtain ⟨j,rfl⟩:∃ j:Nat,k=j:=⟨k.toNat,by omega⟩
 have hj:j<l.length:=by omega
 exact ⟨l[j],z1l hj,by rw [Int.toNat_natCast];exact getElem?_eq_getElem hj⟩
theorem yc6 {α:Type} {l:List α} {k:Int} {t:α} (h:idx l k=some t):0<=k/\k<l.length/\l[k.toNat]?=some t:=by
 by_cases hk:0<=k/\k<l.length
 ·obtain ⟨y,h1,h2⟩:=y0i hk;rw [h1] at h;cases h;exact ⟨hk.1,hk.2,h2⟩
 ·rw [z1y (by omega)] at h;cases h
theorem y3l {i:Xd} {set:List Bool} {k:Int} (h:rdOk set i=true) (hk:k∈zq i):(set[k.toNat]?).getD false=true:=by unfold rdOk at h;exact all_eq_true.1 h k hk
def regT (c:Xe) (k:Int):Xb:=(idx c.Regs_ k).getD ty0
abbrev U32s (c:Xe):Prop:=(∀ s∈c.Slots_,0<=s.Bits_/\s.Bits_<4294967296)/\∀ i∈c.List_,0<=i.Bits_/\i.Bits_<4294967296
theorem y5y {n:Nat} {c:Xe} (h:zfn c):f101 n c=some (c.Sign_,c.Regs_,c.Slots_,c.List_):=by rw [y45,zg h.s,zg h.r,zg h.l,zg h.i]
structure y3v (c:Xe) (S:List Xj):Prop where
 len:S.length=c.Slots_.length
 ok:∀ (j:Nat) (z:Xc) (x:Xj),c.Slots_[j]?=some z->S[j]?=some x->zso c z.Type_ x.Nums_
structure yd7 (c:Xe) (O:List (List Int)):Prop where
 len:O.length=2 * c.Sign_.length
 ok:∀ (j:Nat) (p:Xa) (e:Nat) (l:List Int),c.Sign_[j]?=some p->e<2->O[2 * j+e]?=some l->((l.length:Nat):Int)=p.Len_
section
variable {c:Xe}
end
abbrev Ten:Type:=(List Xa)×(List Xb)×(List Xc)×(List Xd)×(List Xj)×(List Xj)×(List (List Int))×(List (List Int))×(List (List Int))×Int
section
variable {P:Program} {T:TT} {pro:List Nat} {R R' S A V:Type} {g:R->R'}
end
noncomputable def dn (n:Nat) (c:Xe) (G P:List (List Int)) (i:Xd) (R S:List Xj) (O:List (List Int)):Option Ten :=
 (k154 n).G ((⟨⟨c.Sign_,c.Regs_,c.Slots_,[]⟩,R,S,O,G,P,0⟩:Xl),i)
section
variable {n:Nat} {c:Xe}
end
def base (o:List Xh):List Xh:=o.filter λx=>!(x.Op_==36)
theorem z8j (a b:List Xh):base (a++b)=base a++base b:=by unfold base;rw [filter_append]
theorem z28 (o:List Xh) (x:Xh):z11 (o++[x])=(x.Op_==36)/\lstP (o++[x])=x.Param_:=by unfold z11 lstP;simp
theorem zf6 (c:Xe) (i:Xd) (l:List Xd) (k:Nat) (s:List Bool) (o:List Xh):goR c (i::l) k s o=bif z12 c i s o then goR c l (k+1) (z1e i s o).1 (z1e i s o).2 else .inl k:=rfl
section
variable {c:Xe}
end
abbrev MSt:Type:=Int×List Xj×List Xj×List (List Int)
section
variable {n:Nat} {c:Xe} {G P:List (List Int)}
structure Inv (c:Xe) (set:List Bool) (o:List Xh) (m:MSt):Prop where
 skip:0<=m.1
 regs:m.1=0->zsq c set m.2.1
 opens:∀ (j:Nat) (x:Xh),(base o)[j]?=some x->(j:Int)+m.1<=(base o).length->zsq c x.Set_ m.2.1
 slots:y3v c m.2.2.1
 out:yd7 c m.2.2.2
end
section
variable {P:Program} {T:TT} {pro:List Nat} {R S A V:Type} {Q:R->Prop}
end
section
variable {n:Nat} {c:Xe} {G P:List (List Int)}
end
section
variable {n:Nat} {c:Xe}
end
section
variable {n:Nat} {c:Xe}
end
section
variable {n:Nat} {c:Xe}
end
def z8n (a:Xe):Nat:=a.Sign_.length+a.Regs_.length+a.Slots_.length+a.List_.length+200001
theorem zf1 {n:Nat} {c:Xe} (hs:zfn c) (hn:z8n c<=n):f23 n (c,c)=some true:=by obtain ⟨h1,h2,h3,h4⟩:=hs;unfold z8n at hn;exact zzi (by omega) (by omega) (by omega) (by omega) (by omega) (by omega) (by omega) (by omega)
section
variable {n:Nat} {c:Xe}
def z21:List Xd->List Bool->Bool
 | [],_=>true
 | i::l,s=>bif sets i then (bif (s[i.D_.toNat]?).getD false then false else z21 l (s.set i.D_.toNat true)) else z21 l s
end
def nrO (op:Int):Nat:=match rowD op with
 | some r=>bif r.a==0 then 0 else bif r.b==0 then 1 else bif r.c==0 then 2 else 3
 | none=>0
theorem yf7 (op:Int):nrO op<=3:=by
 unfold nrO;split
 ·rename_i r _;cases r.a==0<;>cases r.b==0<;>cases r.c==0<;>decide
 ·decide
theorem z40 (i:Xd):zq i=[i.A_,i.B_,i.C_].take (nrO i.Op_)/\nrO i.Op_<=3:=by
 obtain ⟨op,d,a,b,cc,N,bits⟩:=i;rcases z3t op with (rfl | rfl | rfl | rfl | rfl | rfl | rfl | rfl | rfl | rfl | rfl | rfl | rfl | rfl | rfl | rfl | rfl | rfl | rfl | rfl | rfl | rfl | rfl | rfl | rfl | rfl | rfl | rfl | rfl | rfl | rfl | rfl | rfl | rfl | rfl | rfl | rfl) | h
 iterate 37 (· exact ⟨by kernel_rfl,yf7 _⟩)
 simp only [zq,nrO,z30 h];exact ⟨rfl,by decide⟩
theorem ycj (i:Xd):(zq i).length=nrO i.Op_:=by obtain ⟨h1,h2⟩:=z40 i;rw [h1,List.length_take];simp;omega
theorem nr_A {i:Xd} (h:0<nrO i.Op_):i.A_∈zq i:=by
 rw [(z40 i).1];generalize nrO i.Op_=k at *
 match k,h with
 | k+1,_=>simp
theorem nr_B {i:Xd} (h:1<nrO i.Op_):i.B_∈zq i:=by
 rw [(z40 i).1];generalize nrO i.Op_=k at *
 match k,h with
 | k+2,_=>simp
theorem nr_C {i:Xd} (h:2<nrO i.Op_):i.C_∈zq i:=by
 rw [(z40 i).1];generalize nrO i.Op_=k at *
 match k,h with
 | k+3,_=>simp
def atR (al:List Int) (k:Int):Int:=(al[k.toNat]?).getD 0
def rdI (al:List Int) (i:Xd):Xd :=
 ⟨i.Op_,i.D_,bif Nat.blt 0 (nrO i.Op_) then atR al i.A_ else i.A_,bif Nat.blt 1 (nrO i.Op_) then atR al i.B_ else i.B_,bif Nat.blt 2 (nrO i.Op_) then atR al i.C_ else i.C_,i.N_,i.Bits_⟩
def InR (R:Nat) (i:Xd):Prop:=∀ y∈zq i,0<=y/\y<R
theorem zab {al:List Int} {R:Nat} (h:al.length=R) {k:Int} (hk:0<=k/\k<R):al[k.toNat]?=some (atR al k):=by
 unfold atR;have:k.toNat<al.length:=by omega
 rw [getElem?_eq_getElem this];rfl
theorem y4b {n:Nat} {sc:List (List Xg)} {al:List Int} {i:Xd} {R:Nat} (hn:10<n) (ha:al.length=R) (hR:R<=1000000) (hi:InR R i) :
  f240 n (sc,al,i)=some (sc,al,(rdI al i).Op_,(rdI al i).D_,(rdI al i).A_,(rdI al i).B_,(rdI al i).C_,(rdI al i).N_,(rdI al i).Bits_):=by
 obtain ⟨m,rfl⟩:∃ m,n=m+4:=⟨n - 4,by omega⟩
 rw [y4a];dsimp only;rw [zrr];simp only [Option.bind_some,ycj];obtain ⟨hr,h3⟩:=z40 i;have hA:=λh=>hi i.A_ (nr_A (i:=i) h);have hB:=λh=>hi i.B_ (nr_B (i:=i) h);have hC:=λh=>hi i.C_ (nr_C (i:=i) h);unfold rdI;generalize nrO i.Op_=k at *
 have one:∀ {m:Nat} (s s':Yat),z2j (m+4) (sc,al,i) (k:Int) s=some (.go s')->∀ f,iter (z2j (m+4) (sc,al,i) (k:Int)) (f+1) s=iter (z2j (m+4) (sc,al,i) (k:Int)) f s':=λs s' h f=>by
  conv=>lhs;unfold iter
  rw [h]
 have out:∀ {m:Nat} (s:Yat),s.1=(k:Int)->∀ f,iter (z2j (m+4) (sc,al,i) (k:Int)) (f+1) s=some (.out s):=λs h f=>by
  conv=>lhs;unfold iter
  rw [z7q,h];simp;rw [<- h]
 have s0:∀ {m:Nat} (A B C:Int),0<k->0<=A/\A<R->z2j (m+4) (sc,al,i) (k:Int) (0,i.Op_,i.D_,A,B,C,i.N_)=some (.go (1,i.Op_,i.D_,atR al A,B,C,i.N_)):=λA B C hk hA=>by
  rw [z7q];have e1:decide ((0:Int)<(k:Int))=true:=by simp;omega
  dsimp only;rw [e1,cond_true,show idx [2,3,4] (0:Int)=some 2 from rfl,Option.bind_some,show z2n [some i.Op_,some i.D_,some A,some B,some C,some i.N_,none] 2=some A from rfl,Option.bind_some,zg (by rw [ha];exact hA),zab ha hA];rfl
 have s1:∀ {m:Nat} (A B C:Int),1<k->0<=B/\B<R->z2j (m+4) (sc,al,i) (k:Int) (1,i.Op_,i.D_,A,B,C,i.N_)=some (.go (2,i.Op_,i.D_,A,atR al B,C,i.N_)):=λA B C hk hA=>by
  rw [z7q];have e1:decide ((1:Int)<(k:Int))=true:=by simp;omega
  dsimp only;rw [e1,cond_true,show idx [2,3,4] (1:Int)=some 3 from rfl,Option.bind_some,show z2n [some i.Op_,some i.D_,some A,some B,some C,some i.N_,none] 3=some B from rfl,Option.bind_some,zg (by rw [ha];exact hA),zab ha hA];rfl
 have s2:∀ {m:Nat} (A B C:Int),2<k->0<=C/\C<R->z2j (m+4) (sc,al,i) (k:Int) (2,i.Op_,i.D_,A,B,C,i.N_)=some (.go (3,i.Op_,i.D_,A,B,atR al C,i.N_)):=λA B C hk hA=>by
  rw [z7q];have e1:decide ((2:Int)<(k:Int))=true:=by simp;omega
  dsimp only;rw [e1,cond_true,show idx [2,3,4] (2:Int)=some 4 from rfl,Option.bind_some,show z2n [some i.Op_,some i.D_,some A,some B,some C,some i.N_,none] 4=some C from rfl,Option.bind_some,zg (by rw [ha];exact hA),zab ha hA];rfl
 match k,h3 with
 | 0,_ =>rw [show m+4=m+3+1 from rfl,out _ rfl];rfl
 | 1,_ =>rw [show iter (z2j (m+4) (sc,al,i) ((1:Nat):Int)) (m+4)=iter (z2j (m+4) (sc,al,i) ((1:Nat):Int)) (m+2+1+1) from rfl,one _ _ (s0 _ _ _ (by decide) (hA (by decide))),out _ rfl];rfl
 | 2,_ =>rw [show iter (z2j (m+4) (sc,al,i) ((2:Nat):Int)) (m+4)=iter (z2j (m+4) (sc,al,i) ((2:Nat):Int)) (m+1+1+1+1) from rfl,one _ _ (s0 _ _ _ (by decide) (hA (by decide))),one _ _ (s1 _ _ _ (by decide) (hB (by decide))),out _ rfl];rfl
 | 3,_ =>rw [show iter (z2j (m+4) (sc,al,i) ((3:Nat):Int)) (m+4)=iter (z2j (m+4) (sc,al,i) ((3:Nat):Int)) (m+1+1+1+1) from rfl,one _ _ (s0 _ _ _ (by decide) (hA (by decide))),one _ _ (s1 _ _ _ (by decide) (hB (by decide))),one _ _ (s2 _ _ _ (by decide) (hC (by decide))),out _ rfl];rfl
 | k+4,h=>omega
def mK (x:Xf) (y:Xg):Bool:=kf8 [.int .i64 x.i_.Op_,.int .i64 x.i_.D_,.int .i64 x.i_.A_,.int .i64 x.i_.B_,.int .i64 x.i_.C_,.int .i64 x.i_.N_,.int .u32 x.i_.Bits_,.int .i64 x.t_.Kind_,.int .i64 x.t_.Param_] y
theorem yce {x:Xf} {y:Xg}:mK x y=true↔x=y.k_:=by
 obtain ⟨⟨a1,a2,a3,a4,a5,a6,a7⟩,⟨a8,a9⟩⟩:=x;obtain ⟨⟨⟨b1,b2,b3,b4,b5,b6,b7⟩,⟨b8,b9⟩⟩,v⟩:=y;simp [mK,kf8];constructor
 ·rintro ⟨h1,h2,h3,h4,h5,h6,h7,h8,h9⟩;exact ⟨⟨h1,h2,h3,h4,h5,h6,h7⟩,h8,h9⟩
 ·rintro ⟨⟨h1,h2,h3,h4,h5,h6,h7⟩,h8,h9⟩;exact ⟨h1,h2,h3,h4,h5,h6,h7,h8,h9⟩
abbrev Scs:Type:=List (List Xg)
def z4u (sc:Scs) (x:Xf):Option Int:=sc.findSome? λm=>(m.find? (mK x)).map (·.v_)
theorem y4d {n:Nat} {sc:Scs} {al:List Int} {x:Xf} (hs:sc.length<1000000) (hn:sc.length<n) :
  f241 n (sc,al,x)=some (match z4u sc x with | some r=>(r,true,sc,al) | none=>(0,false,sc,al)):=by
 rw [y4c]
 have key:∀ (j k f:Nat),k+j=sc.length->j<f->iter (zdz n (sc,al,x) ()) f (k:Int)=some (match z4u (sc.drop k) x with | some r=>.ret r | none=>.out (sc.length:Int)):=by
  intro j
  induction j with
  | zero =>
   intro k f hk hf;obtain ⟨f,rfl⟩:∃ g,f=g+1:=⟨f - 1,by omega⟩
   obtain rfl:k=sc.length:=by omega
   rw [drop_length];unfold iter;rw [zga];simp [z4u]
  | succ j ih =>
   intro k f hk hf;obtain ⟨f,rfl⟩:∃ g,f=g+1:=⟨f - 1,by omega⟩
   have hkl:k<sc.length:=by omega
   have e1:decide ((k:Int)<(sc.length:Int))=true:=by simp;omega
   unfold iter;rw [zga];dsimp only;rw [e1,cond_true,zg (by omega),Int.toNat_natCast,getElem?_eq_getElem hkl,Option.bind_some,Option.bind_some,drop_eq_getElem_cons hkl];have em:(kf8 [.int .i64 x.i_.Op_,.int .i64 x.i_.D_,.int .i64 x.i_.A_,.int .i64 x.i_.B_,.int .i64 x.i_.C_,.int .i64 x.i_.N_,.int .u32 x.i_.Bits_,.int .i64 x.t_.Kind_,.int .i64 x.t_.Param_])=mK x:=rfl;rw [em]
   have ef:z4u (sc[k]::sc.drop (k+1)) x=match (sc[k].find? (mK x)).map (·.v_) with | some r=>some r | none=>z4u (sc.drop (k+1)) x:=by unfold z4u;rw [List.findSome?_cons];cases (sc[k].find? (mK x)).map (·.v_)<;>rfl
   rw [ef]
   have ea:List.any sc[k] (mK x)=(sc[k].find? (mK x)).isSome:=by rw [Bool.eq_iff_iff,any_eq_true,List.find?_isSome]
   rw [ea];cases hf2:sc[k].find? (mK x) with
   | some y=>simp
   | none =>simp only [Option.isSome_none,cond_false,Option.map_none,z1g (show k<4611686018427387904 by omega)];exact ih (k+1) f (by omega) (by omega)
 have:=key sc.length 0 n (by omega) hn;have this:iter (zdz n (sc,al,x) ()) n 0=_:=this;rw [this,drop_zero];cases z4u sc x<;>rfl
def keyI (c:Xe) (j:Xd):Xf:=⟨⟨j.Op_,0,j.A_,j.B_,j.C_,j.N_,j.Bits_⟩,regT c j.D_⟩
def z70 (sc:Scs) (x:Xf) (d:Int):Scs:=sc.set (sc.length - 1) (mput (mK x) ⟨x,d⟩ ((sc[sc.length - 1]?).getD []))
def cpy (c:Xe) (j:Xd):Bool:=j.Op_==3&&eqTy (regT c j.A_) (regT c j.D_)
def mem (j:Xd):Bool:=sets j&&(!(j.Op_==32)&&!(j.Op_==3))
def ruS (c:Xe) (j:Xd) (sc:Scs) (al:List Int):Bool×Scs×List Int :=
 bif j.Op_==34 then (true,sc++[[]],al) else bif j.Op_==35 then (true,sc.take (sc.length - 1),al) else
 bif cpy c j then (false,sc,al.set j.D_.toNat j.A_) else
 bif mem j then (match z4u sc (keyI c j) with
  | some r=>(false,sc,al.set j.D_.toNat r)
  | none=>(true,z70 sc (keyI c j) j.D_,al))
 else (true,sc,al)
def ruL (c:Xe):List Xd->Scs->List Int->List Xd
 | [],_,_=>[]
 | i::l,sc,al=>(bif (ruS c (rdI al i) sc al).1 then [rdI al i] else [])++ruL c l (ruS c (rdI al i) sc al).2.1 (ruS c (rdI al i) sc al).2.2
structure AlOk (R:Nat) (al:List Int):Prop where
 len:al.length=R
 rng:∀ y∈al,0<=y/\y<R
section
variable {n:Nat} {c:Xe} {i:Xd} {set:List Bool} {o:List Xh}
theorem zbm (h:fits c i=true):InR c.Regs_.length i:=by
 have key:∀ {s k:Int} {d:Xb},zr c s k d=true->(s==0)=false->0<=k/\k<c.Regs_.length:=λh hs=>by obtain ⟨t,ht⟩:=z4m h hs;exact (z4w ht).2
 intro y hy;unfold fits at h;unfold zq at hy;split at h
 ·cases h
 ·rename_i r hr;rw [hr] at hy;simp only [and_eq_true] at h;simp only [mem_append] at hy;rcases hy with hy | hy | hy
  ·cases hs:r.a==0 with
   | true=>rw [hs] at hy;cases hy
   | false=>rw [hs] at hy;obtain rfl:=mem_singleton.1 hy;exact key h.2.1 hs
  ·cases hs:r.b==0 with
   | true=>rw [hs] at hy;cases hy
   | false=>rw [hs] at hy;obtain rfl:=mem_singleton.1 hy;exact key h.2.2.1 hs
  ·cases hs:r.c==0 with
   | true=>rw [hs] at hy;cases hy
   | false=>rw [hs] at hy;obtain rfl:=mem_singleton.1 hy;exact key h.2.2.2.1 hs
theorem zht (h:i.Op_=34):z1e i set o=(set,o++[⟨34,i.N_,set⟩])/\base (o++[⟨34,i.N_,set⟩])=base o++[⟨34,i.N_,set⟩]:=by
 refine ⟨?_,?_⟩
 ·unfold z1e;rw [h];rfl
 ·rw [z8j];rfl
theorem zhu (h:i.Op_=35) (hst:z12 c i set o=true):∃ o' x,o=o'++[x]/\base o=base o'++[x]/\z1e i set o=(x.Set_,o'):=by
 unfold z12 at hst;simp only [and_eq_true] at hst;have hpl:=hst.2.2.2;unfold z44 at hpl;rw [h] at hpl;have hpl:(decide ((o.length:Int) > 0)&&!(z11 o))=true:=hpl;rcases List.eq_nil_or_concat o with rfl | ⟨o',x,rfl⟩
 ·simp at hpl
 ·rw [List.concat_eq_append] at hpl ⊢;rw [(z28 o' x).1] at hpl;simp only [and_eq_true] at hpl;refine ⟨o',x,rfl,?_,?_⟩
  ·rw [z8j];congr 1;unfold base;rw [List.filter_cons,hpl.2];rfl
  ·unfold z1e;rw [h];simp
theorem y5e (e34:i.Op_≠34) (e35:i.Op_≠35) (hst:z12 c i set o=true):base (z1e i set o).2=base o/\(z1e i set o).1=bif sets i then set.set i.D_.toNat true else set:=by
 unfold z12 at hst;simp only [and_eq_true] at hst;have hpl:=hst.2.2.2;have e34:(i.Op_==34)=false:=by simpa using e34
 have e35:(i.Op_==35)=false:=by simpa using e35
 unfold z1e;rw [e34,e35];cases e36:i.Op_==36 with
 | true =>
  have h:i.Op_=36:=by simpa using e36
  have hs:sets i=false:=by unfold sets;rw [h];rfl
  rw [hs];refine ⟨?_,rfl⟩;show base (o++[⟨i.Op_,i.N_,set⟩])=base o;rw [z8j,h];show base o++[]=_;rw [append_nil]
 | false =>
  cases e37:i.Op_==37 with
  | true =>
   have h:i.Op_=37:=by simpa using e37
   have hs:sets i=false:=by unfold sets;rw [h];rfl
   rw [hs];refine ⟨?_,rfl⟩;show base o.dropLast=base o;unfold z44 at hpl;rw [h] at hpl;have hpl:z11 o=true:=hpl;rcases List.eq_nil_or_concat o with rfl | ⟨o',x,rfl⟩
   ·rfl
   ·rw [List.concat_eq_append] at hpl ⊢;rw [(z28 o' x).1] at hpl;rw [List.dropLast_concat,z8j];have:base [x]=[]:=by unfold base;simp [hpl]
    rw [this,append_nil]
  | false =>cases hs:sets i<;>exact ⟨rfl,rfl⟩
theorem zeu (h:z12 c i set o=true):fits c i=true:=by unfold z12 at h;simp only [and_eq_true] at h;exact h.1
theorem zhl {R:Nat} {al:List Int} (h:AlOk R al) {k:Int} (hk:0<=k/\k<R):0<=atR al k/\atR al k<R:=by have:=zab h.len hk;exact h.rng _ (List.mem_of_getElem? this)
theorem z91 {k:Int} (h:0<=k/\k<c.Regs_.length):idx c.Regs_ k=some (regT c k):=by obtain ⟨y,h1,h2⟩:=y0i h;unfold regT;rw [h1];rfl
theorem zhx {R:Nat} {al:List Int} (h:AlOk R al) (d:Nat) {x:Int} (hx:0<=x/\x<R):AlOk R (al.set d x) :=
 ⟨by rw [length_set];exact h.len,λy hy=>by
  rcases List.mem_or_eq_of_mem_set hy with hy | rfl
  ·exact h.rng y hy
  ·exact hx⟩
def ScOk (R:Nat) (sc:Scs):Prop:=∀ m∈sc,∀ y∈m,0<=y.v_/\y.v_<R
theorem ziy {sc:Scs} {x:Xf} {r:Int} (h:z4u sc x=some r):∃ m∈sc,∃ y∈m,y.k_=x/\y.v_=r:=by unfold z4u at h;obtain ⟨m,hm,h⟩:=List.exists_of_findSome?_eq_some h;obtain ⟨y,hy,rfl⟩:=Option.map_eq_some_iff.1 h;exact ⟨m,hm,y,List.mem_of_find?_eq_some hy,(yce.1 (List.find?_some hy)).symm,rfl⟩
theorem zzx {x:Xf} {d:Int} {m:List Xg} {y:Xg} (h:y∈mput (mK x) ⟨x,d⟩ m):y∈m\/y=⟨x,d⟩:=by
 unfold mput at h;split at h
 ·rcases List.mem_or_eq_of_mem_set h with h | h
  ·exact .inl h
  ·exact .inr h
 ·rcases mem_append.1 h with h | h
  ·exact .inl h
  ·exact .inr (mem_singleton.1 h)
theorem zjl {sc:Scs} {x:Xf} {d:Int} {m:List Xg} (h:m∈z70 sc x d):m∈sc\/(∀ y∈m,(∃ m'∈sc,y∈m')\/y=⟨x,d⟩):=by
 unfold z70 at h;rcases List.mem_or_eq_of_mem_set h with h | rfl
 ·exact .inl h
 ·right;intro y hy;rcases zzx hy with hy | hy
  ·left;cases hg:sc[sc.length - 1]? with
   | none=>rw [hg] at hy;cases hy
   | some m=>rw [hg] at hy;exact ⟨m,List.mem_of_getElem? hg,hy⟩
  ·exact .inr hy
theorem zra {al:List Int}:sets (rdI al i)=sets i:=rfl
theorem op_A {R:Nat} {al:List Int} (h:AlOk R al) (hi:InR R i) (ho:i.Op_=3):0<=(rdI al i).A_/\(rdI al i).A_<R:=by
 have h0:0<nrO i.Op_:=by rw [ho];decide
 have e:(rdI al i).A_=atR al i.A_:=by unfold rdI;rw [ho];rfl
 rw [e];exact zhl h (hi _ (nr_A h0))
theorem zt6 {v:List Xa×List Xb×List Xc} {k:Nat} {out:List Xd} {sc:Scs} {al:List Int} (hn:1000010<n) (hR:c.Regs_.length<=1000000) (hf:fits c i=true) (hal:AlOk c.Regs_.length al)
  (h1:1<=sc.length) (h2:sc.length<=100000) (ho:out.length<=100000) (hk:k<1000000) (e1:decide ((k:Int)<(c.List_.length:Int))=true) (hi:idx c.List_ (k:Int)=some i) :
  zai n c v ((k:Int),out,sc,al)=some (.go (((k+1:Nat):Int),out++(bif (ruS c (rdI al i) sc al).1 then [rdI al i] else []),(ruS c (rdI al i) sc al).2.1,(ruS c (rdI al i) sc al).2.2)):=by
 have hIn:=zbm hf;rw [zg8];dsimp only;rw [e1,cond_true,hi,Option.bind_some,y4b (by omega) hal.len hR hIn,Option.bind_some];have wk:IntKind.i64.wrap ((k:Int)+1)=((k+1:Nat):Int):=z1g (by omega);have wl:IntKind.i64.wrap ((sc.length:Int) - 1)=((sc.length - 1:Nat):Int):=by rw [zsm (by omega) (by omega)];omega
 have fin:∀ {R:Type} (s:Scs×List Int),need ((out.length+([rdI al i]:List Xd).length) * 56<=140737488355328) (some (Bo.go (((k+1:Nat):Int),out++[rdI al i],s.1,s.2)):Option (Bo (Int×List Xd×Scs×List Int) (Int×List Xd×Scs×List Int) R))=some (.go (((k+1:Nat):Int),out++[rdI al i],s.1,s.2)):=λs=>zg (by simp;omega);have hsA:(i.Op_==3)=true->0<=(rdI al i).A_/\(rdI al i).A_<c.Regs_.length:=λh=>op_A hal hIn (by simpa using h)
 have hsD:sets i=true->0<=i.D_/\i.D_<c.Regs_.length:=λh=>by obtain ⟨t,ht,_⟩:=z78 hf h;exact (z4w ht).2
 have h3s:(i.Op_==3)=true->sets i=true:=λh=>by
  have h:i.Op_=3:=by simpa using h
  unfold sets;rw [h];rfl
 unfold ruS;have eo:(rdI al i).Op_=i.Op_:=rfl;have eD:(rdI al i).D_=i.D_:=rfl;rw [eo];simp only [wk,wl];cases e34:i.Op_==34 with
 | true =>simp only [cond_true];rw [zg (by simp;omega),Option.bind_some,orRet_inl];exact fin (sc++[[]],al)
 | false =>
  simp only [cond_false];cases e35:i.Op_==35 with
  | true =>simp only [cond_true];rw [zg (by omega),zg (by omega),Option.bind_some,orRet_inl,Int.toNat_natCast];exact fin (sc.take (sc.length - 1),al)
  | false =>
   simp only [cond_false]
   have eC:∀ {R:Type} {a:Scs} {b:List Int} {p d q r s t u:Int},(bif (i.Op_==3) then ((idx c.Regs_ (rdI al i).A_).bind λy11=>(idx c.Regs_ i.D_).bind λy12=>some (.inl ((y11.Kind_==y12.Kind_&&(y11.Param_==y12.Param_&&true)),a,b,p,d,q,r,s,t,u))) else (some (.inl (false,a,b,p,d,q,r,s,t,u))):Option (Bool×Scs×List Int×Int×Int×Int×Int×Int×Int×Int⊕R))=some (.inl (cpy c (rdI al i),a,b,p,d,q,r,s,t,u)):=by
    intro R a b p d q r s t u;unfold cpy;rw [eo,eD];cases e3:i.Op_==3 with
    | false=>rfl
    | true =>rw [cond_true,z91 (hsA e3),z91 (hsD (h3s e3))];rfl
   rw [eD,eC,Option.bind_some,orRet_inl];dsimp only;cases hcp:cpy c (rdI al i) with
   | true =>
    have e3:(i.Op_==3)=true:=by unfold cpy at hcp;rw [eo] at hcp;exact (and_eq_true_iff.1 hcp).1
    simp only [cond_true,cond_false];obtain ⟨d0,d1⟩:=hsD (h3s e3);rw [zg (by rw [hal.len];omega),zab hal.len ⟨d0,d1⟩,Option.bind_some,Option.bind_some,orRet_inr,append_nil]
   | false =>
    simp only [cond_false];have ei:(⟨i.Op_,i.D_,(rdI al i).A_,(rdI al i).B_,(rdI al i).C_,(rdI al i).N_,(rdI al i).Bits_⟩:Xd)=rdI al i:=rfl;rw [ei,zg6]
    have eM:∀ {R:Type} {a:Scs} {b:List Int} {p d q r s t u:Int},((some (sets (rdI al i))).bind (λy14=>bif y14 then (bif (i.Op_ != (32:Int)) then (some (.inl ((i.Op_ != (3:Int)),a,b,p,d,q,r,s,t,u))) else (some (.inl (false,a,b,p,d,q,r,s,t,u)))) else (some (.inl (false,a,b,p,d,q,r,s,t,u)))):Option (Bool×Scs×List Int×Int×Int×Int×Int×Int×Int×Int⊕R))=some (.inl (mem (rdI al i),a,b,p,d,q,r,s,t,u)):=by intro R a b p d q r s t u;unfold mem;rw [eo];unfold bne;cases sets (rdI al i)<;>cases i.Op_==32<;>rfl
    rw [eM,Option.bind_some,orRet_inl];dsimp only;cases hm:mem (rdI al i) with
    | false =>simp only [cond_false,cond_true,Option.bind_some,orRet_inl];exact fin (sc,al)
    | true =>
     have hs:sets i=true:=by unfold mem at hm;exact (and_eq_true_iff.1 hm).1
     obtain ⟨d0,d1⟩:=hsD hs;simp only [cond_true];rw [z91 ⟨d0,d1⟩,Option.bind_some];have ek:(⟨⟨i.Op_,0,(rdI al i).A_,(rdI al i).B_,(rdI al i).C_,(rdI al i).N_,(rdI al i).Bits_⟩,regT c i.D_⟩:Xf)=keyI c (rdI al i):=rfl;rw [ek,y4d (by omega) (by omega)];cases hfd:z4u sc (keyI c (rdI al i)) with
     | some r =>simp only [Option.bind_some,cond_true,cond_false];rw [zg (by rw [hal.len];omega),zab hal.len ⟨d0,d1⟩,Option.bind_some,Option.bind_some,orRet_inr,append_nil]
     | none =>
      simp only [Option.bind_some,cond_true,cond_false,wl,Int.toNat_natCast];rw [zg (by omega)];have hl:sc.length - 1<sc.length:=by omega
      rw [getElem?_eq_getElem hl,Option.bind_some,Option.bind_some,Option.bind_some,orRet_inl]
      have ep:z70 sc (keyI c (rdI al i)) i.D_=sc.set (sc.length - 1) (mput (mK (keyI c (rdI al i))) ⟨keyI c (rdI al i),i.D_⟩ sc[sc.length - 1]):=by unfold z70;rw [getElem?_eq_getElem hl];rfl
      rw [ep];exact fin (_,al)
theorem zyi {sc:Scs} {x:Xf} {d:Int}:(z70 sc x d).length=sc.length:=by unfold z70;rw [length_set]
theorem yct {R:Nat} {j:Xd} {sc:Scs} {al:List Int} (hal:AlOk R al) (hsc:ScOk R sc) (hA:j.Op_=3->0<=j.A_/\j.A_<R) (hD:sets j=true->0<=j.D_/\j.D_<R) :
  AlOk R (ruS c j sc al).2.2/\ScOk R (ruS c j sc al).2.1/\(ruS c j sc al).2.1.length=(bif j.Op_==34 then sc.length+1 else bif j.Op_==35 then sc.length - 1 else sc.length):=by
 unfold ruS;cases e34:j.Op_==34 with
 | true =>
  refine ⟨hal,λm hm y hy=>?_,by simp⟩;rcases mem_append.1 hm with hm | hm
  ·exact hsc m hm y hy
  ·obtain rfl:=mem_singleton.1 hm;cases hy
 | false =>
  cases e35:j.Op_==35 with
  | true=>exact ⟨hal,λm hm y hy=>hsc m (List.mem_of_mem_take hm) y hy,by simp⟩
  | false =>
   simp only [cond_false];cases hcp:cpy c j with
   | true =>
    have e3:j.Op_=3:=by unfold cpy at hcp;simpa using (and_eq_true_iff.1 hcp).1
    exact ⟨zhx hal _ (hA e3),hsc,rfl⟩
   | false =>
    simp only [cond_false];cases hm:mem j with
    | false=>exact ⟨hal,hsc,rfl⟩
    | true =>
     have hs:sets j=true:=by unfold mem at hm;exact (and_eq_true_iff.1 hm).1
     simp only [cond_true];cases hfd:z4u sc (keyI c j) with
     | some r =>obtain ⟨m,hm,y,hy,_,rfl⟩:=ziy hfd;exact ⟨zhx hal _ (hsc m hm y hy),hsc,rfl⟩
     | none =>
      refine ⟨hal,λm hm y hy=>?_,zyi⟩;rcases zjl hm with hm | hm
      ·exact hsc m hm y hy
      ·rcases hm y hy with ⟨m',hm',hy'⟩ | rfl
       ·exact hsc m' hm' y hy'
       ·exact hD hs
theorem zr5 {v:List Xa×List Xb×List Xc} (hn:1000010<n) (hR:c.Regs_.length<=1000000) (hL:c.List_.length<=50000):∀ (j k f:Nat) (set:List Bool) (o:List Xh) (r:List Bool×List Xh) (sc:Scs) (al:List Int) (out:List Xd),
  k+j=c.List_.length->j<f->goR c (c.List_.drop k) k set o = .inr r->AlOk c.Regs_.length al->ScOk c.Regs_.length sc->sc.length=(base o).length+1->sc.length<=k+1->out.length<=k ->
   ∃ sc' al',iter (zai n c v) f ((k:Int),out,sc,al)=some (.out ((c.List_.length:Int),out++ruL c (c.List_.drop k) sc al,sc',al'))
 | 0,k,f+1,set,o,r,sc,al,out,hk,_,_,_,_,_,_,_=>by
  obtain rfl:k=c.List_.length:=by omega
  rw [drop_length];refine ⟨sc,al,?_⟩;unfold iter;rw [zg8];simp [ruL]
 | j+1,k,f+1,set,o,r,sc,al,out,hk,hf,hg,hal,hsc,hl,hl2,ho=>by
  have hkl:k<c.List_.length:=by omega
  have e1:decide ((k:Int)<(c.List_.length:Int))=true:=by simp;omega
  rw [drop_eq_getElem_cons hkl,zf6] at hg;cases hst:z12 c c.List_[k] set o with
  | false=>rw [hst] at hg;cases hg
  | true =>
   rw [hst,cond_true] at hg;have hfit:=zeu hst;have hIn:=zbm hfit
   have hD:sets (rdI al c.List_[k])=true->0<=(rdI al c.List_[k]).D_/\(rdI al c.List_[k]).D_<c.Regs_.length:=λh=>by obtain ⟨t,ht,_⟩:=z78 hfit h;exact (z4w ht).2
   obtain ⟨q1,q2,q3⟩:=yct (c:=c) hal hsc (λh=>op_A hal hIn h) hD
   have hlen:(ruS c (rdI al c.List_[k]) sc al).2.1.length=(base (z1e c.List_[k] set o).2).length+1/\(ruS c (rdI al c.List_[k]) sc al).2.1.length<=k+2:=by
    rw [q3,show (rdI al c.List_[k]).Op_=c.List_[k].Op_ from rfl];by_cases h34:c.List_[k].Op_=34
    ·obtain ⟨a,b⟩:=zht (set:=set) (o:=o) h34;rw [a,b,h34];simp;omega
    ·by_cases h35:c.List_[k].Op_=35
     ·obtain ⟨o',x,a,b,d⟩:=zhu h35 hst;rw [d,h35];rw [b] at hl;simp at hl ⊢;omega
     ·obtain ⟨a,_⟩:=y5e h34 h35 hst;rw [a];have e34:(c.List_[k].Op_==34)=false:=by simpa using h34
      have e35:(c.List_[k].Op_==35)=false:=by simpa using h35
      rw [e34,e35];simp only [cond_false];omega
   have hout:(out++(bif (ruS c (rdI al c.List_[k]) sc al).1 then [rdI al c.List_[k]] else [])).length<=k+1:=by cases (ruS c (rdI al c.List_[k]) sc al).1<;>simp<;>omega
   obtain ⟨sc',al',e⟩:=zr5 hn hR hL j (k+1) f _ _ r _ _ (out++(bif (ruS c (rdI al c.List_[k]) sc al).1 then [rdI al c.List_[k]] else [])) (by omega) (by omega) hg q1 q2 hlen.1 hlen.2 hout;refine ⟨sc',al',?_⟩;unfold iter;rw [zt6 (i:=c.List_[k]) hn hR hfit hal (by omega) (by omega) (by omega) (by omega) e1 (z1l hkl)];simp only;rw [e,drop_eq_getElem_cons hkl,List.append_assoc];rfl
theorem y09 (hn:100000<n) (hR:c.Regs_.length<=20000) (hL:c.List_.length<=40000) (hf:∀ i∈c.List_,fits c i=true):f239 n c=some (z21 c.List_ (z2y c)):=by
 have key:∀ (j k f:Nat) (s:List Bool),k+j=c.List_.length->j<f->s.length=c.Regs_.length ->
   ∃ b,iter (zdy n c ()) f ((k:Int),s)=some b/\(match b with | .go _=>False | .out _=>z21 (c.List_.drop k) s=true | .ret _=>z21 (c.List_.drop k) s=false):=by
  intro j
  induction j with
  | zero =>
   intro k f s hk hj hs;obtain ⟨f,rfl⟩:∃ g,f=g+1:=⟨f - 1,by omega⟩
   obtain rfl:k=c.List_.length:=by omega
   rw [drop_length];unfold iter;rw [zg9];simp only [show decide ((c.List_.length:Int)<(c.List_.length:Int))=false by simp,cond_false];exact ⟨_,rfl,rfl⟩
  | succ j ih =>
   intro k f s hk hj hs;obtain ⟨f,rfl⟩:∃ g,f=g+1:=⟨f - 1,by omega⟩
   have hkl:k<c.List_.length:=by omega
   have e1:decide ((k:Int)<(c.List_.length:Int))=true:=by simp;omega
   rw [drop_eq_getElem_cons hkl];unfold iter;rw [zg9];unfold z21;simp only [e1,cond_true,z1l hkl,Option.bind_some,zg6,z1g (show k<4611686018427387904 by omega)];cases hse:sets c.List_[k] with
   | false =>simp only [Bool.not_false,cond_true,cond_false];exact ih (k+1) f s (by omega) (by omega) hs
   | true =>
    obtain ⟨t,ht,_⟩:=z78 (hf _ (getElem_mem hkl)) hse;obtain ⟨a,b,_⟩:=yc6 ht;have hD:c.List_[k].D_.toNat<s.length:=by omega
    have eD:s[c.List_[k].D_.toNat]?=some (s[c.List_[k].D_.toNat]'hD):=getElem?_eq_getElem hD;simp only [Bool.not_true,cond_false,cond_true,eD,Option.bind_some,getD_some];rw [zg (by omega),zg (by omega)];cases s[c.List_[k].D_.toNat]'hD with
    | true=>exact ⟨_,rfl,rfl⟩
    | false =>simp only [cond_false];exact ih (k+1) f _ (by omega) (by omega) (by rw [length_set];exact hs)
 rw [y49,zg (by omega)];have er:replicate ((c.Regs_.length:Int)).toNat false=z2y c:=by rw [Int.toNat_natCast]
 rw [er];obtain ⟨b,e1,e2⟩:=key c.List_.length 0 n (z2y c) (by omega) (by omega) (by simp);have e1:iter (zdy n c ()) n (0,z2y c)=_:=e1;rw [e1];rw [drop_zero] at e2;cases b with
 | go s=>exact e2.elim
 | out y =>have e2:z21 c.List_ (z2y c)=true:=e2;rw [e2];rfl
 | ret z =>have e2:z21 c.List_ (z2y c)=false:=e2;rw [e2];rfl
def z2v (R:Nat):List Int:=(range R).map λ(k:Nat)=>(k:Int)
theorem zjh (R:Nat):AlOk R (z2v R):=⟨by simp [z2v],λy hy=>by obtain ⟨k,hk,rfl⟩:=List.mem_map.1 hy;have:=List.mem_range.1 hk;omega⟩
def reuL (c:Xe):List Xd:=bif z21 c.List_ (z2y c) then ruL c c.List_ [[]] (z2v c.Regs_.length) else c.List_
def zau (c:Xe):Int×List Xa×List Xb×List Xc×List Xd :=
 bif (chk c).1 != 0 then (160,[],[],[],[]) else (0,c.Sign_,c.Regs_,c.Slots_,reuL c)
theorem y06 (hn:1000010<n) (hs:zfn c) (hu:U32s c):f238 n c=some (zau c):=by
 rw [y48,(zkh (by omega) hu.1 hu.2).1];simp only [Option.bind_some];unfold zau;cases hc:(chk c).1 != 0 with
 | true=>rfl
 | false =>
  have hc0:(chk c).1=0:=by simpa using hc
  obtain ⟨_,q1,q2,q3,q4,q5,r,q6,q7⟩:=zcr hc0;simp only [decide_eq_false_iff_not] at q1 q2 q3;have e1:f193 n c.Sign_=need (c.Sign_.length * 32<=140737488355328) (some c.Sign_):=rfl;have e2:f194 n c.Regs_=need (c.Regs_.length * 16<=140737488355328) (some c.Regs_):=rfl;have e3:f195 n c.Slots_=need (c.Slots_.length * 32<=140737488355328) (some c.Slots_):=rfl;have e4:f196 n c.List_=need (c.List_.length * 56<=140737488355328) (some c.List_):=rfl;rw [e1,e2,e3,e4,zg hs.s,zg hs.r,zg hs.l,zg hs.i,y09 (by omega) (by omega) (by omega) (zbs c _ _ _ _ _ q6)];simp only [Option.bind_some,cond_false];unfold reuL;cases hsg:z21 c.List_ (z2y c) with
  | false=>rfl
  | true =>
   simp only [Bool.not_true,cond_false,cond_true];rw [zg (by omega)];have er:replicate ((c.Regs_.length:Int)).toNat (0:Int)=replicate c.Regs_.length 0:=by rw [Int.toNat_natCast]
   have i1:=z2e (L:=c.Regs_.length) (body:=zdx n c (c.Sign_,c.Regs_,c.Slots_)) (λk=>((k:Int),z2v k++replicate (c.Regs_.length - k) 0)) (λk hk=>?_) (y:=((c.Regs_.length:Int),z2v c.Regs_.length)) ?_ c.Regs_.length 0 n (by omega) (by omega)
   ·have i1:iter (zdx n c (c.Sign_,c.Regs_,c.Slots_)) n (0,replicate (c.Regs_.length - 0) 0)=_:=i1;rw [er];rw [Nat.sub_zero] at i1;rw [i1];simp only [Option.bind_some,Bo.then];obtain ⟨sc',al',e⟩:=zr5 (v:=(c.Sign_,c.Regs_,c.Slots_)) hn (by omega) (by omega) c.List_.length 0 n (z2y c) [] r [[]] (z2v c.Regs_.length) [] (by omega) (by omega) (by rw [drop_zero];exact q6) (zjh _) (λm hm y hy=>by obtain rfl:=mem_singleton.1 hm;cases hy) rfl (by simp) (Nat.le_refl _);have e:iter (zai n c (c.Sign_,c.Regs_,c.Slots_)) n (0,[],[[]],z2v c.Regs_.length)=_:=e;rw [drop_zero,List.nil_append] at e;rw [e];rfl
   ·rw [zg7];dsimp only;rw [er,List.length_replicate];have h1:decide ((k:Int)<(c.Regs_.length:Int))=true:=by simp;omega
    have hlen:(z2v k).length=k:=by simp [z2v]
    have hg:(z2v k++replicate (c.Regs_.length - k) (0:Int))[k]?=some 0:=by rw [List.getElem?_append_right (by omega),hlen,Nat.sub_self,List.getElem?_replicate,if_pos (by omega)]
    have hst:(z2v k++replicate (c.Regs_.length - k) (0:Int)).set k (k:Int)=z2v (k+1)++replicate (c.Regs_.length - (k+1)) 0:=by
     rw [List.set_append_right _ _ (by omega),hlen,Nat.sub_self];obtain ⟨j,hj⟩:∃ j,c.Regs_.length - k=j+1:=⟨c.Regs_.length - k - 1,by omega⟩
     rw [hj,show c.Regs_.length - (k+1)=j by omega,List.replicate_succ,List.set_cons_zero];unfold z2v;rw [List.range_succ,map_append];simp
    rw [h1,cond_true,zg (by simp [hlen];omega),Int.toNat_natCast,hg,Option.bind_some,z1g (by omega),hst]
   ·rw [zg7];simp
end
abbrev on (s:List Bool) (k:Nat):Prop:=(s[k]?).getD false=true
theorem ycn {s:List Bool} {d k:Nat} (h:on s k):on (s.set d true) k:=by
 unfold on at *;rw [getElem?_set];by_cases e:d=k
 ·subst e;rw [if_pos rfl]
  have:d<s.length:=by
   rcases Nat.lt_or_ge d s.length with h' | h'
   ·exact h'
   ·rw [getElem?_eq_none h'] at h;cases h
  rw [if_pos this];rfl
 ·rw [if_neg e];exact h
theorem y5k {s:List Bool} {d:Nat} (h:d<s.length):on (s.set d true) d:=by unfold on;rw [getElem?_set_self h];rfl
theorem ycm {s:List Bool} {d k:Nat} (h:on (s.set d true) k):on s k\/(k=d/\d<s.length):=by
 unfold on at *;rw [getElem?_set] at h;by_cases e:d=k
 ·right;rw [if_pos e] at h;split at h
  ·exact ⟨e.symm,by omega⟩
  ·cases h
 ·rw [if_neg e] at h;exact .inl h
theorem yck {op:Int} {r:z3m} (h:rowD op=some r):(r.a==0) = !(Nat.blt 0 (nrO op))/\(r.b==0) = !(Nat.blt 1 (nrO op))/\(r.c==0) = !(Nat.blt 2 (nrO op)):=by
 rcases z3t op with (rfl | rfl | rfl | rfl | rfl | rfl | rfl | rfl | rfl | rfl | rfl | rfl | rfl | rfl | rfl | rfl | rfl | rfl | rfl | rfl | rfl | rfl | rfl | rfl | rfl | rfl | rfl | rfl | rfl | rfl | rfl | rfl | rfl | rfl | rfl | rfl | rfl) | h0
 iterate 37 (· cases h;decide)
 rw [z30 h0] at h;cases h
structure Like (c d:Xe) (i j:Xd):Prop where
 op:j.Op_=i.Op_
 bits:j.Bits_=i.Bits_
 n:j.N_=i.N_
 D:sets i=true->idx d.Regs_ j.D_=idx c.Regs_ i.D_
 D0:sets i=false->j.D_=i.D_
 A:0<nrO i.Op_->idx d.Regs_ j.A_=idx c.Regs_ i.A_
 A0:¬ 0<nrO i.Op_->j.A_=i.A_
 B:1<nrO i.Op_->idx d.Regs_ j.B_=idx c.Regs_ i.B_
 B0:¬ 1<nrO i.Op_->j.B_=i.B_
 C:2<nrO i.Op_->idx d.Regs_ j.C_=idx c.Regs_ i.C_
 C0:¬ 2<nrO i.Op_->j.C_=i.C_
section
variable {c d:Xe} {i j:Xd} {set:List Bool} {o:List Xh}
theorem z81 {s k k':Int} {t:Xb} (h:(s==0)=false->idx d.Regs_ k'=idx c.Regs_ k) (h0:(s==0)=true->k'=k):zr d s k' t=zr c s k t:=by
 unfold zr;cases hs:s==0 with
 | true=>rw [h0 hs];rfl
 | false=>rw [h hs];rfl
theorem zy0 (h:Like c d i j) (hs:d.Sign_=c.Sign_) (hz:d.Slots_=c.Slots_):fits d j=fits c i:=by
 unfold fits;rw [h.op];cases hr:rowD i.Op_ with
 | none=>rfl
 | some r =>
  obtain ⟨e1,e2,e3⟩:=yck hr;have hset:sets i = !(r.d==0):=by unfold sets;rw [hr]
  have hD:∀ t,zr d r.d j.D_ t=zr c r.d i.D_ t:=λt=>z81 (λq=>h.D (by rw [hset,q];rfl)) (λq=>h.D0 (by rw [hset,q];rfl))
  have hA:∀ t,zr d r.a j.A_ t=zr c r.a i.A_ t:=λt=>z81 (λq=>h.A (by rw [q] at e1;simp only [false_eq,not_eq_false'] at e1;exact le_of_ble_eq_true e1)) (λq=>h.A0 (λhc=>by have:Nat.blt 0 (nrO i.Op_)=true:=Nat.ble_eq_true_of_le hc;rw [q,this] at e1;cases e1))
  have hB:∀ t,zr d r.b j.B_ t=zr c r.b i.B_ t:=λt=>z81 (λq=>h.B (by rw [q] at e2;simp only [false_eq,not_eq_false'] at e2;exact le_of_ble_eq_true e2)) (λq=>h.B0 (λhc=>by have:Nat.blt 1 (nrO i.Op_)=true:=Nat.ble_eq_true_of_le hc;rw [q,this] at e2;cases e2))
  have hC:∀ t,zr d r.c j.C_ t=zr c r.c i.C_ t:=λt=>z81 (λq=>h.C (by rw [q] at e3;simp only [false_eq,not_eq_false'] at e3;exact le_of_ble_eq_true e3)) (λq=>h.C0 (λhc=>by have:Nat.blt 2 (nrO i.Op_)=true:=Nat.ble_eq_true_of_le hc;rw [q,this] at e3;cases e3))
  have hb:z53 j=z53 i:=by unfold z53;rw [h.op,h.bits]
  have htD:tyD d r j=tyD c r i:=by
   unfold tyD;cases q:r.d==0 with
   | true=>rfl
   | false=>rw [h.D (by rw [hset,q];rfl)]
  have htF:tyF d r j=tyF c r i:=by
   unfold tyF;cases q:r.d==0 with
   | false=>rw [h.D (by rw [hset,q];rfl)];rfl
   | true =>
    cases q2:r.a==0 with
    | true=>rfl
    | false =>rw [h.A (by rw [q2] at e1;simp only [false_eq,not_eq_false'] at e1;exact le_of_ble_eq_true e1)];rfl
  have hn:nOk d r.n j.N_ (tyF d r j)=nOk c r.n i.N_ (tyF c r i):=by unfold nOk;rw [hs,hz,h.n,htF]
  simp only [hD,hA,hB,hC,hb,hn,htD]
theorem yf8 {i:Xd} (h:onA i=true):0<nrO i.Op_:=by unfold onA at h;simp only [Bool.or_eq_true,beq_iff_eq] at h;rcases h with h | h<;>rw [h]<;>decide
theorem zy1 (h:Like c d i j):vecP d j=vecP c i:=by
 have e1:onD j=onD i:=by unfold onD;rw [h.op]
 have e2:onA j=onA i:=by unfold onA;rw [h.op]
 unfold vecP;rw [e1,e2];cases hd:onD i with
 | true=>simp only [cond_true];rw [h.D ((zzz i).1 hd)]
 | false =>
  cases ha:onA i with
  | true=>simp only [cond_true,cond_false];rw [h.A (yf8 ha)]
  | false =>simp only [cond_false];rw [z1y (.inl (by decide)),z1y (.inl (by decide))]
theorem zs8 {o p:List Xh} (h:j.Op_=i.Op_) (h1:z11 p=z11 o) (h2:p.length=o.length):z44 j p=z44 i o:=by unfold z44;rw [h,h1,h2]
theorem zna {s':List Bool} {p:List Xh} (h:Like c d i j) (hs:d.Sign_=c.Sign_) (hz:d.Slots_=c.Slots_) (h1:z11 p=z11 o) (h2:lstP p=lstP o) (h3:p.length=o.length) (hr:rdOk s' j=true) (hst:z12 c i set o=true):z12 d j s' p=true:=by unfold z12 at hst ⊢;simp only [and_eq_true] at hst;rw [zy0 h hs hz,zy1 h,h.op,h1,h2,zs8 h.op h1 h3,hr,hst.1,hst.2.1,hst.2.2.2];rfl
structure Lvl (c:Xe) (done s s':List Bool) (al:List Int) (sc:Scs):Prop where
 len:s.length=c.Regs_.length
 len':s'.length=c.Regs_.length
 regs:∀ r:Nat,on s r->on done r/\on s' (atR al (r:Int)).toNat/\regT c (atR al (r:Int))=regT c (r:Int)
 dn:∀ r:Nat,on s' r->on done r
 kept:∀ m∈sc,∀ y∈m,0<=y.v_/\on s' y.v_.toNat/\regT c y.v_=y.k_.t_/\∀ z∈zq y.k_.i_,0<=z/\on s' z.toNat
inductive Stk (c:Xe) (done:List Bool) (al:List Int):List Xh->List Xh->Scs->Prop
 | nil:Stk c done al [] [] []
 | wh {o p:List Xh} {sc:Scs} {m:List Xg} {N:Int} {s s':List Bool}:Stk c done al o p sc->Lvl c done s s' al (sc++[m])->Stk c done al (o++[⟨34,N,s⟩]) (p++[⟨34,N,s'⟩]) (sc++[m])
 | lp {o p:List Xh} {sc:Scs} {N:Int} {s s':List Bool}:Stk c done al o p sc->Stk c done al (o++[⟨36,N,s⟩]) (p++[⟨36,N,s'⟩]) sc
theorem Stk.inv {done:List Bool} {al:List Int} {o p:List Xh} {sc:Scs} (h:Stk c done al o p sc):(o=[]/\p=[]/\sc=[]) \/
  (∃ o' p' sc' m N s s',o=o'++[⟨34,N,s⟩]/\p=p'++[⟨34,N,s'⟩]/\sc=sc'++[m]/\Stk c done al o' p' sc'/\Lvl c done s s' al sc)\/(∃ o' p' N s s',o=o'++[⟨36,N,s⟩]/\p=p'++[⟨36,N,s'⟩]/\Stk c done al o' p' sc):=by
 cases h with
 | nil=>exact .inl ⟨rfl,rfl,rfl⟩
 | wh h1 h2=>exact .inr (.inl ⟨_,_,_,_,_,_,_,rfl,rfl,rfl,h1,h2⟩)
 | lp h1=>exact .inr (.inr ⟨_,_,_,_,_,rfl,rfl,h1⟩)
theorem Stk.skel {done:List Bool} {al:List Int} {o p:List Xh} {sc:Scs} (h:Stk c done al o p sc):z11 p=z11 o/\lstP p=lstP o/\p.length=o.length:=by
 have len:∀ {o p:List Xh} {sc:Scs},Stk c done al o p sc->p.length=o.length:=by
  intro o p sc h
  induction h with
  | nil=>rfl
  | wh _ _ ih=>simp [ih]
  | lp _ ih=>simp [ih]
 refine ⟨?_,?_,len h⟩
 ·rcases h.inv with ⟨rfl,rfl,_⟩ | ⟨o',p',sc',m,N,s,s',rfl,rfl,_⟩ | ⟨o',p',N,s,s',rfl,rfl,_⟩
  ·rfl
  ·rw [(z28 _ _).1,(z28 _ _).1]
  ·rw [(z28 _ _).1,(z28 _ _).1]
 ·rcases h.inv with ⟨rfl,rfl,_⟩ | ⟨o',p',sc',m,N,s,s',rfl,rfl,_⟩ | ⟨o',p',N,s,s',rfl,rfl,_⟩
  ·rfl
  ·rw [(z28 _ _).2,(z28 _ _).2]
  ·rw [(z28 _ _).2,(z28 _ _).2]
theorem Lvl.more {done done' s s':List Bool} {al al':List Int} {sc:Scs} (h:Lvl c done s s' al sc) (hd:∀ r,on done r->on done' r) (ha:∀ r:Nat,on done r->atR al' (r:Int)=atR al (r:Int)):Lvl c done' s s' al' sc :=
 ⟨h.len,h.len',λr hr=>by obtain ⟨h1,h2,h3⟩:=h.regs r hr;rw [ha r h1];exact ⟨hd r h1,h2,h3⟩,λr hr=>hd r (h.dn r hr),h.kept⟩
theorem Stk.more {done done':List Bool} {al al':List Int} {o p:List Xh} {sc:Scs} (h:Stk c done al o p sc) (hd:∀ r,on done r->on done' r) (ha:∀ r:Nat,on done r->atR al' (r:Int)=atR al (r:Int)):Stk c done' al' o p sc:=by
 induction h with
 | nil=>exact .nil
 | wh _ h2 ih=>exact .wh ih (h2.more hd ha)
 | lp _ ih=>exact .lp ih
structure RJ (c:Xe) (done set set':List Bool) (o p:List Xh) (sc:Scs) (al:List Int):Prop where
 aok:AlOk c.Regs_.length al
 new:∀ r:Nat,r<c.Regs_.length->¬ on done r->atR al (r:Int)=(r:Int)
 len:done.length=c.Regs_.length
 cur:Lvl c done set set' al sc
 stk:∃ sc0 m,sc=sc0++[m]/\Stk c done al o p sc0
def z26 (i:Xd) (done:List Bool):List Bool:=bif sets i then done.set i.D_.toNat true else done
theorem z2t {done:List Bool} {r:Nat} (h:on done r):on (z26 i done) r:=by
 unfold z26;cases sets i with
 | true=>exact ycn h
 | false=>exact h
theorem zhw {done set':List Bool} {al:List Int} {sc:Scs} (h:Lvl c done set set' al sc) (hf:fits c i=true) (hr:rdOk set i=true) {k:Int} (hk:k∈zq i):0<=k/\k<c.Regs_.length/\on done k.toNat/\on set' (atR al k).toNat/\regT c (atR al k)=regT c k:=by obtain ⟨h0,h1⟩:=zbm hf k hk;have hs:on set k.toNat:=y3l hr hk;obtain ⟨h2,h3,h4⟩:=h.regs _ hs;rw [Int.toNat_of_nonneg h0] at h3 h4;exact ⟨h0,h1,h2,h3,h4⟩
theorem zmf {al:List Int} {k:Int} (h:k∈zq (rdI al i)):∃ k0∈zq i,k=atR al k0:=by
 obtain ⟨h1,h2⟩:=z40 i;obtain ⟨h3,h4⟩:=z40 (rdI al i);rw [h3] at h;rw [h1];have eo:(rdI al i).Op_=i.Op_:=rfl;rw [eo] at h;unfold rdI at h;simp only at h;generalize nrO i.Op_=k1 at *
 match k1,h2 with
 | 0,_=>simp at h
 | 1,_ =>simp at h;exact ⟨i.A_,by simp,h⟩
 | 2,_ =>
  simp at h;rcases h with h | h
  ·exact ⟨i.A_,by simp,h⟩
  ·exact ⟨i.B_,by simp,h⟩
 | 3,_ =>
  simp at h;rcases h with h | h | h
  ·exact ⟨i.A_,by simp,h⟩
  ·exact ⟨i.B_,by simp,h⟩
  ·exact ⟨i.C_,by simp,h⟩
theorem y5n {done set':List Bool} {al:List Int} {sc:Scs} (h:Lvl c done set set' al sc) (hal:AlOk c.Regs_.length al) (hf:fits c i=true) (hr:rdOk set i=true):Like c c i (rdI al i):=by
 have key:∀ k∈zq i,idx c.Regs_ (atR al k)=idx c.Regs_ k:=λk hk=>by obtain ⟨h0,h1,_,_,h4⟩:=zhw h hf hr hk;rw [z91 ⟨h0,h1⟩,z91 (zhl hal ⟨h0,h1⟩),h4]
 have bt:∀ k:Nat,k<nrO i.Op_->Nat.blt k (nrO i.Op_)=true:=λk h=>Nat.ble_eq_true_of_le h
 have bf:∀ k:Nat,¬ k<nrO i.Op_->Nat.blt k (nrO i.Op_)=false:=λk h=>by
  cases q:Nat.blt k (nrO i.Op_) with
  | false=>rfl
  | true=>exact absurd (le_of_ble_eq_true q) h
 refine ⟨rfl,rfl,rfl,λ_=>rfl,λ_=>rfl,λh0=>?_,λh0=>?_,λh0=>?_,λh0=>?_,λh0=>?_,λh0=>?_⟩
 ·unfold rdI;simp only [bt 0 h0,cond_true];exact key _ (nr_A h0)
 ·unfold rdI;simp only [bf 0 h0,cond_false]
 ·unfold rdI;simp only [bt 1 h0,cond_true];exact key _ (nr_B h0)
 ·unfold rdI;simp only [bf 1 h0,cond_false]
 ·unfold rdI;simp only [bt 2 h0,cond_true];exact key _ (nr_C h0)
 ·unfold rdI;simp only [bf 2 h0,cond_false]
theorem y5o {done set':List Bool} {al:List Int} {sc:Scs} (h:Lvl c done set set' al sc) (hf:fits c i=true) (hr:rdOk set i=true):rdOk set' (rdI al i)=true:=by unfold rdOk;rw [all_eq_true];intro k hk;obtain ⟨k0,h1,rfl⟩:=zmf hk;exact (zhw h hf hr h1).2.2.2.1
end
section
variable {c:Xe} {i:Xd} {set set' done:List Bool} {o p:List Xh} {sc:Scs} {al:List Int}
theorem zqp (h:i.Op_=36):z1e i set o=(set,o++[⟨36,i.N_,set⟩]):=by unfold z1e;rw [h];rfl
theorem zqq (h:i.Op_=37):z1e i set o=(set,o.dropLast):=by unfold z1e;rw [h];rfl
theorem zqr (h1:i.Op_≠34) (h2:i.Op_≠35) (h3:i.Op_≠36) (h4:i.Op_≠37):z1e i set o=(z26 i set,o):=by
 have h1:(i.Op_==34)=false:=by simpa using h1
 have h2:(i.Op_==35)=false:=by simpa using h2
 have h3:(i.Op_==36)=false:=by simpa using h3
 have h4:(i.Op_==37)=false:=by simpa using h4
 unfold z1e z26;rw [h1,h2,h3,h4];cases sets i<;>rfl
theorem zcu {s:List Bool} {r:Nat} (h:on (z26 i s) r):on s r\/(sets i=true/\r=i.D_.toNat/\i.D_.toNat<s.length):=by
 unfold z26 at h;cases hs:sets i with
 | false=>rw [hs] at h;exact .inl h
 | true =>
  rw [hs] at h;rcases ycm h with h | ⟨h1,h2⟩
  ·exact .inl h
  ·exact .inr ⟨rfl,h1,h2⟩
theorem z76 (s:List Bool):(z26 i s).length=s.length:=by unfold z26;cases sets i<;>simp
theorem z4t {s:List Bool} (hs:sets i=true) (h:i.D_.toNat<s.length):on (z26 i s) i.D_.toNat:=by unfold z26;rw [hs];exact y5k h
theorem RJ.el (h:RJ c done set set' o p sc al) (hf:fits c i=true) (hd:sets i=true->¬ on done i.D_.toNat):RJ c (z26 i done) (z26 i set) (z26 i set') o p sc al:=by
 have hD:sets i=true->0<=i.D_/\i.D_<c.Regs_.length:=λh=>by obtain ⟨t,ht,_⟩:=z78 hf h;exact (z4w ht).2
 refine ⟨h.aok,λr hr hn=>h.new r hr (λq=>hn (z2t q)),by rw [z76];exact h.len,⟨by rw [z76];exact h.cur.len,by rw [z76];exact h.cur.len',λr hr=>?_,λr hr=>?_,λm hm y hy=>?_⟩,?_⟩
 ·rcases zcu hr with hr | ⟨h1,rfl,h2⟩
  ·obtain ⟨q1,q2,q3⟩:=h.cur.regs r hr;exact ⟨z2t q1,z2t q2,q3⟩
  ·obtain ⟨d0,d1⟩:=hD h1;have e:atR al (i.D_.toNat:Int)=(i.D_.toNat:Int):=h.new _ (by omega) (hd h1);rw [e];exact ⟨z4t h1 (by rw [h.len];omega),by rw [Int.toNat_natCast];exact z4t h1 (by rw [h.cur.len'];omega),rfl⟩
 ·rcases zcu hr with hr | ⟨h1,rfl,h2⟩
  ·exact z2t (h.cur.dn r hr)
  ·obtain ⟨d0,d1⟩:=hD h1;exact z4t h1 (by rw [h.len];omega)
 ·obtain ⟨q1,q2,q3,q4⟩:=h.cur.kept m hm y hy;exact ⟨q1,z2t q2,q3,λz hz=>⟨(q4 z hz).1,z2t (q4 z hz).2⟩⟩
 ·obtain ⟨sc0,m,e,hs⟩:=h.stk;exact ⟨sc0,m,e,hs.more (λr hr=>z2t hr) (λ_ _=>rfl)⟩
theorem zyh {sc0:Scs} {m:List Xg} {x:Xf} {d:Int}:z70 (sc0++[m]) x d=sc0++[mput (mK x) ⟨x,d⟩ m]:=by unfold z70;simp
theorem RJ.put (h:RJ c done set set' o p sc al) {x:Xf} {d:Int} (h0:0<=d) (h1:on set' d.toNat) (h2:regT c d=x.t_) (h3:∀ z∈zq x.i_,0<=z/\on set' z.toNat):RJ c done set set' o p (z70 sc x d) al:=by
 refine ⟨h.aok,h.new,h.len,⟨h.cur.len,h.cur.len',h.cur.regs,h.cur.dn,λm hm y hy=>?_⟩,?_⟩
 ·rcases zjl hm with hm | hm
  ·exact h.cur.kept m hm y hy
  ·rcases hm y hy with ⟨m',hm',hy'⟩ | rfl
   ·exact h.cur.kept m' hm' y hy'
   ·exact ⟨h0,h1,h2,h3⟩
 ·obtain ⟨sc0,m,e,hs⟩:=h.stk;subst e;exact ⟨sc0,_,zyh,hs⟩
theorem znh {k d:Nat} {x:Int} (h:k≠d):atR (al.set d x) (k:Int)=atR al (k:Int):=by unfold atR;rw [Int.toNat_natCast,getElem?_set,if_neg (λe=>h e.symm)]
theorem zz4 {d:Nat} {x:Int} (h:d<al.length):atR (al.set d x) (d:Int)=x:=by unfold atR;rw [Int.toNat_natCast,getElem?_set_self h];rfl
theorem RJ.drop (h:RJ c done set set' o p sc al) (hs:sets i=true) (hD:0<=i.D_/\i.D_<c.Regs_.length) (hd:¬ on done i.D_.toNat) {x:Int} (hx:0<=x/\x<c.Regs_.length) (hon:on set' x.toNat) (ht:regT c x=regT c i.D_):RJ c (z26 i done) (z26 i set) set' o p sc (al.set i.D_.toNat x):=by
 have hne:∀ r:Nat,on done r->r≠i.D_.toNat:=λr hr e=>hd (e ▸ hr);have hal:i.D_.toNat<al.length:=by rw [h.aok.len];omega
 have ha:∀ r:Nat,on done r->atR (al.set i.D_.toNat x) (r:Int)=atR al (r:Int):=λr hr=>znh (hne r hr);refine ⟨zhx h.aok _ hx,λr hr hn=>?_,by rw [z76];exact h.len,⟨by rw [z76];exact h.cur.len,h.cur.len',λr hr=>?_,λr hr=>z2t (h.cur.dn r hr),h.cur.kept⟩,?_⟩
 ·have:r≠i.D_.toNat:=λe=>hn (by rw [e];exact z4t hs (by rw [h.len];omega));rw [znh this];exact h.new r hr (λq=>hn (z2t q))
 ·rcases zcu hr with hr | ⟨h1,rfl,h2⟩
  ·obtain ⟨q1,q2,q3⟩:=h.cur.regs r hr;rw [ha r q1];exact ⟨z2t q1,q2,q3⟩
  ·rw [zz4 hal,Int.toNat_of_nonneg hD.1];exact ⟨z4t hs (by rw [h.len];omega),hon,ht⟩
 ·obtain ⟨sc0,m,e,hs⟩:=h.stk;exact ⟨sc0,m,e,hs.more (λr hr=>z2t hr) ha⟩
theorem y43 {t d:Xb} (h:eqTy t d=true):t=d:=by obtain ⟨a,b⟩:=t;obtain ⟨a',b'⟩:=d;unfold eqTy at h;simp at h;obtain ⟨rfl,rfl⟩:=h;rfl
theorem z9h {s:List Bool} (h:sets i=false):z26 i s=s:=by unfold z26;rw [h];rfl
theorem zav {i:Xd} (h:i.Op_=34\/i.Op_=35\/i.Op_=36\/i.Op_=37):sets i=false:=by unfold sets;rcases h with h | h | h | h<;>rw [h]<;>rfl
theorem Stk.lp_top {o' p:List Xh} {x:Xh} (h:Stk c done al (o'++[x]) p sc) (hx:x.Op_=36):∃ p' y,p=p'++[y]/\y.Op_=36/\Stk c done al o' p' sc:=by
 rcases h.inv with ⟨e,_⟩ | ⟨o',p',sc',m,N,s,s',e,_⟩ | ⟨o',p',N,s,s',e,rfl,h⟩
 ·simp at e
 ·have:=(append_inj' e rfl).2;simp at this;rw [this] at hx;exact absurd hx (by show ¬ ((34:Int)=36);decide)
 ·have:=(append_inj' e rfl).1;subst this;exact ⟨p',_,rfl,rfl,h⟩
theorem Stk.wh_top {o' p:List Xh} {x:Xh} (h:Stk c done al (o'++[x]) p sc) (hx:x.Op_≠36):∃ p' sc' m s',p=p'++[⟨34,x.Param_,s'⟩]/\x.Op_=34/\sc=sc'++[m]/\Stk c done al o' p' sc'/\Lvl c done x.Set_ s' al sc:=by
 rcases h.inv with ⟨e,_⟩ | ⟨o',p',sc',m,N,s,s',e,rfl,rfl,h1,h2⟩ | ⟨o',p',N,s,s',e,rfl,h⟩
 ·simp at e
 ·have e1:=(append_inj' e rfl).1;have e2:=(append_inj' e rfl).2;simp at e2;subst e1;subst e2;exact ⟨p',sc',m,s',rfl,rfl,rfl,h1,h2⟩
 ·have:=(append_inj' e rfl).2;simp at this;rw [this] at hx;exact absurd rfl hx
theorem zsb {i j:Xd} (h:i.Op_=j.Op_) (hA:i.A_=j.A_) (hB:i.B_=j.B_) (hC:i.C_=j.C_):zq i=zq j:=by rw [(z40 i).1,(z40 j).1,h,hA,hB,hC]
theorem RJ.step (h:RJ c done set set' o p sc al) (hst:z12 c i set o=true) (hd:sets i=true->¬ on done i.D_.toNat) :
  ((ruS c (rdI al i) sc al).1=true->z12 c (rdI al i) set' p=true/\RJ c (z26 i done) (z1e i set o).1 (z1e (rdI al i) set' p).1 (z1e i set o).2 (z1e (rdI al i) set' p).2 (ruS c (rdI al i) sc al).2.1 (ruS c (rdI al i) sc al).2.2)
  /\((ruS c (rdI al i) sc al).1=false->RJ c (z26 i done) (z1e i set o).1 set' (z1e i set o).2 p (ruS c (rdI al i) sc al).2.1 (ruS c (rdI al i) sc al).2.2):=by
 have hf:=zeu hst
 have hrd:rdOk set i=true:=by unfold z12 at hst;simp only [and_eq_true] at hst;exact hst.2.2.1
 have hlike:=y5n h.cur h.aok hf hrd;have hrd':=y5o h.cur hf hrd;obtain ⟨sc0,m,esc,hstk⟩:=h.stk;obtain ⟨k1,k2,k3⟩:=hstk.skel;have hst':z12 c (rdI al i) set' p=true:=zna hlike rfl rfl k1 k2 k3 hrd' hst;have hIn:=zbm hf;have eo:(rdI al i).Op_=i.Op_:=rfl;have eD:(rdI al i).D_=i.D_:=rfl;have eN:(rdI al i).N_=i.N_:=rfl;have es:∀ s,z26 (rdI al i) s=z26 i s:=λs=>rfl;by_cases h34:i.Op_=34
 ·have e:ruS c (rdI al i) sc al=(true,sc++[[]],al):=by unfold ruS;rw [eo,h34];rfl
  rw [e,(zht h34).1,(zht (i:=rdI al i) h34).1,z9h (zav (.inl h34))];refine ⟨λ_=>⟨hst',h.aok,h.new,h.len,⟨h.cur.len,h.cur.len',h.cur.regs,h.cur.dn,λm' hm y hy=>?_⟩,⟨sc,[],rfl,?_⟩⟩,λq=>by cases q⟩
  ·rcases mem_append.1 hm with hm | hm
   ·exact h.cur.kept m' hm y hy
   ·obtain rfl:=mem_singleton.1 hm;cases hy
  ·have hc:=h.cur;subst esc;exact .wh hstk hc
 ·by_cases h35:i.Op_=35
  ·have e:ruS c (rdI al i) sc al=(true,sc.take (sc.length - 1),al):=by unfold ruS;rw [eo,h35];rfl
   have et:sc.take (sc.length - 1)=sc0:=by rw [esc];simp
   obtain ⟨o',x,e1,e2,e3⟩:=zhu h35 hst
   have hx:x.Op_≠36:=λq=>by
    have:base [x]=[]:=by unfold base;simp [q]
    rw [e1,z8j,this] at e2;have:=congrArg List.length e2;simp at this
   rw [e1] at hstk;obtain ⟨p',sc',m',s',e4,_,e5,hk,hl⟩:=hstk.wh_top hx;obtain ⟨p'',x',w1,w2,w3⟩:=zhu (i:=rdI al i) h35 hst';rw [e4] at w1;obtain rfl:=(append_inj' w1 rfl).1;have:=(append_inj' w1 rfl).2;simp at this;subst this;rw [e,e3,w3,et,z9h (zav (.inr (.inl h35)))];exact ⟨λ_=>⟨hst',h.aok,h.new,h.len,hl,⟨sc',m',e5,hk⟩⟩,λq=>by cases q⟩
  ·have b34:(i.Op_==34)=false:=by simpa using h34
   have b35:(i.Op_==35)=false:=by simpa using h35
   by_cases h36:i.Op_=36
   ·have e:ruS c (rdI al i) sc al=(true,sc,al):=by unfold ruS cpy mem;rw [eo,h36,zra,zav (.inr (.inr (.inl h36)))];rfl
    rw [e,zqp h36,zqp (i:=rdI al i) h36,z9h (zav (.inr (.inr (.inl h36))))];exact ⟨λ_=>⟨hst',h.aok,h.new,h.len,h.cur,⟨sc0,m,esc,.lp hstk⟩⟩,λq=>by cases q⟩
   ·by_cases h37:i.Op_=37
    ·have e:ruS c (rdI al i) sc al=(true,sc,al):=by unfold ruS cpy mem;rw [eo,h37,zra,zav (.inr (.inr (.inr h37)))];rfl
     rw [e,zqq h37,zqq (i:=rdI al i) h37,z9h (zav (.inr (.inr (.inr h37))))];refine ⟨λ_=>⟨hst',h.aok,h.new,h.len,h.cur,⟨sc0,m,esc,?_⟩⟩,λq=>by cases q⟩
     have hpl:z11 o=true:=by unfold z12 z44 at hst;simp only [and_eq_true] at hst;have:=hst.2.2.2;rw [h37] at this;exact this
     rcases List.eq_nil_or_concat o with rfl | ⟨o',x,rfl⟩
     ·cases hpl
     ·rw [List.concat_eq_append] at hpl hstk ⊢;rw [(z28 o' x).1] at hpl;obtain ⟨p',y,rfl,_,hk⟩:=hstk.lp_top (by simpa using hpl);rw [List.dropLast_concat,List.dropLast_concat];exact hk
    ·rw [zqr h34 h35 h36 h37,zqr (i:=rdI al i) h34 h35 h36 h37];unfold ruS;rw [eo,eD,b34,b35];simp only [cond_false,es]
     have hDr:sets i=true->0<=i.D_/\i.D_<c.Regs_.length:=λh=>by obtain ⟨t,ht,_⟩:=z78 hf h;exact (z4w ht).2
     cases hcp:cpy c (rdI al i) with
     | true =>
      have hcp':=hcp;unfold cpy at hcp';rw [eo,eD] at hcp';obtain ⟨e3,et⟩:=and_eq_true_iff.1 hcp';have e3:i.Op_=3:=by simpa using e3
      have hs:sets i=true:=by unfold sets;rw [e3];rfl
      have hA:(rdI al i).A_∈zq (rdI al i):=nr_A (by rw [eo,e3];decide);have hon:on set' (rdI al i).A_.toNat:=y3l hrd' hA;exact ⟨λq=>(by cases q),λ_=>h.drop hs (hDr hs) (hd hs) (op_A h.aok hIn e3) hon (y43 et)⟩
     | false =>
      simp only [cond_false];cases hm:mem (rdI al i) with
      | false=>exact ⟨λ_=>⟨hst',h.el hf hd⟩,λq=>by cases q⟩
      | true =>
       have hs:sets i=true:=by unfold mem at hm;exact (and_eq_true_iff.1 hm).1
       obtain ⟨d0,d1⟩:=hDr hs;simp only [cond_true];cases hfd:z4u sc (keyI c (rdI al i)) with
       | some r =>
        obtain ⟨m',hm',y,hy,ey,rfl⟩:=ziy hfd;obtain ⟨q1,q2,q3,q4⟩:=h.cur.kept m' hm' y hy
        have hlt:y.v_.toNat<c.Regs_.length:=by
         rcases Nat.lt_or_ge y.v_.toNat set'.length with h' | h'
         ·rw [h.cur.len'] at h';exact h'
         ·unfold on at q2;rw [getElem?_eq_none h'] at q2;cases q2
        exact ⟨λq=>(by cases q),λ_=>h.drop hs ⟨d0,d1⟩ (hd hs) ⟨q1,by omega⟩ q2 (by rw [q3,ey];rfl)⟩
       | none =>refine ⟨λ_=>⟨hst',(h.el hf hd).put d0 (z4t hs (by rw [h.cur.len'];omega)) rfl (λz hz=>?_)⟩,λq=>by cases q⟩;have er:zq (keyI c (rdI al i)).i_=zq (rdI al i):=zsb rfl rfl rfl rfl;rw [er] at hz;obtain ⟨z0,hz0,rfl⟩:=zmf hz;obtain ⟨g1,g2,_,g4,_⟩:=zhw h.cur hf hrd hz0;exact ⟨(zhl h.aok ⟨g1,g2⟩).1,z2t g4⟩
end
theorem zrc {n:Nat} (h:200<=n):f244 n ()=some true:=by
 obtain ⟨m,rfl⟩:∃ m,n=m+200:=⟨n - 200,by omega⟩
 kernel_rfl
theorem zth {n:Nat} {c:Xe} (hn:100000<n) (hu:U32s c):f243 n c=some ((chk c).1==0):=by rw [y4f,(zkh hn hu.1 hu.2).2];rfl
section
variable {c:Xe} {set set' done:List Bool} {o p:List Xh} {sc:Scs} {al:List Int}
theorem zn9 {i:Xd} {l:List Xd} {s:List Bool} (h:z21 (i::l) s=true):(sets i=true->¬ on s i.D_.toNat)/\z21 l (z26 i s)=true:=by
 unfold z21 at h;unfold z26 on;cases hs:sets i with
 | false=>rw [hs] at h;exact ⟨λq=>(by cases q),h⟩
 | true =>
  rw [hs] at h;cases hg:(s[i.D_.toNat]?).getD false with
  | true=>rw [hg] at h;cases h
  | false=>rw [hg] at h;exact ⟨λ_ q=>(by cases q),h⟩
theorem zff (i:Xd) (l:List Xd) (sc:Scs) (al:List Int):ruL c (i::l) sc al=(bif (ruS c (rdI al i) sc al).1 then [rdI al i] else [])++ruL c l (ruS c (rdI al i) sc al).2.1 (ruS c (rdI al i) sc al).2.2:=rfl
theorem zlw:∀ (l:List Xd) (k k':Nat) (done set set':List Bool) (o p:List Xh) (sc:Scs) (al:List Int) (r:List Bool×List Xh),RJ c done set set' o p sc al->z21 l done=true->goR c l k set o = .inr r ->
  ∃ r',goR c (ruL c l sc al) k' set' p = .inr r'/\r'.2.length=r.2.length
 | [],k,k',done,set,set',o,p,sc,al,r,h,hs,hg=>by obtain ⟨sc0,m,e,hk⟩:=h.stk;have hg:(Sum.inr (set,o):Nat⊕_) = .inr r:=hg;cases hg;exact ⟨(set',p),rfl,hk.skel.2.2⟩
 | i::l,k,k',done,set,set',o,p,sc,al,r,h,hs,hg=>by
  obtain ⟨h1,h2⟩:=zn9 hs;rw [zf6] at hg;cases hst:z12 c i set o with
  | false=>rw [hst] at hg;cases hg
  | true =>
   rw [hst,cond_true] at hg;obtain ⟨s1,s2⟩:=h.step hst h1;rw [zff];cases hr:(ruS c (rdI al i) sc al).1 with
   | true =>obtain ⟨t1,t2⟩:=s1 hr;obtain ⟨r',e1,e2⟩:=zlw l (k+1) (k'+1) _ _ _ _ _ _ _ r t2 h2 hg;refine ⟨r',?_,e2⟩;rw [cond_true,List.singleton_append,zf6,t1];exact e1
   | false =>obtain ⟨r',e1,e2⟩:=zlw l (k+1) k' _ _ _ _ _ _ _ r (s2 hr) h2 hg;exact ⟨r',e1,e2⟩
theorem zjf (c:Xe) (k:Nat):¬ on (z2y c) k:=by unfold on;rw [List.getElem?_replicate];split<;>simp
theorem RJ.start (c:Xe):RJ c (z2y c) (z2y c) (z2y c) [] [] [[]] (z2v c.Regs_.length):=by
 refine ⟨zjh _,λr hr _=>?_,by simp,⟨by simp,by simp,λr hr=>absurd hr (zjf c r),λr hr=>absurd hr (zjf c r),λm hm y hy=>?_⟩,⟨[],[],rfl,.nil⟩⟩
 ·unfold atR z2v;rw [Int.toNat_natCast,getElem?_map,getElem?_range hr];rfl
 ·obtain rfl:=mem_singleton.1 hm;cases hy
theorem zef:∀ (l:List Xd) (sc:Scs) (al:List Int),List.Sublist ((ruL c l sc al).map (·.Op_)) (l.map (·.Op_))
 | [],_,_=>.slnil
 | i::l,sc,al=>by
  rw [zff,List.map_cons];cases (ruS c (rdI al i) sc al).1 with
  | true=>exact (zef l _ _).cons_cons _
  | false=>exact (zef l _ _).cons _
theorem zr4:∀ (l:List Xd) (sc:Scs) (al:List Int),∀ j∈ruL c l sc al,∃ i∈l,∃ al',j=rdI al' i
 | [],_,_,j,h=>by cases h
 | i::l,sc,al,j,h=>by
  rw [zff] at h;rcases mem_append.1 h with h | h
  ·cases hr:(ruS c (rdI al i) sc al).1 with
   | true=>rw [hr] at h;exact ⟨i,List.mem_cons_self,al,mem_singleton.1 h⟩
   | false=>rw [hr] at h;cases h
  ·obtain ⟨i',h1,h2⟩:=zr4 l _ _ j h;exact ⟨i',List.mem_cons_of_mem _ h1,h2⟩
theorem zmk (c:Xe):List.Sublist ((reuL c).map (·.Op_)) (c.List_.map (·.Op_)):=by
 unfold reuL;cases z21 c.List_ (z2y c) with
 | true=>exact zef _ _ _
 | false=>exact List.Sublist.refl _
theorem y04 (c:Xe):(reuL c).length<=c.List_.length:=by simpa using (zmk c).length_le
theorem zye {c:Xe} (hu:U32s c):∀ j∈reuL c,0<=j.Bits_/\j.Bits_<4294967296:=by
 unfold reuL;cases z21 c.List_ (z2y c) with
 | true =>intro j hj;obtain ⟨i,hi,al',rfl⟩:=zr4 _ _ _ j hj;exact hu.2 i hi
 | false=>exact hu.2
abbrev reuC (c:Xe):Xe:=⟨c.Sign_,c.Regs_,c.Slots_,reuL c⟩
theorem znk {c:Xe} (h:(chk c).1=0):(chk (reuC c)).1=0:=by
 unfold reuC reuL;cases hs:z21 c.List_ (z2y c) with
 | false=>exact h
 | true =>obtain ⟨_,q1,q2,q3,q4,q5,r,q6,q7⟩:=zcr h;simp only [decide_eq_false_iff_not] at q2;obtain ⟨r',e1,e2⟩:=zlw c.List_ 0 0 _ _ _ _ _ _ _ r (RJ.start c) hs q6;have hl:=(zef (c:=c) c.List_ [[]] (z2v c.Regs_.length)).length_le;rw [length_map,length_map] at hl;rw [cond_true,y62 h _ (by omega),e1];rw [q7] at e2;have e2:r'.2.length=0:=e2;simp [e2]
theorem y5z {c:Xe} (hu:U32s c):U32s (reuC c):=⟨hu.1,zye hu⟩
theorem y05 {c:Xe} (h:(chk c).1=0):zau c=(0,c.Sign_,c.Regs_,c.Slots_,reuL c):=by unfold zau;rw [h];rfl
theorem y5t {c:Xe} (h:(chk c).1≠0):zau c=(160,[],[],[],[]):=by
 have h1:((chk c).1 != 0)=true:=by simpa using h
 unfold zau;rw [h1];rfl
def zll (a:Xe):Nat:=z8n a+2000000
def cnts (l:List Xd):List Int:=(range 38).map λ(k:Nat)=>((l.countP λi=>i.Op_==(k:Int):Nat):Int)
theorem yco {i:Xd} (h:fits c i=true):0<=i.Op_/\i.Op_<38:=by
 unfold fits at h;rcases z3t i.Op_ with (e | e | e | e | e | e | e | e | e | e | e | e | e | e | e | e | e | e | e | e | e | e | e | e | e | e | e | e | e | e | e | e | e | e | e | e | e) | e
 iterate 37 (· omega)
 rw [z30 e] at h;cases h
theorem zt0 {l:List Xd} {i:Xd} {k:Nat} (h:i.Op_=(k:Int)) (hk:k<38):(cnts l).set k (((l.countP λi=>i.Op_==(k:Int)):Nat)+1:Int)=cnts (l++[i]):=by
 unfold cnts;apply ext_getElem?;intro j;rw [getElem?_set,getElem?_map,getElem?_map];simp only [length_map,length_range];by_cases e:k=j
 ·subst e;rw [if_pos rfl,if_pos hk,getElem?_range hk];simp [List.countP_append,h]
 ·rw [if_neg e];by_cases hj:j<38
  ·rw [getElem?_range hj];have:¬ i.Op_=(j:Int):=by rw [h];omega
   simp [List.countP_append,this]
  ·have:(range 38)[j]?=none:=getElem?_eq_none (by simp;omega);rw [this];rfl
theorem zi8 {n:Nat} (hn:100000<n) (hL:c.List_.length<=40000) (hf:∀ i∈c.List_,fits c i=true):f246 n c=some (cnts c.List_):=by
 rw [y4g];have i1:=z2e (L:=38) (body:=ze1 n c ()) (λk=>((k:Int),replicate k (0:Int))) (λk hk=>?_) (y:=(38,replicate 38 (0:Int))) ?_ 38 0 n (by omega) (by omega)
 ·have i1:iter (ze1 n c ()) n (0,[])=_:=i1;rw [i1];simp only [Option.bind_some,Bo.then];have i2:=z2e (L:=c.List_.length) (body:=ze2 n c ()) (λk=>((k:Int),cnts (c.List_.take k))) (λk hk=>?_) (y:=((c.List_.length:Int),cnts c.List_)) ?_ c.List_.length 0 n (by omega) (by omega)
  ·have e0:cnts (c.List_.take 0)=replicate 38 (0:Int):=rfl;rw [e0] at i2;have i2:iter (ze2 n c ()) n (0,replicate 38 (0:Int))=_:=i2;rw [i2];rfl
  ·rw [zgd];have e1:decide ((k:Int)<(c.List_.length:Int))=true:=by simp;omega
   obtain ⟨o0,o1⟩:=yco (hf _ (getElem_mem hk));obtain ⟨q,hq⟩:∃ q:Nat,c.List_[k].Op_=(q:Int):=⟨_,(Int.toNat_of_nonneg o0).symm⟩
   have hl:(cnts (c.List_.take k)).length=38:=by simp [cnts]
   simp only [e1,cond_true,z1l hk,Option.bind_some]
   have hg:(cnts (c.List_.take k))[q]?=some (((c.List_.take k).countP λi=>i.Op_==(q:Int):Nat):Int):=by unfold cnts;rw [getElem?_map,getElem?_range (by omega)];rfl
   have hc:((c.List_.take k).countP λi=>i.Op_==(q:Int))<=k:=Nat.le_trans List.countP_le_length (by simp;omega);rw [hq,Int.toNat_natCast,hl,zg (by omega),hg,Option.bind_some,Option.bind_some,z1g (by omega),z1g (by omega),zg (by omega),List.take_succ_eq_append_getElem hk,<- zt0 hq (by omega)];rfl
  ·rw [zgd];simp
 ·rw [zgc];have e1:decide ((k:Int)<=37)=true:=by simp;omega
  simp only [e1,cond_true];rw [zg (by simp;omega),z1g (by omega),List.replicate_succ']
 ·rw [zgc];simp
theorem y40 {l l':List Xd} (h:List.Sublist (l'.map (·.Op_)) (l.map (·.Op_))) (k:Nat) (hk:k<38):∃ a b:Int,(cnts l)[k]?=some a/\(cnts l')[k]?=some b/\b<=a:=by
 have key:∀ l:List Xd,(cnts l)[k]?=some (((l.map (·.Op_)).countP λz=>z==(k:Int):Nat):Int):=λl=>by unfold cnts;rw [getElem?_map,getElem?_range hk,List.countP_map];rfl
 refine ⟨_,_,key l,key l',?_⟩;have:=h.countP_le (p:=λz=>z==(k:Int));omega
end
theorem y5m {n:Nat} (c:Xe) (hN:zll c<=n) (hs:zfn c) (hu:U32s c):f242 n c=some true:=by
 have hn:1000010<n:=by unfold zll at hN;omega
 have hN2:z8n c<=n:=by unfold zll at hN;omega
 have hN3:=hN2;unfold z8n at hN3;have e:(⟨c.Sign_,c.Regs_,c.Slots_,c.List_⟩:Xe)=c:=rfl;rw [y4e,y5y hs];simp only [Option.bind_some,e];rw [y06 hn hs hu];simp only [Option.bind_some];rw [zf1 hs hN2,zth (by omega) hu];simp only [Option.bind_some,Bool.not_true,cond_false];by_cases h:(chk c).1=0
 ·rw [y05 h,h];obtain ⟨_,q1,q2,q3,q4,q5,r,q6,q7⟩:=zcr h;simp only [decide_eq_false_iff_not] at q2;have hl:=y04 c;have e1:f243 n (reuC c)=some true:=by rw [zth (by omega) (y5z hu),znk h];rfl
  have e2:f128 n (c,reuC c,false)=some true:=by rw [y46];simp only [cond_false,Option.bind_some,orRet_inl];have:f23 n ((⟨c.Sign_,[],c.Slots_,[]⟩:Xe),(⟨c.Sign_,[],c.Slots_,[]⟩:Xe))=some true:=zf1 ⟨hs.s,by simp,hs.l,by simp⟩ (by unfold z8n;simp;omega);rw [this];rfl
  obtain ⟨_,p1,p2,p3,p4,p5,r',p6,p7⟩:=zcr (znk h);have hf:=zbs c _ _ _ _ _ q6;have hf':∀ i∈(reuC c).List_,fits (reuC c) i=true:=zbs _ _ _ _ _ _ p6;simp only [z89,Bool.not_true,cond_false,cond_true,e1,Option.bind_some,e2,orRet_inl,show ((0:Int) != 0)=false by decide];rw [zi8 (by omega) (by omega) hf,zi8 (c:=reuC c) (by omega) (by show (reuL c).length<=_;omega) hf'];simp only [Option.bind_some];have i1:=z2e (L:=38) (body:=ze0 n c (cnts c.List_,cnts (reuL c))) (λk=>(k:Int)) (λk hk=>?_) (y:=38) ?_ 38 0 n (by omega) (by omega)
  ·have i1:iter (ze0 n c (cnts c.List_,cnts (reuC c).List_)) n 0=_:=i1;rw [i1];simp only [Option.bind_some,Bo.then];rw [zrc (by omega)];rfl
  ·rw [zgb];obtain ⟨a,b,g1,g2,g3⟩:=y40 (zmk c) k hk;have l1:(cnts c.List_).length=38:=by simp [cnts]
   have l2:(cnts (reuL c)).length=38:=by simp [cnts]
   have e1:decide ((k:Int)<((38:Nat):Int))=true:=by simp;omega
   have e3:decide (b > a)=false:=by simp;omega
   simp only [l1,l2,e1,cond_true,Int.toNat_natCast,g1,g2,Option.bind_some,e3,cond_false];rw [zg (by omega),zg (by omega),z1g (by omega)]
  ·rw [zgb];have l1:(cnts c.List_).length=38:=by simp [cnts]
   simp only [l1];rfl
 ·have h2:((chk c).1==0)=false:=by simpa using h
  rw [h2,y5t h];have:f23 n ((⟨[],[],[],[]⟩:Xe),(⟨[],[],[],[]⟩:Xe))=some true:=zf1 ⟨by simp,by simp,by simp,by simp⟩ (by unfold z8n;simp;omega);simp only [Bool.not_false,cond_true,z89,this,Option.bind_some];rw [zrc (by omega)];rfl
abbrev y3u:Ty:=.str
def y3t (R:Nat->Nat->Prop) (x:ByteArray):Prop:=R x.size 1
theorem yf9 {R:Nat->Nat->Prop} {cs:List AV} (h:OfTy R y3u cs):∃ x:ByteArray,y3t R x/\[.sc (.string x)]=cs:=by obtain ⟨b,rfl,h⟩:=h;exact ⟨b,h,rfl⟩
abbrev z5d:Ty:=.int .i64
def z5c (_:Nat->Nat->Prop) (x:Int):Prop:=(Lit.int .i64 x).wf=true
theorem z68 {R:Nat->Nat->Prop} {cs:List AV} (h:OfTy R z5d cs):∃ x:Int,z5c R x/\[.sc (.int .i64 x)]=cs:=by obtain ⟨n,rfl,h⟩:=h;exact ⟨n,h,rfl⟩
abbrev zcn:Ty:=.st (.cons y3u (.cons z5d (.cons z5d (.nil))))
structure zcj (R:Nat->Nat->Prop) (x:Xa):Prop where
 Name_:y3t R x.Name_
 Kind_:z5c R x.Kind_
 Len_:z5c R x.Len_
theorem zjw {R:Nat->Nat->Prop} {cs:List AV} (h:OfTy R zcn cs):∃ x:Xa,zcj R x/\(c1 false) x=cs:=by obtain ⟨_,_,rfl,h0,h⟩:=h;obtain ⟨_,_,rfl,h1,h⟩:=h;obtain ⟨_,_,rfl,h2,h⟩:=h;obtain rfl:=h;obtain ⟨x0,w0,rfl⟩:=yf9 h0;obtain ⟨x1,w1,rfl⟩:=z68 h1;obtain ⟨x2,w2,rfl⟩:=z68 h2;exact ⟨⟨x0,x1,x2⟩,⟨w0,w1,w2⟩,rfl⟩
abbrev zb1:Ty:=.sl 3 32 zcn
def zb0 (R:Nat->Nat->Prop) (x:List Xa):Prop:=R x.length 32/\∀ y∈x,zcj R y
theorem zhv {R:Nat->Nat->Prop} {cs:List AV} (h:OfTy R zb1 cs):∃ x:List Xa,zb0 R x/\[.im 3 (x.map (c1 false))]=cs:=by obtain ⟨xs,rfl,h1,h2⟩:=h;obtain ⟨ys,h3,rfl⟩:=z8r (c:=(c1 false)) (λ_ h=>zjw h) h1;exact ⟨ys,⟨by simpa using h2,h3⟩,rfl⟩
abbrev z95:Ty:=.st (.cons z5d (.cons z5d (.nil)))
structure z94 (R:Nat->Nat->Prop) (x:Xb):Prop where
 Kind_:z5c R x.Kind_
 Param_:z5c R x.Param_
theorem zdc {R:Nat->Nat->Prop} {cs:List AV} (h:OfTy R z95 cs):∃ x:Xb,z94 R x/\(c2 false) x=cs:=by obtain ⟨_,_,rfl,h0,h⟩:=h;obtain ⟨_,_,rfl,h1,h⟩:=h;obtain rfl:=h;obtain ⟨x0,w0,rfl⟩:=z68 h0;obtain ⟨x1,w1,rfl⟩:=z68 h1;exact ⟨⟨x0,x1⟩,⟨w0,w1⟩,rfl⟩
abbrev zcm:Ty:=.sl 2 16 z95
def zci (R:Nat->Nat->Prop) (x:List Xb):Prop:=R x.length 16/\∀ y∈x,z94 R y
theorem zjv {R:Nat->Nat->Prop} {cs:List AV} (h:OfTy R zcm cs):∃ x:List Xb,zci R x/\[.im 2 (x.map (c2 false))]=cs:=by obtain ⟨xs,rfl,h1,h2⟩:=h;obtain ⟨ys,h3,rfl⟩:=z8r (c:=(c2 false)) (λ_ h=>zdc h) h1;exact ⟨ys,⟨by simpa using h2,h3⟩,rfl⟩
abbrev zyv:Ty:=.bool
def zyu (_:Nat->Nat->Prop) (x:Bool):Prop:=True
theorem ycr {R:Nat->Nat->Prop} {cs:List AV} (h:OfTy R zyv cs):∃ x:Bool,zyu R x/\[.sc (.bool x)]=cs:=by obtain ⟨b,rfl⟩:=h;exact ⟨b,trivial,rfl⟩
abbrev zsn:Ty:=.int .u32
def zk5 (_:Nat->Nat->Prop) (x:Int):Prop:=(Lit.int .u32 x).wf=true
theorem y3k {R:Nat->Nat->Prop} {cs:List AV} (h:OfTy R zsn cs):∃ x:Int,zk5 R x/\[.sc (.int .u32 x)]=cs:=by obtain ⟨n,rfl,h⟩:=h;exact ⟨n,h,rfl⟩
abbrev zdl:Ty:=.st (.cons z95 (.cons zyv (.cons zsn (.cons z5d (.nil)))))
structure zdj (R:Nat->Nat->Prop) (x:Xc):Prop where
 Type_:z94 R x.Type_
 Keep_:zyu R x.Keep_
 Bits_:zk5 R x.Bits_
 Int_:z5c R x.Int_
theorem zmd {R:Nat->Nat->Prop} {cs:List AV} (h:OfTy R zdl cs):∃ x:Xc,zdj R x/\(c3 false) x=cs:=by obtain ⟨_,_,rfl,h0,h⟩:=h;obtain ⟨_,_,rfl,h1,h⟩:=h;obtain ⟨_,_,rfl,h2,h⟩:=h;obtain ⟨_,_,rfl,h3,h⟩:=h;obtain rfl:=h;obtain ⟨x0,w0,rfl⟩:=zdc h0;obtain ⟨x1,w1,rfl⟩:=ycr h1;obtain ⟨x2,w2,rfl⟩:=y3k h2;obtain ⟨x3,w3,rfl⟩:=z68 h3;exact ⟨⟨x0,x1,x2,x3⟩,⟨w0,w1,w2,w3⟩,rfl⟩
abbrev zcl:Ty:=.sl 5 32 zdl
def zch (R:Nat->Nat->Prop) (x:List Xc):Prop:=R x.length 32/\∀ y∈x,zdj R y
theorem zju {R:Nat->Nat->Prop} {cs:List AV} (h:OfTy R zcl cs):∃ x:List Xc,zch R x/\[.im 5 (x.map (c3 false))]=cs:=by obtain ⟨xs,rfl,h1,h2⟩:=h;obtain ⟨ys,h3,rfl⟩:=z8r (c:=(c3 false)) (λ_ h=>zmd h) h1;exact ⟨ys,⟨by simpa using h2,h3⟩,rfl⟩
abbrev zdk:Ty:=.st (.cons z5d (.cons z5d (.cons z5d (.cons z5d (.cons z5d (.cons z5d (.cons zsn (.nil))))))))
structure zdi (R:Nat->Nat->Prop) (x:Xd):Prop where
 Op_:z5c R x.Op_
 D_:z5c R x.D_
 A_:z5c R x.A_
 B_:z5c R x.B_
 C_:z5c R x.C_
 N_:z5c R x.N_
 Bits_:zk5 R x.Bits_
theorem zmc {R:Nat->Nat->Prop} {cs:List AV} (h:OfTy R zdk cs):∃ x:Xd,zdi R x/\(c4 false) x=cs:=by obtain ⟨_,_,rfl,h0,h⟩:=h;obtain ⟨_,_,rfl,h1,h⟩:=h;obtain ⟨_,_,rfl,h2,h⟩:=h;obtain ⟨_,_,rfl,h3,h⟩:=h;obtain ⟨_,_,rfl,h4,h⟩:=h;obtain ⟨_,_,rfl,h5,h⟩:=h;obtain ⟨_,_,rfl,h6,h⟩:=h;obtain rfl:=h;obtain ⟨x0,w0,rfl⟩:=z68 h0;obtain ⟨x1,w1,rfl⟩:=z68 h1;obtain ⟨x2,w2,rfl⟩:=z68 h2;obtain ⟨x3,w3,rfl⟩:=z68 h3;obtain ⟨x4,w4,rfl⟩:=z68 h4;obtain ⟨x5,w5,rfl⟩:=z68 h5;obtain ⟨x6,w6,rfl⟩:=y3k h6;exact ⟨⟨x0,x1,x2,x3,x4,x5,x6⟩,⟨w0,w1,w2,w3,w4,w5,w6⟩,rfl⟩
abbrev zck:Ty:=.sl 7 56 zdk
def zcg (R:Nat->Nat->Prop) (x:List Xd):Prop:=R x.length 56/\∀ y∈x,zdi R y
theorem zjt {R:Nat->Nat->Prop} {cs:List AV} (h:OfTy R zck cs):∃ x:List Xd,zcg R x/\[.im 7 (x.map (c4 false))]=cs:=by obtain ⟨xs,rfl,h1,h2⟩:=h;obtain ⟨ys,h3,rfl⟩:=z8r (c:=(c4 false)) (λ_ h=>zmc h) h1;exact ⟨ys,⟨by simpa using h2,h3⟩,rfl⟩
abbrev y_T_api_Code:Ty:=.st (.cons zb1 (.cons zcm (.cons zcl (.cons zck (.nil)))))
structure z93 (R:Nat->Nat->Prop) (x:Xe):Prop where
 Sign_:zb0 R x.Sign_
 Regs_:zci R x.Regs_
 Slots_:zch R x.Slots_
 List_:zcg R x.List_
theorem r_T_api_Code {R:Nat->Nat->Prop} {cs:List AV} (h:OfTy R y_T_api_Code cs):∃ x:Xe,z93 R x/\(c15 false) x=cs:=by obtain ⟨_,_,rfl,h0,h⟩:=h;obtain ⟨_,_,rfl,h1,h⟩:=h;obtain ⟨_,_,rfl,h2,h⟩:=h;obtain ⟨_,_,rfl,h3,h⟩:=h;obtain rfl:=h;obtain ⟨x0,w0,rfl⟩:=zhv h0;obtain ⟨x1,w1,rfl⟩:=zjv h1;obtain ⟨x2,w2,rfl⟩:=zju h2;obtain ⟨x3,w3,rfl⟩:=zjt h3;exact ⟨⟨x0,x1,x2,x3⟩,⟨w0,w1,w2,w3⟩,rfl⟩
theorem zys {R:Nat->Nat->Prop} {x:Int} (h:zk5 R x):0<=x/\x<4294967296:=by
 have h:(Lit.int .u32 x).wf=true:=h;simp [Lit.wf] at h;have e1:IntKind.u32.min=0:=by decide
 have e2:IntKind.u32.max=4294967295:=by decide
 omega
theorem zmq {a:Xe} (h:z93 RSaid a):zfn a/\U32s a :=
 ⟨⟨Nat.le_trans h.Sign_.1 (by decide),Nat.le_trans h.Regs_.1 (by decide),Nat.le_trans h.Slots_.1 (by decide),Nat.le_trans h.List_.1 (by decide)⟩,(λs hs=>zys (h.Slots_.2 s hs).Bits_),λi hi=>zys (h.List_.2 i hi).Bits_⟩
theorem pureReuseForms (a:Xe) (h:z93 RSaid a):∃ n,f242 n a=some true:=⟨_,y5m a (Nat.le_refl _) (zmq h).1 (zmq h).2⟩
end Loom
