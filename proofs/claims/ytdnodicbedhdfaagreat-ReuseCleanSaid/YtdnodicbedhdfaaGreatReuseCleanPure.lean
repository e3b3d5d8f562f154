/- The plain law of ReuseClean: what it answers is true,whatever it is handed (part 1 of 1). -/
import Derived.Test.YtdnodicbedhdfaaGreatReuseCleanWvB
set_option linter.unusedVariables false
set_option linter.unusedSimpArgs false
set_option linter.unusedSectionVars false
set_option maxRecDepth 100000
open Go.IntKind (i64 u64 u32)
open Bool (and_eq_true and_eq_true_iff cond_self false_eq not_eq_false' not_eq_true' or_eq_false_iff)
open List (all_eq_true any_cons any_eq_true append_assoc append_inj' append_nil concat_eq_append dropLast_eq_take drop_eq_getElem_cons drop_length drop_zero eq_nil_of_length_eq_zero eq_nil_or_concat filter_append findIdx?_cons foldl_cons getElem?_eq_getElem getElem?_eq_none getElem?_set getElem?_set_ne getElem?_set_self getElem_mem length_map length_range length_set length_take map_append mem_append mem_singleton range replicate reverse take_length take_take)
open Nat (le_of_ble_eq_true le_succ)
open Option (getD_some map_some)
namespace Loom
open Go
@[simp] theorem orRet_inl {S R:Type}{A:S->Option R}{s:S}:zq A (.inl s)=A s:=rfl
@[simp] theorem orRet_inr {S R:Type}{A:S->Option R}{r:R}:zq A (.inr r)=some r:=rfl
theorem zl {R:Type}{p:Prop}[Decidable p]{x:Option R}(h:p):need p x=x:=by unfold need;rw [if_pos h]
def z36 (l:List Xa)(t:Xb):Bool :=
 bif t.j_==3 then decide (t.o_>=0)&&decide (t.o_<(l.length:Int)) else (t.j_==1||t.j_==2)&&t.o_==0
theorem zy9 {n:Nat}(c:Xe)(t:Xb):f31 n (c,t)=some (z36 c.g_ t):=by
 rw [ydp];unfold z36;by_cases h1:t.j_=1
 ·simp [h1]
 ·by_cases h2:t.j_=2
  ·simp [h2]
  ·by_cases h3:t.j_=3
   ·by_cases h4:t.o_>=0<;>simp [h3,h4]
   ·have e1:(t.j_==1)=false:=by simpa using h1
    have e2:(t.j_==2)=false:=by simpa using h2
    have e3:(t.j_==3)=false:=by simpa using h3
    simp [e1,e2,e3]
theorem zyb {n:Nat}(l:List Xa)(t:Xb):f39 n (t,l)=some (z36 l t):=by
 rw [ydz];unfold z36;by_cases h1:t.j_=1
 ·simp [h1]
 ·by_cases h2:t.j_=2
  ·simp [h2]
  ·by_cases h3:t.j_=3
   ·by_cases h4:t.o_>=0<;>simp [h3,h4]
   ·have e1:(t.j_==1)=false:=by simpa using h1
    have e2:(t.j_==2)=false:=by simpa using h2
    have e3:(t.j_==3)=false:=by simpa using h3
    simp [e1,e2,e3]
def z7q (x:Int):Bool:=decide (x % 2147483648<=2139095040)||x==2143289344
theorem zxn {m:Nat}(h:m<4294967296):u32.wrap (m:Int)=m:=by
 have:u32.wrap (m:Int)=(m:Int) % 4294967296:=by simp [IntKind.wrap,IntKind.bits,IntKind.signed]
 omega
theorem ylq (x:Int)(h0:0<=x)(h1:x<4294967296):(BitVec.ofInt u32.bits x &&& ~~~BitVec.ofInt u32.bits 2147483648).toNat=x.toNat % 2147483648:=by
 show (BitVec.ofInt 32 x &&& ~~~BitVec.ofInt 32 2147483648).toNat=_;have e:(~~~BitVec.ofInt 32 2147483648:BitVec 32)=2147483647#32:=by decide
 rw [e,BitVec.toNat_and];have e2:(2147483647#32).toNat=2 ^ 31 - 1:=by decide
 rw [e2,Nat.and_two_pow_sub_one_eq_mod]
 have e3:(BitVec.ofInt 32 x).toNat=x.toNat:=by rw [BitVec.toNat_ofInt];omega
 rw [e3]
theorem zye {n:Nat}(x:Int)(h0:0<=x)(h1:x<4294967296):f52 n x=some (z7q x):=by
 rw [yea,ylq x h0 h1,zxn (by omega)];unfold z7q;have:((x.toNat % 2147483648:Nat):Int)=x % 2147483648:=by omega
 rw [this];cases decide (x % 2147483648<=2139095040)<;>rfl
theorem zil {m:Int}(h0:0<=m)(h:m<18446744073709551616):u64.wrap m=m:=by
 have:u64.wrap m=m % 18446744073709551616:=by simp [IntKind.wrap,IntKind.bits,IntKind.signed]
 omega
theorem y7p (x:Int)(k:Nat)(hk:k<64)(h0:0<=x)(h1:x<18446744073709551616):(BitVec.ofInt u64.bits x &&& BitVec.ofInt u64.bits ((2 ^ k - 1:Nat):Int)).toNat=x.toNat % 2 ^ k:=by
 show (BitVec.ofInt 64 x &&& BitVec.ofInt 64 _).toNat=_;rw [BitVec.toNat_and];have hp:2 ^ k<2 ^ 64:=Nat.pow_lt_pow_right (by decide) hk
 have e2:(BitVec.ofInt 64 ((2 ^ k - 1:Nat):Int)).toNat=2 ^ k - 1:=by rw [BitVec.toNat_ofInt];have:(0:Nat)<2 ^ k:=Nat.two_pow_pos k;omega
 have e3:(BitVec.ofInt 64 x).toNat=x.toNat:=by rw [BitVec.toNat_ofInt];omega
 rw [e2,e3,Nat.and_two_pow_sub_one_eq_mod]
theorem yb3 {n:Nat}(x:Int)(h0:0<=x)(h1:x<4294967296):∃ r,f69 n x=some r/\r.2.2.2.2=(decide (x / 8388608 % 256=255)&&decide (x % 8388608≠0)):=by
 rw [yf3];have e0:u64.wrap x=x:=zil h0 (by omega)
 have e1:x.fdiv (2 ^ min (23:Int).toNat u64.bits)=x / 8388608:=by show x.fdiv 8388608=_;rw [Int.fdiv_eq_ediv_of_nonneg _ (by decide)]
 have e2:(BitVec.ofInt u64.bits (x / 8388608) &&& BitVec.ofInt u64.bits (255:Int)).toNat=(x / 8388608).toNat % 256:=y7p (x / 8388608) 8 (by decide) (by omega) (by omega);have e3:(BitVec.ofInt u64.bits x &&& BitVec.ofInt u64.bits (8388607:Int)).toNat=x.toNat % 8388608:=y7p x 23 (by decide) (by omega) (by omega);simp only [e0,e1,e2,e3];rw [zil (m:=(((x / 8388608).toNat % 256:Nat):Int)) (by omega) (by omega),zil (m:=((x.toNat % 8388608:Nat):Int)) (by omega) (by omega),zhf (by omega) (by omega)];have c1:(((x / 8388608).toNat % 256:Nat):Int)=x / 8388608 % 256:=by omega
 have c2:((x.toNat % 8388608:Nat):Int)=x % 8388608:=by omega
 rw [c1,c2];by_cases h:x / 8388608 % 256=255
 ·have q:(x / 8388608 % 256==255)=true:=by simp [h]
  simp only [q,cond_true,Option.bind_some,orRet_inl];refine ⟨_,rfl,?_⟩;rw [decide_eq_true h,Bool.true_and];show (x % 8388608 != 0)=_;by_cases h3:x % 8388608=0<;>simp [h3]
 ·have q:(x / 8388608 % 256==255)=false:=by simp [h]
  simp only [q,cond_false];cases (x / 8388608 % 256==0)
  all_goals
   simp only [cond_false,cond_true,Option.bind_some,orRet_inl];refine ⟨_,rfl,?_⟩;rw [decide_eq_false h,Bool.false_and]
theorem zyg {n:Nat}(x:Int)(h0:0<=x)(h1:x<4294967296):f58 n x=some (z7q x):=by
 have w:i64.wrap x=x:=zhf (by omega) (by omega);obtain ⟨r,e,e'⟩:=yb3 (n:=n) x h0 h1;rw [yek,w,yex,e];simp only [Option.bind_some,e'];unfold z7q;by_cases h:x / 8388608 % 256=255/\x % 8388608≠0
 ·have q:(decide (x / 8388608 % 256=255)&&decide (x % 8388608≠0))=true:=by simp [h]
  have q2:decide (x % 2147483648<=2139095040)=false:=by simp;omega
  rw [q,q2];simp only [cond_true,Option.bind_some,Bool.false_or];congr 1;rw [Bool.eq_iff_iff];simp;omega
 ·have q:(decide (x / 8388608 % 256=255)&&decide (x % 8388608≠0))=false:=by rw [Bool.eq_false_iff];intro hb;simp only [and_eq_true,decide_eq_true_eq] at hb;exact h hb
  have q2:decide (x % 2147483648<=2139095040)=true:=by simp;omega
  rw [q,q2];simp
def z7b (l:List Xa)(s:Xc):Bool :=
 z36 l s.s_&&(bif s.s_.j_==2 then s.m_==0&&(decide (s.u_>=0)&&decide (s.u_<=2147483647)) else s.u_==0&&z7q s.m_)
theorem ydu {n:Nat}(c:Xe)(s:Xc)(h0:0<=s.m_)(h1:s.m_<4294967296):f34 n (c,s)=some (z7b c.g_ s):=by rw [ydt,zy9,zye _ h0 h1];unfold z7b;simp only [Option.bind_some];cases z36 c.g_ s.s_<;>cases (s.s_.j_==2)<;>cases (s.m_==0)<;>cases (s.u_==0)<;>cases decide (s.u_>=0)<;>rfl
theorem ye1 {n:Nat}(l:List Xa)(s:Xc)(h0:0<=s.m_)(h1:s.m_<4294967296):f40 n (s,l)=some (z7b l s):=by rw [ye0,zyb,zyg _ h0 h1];unfold z7b;simp only [Option.bind_some];cases z36 l s.s_<;>cases (s.s_.j_==2)<;>cases (s.m_==0)<;>cases (s.u_==0)<;>cases decide (s.u_>=0)<;>rfl
structure z4u where
 d:Int
 a:Int
 b:Int
 c:Int
 n:Int
def z4s (op:Int):Option z4u :=
 bif op==1 then some ⟨1,0,0,0,0⟩ else
 bif op==2 then some ⟨2,0,0,0,1⟩ else
 bif op==3 then some ⟨8,7,0,0,0⟩ else
 bif op==4 then some ⟨4,5,5,0,0⟩ else
 bif op==5 then some ⟨4,5,5,0,0⟩ else
 bif op==6 then some ⟨4,5,5,0,0⟩ else
 bif op==7 then some ⟨4,5,5,0,0⟩ else
 bif op==8 then some ⟨4,5,5,0,0⟩ else
 bif op==9 then some ⟨4,5,5,0,0⟩ else
 bif op==10 then some ⟨4,5,5,0,0⟩ else
 bif op==11 then some ⟨4,5,0,0,0⟩ else
 bif op==12 then some ⟨4,5,0,0,0⟩ else
 bif op==13 then some ⟨4,5,0,0,0⟩ else
 bif op==14 then some ⟨4,5,0,0,0⟩ else
 bif op==15 then some ⟨4,5,5,5,0⟩ else
 bif op==16 then some ⟨1,1,2,0,0⟩ else
 bif op==17 then some ⟨1,2,0,0,0⟩ else
 bif op==18 then some ⟨2,1,0,0,0⟩ else
 bif op==19 then some ⟨1,3,0,0,0⟩ else
 bif op==20 then some ⟨1,3,0,0,0⟩ else
 bif op==21 then some ⟨2,2,0,0,0⟩ else
 bif op==22 then some ⟨2,2,2,0,0⟩ else
 bif op==23 then some ⟨2,2,2,0,0⟩ else
 bif op==24 then some ⟨2,2,2,0,0⟩ else
 bif op==25 then some ⟨2,2,0,0,0⟩ else
 bif op==26 then some ⟨2,2,2,2,0⟩ else
 bif op==27 then some ⟨2,2,2,0,0⟩ else
 bif op==28 then some ⟨2,2,2,0,0⟩ else
 bif op==29 then some ⟨3,0,0,0,2⟩ else
 bif op==30 then some ⟨3,0,0,0,2⟩ else
 bif op==31 then some ⟨0,3,0,0,2⟩ else
 bif op==32 then some ⟨8,0,0,0,3⟩ else
 bif op==33 then some ⟨0,8,0,0,3⟩ else
 bif op==34 then some ⟨0,2,0,0,0⟩ else
 bif op==35 then some ⟨0,0,0,0,0⟩ else
 bif op==36 then some ⟨0,0,0,0,4⟩ else
 bif op==37 then some ⟨0,0,0,0,0⟩ else
 none
theorem z5i (op:Int):(op=1\/op=2\/op=3\/op=4\/op=5\/op=6\/op=7\/op=8\/op=9\/op=10\/op=11\/op=12\/op=13\/op=14\/op=15\/op=16\/op=17\/op=18\/op=19\/op=20\/op=21\/op=22\/op=23\/op=24\/op=25\/op=26\/op=27\/op=28\/op=29\/op=30\/op=31\/op=32\/op=33\/op=34\/op=35\/op=36\/op=37)\/(∀ k:Int,1<=k->k<=37->(op==k)=false):=by
 by_cases h:1<=op/\op<=37
 ·left;omega
 ·right;intro k h1 h2;simp only [beq_eq_false_iff_ne,ne_eq];omega
theorem zoi {n:Nat}(op:Int):f26 n op=some (match z4s op with | some r=>(true,r.d,r.a,r.b,r.c,r.n) | none=>(false,0,0,0,0,0)):=by
 rw [ydj];rcases z5i op with (rfl | rfl | rfl | rfl | rfl | rfl | rfl | rfl | rfl | rfl | rfl | rfl | rfl | rfl | rfl | rfl | rfl | rfl | rfl | rfl | rfl | rfl | rfl | rfl | rfl | rfl | rfl | rfl | rfl | rfl | rfl | rfl | rfl | rfl | rfl | rfl | rfl) | h
 iterate 37 (· kernel_rfl)
 simp (discharger:=decide) only [z4s,h,cond_false,Option.bind_some,orRet_inl]
def z5h (s:Int):UInt8:=bif s==1 then 110 else bif s==2 then 119 else bif s==3 then 118 else bif s==4 then 100 else bif s==5 then 120 else bif s==7 then 99 else bif s==8 then 97 else 45
def z8m (s:Int):UInt8:=bif s==1 then 105 else bif s==2 then 112 else bif s==3 then 115 else bif s==4 then 113 else 45
def z4l (r:z4u):ByteArray:=⟨#[z5h r.d,z5h r.a,z5h r.b,z5h r.c,z8m r.n]⟩
theorem zoj {n:Nat}(op:Int):f27 n op=some (match z4s op with | some r=>(z4l r,true) | none=>(⟨#[]⟩,false)):=by
 rw [ydk];rcases z5i op with (rfl | rfl | rfl | rfl | rfl | rfl | rfl | rfl | rfl | rfl | rfl | rfl | rfl | rfl | rfl | rfl | rfl | rfl | rfl | rfl | rfl | rfl | rfl | rfl | rfl | rfl | rfl | rfl | rfl | rfl | rfl | rfl | rfl | rfl | rfl | rfl | rfl) | h
 iterate 37 (· kernel_rfl)
 simp (discharger:=decide) only [z4s,h,cond_false,Option.bind_some,orRet_inl]
theorem z4k {op:Int}(h:∀ k:Int,1<=k->k<=37->(op==k)=false):z4s op=none:=by simp (discharger:=decide) only [z4s,h,cond_false]
def z12 (i:Xd):List Int:=match z4s i.a_ with
 | some r=>(bif r.a==0 then [] else [i.A_])++((bif r.b==0 then [] else [i.B_])++(bif r.c==0 then [] else [i.C_]))
 | none=>[]
def zx (i:Xd):Bool:=match z4s i.a_ with | some r=>!(r.d==0) | none=>false
theorem zwe (m:Nat)(i:Xd):f9 (m+4) i=some (z12 i):=by
 obtain ⟨op,d,a,b,c,N,bits⟩:=i;rcases z5i op with (rfl | rfl | rfl | rfl | rfl | rfl | rfl | rfl | rfl | rfl | rfl | rfl | rfl | rfl | rfl | rfl | rfl | rfl | rfl | rfl | rfl | rfl | rfl | rfl | rfl | rfl | rfl | rfl | rfl | rfl | rfl | rfl | rfl | rfl | rfl | rfl | rfl) | h
 iterate 37 (· kernel_rfl)
 rw [ylu,zoi];simp only [z12,z4k h];kernel_rfl
theorem yd6 (m:Nat)(i:Xd):f10 (m+4) i=some (z12 i):=by
 obtain ⟨op,d,a,b,c,N,bits⟩:=i;rcases z5i op with (rfl | rfl | rfl | rfl | rfl | rfl | rfl | rfl | rfl | rfl | rfl | rfl | rfl | rfl | rfl | rfl | rfl | rfl | rfl | rfl | rfl | rfl | rfl | rfl | rfl | rfl | rfl | rfl | rfl | rfl | rfl | rfl | rfl | rfl | rfl | rfl | rfl) | h
 iterate 37 (· kernel_rfl)
 rw [yd5,zoj];simp only [z12,z4k h];kernel_rfl
theorem zj9 (n:Nat)(i:Xd):f11 n i=some (zx i):=by
 obtain ⟨op,d,a,b,c,N,bits⟩:=i;rcases z5i op with (rfl | rfl | rfl | rfl | rfl | rfl | rfl | rfl | rfl | rfl | rfl | rfl | rfl | rfl | rfl | rfl | rfl | rfl | rfl | rfl | rfl | rfl | rfl | rfl | rfl | rfl | rfl | rfl | rfl | rfl | rfl | rfl | rfl | rfl | rfl | rfl | rfl) | h
 iterate 37 (· kernel_rfl)
 rw [yd7,zoi];simp only [zx,z4k h];kernel_rfl
theorem zod (n:Nat)(i:Xd):f12 n i=some (zx i):=by
 obtain ⟨op,d,a,b,c,N,bits⟩:=i;rcases z5i op with (rfl | rfl | rfl | rfl | rfl | rfl | rfl | rfl | rfl | rfl | rfl | rfl | rfl | rfl | rfl | rfl | rfl | rfl | rfl | rfl | rfl | rfl | rfl | rfl | rfl | rfl | rfl | rfl | rfl | rfl | rfl | rfl | rfl | rfl | rfl | rfl | rfl) | h
 iterate 37 (· kernel_rfl)
 rw [yd8,zoj];simp only [zx,z4k h];kernel_rfl
def z75 (op:Int):Bool:=bif decide (op>=3) then decide (op<=15) else false
theorem yda (n:Nat)(op:Int):f13 n op=some (z75 op):=by rw [yd9];unfold z75;cases decide (op>=3)<;>rfl
theorem ydc (n:Nat)(op:Int):f14 n op=some (z75 op):=by rw [ydb];unfold z75;cases decide (op>=3)<;>rfl
abbrev ty0:Xb:=⟨0,0⟩
def eqTy (t d:Xb):Bool:=t.j_==d.j_&&(t.o_==d.o_&&true)
def isS (t:Xb)(s:Int)(d:Xb):Bool :=
 bif s==1 then t.j_==1 else bif s==2 then t.j_==2 else bif s==3 then t.j_==3 else bif s==4 then t.j_ != 2 else
 bif s==5 then (t.j_==1||eqTy t d) else bif s==7 then (eqTy t d||(t.j_==1&&d.j_==3)) else true
theorem yee {n:Nat}(t:Xb)(s:Int)(d:Xb)(h:s≠6):f54 n (t,s,d)=some (isS t s d):=by
 have h6:(s==6)=false:=by simpa using h
 rw [yed];unfold isS eqTy;simp only [h6,cond_false];cases (s==1)<;>cases (s==2)<;>cases (s==3)<;>cases (s==4)<;>cases (s==5)<;>cases (s==7)<;>cases (t.j_==1)<;>cases (t.j_==d.j_&&(t.o_==d.o_&&true))<;>cases (d.j_==3)<;>rfl
theorem z2s {α:Type}{l:List α}{n:Int}(h:n<0\/n>=l.length):idx l n=none:=by
 unfold idx;split
 ·rcases h with h | h
  ·omega
  ·rw [getElem?_eq_none];omega
 ·rfl
theorem z8k {α:Type}{l:List α}{n:Int}(h0:0<=n)(h1:n<l.length):∃ y,idx l n=some y/\y∈l:=by
 unfold idx;rw [if_pos h0];have:n.toNat<l.length:=by omega
 exact ⟨l[n.toNat],by simp [this],getElem_mem this⟩
theorem z50 {α:Type}{l:List α}{n:Int}{y:α}(h:idx l n=some y):y∈l/\0<=n/\n<l.length:=by
 unfold idx at h;split at h
 ·rename_i h0;obtain ⟨h1,h2⟩:=List.getElem?_eq_some_iff.1 h;exact ⟨h2 ▸ getElem_mem h1,h0,by omega⟩
 ·cases h
theorem yec {n:Nat}(a:List Xa)(b:List Xb)(c:List Xc)(d:List Xd)(e:List Bool)(f:List (List Int))(g:List Int)(k:Int) :
  f53 n (a,b,c,d,e,f,g,k)=some (match idx b k with | some t=>(true,a,b,c,d,e,f,g,t.j_,t.o_) | none=>(false,a,b,c,d,e,f,g,0,0)):=by
 rw [yeb];by_cases h:k<0
 ·rw [z2s (.inl h)];simp [h]
 ·by_cases h2:k>=b.length
  ·rw [z2s (.inr h2)];simp [h,h2]
  ·obtain ⟨y,hy,_⟩:=z8k (l:=b) (n:=k) (by omega) (by omega);rw [hy];have e1:decide (k<0)=false:=by simpa using h
   have e2:decide (k>=(b.length:Int))=false:=by simp;omega
   simp [e1,e2,hy]
theorem yf5 {n:Nat}(c:Xe)(k:Int):f70 n (c,k)=some (match idx c.c_ k with | some t=>(true,t.j_,t.o_) | none=>(false,0,0)):=by
 rw [yf4];by_cases h:k<0
 ·rw [z2s (.inl h)];simp [h]
 ·by_cases h2:k>=c.c_.length
  ·rw [z2s (.inr h2)];simp [h,h2]
  ·obtain ⟨y,hy,_⟩:=z8k (l:=c.c_) (n:=k) (by omega) (by omega);rw [hy];have e1:decide (k<0)=false:=by simpa using h
   have e2:decide (k>=(c.c_.length:Int))=false:=by simp;omega
   simp [e1,e2,hy]
theorem zmq {l:List Xa}{t:Xb}(h:z36 l t=true):t.j_=1\/t.j_=2\/(t.j_=3/\0<=t.o_/\t.o_<l.length):=by
 unfold z36 at h;by_cases h3:t.j_=3
 ·simp [h3] at h;exact .inr (.inr ⟨h3,h.1,h.2⟩)
 ·have e3:(t.j_==3)=false:=by simpa using h3
  rw [e3] at h;simp at h;rcases h.1 with h | h
  ·exact .inl h
  ·exact .inr (.inl h)
def z13 (c:Xe)(s k:Int)(d:Xb):Bool:=bif s==0 then k==0 else match idx c.c_ k with | none=>false | some t=>isS t s d
def z53 (s:Int):Prop:=s=0\/s=1\/s=2\/s=3\/s=4\/s=5\/s=7\/s=8
theorem zjk {n:Nat}{c:Xe}{s k:Int}{d:Xb}(hs:z53 s)(hr:∀ t∈c.c_,z36 c.g_ t=true):f66 n (c,((z5h s).toNat:Int),k,d)=some (z13 c s k d):=by
 rw [yey,yf5];unfold z13;cases hi:idx c.c_ k with
 | none=>rcases hs with rfl | rfl | rfl | rfl | rfl | rfl | rfl | rfl<;>kernel_rfl
 | some t =>
  have hk:=zmq (hr t (z50 hi).1);rcases hs with rfl | rfl | rfl | rfl | rfl | rfl | rfl | rfl
  ·rfl
  ·rfl
  ·rfl
  ·rfl
  ·rcases hk with h | h | ⟨h,_⟩<;>simp [h,z5h,isS]
  ·show (bif t.j_==1 then some true else some (eqTy t d))=some (t.j_==1||eqTy t d);cases (t.j_==1)<;>rfl
  ·show (bif eqTy t d then some true else bif t.j_==1 then some (d.j_==3) else some false)=some (eqTy t d||(t.j_==1&&d.j_==3));cases eqTy t d<;>cases (t.j_==1)<;>rfl
  ·rfl
theorem zvd {op:Int}{r:z4u}(h:z4s op=some r):(z53 r.d/\z53 r.a/\z53 r.b/\z53 r.c)/\((r.n=0\/r.n=1\/r.n=3\/r.n=4)\/r.n=2/\(r.d=3\/r.d=0/\r.a=3)):=by
 rcases z5i op with (rfl | rfl | rfl | rfl | rfl | rfl | rfl | rfl | rfl | rfl | rfl | rfl | rfl | rfl | rfl | rfl | rfl | rfl | rfl | rfl | rfl | rfl | rfl | rfl | rfl | rfl | rfl | rfl | rfl | rfl | rfl | rfl | rfl | rfl | rfl | rfl | rfl) | h0
 iterate 37 (· cases h;simp [z53])
 rw [z4k h0] at h;cases h
def tyD (c:Xe)(r:z4u)(i:Xd):Xb:=bif r.d==0 then ty0 else (idx c.c_ i.D_).getD ty0
def tyF (c:Xe)(r:z4u)(i:Xd):Xb:=bif r.d==0 then (bif r.a==0 then ty0 else (idx c.c_ i.A_).getD ty0) else (idx c.c_ i.D_).getD ty0
def nOk (c:Xe)(s N:Int)(t:Xb):Bool :=
 bif s==1 then decide (N>=0)&&decide (N<=2147483647) else
 bif s==2 then (N==0||(N==1&&(match idx c.g_ t.o_ with | some p=>p.j_==2 | none=>false))) else
 bif s==3 then (match idx c.e_ N with | some z=>eqTy z.s_ t | none=>false) else
 bif s==4 then decide (N>=0)&&decide (N<(c.g_.length:Int)) else N==0
def z6q (i:Xd):Bool:=bif i.a_==1 then z7q i.m_ else i.m_==0
def z20 (c:Xe)(i:Xd):Bool:=match z4s i.a_ with
 | none=>false
 | some r=>z13 c r.d i.D_ ty0&&(z13 c r.a i.A_ (tyD c r i)&&(z13 c r.b i.B_ (tyD c r i)&&(z13 c r.c i.C_ (tyD c r i)&&(z6q i&&nOk c r.n i.N_ (tyF c r i)))))
theorem yf0 {n:Nat}{c:Xe}{N p:Int}(hp:0<=p/\p<c.g_.length):f67 n (c,N,p)=some (N==0||(N==1&&(match idx c.g_ p with | some p=>p.j_==2 | none=>false))):=by rw [yez];obtain ⟨y,hy,_⟩:=z8k (l:=c.g_) hp.1 hp.2;rw [hy];cases (N==0)<;>cases (N==1)<;>simp
theorem yof {t d:Xb}(h:isS t 3 d=true):t.j_=3:=by simpa [isS] using h
theorem zv5 {c:Xe}{i:Xd}{r:z4u}(hr:∀ t∈c.c_,z36 c.g_ t=true)(hp:r.d=3\/r.d=0/\r.a=3)(h1:z13 c r.d i.D_ ty0=true)(h2:z13 c r.a i.A_ (tyD c r i)=true):0<=(tyF c r i).o_/\(tyF c r i).o_<c.g_.length:=by
 have key:∀ (k:Int) (d:Xb),z13 c 3 k d=true->∃ t,idx c.c_ k=some t/\0<=t.o_/\t.o_<c.g_.length:=λk d h=>by
  unfold z13 at h;have e:((3:Int)==0)=false:=by decide
  rw [e,cond_false] at h;split at h
  ·cases h
  ·rename_i t ht;have h3:=yof h;rcases zmq (hr t (z50 ht).1) with q | q | q
   ·omega
   ·omega
   ·exact ⟨t,ht,q.2⟩
 rcases hp with hp | ⟨hp,hq⟩
 ·rw [hp] at h1;obtain ⟨t,ht,h⟩:=key _ _ h1;unfold tyF;rw [hp];simpa [ht] using h
 ·rw [hq] at h2;obtain ⟨t,ht,h⟩:=key _ _ h2;unfold tyF;rw [hp,hq];simpa [ht] using h
theorem zmp {s:Int}(h:z53 s):(((z5h s).toNat:Int) != 45) = !(s==0):=by rcases h with rfl | rfl | rfl | rfl | rfl | rfl | rfl | rfl<;>rfl
theorem y3p {s:Int}(h:z53 s):(((z5h s).toNat:Int)==45)=(s==0):=by rcases h with rfl | rfl | rfl | rfl | rfl | rfl | rfl | rfl<;>rfl
theorem zc7 (r:z4u):((z4l r).size:Int)=5:=rfl
theorem ya6 (r:z4u):zc (z4l r) 0=((z5h r.d).toNat:Int):=rfl
theorem ya7 (r:z4u):zc (z4l r) 1=((z5h r.a).toNat:Int):=rfl
theorem ynr (r:z4u):zc (z4l r) 2=((z5h r.b).toNat:Int):=rfl
theorem yns (r:z4u):zc (z4l r) 3=((z5h r.c).toNat:Int):=rfl
theorem ya8 (r:z4u):zc (z4l r) 4=((z8m r.n).toNat:Int):=rfl
theorem z65 {c:Xe}{s k:Int}{d:Xb}(h:z13 c s k d=true)(hs:(s==0)=false):∃ t,idx c.c_ k=some t:=by
 unfold z13 at h;rw [hs,cond_false] at h;split at h
 ·cases h
 ·rename_i t ht;exact ⟨t,ht⟩
theorem yem {n:Nat}{c:Xe}{i:Xd}(hr:∀ t∈c.c_,z36 c.g_ t=true)(h0:0<=i.m_)(h1:i.m_<4294967296):f59 n (c,i)=some (z20 c i):=by
 rw [yel,zoj];unfold z20;cases h:z4s i.a_ with
 | none=>rfl
 | some r =>
  obtain ⟨⟨s1,s2,s3,s4⟩,hn⟩:=zvd h;have n1:(0:Int)<=0/\(0:Int)<5:=by decide
  have n2:(0:Int)<=1/\(1:Int)<5:=by decide
  have n3:(0:Int)<=2/\(2:Int)<5:=by decide
  have n4:(0:Int)<=3/\(3:Int)<5:=by decide
  have n5:(0:Int)<=4/\(4:Int)<5:=by decide
  simp only [Option.bind_some,Bool.not_true,cond_false,zyg _ h0 h1]
  have hB:(bif (i.a_ != 1) then (bif (i.m_ != 0) then some (Sum.inl (z4l r,true)) else some (Sum.inl (z4l r,!z7q i.m_))) else some (Sum.inl (z4l r,!z7q i.m_)):Option (ByteArray×Bool⊕Bool))=some (.inl (z4l r,!(z6q i))):=by
   unfold z6q;by_cases q:i.a_=1
   ·simp [q]
   ·by_cases q2:i.m_=0
    ·have:z7q 0=true:=by decide
     simp [q,q2,this]
    ·have e1:(i.a_==1)=false:=by simpa using q
     have e2:(i.m_==0)=false:=by simpa using q2
     simp [bne,e1,e2]
  rw [hB,Option.bind_some,orRet_inl];dsimp only;cases hb:z6q i with
  | false=>simp
  | true =>
   simp only [Bool.not_true,cond_false,zc7,zl n1,ya6,zmp s1,zjk s1 hr,Option.bind_some]
   have hD:(bif !(r.d==0) then (bif !(z13 c r.d i.D_ ty0) then some (Sum.inr false) else (idx c.c_ i.D_).bind λy5=>some (Sum.inl (z4l r,y5.j_,y5.o_))) else (bif i.D_ != 0 then some (Sum.inr false) else some (Sum.inl (z4l r,0,0))):Option (ByteArray×Int×Int⊕Bool))
     = bif z13 c r.d i.D_ ty0 then some (.inl (z4l r,(tyD c r i).j_,(tyD c r i).o_)) else some (.inr false):=by
    cases hz:r.d==0 with
    | true =>
     have:z13 c r.d i.D_ ty0=(i.D_==0):=by unfold z13;rw [hz];rfl
     rw [this];unfold tyD;rw [hz];have e:(i.D_ != 0) = !(i.D_==0):=rfl;rw [e];cases i.D_==0<;>rfl
    | false =>
     cases hq:z13 c r.d i.D_ ty0 with
     | false=>simp
     | true =>obtain ⟨t,ht⟩:=z65 hq hz;unfold tyD;rw [hz,ht];simp
   rw [hD];cases hd:z13 c r.d i.D_ ty0 with
   | false=>simp
   | true =>
    simp only [cond_true,Option.bind_some,orRet_inl,zc7,zl n2,zl n3,zl n4,ya7,ynr,yns,zjk s2 hr,zjk s3 hr,zjk s4 hr,Bool.true_and];cases ha:z13 c r.a i.A_ (tyD c r i) with
    | false=>simp
    | true =>
     cases hbb:z13 c r.b i.B_ (tyD c r i) with
     | false=>simp
     | true =>
      cases hcc:z13 c r.c i.C_ (tyD c r i) with
      | false=>simp
      | true =>
       simp only [cond_true,cond_false,Bool.not_true,Option.bind_some,orRet_inl,zc7,zl n1,zl n2,zl n5,ya6,ya7,ya8,y3p s1,zmp s2,Bool.true_and]
       have hF:((bif r.d==0 then some (Sum.inl (z4l r,!(r.a==0),(tyD c r i).j_,(tyD c r i).o_)) else some (Sum.inl (z4l r,false,(tyD c r i).j_,(tyD c r i).o_)):Option (ByteArray×Bool×Int×Int⊕(ByteArray×Int×Int⊕Bool))).bind (zq λs4=>bif s4.2.1 then (idx c.c_ i.A_).bind λy9=>some (Sum.inl (s4.1,y9.j_,y9.o_)) else some (Sum.inl (s4.1,s4.2.2.1,s4.2.2.2))))
         = some (.inl (z4l r,(tyF c r i).j_,(tyF c r i).o_)):=by
        unfold tyF tyD;cases hz:r.d==0 with
        | false=>simp
        | true =>
         cases hza:r.a==0 with
         | true=>simp
         | false =>obtain ⟨t,ht⟩:=z65 ha hza;simp [ht]
       rw [hF];simp only [Option.bind_some,orRet_inl,zc7,zl n5,ya8];unfold nOk;rcases hn with (hn | hn | hn | hn) | ⟨hn,hp⟩
       ·simp only [hn,z8m];rfl
       ·simp only [hn,z8m];show (bif decide (i.N_>=0) then some (decide (i.N_<=2147483647)) else some false)=some (decide (i.N_>=0)&&decide (i.N_<=2147483647));cases decide (i.N_>=0)<;>rfl
       ·simp only [hn,z8m];show (bif decide (i.N_>=0) then bif decide (i.N_<(c.e_.length:Int)) then (idx c.e_ i.N_).bind λy11=>some (eqTy y11.s_ (tyF c r i)) else some false else some false)=some (match idx c.e_ i.N_ with | some z=>eqTy z.s_ (tyF c r i) | none=>false);by_cases q:i.N_>=0
        ·by_cases q2:i.N_<c.e_.length
         ·obtain ⟨y,hy,_⟩:=z8k (l:=c.e_) q q2;simp [q,q2,hy]
         ·rw [z2s (by omega)];simp [q,q2]
        ·rw [z2s (by omega)];simp [q]
       ·simp only [hn,z8m];show (bif decide (i.N_>=0) then some (decide (i.N_<(c.g_.length:Int))) else some false)=some (decide (i.N_>=0)&&decide (i.N_<(c.g_.length:Int)));cases decide (i.N_>=0)<;>rfl
       ·have:=zv5 hr hp hd ha;simp only [hn,z8m];show ((f67 n (c,i.N_,(tyF c r i).o_)).bind λy10=>some y10)=_;rw [yf0 this];rfl
section
variable {n:Nat}{c:Xe}{i:Xd}{set:List Bool}{news:List (List Int)}{op:List Int}
theorem zh0 {a b cc d e k dk dp fk fp s m:Int}(hk:k<4)(h1:idx [a,b,cc,d] k=some s)(h2:idx [i.D_,i.A_,i.B_,i.C_] k=some m)(hs:s≠6) :
  zfq n (c.g_,c.c_,c.e_,c.d_,set,news,op,i) (a,b,cc,d,e) (k,c.g_,c.c_,c.e_,c.d_,set,news,op,dk,dp,fk,fp) =
   some (bif z13 c s m ⟨dk,dp⟩ then .go (i64.wrap (k+1),c.g_,c.c_,c.e_,c.d_,set,news,op,
    (bif s==0 then dk else bif k==0 then ((idx c.c_ m).getD ty0).j_ else dk),(bif s==0 then dp else bif k==0 then ((idx c.c_ m).getD ty0).o_ else dp),
    (bif s==0 then fk else bif k==0 then ((idx c.c_ m).getD ty0).j_ else bif k==1 then (bif a==0 then ((idx c.c_ m).getD ty0).j_ else fk) else fk),
    (bif s==0 then fp else bif k==0 then ((idx c.c_ m).getD ty0).o_ else bif k==1 then (bif a==0 then ((idx c.c_ m).getD ty0).o_ else fp) else fp))
    else .ret (c.g_,c.c_,c.e_,c.d_,set,news,op)):=by
 rw [zlx];have hk':decide (k<4)=true:=by simpa using hk
 simp only [hk',cond_true,h1,h2,Option.bind_some];unfold z13;cases hz:s==0 with
 | true =>simp only [cond_true];have e1:(m != 0) = !(m==0):=rfl;rw [e1];cases m==0<;>rfl
 | false =>
  simp only [cond_false,yec];cases hi:idx c.c_ m with
  | none=>rfl
  | some t =>simp only [Option.bind_some,Bool.not_true,cond_false,yee _ _ _ hs];have e2:(⟨t.j_,t.o_⟩:Xb)=t:=rfl;simp only [e2,Option.bind_some,orRet_inl];cases isS t s ⟨dk,dp⟩<;>cases (k==0)<;>cases (k==1)<;>cases (a==0)<;>rfl
theorem znj {s:Int}(h:z53 s):s≠6:=by rcases h with rfl | rfl | rfl | rfl | rfl | rfl | rfl | rfl<;>decide
theorem w1:i64.wrap (0+1)=1:=by decide
theorem w2:i64.wrap (1+1)=2:=by decide
theorem w3:i64.wrap (2+1)=3:=by decide
theorem w4:i64.wrap (3+1)=4:=by decide
theorem yb1 {a b cc d e dk dp fk fp:Int} :
  zfq n (c.g_,c.c_,c.e_,c.d_,set,news,op,i) (a,b,cc,d,e) (4,c.g_,c.c_,c.e_,c.d_,set,news,op,dk,dp,fk,fp)=some (.out (4,c.g_,c.c_,c.e_,c.d_,set,news,op,dk,dp,fk,fp)):=by
 rw [zlx];rfl
theorem y5t {r:z4u}(m:Nat)(h:z53 r.d/\z53 r.a/\z53 r.b/\z53 r.c) :
  zk (zfq n (c.g_,c.c_,c.e_,c.d_,set,news,op,i) (r.d,r.a,r.b,r.c,r.n)) (m+5) (0,c.g_,c.c_,c.e_,c.d_,set,news,op,0,0,0,0) =
   some (bif z13 c r.d i.D_ ty0&&(z13 c r.a i.A_ (tyD c r i)&&(z13 c r.b i.B_ (tyD c r i)&&z13 c r.c i.C_ (tyD c r i))) then
    .out (4,c.g_,c.c_,c.e_,c.d_,set,news,op,(tyD c r i).j_,(tyD c r i).o_,(tyF c r i).j_,(tyF c r i).o_) else .ret (c.g_,c.c_,c.e_,c.d_,set,news,op)):=by
 obtain ⟨h1,h2,h3,h4⟩:=h
 have eD:∀ b:Bool,b=(r.d==0)->(⟨bif b then 0 else ((idx c.c_ i.D_).getD ty0).j_,bif b then 0 else ((idx c.c_ i.D_).getD ty0).o_⟩:Xb)=tyD c r i:=by intro b hb;unfold tyD;rw [<- hb];cases b<;>rfl
 unfold zk;rw [zh0 (s:=r.d) (m:=i.D_) (by decide) rfl rfl (znj h1)];have e0:(⟨0,0⟩:Xb)=ty0:=rfl;rw [e0];cases z13 c r.d i.D_ ty0 with
 | false=>rfl
 | true =>
  have k0:((0:Int)==0)=true:=by decide
  simp only [cond_true,w1,k0,Bool.true_and];unfold zk;rw [zh0 (s:=r.a) (m:=i.A_) (by decide) rfl rfl (znj h2),eD _ rfl];cases z13 c r.a i.A_ (tyD c r i) with
  | false=>rfl
  | true =>
   have k1:((1:Int)==0)=false:=by decide
   have k2:((1:Int)==1)=true:=by decide
   simp only [cond_true,w2,k1,k2,cond_false,Bool.true_and,cond_self];unfold zk;rw [zh0 (s:=r.b) (m:=i.B_) (by decide) rfl rfl (znj h3),eD _ rfl];cases z13 c r.b i.B_ (tyD c r i) with
   | false=>rfl
   | true =>
    have k3:((2:Int)==0)=false:=by decide
    have k4:((2:Int)==1)=false:=by decide
    simp only [cond_true,w3,k3,k4,cond_false,Bool.true_and,cond_self];unfold zk;rw [zh0 (s:=r.c) (m:=i.C_) (by decide) rfl rfl (znj h4),eD _ rfl];cases z13 c r.c i.C_ (tyD c r i) with
    | false=>rfl
    | true =>
     have k5:((3:Int)==0)=false:=by decide
     have k6:((3:Int)==1)=false:=by decide
     simp only [cond_true,w4,k5,k6,cond_false,Bool.true_and,cond_self];unfold zk;rw [yb1];simp only;congr 13
     all_goals
      first
      | (unfold tyD;cases r.d==0<;>rfl)
      | (unfold tyF;cases r.d==0<;>cases r.a==0<;>rfl)
theorem ydw (m:Nat)(hr:∀ t∈c.c_,z36 c.g_ t=true)(h0:0<=i.m_)(h1:i.m_<4294967296) :
  f35 (m+5) (c.g_,c.c_,c.e_,c.d_,set,news,op,i)=some (z20 c i,c.g_,c.c_,c.e_,c.d_,set,news,op):=by
 rw [ydv,zoi];unfold z20;cases h:z4s i.a_ with
 | none=>rfl
 | some r =>
  obtain ⟨hs,hn⟩:=zvd h;simp only [Option.bind_some,Bool.not_true,cond_false,y5t m hs,zye _ h0 h1];cases hd:z13 c r.d i.D_ ty0 with
  | false=>rfl
  | true =>
  cases ha:z13 c r.a i.A_ (tyD c r i) with
  | false=>rfl
  | true =>
  cases hbb:z13 c r.b i.B_ (tyD c r i) with
  | false=>rfl
  | true =>
  cases hcc:z13 c r.c i.C_ (tyD c r i) with
  | false=>rfl
  | true =>
   simp only [Bool.true_and,cond_true,Option.bind_some,Bo.then]
   have hB:(bif (i.a_==1) then (bif (!z7q i.m_) then some (Sum.inl (true,c.g_,c.c_,c.e_,c.d_,set,news,op,r.d,r.a,r.b,r.c,r.n,(tyF c r i).j_,(tyF c r i).o_))
     else (bif i.a_ != 1 then some (.inl (i.m_ != 0,c.g_,c.c_,c.e_,c.d_,set,news,op,r.d,r.a,r.b,r.c,r.n,(tyF c r i).j_,(tyF c r i).o_)) else some (.inl (false,c.g_,c.c_,c.e_,c.d_,set,news,op,r.d,r.a,r.b,r.c,r.n,(tyF c r i).j_,(tyF c r i).o_))))
     else (bif i.a_ != 1 then some (.inl (i.m_ != 0,c.g_,c.c_,c.e_,c.d_,set,news,op,r.d,r.a,r.b,r.c,r.n,(tyF c r i).j_,(tyF c r i).o_)) else some (.inl (false,c.g_,c.c_,c.e_,c.d_,set,news,op,r.d,r.a,r.b,r.c,r.n,(tyF c r i).j_,(tyF c r i).o_))) :
      Option ((Bool×List Xa×List Xb×List Xc×List Xd×List Bool×List (List Int)×List Int×Int×Int×Int×Int×Int×Int×Int)⊕(Bool×List Xa×List Xb×List Xc×List Xd×List Bool×List (List Int)×List Int)))
     = some (.inl (!(z6q i),c.g_,c.c_,c.e_,c.d_,set,news,op,r.d,r.a,r.b,r.c,r.n,(tyF c r i).j_,(tyF c r i).o_)):=by
    unfold z6q;have e1:(i.a_ != 1) = !(i.a_==1):=rfl;have e2:(i.m_ != 0) = !(i.m_==0):=rfl;rw [e1,e2];cases i.a_==1<;>cases z7q i.m_<;>rfl
   rw [hB,Option.bind_some,orRet_inl];dsimp only;cases hb:z6q i with
   | false=>rfl
   | true =>
    simp only [Bool.not_true,cond_false,Bool.true_and];unfold nOk;rcases hn with (hn | hn | hn | hn) | ⟨hn,hp⟩
    ·rw [hn];rfl
    ·rw [hn];show (bif decide (i.N_>=0) then some (decide (i.N_<=2147483647),c.g_,c.c_,c.e_,c.d_,set,news,op) else some (false,c.g_,c.c_,c.e_,c.d_,set,news,op))=some (decide (i.N_>=0)&&decide (i.N_<=2147483647),c.g_,c.c_,c.e_,c.d_,set,news,op);cases decide (i.N_>=0)<;>rfl
    ·rw [hn];show (bif decide (i.N_>=0) then bif decide (i.N_<(c.e_.length:Int)) then (idx c.e_ i.N_).bind λy11=>some (eqTy y11.s_ (tyF c r i),c.g_,c.c_,c.e_,c.d_,set,news,op) else some (false,c.g_,c.c_,c.e_,c.d_,set,news,op) else some (false,c.g_,c.c_,c.e_,c.d_,set,news,op))=some ((match idx c.e_ i.N_ with | some z=>eqTy z.s_ (tyF c r i) | none=>false),c.g_,c.c_,c.e_,c.d_,set,news,op);by_cases q:i.N_>=0
     ·by_cases q2:i.N_<c.e_.length
      ·obtain ⟨y,hy,_⟩:=z8k (l:=c.e_) q q2;simp [q,q2,hy]
      ·rw [z2s (by omega)];simp [q,q2]
     ·rw [z2s (by omega)];simp [q]
    ·rw [hn];show (bif decide (i.N_>=0) then some (decide (i.N_<(c.g_.length:Int)),c.g_,c.c_,c.e_,c.d_,set,news,op) else some (false,c.g_,c.c_,c.e_,c.d_,set,news,op))=some (decide (i.N_>=0)&&decide (i.N_<(c.g_.length:Int)),c.g_,c.c_,c.e_,c.d_,set,news,op);cases decide (i.N_>=0)<;>rfl
    ·obtain ⟨p1,p2⟩:=zv5 hr hp hd ha;obtain ⟨y,hy,_⟩:=z8k (l:=c.g_) p1 p2;rw [hn];show (bif i.N_==0 then some (true,c.g_,c.c_,c.e_,c.d_,set,news,op) else bif i.N_==1 then (idx c.g_ (tyF c r i).o_).bind λy8=>some (y8.j_==2,c.g_,c.c_,c.e_,c.d_,set,news,op) else some (false,c.g_,c.c_,c.e_,c.d_,set,news,op))=some ((i.N_==0||(i.N_==1&&(match idx c.g_ (tyF c r i).o_ with | some p=>p.j_==2 | none=>false))),c.g_,c.c_,c.e_,c.d_,set,news,op);rw [hy];cases (i.N_==0)<;>cases (i.N_==1)<;>simp
end
theorem zjs {α Y Z:Type}{l:List α}{p:α->Bool}{body:Int->Option (Bo Int Y Z)}{z:Int->Z}{y:Y}
  (hb:∀ (k:Nat) (h:k<l.length),body k=some (bif p l[k] then .go ((k+1:Nat):Int) else .ret (z k))) (he:body l.length=some (.out y)) :
  ∀ (j k f:Nat),k+j=l.length->j<f->zk body f (k:Int)=some (match (l.drop k).findIdx? (λx=>!p x) with | none=>.out y | some i=>.ret (z ((k+i:Nat):Int)))
 | 0,k,f+1,hk,hf=>by
  obtain rfl:k=l.length:=by omega
  unfold zk;rw [he];simp
 | j+1,k,f+1,hk,hf=>by
  have h:k<l.length:=by omega
  unfold zk;rw [hb k h,drop_eq_getElem_cons h];cases hp:p l[k] with
  | false =>simp only [cond_false,findIdx?_cons,hp,Bool.not_false,if_true];rfl
  | true =>simp only [cond_true];rw [zjs hb he j (k+1) f (by omega) (by omega)];rw [findIdx?_cons];simp only [hp,Bool.not_true,cond_false,Bool.false_eq_true,if_false];cases (l.drop (k+1)).findIdx? (λx=>!p x) with | none=>rfl | some i=>simp only [map_some];congr 4;omega
theorem y6c {α Y Z:Type}{l:List α}{p:α->Bool}{body:Int->Option (Bo Int Y Z)}{z:Int->Z}{y:Y}{f:Nat}
  (hb:∀ (k:Nat) (h:k<l.length),body k=some (bif p l[k] then .go ((k+1:Nat):Int) else .ret (z k))) (he:body l.length=some (.out y)) (hf:l.length<f) :
  zk body f 0=some (match l.findIdx? (λx=>!p x) with | none=>.out y | some i=>.ret (z (i:Int))):=by
 have:=zjs hb he l.length 0 f (by omega) hf;simpa using this
theorem zi1 {α:Type}(l:List α)(p:α->Bool):(l.findIdx? (λx=>!p x)).isNone=l.all p:=by
 induction l with
 | nil=>rfl
 | cons x l ih =>rw [findIdx?_cons,List.all_cons,<- ih];cases p x<;>simp
theorem z56 {α Y Z:Type}{l:List α}{p:α->Bool}{body:Int->Option (Bo Int Y Z)}{z:Z}{y:Y}{f:Nat}
  (hb:∀ (k:Nat) (h:k<l.length),body k=some (bif p l[k] then .go ((k+1:Nat):Int) else .ret z)) (he:body l.length=some (.out y)) (hf:l.length<f) :
  zk body f 0=some (bif l.all p then .out y else .ret z):=by
 rw [y6c (z:=λ_=>z) hb he hf,<- zi1];cases l.findIdx? (λx=>!p x)<;>rfl
theorem zho {α S Z:Type}{l:List α}{F:S->α->S}{Inv:S->Prop}{body:Int×S->Option (Bo (Int×S) (Int×S) Z)}
  (hb:∀ (k:Nat) (s:S) (h:k<l.length),Inv s->body (k,s)=some (.go (((k+1:Nat):Int),F s l[k]))/\Inv (F s l[k])) (he:∀ s,Inv s->body (l.length,s)=some (.out ((l.length:Int),s))) :
  ∀ (j k f:Nat) (s:S),k+j=l.length->j<f->Inv s->zk body f ((k:Int),s)=some (.out ((l.length:Int),(l.drop k).foldl F s))
 | 0,k,f+1,s,hk,hf,hi=>by
  obtain rfl:k=l.length:=by omega
  unfold zk;rw [he s hi];simp
 | j+1,k,f+1,s,hk,hf,hi=>by
  have h:k<l.length:=by omega
  obtain ⟨h1,h2⟩:=hb k s h hi;unfold zk;rw [h1,drop_eq_getElem_cons h];exact zho hb he j (k+1) f _ (by omega) (by omega) h2
theorem y3l {α S Z:Type}{l:List α}{F:S->α->S}{Inv:S->Prop}{body:Int×S->Option (Bo (Int×S) (Int×S) Z)}{f:Nat}{s:S}
  (hb:∀ (k:Nat) (s:S) (h:k<l.length),Inv s->body (k,s)=some (.go (((k+1:Nat):Int),F s l[k]))/\Inv (F s l[k])) (he:∀ s,Inv s->body (l.length,s)=some (.out ((l.length:Int),s)))
  (hf:l.length<f) (hi:Inv s):zk body f (0,s)=some (.out ((l.length:Int),l.foldl F s)):=by
 have:=zho hb he l.length 0 f s (by omega) hf hi;simpa using this
theorem z22 {k:Nat}(h:k<4611686018427387904):i64.wrap ((k:Int)+1)=((k+1:Nat):Int):=by rw [zhf (by omega) (by omega)];simp
theorem yo5 {k:Nat}(h:k<4611686018427387904):i64.wrap ((k:Int) - 1)=(k:Int) - 1:=zhf (by omega) (by omega)
theorem zc4 (i:Xd):(z12 i).length<=3:=by
 unfold z12;split
 ·rename_i r _;cases r.a==0<;>cases r.b==0<;>cases r.c==0<;>simp
 ·simp
theorem ze2 {c:Xe}{i:Xd}(h:z20 c i=true):∃ r,z4s i.a_=some r/\z13 c r.d i.D_ ty0=true/\z13 c r.a i.A_ (tyD c r i)=true/\z13 c r.b i.B_ (tyD c r i)=true/\z13 c r.c i.C_ (tyD c r i)=true:=by
 unfold z20 at h;split at h
 ·cases h
 ·rename_i r hr;simp only [and_eq_true] at h;exact ⟨r,hr,h.1,h.2.1,h.2.2.1,h.2.2.2.1⟩
theorem zeu {c:Xe}{s k:Int}{d:Xb}(h:z13 c s k d=true)(hs:(s==0)=false):0<=k/\k<c.c_.length:=by obtain ⟨t,ht⟩:=z65 h hs;exact (z50 ht).2
theorem zqf {c:Xe}{i:Xd}(h:z20 c i=true):∀ y∈z12 i,0<=y/\y<c.c_.length:=by
 obtain ⟨r,hr,h1,h2,h3,h4⟩:=ze2 h;intro y hy;unfold z12 at hy;rw [hr] at hy;simp only [mem_append] at hy;rcases hy with hy | hy | hy
 ·cases hz:r.a==0 with
  | true=>rw [hz] at hy;cases hy
  | false =>rw [hz] at hy;simp only [cond_false,mem_singleton] at hy;subst hy;exact zeu h2 hz
 ·cases hz:r.b==0 with
  | true=>rw [hz] at hy;cases hy
  | false =>rw [hz] at hy;simp only [cond_false,mem_singleton] at hy;subst hy;exact zeu h3 hz
 ·cases hz:r.c==0 with
  | true=>rw [hz] at hy;cases hy
  | false =>rw [hz] at hy;simp only [cond_false,mem_singleton] at hy;subst hy;exact zeu h4 hz
theorem zlg {c:Xe}{i:Xd}(h:z20 c i=true)(hs:zx i=true):0<=i.D_/\i.D_<c.c_.length:=by obtain ⟨r,hr,h1,_⟩:=ze2 h;unfold zx at hs;rw [hr] at hs;simp only [not_eq_true'] at hs;exact zeu h1 hs
def z2j (set:List Bool)(i:Xd):Bool:=(z12 i).all λy=>(set[y.toNat]?).getD false
theorem zd1 {α:Type}{l:List α}{y:Int}(h0:0<=y)(h1:y<l.length):∃ b,l[y.toNat]?=some b:=by
 have:y.toNat<l.length:=by omega
 exact ⟨_,getElem?_eq_getElem this⟩
theorem zom {n m:Nat}{c:Xe}{i:Xd}{set:List Bool}{news:List (List Int)}{op:List Int}
  (h:∀ y∈z12 i,0<=y/\y<set.length) :
  zk (zol n (c.g_,c.c_,c.e_,c.d_,set,news,op,i) (((z12 i).length:Int),z12 i)) (m+4) 0=some (bif z2j set i then .out ((z12 i).length:Int) else .ret ()):=by
 refine z56 (λk hk=>?_) ?_ (by have:=zc4 i;omega)
 ·have h3:=zc4 i;obtain ⟨y0,y1⟩:=h _ (getElem_mem hk);obtain ⟨b,hb⟩:=zd1 y0 y1;rw [zlz];have e1:decide ((k:Int)<((z12 i).length:Int))=true:=by simp;omega
  have e2:(z12 i)[(k:Int).toNat]?=some (z12 i)[k]:=by simp [hk]
  simp only [e1,cond_true];rw [zl (by omega),e2];simp only [Option.bind_some];rw [zl ⟨y0,y1⟩,hb,z22 (by omega)];cases b<;>rfl
 ·rw [zlz];simp
theorem y5z {n m:Nat}{c:Xe}{i:Xd}{set:List Bool}{op:List Xh}{b0:Bool}(h:∀ y∈z12 i,0<=y/\y<set.length) :
  zk (zop n (c,i,set,op) (b0,z12 i)) (m+4) 0=some (bif z2j set i then .out ((z12 i).length:Int) else .ret ()):=by
 refine z56 (λk hk=>?_) ?_ (by have:=zc4 i;omega)
 ·have h3:=zc4 i;obtain ⟨y0,y1⟩:=h _ (getElem_mem hk);obtain ⟨b,hb⟩:=zd1 y0 y1;rw [zm2];have e1:decide ((k:Int)<((z12 i).length:Int))=true:=by simp;omega
  have e2:(z12 i)[(k:Int).toNat]?=some (z12 i)[k]:=by simp [hk]
  have e3:idx set (z12 i)[k]=some b:=by unfold idx;rw [if_pos y0,hb]
  simp only [e1,cond_true];rw [zl (by omega),e2];simp only [Option.bind_some];rw [e3,z22 (by omega),hb];cases b<;>rfl
 ·rw [zm2];simp
def lst (op:List Int):Int:=match op.getLast? with | some x=>x | none=>-1
def z9o (set:List Bool)(l:List Int):List Bool:=l.foldl (λs r=>s.set r.toNat false) set
def zhe (c:Xe)(k p:Int):Bool:=match idx c.c_ k with | some t=>t.j_==3&&(t.o_==p&&true) | none=>false
def onD (i:Xd):Bool:=z75 i.a_||(i.a_==29||(i.a_==30||i.a_==32))
def onA (i:Xd):Bool:=i.a_==31||i.a_==33
def zf3 (c:Xe)(i:Xd)(p:Int):Bool:=bif onD i then zhe c i.D_ p else bif onA i then zhe c i.A_ p else false
theorem z79 {α:Type}(l:List α)(h:0<l.length):∃ x,l.getLast? = some x/\l[l.length - 1]?=some x:=by rw [List.getLast?_eq_getElem?];exact ⟨l[l.length - 1],by simp [h],by simp [h]⟩
theorem zab {k:Nat}(h0:0<k)(h:k<4611686018427387904):(i64.wrap ((k:Int) - 1)).toNat=k - 1/\0<=i64.wrap ((k:Int) - 1)/\i64.wrap ((k:Int) - 1)<k:=by rw [yo5 h];omega
theorem zjw {R:Type}(op:List Int)(h:op.length<4611686018427387904):(bif (decide ((op.length:Int) > (0:Int))) then (need (0<=(i64.wrap ((op.length:Int) - (1:Int)))/\(i64.wrap ((op.length:Int) - (1:Int)))<(op.length:Int)) ((op[(i64.wrap ((op.length:Int) - (1:Int))).toNat]?).bind λy1=>some (.inl y1))) else (some (.inl (-1:Int))):Option (Int⊕R))=some (.inl (lst op)):=by
 by_cases h0:0<op.length
 ·have e:decide ((op.length:Int) > 0)=true:=by simp;omega
  obtain ⟨w1,w2,w3⟩:=zab h0 h;obtain ⟨x,x1,x2⟩:=z79 op h0;rw [e,cond_true,zl ⟨w2,w3⟩,w1,x2];unfold lst;rw [x1];rfl
 ·have:op=[]:=eq_nil_of_length_eq_zero (by omega);subst this;rfl
section
variable {n:Nat}{c:Xe}{i:Xd}{set:List Bool}{news:List (List Int)}{op:List Int}
theorem y5x (ho:op.length<4611686018427387904)(h:i.a_=34):f36 n (c.g_,c.c_,c.e_,c.d_,set,news,op,i)=some (!(decide (lst op>=0)||(op.length:Int)==64),c.g_,c.c_,c.e_,c.d_,set,news,op):=by rw [zfr];dsimp only;rw [zjw op ho,h];have e1:((34:Int)==34)=true:=rfl;have e2:((34:Int)==36)=false:=rfl;simp only [Option.bind_some,orRet_inl,e1,e2,cond_true,cond_false];cases decide (lst op>=0)<;>cases ((op.length:Int)==64)<;>rfl
theorem y5v (ho:op.length<=64)(h:i.a_=36):f36 n (c.g_,c.c_,c.e_,c.d_,set,news,op,i)=some (!(decide (lst op>=0)||(op.length:Int)==64),c.g_,c.c_,c.e_,c.d_,set,news,bif (decide (lst op>=0)||(op.length:Int)==64) then op else op++[i.N_]):=by rw [zfr];dsimp only;rw [zjw op (by omega),h];have e1:((36:Int)==34)=false:=rfl;have e2:((36:Int)==36)=true:=rfl;simp only [Option.bind_some,orRet_inl,e1,e2,cond_true,cond_false];rw [zl (by simp;omega)];cases decide (lst op>=0)<;>cases ((op.length:Int)==64)<;>rfl
theorem y5w (ho:op.length<=64)(h:i.a_=37):f36 n (c.g_,c.c_,c.e_,c.d_,set,news,op,i)=some (!(decide (lst op<0)),c.g_,c.c_,c.e_,c.d_,set,news,bif decide (lst op<0) then op else op.dropLast):=by
 rw [zfr];dsimp only;rw [zjw op (by omega),h];have e1:((37:Int)==34)=false:=rfl;have e2:((37:Int)==36)=false:=rfl;have e3:((37:Int)==35)=false:=rfl;have e4:((37:Int)==37)=true:=rfl;simp only [Option.bind_some,orRet_inl,e1,e2,e3,e4,cond_true,cond_false];cases hl:decide (lst op<0) with
 | true=>rfl
 | false =>
  have h0:0<op.length:=by cases op with | nil=>simp [lst] at hl | cons _ _=>simp
  obtain ⟨w1,w2,w3⟩:=zab h0 (by omega);rw [cond_false,zl ⟨w2,by omega⟩,w1,zl (by omega)];simp [dropLast_eq_take]
theorem y5u (ho:op.length<=64)(hf:z20 c i=true)(h1:i.a_≠34)(h2:i.a_≠35)(h3:i.a_≠36)(h4:i.a_≠37)(hD:onD i=true->∃ t,idx c.c_ i.D_=some t)(hA:onA i=true->∃ t,idx c.c_ i.A_=some t) :
  f36 n (c.g_,c.c_,c.e_,c.d_,set,news,op,i)=some ((bif decide (lst op<0) then true else zf3 c i (lst op)),c.g_,c.c_,c.e_,c.d_,set,news,op):=by
 rw [zfr];dsimp only;rw [zjw op (by omega)];have e1:(i.a_==34)=false:=by simpa using h1
 have e2:(i.a_==36)=false:=by simpa using h3
 have e3:(i.a_==35)=false:=by simpa using h2
 have e4:(i.a_==37)=false:=by simpa using h4
 simp only [Option.bind_some,orRet_inl,e1,e2,e3,e4,cond_true,cond_false,yda];cases hl:decide (lst op<0) with
 | true=>rfl
 | false =>
  simp only [cond_false]
  have hB:(bif z75 i.a_ then some (Sum.inl (true,lst op)) else bif i.a_==29 then some (.inl (true,lst op)) else bif i.a_==30 then some (.inl (true,lst op)) else some (.inl (i.a_==32,lst op)):Option (Bool×Int⊕(Bool×List Xa×List Xb×List Xc×List Xd×List Bool×List (List Int)×List Int)))=some (.inl (onD i,lst op)):=by unfold onD;cases z75 i.a_<;>cases i.a_==29<;>cases i.a_==30<;>rfl
  rw [hB,Option.bind_some,orRet_inl];dsimp only;unfold zf3;cases hd:onD i with
  | true =>obtain ⟨t,ht⟩:=hD hd;simp only [cond_true,zhe,ht,Option.bind_some]
  | false =>
   simp only [cond_false]
   have hB2:(bif i.a_==31 then some (Sum.inl (true,lst op)) else some (.inl (i.a_==33,lst op)):Option (Bool×Int⊕(Bool×List Xa×List Xb×List Xc×List Xd×List Bool×List (List Int)×List Int)))=some (.inl (onA i,lst op)):=by unfold onA;cases i.a_==31<;>rfl
   rw [hB2,Option.bind_some,orRet_inl];dsimp only;cases ha:onA i with
   | true =>obtain ⟨t,ht⟩:=hA ha;simp only [cond_true,zhe,ht,Option.bind_some]
   | false=>rfl
theorem zqz (set:List Bool)(l:List Int):(z9o set l).length=set.length:=by
 unfold z9o
 induction l generalizing set with | nil=>rfl | cons x l ih=>simp only [foldl_cons];rw [ih];simp
theorem yb2 {m:Nat}{nl:List Int}(ho:op.length<=64)(h:i.a_=35)(hn:0<op.length->lst op<0->news.getLast? = some nl/\news.length<4611686018427387904/\nl.length<m+4/\nl.length<4611686018427387904/\∀ r∈nl,0<=r/\r<set.length) :
  f36 (m+4) (c.g_,c.c_,c.e_,c.d_,set,news,op,i)=some (!((op.length:Int)==0||decide (lst op>=0)),c.g_,c.c_,c.e_,c.d_,bif ((op.length:Int)==0||decide (lst op>=0)) then (set,news,op) else (z9o set nl,news.dropLast,op.dropLast)):=by
 rw [zfr];dsimp only;rw [zjw op (by omega),h];have e1:((35:Int)==34)=false:=rfl;have e2:((35:Int)==36)=false:=rfl;have e3:((35:Int)==35)=true:=rfl;simp only [Option.bind_some,orRet_inl,e1,e2,e3,cond_true,cond_false]
 have hB:(bif ((op.length:Int)==0) then some (Sum.inl true) else some (.inl (decide (lst op>=0))):Option (Bool⊕(Bool×List Xa×List Xb×List Xc×List Xd×List Bool×List (List Int)×List Int)))=some (.inl ((op.length:Int)==0||decide (lst op>=0))):=by cases (op.length:Int)==0<;>rfl
 rw [hB,Option.bind_some,orRet_inl];cases hq:((op.length:Int)==0||decide (lst op>=0)) with
 | true=>rfl
 | false =>
  simp only [or_eq_false_iff,beq_eq_false_iff_ne,ne_eq,decide_eq_false_iff_not] at hq;have h0:0<op.length:=by omega
  obtain ⟨n1,n2,n3,n4,n5⟩:=hn h0 (by omega)
  have hnl:0<news.length:=by cases news with | nil=>simp at n1 | cons _ _=>simp
  obtain ⟨w1,w2,w3⟩:=zab h0 (by omega);obtain ⟨v1,v2,v3⟩:=zab hnl n2;have hg:news[news.length - 1]?=some nl:=by rw [<- List.getLast?_eq_getElem?];exact n1
  simp only [cond_false];rw [zl ⟨v2,v3⟩,v1,hg];simp only [Option.bind_some]
  have hit:zk (zok (m+4) (c.g_,c.c_,c.e_,c.d_,set,news,op,i) (nl.length:Int)) (m+4) (0,set)=some (.out ((nl.length:Int),z9o set nl)):=by
   refine y3l (F:=λ(s:List Bool) (r:Int)=>s.set r.toNat false) (Inv:=λ(s:List Bool)=>s.length=set.length) (λk s hk hs=>?_) (λs hs=>?_) n3 rfl
   ·obtain ⟨r0,r1⟩:=n5 _ (getElem_mem hk);obtain ⟨b,hb⟩:=zd1 (l:=s) r0 (by omega);rw [zly];have e1:decide ((k:Int)<(nl.length:Int))=true:=by simp;omega
    have e2:nl[(k:Int).toNat]?=some nl[k]:=by simp [hk]
    dsimp only;rw [e1,v1,hg];simp only [cond_true,Option.bind_some];rw [zl (by omega),e2];simp only [Option.bind_some];rw [zl ⟨r0,by omega⟩,hb,z22 (by omega)];exact ⟨rfl,by simpa using hs⟩
   ·rw [zly];simp
  rw [hit];simp only [Option.bind_some,Bo.then];rw [zl ⟨v2,by omega⟩,zl (by omega),zl ⟨w2,by omega⟩,w1,zl (by omega)];simp [dropLast_eq_take]
end
def zae (news:List (List Int))(d:Int):List (List Int):=match news.getLast? with | some l=>news.set (news.length - 1) (l++[d]) | none=>news
section
variable {n:Nat}{c:Xe}{i:Xd}{set:List Bool}{news:List (List Int)}{op:List Int}
theorem y5y {m:Nat}(h:i.a_=34)(hr:∀ y∈z12 i,0<=y/\y<set.length)(ho:op.length<=64)(hn:news.length<=64) :
  f37 (m+4) (c.g_,c.c_,c.e_,c.d_,set,news,op,i)=some (z2j set i,c.g_,c.c_,c.e_,c.d_,set,bif z2j set i then news++[[]] else news,bif z2j set i then op++[-1] else op):=by
 rw [zya];dsimp only;rw [zwe];simp only [Option.bind_some];rw [zom hr];cases z2j set i with
 | false=>rfl
 | true =>
  have e1:((34:Int)==34)=true:=rfl
  have hs:zx i=false:=by unfold zx;rw [h];rfl
  simp only [cond_true,Option.bind_some,Bo.then,h,e1];rw [zl (by simp;omega),zl (by simp;omega)];simp only [Option.bind_some,orRet_inl,zj9,hs,cond_false]
theorem zdw {m:Nat}(h:i.a_≠34)(hr:∀ y∈z12 i,0<=y/\y<set.length)(hD:zx i=true->0<=i.D_/\i.D_<set.length)(hn:news.length<=64)(hnl:∀ l∈news,l.length<1000000) :
  f37 (m+4) (c.g_,c.c_,c.e_,c.d_,set,news,op,i)=some (z2j set i,c.g_,c.c_,c.e_,c.d_,bif z2j set i&&(zx i&&!((set[i.D_.toNat]?).getD false)) then (set.set i.D_.toNat true,zae news i.D_,op) else (set,news,op)):=by
 rw [zya];dsimp only;rw [zwe];simp only [Option.bind_some];rw [zom hr];cases z2j set i with
 | false=>rfl
 | true =>
  have e1:(i.a_==34)=false:=by simpa using h
  simp only [cond_true,Option.bind_some,Bo.then,e1,cond_false,orRet_inl,zj9];cases hs:zx i with
  | false=>rfl
  | true =>
   obtain ⟨d0,d1⟩:=hD hs;obtain ⟨b,hb⟩:=zd1 d0 d1;simp only [cond_true];rw [zl ⟨d0,d1⟩,hb];simp only [Option.bind_some,orRet_inl,getD_some];cases b with
   | true=>rfl
   | false =>
    simp only [Bool.not_false,cond_true,Bool.and_self];rw [zl ⟨d0,d1⟩];by_cases h0:0<news.length
    ·obtain ⟨w1,w2,w3⟩:=zab h0 (by omega);obtain ⟨l,l1,l2⟩:=z79 news h0;have e2:decide (i64.wrap ((news.length:Int) - 1)>=0)=true:=by simpa using w2
     have hl:l.length<1000000:=hnl l (List.mem_of_getLast? l1);rw [e2,cond_true,zl ⟨w2,w3⟩,w1,l2];simp only [Option.bind_some];rw [zl (by simp;omega),zl ⟨w2,w3⟩,zl (p:=True/\news.length - 1<news.length) ⟨trivial,by omega⟩];unfold zae;rw [l1]
    ·have:news=[]:=eq_nil_of_length_eq_zero (by omega);subst this;rfl
end
def z6p (c:Xe)(i:Xd):Int:=match idx c.c_ (bif onD i then i.D_ else bif onA i then i.A_ else -1) with | some t=>bif t.j_==3 then t.o_ else -1 | none=>-1
theorem yeo {n:Nat}{c:Xe}{i:Xd}:f60 n (c,i)=some (z6p c i):=by
 rw [yen];simp only [ydc,Option.bind_some]
 have hB:((bif z75 i.a_ then some (Sum.inl true) else bif i.a_==29 then some (.inl true) else bif i.a_==30 then some (.inl true) else some (.inl (i.a_==32)):Option (Bool⊕(Int⊕Int))).bind (zq λs1=>bif s1 then some (Sum.inl i.D_) else (bif i.a_==31 then some (Sum.inl true) else some (.inl (i.a_==33)):Option (Bool⊕(Int⊕Int))).bind (zq λs2=>bif s2 then some (Sum.inl i.A_) else some (.inl (-1:Int)))))
   = some (.inl (bif onD i then i.D_ else bif onA i then i.A_ else -1)):=by
  unfold onD onA;cases z75 i.a_<;>cases i.a_==29<;>cases i.a_==30<;>cases i.a_==32<;>cases i.a_==31<;>cases i.a_==33<;>rfl
 rw [hB,Option.bind_some,orRet_inl];unfold z6p;generalize (bif onD i then i.D_ else bif onA i then i.A_ else -1)=k;by_cases h0:k<0
 ·rw [z2s (.inl h0)];simp [h0]
 ·by_cases h1:k>=c.c_.length
  ·rw [z2s (.inr h1)];simp [h0,h1]
  ·obtain ⟨t,ht,_⟩:=z8k (l:=c.c_) (n:=k) (by omega) (by omega);have e1:decide (k<0)=false:=by simpa using h0
   have e2:decide (k>=(c.c_.length:Int))=false:=by simp;omega
   have e3:(t.j_ != 3) = !(t.j_==3):=rfl;simp only [e1,e2,ht,cond_false,Option.bind_some,orRet_inl,e3];cases t.j_==3<;>rfl
theorem yll {c:Xe}{i:Xd}{p:Int}(hp:0<=p):(z6p c i != p) = !(zf3 c i p):=by
 have key:∀ k:Int,((match idx c.c_ k with | some t=>bif t.j_==3 then t.o_ else -1 | none=>-1) != p) = !(zhe c k p):=λk=>by
  unfold zhe;have e:((-1:Int) != p)=true:=by simp;omega
  cases idx c.c_ k with
  | none=>exact e
  | some t =>simp only;cases t.j_==3 with | false=>exact e | true=>simp [bne]
 have e:((-1:Int) != p)=true:=by simp;omega
 unfold z6p zf3;cases onD i with
 | true=>exact key _
 | false =>
  simp only [cond_false];cases onA i with
  | true=>exact key _
  | false =>simp only [cond_false,Bool.not_false];rw [z2s (.inl (by decide))];exact e
def z1i (o:List Xh):Bool:=match o.getLast? with | some x=>x.a_==36 | none=>false
def z60 (o:List Xh):Int:=match o.getLast? with | some x=>x.o_ | none=>0
def z5j (i:Xd)(o:List Xh):Bool :=
 bif i.a_==34||i.a_==36 then decide ((o.length:Int)<64) else bif i.a_==35 then (decide ((o.length:Int) > 0)&&!(z1i o)) else bif i.a_==37 then z1i o else true
def z1g (c:Xe)(i:Xd)(set:List Bool)(o:List Xh):Bool :=
 z20 c i&&(!(z1i o&&(!(i.a_==37)&&z6p c i != z60 o))&&(z2j set i&&z5j i o))
theorem ye3 {m:Nat}{c:Xe}{i:Xd}{set:List Bool}{o:List Xh}(hr:∀ t∈c.c_,z36 c.g_ t=true)(h0:0<=i.m_)(h1:i.m_<4294967296)
  (hs:set.length=c.c_.length) (ho:o.length<4611686018427387904):f41 (m+4) (c,i,set,o)=some (z1g c i set o):=by
 rw [ye2]
 have hL:(bif (decide ((o.length:Int) > (0:Int))) then ((idx o (i64.wrap ((o.length:Int) - (1:Int)))).bind λy1=>some (Sum.inl (y1.a_==36))) else (some (.inl false)):Option (Bool⊕Bool))=some (.inl (z1i o)):=by
  by_cases q:0<o.length
  ·have e:decide ((o.length:Int) > 0)=true:=by simp;omega
   obtain ⟨w1,w2,w3⟩:=zab q ho;obtain ⟨x,x1,x2⟩:=z79 o q;have e2:idx o (i64.wrap ((o.length:Int) - 1))=some x:=by unfold idx;rw [if_pos w2,w1,x2]
   rw [e,e2];unfold z1i;rw [x1];rfl
  ·have:o=[]:=eq_nil_of_length_eq_zero (by omega);subst this;rfl
 have hP:z1i o=true->idx o (i64.wrap ((o.length:Int) - 1))=o.getLast?:=λhl=>by
  have q:0<o.length:=by cases o with | nil=>cases hl | cons _ _=>simp
  obtain ⟨w1,w2,w3⟩:=zab q ho;obtain ⟨x,x1,x2⟩:=z79 o q;unfold idx;rw [if_pos w2,w1,x2,x1]
 dsimp only;rw [hL,Option.bind_some,orRet_inl];simp only [yem hr h0 h1,yeo,Option.bind_some];unfold z1g;cases hf:z20 c i with
 | false=>rfl
 | true =>
  have hB:(bif z1i o then (bif i.a_ != 37 then ((idx o (i64.wrap ((o.length:Int) - 1))).bind λy4=>some (Sum.inl (z1i o,z6p c i != y4.o_))) else some (.inl (z1i o,false))) else some (.inl (z1i o,false)):Option (Bool×Bool⊕Bool))=some (.inl (z1i o,z1i o&&(!(i.a_==37)&&z6p c i != z60 o))):=by
   have e1:(i.a_ != 37) = !(i.a_==37):=rfl;rw [e1];cases hl:z1i o with
   | false=>rfl
   | true =>
    rw [hP hl];cases i.a_==37 with
    | true=>rfl
    | false =>unfold z60;cases hg:o.getLast? with | none=>unfold z1i at hl;rw [hg] at hl;cases hl | some x=>rfl
  simp only [Bool.not_true,cond_false];rw [hB,Option.bind_some,orRet_inl];dsimp only;cases hb:(z1i o&&(!(i.a_==37)&&z6p c i != z60 o)) with
  | true=>rfl
  | false =>
   simp only [cond_false,yd6,Option.bind_some,Bool.not_false,Bool.true_and];rw [y5z (λy hy=>by rw [hs];exact zqf hf y hy)];cases z2j set i with
   | false=>rfl
   | true =>simp only [cond_true,Option.bind_some,Bo.then,Bool.true_and];unfold z5j;cases i.a_==34<;>cases i.a_==36<;>cases i.a_==35<;>cases i.a_==37<;>cases decide ((o.length:Int) > 0)<;>rfl
def code (o:Xh):Int:=bif o.a_==36 then o.o_ else -1
def z51 (o:Xh):Bool:=o.a_==34
def zbl (N:Nat):List Bool->List (List Int)->List Xh->Prop
 | _,[],[]=>True
 | set,l::ls,w::ws=>z9o set l=w.G_/\l.length<=N/\(∀ r∈l,0<=r/\r<set.length)/\zbl N w.G_ ls ws
 | _,_,_=>False
structure Two (c:Xe) (N:Nat) (set:List Bool) (news:List (List Int)) (op:List Int) (o:List Xh):Prop where
 len:set.length=c.c_.length
 op:op=o.map code
 le:o.length<=64
 ok:∀ x∈o,x.a_=34\/(x.a_=36/\0<=x.o_)
 ch:zbl N set news.reverse (o.filter z51).reverse
theorem yc3 {i:Xd}{r:z4u}(h:z4s i.a_=some r)(hd:onD i=true):(r.d==0)=false:=by
 obtain ⟨op,d,a,b,c,N,bits⟩:=i;dsimp only at h;rcases z5i op with (rfl | rfl | rfl | rfl | rfl | rfl | rfl | rfl | rfl | rfl | rfl | rfl | rfl | rfl | rfl | rfl | rfl | rfl | rfl | rfl | rfl | rfl | rfl | rfl | rfl | rfl | rfl | rfl | rfl | rfl | rfl | rfl | rfl | rfl | rfl | rfl | rfl) | h0
 iterate 37 (· first | (cases h;rfl) | (exact absurd hd (by decide)) | (cases h;revert hd;simp [onD,z75]))
 rw [z4k h0] at h;cases h
theorem yc1 {i:Xd}{r:z4u}(h:z4s i.a_=some r)(hd:onA i=true):(r.a==0)=false:=by
 obtain ⟨op,d,a,b,c,N,bits⟩:=i;dsimp only at h;rcases z5i op with (rfl | rfl | rfl | rfl | rfl | rfl | rfl | rfl | rfl | rfl | rfl | rfl | rfl | rfl | rfl | rfl | rfl | rfl | rfl | rfl | rfl | rfl | rfl | rfl | rfl | rfl | rfl | rfl | rfl | rfl | rfl | rfl | rfl | rfl | rfl | rfl | rfl) | h0
 iterate 37 (· first | (cases h;rfl) | (exact absurd hd (by decide)) | (cases h;revert hd;simp [onA]))
 rw [z4k h0] at h;cases h
theorem yc2 {c:Xe}{i:Xd}(h:z20 c i=true)(hd:onD i=true):∃ t,idx c.c_ i.D_=some t:=by obtain ⟨r,hr,h1,_⟩:=ze2 h;exact z65 h1 (yc3 hr hd)
theorem yc0 {c:Xe}{i:Xd}(h:z20 c i=true)(hd:onA i=true):∃ t,idx c.c_ i.A_=some t:=by obtain ⟨r,hr,_,h1,_⟩:=ze2 h;exact z65 h1 (yc1 hr hd)
section
variable {c:Xe}{N:Nat}{set:List Bool}{news:List (List Int)}{op:List Int}{o:List Xh}{i:Xd}
theorem Two.lst (h:Two c N set news op o):lst op=(match o.getLast? with | some x=>code x | none=>-1):=by unfold Loom.lst;rw [h.op,List.getLast?_map];cases o.getLast?<;>rfl
theorem Two.loop (h:Two c N set news op o):decide (Loom.lst op>=0)=z1i o/\(z1i o=true->Loom.lst op=z60 o/\0<=z60 o):=by
 rw [h.lst];unfold z1i z60;cases hg:o.getLast? with
 | none=>exact ⟨by decide,λh=>by cases h⟩
 | some x =>
  have hx:=h.ok x (List.mem_of_getLast? hg);rcases hx with hx | ⟨hx,hp⟩
  ·have e:code x = -1:=by unfold code;rw [hx];rfl
   have e2:(x.a_==36)=false:=by rw [hx];rfl
   simp only [e,e2];exact ⟨by decide,λh=>by cases h⟩
  ·have e:code x=x.o_:=by unfold code;rw [hx];rfl
   have e2:(x.a_==36)=true:=by rw [hx];rfl
   simp only [e,e2];exact ⟨by simpa using hp,λ_=>⟨by trivial,hp⟩⟩
theorem ya2 (x:Int):decide (x<0) = !(decide (x>=0)):=by
 by_cases h:x<0
 ·have:¬ x>=0:=by omega
  simp [h]
 ·have:x>=0:=by omega
  simp [h,this]
theorem z4b {N M:Nat}(hNM:N<=M):∀ (set:List Bool) (ls:List (List Int)) (ws:List Xh),zbl N set ls ws->zbl M set ls ws
 | _,[],[],_=>trivial
 | set,l::ls,w::ws,h=>⟨h.1,Nat.le_trans h.2.1 hNM,h.2.2.1,z4b hNM _ ls ws h.2.2.2⟩
 | _,[],_::_,h=>h.elim
 | _,_::_,[],h=>h.elim
theorem zlq {N:Nat}:∀ (set:List Bool) (ls:List (List Int)) (ws:List Xh),zbl N set ls ws->ls.length=ws.length
 | _,[],[],_=>rfl
 | set,l::ls,w::ws,h=>by simp [zlq _ ls ws h.2.2.2]
 | _,[],_::_,h=>h.elim
 | _,_::_,[],h=>h.elim
theorem zo1 {N:Nat}:∀ (set:List Bool) (ls:List (List Int)) (ws:List Xh),zbl N set ls ws->∀ l∈ls,l.length<=N
 | _,[],[],_,l,hl=>by cases hl
 | set,l::ls,w::ws,h,x,hx=>by
  rcases List.mem_cons.1 hx with rfl | hx
  ·exact h.2.1
  ·exact zo1 _ ls ws h.2.2.2 x hx
 | _,[],_::_,h,_,_=>h.elim
 | _,_::_,[],h,_,_=>h.elim
theorem Two.newsOk (h:Two c N set news op o):news.length<=64/\∀ l∈news,l.length<=N:=by have h1:=zlq _ _ _ h.ch;simp only [List.length_reverse] at h1;have h2:=List.length_filter_le z51 o;have:=h.le;exact ⟨by omega,λl hl=>zo1 _ _ _ h.ch l (by simpa using hl)⟩
def zg4 (c:Xe)(i:Xd)(op:List Int):Bool :=
 bif i.a_==34||i.a_==36 then !(decide (Loom.lst op>=0)||(op.length:Int)==64) else bif i.a_==35 then !((op.length:Int)==0||decide (Loom.lst op>=0)) else bif i.a_==37 then !(decide (Loom.lst op<0)) else
  bif decide (Loom.lst op<0) then true else zf3 c i (Loom.lst op)
theorem zv4 {k:Int}(h:i.a_=k)(hk:k=34\/k=35\/k=36):z6p c i = -1:=by
 unfold z6p onD onA z75;rw [h];rcases hk with rfl | rfl | rfl
 all_goals
  show (match idx c.c_ (-1) with | some t=>bif t.j_==3 then t.o_ else -1 | none=>-1)=_;rw [z2s (.inl (by decide))]
theorem Two.place (h:Two c N set news op o):zg4 c i op=(!(z1i o&&(!(i.a_==37)&&z6p c i != z60 o))&&z5j i o):=by
 obtain ⟨h1,h2⟩:=h.loop;have hlen:op.length=o.length:=by rw [h.op];simp
 have hle:=h.le;unfold zg4 z5j;rw [ya2,h1,hlen];by_cases q4:i.a_=34\/i.a_=36
 ·have e1:(i.a_==34||i.a_==36)=true:=by rcases q4 with q | q<;>rw [q]<;>rfl
  have e2:(i.a_==37)=false:=by rcases q4 with q | q<;>rw [q]<;>rfl
  have e3:z6p c i = -1:=by rcases q4 with q | q<;>exact zv4 q (by simp)
  have e4:((o.length:Int)==64) = !(decide ((o.length:Int)<64)):=by
   by_cases q:o.length<64
   ·have:¬ (o.length:Int)=64:=by omega
    have q':(o.length:Int)<64:=by omega
    simp [this,q']
   ·have:(o.length:Int)=64:=by omega
    simp [this]
  rw [e1,e2,e3,e4];simp only [cond_true];cases hl:z1i o with
  | false=>simp
  | true =>
   have:=(h2 hl).2;have e5:((-1:Int) != z60 o)=true:=by simp;omega
   rw [e5];simp
 ·have e1:(i.a_==34||i.a_==36)=false:=by have a1:¬ i.a_=34:=λq=>q4 (.inl q);have a2:¬ i.a_=36:=λq=>q4 (.inr q);simp [a1,a2]
  rw [e1];simp only [cond_false];by_cases q5:i.a_=35
  ·have e2:(i.a_==35)=true:=by rw [q5];rfl
   have e3:(i.a_==37)=false:=by rw [q5];rfl
   have e4:z6p c i = -1:=zv4 q5 (by simp)
   have e6:((o.length:Int)==0) = !(decide ((o.length:Int) > 0)):=by
    by_cases q:0<o.length
    ·have a1:((o.length:Int)==0)=false:=by simp only [beq_eq_false_iff_ne,ne_eq];omega
     have a2:decide ((o.length:Int) > 0)=true:=by simp only [decide_eq_true_eq];omega
     rw [a1,a2];rfl
    ·have:(o.length:Int)=0:=by omega
     simp [this]
   rw [e2,e3,e4,e6];simp only [cond_true];cases hl:z1i o with
   | false=>simp
   | true =>
    have:=(h2 hl).2;have e5:((-1:Int) != z60 o)=true:=by simp;omega
    rw [e5];simp
  ·have e2:(i.a_==35)=false:=by simpa using q5
   rw [e2];simp only [cond_false];cases i.a_==37 with
   | true =>simp only [cond_true];cases z1i o<;>rfl
   | false =>
    simp only [cond_false];cases hl:z1i o with
    | false=>rfl
    | true =>obtain ⟨p1,p2⟩:=h2 hl;rw [p1,yll p2];cases zf3 c i (z60 o)<;>rfl
end
def zc1 (i:Xd)(set:List Bool)(news:List (List Int))(op:List Int):List Bool×List (List Int)×List Int :=
 bif i.a_==34 then (set,news++[[]],op++[-1]) else bif i.a_==36 then (set,news,op++[i.N_]) else
 bif i.a_==35 then (z9o set (news.getLast?.getD []),news.dropLast,op.dropLast) else bif i.a_==37 then (set,news,op.dropLast) else
 bif zx i&&!((set[i.D_.toNat]?).getD false) then (set.set i.D_.toNat true,zae news i.D_,op) else (set,news,op)
def okI (c:Xe)(i:Xd)(set:List Bool)(op:List Int):Bool:=z20 c i&&(zg4 c i op&&z2j set i)
section
variable {c:Xe}{N:Nat}{set:List Bool}{news:List (List Int)}{op:List Int}{o:List Xh}{i:Xd}
theorem zie {k:Int}(h:i.a_=k)(hk:k=35\/k=36\/k=37):z12 i=[]/\zx i=false:=by unfold z12 zx;rw [h];rcases hk with rfl | rfl | rfl<;>exact ⟨rfl,rfl⟩
theorem Two.last (h:Two c N set news op o)(h0:0<op.length)(h1:Loom.lst op<0):∃ l w,news.getLast? = some l/\o.getLast? = some w/\w.a_=34/\z9o set l=w.G_/\l.length<=N/\(∀ r∈l,0<=r/\r<set.length)/\zbl N w.G_ news.dropLast.reverse (o.dropLast.filter z51).reverse:=by
 have hlen:op.length=o.length:=by rw [h.op];simp
 obtain ⟨w,w1,w2⟩:=z79 o (by omega)
 have hw:w.a_=34:=by
  rcases h.ok w (List.mem_of_getLast? w1) with q | ⟨q,p⟩
  ·exact q
  ·rw [h.lst,w1] at h1;simp only [code,q] at h1;have:(bif ((36:Int)==36) then w.o_ else -1)=w.o_:=rfl;omega
 have ho:o=o.dropLast++[w]:=by
  have hne:o≠[]:=λe=>by rw [e] at w1;cases w1
  have:=List.dropLast_concat_getLast hne;rw [List.getLast?_eq_some_getLast hne] at w1;rw [<- Option.some.inj w1];exact this.symm
 have hc:=h.ch;rw [ho,filter_append] at hc;have e:[w].filter z51=[w]:=by simp [z51,hw]
 rw [e,List.reverse_append,List.reverse_singleton,List.singleton_append] at hc;cases hn:news.reverse with
 | nil=>rw [hn] at hc;exact hc.elim
 | cons l ls =>
  rw [hn] at hc
  have hnews:news=ls.reverse++[l]:=by have:=congrArg reverse hn;simpa using this
  refine ⟨l,w,by rw [hnews];simp,w1,hw,hc.1,hc.2.1,hc.2.2.1,?_⟩;have:news.dropLast=ls.reverse:=by rw [hnews];simp
  rw [this,List.reverse_reverse];exact hc.2.2.2
theorem y5h {m k:Nat}{x:Xe}{v:List Xd×Int×List Xa×List Xb×List Xc}(h:Two c N set news op o)(hN:N<1000000)(hm:N<m)(hr:∀ t∈c.c_,z36 c.g_ t=true)(h0:0<=i.m_)(h1:i.m_<4294967296)
  (hk:k<1000000) (hv:decide ((k:Int)<v.2.1)=true) (hi:idx v.1 (k:Int)=some i) :
  zfo (m+5) x v ((k:Int),c.g_,c.c_,c.e_,c.d_,set,news,op)=some (bif okI c i set op then .go (((k+1:Nat):Int),c.g_,c.c_,c.e_,c.d_,zc1 i set news op) else .ret (k:Int)):=by
 rw [zls];dsimp only;rw [hv,hi];simp only [cond_true,Option.bind_some];rw [ydw m hr h0 h1];unfold okI;cases hf:z20 c i with
 | false=>rfl
 | true =>
  have hle:op.length<=64:=by rw [h.op];simpa using h.le
  obtain ⟨n1,n2⟩:=h.newsOk;have hrd:∀ y∈z12 i,0<=y/\y<set.length:=λy hy=>by rw [h.len];exact zqf hf y hy
  have hD:zx i=true->0<=i.D_/\i.D_<set.length:=λhs=>by rw [h.len];exact zlg hf hs
  simp only [Option.bind_some,Bool.not_true,cond_false,Bool.true_and];unfold zg4 zc1;by_cases q34:i.a_=34
  ·have e1:(i.a_==34)=true:=by simpa using q34
   rw [y5x (n:=m+5) (by omega) q34];simp only [e1,Bool.true_or,cond_true,Option.bind_some];cases hp:(decide (Loom.lst op>=0)||(op.length:Int)==64) with
   | true=>rfl
   | false =>
    simp only [Bool.not_false,Bool.not_true,cond_false,Bool.true_and];rw [y5y (m:=m+1) q34 hrd hle n1];cases z2j set i with
    | false=>rfl
    | true =>simp only [Option.bind_some,orRet_inl,Bool.not_true,cond_false,cond_true,z22 (show k<4611686018427387904 by omega)]
  ·have e1:(i.a_==34)=false:=by simpa using q34
   by_cases q36:i.a_=36
   ·have e2:(i.a_==36)=true:=by simpa using q36
    obtain ⟨r1,r2⟩:=zie q36 (by simp);have r3:z2j set i=true:=by unfold z2j;rw [r1];rfl
    rw [y5v (n:=m+5) hle q36];simp only [e1,e2,Bool.false_or,cond_true,cond_false,Option.bind_some];cases hp:(decide (Loom.lst op>=0)||(op.length:Int)==64) with
    | true=>rfl
    | false =>simp only [Bool.not_false,Bool.not_true,cond_false,Bool.true_and];rw [zdw (m:=m+1) q34 hrd hD n1 (λl hl=>by have:=n2 l hl;omega)];simp only [r2,r3,Bool.false_and,Bool.and_false,Option.bind_some,orRet_inl,Bool.not_true,cond_false,cond_true,z22 (show k<4611686018427387904 by omega)]
   ·have e2:(i.a_==36)=false:=by simpa using q36
    by_cases q35:i.a_=35
    ·have e3:(i.a_==35)=true:=by simpa using q35
     obtain ⟨r1,r2⟩:=zie q35 (by simp)
     rw [yb2 (m:=m+1) (nl:=news.getLast?.getD []) hle q35 (λz1 z2=>by obtain ⟨l,w,a1,a2,a3,a4,a5,a6,a7⟩:=h.last z1 z2;rw [a1];exact ⟨rfl,by omega,by simp only [getD_some];omega,by simp only [getD_some];omega,a6⟩)]
     simp only [e1,e2,e3,Bool.false_or,cond_true,cond_false,Option.bind_some];cases hp:((op.length:Int)==0||decide (Loom.lst op>=0)) with
     | true=>rfl
     | false =>
      have r3:z2j set i=true:=by unfold z2j;rw [r1];rfl
      simp only [Bool.not_false,Bool.not_true,cond_false,Bool.true_and,r3]
      rw [zdw (m:=m+1) q34 (λy hy=>by rw [r1] at hy;cases hy) (λhs=>by rw [r2] at hs;cases hs) (by simp;omega) (λl hl=>by have:=n2 l ((List.dropLast_sublist _).subset hl);omega)]
      have r4:z2j (z9o set (news.getLast?.getD [])) i=true:=by unfold z2j;rw [r1];rfl
      simp only [r2,r4,Bool.false_and,Bool.and_false,Option.bind_some,orRet_inl,Bool.not_true,cond_false,cond_true,z22 (show k<4611686018427387904 by omega)]
    ·have e3:(i.a_==35)=false:=by simpa using q35
     by_cases q37:i.a_=37
     ·have e4:(i.a_==37)=true:=by simpa using q37
      obtain ⟨r1,r2⟩:=zie q37 (by simp);have r3:z2j set i=true:=by unfold z2j;rw [r1];rfl
      rw [y5w (n:=m+5) hle q37];simp only [e1,e2,e3,e4,Bool.false_or,cond_true,cond_false,Option.bind_some];cases hp:decide (Loom.lst op<0) with
      | true=>rfl
      | false =>simp only [Bool.not_false,Bool.not_true,cond_false,Bool.true_and];rw [zdw (m:=m+1) q34 hrd hD n1 (λl hl=>by have:=n2 l hl;omega)];simp only [r2,r3,Bool.false_and,Bool.and_false,Option.bind_some,orRet_inl,Bool.not_true,cond_false,cond_true,z22 (show k<4611686018427387904 by omega)]
     ·have e4:(i.a_==37)=false:=by simpa using q37
      rw [y5u (n:=m+5) hle hf q34 q35 q36 q37 (yc2 hf) (yc0 hf)];simp only [e1,e2,e3,e4,Bool.false_or,cond_true,cond_false,Option.bind_some];cases hp:(bif decide (Loom.lst op<0) then true else zf3 c i (Loom.lst op)) with
      | false=>rfl
      | true =>
       simp only [Bool.not_false,Bool.not_true,cond_false,Bool.true_and];rw [zdw (m:=m+1) q34 hrd hD n1 (λl hl=>by have:=n2 l hl;omega)];cases z2j set i with
       | false=>rfl
       | true =>simp only [Bool.true_and,Option.bind_some,orRet_inl,Bool.not_true,cond_false,cond_true,z22 (show k<4611686018427387904 by omega)]
end
def z1x (i:Xd)(set:List Bool)(o:List Xh):List Bool×List Xh :=
 bif i.a_==34||i.a_==36 then (set,o++[⟨i.a_,i.N_,set⟩]) else bif i.a_==35 then ((o.getLast?.getD ⟨0,0,[]⟩).G_,o.dropLast) else bif i.a_==37 then (set,o.dropLast) else
  bif zx i then (set.set i.D_.toNat true,o) else (set,o)
theorem zyc {n:Nat}{s:List Bool}(h:s.length<=140737488355328):f42 n s=some s:=by rw [ye4,zl (by omega)]
section
variable {c:Xe}{N:Nat}{set:List Bool}{news:List (List Int)}{op:List Int}{o:List Xh}{i:Xd}
theorem y5j {m k:Nat}(h:Two c N set news op o)(hr:∀ t∈c.c_,z36 c.g_ t=true)(hR:c.c_.length<=1000000)(h0:0<=i.m_)(h1:i.m_<4294967296)
  (hk:k<1000000) (hv:k<c.d_.length) (hi:idx c.d_ (k:Int)=some i) :
  zfp (m+4) c () ((k:Int),set,o)=some (bif z1g c i set o then .go (((k+1:Nat):Int),z1x i set o) else .ret (k:Int)):=by
 have hle:=h.le;have hlen:=h.len;rw [zlw];have e1:decide ((k:Int)<(c.d_.length:Int))=true:=by simp;omega
 dsimp only;rw [e1,hi];simp only [cond_true,Option.bind_some];rw [ye3 hr h0 h1 hlen (by omega)];have w:i64.wrap ((k:Int)+1)=((k+1:Nat):Int):=z22 (by omega);cases hs:z1g c i set o with
 | false=>rfl
 | true =>
  simp only [Option.bind_some,Bool.not_true,cond_false,cond_true];have hs':=hs;unfold z1g at hs';simp only [and_eq_true] at hs';obtain ⟨hf,hv1,hrd,hp⟩:=hs';unfold z1x
  have hB:(bif i.a_==34 then some (Sum.inl (true,i.a_,i.D_,i.A_,i.B_,i.C_,i.N_,i.m_)) else some (.inl (i.a_==36,i.a_,i.D_,i.A_,i.B_,i.C_,i.N_,i.m_)):Option (Bool×Int×Int×Int×Int×Int×Int×Int⊕Bo (Int×List Bool×List Xh) (Int×List Bool×List Xh) Int))
    = some (.inl (i.a_==34||i.a_==36,i.a_,i.D_,i.A_,i.B_,i.C_,i.N_,i.m_)):=by
   cases i.a_==34<;>rfl
  rw [hB,Option.bind_some,orRet_inl];dsimp only;cases q1:(i.a_==34||i.a_==36) with
  | true =>simp only [cond_true];rw [zyc (by omega)];simp only [Option.bind_some];rw [zl (by simp;omega),w]
  | false =>
   simp only [cond_false];unfold z5j at hp;rw [q1] at hp;simp only [cond_false] at hp;cases q2:i.a_==35 with
   | true =>
    rw [q2] at hp;simp only [cond_true,and_eq_true,decide_eq_true_eq] at hp;have hpos:0<o.length:=by omega
    obtain ⟨w1,w2,w3⟩:=zab hpos (by omega);obtain ⟨x,x1,x2⟩:=z79 o hpos;simp only [cond_true];rw [zl ⟨w2,w3⟩,w1,x2,x1];simp only [Option.bind_some,getD_some]
    have hx:x.G_.length<=140737488355328:=by
     have hl0:Loom.lst op<0:=by have:=h.loop.1;rw [<- this] at hp;simp at hp;omega
     obtain ⟨l,wv,a1,a2,a3,a4,_⟩:=h.last (by rw [h.op];simpa using hpos) hl0;rw [x1] at a2;cases a2;rw [<- a4,zqz];omega
    rw [zyc hx];simp only [Option.bind_some];rw [zl ⟨w2,by omega⟩,zl (by omega),w];simp [dropLast_eq_take]
   | false =>
    rw [q2] at hp;simp only [cond_false] at hp ⊢;cases q3:i.a_==37 with
    | true =>
     rw [q3] at hp;simp only [cond_true] at hp ⊢
     have hpos:0<o.length:=by cases o with | nil=>cases hp | cons _ _=>simp
     obtain ⟨w1,w2,w3⟩:=zab hpos (by omega);rw [zl ⟨w2,by omega⟩,w1,zl (by omega),w];simp [dropLast_eq_take]
    | false =>
     have e:(⟨i.a_,i.D_,i.A_,i.B_,i.C_,i.N_,i.m_⟩:Xd)=i:=rfl;simp only [cond_false,e,zod,Option.bind_some];cases hss:zx i with
     | false=>simp only [cond_false,w]
     | true =>obtain ⟨d0,d1⟩:=zlg hf hss;obtain ⟨b,hb⟩:=zd1 (l:=set) d0 (by omega);simp only [cond_true];rw [zl ⟨d0,by omega⟩,hb];simp only [Option.bind_some,w]
theorem zqy (l:List Int):∀ (set:List Bool) (j:Nat),(z9o set l)[j]?=if l.any (λr=>r.toNat==j) then (set[j]?).map (λ_=>false) else set[j]?:=by
 unfold z9o
 induction l with
 | nil=>intro set j;simp
 | cons r l ih =>
  intro set j;simp only [foldl_cons];rw [ih,any_cons];by_cases h:r.toNat=j
  ·subst h;simp only [beq_self_eq_true,Bool.true_or,if_true];split
   ·by_cases hj:r.toNat<set.length
    ·simp [hj]
    ·simp [hj]
   ·by_cases hj:r.toNat<set.length
    ·simp [hj]
    ·simp [hj]
  ·have e:(r.toNat==j)=false:=by simpa using h
   rw [e,Bool.false_or,getElem?_set_ne h]
theorem y7n {l:List Int}{set:List Bool}{d:Int}(hd:set[d.toNat]?=some false):z9o (set.set d.toNat true) (l++[d])=z9o set l:=by
 apply List.ext_getElem?;intro j
 have hlt:d.toNat<set.length:=by obtain ⟨h,_⟩:=List.getElem?_eq_some_iff.1 hd;exact h
 rw [zqy,zqy,List.any_append];by_cases h:d.toNat=j
 ·subst h;simp only [any_cons,beq_self_eq_true,Bool.true_or,Bool.or_true,if_true,hd];rw [getElem?_set_self hlt];simp
 ·have e:(d.toNat==j)=false:=by simpa using h
  rw [getElem?_set_ne h];simp [e]
theorem y4a {set:List Bool}{d:Nat}(h:set[d]?=some true):set.set d true=set:=by
 apply List.ext_getElem?;intro j;by_cases hj:d=j
 ·subst hj;obtain ⟨hl,_⟩:=List.getElem?_eq_some_iff.1 h;rw [getElem?_set_self hl,h]
 ·rw [getElem?_set_ne hj]
end
section
variable {c:Xe}{N:Nat}{set:List Bool}{news:List (List Int)}{op:List Int}{o:List Xh}{i:Xd}
theorem ykl (hf:z20 c i=true)(h:i.a_=36):0<=i.N_:=by unfold z20 at hf;rw [h] at hf;have e:z4s 36=some ⟨0,0,0,0,4⟩:=rfl;rw [e] at hf;simp only [and_eq_true] at hf;have:=hf.2.2.2.2.2;have e2:nOk c 4 i.N_ (tyF c ⟨0,0,0,0,4⟩ i)=(decide (i.N_>=0)&&decide (i.N_<(c.g_.length:Int))):=rfl;rw [e2] at this;simp at this;exact this.1
theorem zjy {α:Type}{l:List α}{w:α}(h:l.getLast? = some w):l=l.dropLast++[w]:=by
 have hne:l≠[]:=λe=>by rw [e] at h;cases h
 have:=List.dropLast_concat_getLast hne;rw [List.getLast?_eq_some_getLast hne] at h;rw [<- Option.some.inj h];exact this.symm
theorem Two.next (h:Two c N set news op o)(hok:okI c i set op=true):(z1x i set o).1=(zc1 i set news op).1/\Two c (N+1) (zc1 i set news op).1 (zc1 i set news op).2.1 (zc1 i set news op).2.2 (z1x i set o).2:=by
 unfold okI at hok;simp only [and_eq_true] at hok;obtain ⟨hf,hp,hrd⟩:=hok;have hlen:op.length=o.length:=by rw [h.op];simp
 unfold zg4 at hp;unfold zc1 z1x;by_cases q34:i.a_=34
 ·have e1:(i.a_==34)=true:=by simpa using q34
  rw [e1] at hp;simp only [Bool.true_or,cond_true,not_eq_true',or_eq_false_iff,beq_eq_false_iff_ne,ne_eq] at hp;have hle:=h.le;simp only [e1,Bool.true_or,cond_true];refine ⟨by trivial,h.len,?_,?_,?_,?_⟩
  ·rw [map_append,h.op];simp [code,q34]
  ·simp;omega
  ·intro x hx;rcases mem_append.1 hx with hx | hx
   ·exact h.ok x hx
   ·simp only [mem_singleton] at hx;subst hx;exact .inl q34
  ·rw [filter_append];have e:[(⟨i.a_,i.N_,set⟩:Xh)].filter z51=[⟨i.a_,i.N_,set⟩]:=by simp [z51,q34]
   rw [e,List.reverse_append,List.reverse_append];exact ⟨rfl,Nat.zero_le _,λr hr=>(by cases hr),z4b (le_succ N) _ _ _ h.ch⟩
 ·have e1:(i.a_==34)=false:=by simpa using q34
  rw [e1] at hp;by_cases q36:i.a_=36
  ·have e2:(i.a_==36)=true:=by simpa using q36
   rw [e2] at hp;simp only [Bool.false_or,cond_true,not_eq_true',or_eq_false_iff,beq_eq_false_iff_ne,ne_eq] at hp;have hle:=h.le;simp only [e1,e2,Bool.false_or,cond_true,cond_false];refine ⟨by trivial,h.len,?_,?_,?_,?_⟩
   ·rw [map_append,h.op];simp [code,q36]
   ·simp;omega
   ·intro x hx;rcases mem_append.1 hx with hx | hx
    ·exact h.ok x hx
    ·simp only [mem_singleton] at hx;subst hx;exact .inr ⟨q36,ykl hf q36⟩
   ·rw [filter_append];have e:[(⟨i.a_,i.N_,set⟩:Xh)].filter z51=[]:=by simp [z51,q36]
    rw [e,append_nil];exact z4b (le_succ N) _ _ _ h.ch
  ·have e2:(i.a_==36)=false:=by simpa using q36
   rw [e2] at hp;simp only [Bool.false_or,cond_false] at hp;simp only [e1,e2,Bool.false_or,cond_false];by_cases q35:i.a_=35
   ·have e3:(i.a_==35)=true:=by simpa using q35
    rw [e3] at hp;simp only [cond_true,not_eq_true',or_eq_false_iff,beq_eq_false_iff_ne,ne_eq,decide_eq_false_iff_not] at hp;obtain ⟨l,w,a1,a2,a3,a4,a5,a6,a7⟩:=h.last (by omega) (by omega);simp only [e3,cond_true,a1,a2,getD_some];have hle:=h.le;refine ⟨a4.symm,?_,?_,?_,?_,?_⟩
    ·rw [zqz];exact h.len
    ·rw [h.op,List.map_dropLast]
    ·simp;omega
    ·exact λx hx=>h.ok x ((List.dropLast_sublist _).subset hx)
    ·rw [a4];exact z4b (le_succ N) _ _ _ a7
   ·have e3:(i.a_==35)=false:=by simpa using q35
    rw [e3] at hp;simp only [cond_false] at hp;by_cases q37:i.a_=37
    ·have e4:(i.a_==37)=true:=by simpa using q37
     rw [e4,ya2,h.loop.1] at hp;simp only [cond_true,Bool.not_not] at hp;simp only [e3,e4,cond_true,cond_false];have hle:=h.le
     obtain ⟨w,hw⟩:∃ w,o.getLast? = some w:=by
      unfold z1i at hp;split at hp
      ·exact ⟨_,by assumption⟩
      ·cases hp
     have hww:w.a_=36:=by unfold z1i at hp;rw [hw] at hp;simpa using hp
     refine ⟨by trivial,h.len,?_,?_,?_,?_⟩
     ·rw [h.op,List.map_dropLast]
     ·simp;omega
     ·exact λx hx=>h.ok x ((List.dropLast_sublist _).subset hx)
     ·have:=h.ch;rw [zjy hw,filter_append] at this;have e:[w].filter z51=[]:=by simp [z51,hww]
      rw [e,append_nil] at this;exact z4b (le_succ N) _ _ _ this
    ·have e4:(i.a_==37)=false:=by simpa using q37
     simp only [e3,e4,cond_false];cases hs:zx i with
     | false =>simp only [Bool.false_and,cond_false];exact ⟨by trivial,h.len,h.op,h.le,h.ok,z4b (le_succ N) _ _ _ h.ch⟩
     | true =>
      obtain ⟨d0,d1⟩:=zlg hf hs;obtain ⟨b,hb⟩:=zd1 (l:=set) d0 (by rw [h.len];exact d1);simp only [hb,getD_some,Bool.true_and,cond_true];cases b with
      | true =>rw [y4a hb];exact ⟨rfl,h.len,h.op,h.le,h.ok,z4b (le_succ N) _ _ _ h.ch⟩
      | false =>
       simp only [Bool.not_false,cond_true];refine ⟨by trivial,by simpa using h.len,h.op,h.le,h.ok,?_⟩;have hc:=h.ch;cases hn:news.reverse with
       | nil =>
        rw [hn] at hc;have:news=[]:=by simpa using hn
        subst this;cases hw:(o.filter z51).reverse with | nil=>simp [zae,zbl] | cons w ws=>rw [hw] at hc;exact hc.elim
       | cons l ls =>
        rw [hn] at hc;cases hw:(o.filter z51).reverse with
        | nil=>rw [hw] at hc;exact hc.elim
        | cons w ws =>
         rw [hw] at hc;obtain ⟨c1,c2,c3,c4⟩:=hc
         have hnews:news=ls.reverse++[l]:=by have:=congrArg reverse hn;simpa using this
         have ha:(zae news i.D_).reverse=(l++[i.D_])::ls:=by unfold zae;rw [hnews];simp
         rw [ha];refine ⟨by rw [y7n hb];exact c1,by simp;omega,λr hr=>?_,z4b (le_succ N) _ _ _ c4⟩;rcases mem_append.1 hr with hr | hr
         ·simpa using c3 r hr
         ·simp only [mem_singleton] at hr;subst hr;refine ⟨d0,?_⟩;simp only [length_set];rw [h.len];exact d1
end
theorem zpo {α S Y Z:Type}{l:List α}{p:α->Bool}{g:Nat->S}{body:S->Option (Bo S Y Z)}{z:Nat->Z}{y:Y}
  (hb:∀ (k:Nat) (h:k<l.length),body (g k)=some (bif p l[k] then .go (g (k+1)) else .ret (z k))) (he:body (g l.length)=some (.out y)) :
  ∀ (j k f:Nat),k+j=l.length->j<f->zk body f (g k)=some (match (l.drop k).findIdx? (λx=>!p x) with | none=>.out y | some i=>.ret (z (k+i)))
 | 0,k,f+1,hk,hf=>by
  obtain rfl:k=l.length:=by omega
  unfold zk;rw [he];simp
 | j+1,k,f+1,hk,hf=>by
  have h:k<l.length:=by omega
  unfold zk;rw [hb k h,drop_eq_getElem_cons h];cases hp:p l[k] with
  | false =>simp only [cond_false,findIdx?_cons,hp,Bool.not_false,if_true];rfl
  | true =>simp only [cond_true];rw [zpo hb he j (k+1) f (by omega) (by omega)];rw [findIdx?_cons];simp only [hp,Bool.not_true,cond_false,Bool.false_eq_true,if_false];cases (l.drop (k+1)).findIdx? (λx=>!p x) with | none=>rfl | some i=>simp only [map_some];congr 3;omega
theorem zpn {α S Y Z:Type}{l:List α}{p:α->Bool}(g:Nat->S){body:S->Option (Bo S Y Z)}(z:Nat->Z){y:Y}{f:Nat}
  (hb:∀ (k:Nat) (h:k<l.length),body (g k)=some (bif p l[k] then .go (g (k+1)) else .ret (z k))) (he:body (g l.length)=some (.out y)) (hf:l.length<f) :
  zk body f (g 0)=some (match l.findIdx? (λx=>!p x) with | none=>.out y | some i=>.ret (z i)):=by
 have:=zpo hb he l.length 0 f (by omega) hf;simpa using this
section
variable {c:Xe}
theorem z2b {α:Type}{l:List α}{k:Nat}(h:k<l.length):idx l (k:Int)=some l[k]:=by simp [idx,h]
theorem ydn {n:Nat}(h:c.c_.length<n)(h2:c.c_.length<1000000):f29 n (c.c_,c.g_,c.c_,c.e_,c.d_)=some (!(c.c_.all (z36 c.g_)),c.g_,c.c_,c.e_,c.d_):=by
 have hit:zk (zor n (c.c_,c.g_,c.c_,c.e_,c.d_) ()) n ((0:Int),c.g_,c.c_,c.e_,c.d_)=some (match c.c_.findIdx? (λx=>!z36 c.g_ x) with | none=>.out ((c.c_.length:Int),c.g_,c.c_,c.e_,c.d_) | some i=>.ret ((i:Int),c.g_,c.c_,c.e_,c.d_)):=by
  refine zpn (p:=z36 c.g_) (λk=>((k:Int),c.g_,c.c_,c.e_,c.d_)) (λk=>((k:Int),c.g_,c.c_,c.e_,c.d_)) (λk hk=>?_) ?_ h
  ·rw [zm4];have e1:decide ((k:Int)<(c.c_.length:Int))=true:=by simp;omega
   dsimp only;rw [e1,z2b hk];simp only [cond_true,Option.bind_some,ydo,zy9,z22 (show k<4611686018427387904 by omega)];cases z36 c.g_ c.c_[k]<;>rfl
  ·rw [zm4];simp
 rw [ydm,ye8];dsimp only;rw [hit,<- zi1];cases c.c_.findIdx? (λx=>!z36 c.g_ x) with | none=>rfl | some i=>simp [Bo.then]
theorem ydr {n:Nat}(h:c.e_.length<n)(h2:c.e_.length<1000000)(hb:∀ s∈c.e_,0<=s.m_/\s.m_<4294967296):f32 n (c.e_,c.g_,c.c_,c.e_,c.d_)=some (!(c.e_.all (z7b c.g_)),c.g_,c.c_,c.e_,c.d_):=by
 have hit:zk (zos n (c.e_,c.g_,c.c_,c.e_,c.d_) ()) n ((0:Int),c.g_,c.c_,c.e_,c.d_)=some (match c.e_.findIdx? (λx=>!z7b c.g_ x) with | none=>.out ((c.e_.length:Int),c.g_,c.c_,c.e_,c.d_) | some i=>.ret ((i:Int),c.g_,c.c_,c.e_,c.d_)):=by
  refine zpn (p:=z7b c.g_) (λk=>((k:Int),c.g_,c.c_,c.e_,c.d_)) (λk=>((k:Int),c.g_,c.c_,c.e_,c.d_)) (λk hk=>?_) ?_ h
  ·rw [zm5];have e1:decide ((k:Int)<(c.e_.length:Int))=true:=by simp;omega
   obtain ⟨b0,b1⟩:=hb _ (getElem_mem hk);dsimp only;rw [e1,z2b hk];simp only [cond_true,Option.bind_some,yds,ydu _ _ b0 b1,z22 (show k<4611686018427387904 by omega)];cases z7b c.g_ c.e_[k]<;>rfl
  ·rw [zm5];simp
 rw [ydq,ye9];dsimp only;rw [hit,<- zi1];cases c.e_.findIdx? (λx=>!z7b c.g_ x) with | none=>rfl | some i=>simp [Bo.then]
theorem y5i {n m:Nat}(h:c.c_.length<m)(h2:c.c_.length<1000000):zk (zoe n c ()) m 0=some (bif c.c_.all (z36 c.g_) then .out (c.c_.length:Int) else .ret ()):=by
 refine z56 (λk hk=>?_) ?_ h
 ·rw [zlt];have e1:decide ((k:Int)<(c.c_.length:Int))=true:=by simp;omega
  rw [e1,z2b hk];simp only [cond_true,Option.bind_some,zyb,z22 (show k<4611686018427387904 by omega)];cases z36 c.g_ c.c_[k]<;>rfl
 ·rw [zlt];simp
theorem zy7 {n m:Nat}(h:c.e_.length<m)(h2:c.e_.length<1000000)(hb:∀ s∈c.e_,0<=s.m_/\s.m_<4294967296):zk (zof n c ()) m 0=some (bif c.e_.all (z7b c.g_) then .out (c.e_.length:Int) else .ret ()):=by
 refine z56 (λk hk=>?_) ?_ h
 ·rw [zlu];have e1:decide ((k:Int)<(c.e_.length:Int))=true:=by simp;omega
  obtain ⟨b0,b1⟩:=hb _ (getElem_mem hk);rw [e1,z2b hk];simp only [cond_true,Option.bind_some,ye1 _ _ b0 b1,z22 (show k<4611686018427387904 by omega)];cases z7b c.g_ c.e_[k]<;>rfl
 ·rw [zlu];simp
theorem z57 {S Y Z:Type}{L:Nat}(g:Nat->S){body:S->Option (Bo S Y Z)}{y:Y}(hb:∀ k,k<L->body (g k)=some (.go (g (k+1))))(he:body (g L)=some (.out y)) :
  ∀ (j k f:Nat),k+j=L->j<f->zk body f (g k)=some (.out y)
 | 0,k,f+1,hk,hf=>by
  obtain rfl:k=L:=by omega
  unfold zk;rw [he]
 | j+1,k,f+1,hk,hf=>by unfold zk;rw [hb k (by omega)];exact z57 g hb he j (k+1) f (by omega) (by omega)
theorem yao {n m:Nat}(h:c.c_.length<m)(h2:c.c_.length<1000000):zk (zog n c ()) m (0,[])=some (.out ((c.c_.length:Int),replicate c.c_.length false)):=by
 refine z57 (L:=c.c_.length) (λk=>((k:Int),replicate k false)) (λk hk=>?_) ?_ c.c_.length 0 m (by omega) h
 ·rw [zlv];have e1:decide ((k:Int)<(c.c_.length:Int))=true:=by simp;omega
  dsimp only;rw [e1,cond_true,zl (by simp;omega),z22 (by omega),<- List.replicate_succ']
 ·rw [zlv];simp
end
def okB (y:Int):Bool:=(decide (y>=65)&&decide (y<=90))||((decide (y>=97)&&decide (y<=122))||((decide (y>=48)&&decide (y<=57))||(y==95||(y==46||(y==47||y==45)))))
theorem yoa (y:Int)(h0:0<=y)(h1:y<256):decide ((Lib.indexByte [95,46,47,45] y.toNat.toUInt8:Int)>=0)=(y==95||(y==46||(y==47||y==45))):=by
 have h:(range 256).all (λk=>decide ((Lib.indexByte [95,46,47,45] k.toUInt8:Int)>=0)==((k:Int)==95||((k:Int)==46||((k:Int)==47||(k:Int)==45))))=true:=by kernel_rfl
 have:=all_eq_true.1 h y.toNat (by simp;omega);have e:((y.toNat:Nat):Int)=y:=by omega
 rw [e] at this;simpa using this
theorem yf2 {n:Nat}(y:Int)(h0:0<=y)(h1:y<256):∃ r,f68 n (⟨#[95,46,47,45]⟩,y)=some r/\decide (r>=0)=(y==95||(y==46||(y==47||y==45))) :=
 ⟨_,by rw [yf1];rfl,yoa y h0 h1⟩
theorem znz {x:ByteArray}{k:Nat}(h:k<(bytesOf x).length):0<=(bytesOf x)[k]/\(bytesOf x)[k]<256/\zc x (k:Int)=(bytesOf x)[k]:=by
 have hl:k<x.data.toList.length:=by simpa [bytesOf] using h
 have e:(bytesOf x)[k]=((x.data.toList[k]).toNat:Int):=by simp [bytesOf]
 have hb:=UInt8.toNat_lt (x.data.toList[k]);refine ⟨by rw [e];omega,by rw [e];omega,?_⟩;rw [e];unfold zc;rw [List.getD_eq_getElem?_getD,show ((k:Int).toNat)=k from rfl,getElem?_eq_getElem hl];rfl
theorem zlo (x:ByteArray):(bytesOf x).length=x.size:=by unfold bytesOf;rw [length_map];rfl
def zb1 (x:ByteArray):Bool:=!(x==⟨#[]⟩||decide ((x.size:Int) > 64))&&(bytesOf x).all okB
theorem yeq {n:Nat}(x:ByteArray)(hn:64<n):f61 n x=some (zb1 x):=by
 rw [yep]
 have hB:(bif (x==⟨#[]⟩) then some (Sum.inl true) else some (.inl (decide ((x.size:Int) > 64))):Option (Bool⊕Bool))=some (.inl (x==⟨#[]⟩||decide ((x.size:Int) > 64))):=by cases (x==(⟨#[]⟩:ByteArray))<;>rfl
 rw [hB,Option.bind_some,orRet_inl];unfold zb1;cases hq:(x==⟨#[]⟩||decide ((x.size:Int) > 64)) with
 | true=>rfl
 | false =>
  have hs:x.size<=64:=by simp only [or_eq_false_iff,decide_eq_false_iff_not] at hq;omega
  have hl:=zlo x
  have hit:zk (zov n x ()) n 0=some (bif (bytesOf x).all okB then .out ((bytesOf x).length:Int) else .ret ()):=by
   refine z56 (λk hk=>?_) ?_ (by omega)
   ·obtain ⟨b0,b1,_⟩:=znz hk;obtain ⟨r,r1,r2⟩:=yf2 (n:=n) _ b0 b1;rw [zm8];have e1:decide ((k:Int)<((bytesOf x).length:Int))=true:=by simp;omega
    rw [e1,z2b hk];simp only [cond_true,Option.bind_some];generalize (bytesOf x)[k]=y at *;rw [z22 (by omega)];unfold okB;cases a1:decide (y>=65)<;>cases a2:decide (y<=90)<;>cases a3:decide (y>=97)<;>cases a4:decide (y<=122)<;>cases a5:decide (y>=48)<;>cases a6:decide (y<=57)<;>simp only [a1,a2,a3,a4,a5,a6,cond_true,cond_false,Option.bind_some,orRet_inl,r1,r2]<;>cases (y==95||(y==46||(y==47||y==45)))<;>rfl
   ·rw [zm8];simp
  rw [hit];cases (bytesOf x).all okB<;>rfl
set_option maxHeartbeats 4000000 in
theorem yeu {n:Nat}(x:ByteArray)(hn:64<n):f63 n x=some (zb1 x):=by
 rw [yet]
 have hB:(bif (x==⟨#[]⟩) then some (Sum.inl true) else some (.inl (decide ((x.size:Int) > 64))):Option (Bool⊕Bool))=some (.inl (x==⟨#[]⟩||decide ((x.size:Int) > 64))):=by cases (x==(⟨#[]⟩:ByteArray))<;>rfl
 rw [hB,Option.bind_some,orRet_inl];unfold zb1;cases hq:(x==⟨#[]⟩||decide ((x.size:Int) > 64)) with
 | true=>rfl
 | false =>
  have hs:x.size<=64:=by simp only [or_eq_false_iff,decide_eq_false_iff_not] at hq;omega
  have hl:=zlo x
  have hit:zk (zow n x ()) n 0=some (bif (bytesOf x).all okB then .out ((bytesOf x).length:Int) else .ret ()):=by
   refine z56 (λk hk=>?_) ?_ (by omega)
   ·obtain ⟨_,_,b2⟩:=znz hk;rw [zm9];have e1:decide ((k:Int)<(x.size:Int))=true:=by simp;omega
    rw [e1,b2,cond_true,zl (by omega),z22 (by omega)];generalize (bytesOf x)[k]=y;unfold okB;cases decide (y>=97)<;>cases decide (y<=122)<;>cases decide (y>=65)<;>cases decide (y<=90)<;>cases decide (y>=48)<;>cases decide (y<=57)<;>cases (y==95)<;>cases (y==46)<;>cases (y==47)<;>cases (y==45)<;>rfl
   ·rw [zm9,hl];simp
  rw [hit];cases (bytesOf x).all okB<;>rfl
def z7a (p:Xa):Bool:=zb1 p.q_&&((p.j_==1||p.j_==2)&&(decide (p.r_>=1)&&decide (p.r_<=4096)))
theorem zyd {n:Nat}(p:Xa)(hn:64<n):f48 n p=some (z7a p):=by rw [ye5,yeq _ hn];unfold z7a;simp only [Option.bind_some];cases zb1 p.q_<;>cases (p.j_==1)<;>cases (p.j_==2)<;>cases decide (p.r_>=1)<;>rfl
theorem zyf {n:Nat}(p:Xa)(hn:64<n):f55 n p=some (z7a p):=by rw [yef,yeu _ hn];unfold z7a;simp only [Option.bind_some];cases zb1 p.q_<;>cases (p.j_==1)<;>cases (p.j_==2)<;>cases decide (p.r_>=1)<;>rfl
theorem zri {a b:ByteArray}:(a==b)=true↔a=b:=MapKept.bytes_beq a b
theorem znu (a:ByteArray):(a==a)=true:=zri.2 rfl
def z6m (ks:List ByteArray)(p:Xa):List ByteArray:=bif has p.q_ ks then ks else ks++[p.q_]
theorem zpg {n:Nat}(hn:64<n):∀ (l:List Xa) (ks:List ByteArray),zbu n l ks=some (bif l.all z7a then some (l.foldl z6m ks) else none)
 | [],ks=>rfl
 | p::l,ks=>by
  unfold zbu;have e:zjq n p=some (z7a p):=zyd p hn;rw [e];simp only [Option.bind_some,List.all_cons,foldl_cons];cases z7a p with
  | false=>rfl
  | true =>simp only [cond_true,Bool.true_and];exact zpg hn l _
theorem ybu (s:ByteArray)(ks:List ByteArray)(p:Xa):has s (z6m ks p)=(has s ks||p.q_==s):=by
 unfold z6m;cases h:has p.q_ ks with
 | false=>simp [has]
 | true =>
  simp only [cond_true];cases hq:p.q_==s with
  | false=>simp
  | true =>rw [zri] at hq;subst hq;simp [h]
theorem zmf {x:List Xa}{k:Nat}(h:k<x.length):(x.take (k+1)).foldl z6m []=z6m ((x.take k).foldl z6m []) x[k]:=by rw [List.take_succ_eq_append_getElem h,List.foldl_append];rfl
theorem zpk {x:List Xa}(s:ByteArray):∀ k,k<=x.length->has s ((x.take k).foldl z6m [])=(x.take k).any (λp=>p.q_==s)
 | 0,_=>by simp [has]
 | k+1,h=>by rw [zmf (by omega),ybu,zpk s k (by omega),List.take_succ_eq_append_getElem (by omega),List.any_append];simp only [any_cons,List.any_nil,Bool.or_false]
def z4x (x:List Xa)(k:Nat):Bool:=match x[k]? with | some p=>!((x.take k).any λq=>q.q_==p.q_) | none=>true
theorem zpv {x:List Xa}:∀ k,k<=x.length->((x.take k).foldl z6m []).length=(range k).countP (z4x x)
 | 0,_=>by simp
 | k+1,h=>by
  have hk:k<x.length:=by omega
  rw [zmf hk,List.range_succ,List.countP_append,<- zpv k (by omega)]
  have e:z4x x k = !(has x[k].q_ ((x.take k).foldl z6m [])):=by unfold z4x;rw [getElem?_eq_getElem hk,zpk _ k (by omega)]
  have e2:z6m ((x.take k).foldl z6m []) x[k]=bif has x[k].q_ ((x.take k).foldl z6m []) then (x.take k).foldl z6m [] else (x.take k).foldl z6m []++[x[k].q_]:=rfl;rw [e2];cases hh:has x[k].q_ ((x.take k).foldl z6m []) with | true=>rw [hh] at e;simp [List.countP_cons,e] | false=>rw [hh] at e;simp [List.countP_cons,e]
theorem yd2 (x:List Xa):decide (((x.foldl z6m []).length:Int)<(x.length:Int)) = !((range x.length).all (z4x x)):=by
 have h:=zpv (x:=x) x.length (Nat.le_refl _);rw [take_length] at h;rw [h];have hle:=List.countP_le_length (p:=z4x x) (l:=range x.length);simp only [length_range] at hle;cases ha:(range x.length).all (z4x x) with
 | true =>have:(range x.length).countP (z4x x)=(range x.length).length:=List.countP_eq_length.2 (all_eq_true.1 ha);rw [this];simp
 | false =>
  have:(range x.length).countP (z4x x)≠(range x.length).length:=λe=>by have:=List.countP_eq_length.1 e;have:(range x.length).all (z4x x)=true:=all_eq_true.2 this;rw [ha] at this;cases this
  simp only [length_range] at this;simp only [Bool.not_false,decide_eq_true_eq];omega
def fnd (x:List Xa)(s:ByteArray):Int×Bool:=match x.findIdx? (λp=>p.q_==s) with | none=>(0,false) | some i=>((i:Int),true)
theorem yeh {n:Nat}{x:List Xa}{s:ByteArray}(h:x.length<n)(h2:x.length<1000000):f56 n (x,s)=some (fnd x s):=by
 have hit:zk (zot n (x,s) ()) n 0=some (match x.findIdx? (λp=>!(!(p.q_==s))) with | none=>.out (x.length:Int) | some i=>.ret (i:Int)):=by
  refine zpn (p:=λp=>!(p.q_==s)) (λk=>(k:Int)) (λk=>(k:Int)) (λk hk=>?_) ?_ h
  ·rw [zm6];have e1:decide ((k:Int)<(x.length:Int))=true:=by simp;omega
   dsimp only;rw [e1,z2b hk];simp only [cond_true,Option.bind_some,z22 (show k<4611686018427387904 by omega)];cases x[k].q_==s<;>rfl
  ·rw [zm6];simp
 rw [yeg,hit];unfold fnd;simp only [Bool.not_not];cases x.findIdx? (λp=>p.q_==s)<;>rfl
theorem y61 {x:List Xa}{k:Nat}(hk:k<x.length):(fnd x x[k].q_).1=(k:Int)↔z4x x k=true:=by
 unfold z4x fnd;rw [getElem?_eq_getElem hk];simp only [not_eq_true'];cases hf:x.findIdx? (λp=>p.q_==x[k].q_) with
 | none =>rw [List.findIdx?_eq_none_iff] at hf;have:=hf x[k] (getElem_mem hk);rw [znu] at this;cases this
 | some i =>
  obtain ⟨hi,h1,h2⟩:=List.findIdx?_eq_some_iff_getElem.1 hf;simp only;constructor
  ·intro e;have e:i=k:=by omega
   subst e;rw [Bool.eq_false_iff];intro ha;obtain ⟨q,hq,hq2⟩:=any_eq_true.1 ha;obtain ⟨j,hj,rfl⟩:=List.getElem_of_mem hq;simp only [length_take] at hj;have:=h2 j (by omega);rw [List.getElem_take] at hq2;rw [hq2] at this;simp at this
  ·intro ha;by_cases hik:i<k
   ·exfalso
    have:(x.take k).any (λq=>q.q_==x[k].q_)=true:=by rw [any_eq_true];exact ⟨x[i],List.mem_take_iff_getElem.2 ⟨i,by omega,rfl⟩,h1⟩
    rw [ha] at this;cases this
   ·by_cases hki:k<i
    ·exfalso;have:=h2 k hki;rw [znu] at this;simp at this
    ·omega
def zl7 (p:Xa):Int:=bif z7a p then (bif p.j_==2 then i64.wrap (2 * p.r_) else p.r_) else 0
theorem yes {n:Nat}(p:Xa)(hn:64<n):f62 n p=some (zl7 p):=by rw [yer,zyd _ hn];unfold zl7;simp only [Option.bind_some];cases z7a p<;>cases (p.j_==2)<;>rfl
theorem yew {n:Nat}(p:Xa)(hn:64<n):f64 n p=some (zl7 p):=by rw [yev,zyf _ hn];unfold zl7;simp only [Option.bind_some];cases z7a p<;>cases (p.j_==2)<;>rfl
def z6j (x:List Xa)(k:Nat):Int:=(x.take k).foldl (λs p=>i64.wrap (s+zl7 p)) 0
theorem zqu {x:List Xa}{k:Nat}(h:k<x.length):z6j x (k+1)=i64.wrap (z6j x k+zl7 x[k]):=by unfold z6j;rw [List.take_succ_eq_append_getElem h,List.foldl_append];rfl
theorem ye7 {n:Nat}{x:List Xa}(hn:64<n)(hl:x.length<=64):f49 n x=some (z6j x x.length):=by
 have hit:zk (zoq n x ()) n (0,0)=some (.out (z6j x x.length,(x.length:Int))):=by
  refine z57 (L:=x.length) (λk=>(z6j x k,(k:Int))) (λk hk=>?_) ?_ x.length 0 n (by omega) (by omega)
  ·rw [zm3];have e1:decide ((k:Int)<(x.length:Int))=true:=by simp;omega
   dsimp only;rw [e1,z2b hk];simp only [cond_true,Option.bind_some,yes _ hn,z22 (show k<4611686018427387904 by omega),zqu hk]
  ·rw [zm3];simp
 rw [ye6,hit];rfl
theorem yej {n:Nat}{x:List Xa}(hn:64<n)(hl:x.length<=64):f57 n x=some (z6j x x.length):=by
 have hit:zk (zou n x ()) n (0,0)=some (.out (z6j x x.length,(x.length:Int))):=by
  refine z57 (L:=x.length) (λk=>(z6j x k,(k:Int))) (λk hk=>?_) ?_ x.length 0 n (by omega) (by omega)
  ·rw [zm7];have e1:decide ((k:Int)<(x.length:Int))=true:=by simp;omega
   dsimp only;rw [e1,z2b hk];simp only [cond_true,Option.bind_some,yew _ hn,z22 (show k<4611686018427387904 by omega),zqu hk]
  ·rw [zm7];simp
 rw [yei,hit];rfl
def sgn (x:List Xa):Int:=bif decide ((x.length:Int) > 64) then 2 else bif x.all z7a then (bif (range x.length).all (z4x x) then (bif decide (z6j x x.length > 65536) then 102 else 0) else 101) else 100
theorem ydl {n:Nat}(x:List Xa)(hn:64<n):f28 n x=some (sgn x):=by
 show g28 n x=_;unfold g28 sgn;simp only [length_map];cases hl:decide ((x.length:Int) > 64) with
 | true=>rfl
 | false =>
  have hl':x.length<=64:=by simp only [decide_eq_false_iff_not] at hl;omega
  rw [zpg hn];cases x.all z7a with
  | false=>rfl
  | true =>have e:y0z n x=some (z6j x x.length):=ye7 hn hl';simp only [cond_false,cond_true,Option.bind_some,z9y,length_map,yd2,e];cases (range x.length).all (z4x x)<;>cases decide (z6j x x.length > 65536)<;>rfl
theorem ydy {n:Nat}(x:List Xa)(hn:64<n):f38 n x=some (sgn x):=by
 rw [ydx];unfold sgn;cases hl:decide ((x.length:Int) > 64) with
 | true=>rfl
 | false =>
  have hl':x.length<=64:=by simp only [decide_eq_false_iff_not] at hl;omega
  have h1:zk (zon n x ()) n 0=some (bif x.all z7a then .out (x.length:Int) else .ret ()):=by
   refine z56 (λk hk=>?_) ?_ (by omega)
   ·rw [zm0];have e1:decide ((k:Int)<(x.length:Int))=true:=by simp;omega
    rw [e1,z2b hk];simp only [cond_true,Option.bind_some,zyf _ hn,z22 (show k<4611686018427387904 by omega)];cases z7a x[k]<;>rfl
   ·rw [zm0];simp
  have h2:zk (zoo n x ()) n 0=some (bif (range x.length).all (z4x x) then .out (x.length:Int) else .ret ()):=by
   refine z56 (l:=range x.length) (λk hk=>?_) ?_ (by simp;omega)
   ·simp only [length_range] at hk;rw [zm1];have e1:decide ((k:Int)<(x.length:Int))=true:=by simp;omega
    rw [e1,z2b hk];simp only [cond_true,Option.bind_some,yeh (n:=n) (x:=x) (s:=x[k].q_) (by omega) (by omega),z22 (show k<4611686018427387904 by omega),List.getElem_range];have:=y61 hk;cases hq:z4x x k with
    | true =>have e:=this.2 hq;rw [e];simp
    | false =>
     have e:(fnd x x[k].q_).1≠(k:Int):=λe=>by have:=this.1 e;rw [hq] at this;cases this
     have e2:((fnd x x[k].q_).1 != (k:Int))=true:=by simpa using e
     rw [e2];rfl
   ·rw [length_range,zm1];simp
  rw [h1];simp only [cond_false];cases x.all z7a with
  | false=>rfl
  | true =>
   simp only [cond_true,Option.bind_some,Bo.then];rw [h2];cases (range x.length).all (z4x x) with
   | false=>rfl
   | true =>simp only [cond_true,Option.bind_some,Bo.then,yej hn hl'];cases decide (z6j x x.length > 65536)<;>rfl
theorem zrh (a:Int):(a==a)=true:=by simp
structure znc (a:Xe):Prop where
 s:a.g_.length * 32<=140737488355328
 r:a.c_.length * 16<=140737488355328
 l:a.e_.length * 32<=140737488355328
 i:a.d_.length * 56<=140737488355328
def goR (c:Xe):List Xd->Nat->List Bool->List Xh->Nat⊕(List Bool×List Xh)
 | [],_,set,o=>.inr (set,o)
 | i::l,k,set,o=>bif z1g c i set o then goR c l (k+1) (z1x i set o).1 (z1x i set o).2 else .inl k
section
variable {c:Xe}
theorem y7s {m m':Nat}{x:Xe}(hr:∀ t∈c.c_,z36 c.g_ t=true)(hR:c.c_.length<=1000000)(hL:c.d_.length<1000000)(hm:c.d_.length<m)(hb:∀ i∈c.d_,0<=i.m_/\i.m_<4294967296) :
  ∀ (j k f f':Nat) (set:List Bool) (news:List (List Int)) (op:List Int) (o:List Xh),k+j=c.d_.length->j<f->j<f'->Two c k set news op o ->
   ∃ news' op',(∀ r,goR c (c.d_.drop k) k set o = .inr r->op'.length=r.2.length) /\
    zk (zfo (m+5) x (c.d_,(c.d_.length:Int),c.g_,c.c_,c.e_)) f ((k:Int),c.g_,c.c_,c.e_,c.d_,set,news,op)=some (match goR c (c.d_.drop k) k set o with | .inl k'=>.ret (k':Int) | .inr r=>.out ((c.d_.length:Int),c.g_,c.c_,c.e_,c.d_,r.1,news',op')) /\
    zk (zfp (m'+4) c ()) f' ((k:Int),set,o)=some (match goR c (c.d_.drop k) k set o with | .inl k'=>.ret (k':Int) | .inr r=>.out ((c.d_.length:Int),r.1,r.2))
 | 0,k,f+1,f'+1,set,news,op,o,hk,_,_,h=>by
  obtain rfl:k=c.d_.length:=by omega
  rw [drop_length];refine ⟨news,op,λr hr=>?_,?_,?_⟩
  ·cases hr;rw [h.op];simp
  ·unfold zk;rw [zls];simp [goR]
  ·unfold zk;rw [zlw];simp [goR]
 | j+1,k,f+1,f'+1,set,news,op,o,hk,hf,hf',h=>by
  have hkl:k<c.d_.length:=by omega
  obtain ⟨b0,b1⟩:=hb _ (getElem_mem hkl);have e1:decide ((k:Int)<(c.d_.length:Int))=true:=by simp;omega
  have s1:=y5h (m:=m) (x:=x) (v:=(c.d_,(c.d_.length:Int),c.g_,c.c_,c.e_)) h (by omega) (by omega) hr b0 b1 (by omega) e1 (z2b hkl);have s2:=y5j (m:=m') h hr hR b0 b1 (by omega) hkl (z2b hkl)
  have e2:z1g c c.d_[k] set o=okI c c.d_[k] set op:=by unfold z1g okI;rw [h.place];cases z20 c c.d_[k]<;>cases z2j set c.d_[k]<;>cases z5j c.d_[k] o<;>simp
  rw [drop_eq_getElem_cons hkl];have eg:goR c (c.d_[k]::c.d_.drop (k+1)) k set o=bif z1g c c.d_[k] set o then goR c (c.d_.drop (k+1)) (k+1) (z1x c.d_[k] set o).1 (z1x c.d_[k] set o).2 else .inl k:=rfl;rw [eg];rw [e2] at s2 ⊢;unfold zk;rw [s1,s2];cases hok:okI c c.d_[k] set op with
  | false=>exact ⟨[],[],λr hr=>(by cases hr),rfl,rfl⟩
  | true =>
   obtain ⟨q1,q2⟩:=h.next hok;simp only [cond_true];have e3:z1x c.d_[k] set o=((zc1 c.d_[k] set news op).1,(z1x c.d_[k] set o).2):=by rw [<- q1]
   rw [e3];exact y7s hr hR hL hm hb j (k+1) f f' _ _ _ _ (by omega) (by omega) (by omega) q2
end
def chk (c:Xe):Int×Int :=
 bif sgn c.g_ != 0 then (sgn c.g_,-1) else bif (decide ((c.c_.length:Int) > 16384)||decide ((c.d_.length:Int) > 32768)) then (181,-1) else bif decide ((c.e_.length:Int) > 4096) then (180,-1) else
 bif c.c_.all (z36 c.g_) then (bif c.e_.all (z7b c.g_) then (match goR c c.d_ 0 (replicate c.c_.length false) [] with | .inl k=>(160,(k:Int)) | .inr r=>bif decide ((r.2.length:Int) > 0) then (160,(c.d_.length:Int)) else (0,0)) else (160,-1)) else (160,-1)
theorem zo2 {n:Nat}{c:Xe}(hn:100000<n)(hs:∀ s∈c.e_,0<=s.m_/\s.m_<4294967296)(hb:∀ i∈c.d_,0<=i.m_/\i.m_<4294967296):f16 n c=some (chk c)/\f21 n c=some (chk c):=by
 unfold chk;obtain ⟨m,rfl⟩:∃ m,n=m+5:=⟨n - 5,by omega⟩
 rw [ydd,ydi,ydl _ (by omega),ydy _ (by omega)];simp only [Option.bind_some];cases sgn c.g_ != 0 with
 | true=>exact ⟨rfl,rfl⟩
 | false =>
  have hB:∀ {R:Type},(bif (decide ((c.c_.length:Int) > 16384)) then some (Sum.inl true) else some (.inl (decide ((c.d_.length:Int) > 32768))):Option (Bool⊕R))=some (.inl (decide ((c.c_.length:Int) > 16384)||decide ((c.d_.length:Int) > 32768))):=by intro R;cases decide ((c.c_.length:Int) > 16384)<;>rfl
  simp only [cond_false];rw [hB,Option.bind_some,orRet_inl];cases hz:(decide ((c.c_.length:Int) > 16384)||decide ((c.d_.length:Int) > 32768)) with
  | true=>exact ⟨rfl,rfl⟩
  | false =>
   simp only [or_eq_false_iff,decide_eq_false_iff_not] at hz;simp only [cond_false];cases hy:decide ((c.e_.length:Int) > 4096) with
   | true=>exact ⟨rfl,rfl⟩
   | false =>
    simp only [decide_eq_false_iff_not] at hy;simp only [cond_false];rw [ydn (by omega) (by omega),y5i (by omega) (by omega)];cases hr:c.c_.all (z36 c.g_) with
    | false=>exact ⟨rfl,rfl⟩
    | true =>
     have hr':∀ t∈c.c_,z36 c.g_ t=true:=all_eq_true.1 hr;simp only [Option.bind_some,Bool.not_true,cond_false,cond_true,Bo.then];rw [ydr (by omega) (by omega) hs,zy7 (by omega) (by omega) hs];cases c.e_.all (z7b c.g_) with
     | false=>exact ⟨rfl,rfl⟩
     | true =>
      simp only [Option.bind_some,orRet_inl,Bool.not_true,cond_false,cond_true,Bo.then];rw [zl (by omega),yao (by omega) (by omega)];simp only [Option.bind_some,Bo.then];have h0:Two c 0 (replicate c.c_.length false) [] [] []:=⟨by simp,rfl,by simp,λx hx=>(by cases hx),trivial⟩
      have hset:replicate ((c.c_.length:Int)).toNat false=replicate c.c_.length false:=by rw [Int.toNat_natCast]
      rw [hset];obtain ⟨news',op',q0,q1,q2⟩:=y7s (m:=m) (m':=m+1) (x:=c) hr' (by omega) (by omega) (by omega) hb c.d_.length 0 (m+5) (m+5) _ _ _ _ (by omega) (by omega) (by omega) h0;rw [drop_zero] at q0 q1 q2;have q1:zk (zfo (m+5) c (c.d_,(c.d_.length:Int),c.g_,c.c_,c.e_)) (m+5) (0,c.g_,c.c_,c.e_,c.d_,replicate c.c_.length false,[],[])=_:=q1;have q2:zk (zfp (m+5) c ()) (m+5) (0,replicate c.c_.length false,[])=_:=q2;rw [q1,q2];cases hg:goR c c.d_ 0 (replicate c.c_.length false) [] with
      | inl k=>exact ⟨rfl,rfl⟩
      | inr r =>have:=q0 r hg;simp only [Option.bind_some,Bo.then,this];cases decide ((r.2.length:Int) > 0)<;>exact ⟨rfl,rfl⟩
def zc8 (d:Nat)(s t:List Bool):Prop:=s.length=t.length/\∀ j,j≠d->s[j]?=t[j]?
inductive z89 (d:Nat):List Xh->List Xh->Prop
 | nil:z89 d [] []
 | snoc {o p:List Xh} {x y:Xh}:z89 d o p->x.a_=y.a_->x.o_=y.o_->zc8 d x.G_ y.G_->z89 d (o++[x]) (p++[y])
theorem z89.inv {d:Nat}{o p:List Xh}(h:z89 d o p):(o=[]/\p=[])\/∃ o' p' x y,o=o'++[x]/\p=p'++[y]/\z89 d o' p'/\x.a_=y.a_/\x.o_=y.o_/\zc8 d x.G_ y.G_:=by cases h with | nil=>exact .inl ⟨rfl,rfl⟩ | snoc h1 h2 h3 h4=>exact .inr ⟨_,_,_,_,rfl,rfl,h1,h2,h3,h4⟩
theorem z89.len {d:Nat}{o p:List Xh}(h:z89 d o p):o.length=p.length:=by
 induction h with | nil=>rfl | snoc _ _ _ _ ih=>simp [ih]
theorem zc8.refl (d:Nat)(s:List Bool):zc8 d s s:=⟨rfl,λ_ _=>rfl⟩
theorem z89.refl (d:Nat)(o:List Xh):z89 d o o:=by
 have:∀ (n:Nat) (o:List Xh),o.length=n->z89 d o o:=by
  intro n
  induction n with
  | zero=>intro o h;rw [eq_nil_of_length_eq_zero h];exact .nil
  | succ n ih =>intro o h;obtain ⟨x,x1,_⟩:=z79 o (by omega);rw [zjy x1];exact .snoc (ih _ (by simp;omega)) rfl rfl (zc8.refl d _)
 exact this _ o rfl
theorem zc8.set {d:Nat}{s t:List Bool}(h:zc8 d s t)(j:Nat)(b:Bool):zc8 d (s.set j b) (t.set j b):=by refine ⟨by simp [h.1],λk hk=>?_⟩;rw [getElem?_set,getElem?_set,h.1,h.2 k hk]
abbrev z26 (c:Xe):List Bool:=replicate c.c_.length false
theorem zcs {c:Xe}(h:(chk c).1=0):(sgn c.g_ != 0)=false/\decide ((c.c_.length:Int) > 16384)=false/\decide ((c.d_.length:Int) > 32768)=false/\decide ((c.e_.length:Int) > 4096)=false/\c.c_.all (z36 c.g_)=true/\c.e_.all (z7b c.g_)=true /\
  ∃ r,goR c c.d_ 0 (z26 c) [] = .inr r/\r.2=[]:=by
 unfold chk at h;cases h1:sgn c.g_ != 0 with
 | true =>rw [h1] at h;have h:sgn c.g_=0:=h;rw [h] at h1;cases h1
 | false =>
  rw [h1] at h;cases h2:decide ((c.c_.length:Int) > 16384) with
  | true=>rw [h2] at h;exact absurd (show (181:Int)=0 from h) (by decide)
  | false =>
   cases h3:decide ((c.d_.length:Int) > 32768) with
   | true=>rw [h2,h3] at h;exact absurd (show (181:Int)=0 from h) (by decide)
   | false =>
    rw [h2,h3] at h;cases h4:decide ((c.e_.length:Int) > 4096) with
    | true=>rw [h4] at h;exact absurd (show (180:Int)=0 from h) (by decide)
    | false =>
     rw [h4] at h;cases h5:c.c_.all (z36 c.g_) with
     | false=>rw [h5] at h;exact absurd (show (160:Int)=0 from h) (by decide)
     | true =>
      rw [h5] at h;cases h6:c.e_.all (z7b c.g_) with
      | false=>rw [h6] at h;exact absurd (show (160:Int)=0 from h) (by decide)
      | true =>
       rw [h6] at h;refine ⟨rfl,rfl,rfl,rfl,rfl,rfl,?_⟩;simp only [Bool.or_self,cond_false,cond_true] at h;cases h7:goR c c.d_ 0 (z26 c) [] with
       | inl k=>rw [h7] at h;exact absurd h (by simp)
       | inr r =>
        rw [h7] at h;refine ⟨r,rfl,?_⟩;cases h8:decide ((r.2.length:Int) > 0) with
        | true=>simp only [h8,cond_true] at h;exact absurd h (by simp)
        | false =>simp only [decide_eq_false_iff_not] at h8;exact eq_nil_of_length_eq_zero (by omega)
theorem zpi (c:Xe)(l':List Xd):∀ (l:List Xd) (k:Nat) (s:List Bool) (o:List Xh),goR ⟨c.g_,c.c_,c.e_,l'⟩ l k s o=goR c l k s o
 | [],_,_,_=>rfl
 | i::l,k,s,o=>by simp only [goR];have e:z1g ⟨c.g_,c.c_,c.e_,l'⟩ i s o=z1g c i s o:=rfl;rw [e,zpi c l' l]
theorem ycu {c:Xe}(h:(chk c).1=0)(l:List Xd)(hl:l.length<=32768):chk ⟨c.g_,c.c_,c.e_,l⟩=match goR c l 0 (z26 c) [] with | .inl k=>(160,(k:Int)) | .inr r=>bif decide ((r.2.length:Int) > 0) then (160,(l.length:Int)) else (0,0):=by
 obtain ⟨h1,h2,h3,h4,h5,h6,_⟩:=zcs h;have h3':decide ((l.length:Int) > 32768)=false:=by simp;omega
 unfold chk;dsimp only;rw [h1,h2,h3',h4,h5,h6,zpi];rfl
theorem zf6 {x:Int}(h0 : -1000000<=x)(h1:x<=1000000):i64.wrap x=x:=zhf (by omega) (by omega)
theorem ze8 (c:Xe):∀ (l:List Xd) (k:Nat) (s:List Bool) (o:List Xh) (r:List Bool×List Xh),goR c l k s o = .inr r->∀ i∈l,z20 c i=true
 | [],_,_,_,_,_,i,hi=>by cases hi
 | j::l,k,s,o,r,h,i,hi=>by
  simp only [goR] at h;cases hs:z1g c j s o with
  | false=>rw [hs] at h;cases h
  | true =>
   rw [hs,cond_true] at h;rcases List.mem_cons.1 hi with rfl | hi
   ·unfold z1g at hs;simp only [and_eq_true] at hs;exact hs.1
   ·exact ze8 c l _ _ _ r h i hi
section
variable {P:Program}{T:TT}{pro:List Nat}{R S A V:Type}{Q:R->Prop}
end
section
variable {c d:Xe}{i:Xd}
theorem z55 {c:Xe}{i:Xd}(h:z20 c i=true)(ho:zx i=true):∃ t,idx c.c_ i.D_=some t/\t∈c.c_:=by
 unfold z20 at h;unfold zx at ho;split at h
 ·cases h
 ·rename_i r hr;rw [hr] at ho;simp only [and_eq_true] at h;obtain ⟨t,ht⟩:=z65 h.1 (by simpa using ho);exact ⟨t,ht,(z50 ht).1⟩
def y42 (i:Xd):Bool:=match z4s i.a_ with | some r=>!(r.a==0) | none=>false
theorem y6v (i:Xd):(onD i=true->zx i=true)/\(onA i=true->y42 i=true):=by
 obtain ⟨op,d,a,b,cc,N,bits⟩:=i;rcases z5i op with (rfl | rfl | rfl | rfl | rfl | rfl | rfl | rfl | rfl | rfl | rfl | rfl | rfl | rfl | rfl | rfl | rfl | rfl | rfl | rfl | rfl | rfl | rfl | rfl | rfl | rfl | rfl | rfl | rfl | rfl | rfl | rfl | rfl | rfl | rfl | rfl | rfl) | h
 iterate 37 (· simp [onD,onA,z75,zx,y42,z4s])
 have he:z75 op=false:=by
  cases he:z75 op with
  | false=>rfl
  | true =>
   exfalso;unfold z75 at he
   have:3<=op/\op<=15:=by
    by_cases q:op>=3
    ·simp [q] at he;omega
    ·simp [q] at he
   have:=h op (by omega) (by omega);simp at this
 simp only [onD,onA,he,h 29 (by decide) (by decide),h 30 (by decide) (by decide),h 31 (by decide) (by decide),h 32 (by decide) (by decide),h 33 (by decide) (by decide)];constructor<;>intro h<;>cases h
end
def yo4 (l:List Xa)(t:Xb):Int:=bif t.j_ != 3 then 1 else match idx l t.o_ with | some p=>p.r_ | none=>0
def zxq (c:Xe)(t:Xb)(x:List Int):Prop:=(t.j_=2/\x.length<=4096)\/((x.length:Nat):Int)=yo4 c.g_ t
structure zxs (c:Xe) (set:List Bool) (R:List Xj):Prop where
 len:R.length=c.c_.length
 ok:∀ (j:Nat) (t:Xb) (x:Xj),c.c_[j]?=some t->R[j]?=some x->(set[j]?).getD false=true->zxq c t x.y_
theorem y7r {α:Type}{l:List α}{k:Int}(h:0<=k/\k<l.length):∃ y,idx l k=some y/\l[k.toNat]?=some y:=by
 obtain ⟨j,rfl⟩:∃ j:Nat,k=j:=⟨k.toNat,by omega⟩
 have hj:j<l.length:=by omega
 exact ⟨l[j],z2b hj,by rw [Int.toNat_natCast];exact getElem?_eq_getElem hj⟩
theorem y3j {α:Type}{l:List α}{k:Int}{t:α}(h:idx l k=some t):0<=k/\k<l.length/\l[k.toNat]?=some t:=by
 by_cases hk:0<=k/\k<l.length
 ·obtain ⟨y,h1,h2⟩:=y7r hk;rw [h1] at h;cases h;exact ⟨hk.1,hk.2,h2⟩
 ·rw [z2s (by omega)] at h;cases h
theorem ya4 {i:Xd}{set:List Bool}{k:Int}(h:z2j set i=true)(hk:k∈z12 i):(set[k.toNat]?).getD false=true:=by unfold z2j at h;exact all_eq_true.1 h k hk
def z66 (c:Xe)(k:Int):Xb:=(idx c.c_ k).getD ty0
abbrev zhu (c:Xe):Prop:=(∀ s∈c.e_,0<=s.m_/\s.m_<4294967296)/\∀ i∈c.d_,0<=i.m_/\i.m_<4294967296
theorem ych {n:Nat}{c:Xe}(h:znc c):y5g n c=some (c.g_,c.c_,c.e_,c.d_):=by rw [yam,zl h.s,zl h.r,zl h.l,zl h.i]
structure yae (c:Xe) (S:List Xj):Prop where
 len:S.length=c.e_.length
 ok:∀ (j:Nat) (z:Xc) (x:Xj),c.e_[j]?=some z->S[j]?=some x->zxq c z.s_ x.y_
structure ylo (c:Xe) (O:List (List Int)):Prop where
 len:O.length=2 * c.g_.length
 ok:∀ (j:Nat) (p:Xa) (e:Nat) (l:List Int),c.g_[j]?=some p->e<2->O[2 * j+e]?=some l->((l.length:Nat):Int)=p.r_
section
variable {c:Xe}
end
abbrev Ten:Type:=(List Xa)×(List Xb)×(List Xc)×(List Xd)×(List Xj)×(List Xj)×(List (List Int))×(List (List Int))×(List (List Int))×Int
section
variable {P:Program}{T:TT}{pro:List Nat}{R R' S A V:Type}{g:R->R'}
end
noncomputable def dn (n:Nat)(c:Xe)(G P:List (List Int))(i:Xd)(R S:List Xj)(O:List (List Int)):Option Ten :=
 (y6j n).G ((⟨⟨c.g_,c.c_,c.e_,[]⟩,R,S,O,G,P,0⟩:Xl),i)
section
variable {n:Nat}{c:Xe}
end
def z2x (o:List Xh):List Xh:=o.filter λx=>!(x.a_==36)
theorem zap (a b:List Xh):z2x (a++b)=z2x a++z2x b:=by unfold z2x;rw [filter_append]
theorem z33 (o:List Xh)(x:Xh):z1i (o++[x])=(x.a_==36)/\z60 (o++[x])=x.o_:=by unfold z1i z60;simp
theorem ze7 (c:Xe)(i:Xd)(l:List Xd)(k:Nat)(s:List Bool)(o:List Xh):goR c (i::l) k s o=bif z1g c i s o then goR c l (k+1) (z1x i s o).1 (z1x i s o).2 else .inl k:=rfl
section
variable {c:Xe}
end
abbrev MSt:Type:=Int×List Xj×List Xj×List (List Int)
section
variable {n:Nat}{c:Xe}{G P:List (List Int)}
structure Inv (c:Xe) (set:List Bool) (o:List Xh) (m:MSt):Prop where
 skip:0<=m.1
 regs:m.1=0->zxs c set m.2.1
 opens:∀ (j:Nat) (x:Xh),(z2x o)[j]?=some x->(j:Int)+m.1<=(z2x o).length->zxs c x.G_ m.2.1
 slots:yae c m.2.2.1
 out:ylo c m.2.2.2
end
section
variable {P:Program}{T:TT}{pro:List Nat}{R S A V:Type}{Q:R->Prop}
end
section
variable {n:Nat}{c:Xe}{G P:List (List Int)}
end
section
variable {n:Nat}{c:Xe}
end
section
variable {n:Nat}{c:Xe}
end
section
variable {n:Nat}{c:Xe}
end
def yf8 (a:Xe):Nat:=a.g_.length+a.c_.length+a.e_.length+a.d_.length+200001
section
variable {n:Nat}{c:Xe}
def z15:List Xd->List Bool->Bool
 | [],_=>true
 | i::l,s=>bif zx i then (bif (s[i.D_.toNat]?).getD false then false else z15 l (s.set i.D_.toNat true)) else z15 l s
theorem zcn {d:Xe}(hL:d.d_.length<=1000000)(hf:∀ i∈d.d_,z20 d i=true):∀ (j k f:Nat) (s:List Bool),k+j=d.d_.length->j<f->s.length=d.c_.length ->
  ∃ b,zk (zgt n d ()) f ((k:Int),s)=some b/\(match b with | .go _=>False | .out _=>z15 (d.d_.drop k) s=true | .ret _=>z15 (d.d_.drop k) s=false)
 | 0,k,f+1,s,hk,_,hs=>by
  obtain rfl:k=d.d_.length:=by omega
  rw [drop_length];unfold zk;rw [zjb];simp only [show decide ((d.d_.length:Int)<(d.d_.length:Int))=false by simp,cond_false];exact ⟨_,rfl,rfl⟩
 | j+1,k,f+1,s,hk,hj,hs=>by
  have hkl:k<d.d_.length:=by omega
  have e1:decide ((k:Int)<(d.d_.length:Int))=true:=by simp;omega
  rw [drop_eq_getElem_cons hkl];unfold zk;rw [zjb];unfold z15;simp only [e1,cond_true,z2b hkl,Option.bind_some,zod,z22 (show k<4611686018427387904 by omega)];cases hse:zx d.d_[k] with
  | false =>simp only [Bool.not_false,cond_true,cond_false];exact zcn hL hf j (k+1) f s (by omega) (by omega) hs
  | true =>
   obtain ⟨t,ht,_⟩:=z55 (hf _ (getElem_mem hkl)) hse;obtain ⟨a,b,_⟩:=y3j ht;have hD:d.d_[k].D_.toNat<s.length:=by omega
   have eD:s[d.d_[k].D_.toNat]?=some (s[d.d_[k].D_.toNat]'hD):=getElem?_eq_getElem hD;simp only [Bool.not_true,cond_false,cond_true,eD,Option.bind_some,getD_some];rw [zl (by omega),zl (by omega)];cases s[d.d_[k].D_.toNat]'hD with
   | true=>exact ⟨_,rfl,rfl⟩
   | false =>simp only [cond_false];exact zcn hL hf j (k+1) f _ (by omega) (by omega) (by rw [length_set];exact hs)
theorem zn1 {d:Xe}(hn:100000<n)(hR:d.c_.length<=20000)(hL:d.d_.length<=40000)(hf:∀ i∈d.d_,z20 d i=true):zkx n d=some (z15 d.d_ (z26 d)):=by
 rw [yan];have i1:=z57 (L:=d.c_.length) (body:=zgs n d ()) (λk=>((k:Int),replicate k false)) (λk hk=>?_) (y:=((d.c_.length:Int),replicate d.c_.length false)) ?_ d.c_.length 0 n (by omega) (by omega)
 ·have i1:zk (zgs n d ()) n (0,[])=_:=i1;rw [i1];simp only [Option.bind_some,Bo.then];obtain ⟨b,e1,e2⟩:=zcn (n:=n) (d:=d) (by omega) hf d.d_.length 0 n (z26 d) (by omega) (by omega) (by simp);have e1:zk (zgt n d ()) n (0,replicate d.c_.length false)=_:=e1;rw [e1];rw [drop_zero] at e2;cases b with
  | go s=>exact e2.elim
  | out y =>have e2:z15 d.d_ (z26 d)=true:=e2;rw [e2];rfl
  | ret z =>have e2:z15 d.d_ (z26 d)=false:=e2;rw [e2];rfl
 ·rw [zja];have e1:decide ((k:Int)<(d.c_.length:Int))=true:=by simp;omega
  simp only [e1,cond_true];rw [zl (by simp;omega),z22 (by omega),List.replicate_succ']
 ·rw [zja];simp
end
def nrO (op:Int):Nat:=match z4s op with
 | some r=>bif r.a==0 then 0 else bif r.b==0 then 1 else bif r.c==0 then 2 else 3
 | none=>0
theorem yno (op:Int):nrO op<=3:=by
 unfold nrO;split
 ·rename_i r _;cases r.a==0<;>cases r.b==0<;>cases r.c==0<;>decide
 ·decide
theorem z5e (i:Xd):z12 i=[i.A_,i.B_,i.C_].take (nrO i.a_)/\nrO i.a_<=3:=by
 obtain ⟨op,d,a,b,cc,N,bits⟩:=i;rcases z5i op with (rfl | rfl | rfl | rfl | rfl | rfl | rfl | rfl | rfl | rfl | rfl | rfl | rfl | rfl | rfl | rfl | rfl | rfl | rfl | rfl | rfl | rfl | rfl | rfl | rfl | rfl | rfl | rfl | rfl | rfl | rfl | rfl | rfl | rfl | rfl | rfl | rfl) | h
 iterate 37 (· exact ⟨by kernel_rfl,yno _⟩)
 simp only [z12,nrO,z4k h];exact ⟨rfl,by decide⟩
theorem yks (i:Xd):(z12 i).length=nrO i.a_:=by obtain ⟨h1,h2⟩:=z5e i;rw [h1,length_take];simp;omega
theorem zq4 {i:Xd}(h:0<nrO i.a_):i.A_∈z12 i:=by
 rw [(z5e i).1];generalize nrO i.a_=k at *
 match k,h with
 | k+1,_=>simp
theorem ykq {i:Xd}(h:1<nrO i.a_):i.B_∈z12 i:=by
 rw [(z5e i).1];generalize nrO i.a_=k at *
 match k,h with
 | k+2,_=>simp
theorem ykr {i:Xd}(h:2<nrO i.a_):i.C_∈z12 i:=by
 rw [(z5e i).1];generalize nrO i.a_=k at *
 match k,h with
 | k+3,_=>simp
def atR (al:List Int)(k:Int):Int:=(al[k.toNat]?).getD 0
def rdI (al:List Int)(i:Xd):Xd :=
 ⟨i.a_,i.D_,bif Nat.blt 0 (nrO i.a_) then atR al i.A_ else i.A_,bif Nat.blt 1 (nrO i.a_) then atR al i.B_ else i.B_,bif Nat.blt 2 (nrO i.a_) then atR al i.C_ else i.C_,i.N_,i.m_⟩
def InR (R:Nat)(i:Xd):Prop:=∀ y∈z12 i,0<=y/\y<R
theorem zcq {al:List Int}{R:Nat}(h:al.length=R){k:Int}(hk:0<=k/\k<R):al[k.toNat]?=some (atR al k):=by
 unfold atR;have:k.toNat<al.length:=by omega
 rw [getElem?_eq_getElem this];rfl
theorem yas {n:Nat}{sc:List (List Xg)}{al:List Int}{i:Xd}{R:Nat}(hn:10<n)(ha:al.length=R)(hR:R<=1000000)(hi:InR R i) :
  y5m n (sc,al,i)=some (sc,al,(rdI al i).a_,(rdI al i).D_,(rdI al i).A_,(rdI al i).B_,(rdI al i).C_,(rdI al i).N_,(rdI al i).m_):=by
 obtain ⟨m,rfl⟩:∃ m,n=m+4:=⟨n - 4,by omega⟩
 rw [yar];dsimp only;rw [zwe];simp only [Option.bind_some,yks];obtain ⟨hr,h3⟩:=z5e i;have hA:=λh=>hi i.A_ (zq4 (i:=i) h);have hB:=λh=>hi i.B_ (ykq (i:=i) h);have hC:=λh=>hi i.C_ (ykr (i:=i) h);unfold rdI;generalize nrO i.a_=k at *
 have one:∀ {m:Nat} (s s':Yat),z3g (m+4) (sc,al,i) (k:Int) s=some (.go s')->∀ f,zk (z3g (m+4) (sc,al,i) (k:Int)) (f+1) s=zk (z3g (m+4) (sc,al,i) (k:Int)) f s':=λs s' h f=>by
  conv=>lhs;unfold zk
  rw [h]
 have out:∀ {m:Nat} (s:Yat),s.1=(k:Int)->∀ f,zk (z3g (m+4) (sc,al,i) (k:Int)) (f+1) s=some (.out s):=λs h f=>by
  conv=>lhs;unfold zk
  rw [z9w,h];simp;rw [<- h]
 have s0:∀ {m:Nat} (A B C:Int),0<k->0<=A/\A<R->z3g (m+4) (sc,al,i) (k:Int) (0,i.a_,i.D_,A,B,C,i.N_)=some (.go (1,i.a_,i.D_,atR al A,B,C,i.N_)):=λA B C hk hA=>by
  rw [z9w];have e1:decide ((0:Int)<(k:Int))=true:=by simp;omega
  dsimp only;rw [e1,cond_true,show idx [2,3,4] (0:Int)=some 2 from rfl,Option.bind_some,show z3k [some i.a_,some i.D_,some A,some B,some C,some i.N_,none] 2=some A from rfl,Option.bind_some,zl (by rw [ha];exact hA),zcq ha hA];rfl
 have s1:∀ {m:Nat} (A B C:Int),1<k->0<=B/\B<R->z3g (m+4) (sc,al,i) (k:Int) (1,i.a_,i.D_,A,B,C,i.N_)=some (.go (2,i.a_,i.D_,A,atR al B,C,i.N_)):=λA B C hk hA=>by
  rw [z9w];have e1:decide ((1:Int)<(k:Int))=true:=by simp;omega
  dsimp only;rw [e1,cond_true,show idx [2,3,4] (1:Int)=some 3 from rfl,Option.bind_some,show z3k [some i.a_,some i.D_,some A,some B,some C,some i.N_,none] 3=some B from rfl,Option.bind_some,zl (by rw [ha];exact hA),zcq ha hA];rfl
 have s2:∀ {m:Nat} (A B C:Int),2<k->0<=C/\C<R->z3g (m+4) (sc,al,i) (k:Int) (2,i.a_,i.D_,A,B,C,i.N_)=some (.go (3,i.a_,i.D_,A,B,atR al C,i.N_)):=λA B C hk hA=>by
  rw [z9w];have e1:decide ((2:Int)<(k:Int))=true:=by simp;omega
  dsimp only;rw [e1,cond_true,show idx [2,3,4] (2:Int)=some 4 from rfl,Option.bind_some,show z3k [some i.a_,some i.D_,some A,some B,some C,some i.N_,none] 4=some C from rfl,Option.bind_some,zl (by rw [ha];exact hA),zcq ha hA];rfl
 match k,h3 with
 | 0,_ =>rw [show m+4=m+3+1 from rfl,out _ rfl];rfl
 | 1,_ =>rw [show zk (z3g (m+4) (sc,al,i) ((1:Nat):Int)) (m+4)=zk (z3g (m+4) (sc,al,i) ((1:Nat):Int)) (m+2+1+1) from rfl,one _ _ (s0 _ _ _ (by decide) (hA (by decide))),out _ rfl];rfl
 | 2,_ =>rw [show zk (z3g (m+4) (sc,al,i) ((2:Nat):Int)) (m+4)=zk (z3g (m+4) (sc,al,i) ((2:Nat):Int)) (m+1+1+1+1) from rfl,one _ _ (s0 _ _ _ (by decide) (hA (by decide))),one _ _ (s1 _ _ _ (by decide) (hB (by decide))),out _ rfl];rfl
 | 3,_ =>rw [show zk (z3g (m+4) (sc,al,i) ((3:Nat):Int)) (m+4)=zk (z3g (m+4) (sc,al,i) ((3:Nat):Int)) (m+1+1+1+1) from rfl,one _ _ (s0 _ _ _ (by decide) (hA (by decide))),one _ _ (s1 _ _ _ (by decide) (hB (by decide))),one _ _ (s2 _ _ _ (by decide) (hC (by decide))),out _ rfl];rfl
 | k+4,h=>omega
def mK (x:Xf)(y:Xg):Bool:=kf8 [.int .i64 x.i_.a_,.int .i64 x.i_.D_,.int .i64 x.i_.A_,.int .i64 x.i_.B_,.int .i64 x.i_.C_,.int .i64 x.i_.N_,.int .u32 x.i_.m_,.int .i64 x.t_.j_,.int .i64 x.t_.o_] y
theorem zpy {x:Xf}{y:Xg}:mK x y=true↔x=y.k_:=by
 obtain ⟨⟨a1,a2,a3,a4,a5,a6,a7⟩,⟨a8,a9⟩⟩:=x;obtain ⟨⟨⟨b1,b2,b3,b4,b5,b6,b7⟩,⟨b8,b9⟩⟩,v⟩:=y;simp [mK,kf8];constructor
 ·rintro ⟨h1,h2,h3,h4,h5,h6,h7,h8,h9⟩;exact ⟨⟨h1,h2,h3,h4,h5,h6,h7⟩,h8,h9⟩
 ·rintro ⟨⟨h1,h2,h3,h4,h5,h6,h7⟩,h8,h9⟩;exact ⟨h1,h2,h3,h4,h5,h6,h7,h8,h9⟩
abbrev Scs:Type:=List (List Xg)
def z4f (sc:Scs)(x:Xf):Option Int:=sc.findSome? λm=>(m.find? (mK x)).map (·.v_)
theorem yau {n:Nat}{sc:Scs}{al:List Int}{x:Xf}(hs:sc.length<1000000)(hn:sc.length<n) :
  y5n n (sc,al,x)=some (match z4f sc x with | some r=>(r,true,sc,al) | none=>(0,false,sc,al)):=by
 rw [yat]
 have key:∀ (j k f:Nat),k+j=sc.length->j<f->zk (zgw n (sc,al,x) ()) f (k:Int)=some (match z4f (sc.drop k) x with | some r=>.ret r | none=>.out (sc.length:Int)):=by
  intro j
  induction j with
  | zero =>
   intro k f hk hf;obtain ⟨f,rfl⟩:∃ g,f=g+1:=⟨f - 1,by omega⟩
   obtain rfl:k=sc.length:=by omega
   rw [drop_length];unfold zk;rw [zjf];simp [z4f]
  | succ j ih =>
   intro k f hk hf;obtain ⟨f,rfl⟩:∃ g,f=g+1:=⟨f - 1,by omega⟩
   have hkl:k<sc.length:=by omega
   have e1:decide ((k:Int)<(sc.length:Int))=true:=by simp;omega
   unfold zk;rw [zjf];dsimp only;rw [e1,cond_true,zl (by omega),Int.toNat_natCast,getElem?_eq_getElem hkl,Option.bind_some,Option.bind_some,drop_eq_getElem_cons hkl];have em:(kf8 [.int .i64 x.i_.a_,.int .i64 x.i_.D_,.int .i64 x.i_.A_,.int .i64 x.i_.B_,.int .i64 x.i_.C_,.int .i64 x.i_.N_,.int .u32 x.i_.m_,.int .i64 x.t_.j_,.int .i64 x.t_.o_])=mK x:=rfl;rw [em]
   have ef:z4f (sc[k]::sc.drop (k+1)) x=match (sc[k].find? (mK x)).map (·.v_) with | some r=>some r | none=>z4f (sc.drop (k+1)) x:=by unfold z4f;rw [List.findSome?_cons];cases (sc[k].find? (mK x)).map (·.v_)<;>rfl
   rw [ef]
   have ea:List.any sc[k] (mK x)=(sc[k].find? (mK x)).isSome:=by rw [Bool.eq_iff_iff,any_eq_true,List.find?_isSome]
   rw [ea];cases hf2:sc[k].find? (mK x) with
   | some y=>simp
   | none =>simp only [Option.isSome_none,cond_false,Option.map_none,z22 (show k<4611686018427387904 by omega)];exact ih (k+1) f (by omega) (by omega)
 have:=key sc.length 0 n (by omega) hn;have this:zk (zgw n (sc,al,x) ()) n 0=_:=this;rw [this,drop_zero];cases z4f sc x<;>rfl
def z3w (c:Xe)(j:Xd):Xf:=⟨⟨j.a_,0,j.A_,j.B_,j.C_,j.N_,j.m_⟩,z66 c j.D_⟩
def z6z (sc:Scs)(x:Xf)(d:Int):Scs:=sc.set (sc.length - 1) (z9m (mK x) ⟨x,d⟩ ((sc[sc.length - 1]?).getD []))
def cpy (c:Xe)(j:Xd):Bool:=j.a_==3&&eqTy (z66 c j.A_) (z66 c j.D_)
def mem (j:Xd):Bool:=zx j&&(!(j.a_==32)&&!(j.a_==3))
def ruS (c:Xe)(j:Xd)(sc:Scs)(al:List Int):Bool×Scs×List Int :=
 bif j.a_==34 then (true,sc++[[]],al) else bif j.a_==35 then (true,sc.take (sc.length - 1),al) else
 bif cpy c j then (false,sc,al.set j.D_.toNat j.A_) else
 bif mem j then (match z4f sc (z3w c j) with
  | some r=>(false,sc,al.set j.D_.toNat r)
  | none=>(true,z6z sc (z3w c j) j.D_,al))
 else (true,sc,al)
def ruL (c:Xe):List Xd->Scs->List Int->List Xd
 | [],_,_=>[]
 | i::l,sc,al=>(bif (ruS c (rdI al i) sc al).1 then [rdI al i] else [])++ruL c l (ruS c (rdI al i) sc al).2.1 (ruS c (rdI al i) sc al).2.2
structure zak (R:Nat) (al:List Int):Prop where
 len:al.length=R
 rng:∀ y∈al,0<=y/\y<R
section
variable {n:Nat}{c:Xe}{i:Xd}{set:List Bool}{o:List Xh}
theorem zat (h:z20 c i=true):InR c.c_.length i:=by
 have key:∀ {s k:Int} {d:Xb},z13 c s k d=true->(s==0)=false->0<=k/\k<c.c_.length:=λh hs=>by obtain ⟨t,ht⟩:=z65 h hs;exact (z50 ht).2
 intro y hy;unfold z20 at h;unfold z12 at hy;split at h
 ·cases h
 ·rename_i r hr;rw [hr] at hy;simp only [and_eq_true] at h;simp only [mem_append] at hy;rcases hy with hy | hy | hy
  ·cases hs:r.a==0 with | true=>rw [hs] at hy;cases hy | false=>rw [hs] at hy;obtain rfl:=mem_singleton.1 hy;exact key h.2.1 hs
  ·cases hs:r.b==0 with | true=>rw [hs] at hy;cases hy | false=>rw [hs] at hy;obtain rfl:=mem_singleton.1 hy;exact key h.2.2.1 hs
  ·cases hs:r.c==0 with | true=>rw [hs] at hy;cases hy | false=>rw [hs] at hy;obtain rfl:=mem_singleton.1 hy;exact key h.2.2.2.1 hs
theorem zl5 (h:i.a_=34):z1x i set o=(set,o++[⟨34,i.N_,set⟩])/\z2x (o++[⟨34,i.N_,set⟩])=z2x o++[⟨34,i.N_,set⟩]:=by
 refine ⟨?_,?_⟩
 ·unfold z1x;rw [h];rfl
 ·rw [zap];rfl
theorem zl6 (h:i.a_=35)(hst:z1g c i set o=true):∃ o' x,o=o'++[x]/\z2x o=z2x o'++[x]/\z1x i set o=(x.G_,o'):=by
 unfold z1g at hst;simp only [and_eq_true] at hst;have hpl:=hst.2.2.2;unfold z5j at hpl;rw [h] at hpl;have hpl:(decide ((o.length:Int) > 0)&&!(z1i o))=true:=hpl;rcases eq_nil_or_concat o with rfl | ⟨o',x,rfl⟩
 ·simp at hpl
 ·rw [concat_eq_append] at hpl ⊢;rw [(z33 o' x).1] at hpl;simp only [and_eq_true] at hpl;refine ⟨o',x,rfl,?_,?_⟩
  ·rw [zap];congr 1;unfold z2x;rw [List.filter_cons,hpl.2];rfl
  ·unfold z1x;rw [h];simp
theorem yby (e34:i.a_≠34)(e35:i.a_≠35)(hst:z1g c i set o=true):z2x (z1x i set o).2=z2x o/\(z1x i set o).1=bif zx i then set.set i.D_.toNat true else set:=by
 unfold z1g at hst;simp only [and_eq_true] at hst;have hpl:=hst.2.2.2;have e34:(i.a_==34)=false:=by simpa using e34
 have e35:(i.a_==35)=false:=by simpa using e35
 unfold z1x;rw [e34,e35];cases e36:i.a_==36 with
 | true =>
  have h:i.a_=36:=by simpa using e36
  have hs:zx i=false:=by unfold zx;rw [h];rfl
  rw [hs];refine ⟨?_,rfl⟩;show z2x (o++[⟨i.a_,i.N_,set⟩])=z2x o;rw [zap,h];show z2x o++[]=_;rw [append_nil]
 | false =>
  cases e37:i.a_==37 with
  | true =>
   have h:i.a_=37:=by simpa using e37
   have hs:zx i=false:=by unfold zx;rw [h];rfl
   rw [hs];refine ⟨?_,rfl⟩;show z2x o.dropLast=z2x o;unfold z5j at hpl;rw [h] at hpl;have hpl:z1i o=true:=hpl;rcases eq_nil_or_concat o with rfl | ⟨o',x,rfl⟩
   ·rfl
   ·rw [concat_eq_append] at hpl ⊢;rw [(z33 o' x).1] at hpl;rw [List.dropLast_concat,zap];have:z2x [x]=[]:=by unfold z2x;simp [hpl]
    rw [this,append_nil]
  | false =>cases hs:zx i<;>exact ⟨rfl,rfl⟩
theorem zhr (h:z1g c i set o=true):z20 c i=true:=by unfold z1g at h;simp only [and_eq_true] at h;exact h.1
theorem zkq {R:Nat}{al:List Int}(h:zak R al){k:Int}(hk:0<=k/\k<R):0<=atR al k/\atR al k<R:=by have:=zcq h.len hk;exact h.rng _ (List.mem_of_getElem? this)
theorem z67 {k:Int}(h:0<=k/\k<c.c_.length):idx c.c_ k=some (z66 c k):=by obtain ⟨y,h1,h2⟩:=y7r h;unfold z66;rw [h1];rfl
theorem zlf {R:Nat}{al:List Int}(h:zak R al)(d:Nat){x:Int}(hx:0<=x/\x<R):zak R (al.set d x) :=
 ⟨by rw [length_set];exact h.len,λy hy=>by
  rcases List.mem_or_eq_of_mem_set hy with hy | rfl
  ·exact h.rng y hy
  ·exact hx⟩
def y4q (R:Nat)(sc:Scs):Prop:=∀ m∈sc,∀ y∈m,0<=y.v_/\y.v_<R
theorem zmb {sc:Scs}{x:Xf}{r:Int}(h:z4f sc x=some r):∃ m∈sc,∃ y∈m,y.k_=x/\y.v_=r:=by unfold z4f at h;obtain ⟨m,hm,h⟩:=List.exists_of_findSome?_eq_some h;obtain ⟨y,hy,rfl⟩:=Option.map_eq_some_iff.1 h;exact ⟨m,hm,y,List.mem_of_find?_eq_some hy,(zpy.1 (List.find?_some hy)).symm,rfl⟩
theorem zyj {sc:Scs}{x:Xf}(h:z4f sc x=none):∀ m∈sc,∀ y∈m,y.k_≠x:=by unfold z4f at h;intro m hm y hy he;have:=List.findSome?_eq_none_iff.1 h m hm;simp only [Option.map_eq_none_iff,List.find?_eq_none] at this;exact this y hy (zpy.2 he.symm)
theorem y6t {x:Xf}{d:Int}{m:List Xg}{y:Xg}(h:y∈z9m (mK x) ⟨x,d⟩ m):y∈m\/y=⟨x,d⟩:=by
 unfold z9m at h;split at h
 ·rcases List.mem_or_eq_of_mem_set h with h | h
  ·exact .inl h
  ·exact .inr h
 ·rcases mem_append.1 h with h | h
  ·exact .inl h
  ·exact .inr (mem_singleton.1 h)
theorem zmz {sc:Scs}{x:Xf}{d:Int}{m:List Xg}(h:m∈z6z sc x d):m∈sc\/(∀ y∈m,(∃ m'∈sc,y∈m')\/y=⟨x,d⟩):=by
 unfold z6z at h;rcases List.mem_or_eq_of_mem_set h with h | rfl
 ·exact .inl h
 ·right;intro y hy;rcases y6t hy with hy | hy
  ·left;cases hg:sc[sc.length - 1]? with | none=>rw [hg] at hy;cases hy | some m=>rw [hg] at hy;exact ⟨m,List.mem_of_getElem? hg,hy⟩
  ·exact .inr hy
theorem zvm {al:List Int}:zx (rdI al i)=zx i:=rfl
theorem y6w {R:Nat}{al:List Int}(h:zak R al)(hi:InR R i)(ho:i.a_=3):0<=(rdI al i).A_/\(rdI al i).A_<R:=by
 have h0:0<nrO i.a_:=by rw [ho];decide
 have e:(rdI al i).A_=atR al i.A_:=by unfold rdI;rw [ho];rfl
 rw [e];exact zkq h (hi _ (zq4 h0))
theorem zy8 {v:List Xa×List Xb×List Xc}{k:Nat}{out:List Xd}{sc:Scs}{al:List Int}(hn:1000010<n)(hR:c.c_.length<=1000000)(hf:z20 c i=true)(hal:zak c.c_.length al)
  (h1:1<=sc.length) (h2:sc.length<=100000) (ho:out.length<=100000) (hk:k<1000000) (e1:decide ((k:Int)<(c.d_.length:Int))=true) (hi:idx c.d_ (k:Int)=some i) :
  zcy n c v ((k:Int),out,sc,al)=some (.go (((k+1:Nat):Int),out++(bif (ruS c (rdI al i) sc al).1 then [rdI al i] else []),(ruS c (rdI al i) sc al).2.1,(ruS c (rdI al i) sc al).2.2)):=by
 have hIn:=zat hf;rw [zjd];dsimp only;rw [e1,cond_true,hi,Option.bind_some,yas (by omega) hal.len hR hIn,Option.bind_some];have wk:i64.wrap ((k:Int)+1)=((k+1:Nat):Int):=z22 (by omega);have wl:i64.wrap ((sc.length:Int) - 1)=((sc.length - 1:Nat):Int):=by rw [zf6 (by omega) (by omega)];omega
 have fin:∀ {R:Type} (s:Scs×List Int),need ((out.length+([rdI al i]:List Xd).length) * 56<=140737488355328) (some (Bo.go (((k+1:Nat):Int),out++[rdI al i],s.1,s.2)):Option (Bo (Int×List Xd×Scs×List Int) (Int×List Xd×Scs×List Int) R))=some (.go (((k+1:Nat):Int),out++[rdI al i],s.1,s.2)):=λs=>zl (by simp;omega);have hsA:(i.a_==3)=true->0<=(rdI al i).A_/\(rdI al i).A_<c.c_.length:=λh=>y6w hal hIn (by simpa using h)
 have hsD:zx i=true->0<=i.D_/\i.D_<c.c_.length:=λh=>by obtain ⟨t,ht,_⟩:=z55 hf h;exact (z50 ht).2
 have h3s:(i.a_==3)=true->zx i=true:=λh=>by
  have h:i.a_=3:=by simpa using h
  unfold zx;rw [h];rfl
 unfold ruS;have eo:(rdI al i).a_=i.a_:=rfl;have eD:(rdI al i).D_=i.D_:=rfl;rw [eo];simp only [wk,wl];cases e34:i.a_==34 with
 | true =>simp only [cond_true];rw [zl (by simp;omega),Option.bind_some,orRet_inl];exact fin (sc++[[]],al)
 | false =>
  simp only [cond_false];cases e35:i.a_==35 with
  | true =>simp only [cond_true];rw [zl (by omega),zl (by omega),Option.bind_some,orRet_inl,Int.toNat_natCast];exact fin (sc.take (sc.length - 1),al)
  | false =>
   simp only [cond_false]
   have eC:∀ {R:Type} {a:Scs} {b:List Int} {p d q r s t u:Int},(bif (i.a_==3) then ((idx c.c_ (rdI al i).A_).bind λy11=>(idx c.c_ i.D_).bind λy12=>some (.inl ((y11.j_==y12.j_&&(y11.o_==y12.o_&&true)),a,b,p,d,q,r,s,t,u))) else (some (.inl (false,a,b,p,d,q,r,s,t,u))):Option (Bool×Scs×List Int×Int×Int×Int×Int×Int×Int×Int⊕R))=some (.inl (cpy c (rdI al i),a,b,p,d,q,r,s,t,u)):=by
    intro R a b p d q r s t u;unfold cpy;rw [eo,eD];cases e3:i.a_==3 with
    | false=>rfl
    | true =>rw [cond_true,z67 (hsA e3),z67 (hsD (h3s e3))];rfl
   rw [eD,eC,Option.bind_some,orRet_inl];dsimp only;cases hcp:cpy c (rdI al i) with
   | true =>
    have e3:(i.a_==3)=true:=by unfold cpy at hcp;rw [eo] at hcp;exact (and_eq_true_iff.1 hcp).1
    simp only [cond_true,cond_false];obtain ⟨d0,d1⟩:=hsD (h3s e3);rw [zl (by rw [hal.len];omega),zcq hal.len ⟨d0,d1⟩,Option.bind_some,Option.bind_some,orRet_inr,append_nil]
   | false =>
    simp only [cond_false];have ei:(⟨i.a_,i.D_,(rdI al i).A_,(rdI al i).B_,(rdI al i).C_,(rdI al i).N_,(rdI al i).m_⟩:Xd)=rdI al i:=rfl;rw [ei,zj9]
    have eM:∀ {R:Type} {a:Scs} {b:List Int} {p d q r s t u:Int},((some (zx (rdI al i))).bind (λy14=>bif y14 then (bif (i.a_ != (32:Int)) then (some (.inl ((i.a_ != (3:Int)),a,b,p,d,q,r,s,t,u))) else (some (.inl (false,a,b,p,d,q,r,s,t,u)))) else (some (.inl (false,a,b,p,d,q,r,s,t,u)))):Option (Bool×Scs×List Int×Int×Int×Int×Int×Int×Int×Int⊕R))=some (.inl (mem (rdI al i),a,b,p,d,q,r,s,t,u)):=by intro R a b p d q r s t u;unfold mem;rw [eo];unfold bne;cases zx (rdI al i)<;>cases i.a_==32<;>rfl
    rw [eM,Option.bind_some,orRet_inl];dsimp only;cases hm:mem (rdI al i) with
    | false =>simp only [cond_false,cond_true,Option.bind_some,orRet_inl];exact fin (sc,al)
    | true =>
     have hs:zx i=true:=by unfold mem at hm;exact (and_eq_true_iff.1 hm).1
     obtain ⟨d0,d1⟩:=hsD hs;simp only [cond_true];rw [z67 ⟨d0,d1⟩,Option.bind_some];have ek:(⟨⟨i.a_,0,(rdI al i).A_,(rdI al i).B_,(rdI al i).C_,(rdI al i).N_,(rdI al i).m_⟩,z66 c i.D_⟩:Xf)=z3w c (rdI al i):=rfl;rw [ek,yau (by omega) (by omega)];cases hfd:z4f sc (z3w c (rdI al i)) with
     | some r =>simp only [Option.bind_some,cond_true,cond_false];rw [zl (by rw [hal.len];omega),zcq hal.len ⟨d0,d1⟩,Option.bind_some,Option.bind_some,orRet_inr,append_nil]
     | none =>
      simp only [Option.bind_some,cond_true,cond_false,wl,Int.toNat_natCast];rw [zl (by omega)];have hl:sc.length - 1<sc.length:=by omega
      rw [getElem?_eq_getElem hl,Option.bind_some,Option.bind_some,Option.bind_some,orRet_inl]
      have ep:z6z sc (z3w c (rdI al i)) i.D_=sc.set (sc.length - 1) (z9m (mK (z3w c (rdI al i))) ⟨z3w c (rdI al i),i.D_⟩ sc[sc.length - 1]):=by unfold z6z;rw [getElem?_eq_getElem hl];rfl
      rw [ep];exact fin (_,al)
theorem zmy {sc:Scs}{x:Xf}{d:Int}:(z6z sc x d).length=sc.length:=by unfold z6z;rw [length_set]
theorem yl8 {R:Nat}{j:Xd}{sc:Scs}{al:List Int}(hal:zak R al)(hsc:y4q R sc)(hA:j.a_=3->0<=j.A_/\j.A_<R)(hD:zx j=true->0<=j.D_/\j.D_<R) :
  zak R (ruS c j sc al).2.2/\y4q R (ruS c j sc al).2.1/\(ruS c j sc al).2.1.length=(bif j.a_==34 then sc.length+1 else bif j.a_==35 then sc.length - 1 else sc.length):=by
 unfold ruS;cases e34:j.a_==34 with
 | true =>
  refine ⟨hal,λm hm y hy=>?_,by simp⟩;rcases mem_append.1 hm with hm | hm
  ·exact hsc m hm y hy
  ·obtain rfl:=mem_singleton.1 hm;cases hy
 | false =>
  cases e35:j.a_==35 with
  | true=>exact ⟨hal,λm hm y hy=>hsc m (List.mem_of_mem_take hm) y hy,by simp⟩
  | false =>
   simp only [cond_false];cases hcp:cpy c j with
   | true =>
    have e3:j.a_=3:=by unfold cpy at hcp;simpa using (and_eq_true_iff.1 hcp).1
    exact ⟨zlf hal _ (hA e3),hsc,rfl⟩
   | false =>
    simp only [cond_false];cases hm:mem j with
    | false=>exact ⟨hal,hsc,rfl⟩
    | true =>
     have hs:zx j=true:=by unfold mem at hm;exact (and_eq_true_iff.1 hm).1
     simp only [cond_true];cases hfd:z4f sc (z3w c j) with
     | some r =>obtain ⟨m,hm,y,hy,_,rfl⟩:=zmb hfd;exact ⟨zlf hal _ (hsc m hm y hy),hsc,rfl⟩
     | none =>
      refine ⟨hal,λm hm y hy=>?_,zmy⟩;rcases zmz hm with hm | hm
      ·exact hsc m hm y hy
      ·rcases hm y hy with ⟨m',hm',hy'⟩ | rfl
       ·exact hsc m' hm' y hy'
       ·exact hD hs
theorem zvh {v:List Xa×List Xb×List Xc}(hn:1000010<n)(hR:c.c_.length<=1000000)(hL:c.d_.length<=50000):∀ (j k f:Nat) (set:List Bool) (o:List Xh) (r:List Bool×List Xh) (sc:Scs) (al:List Int) (out:List Xd),
  k+j=c.d_.length->j<f->goR c (c.d_.drop k) k set o = .inr r->zak c.c_.length al->y4q c.c_.length sc->sc.length=(z2x o).length+1->sc.length<=k+1->out.length<=k ->
   ∃ sc' al',zk (zcy n c v) f ((k:Int),out,sc,al)=some (.out ((c.d_.length:Int),out++ruL c (c.d_.drop k) sc al,sc',al'))
 | 0,k,f+1,set,o,r,sc,al,out,hk,_,_,_,_,_,_,_=>by
  obtain rfl:k=c.d_.length:=by omega
  rw [drop_length];refine ⟨sc,al,?_⟩;unfold zk;rw [zjd];simp [ruL]
 | j+1,k,f+1,set,o,r,sc,al,out,hk,hf,hg,hal,hsc,hl,hl2,ho=>by
  have hkl:k<c.d_.length:=by omega
  have e1:decide ((k:Int)<(c.d_.length:Int))=true:=by simp;omega
  rw [drop_eq_getElem_cons hkl,ze7] at hg;cases hst:z1g c c.d_[k] set o with
  | false=>rw [hst] at hg;cases hg
  | true =>
   rw [hst,cond_true] at hg;have hfit:=zhr hst;have hIn:=zat hfit
   have hD:zx (rdI al c.d_[k])=true->0<=(rdI al c.d_[k]).D_/\(rdI al c.d_[k]).D_<c.c_.length:=λh=>by obtain ⟨t,ht,_⟩:=z55 hfit h;exact (z50 ht).2
   obtain ⟨q1,q2,q3⟩:=yl8 (c:=c) hal hsc (λh=>y6w hal hIn h) hD
   have hlen:(ruS c (rdI al c.d_[k]) sc al).2.1.length=(z2x (z1x c.d_[k] set o).2).length+1/\(ruS c (rdI al c.d_[k]) sc al).2.1.length<=k+2:=by
    rw [q3,show (rdI al c.d_[k]).a_=c.d_[k].a_ from rfl];by_cases h34:c.d_[k].a_=34
    ·obtain ⟨a,b⟩:=zl5 (set:=set) (o:=o) h34;rw [a,b,h34];simp;omega
    ·by_cases h35:c.d_[k].a_=35
     ·obtain ⟨o',x,a,b,d⟩:=zl6 h35 hst;rw [d,h35];rw [b] at hl;simp at hl ⊢;omega
     ·obtain ⟨a,_⟩:=yby h34 h35 hst;rw [a];have e34:(c.d_[k].a_==34)=false:=by simpa using h34
      have e35:(c.d_[k].a_==35)=false:=by simpa using h35
      rw [e34,e35];simp only [cond_false];omega
   have hout:(out++(bif (ruS c (rdI al c.d_[k]) sc al).1 then [rdI al c.d_[k]] else [])).length<=k+1:=by cases (ruS c (rdI al c.d_[k]) sc al).1<;>simp<;>omega
   obtain ⟨sc',al',e⟩:=zvh hn hR hL j (k+1) f _ _ r _ _ (out++(bif (ruS c (rdI al c.d_[k]) sc al).1 then [rdI al c.d_[k]] else [])) (by omega) (by omega) hg q1 q2 hlen.1 hlen.2 hout;refine ⟨sc',al',?_⟩;unfold zk;rw [zy8 (i:=c.d_[k]) hn hR hfit hal (by omega) (by omega) (by omega) (by omega) e1 (z2b hkl)];simp only;rw [e,drop_eq_getElem_cons hkl,append_assoc];rfl
theorem y7e (hn:100000<n)(hR:c.c_.length<=20000)(hL:c.d_.length<=40000)(hf:∀ i∈c.d_,z20 c i=true):y5l n c=some (z15 c.d_ (z26 c)):=by
 have key:∀ (j k f:Nat) (s:List Bool),k+j=c.d_.length->j<f->s.length=c.c_.length ->
   ∃ b,zk (zgv n c ()) f ((k:Int),s)=some b/\(match b with | .go _=>False | .out _=>z15 (c.d_.drop k) s=true | .ret _=>z15 (c.d_.drop k) s=false):=by
  intro j
  induction j with
  | zero =>
   intro k f s hk hj hs;obtain ⟨f,rfl⟩:∃ g,f=g+1:=⟨f - 1,by omega⟩
   obtain rfl:k=c.d_.length:=by omega
   rw [drop_length];unfold zk;rw [zje];simp only [show decide ((c.d_.length:Int)<(c.d_.length:Int))=false by simp,cond_false];exact ⟨_,rfl,rfl⟩
  | succ j ih =>
   intro k f s hk hj hs;obtain ⟨f,rfl⟩:∃ g,f=g+1:=⟨f - 1,by omega⟩
   have hkl:k<c.d_.length:=by omega
   have e1:decide ((k:Int)<(c.d_.length:Int))=true:=by simp;omega
   rw [drop_eq_getElem_cons hkl];unfold zk;rw [zje];unfold z15;simp only [e1,cond_true,z2b hkl,Option.bind_some,zj9,z22 (show k<4611686018427387904 by omega)];cases hse:zx c.d_[k] with
   | false =>simp only [Bool.not_false,cond_true,cond_false];exact ih (k+1) f s (by omega) (by omega) hs
   | true =>
    obtain ⟨t,ht,_⟩:=z55 (hf _ (getElem_mem hkl)) hse;obtain ⟨a,b,_⟩:=y3j ht;have hD:c.d_[k].D_.toNat<s.length:=by omega
    have eD:s[c.d_[k].D_.toNat]?=some (s[c.d_[k].D_.toNat]'hD):=getElem?_eq_getElem hD;simp only [Bool.not_true,cond_false,cond_true,eD,Option.bind_some,getD_some];rw [zl (by omega),zl (by omega)];cases s[c.d_[k].D_.toNat]'hD with
    | true=>exact ⟨_,rfl,rfl⟩
    | false =>simp only [cond_false];exact ih (k+1) f _ (by omega) (by omega) (by rw [length_set];exact hs)
 rw [yaq,zl (by omega)];have er:replicate ((c.c_.length:Int)).toNat false=z26 c:=by rw [Int.toNat_natCast]
 rw [er];obtain ⟨b,e1,e2⟩:=key c.d_.length 0 n (z26 c) (by omega) (by omega) (by simp);have e1:zk (zgv n c ()) n (0,z26 c)=_:=e1;rw [e1];rw [drop_zero] at e2;cases b with
 | go s=>exact e2.elim
 | out y =>have e2:z15 c.d_ (z26 c)=true:=e2;rw [e2];rfl
 | ret z =>have e2:z15 c.d_ (z26 c)=false:=e2;rw [e2];rfl
def z3s (R:Nat):List Int:=(range R).map λ(k:Nat)=>(k:Int)
theorem zmu (R:Nat):zak R (z3s R):=⟨by simp [z3s],λy hy=>by obtain ⟨k,hk,rfl⟩:=List.mem_map.1 hy;have:=List.mem_range.1 hk;omega⟩
def z52 (c:Xe):List Xd:=bif z15 c.d_ (z26 c) then ruL c c.d_ [[]] (z3s c.c_.length) else c.d_
def zkb (c:Xe):Int×List Xa×List Xb×List Xc×List Xd :=
 bif (chk c).1 != 0 then (160,[],[],[],[]) else (0,c.g_,c.c_,c.e_,z52 c)
theorem y7a (hn:1000010<n)(hs:znc c)(hu:zhu c):y5k n c=some (zkb c):=by
 rw [yap,(zo2 (by omega) hu.1 hu.2).1];simp only [Option.bind_some];unfold zkb;cases hc:(chk c).1 != 0 with
 | true=>rfl
 | false =>
  have hc0:(chk c).1=0:=by simpa using hc
  obtain ⟨_,q1,q2,q3,q4,q5,r,q6,q7⟩:=zcs hc0;simp only [decide_eq_false_iff_not] at q1 q2 q3;have e1:yde n c.g_=need (c.g_.length * 32<=140737488355328) (some c.g_):=rfl;have e2:ydf n c.c_=need (c.c_.length * 16<=140737488355328) (some c.c_):=rfl;have e3:ydg n c.e_=need (c.e_.length * 32<=140737488355328) (some c.e_):=rfl;have e4:ydh n c.d_=need (c.d_.length * 56<=140737488355328) (some c.d_):=rfl;rw [e1,e2,e3,e4,zl hs.s,zl hs.r,zl hs.l,zl hs.i,y7e (by omega) (by omega) (by omega) (ze8 c _ _ _ _ _ q6)];simp only [Option.bind_some,cond_false];unfold z52;cases hsg:z15 c.d_ (z26 c) with
  | false=>rfl
  | true =>
   simp only [Bool.not_true,cond_false,cond_true];rw [zl (by omega)];have er:replicate ((c.c_.length:Int)).toNat (0:Int)=replicate c.c_.length 0:=by rw [Int.toNat_natCast]
   have i1:=z57 (L:=c.c_.length) (body:=zgu n c (c.g_,c.c_,c.e_)) (λk=>((k:Int),z3s k++replicate (c.c_.length - k) 0)) (λk hk=>?_) (y:=((c.c_.length:Int),z3s c.c_.length)) ?_ c.c_.length 0 n (by omega) (by omega)
   ·have i1:zk (zgu n c (c.g_,c.c_,c.e_)) n (0,replicate (c.c_.length - 0) 0)=_:=i1;rw [er];rw [Nat.sub_zero] at i1;rw [i1];simp only [Option.bind_some,Bo.then];obtain ⟨sc',al',e⟩:=zvh (v:=(c.g_,c.c_,c.e_)) hn (by omega) (by omega) c.d_.length 0 n (z26 c) [] r [[]] (z3s c.c_.length) [] (by omega) (by omega) (by rw [drop_zero];exact q6) (zmu _) (λm hm y hy=>by obtain rfl:=mem_singleton.1 hm;cases hy) rfl (by simp) (Nat.le_refl _);have e:zk (zcy n c (c.g_,c.c_,c.e_)) n (0,[],[[]],z3s c.c_.length)=_:=e;rw [drop_zero,List.nil_append] at e;rw [e];rfl
   ·rw [zjc];dsimp only;rw [er,List.length_replicate];have h1:decide ((k:Int)<(c.c_.length:Int))=true:=by simp;omega
    have hlen:(z3s k).length=k:=by simp [z3s]
    have hg:(z3s k++replicate (c.c_.length - k) (0:Int))[k]?=some 0:=by rw [List.getElem?_append_right (by omega),hlen,Nat.sub_self,List.getElem?_replicate,if_pos (by omega)]
    have hst:(z3s k++replicate (c.c_.length - k) (0:Int)).set k (k:Int)=z3s (k+1)++replicate (c.c_.length - (k+1)) 0:=by
     rw [List.set_append_right _ _ (by omega),hlen,Nat.sub_self];obtain ⟨j,hj⟩:∃ j,c.c_.length - k=j+1:=⟨c.c_.length - k - 1,by omega⟩
     rw [hj,show c.c_.length - (k+1)=j by omega,List.replicate_succ,List.set_cons_zero];unfold z3s;rw [List.range_succ,map_append];simp
    rw [h1,cond_true,zl (by simp [hlen];omega),Int.toNat_natCast,hg,Option.bind_some,z22 (by omega),hst]
   ·rw [zjc];simp
end
abbrev on (s:List Bool)(k:Nat):Prop:=(s[k]?).getD false=true
theorem ykw {s:List Bool}{d k:Nat}(h:on s k):on (s.set d true) k:=by
 unfold on at *;rw [getElem?_set];by_cases e:d=k
 ·subst e;rw [if_pos rfl]
  have:d<s.length:=by
   rcases Nat.lt_or_ge d s.length with h' | h'
   ·exact h'
   ·rw [getElem?_eq_none h'] at h;cases h
  rw [if_pos this];rfl
 ·rw [if_neg e];exact h
theorem yc4 {s:List Bool}{d:Nat}(h:d<s.length):on (s.set d true) d:=by unfold on;rw [getElem?_set_self h];rfl
theorem ykv {s:List Bool}{d k:Nat}(h:on (s.set d true) k):on s k\/(k=d/\d<s.length):=by
 unfold on at *;rw [getElem?_set] at h;by_cases e:d=k
 ·right;rw [if_pos e] at h;split at h
  ·exact ⟨e.symm,by omega⟩
  ·cases h
 ·rw [if_neg e] at h;exact .inl h
theorem ykt {op:Int}{r:z4u}(h:z4s op=some r):(r.a==0) = !(Nat.blt 0 (nrO op))/\(r.b==0) = !(Nat.blt 1 (nrO op))/\(r.c==0) = !(Nat.blt 2 (nrO op)):=by
 rcases z5i op with (rfl | rfl | rfl | rfl | rfl | rfl | rfl | rfl | rfl | rfl | rfl | rfl | rfl | rfl | rfl | rfl | rfl | rfl | rfl | rfl | rfl | rfl | rfl | rfl | rfl | rfl | rfl | rfl | rfl | rfl | rfl | rfl | rfl | rfl | rfl | rfl | rfl) | h0
 iterate 37 (· cases h;decide)
 rw [z4k h0] at h;cases h
structure zvs (c d:Xe) (i j:Xd):Prop where
 op:j.a_=i.a_
 bits:j.m_=i.m_
 n:j.N_=i.N_
 D:zx i=true->idx d.c_ j.D_=idx c.c_ i.D_
 D0:zx i=false->j.D_=i.D_
 A:0<nrO i.a_->idx d.c_ j.A_=idx c.c_ i.A_
 A0:¬ 0<nrO i.a_->j.A_=i.A_
 B:1<nrO i.a_->idx d.c_ j.B_=idx c.c_ i.B_
 B0:¬ 1<nrO i.a_->j.B_=i.B_
 C:2<nrO i.a_->idx d.c_ j.C_=idx c.c_ i.C_
 C0:¬ 2<nrO i.a_->j.C_=i.C_
section
variable {c d:Xe}{i j:Xd}{set:List Bool}{o:List Xh}
theorem za7 {s k k':Int}{t:Xb}(h:(s==0)=false->idx d.c_ k'=idx c.c_ k)(h0:(s==0)=true->k'=k):z13 d s k' t=z13 c s k t:=by unfold z13;cases hs:s==0 with | true=>rw [h0 hs];rfl | false=>rw [h hs];rfl
theorem y3r (h:zvs c d i j)(hs:d.g_=c.g_)(hz:d.e_=c.e_):z20 d j=z20 c i:=by
 unfold z20;rw [h.op];cases hr:z4s i.a_ with
 | none=>rfl
 | some r =>
  obtain ⟨e1,e2,e3⟩:=ykt hr;have hset:zx i = !(r.d==0):=by unfold zx;rw [hr]
  have hD:∀ t,z13 d r.d j.D_ t=z13 c r.d i.D_ t:=λt=>za7 (λq=>h.D (by rw [hset,q];rfl)) (λq=>h.D0 (by rw [hset,q];rfl))
  have hA:∀ t,z13 d r.a j.A_ t=z13 c r.a i.A_ t:=λt=>za7 (λq=>h.A (by rw [q] at e1;simp only [false_eq,not_eq_false'] at e1;exact le_of_ble_eq_true e1)) (λq=>h.A0 (λhc=>by have:Nat.blt 0 (nrO i.a_)=true:=Nat.ble_eq_true_of_le hc;rw [q,this] at e1;cases e1))
  have hB:∀ t,z13 d r.b j.B_ t=z13 c r.b i.B_ t:=λt=>za7 (λq=>h.B (by rw [q] at e2;simp only [false_eq,not_eq_false'] at e2;exact le_of_ble_eq_true e2)) (λq=>h.B0 (λhc=>by have:Nat.blt 1 (nrO i.a_)=true:=Nat.ble_eq_true_of_le hc;rw [q,this] at e2;cases e2))
  have hC:∀ t,z13 d r.c j.C_ t=z13 c r.c i.C_ t:=λt=>za7 (λq=>h.C (by rw [q] at e3;simp only [false_eq,not_eq_false'] at e3;exact le_of_ble_eq_true e3)) (λq=>h.C0 (λhc=>by have:Nat.blt 2 (nrO i.a_)=true:=Nat.ble_eq_true_of_le hc;rw [q,this] at e3;cases e3))
  have hb:z6q j=z6q i:=by unfold z6q;rw [h.op,h.bits]
  have htD:tyD d r j=tyD c r i:=by unfold tyD;cases q:r.d==0 with | true=>rfl | false=>rw [h.D (by rw [hset,q];rfl)]
  have htF:tyF d r j=tyF c r i:=by
   unfold tyF;cases q:r.d==0 with
   | false=>rw [h.D (by rw [hset,q];rfl)];rfl
   | true =>
    cases q2:r.a==0 with
    | true=>rfl
    | false =>rw [h.A (by rw [q2] at e1;simp only [false_eq,not_eq_false'] at e1;exact le_of_ble_eq_true e1)];rfl
  have hn:nOk d r.n j.N_ (tyF d r j)=nOk c r.n i.N_ (tyF c r i):=by unfold nOk;rw [hs,hz,h.n,htF]
  simp only [hD,hA,hB,hC,hb,hn,htD]
theorem ynp {i:Xd}(h:onA i=true):0<nrO i.a_:=by unfold onA at h;simp only [Bool.or_eq_true,beq_iff_eq] at h;rcases h with h | h<;>rw [h]<;>decide
theorem y3s (h:zvs c d i j):z6p d j=z6p c i:=by
 have e1:onD j=onD i:=by unfold onD;rw [h.op]
 have e2:onA j=onA i:=by unfold onA;rw [h.op]
 unfold z6p;rw [e1,e2];cases hd:onD i with
 | true=>simp only [cond_true];rw [h.D ((y6v i).1 hd)]
 | false =>
  cases ha:onA i with
  | true=>simp only [cond_true,cond_false];rw [h.A (ynp ha)]
  | false =>simp only [cond_false];rw [z2s (.inl (by decide)),z2s (.inl (by decide))]
theorem zx4 {o p:List Xh}(h:j.a_=i.a_)(h1:z1i p=z1i o)(h2:p.length=o.length):z5j j p=z5j i o:=by unfold z5j;rw [h,h1,h2]
theorem zr9 {s':List Bool}{p:List Xh}(h:zvs c d i j)(hs:d.g_=c.g_)(hz:d.e_=c.e_)(h1:z1i p=z1i o)(h2:z60 p=z60 o)(h3:p.length=o.length)(hr:z2j s' j=true)(hst:z1g c i set o=true):z1g d j s' p=true:=by unfold z1g at hst ⊢;simp only [and_eq_true] at hst;rw [y3r h hs hz,y3s h,h.op,h1,h2,zx4 h.op h1 h3,hr,hst.1,hst.2.1,hst.2.2.2];rfl
structure Lvl (c:Xe) (done s s':List Bool) (al:List Int) (sc:Scs):Prop where
 len:s.length=c.c_.length
 len':s'.length=c.c_.length
 regs:∀ r:Nat,on s r->on done r/\on s' (atR al (r:Int)).toNat/\z66 c (atR al (r:Int))=z66 c (r:Int)
 dn:∀ r:Nat,on s' r->on done r
 kept:∀ m∈sc,∀ y∈m,0<=y.v_/\on s' y.v_.toNat/\z66 c y.v_=y.k_.t_/\∀ z∈z12 y.k_.i_,0<=z/\on s' z.toNat
inductive Stk (c:Xe) (done:List Bool) (al:List Int):List Xh->List Xh->Scs->Prop
 | nil:Stk c done al [] [] []
 | wh {o p:List Xh} {sc:Scs} {m:List Xg} {N:Int} {s s':List Bool}:Stk c done al o p sc->Lvl c done s s' al (sc++[m])->Stk c done al (o++[⟨34,N,s⟩]) (p++[⟨34,N,s'⟩]) (sc++[m])
 | lp {o p:List Xh} {sc:Scs} {N:Int} {s s':List Bool}:Stk c done al o p sc->Stk c done al (o++[⟨36,N,s⟩]) (p++[⟨36,N,s'⟩]) sc
theorem Stk.inv {done:List Bool}{al:List Int}{o p:List Xh}{sc:Scs}(h:Stk c done al o p sc):(o=[]/\p=[]/\sc=[]) \/
  (∃ o' p' sc' m N s s',o=o'++[⟨34,N,s⟩]/\p=p'++[⟨34,N,s'⟩]/\sc=sc'++[m]/\Stk c done al o' p' sc'/\Lvl c done s s' al sc)\/(∃ o' p' N s s',o=o'++[⟨36,N,s⟩]/\p=p'++[⟨36,N,s'⟩]/\Stk c done al o' p' sc):=by
 cases h with | nil=>exact .inl ⟨rfl,rfl,rfl⟩ | wh h1 h2=>exact .inr (.inl ⟨_,_,_,_,_,_,_,rfl,rfl,rfl,h1,h2⟩) | lp h1=>exact .inr (.inr ⟨_,_,_,_,_,rfl,rfl,h1⟩)
theorem Stk.skel {done:List Bool}{al:List Int}{o p:List Xh}{sc:Scs}(h:Stk c done al o p sc):z1i p=z1i o/\z60 p=z60 o/\p.length=o.length:=by
 have len:∀ {o p:List Xh} {sc:Scs},Stk c done al o p sc->p.length=o.length:=by
  intro o p sc h
  induction h with | nil=>rfl | wh _ _ ih=>simp [ih] | lp _ ih=>simp [ih]
 refine ⟨?_,?_,len h⟩
 ·rcases h.inv with ⟨rfl,rfl,_⟩ | ⟨o',p',sc',m,N,s,s',rfl,rfl,_⟩ | ⟨o',p',N,s,s',rfl,rfl,_⟩
  ·rfl
  ·rw [(z33 _ _).1,(z33 _ _).1]
  ·rw [(z33 _ _).1,(z33 _ _).1]
 ·rcases h.inv with ⟨rfl,rfl,_⟩ | ⟨o',p',sc',m,N,s,s',rfl,rfl,_⟩ | ⟨o',p',N,s,s',rfl,rfl,_⟩
  ·rfl
  ·rw [(z33 _ _).2,(z33 _ _).2]
  ·rw [(z33 _ _).2,(z33 _ _).2]
theorem Lvl.more {done done' s s':List Bool}{al al':List Int}{sc:Scs}(h:Lvl c done s s' al sc)(hd:∀ r,on done r->on done' r)(ha:∀ r:Nat,on done r->atR al' (r:Int)=atR al (r:Int)):Lvl c done' s s' al' sc :=
 ⟨h.len,h.len',λr hr=>by obtain ⟨h1,h2,h3⟩:=h.regs r hr;rw [ha r h1];exact ⟨hd r h1,h2,h3⟩,λr hr=>hd r (h.dn r hr),h.kept⟩
theorem Stk.more {done done':List Bool}{al al':List Int}{o p:List Xh}{sc:Scs}(h:Stk c done al o p sc)(hd:∀ r,on done r->on done' r)(ha:∀ r:Nat,on done r->atR al' (r:Int)=atR al (r:Int)):Stk c done' al' o p sc:=by
 induction h with | nil=>exact .nil | wh _ h2 ih=>exact .wh ih (h2.more hd ha) | lp _ ih=>exact .lp ih
structure RJ (c:Xe) (done set set':List Bool) (o p:List Xh) (sc:Scs) (al:List Int):Prop where
 aok:zak c.c_.length al
 new:∀ r:Nat,r<c.c_.length->¬ on done r->atR al (r:Int)=(r:Int)
 len:done.length=c.c_.length
 cur:Lvl c done set set' al sc
 stk:∃ sc0 m,sc=sc0++[m]/\Stk c done al o p sc0
def z2m (i:Xd)(done:List Bool):List Bool:=bif zx i then done.set i.D_.toNat true else done
theorem z31 {done:List Bool}{r:Nat}(h:on done r):on (z2m i done) r:=by unfold z2m;cases zx i with | true=>exact ykw h | false=>exact h
theorem zlb {done set':List Bool}{al:List Int}{sc:Scs}(h:Lvl c done set set' al sc)(hf:z20 c i=true)(hr:z2j set i=true){k:Int}(hk:k∈z12 i):0<=k/\k<c.c_.length/\on done k.toNat/\on set' (atR al k).toNat/\z66 c (atR al k)=z66 c k:=by obtain ⟨h0,h1⟩:=zat hf k hk;have hs:on set k.toNat:=ya4 hr hk;obtain ⟨h2,h3,h4⟩:=h.regs _ hs;rw [Int.toNat_of_nonneg h0] at h3 h4;exact ⟨h0,h1,h2,h3,h4⟩
theorem zqe {al:List Int}{k:Int}(h:k∈z12 (rdI al i)):∃ k0∈z12 i,k=atR al k0:=by
 obtain ⟨h1,h2⟩:=z5e i;obtain ⟨h3,h4⟩:=z5e (rdI al i);rw [h3] at h;rw [h1];have eo:(rdI al i).a_=i.a_:=rfl;rw [eo] at h;unfold rdI at h;simp only at h;generalize nrO i.a_=k1 at *
 match k1,h2 with
 | 0,_=>simp at h
 | 1,_ =>simp at h;exact ⟨i.A_,by simp,h⟩
 | 2,_ =>
  simp at h;rcases h with h | h
  ·exact ⟨i.A_,by simp,h⟩
  ·exact ⟨i.B_,by simp,h⟩
 | 3,_ =>
  simp at h;rcases h with h | h | h
  ·exact ⟨i.A_,by simp,h⟩
  ·exact ⟨i.B_,by simp,h⟩
  ·exact ⟨i.C_,by simp,h⟩
theorem yc7 {done set':List Bool}{al:List Int}{sc:Scs}(h:Lvl c done set set' al sc)(hal:zak c.c_.length al)(hf:z20 c i=true)(hr:z2j set i=true):zvs c c i (rdI al i):=by
 have key:∀ k∈z12 i,idx c.c_ (atR al k)=idx c.c_ k:=λk hk=>by obtain ⟨h0,h1,_,_,h4⟩:=zlb h hf hr hk;rw [z67 ⟨h0,h1⟩,z67 (zkq hal ⟨h0,h1⟩),h4]
 have bt:∀ k:Nat,k<nrO i.a_->Nat.blt k (nrO i.a_)=true:=λk h=>Nat.ble_eq_true_of_le h
 have bf:∀ k:Nat,¬ k<nrO i.a_->Nat.blt k (nrO i.a_)=false:=λk h=>by cases q:Nat.blt k (nrO i.a_) with | false=>rfl | true=>exact absurd (le_of_ble_eq_true q) h
 refine ⟨rfl,rfl,rfl,λ_=>rfl,λ_=>rfl,λh0=>?_,λh0=>?_,λh0=>?_,λh0=>?_,λh0=>?_,λh0=>?_⟩
 ·unfold rdI;simp only [bt 0 h0,cond_true];exact key _ (zq4 h0)
 ·unfold rdI;simp only [bf 0 h0,cond_false]
 ·unfold rdI;simp only [bt 1 h0,cond_true];exact key _ (ykq h0)
 ·unfold rdI;simp only [bf 1 h0,cond_false]
 ·unfold rdI;simp only [bt 2 h0,cond_true];exact key _ (ykr h0)
 ·unfold rdI;simp only [bf 2 h0,cond_false]
theorem yc8 {done set':List Bool}{al:List Int}{sc:Scs}(h:Lvl c done set set' al sc)(hf:z20 c i=true)(hr:z2j set i=true):z2j set' (rdI al i)=true:=by unfold z2j;rw [all_eq_true];intro k hk;obtain ⟨k0,h1,rfl⟩:=zqe hk;exact (zlb h hf hr h1).2.2.2.1
end
section
variable {c:Xe}{i:Xd}{set set' done:List Bool}{o p:List Xh}{sc:Scs}{al:List Int}
theorem zv1 (h:i.a_=36):z1x i set o=(set,o++[⟨36,i.N_,set⟩]):=by unfold z1x;rw [h];rfl
theorem zv2 (h:i.a_=37):z1x i set o=(set,o.dropLast):=by unfold z1x;rw [h];rfl
theorem zv3 (h1:i.a_≠34)(h2:i.a_≠35)(h3:i.a_≠36)(h4:i.a_≠37):z1x i set o=(z2m i set,o):=by
 have h1:(i.a_==34)=false:=by simpa using h1
 have h2:(i.a_==35)=false:=by simpa using h2
 have h3:(i.a_==36)=false:=by simpa using h3
 have h4:(i.a_==37)=false:=by simpa using h4
 unfold z1x z2m;rw [h1,h2,h3,h4];cases zx i<;>rfl
theorem zbr {s:List Bool}{r:Nat}(h:on (z2m i s) r):on s r\/(zx i=true/\r=i.D_.toNat/\i.D_.toNat<s.length):=by
 unfold z2m at h;cases hs:zx i with
 | false=>rw [hs] at h;exact .inl h
 | true =>
  rw [hs] at h;rcases ykv h with h | ⟨h1,h2⟩
  ·exact .inl h
  ·exact .inr ⟨rfl,h1,h2⟩
theorem z54 (s:List Bool):(z2m i s).length=s.length:=by unfold z2m;cases zx i<;>simp
theorem z59 {s:List Bool}(hs:zx i=true)(h:i.D_.toNat<s.length):on (z2m i s) i.D_.toNat:=by unfold z2m;rw [hs];exact yc4 h
theorem RJ.el (h:RJ c done set set' o p sc al)(hf:z20 c i=true)(hd:zx i=true->¬ on done i.D_.toNat):RJ c (z2m i done) (z2m i set) (z2m i set') o p sc al:=by
 have hD:zx i=true->0<=i.D_/\i.D_<c.c_.length:=λh=>by obtain ⟨t,ht,_⟩:=z55 hf h;exact (z50 ht).2
 refine ⟨h.aok,λr hr hn=>h.new r hr (λq=>hn (z31 q)),by rw [z54];exact h.len,⟨by rw [z54];exact h.cur.len,by rw [z54];exact h.cur.len',λr hr=>?_,λr hr=>?_,λm hm y hy=>?_⟩,?_⟩
 ·rcases zbr hr with hr | ⟨h1,rfl,h2⟩
  ·obtain ⟨q1,q2,q3⟩:=h.cur.regs r hr;exact ⟨z31 q1,z31 q2,q3⟩
  ·obtain ⟨d0,d1⟩:=hD h1;have e:atR al (i.D_.toNat:Int)=(i.D_.toNat:Int):=h.new _ (by omega) (hd h1);rw [e];exact ⟨z59 h1 (by rw [h.len];omega),by rw [Int.toNat_natCast];exact z59 h1 (by rw [h.cur.len'];omega),rfl⟩
 ·rcases zbr hr with hr | ⟨h1,rfl,h2⟩
  ·exact z31 (h.cur.dn r hr)
  ·obtain ⟨d0,d1⟩:=hD h1;exact z59 h1 (by rw [h.len];omega)
 ·obtain ⟨q1,q2,q3,q4⟩:=h.cur.kept m hm y hy;exact ⟨q1,z31 q2,q3,λz hz=>⟨(q4 z hz).1,z31 (q4 z hz).2⟩⟩
 ·obtain ⟨sc0,m,e,hs⟩:=h.stk;exact ⟨sc0,m,e,hs.more (λr hr=>z31 hr) (λ_ _=>rfl)⟩
theorem y49 {sc0:Scs}{m:List Xg}{x:Xf}{d:Int}:z6z (sc0++[m]) x d=sc0++[z9m (mK x) ⟨x,d⟩ m]:=by unfold z6z;simp
theorem RJ.put (h:RJ c done set set' o p sc al){x:Xf}{d:Int}(h0:0<=d)(h1:on set' d.toNat)(h2:z66 c d=x.t_)(h3:∀ z∈z12 x.i_,0<=z/\on set' z.toNat):RJ c done set set' o p (z6z sc x d) al:=by
 refine ⟨h.aok,h.new,h.len,⟨h.cur.len,h.cur.len',h.cur.regs,h.cur.dn,λm hm y hy=>?_⟩,?_⟩
 ·rcases zmz hm with hm | hm
  ·exact h.cur.kept m hm y hy
  ·rcases hm y hy with ⟨m',hm',hy'⟩ | rfl
   ·exact h.cur.kept m' hm' y hy'
   ·exact ⟨h0,h1,h2,h3⟩
 ·obtain ⟨sc0,m,e,hs⟩:=h.stk;subst e;exact ⟨sc0,_,y49,hs⟩
theorem zrg {k d:Nat}{x:Int}(h:k≠d):atR (al.set d x) (k:Int)=atR al (k:Int):=by unfold atR;rw [Int.toNat_natCast,getElem?_set,if_neg (λe=>h e.symm)]
theorem y51 {d:Nat}{x:Int}(h:d<al.length):atR (al.set d x) (d:Int)=x:=by unfold atR;rw [Int.toNat_natCast,getElem?_set_self h];rfl
theorem RJ.drop (h:RJ c done set set' o p sc al)(hs:zx i=true)(hD:0<=i.D_/\i.D_<c.c_.length)(hd:¬ on done i.D_.toNat){x:Int}(hx:0<=x/\x<c.c_.length)(hon:on set' x.toNat)(ht:z66 c x=z66 c i.D_):RJ c (z2m i done) (z2m i set) set' o p sc (al.set i.D_.toNat x):=by
 have hne:∀ r:Nat,on done r->r≠i.D_.toNat:=λr hr e=>hd (e ▸ hr);have hal:i.D_.toNat<al.length:=by rw [h.aok.len];omega
 have ha:∀ r:Nat,on done r->atR (al.set i.D_.toNat x) (r:Int)=atR al (r:Int):=λr hr=>zrg (hne r hr);refine ⟨zlf h.aok _ hx,λr hr hn=>?_,by rw [z54];exact h.len,⟨by rw [z54];exact h.cur.len,h.cur.len',λr hr=>?_,λr hr=>z31 (h.cur.dn r hr),h.cur.kept⟩,?_⟩
 ·have:r≠i.D_.toNat:=λe=>hn (by rw [e];exact z59 hs (by rw [h.len];omega));rw [zrg this];exact h.new r hr (λq=>hn (z31 q))
 ·rcases zbr hr with hr | ⟨h1,rfl,h2⟩
  ·obtain ⟨q1,q2,q3⟩:=h.cur.regs r hr;rw [ha r q1];exact ⟨z31 q1,q2,q3⟩
  ·rw [y51 hal,Int.toNat_of_nonneg hD.1];exact ⟨z59 hs (by rw [h.len];omega),hon,ht⟩
 ·obtain ⟨sc0,m,e,hs⟩:=h.stk;exact ⟨sc0,m,e,hs.more (λr hr=>z31 hr) ha⟩
theorem zro {t d:Xb}(h:eqTy t d=true):t=d:=by obtain ⟨a,b⟩:=t;obtain ⟨a',b'⟩:=d;unfold eqTy at h;simp at h;obtain ⟨rfl,rfl⟩:=h;rfl
theorem zbs {s:List Bool}(h:zx i=false):z2m i s=s:=by unfold z2m;rw [h];rfl
theorem zbb {i:Xd}(h:i.a_=34\/i.a_=35\/i.a_=36\/i.a_=37):zx i=false:=by unfold zx;rcases h with h | h | h | h<;>rw [h]<;>rfl
theorem Stk.lp_top {o' p:List Xh}{x:Xh}(h:Stk c done al (o'++[x]) p sc)(hx:x.a_=36):∃ p' y,p=p'++[y]/\y.a_=36/\Stk c done al o' p' sc:=by
 rcases h.inv with ⟨e,_⟩ | ⟨o',p',sc',m,N,s,s',e,_⟩ | ⟨o',p',N,s,s',e,rfl,h⟩
 ·simp at e
 ·have:=(append_inj' e rfl).2;simp at this;rw [this] at hx;exact absurd hx (by show ¬ ((34:Int)=36);decide)
 ·have:=(append_inj' e rfl).1;subst this;exact ⟨p',_,rfl,rfl,h⟩
theorem Stk.wh_top {o' p:List Xh}{x:Xh}(h:Stk c done al (o'++[x]) p sc)(hx:x.a_≠36):∃ p' sc' m s',p=p'++[⟨34,x.o_,s'⟩]/\x.a_=34/\sc=sc'++[m]/\Stk c done al o' p' sc'/\Lvl c done x.G_ s' al sc:=by
 rcases h.inv with ⟨e,_⟩ | ⟨o',p',sc',m,N,s,s',e,rfl,rfl,h1,h2⟩ | ⟨o',p',N,s,s',e,rfl,h⟩
 ·simp at e
 ·have e1:=(append_inj' e rfl).1;have e2:=(append_inj' e rfl).2;simp at e2;subst e1;subst e2;exact ⟨p',sc',m,s',rfl,rfl,rfl,h1,h2⟩
 ·have:=(append_inj' e rfl).2;simp at this;rw [this] at hx;exact absurd rfl hx
theorem zx7 {i j:Xd}(h:i.a_=j.a_)(hA:i.A_=j.A_)(hB:i.B_=j.B_)(hC:i.C_=j.C_):z12 i=z12 j:=by rw [(z5e i).1,(z5e j).1,h,hA,hB,hC]
theorem RJ.step (h:RJ c done set set' o p sc al)(hst:z1g c i set o=true)(hd:zx i=true->¬ on done i.D_.toNat) :
  ((ruS c (rdI al i) sc al).1=true->z1g c (rdI al i) set' p=true/\RJ c (z2m i done) (z1x i set o).1 (z1x (rdI al i) set' p).1 (z1x i set o).2 (z1x (rdI al i) set' p).2 (ruS c (rdI al i) sc al).2.1 (ruS c (rdI al i) sc al).2.2)
  /\((ruS c (rdI al i) sc al).1=false->RJ c (z2m i done) (z1x i set o).1 set' (z1x i set o).2 p (ruS c (rdI al i) sc al).2.1 (ruS c (rdI al i) sc al).2.2):=by
 have hf:=zhr hst
 have hrd:z2j set i=true:=by unfold z1g at hst;simp only [and_eq_true] at hst;exact hst.2.2.1
 have hlike:=yc7 h.cur h.aok hf hrd;have hrd':=yc8 h.cur hf hrd;obtain ⟨sc0,m,esc,hstk⟩:=h.stk;obtain ⟨k1,k2,k3⟩:=hstk.skel;have hst':z1g c (rdI al i) set' p=true:=zr9 hlike rfl rfl k1 k2 k3 hrd' hst;have hIn:=zat hf;have eo:(rdI al i).a_=i.a_:=rfl;have eD:(rdI al i).D_=i.D_:=rfl;have eN:(rdI al i).N_=i.N_:=rfl;have es:∀ s,z2m (rdI al i) s=z2m i s:=λs=>rfl;by_cases h34:i.a_=34
 ·have e:ruS c (rdI al i) sc al=(true,sc++[[]],al):=by unfold ruS;rw [eo,h34];rfl
  rw [e,(zl5 h34).1,(zl5 (i:=rdI al i) h34).1,zbs (zbb (.inl h34))];refine ⟨λ_=>⟨hst',h.aok,h.new,h.len,⟨h.cur.len,h.cur.len',h.cur.regs,h.cur.dn,λm' hm y hy=>?_⟩,⟨sc,[],rfl,?_⟩⟩,λq=>by cases q⟩
  ·rcases mem_append.1 hm with hm | hm
   ·exact h.cur.kept m' hm y hy
   ·obtain rfl:=mem_singleton.1 hm;cases hy
  ·have hc:=h.cur;subst esc;exact .wh hstk hc
 ·by_cases h35:i.a_=35
  ·have e:ruS c (rdI al i) sc al=(true,sc.take (sc.length - 1),al):=by unfold ruS;rw [eo,h35];rfl
   have et:sc.take (sc.length - 1)=sc0:=by rw [esc];simp
   obtain ⟨o',x,e1,e2,e3⟩:=zl6 h35 hst
   have hx:x.a_≠36:=λq=>by
    have:z2x [x]=[]:=by unfold z2x;simp [q]
    rw [e1,zap,this] at e2;have:=congrArg List.length e2;simp at this
   rw [e1] at hstk;obtain ⟨p',sc',m',s',e4,_,e5,hk,hl⟩:=hstk.wh_top hx;obtain ⟨p'',x',w1,w2,w3⟩:=zl6 (i:=rdI al i) h35 hst';rw [e4] at w1;obtain rfl:=(append_inj' w1 rfl).1;have:=(append_inj' w1 rfl).2;simp at this;subst this;rw [e,e3,w3,et,zbs (zbb (.inr (.inl h35)))];exact ⟨λ_=>⟨hst',h.aok,h.new,h.len,hl,⟨sc',m',e5,hk⟩⟩,λq=>by cases q⟩
  ·have b34:(i.a_==34)=false:=by simpa using h34
   have b35:(i.a_==35)=false:=by simpa using h35
   by_cases h36:i.a_=36
   ·have e:ruS c (rdI al i) sc al=(true,sc,al):=by unfold ruS cpy mem;rw [eo,h36,zvm,zbb (.inr (.inr (.inl h36)))];rfl
    rw [e,zv1 h36,zv1 (i:=rdI al i) h36,zbs (zbb (.inr (.inr (.inl h36))))];exact ⟨λ_=>⟨hst',h.aok,h.new,h.len,h.cur,⟨sc0,m,esc,.lp hstk⟩⟩,λq=>by cases q⟩
   ·by_cases h37:i.a_=37
    ·have e:ruS c (rdI al i) sc al=(true,sc,al):=by unfold ruS cpy mem;rw [eo,h37,zvm,zbb (.inr (.inr (.inr h37)))];rfl
     rw [e,zv2 h37,zv2 (i:=rdI al i) h37,zbs (zbb (.inr (.inr (.inr h37))))];refine ⟨λ_=>⟨hst',h.aok,h.new,h.len,h.cur,⟨sc0,m,esc,?_⟩⟩,λq=>by cases q⟩
     have hpl:z1i o=true:=by unfold z1g z5j at hst;simp only [and_eq_true] at hst;have:=hst.2.2.2;rw [h37] at this;exact this
     rcases eq_nil_or_concat o with rfl | ⟨o',x,rfl⟩
     ·cases hpl
     ·rw [concat_eq_append] at hpl hstk ⊢;rw [(z33 o' x).1] at hpl;obtain ⟨p',y,rfl,_,hk⟩:=hstk.lp_top (by simpa using hpl);rw [List.dropLast_concat,List.dropLast_concat];exact hk
    ·rw [zv3 h34 h35 h36 h37,zv3 (i:=rdI al i) h34 h35 h36 h37];unfold ruS;rw [eo,eD,b34,b35];simp only [cond_false,es]
     have hDr:zx i=true->0<=i.D_/\i.D_<c.c_.length:=λh=>by obtain ⟨t,ht,_⟩:=z55 hf h;exact (z50 ht).2
     cases hcp:cpy c (rdI al i) with
     | true =>
      have hcp':=hcp;unfold cpy at hcp';rw [eo,eD] at hcp';obtain ⟨e3,et⟩:=and_eq_true_iff.1 hcp';have e3:i.a_=3:=by simpa using e3
      have hs:zx i=true:=by unfold zx;rw [e3];rfl
      have hA:(rdI al i).A_∈z12 (rdI al i):=zq4 (by rw [eo,e3];decide);have hon:on set' (rdI al i).A_.toNat:=ya4 hrd' hA;exact ⟨λq=>(by cases q),λ_=>h.drop hs (hDr hs) (hd hs) (y6w h.aok hIn e3) hon (zro et)⟩
     | false =>
      simp only [cond_false];cases hm:mem (rdI al i) with
      | false=>exact ⟨λ_=>⟨hst',h.el hf hd⟩,λq=>by cases q⟩
      | true =>
       have hs:zx i=true:=by unfold mem at hm;exact (and_eq_true_iff.1 hm).1
       obtain ⟨d0,d1⟩:=hDr hs;simp only [cond_true];cases hfd:z4f sc (z3w c (rdI al i)) with
       | some r =>
        obtain ⟨m',hm',y,hy,ey,rfl⟩:=zmb hfd;obtain ⟨q1,q2,q3,q4⟩:=h.cur.kept m' hm' y hy
        have hlt:y.v_.toNat<c.c_.length:=by
         rcases Nat.lt_or_ge y.v_.toNat set'.length with h' | h'
         ·rw [h.cur.len'] at h';exact h'
         ·unfold on at q2;rw [getElem?_eq_none h'] at q2;cases q2
        exact ⟨λq=>(by cases q),λ_=>h.drop hs ⟨d0,d1⟩ (hd hs) ⟨q1,by omega⟩ q2 (by rw [q3,ey];rfl)⟩
       | none =>refine ⟨λ_=>⟨hst',(h.el hf hd).put d0 (z59 hs (by rw [h.cur.len'];omega)) rfl (λz hz=>?_)⟩,λq=>by cases q⟩;have er:z12 (z3w c (rdI al i)).i_=z12 (rdI al i):=zx7 rfl rfl rfl rfl;rw [er] at hz;obtain ⟨z0,hz0,rfl⟩:=zqe hz;obtain ⟨g1,g2,_,g4,_⟩:=zlb h.cur hf hrd hz0;exact ⟨(zkq h.aok ⟨g1,g2⟩).1,z31 g4⟩
end
theorem zli {n:Nat}(h:200<=n):y5o n ()=some true:=by
 obtain ⟨m,rfl⟩:∃ m,n=m+200:=⟨n - 200,by omega⟩
 kernel_rfl
theorem zyk {n:Nat}{c:Xe}(hn:100000<n)(hu:zhu c):zoh n c=some ((chk c).1==0):=by rw [yav,(zo2 hn hu.1 hu.2).2];rfl
section
variable {c:Xe}{set set' done:List Bool}{o p:List Xh}{sc:Scs}{al:List Int}
theorem zcm {i:Xd}{l:List Xd}{s:List Bool}(h:z15 (i::l) s=true):(zx i=true->¬ on s i.D_.toNat)/\z15 l (z2m i s)=true:=by
 unfold z15 at h;unfold z2m on;cases hs:zx i with
 | false=>rw [hs] at h;exact ⟨λq=>(by cases q),h⟩
 | true =>
  rw [hs] at h;cases hg:(s[i.D_.toNat]?).getD false with
  | true=>rw [hg] at h;cases h
  | false=>rw [hg] at h;exact ⟨λ_ q=>(by cases q),h⟩
theorem y4b {i:Xd}{l:List Xd}{s:List Bool}(h1:zx i=true->¬ on s i.D_.toNat)(h2:z15 l (z2m i s)=true):z15 (i::l) s=true:=by
 unfold z15;unfold z2m at h2;unfold on at h1;cases hs:zx i with
 | false=>rw [hs] at h2;exact h2
 | true =>rw [hs] at h2;cases hg:(s[i.D_.toNat]?).getD false with | true=>exact absurd hg (h1 hs) | false=>exact h2
theorem zba (i:Xd)(l:List Xd)(sc:Scs)(al:List Int):ruL c (i::l) sc al=(bif (ruS c (rdI al i) sc al).1 then [rdI al i] else [])++ruL c l (ruS c (rdI al i) sc al).2.1 (ruS c (rdI al i) sc al).2.2:=rfl
theorem zpj:∀ (l:List Xd) (k k':Nat) (done set set':List Bool) (o p:List Xh) (sc:Scs) (al:List Int) (r:List Bool×List Xh),RJ c done set set' o p sc al->z15 l done=true->goR c l k set o = .inr r ->
  ∃ r',goR c (ruL c l sc al) k' set' p = .inr r'/\r'.2.length=r.2.length
 | [],k,k',done,set,set',o,p,sc,al,r,h,hs,hg=>by obtain ⟨sc0,m,e,hk⟩:=h.stk;have hg:(Sum.inr (set,o):Nat⊕_) = .inr r:=hg;cases hg;exact ⟨(set',p),rfl,hk.skel.2.2⟩
 | i::l,k,k',done,set,set',o,p,sc,al,r,h,hs,hg=>by
  obtain ⟨h1,h2⟩:=zcm hs;rw [ze7] at hg;cases hst:z1g c i set o with
  | false=>rw [hst] at hg;cases hg
  | true =>
   rw [hst,cond_true] at hg;obtain ⟨s1,s2⟩:=h.step hst h1;rw [zba];cases hr:(ruS c (rdI al i) sc al).1 with
   | true =>obtain ⟨t1,t2⟩:=s1 hr;obtain ⟨r',e1,e2⟩:=zpj l (k+1) (k'+1) _ _ _ _ _ _ _ r t2 h2 hg;refine ⟨r',?_,e2⟩;rw [cond_true,List.singleton_append,ze7,t1];exact e1
   | false =>obtain ⟨r',e1,e2⟩:=zpj l (k+1) k' _ _ _ _ _ _ _ r (s2 hr) h2 hg;exact ⟨r',e1,e2⟩
theorem zms (c:Xe)(k:Nat):¬ on (z26 c) k:=by unfold on;rw [List.getElem?_replicate];split<;>simp
theorem RJ.start (c:Xe):RJ c (z26 c) (z26 c) (z26 c) [] [] [[]] (z3s c.c_.length):=by
 refine ⟨zmu _,λr hr _=>?_,by simp,⟨by simp,by simp,λr hr=>absurd hr (zms c r),λr hr=>absurd hr (zms c r),λm hm y hy=>?_⟩,⟨[],[],rfl,.nil⟩⟩
 ·unfold atR z3s;rw [Int.toNat_natCast,List.getElem?_map,List.getElem?_range hr];rfl
 ·obtain rfl:=mem_singleton.1 hm;cases hy
theorem zhc:∀ (l:List Xd) (sc:Scs) (al:List Int),List.Sublist ((ruL c l sc al).map (·.a_)) (l.map (·.a_))
 | [],_,_=>.slnil
 | i::l,sc,al=>by rw [zba,List.map_cons];cases (ruS c (rdI al i) sc al).1 with | true=>exact (zhc l _ _).cons_cons _ | false=>exact (zhc l _ _).cons _
theorem zvg:∀ (l:List Xd) (sc:Scs) (al:List Int),∀ j∈ruL c l sc al,∃ i∈l,∃ al',j=rdI al' i
 | [],_,_,j,h=>by cases h
 | i::l,sc,al,j,h=>by
  rw [zba] at h;rcases mem_append.1 h with h | h
  ·cases hr:(ruS c (rdI al i) sc al).1 with | true=>rw [hr] at h;exact ⟨i,List.mem_cons_self,al,mem_singleton.1 h⟩ | false=>rw [hr] at h;cases h
  ·obtain ⟨i',h1,h2⟩:=zvg l _ _ j h;exact ⟨i',List.mem_cons_of_mem _ h1,h2⟩
theorem y78 (c:Xe):List.Sublist ((z52 c).map (·.a_)) (c.d_.map (·.a_)):=by unfold z52;cases z15 c.d_ (z26 c) with | true=>exact zhc _ _ _ | false=>exact List.Sublist.refl _
theorem y77 (c:Xe):(z52 c).length<=c.d_.length:=by simpa using (y78 c).length_le
theorem y46 {c:Xe}(hu:zhu c):∀ j∈z52 c,0<=j.m_/\j.m_<4294967296:=by
 unfold z52;cases z15 c.d_ (z26 c) with
 | true =>intro j hj;obtain ⟨i,hi,al',rfl⟩:=zvg _ _ _ j hj;exact hu.2 i hi
 | false=>exact hu.2
abbrev zev (c:Xe):Xe:=⟨c.g_,c.c_,c.e_,z52 c⟩
theorem zrk {c:Xe}(h:(chk c).1=0):(chk (zev c)).1=0:=by
 unfold zev z52;cases hs:z15 c.d_ (z26 c) with
 | false=>exact h
 | true =>obtain ⟨_,q1,q2,q3,q4,q5,r,q6,q7⟩:=zcs h;simp only [decide_eq_false_iff_not] at q2;obtain ⟨r',e1,e2⟩:=zpj c.d_ 0 0 _ _ _ _ _ _ _ r (RJ.start c) hs q6;have hl:=(zhc (c:=c) c.d_ [[]] (z3s c.c_.length)).length_le;rw [length_map,length_map] at hl;rw [cond_true,ycu h _ (by omega),e1];rw [q7] at e2;have e2:r'.2.length=0:=e2;simp [e2]
theorem yci {c:Xe}(hu:zhu c):zhu (zev c):=⟨hu.1,y46 hu⟩
theorem y79 {c:Xe}(h:(chk c).1=0):zkb c=(0,c.g_,c.c_,c.e_,z52 c):=by unfold zkb;rw [h];rfl
def zyp (a:Xe):Nat:=yf8 a+2000000
end
section
variable {c:Xe}
theorem yl7 {j:Xd}{sc:Scs}{al al':List Int}:(ruS c j sc al).1=(ruS c j sc al').1/\(ruS c j sc al).2.1=(ruS c j sc al').2.1/\((ruS c j sc al).1=true->(ruS c j sc al).2.2=al)/\((ruS c j sc al).1=false->(ruS c j sc al).2.1=sc):=by
 unfold ruS;cases j.a_==34 with
 | true=>exact ⟨rfl,rfl,λ_=>rfl,λq=>by cases q⟩
 | false =>
  cases j.a_==35 with
  | true=>exact ⟨rfl,rfl,λ_=>rfl,λq=>by cases q⟩
  | false =>
   cases cpy c j with
   | true=>exact ⟨rfl,rfl,λq=>(by cases q),λ_=>rfl⟩
   | false =>
    cases mem j with
    | false=>exact ⟨rfl,rfl,λ_=>rfl,λq=>by cases q⟩
    | true =>
     simp only [cond_false,cond_true];cases z4f sc (z3w c j) with
     | some r=>exact ⟨rfl,rfl,λq=>(by cases q),λ_=>rfl⟩
     | none=>exact ⟨rfl,rfl,λ_=>rfl,λq=>by cases q⟩
theorem zg8:∀ (l:List Xd) (sc:Scs) (al:List Int) (s s':List Bool),s'.length=s.length->(∀ k,on s' k->on s k)->z15 l s=true->z15 (ruL c l sc al) s'=true
 | [],_,_,_,_,_,_,_=>rfl
 | i::l,sc,al,s,s',hl,hs,h=>by
  obtain ⟨h1,h2⟩:=zcm h;rw [zba];cases (ruS c (rdI al i) sc al).1 with
  | false=>exact zg8 l _ _ _ s' (by rw [z54];exact hl) (λk hk=>z31 (hs k hk)) h2
  | true =>
   refine y4b (λq hk=>h1 q (hs _ hk)) (zg8 l _ _ _ _ (by rw [z54,z54];exact hl) (λk hk=>?_) h2);rcases zbr hk with hk | ⟨q1,q2,q3⟩
   ·exact z31 (hs k hk)
   ·rw [q2];exact z59 (i:=i) q1 (by rw [<- hl];exact q3)
theorem zxf {c:Xe}(h:z15 c.d_ (z26 c)=true):z15 (z52 c) (z26 c)=true:=by unfold z52;rw [h];exact zg8 _ _ _ _ _ rfl (λ_ h=>h) h
end
def z29 (st:List Int):Int:=(st.getLast?).getD (-1)
def z47 (op:Int)(st:List Int):List Int:=bif op==35 then st.dropLast else st
def z6n:List Xd->Nat->List Int->List Int
 | [],_,_=>[]
 | i::l,k,st=>z29 (z47 i.a_ st)::z6n l (k+1) (bif i.a_==34 then z47 i.a_ st++[(k:Int)] else z47 i.a_ st)
theorem zf1 (st:List Int)(v:Int):z29 (st++[v])=v:=by unfold z29;simp
theorem zek {st:List Int}{t:Nat}{v:Int}(h:st[t]?=some v):z29 (st.take (t+1))=v:=by
 have:t<st.length:=by
  rcases Nat.lt_or_ge t st.length with h' | h'
  ·exact h'
  ·rw [getElem?_eq_none h'] at h;cases h
 rw [List.take_add_one,h];exact zf1 _ _
theorem y6z (op:Int)(st:List Int):(z47 op st).length<=st.length:=by unfold z47;cases op==35<;>simp
def Ch (blk st:List Int):Prop:=∀ t v,st[t]?=some v->0<=v/\blk[v.toNat]?=some (z29 (st.take t))/\z29 (st.take t)<v
theorem Ch.app {blk st:List Int}(h:Ch blk st)(x:Int):Ch (blk++[x]) st:=λt v hv=>by
 obtain ⟨h1,h2,h3⟩:=h t v hv;refine ⟨h1,?_,h3⟩
 have:v.toNat<blk.length:=by
  rcases Nat.lt_or_ge v.toNat blk.length with h' | h'
  ·exact h'
  ·rw [getElem?_eq_none h'] at h2;cases h2
 rw [List.getElem?_append_left this];exact h2
theorem Ch.take {blk st:List Int}(h:Ch blk st)(n:Nat):Ch blk (st.take n):=λt v hv=>by
 rw [List.getElem?_take] at hv;split at hv
 ·rename_i q;rw [take_take,Nat.min_eq_left (by omega)];exact h t v hv
 ·cases hv
theorem Ch.lt {blk st:List Int}(h:Ch blk st):∀ (d t:Nat),t+d+1<=st.length->z29 (st.take t)<z29 (st.take (t+d+1))
 | 0,t,hl=>by have hv:st[t]?=some (st[t]'(by omega)):=getElem?_eq_getElem _;rw [Nat.add_zero,zek hv];exact (h t _ hv).2.2
 | d+1,t,hl=>by have:=h.lt d t (by omega);have hv:st[t+d+1]?=some (st[t+d+1]'(by omega)):=getElem?_eq_getElem _;rw [show t+(d+1)+1=(t+d+1)+1 by omega,zek hv];have:=(h _ _ hv).2.2;omega
theorem Ch.inj {blk st:List Int}(h:Ch blk st){t:Nat}(ht:t<=st.length)(e:z29 (st.take t)=z29 st):t=st.length:=by
 rcases Nat.lt_or_ge t st.length with h' | h'
 ·have:=h.lt (st.length - t - 1) t (by omega);rw [show t+(st.length - t - 1)+1=st.length by omega,take_length] at this;omega
 ·omega
theorem yjb {st:List Int}{v:Int}(h:v = -1\/v∈st):∃ t,t<=st.length/\z29 (st.take t)=v:=by
 rcases h with rfl | h
 ·exact ⟨0,by omega,rfl⟩
 ·obtain ⟨t,ht⟩:=List.getElem?_of_mem h
  have:t<st.length:=by
   rcases Nat.lt_or_ge t st.length with h' | h'
   ·exact h'
   ·rw [getElem?_eq_none h'] at ht;cases ht
  exact ⟨t+1,by omega,zek ht⟩
section
variable {n:Nat}{c:Xe}
theorem zaw {α:Type}{l:List α}{k:Nat}{x:α}(h:l[k]?=some x):idx l (k:Int)=some x:=by
 have:k<l.length:=by
  rcases Nat.lt_or_ge k l.length with h' | h'
  ·exact h'
  ·rw [getElem?_eq_none h'] at h;cases h
 rw [z2b this];rw [getElem?_eq_getElem this] at h;exact h
theorem y4r {blk st:List Int}{a b:Nat}{v:Int}(h:Ch blk st)(hab:a<b)(ha:blk[a]?=some v)(hb:blk[b]?=some (z29 st))(hv : -1<=v)(hn:st.length<n) :
  ∃ w,y5s n (blk,(a:Int),(b:Int))=some (w==v)/\(w = -1\/w∈st):=by
 have key:∀ (t f:Nat),t<=st.length->t<f->∃ w,zk (zky n (blk,(a:Int),(b:Int)) ()) f (z29 (st.take t))=some (.out w)/\(w = -1\/w∈st):=by
  intro t
  induction t with
  | zero =>
   intro f _ hf;obtain ⟨f,rfl⟩:∃ g,f=g+1:=⟨f - 1,by omega⟩
   refine ⟨-1,?_,.inl rfl⟩;unfold zk;rw [zjj];dsimp only;rw [zaw ha,Option.bind_some]
   have:decide (z29 (st.take 0) > v)=false:=by have e:z29 (st.take 0) = -1:=rfl;rw [e];simp;omega
   rw [this];rfl
  | succ t ih =>
   intro f ht hf;obtain ⟨f,rfl⟩:∃ g,f=g+1:=⟨f - 1,by omega⟩
   have hg:st[t]?=some (st[t]'(by omega)):=getElem?_eq_getElem _;obtain ⟨g1,g2,g3⟩:=h t _ hg;rw [zek hg];unfold zk;rw [zjj];dsimp only;rw [zaw ha,Option.bind_some];cases q:decide (st[t]'(by omega) > v) with
   | true =>
    obtain ⟨w,hw⟩:∃ w:Nat,st[t]'(by omega)=(w:Int):=⟨_,(Int.toNat_of_nonneg g1).symm⟩
    rw [hw] at g2 ⊢;rw [Int.toNat_natCast] at g2;rw [cond_true,zaw g2,Option.bind_some];exact ih f (by omega) (by omega)
   | false=>exact ⟨_,rfl,.inr (getElem_mem _)⟩
 obtain ⟨w,e1,e2⟩:=key st.length n (Nat.le_refl _) hn;rw [take_length] at e1;refine ⟨w,?_,e2⟩;rw [yb0];dsimp only;have:decide ((a:Int)>=(b:Int))=false:=by simp;omega
 rw [this,cond_false,zaw hb,Option.bind_some,e1];simp only [Option.bind_some,Bo.then];rw [zaw ha];rfl
theorem znv (hL:c.d_.length<=40000):∀ (j k f:Nat) (out st:List Int),k+j=c.d_.length->j<f->out.length=k->st.length<=k ->
  ∃ st',zk (zgz n c ()) f ((k:Int),out,st)=some (.out ((c.d_.length:Int),out++z6n (c.d_.drop k) k st,st'))
 | 0,k,f+1,out,st,hk,_,_,_=>by
  obtain rfl:k=c.d_.length:=by omega
  rw [drop_length];refine ⟨st,?_⟩;unfold zk;rw [zji];simp [z6n]
 | j+1,k,f+1,out,st,hk,hf,ho,hst=>by
  have hkl:k<c.d_.length:=by omega
  have e1:decide ((k:Int)<(c.d_.length:Int))=true:=by simp;omega
  have hp:=y6z c.d_[k].a_ st
  obtain ⟨st',e⟩:=znv hL j (k+1) f (out++[z29 (z47 c.d_[k].a_ st)]) (bif c.d_[k].a_==34 then z47 c.d_[k].a_ st++[(k:Int)] else z47 c.d_[k].a_ st) (by omega) (by omega) (by simp;omega) (by cases c.d_[k].a_==34<;>simp<;>omega)
  refine ⟨st',?_⟩;rw [drop_eq_getElem_cons hkl];unfold zk;rw [zji];dsimp only;rw [e1,cond_true,z2b hkl,Option.bind_some]
  have p1:∀ {R:Type},(bif (c.d_[k].a_==35) then (some (.inl (c.d_[k].a_,decide ((st.length:Int) > 0)))) else (some (.inl (c.d_[k].a_,false))):Option (Int×Bool⊕R))=some (.inl (c.d_[k].a_,c.d_[k].a_==35&&decide (0<st.length))):=by intro R;cases c.d_[k].a_==35<;>simp
  rw [p1,Option.bind_some,orRet_inl];dsimp only
  have p2:∀ {R:Type},(bif (c.d_[k].a_==35&&decide (0<st.length)) then (need (0<=i64.wrap ((st.length:Int) - 1)/\i64.wrap ((st.length:Int) - 1)<=(st.length:Int)) (need ((i64.wrap ((st.length:Int) - 1)).toNat<=st.length) (some (.inl (c.d_[k].a_,st.take (i64.wrap ((st.length:Int) - 1)).toNat))))) else (some (.inl (c.d_[k].a_,st))):Option (Int×List Int⊕R))=some (.inl (c.d_[k].a_,z47 c.d_[k].a_ st)):=by
   intro R;unfold z47;cases h35:c.d_[k].a_==35 with
   | false=>rfl
   | true =>
    rcases Nat.eq_zero_or_pos st.length with h0 | h0
    ·have:st=[]:=eq_nil_of_length_eq_zero h0;subst this;rfl
    ·have:decide (0<st.length)=true:=by simp;omega
     rw [this];have wl:i64.wrap ((st.length:Int) - 1)=((st.length - 1:Nat):Int):=by rw [zf6 (by omega) (by omega)];omega
     rw [wl];simp only [Bool.true_and,cond_true,Int.toNat_natCast];rw [zl (by omega),zl (by omega),dropLast_eq_take]
  rw [p2,Option.bind_some,orRet_inl];dsimp only;generalize hs1:z47 c.d_[k].a_ st=st1 at *
  have p3:∀ {R:Type},(bif decide ((st1.length:Int) > 0) then (need (0<=i64.wrap ((st1.length:Int) - 1)/\i64.wrap ((st1.length:Int) - 1)<(st1.length:Int)) ((st1[(i64.wrap ((st1.length:Int) - 1)).toNat]?).bind λy2=>some (.inl (c.d_[k].a_,y2,st1)))) else (some (.inl (c.d_[k].a_,(-1:Int),st1))):Option (Int×Int×List Int⊕R))=some (.inl (c.d_[k].a_,z29 st1,st1)):=by
   intro R;rcases Nat.eq_zero_or_pos st1.length with h0 | h0
   ·have:st1=[]:=eq_nil_of_length_eq_zero h0;subst this;rfl
   ·have h1:decide ((st1.length:Int) > 0)=true:=by simp;omega
    have wl:i64.wrap ((st1.length:Int) - 1)=((st1.length - 1:Nat):Int):=by rw [zf6 (by omega) (by omega)];omega
    have hg:st1[st1.length - 1]?=some (z29 st1):=by unfold z29;rw [List.getLast?_eq_getElem?];rw [getElem?_eq_getElem (by omega)];rfl
    rw [h1,cond_true,wl,Int.toNat_natCast,zl (by omega),hg];rfl
  rw [p3,Option.bind_some,orRet_inl];dsimp only;rw [zl (by simp;omega),z22 (by omega)];unfold z6n;rw [hs1];cases h34:c.d_[k].a_==34 with
  | true =>rw [h34] at e;simp only [cond_true] at e ⊢;rw [zl (by omega),zl (by simp;omega)];simp only;rw [e,append_assoc];rfl
  | false =>rw [h34] at e;simp only [cond_false] at e ⊢;rw [e,append_assoc];rfl
theorem y53 (hL:c.d_.length<=40000)(hn:40000<n):y5q n c=some (z6n c.d_ 0 []):=by rw [yay];obtain ⟨st',e⟩:=znv (n:=n) hL c.d_.length 0 n [] [] (by omega) (by omega) rfl (by simp);have e:zk (zgz n c ()) n (0,[],[])=_:=e;rw [e];simp [Bo.then]
end
section
variable {n:Nat}{c:Xe}
def zf2 (c:Xe)(i j:Xd):Bool:=mem i&&(i.a_==j.a_&&(i.A_==j.A_&&(i.B_==j.B_&&(i.C_==j.C_&&(i.N_==j.N_&&(i.m_==j.m_&&eqTy (z66 c i.D_) (z66 c j.D_)))))))
theorem y7j {i j:Xd}(h:zf2 c i j=true):mem i=true/\mem j=true/\z3w c i=z3w c j:=by
 unfold zf2 at h;simp only [and_eq_true,beq_iff_eq] at h;obtain ⟨h1,h2,h3,h4,h5,h6,h7,h8⟩:=h;refine ⟨h1,?_,?_⟩
 ·rw [<- h1];unfold mem zx;rw [h2]
 ·unfold z3w;rw [h2,h3,h4,h5,h6,h7,zro h8]
theorem y7k {a b:Nat}{i j:Xd}(hi:c.d_[a]?=some i)(hj:c.d_[b]?=some j)(fi:z20 c i=true)(fj:z20 c j=true):y5r n (c,(a:Int),(b:Int))=some (zf2 c i j):=by
 have hD:∀ {k:Xd},z20 c k=true->zx k=true->idx c.c_ k.D_=some (z66 c k.D_):=λhf hs=>by obtain ⟨t,ht,_⟩:=z55 hf hs;exact z67 (z50 ht).2
 rw [yaz];dsimp only;rw [zaw hi,Option.bind_some,zaw hj,Option.bind_some,zod,Option.bind_some];unfold zf2 mem;cases hs:zx i with
 | false=>rfl
 | true =>
  simp only [Bool.not_true,cond_false];cases h32:i.a_==32 with
  | true=>rfl
  | false =>
   cases h3:i.a_==3 with
   | true=>rfl
   | false =>
    simp only [cond_false,Option.bind_some,orRet_inl];unfold bne;cases ho:i.a_==j.a_ with
    | false=>rfl
    | true =>
     have hs2:zx j=true:=by rw [<- hs];unfold zx;rw [show i.a_=j.a_ by simpa using ho]
     rw [hD fi hs,hD fj hs2];cases i.A_==j.A_<;>cases i.B_==j.B_<;>cases i.C_==j.C_<;>cases i.N_==j.N_<;>cases i.m_==j.m_<;>rfl
structure CI (c:Xe) (out:List Xd) (blk st:List Int) (sc:Scs):Prop where
 len:blk.length=out.length
 ch:Ch blk st
 sl:sc.length=st.length+1
 lt:∀ (q:Nat) v,blk[q]?=some v->-1<=v/\v<q
 lv:∀ (q:Nat) i,out[q]?=some i->mem i=true->∀ t,t<=st.length->blk[q]?=some (z29 (st.take t))->∃ m,sc[t]?=some m/\∃ y∈m,y.k_=z3w c i
 cl:∀ (q1:Nat) j,out[q1]?=some j->cpy c j=false/\∃ st',Ch blk st'/\st'.length<=q1/\blk[q1]?=some (z29 st')/\∀ (q2:Nat) i,q2<q1->out[q2]?=some i->zf2 c i j=true->∀ v,blk[q2]?=some v->¬ (v = -1\/v∈st')
structure CE (c:Xe) (out:List Xd) (blk:List Int):Prop where
 len:blk.length=out.length
 lt:∀ (q:Nat) v,blk[q]?=some v->-1<=v/\v<q
 cl:∀ (q1:Nat) j,out[q1]?=some j->cpy c j=false/\∃ st',Ch blk st'/\st'.length<=q1/\blk[q1]?=some (z29 st')/\∀ (q2:Nat) i,q2<q1->out[q2]?=some i->zf2 c i j=true->∀ v,blk[q2]?=some v->¬ (v = -1\/v∈st')
theorem z2g {α:Type}{l:List α}{x y:α}{q:Nat}(h:(l++[x])[q]?=some y):(q<l.length/\l[q]?=some y)\/(q=l.length/\y=x):=by
 rcases Nat.lt_or_ge q l.length with h' | h'
 ·rw [List.getElem?_append_left h'] at h;exact .inl ⟨h',h⟩
 ·rw [List.getElem?_append_right h'] at h;rcases Nat.eq_zero_or_pos (q - l.length) with h0 | h0
  ·rw [h0] at h;exact .inr ⟨by omega,by simpa using h.symm⟩
  ·rw [getElem?_eq_none (by simp;omega)] at h;cases h
theorem y3e {α:Type}{l:List α}{x:α}{q:Nat}(h:q=l.length):(l++[x])[q]?=some x:=by subst h;simp
theorem zph {α:Type}{l:List α}{x y:α}{q:Nat}(h:l[q]?=some y):q<l.length/\(l++[x])[q]?=some y:=by
 have:q<l.length:=by
  rcases Nat.lt_or_ge q l.length with h' | h'
  ·exact h'
  ·rw [getElem?_eq_none h'] at h;cases h
 exact ⟨this,by rw [List.getElem?_append_left this];exact h⟩
theorem CI.more {out:List Xd}{blk st st1 st2:List Int}{sc sc2:Scs}{j:Xd}(h:CI c out blk st sc)(h1:∃ t,st1=st.take t)(hl1:st1.length<=out.length)
  (hcp:cpy c j=false) (hno:mem j=true->∀ t,t<=st1.length->∀ m,sc[t]?=some m->∀ y∈m,y.k_≠z3w c j)
  (hch:Ch (blk++[z29 st1]) st2) (hsl:sc2.length=st2.length+1)
  (hlv:∀ (q:Nat) i,(out++[j])[q]?=some i->mem i=true->∀ t,t<=st2.length->(blk++[z29 st1])[q]?=some (z29 (st2.take t))->∃ m,sc2[t]?=some m/\∃ y∈m,y.k_=z3w c i) :
  CI c (out++[j]) (blk++[z29 st1]) st2 sc2:=by
 obtain ⟨t1,ht1⟩:=h1;have hc1:Ch blk st1:=ht1 ▸ h.ch.take t1
 have htop : -1<=z29 st1/\z29 st1<out.length:=by
  rcases eq_nil_or_concat st1 with e | ⟨s,v,e⟩
  ·rw [e];exact ⟨by decide,by show (-1:Int)<_;omega⟩
  ·rw [concat_eq_append] at e;have hv:st1[s.length]?=some v:=by rw [e];simp
   obtain ⟨g1,g2,g3⟩:=hc1 _ _ hv;rw [e,zf1]
   have:v.toNat<blk.length:=by
    rcases Nat.lt_or_ge v.toNat blk.length with h' | h'
    ·exact h'
    ·rw [getElem?_eq_none h'] at g2;cases g2
   rw [h.len] at this;omega
 refine ⟨by simp [h.len],hch,hsl,λq v hv=>?_,hlv,λq1 j' hj=>?_⟩
 ·rcases z2g hv with ⟨_,hv⟩ | ⟨rfl,rfl⟩
  ·exact h.lt q v hv
  ·rw [h.len];exact htop
 ·rcases z2g hj with ⟨hq,hj⟩ | ⟨rfl,rfl⟩
  ·obtain ⟨e1,st',e2,e2',e3,e4⟩:=h.cl q1 j' hj;refine ⟨e1,st',e2.app _,e2',(zph e3).2,λq2 i hq2 hi ht v hv=>?_⟩;rcases z2g hi with ⟨_,hi⟩ | ⟨e,_⟩
   ·rcases z2g hv with ⟨_,hv⟩ | ⟨e,_⟩
    ·exact e4 q2 i hq2 hi ht v hv
    ·rw [h.len] at e;omega
   ·omega
  ·refine ⟨hcp,st1,hc1.app _,hl1,y3e h.len.symm,λq2 i hq2 hi ht v hv hin=>?_⟩;rcases z2g hi with ⟨_,hi⟩ | ⟨e,_⟩
   ·rcases z2g hv with ⟨_,hv⟩ | ⟨e,_⟩
    ·obtain ⟨t,g1,g2⟩:=yjb hin;obtain ⟨k1,k2,k3⟩:=y7j ht
     have e:st1.take t=st.take t:=by rw [ht1,take_take];rw [ht1,length_take] at g1;congr 1;omega
     have gl:t<=st.length:=by rw [ht1,length_take] at g1;omega
     obtain ⟨m,e1,y,e2,e3⟩:=h.lv q2 i hi k1 t gl (by rw [hv,<- g2,e]);exact hno k2 t g1 m e1 y e2 (e3.trans k3)
    ·rw [h.len] at e;omega
   ·omega
theorem y60 {α:Type}{f:α->Bool}{l:List α}{r:Nat×α}(h:z2n f l=some r):l[r.1]?=some r.2/\f r.2=true/\r.1<l.length:=by
 obtain ⟨j,x⟩:=r;obtain ⟨h1,h2⟩:=z98 f l j x h;refine ⟨h1,h2,?_⟩;rcases Nat.lt_or_ge j l.length with h' | h'
 ·exact h'
 ·rw [getElem?_eq_none h'] at h1;cases h1
theorem y3v {x:Xf}{d:Int}{m:List Xg}{k:Xf}(h:(∃ y∈m,y.k_=k)\/k=x):∃ y∈z9m (mK x) ⟨x,d⟩ m,y.k_=k:=by
 unfold z9m;split
 ·rename_i j hj;obtain ⟨j1,j2,j3⟩:=y60 hj;rcases h with ⟨y,hy,rfl⟩ | rfl
  ·obtain ⟨q,hq⟩:=List.getElem?_of_mem hy;by_cases e:j.1=q
   ·rw [e,hq] at j1;cases j1;exact ⟨⟨x,d⟩,List.mem_iff_getElem?.2 ⟨j.1,by rw [getElem?_set_self j3]⟩,zpy.1 j2⟩
   ·exact ⟨y,List.mem_iff_getElem?.2 ⟨q,by rw [getElem?_set_ne e];exact hq⟩,rfl⟩
  ·exact ⟨⟨k,d⟩,List.mem_iff_getElem?.2 ⟨j.1,by rw [getElem?_set_self j3]⟩,rfl⟩
 ·rcases h with ⟨y,hy,rfl⟩ | rfl
  ·exact ⟨y,List.mem_append_left _ hy,rfl⟩
  ·exact ⟨⟨k,d⟩,List.mem_append_right _ (mem_singleton.2 rfl),rfl⟩
theorem zii {α:Type}{l:List α}{x:α}{t:Nat}(h:t<=l.length):(l++[x]).take t=l.take t:=by rw [List.take_append_of_le_length h]
theorem CI.kept {out:List Xd}{blk st:List Int}{sc:Scs}{al:List Int}{j:Xd}(h:CI c out blk st sc)(hst:st.length<=out.length)(hk:(ruS c j sc al).1=true)(h35:j.a_=35->1<=(ruS c j sc al).2.1.length) :
  CI c (out++[j]) (blk++[z29 (z47 j.a_ st)]) (bif j.a_==34 then z47 j.a_ st++[(out.length:Int)] else z47 j.a_ st) (ruS c j sc al).2.1/\(bif j.a_==34 then z47 j.a_ st++[(out.length:Int)] else z47 j.a_ st).length<=(out++[j]).length:=by
 have hm34:∀ {k:Int},j.a_=k->(k=34\/k=35)->mem j=true->False:=λe hk hm=>by unfold mem at hm;rw [zbb (by rcases hk with rfl | rfl;exact .inl e;exact .inr (.inl e))] at hm;cases hm
 have hcp34:∀ {k:Int},j.a_=k->(k=34\/k=35)->cpy c j=false:=λe hk=>by unfold cpy;rw [e];rcases hk with rfl | rfl<;>rfl
 by_cases h34:j.a_=34
 ·have e:ruS c j sc al=(true,sc++[[]],al):=by unfold ruS;rw [h34];rfl
  have ep:z47 j.a_ st=st:=by unfold z47;rw [h34];rfl
  rw [e,ep,h34];refine ⟨h.more ⟨st.length,by simp⟩ hst (hcp34 h34 (.inl rfl)) (λhm=>(hm34 h34 (.inl rfl) hm).elim) (λt v hv=>?_) (by simp [h.sl]) (λq i hi hm t ht hb=>?_),by simp;omega⟩
  ·have hv:(st++[(out.length:Int)])[t]?=some v:=hv;show 0<=v/\_=some (z29 ((st++[(out.length:Int)]).take t))/\z29 ((st++[(out.length:Int)]).take t)<v;rcases z2g hv with ⟨h1,h2⟩ | ⟨rfl,rfl⟩
   ·rw [zii (by omega)];exact h.ch.app _ t v h2
   ·rw [zii (Nat.le_refl _),take_length];refine ⟨by omega,y3e (by rw [h.len];simp),?_⟩;rcases eq_nil_or_concat st with e | ⟨s,v,e⟩
    ·rw [e];show (-1:Int)<_;omega
    ·rw [concat_eq_append] at e;have hv:st[s.length]?=some v:=by rw [e];simp
     obtain ⟨g1,g2,g3⟩:=h.ch _ _ hv;rw [e,zf1];have:=(zph (x:=(0:Int)) g2).1;rw [h.len] at this;omega
  ·have ht:t<=(st++[(out.length:Int)]).length:=ht;have hb:(blk++[z29 st])[q]?=some (z29 ((st++[(out.length:Int)]).take t)):=hb;rcases z2g hi with ⟨hq,hi⟩ | ⟨_,rfl⟩
   ·rcases z2g hb with ⟨_,hb⟩ | ⟨e2,_⟩
    ·rw [List.length_append] at ht;have ht:t<=st.length+1:=ht;by_cases htl:t<=st.length
     ·rw [zii htl] at hb;obtain ⟨m,e1,e2⟩:=h.lv q i hi hm t htl hb;exact ⟨m,(zph e1).2,e2⟩
     ·have:t=st.length+1:=by omega
      rw [this,List.take_of_length_le (by simp),zf1] at hb;have:=(h.lt q _ hb).2;omega
    ·rw [h.len] at e2;omega
   ·exact (hm34 h34 (.inl rfl) hm).elim
 ·by_cases h35':j.a_=35
  ·have e:ruS c j sc al=(true,sc.take (sc.length - 1),al):=by unfold ruS;rw [h35'];rfl
   have ep:z47 j.a_ st=st.take (st.length - 1):=by unfold z47;rw [h35',dropLast_eq_take];rfl
   have h35:=h35 h35';rw [e] at h35;have h35:1<=(sc.take (sc.length - 1)).length:=h35;rw [length_take,h.sl] at h35;rw [e,ep,h35']
   refine ⟨h.more ⟨_,rfl⟩ (by simp;omega) (hcp34 h35' (.inr rfl)) (λhm=>(hm34 h35' (.inr rfl) hm).elim) ((h.ch.app _).take _) (by show (sc.take (sc.length - 1)).length=(st.take (st.length - 1)).length+1;rw [length_take,length_take,h.sl];omega) (λq i hi hm t ht hb=>?_),by simp;omega⟩
   have ht:t<=(st.take (st.length - 1)).length:=ht;have hb:(blk++[z29 (st.take (st.length - 1))])[q]?=some (z29 ((st.take (st.length - 1)).take t)):=hb;rw [length_take] at ht;rw [take_take,Nat.min_eq_left (by omega)] at hb;rcases z2g hi with ⟨hq,hi⟩ | ⟨_,rfl⟩
   ·rcases z2g hb with ⟨_,hb⟩ | ⟨e2,_⟩
    ·obtain ⟨m,e1,e2⟩:=h.lv q i hi hm t (by omega) hb;refine ⟨m,?_,e2⟩;show (sc.take (sc.length - 1))[t]?=some m;rw [List.getElem?_take_of_lt (by rw [h.sl];omega)];exact e1
    ·rw [h.len] at e2;omega
   ·exact (hm34 h35' (.inr rfl) hm).elim
  ·have b34:(j.a_==34)=false:=by simpa using h34
   have b35:(j.a_==35)=false:=by simpa using h35'
   have ep:z47 j.a_ st=st:=by unfold z47;rw [b35];rfl
   rw [ep,b34];simp only [cond_false];refine ⟨?_,by simp;omega⟩;unfold ruS at hk ⊢;rw [b34,b35] at hk ⊢;simp only [cond_false] at hk ⊢;cases hcp:cpy c j with
   | true=>rw [hcp] at hk;cases hk
   | false =>
    rw [hcp] at hk;simp only [cond_false] at hk ⊢;cases hm:mem j with
    | false =>
     refine h.more ⟨st.length,by simp⟩ hst hcp (λq=>by rw [hm] at q;cases q) (h.ch.app _) h.sl (λq i hi hmi t ht hb=>?_);rcases z2g hi with ⟨hq,hi⟩ | ⟨_,rfl⟩
     ·rcases z2g hb with ⟨_,hb⟩ | ⟨e2,_⟩
      ·exact h.lv q i hi hmi t ht hb
      ·rw [h.len] at e2;omega
     ·rw [hm] at hmi;cases hmi
    | true =>
     rw [hm] at hk;simp only [cond_true] at hk ⊢;cases hfd:z4f sc (z3w c j) with
     | some r=>rw [hfd] at hk;cases hk
     | none =>
      have hnone:=zyj hfd;refine h.more ⟨st.length,by simp⟩ hst hcp (λ_ t ht m hm y hy=>hnone m (List.mem_of_getElem? hm) y hy) (h.ch.app _) (by rw [zmy];exact h.sl) (λq i hi hmi t ht hb=>?_);have hl:sc.length - 1<sc.length:=by have:=h.sl;omega
      have hgl:sc[sc.length - 1]?=some (sc[sc.length - 1]'hl):=getElem?_eq_getElem hl
      have fin:(t=st.length/\((∃ m,sc[t]?=some m/\∃ y∈m,y.k_=z3w c i)\/z3w c i=z3w c j))\/(t≠st.length/\∃ m,sc[t]?=some m/\∃ y∈m,y.k_=z3w c i)->∃ m,(z6z sc (z3w c j) j.D_)[t]?=some m/\∃ y∈m,y.k_=z3w c i:=by
       intro hc;unfold z6z;rcases hc with ⟨rfl,hc⟩ | ⟨h1,m,h2,h3⟩
       ·have et:sc.length - 1=st.length:=by have:=h.sl;omega
        have hl2:st.length<sc.length:=by omega
        obtain ⟨m0,hm0⟩:∃ m0,sc[st.length]?=some m0:=⟨_,getElem?_eq_getElem hl2⟩
        rw [et,hm0,getElem?_set_self hl2];refine ⟨_,rfl,y3v ?_⟩;rcases hc with ⟨m,h2,h3⟩ | h3
        ·rw [hm0] at h2;cases h2;exact .inl h3
        ·exact .inr h3
       ·rw [getElem?_set_ne (by have:=h.sl;omega)];exact ⟨m,h2,h3⟩
      apply fin;rcases z2g hi with ⟨hq,hi⟩ | ⟨eq,rfl⟩
      ·rcases z2g hb with ⟨_,hb⟩ | ⟨e2,_⟩
       ·have:=h.lv q i hi hmi t ht hb;by_cases e:t=st.length
        ·exact .inl ⟨e,.inl this⟩
        ·exact .inr ⟨e,this⟩
       ·rw [h.len] at e2;omega
      ·rcases z2g hb with ⟨e2,_⟩ | ⟨_,e2⟩
       ·rw [h.len] at e2;omega
       ·exact .inl ⟨h.ch.inj ht e2,.inr rfl⟩
theorem zhw:∀ (l:List Xd) (k:Nat) (done set set':List Bool) (o p:List Xh) (sc:Scs) (al:List Int) (r:List Bool×List Xh) (out:List Xd) (blk st:List Int),RJ c done set set' o p sc al->z15 l done=true->goR c l k set o = .inr r->CI c out blk st sc->st.length<=out.length ->
  CE c (out++ruL c l sc al) (blk++z6n (ruL c l sc al) out.length st)
 | [],k,done,set,set',o,p,sc,al,r,out,blk,st,h,hs,hg,hc,_=>by show CE c (out++[]) (blk++[]);rw [append_nil,append_nil];exact ⟨hc.len,hc.lt,hc.cl⟩
 | i::l,k,done,set,set',o,p,sc,al,r,out,blk,st,h,hs,hg,hc,hl=>by
  obtain ⟨h1,h2⟩:=zcm hs;rw [ze7] at hg;cases hst:z1g c i set o with
  | false=>rw [hst] at hg;cases hg
  | true =>
   rw [hst,cond_true] at hg;obtain ⟨s1,s2⟩:=h.step hst h1;rw [zba];cases hr:(ruS c (rdI al i) sc al).1 with
   | true =>
    obtain ⟨t1,t2⟩:=s1 hr
    have h35:1<=(ruS c (rdI al i) sc al).2.1.length:=by obtain ⟨sc0,m,e,_⟩:=t2.stk;rw [e];simp
    obtain ⟨c1,c2⟩:=hc.kept (j:=rdI al i) (al:=al) hl hr (λ_=>h35);have:=zhw l (k+1) _ _ _ _ _ _ _ r _ _ _ t2 h2 hg c1 c2;rw [cond_true,List.singleton_append];unfold z6n;rw [List.length_append] at this;rw [append_assoc,append_assoc] at this;exact this
   | false =>have e:=(yl7 (c:=c) (j:=rdI al i) (sc:=sc) (al:=al) (al':=al)).2.2.2 hr;rw [cond_false,List.nil_append];exact zhw l (k+1) _ _ _ _ _ _ _ r _ _ _ (s2 hr) h2 hg (by rw [e];exact hc) hl
theorem CI.start (c:Xe):CI c [] [] [] [[]] :=
 ⟨rfl,λt v h=>by simp at h,rfl,λq v h=>by simp at h,λq i h=>by simp at h,λq i h=>by simp at h⟩
theorem zy2 {c:Xe}(h:(chk c).1=0)(hs:z15 c.d_ (z26 c)=true):CE c (z52 c) (z6n (z52 c) 0 []):=by obtain ⟨_,q1,q2,q3,q4,q5,r,q6,q7⟩:=zcs h;have:=zhw c.d_ 0 _ _ _ _ _ _ _ r [] [] [] (RJ.start c) hs q6 (CI.start c) (Nat.le_refl _);unfold z52;rw [hs];exact this
theorem y57 {d:Xe}(hn:100000<n)(hL:d.d_.length<=40000)(hf:∀ i∈d.d_,z20 d i=true)(h:CE d d.d_ (z6n d.d_ 0 [])):zwd n d=some true:=by
 rw [yax,y53 hL (by omega)];simp only [Option.bind_some];have i1:=z57 (L:=d.d_.length) (body:=zgx n d (z6n d.d_ 0 [])) (λk=>(k:Int)) (λk hk=>?_) (y:=(d.d_.length:Int)) ?_ d.d_.length 0 n (by omega) (by omega)
 ·have i1:zk (zgx n d (z6n d.d_ 0 [])) n 0=_:=i1;rw [i1];rfl
 ·rw [zjg];have e1:decide ((k:Int)<(d.d_.length:Int))=true:=by simp;omega
  have hgk:d.d_[k]?=some d.d_[k]:=getElem?_eq_getElem hk;obtain ⟨w1,st',w2,w2',w3,w4⟩:=h.cl k _ hgk;have hfk:=hf _ (getElem_mem hk);simp only [e1,cond_true,z2b hk,Option.bind_some]
  have eC:∀ {R:Type},(bif (d.d_[k].a_==3) then ((idx d.c_ d.d_[k].A_).bind λy3=>(idx d.c_ d.d_[k].D_).bind λy4=>some (.inl ((y3.j_==y4.j_&&(y3.o_==y4.o_&&true))))) else (some (.inl false)):Option (Bool⊕R))=some (.inl (cpy d d.d_[k])):=by
   intro R;unfold cpy;cases e3:d.d_[k].a_==3 with
   | false=>rfl
   | true =>
    have e3:d.d_[k].a_=3:=by simpa using e3
    have hs:zx d.d_[k]=true:=by unfold zx;rw [e3];rfl
    obtain ⟨t,ht,_⟩:=z55 hfk hs;rw [cond_true,z67 (z50 ht).2,z67 (zat hfk _ (zq4 (by rw [e3];decide)))];rfl
  rw [eC,Option.bind_some,orRet_inl,w1];simp only [cond_false];have i2:=z57 (L:=k) (body:=zgy n d (z6n d.d_ 0 []) (k:Int) ()) (λj=>(j:Int)) (λj hj=>?_) (y:=(k:Int)) ?_ k 0 n (by omega) (by omega)
  ·have i2:zk (zgy n d (z6n d.d_ 0 []) (k:Int) ()) n 0=_:=i2;rw [i2,z22 (by omega)];rfl
  ·rw [zjh];have e2:decide ((j:Int)<(k:Int))=true:=by simp;omega
   have hjl:j<d.d_.length:=by omega
   have hgj:d.d_[j]?=some (d.d_[j]'hjl):=getElem?_eq_getElem hjl;rw [e2,cond_true,y7k hgj hgk (hf _ (getElem_mem hjl)) hfk,Option.bind_some];cases ht:zf2 d (d.d_[j]'hjl) d.d_[k] with
   | false=>simp only [cond_false,Option.bind_some,orRet_inl,z22 (show j<4611686018427387904 by omega)]
   | true =>
    have hbj:(z6n d.d_ 0 [])[j]?=some ((z6n d.d_ 0 [])[j]'(by rw [h.len];omega)):=getElem?_eq_getElem _;have hne:=w4 j _ hj hgj ht _ hbj;obtain ⟨w,a1,a2⟩:=y4r (n:=n) w2 hj hbj w3 (h.lt _ _ hbj).1 (by omega)
    have:(w==(z6n d.d_ 0 [])[j]'(by rw [h.len];omega))=false:=by simp only [beq_eq_false_iff_ne];intro e;exact hne (e ▸ a2)
    rw [cond_true,a1,this];simp only [Option.bind_some,orRet_inl,cond_false,z22 (show j<4611686018427387904 by omega)]
  ·rw [zjh];simp
 ·rw [zjg];simp
theorem yc6 {n:Nat}(c:Xe)(hN:zyp c<=n)(hs:znc c)(hu:zhu c):y5p n c=some true:=by
 have hn:1000010<n:=by unfold zyp at hN;omega
 have e:(⟨c.g_,c.c_,c.e_,c.d_⟩:Xe)=c:=rfl;rw [yaw,ych hs];simp only [Option.bind_some,e];rw [y7a hn hs hu,zyk (by omega) hu];simp only [Option.bind_some];by_cases h:(chk c).1=0
 ·obtain ⟨_,q1,q2,q3,q4,q5,r,q6,q7⟩:=zcs h;obtain ⟨_,p1,p2,p3,p4,p5,r',p6,p7⟩:=zcs (zrk h);simp only [decide_eq_false_iff_not] at q1 q2 q3;have hl:=y77 c;have hsi:zkx n c=some (z15 c.d_ (z26 c)):=zn1 (by omega) (by omega) (by omega) (ze8 c _ _ _ _ _ q6);have hf':∀ i∈(zev c).d_,z20 (zev c) i=true:=ze8 _ _ _ _ _ _ p6;rw [y79 h,h,hsi];simp only [zrh,Bool.not_true,cond_false,Option.bind_some,orRet_inl];cases hsg:z15 c.d_ (z26 c) with
  | false =>simp only [Bool.not_false,cond_true];rw [zli (by omega)];rfl
  | true =>
   have e1:zoh n (⟨c.g_,c.c_,c.e_,z52 c⟩:Xe)=some true:=by have:=zyk (n:=n) (by omega) (yci hu);rw [zrk h] at this;exact this
   have e2:zkx n (⟨c.g_,c.c_,c.e_,z52 c⟩:Xe)=some true:=by have:=zn1 (n:=n) (d:=zev c) (by omega) (by show c.c_.length<=_;omega) (by show (z52 c).length<=_;omega) hf';rw [show z15 (zev c).d_ (z26 (zev c))=true from zxf hsg] at this;exact this
   have e3:zwd n (⟨c.g_,c.c_,c.e_,z52 c⟩:Xe)=some true:=by have hce:=zy2 h hsg;exact y57 (d:=zev c) (by omega) (by show (z52 c).length<=_;omega) hf' ⟨hce.len,hce.lt,hce.cl⟩
   simp only [Bool.not_true,cond_false,zrh,cond_true,e1,e2,e3,Option.bind_some];rw [zli (by omega)];rfl
 ·have h2:((chk c).1==0)=false:=by simpa using h
  rw [h2];simp only [Bool.not_false,cond_true,Option.bind_some,orRet_inl];rw [zli (by omega)];rfl
end
abbrev yad:Ty:=.str
def yac (R:Nat->Nat->Prop)(x:ByteArray):Prop:=R x.size 1
theorem ynq {R:Nat->Nat->Prop}{cs:List AV}(h:z58 R yad cs):∃ x:ByteArray,yac R x/\[.sc (.string x)]=cs:=by obtain ⟨b,rfl,h⟩:=h;exact ⟨b,h,rfl⟩
abbrev z71:Ty:=.int .i64
def z70 (_:Nat->Nat->Prop)(x:Int):Prop:=(Lit.int .i64 x).wf=true
theorem z82 {R:Nat->Nat->Prop}{cs:List AV}(h:z58 R z71 cs):∃ x:Int,z70 R x/\[.sc (.int .i64 x)]=cs:=by obtain ⟨n,rfl,h⟩:=h;exact ⟨n,h,rfl⟩
abbrev zfg:Ty:=.st (.cons yad (.cons z71 (.cons z71 (.nil))))
structure zfc (R:Nat->Nat->Prop) (x:Xa):Prop where
 q_:yac R x.q_
 j_:z70 R x.j_
 r_:z70 R x.r_
theorem znb {R:Nat->Nat->Prop}{cs:List AV}(h:z58 R zfg cs):∃ x:Xa,zfc R x/\(c1 false) x=cs:=by obtain ⟨_,_,rfl,h0,h⟩:=h;obtain ⟨_,_,rfl,h1,h⟩:=h;obtain ⟨_,_,rfl,h2,h⟩:=h;obtain rfl:=h;obtain ⟨x0,w0,rfl⟩:=ynq h0;obtain ⟨x1,w1,rfl⟩:=z82 h1;obtain ⟨x2,w2,rfl⟩:=z82 h2;exact ⟨⟨x0,x1,x2⟩,⟨w0,w1,w2⟩,rfl⟩
abbrev zdf:Ty:=.sl 3 32 zfg
def zde (R:Nat->Nat->Prop)(x:List Xa):Prop:=R x.length 32/\∀ y∈x,zfc R y
theorem zla {R:Nat->Nat->Prop}{cs:List AV}(h:z58 R zdf cs):∃ x:List Xa,zde R x/\[.im 3 (x.map (c1 false))]=cs:=by obtain ⟨xs,rfl,h1,h2⟩:=h;obtain ⟨ys,h3,rfl⟩:=zaz (c:=(c1 false)) (λ_ h=>znb h) h1;exact ⟨ys,⟨by simpa using h2,h3⟩,rfl⟩
abbrev zbf:Ty:=.st (.cons z71 (.cons z71 (.nil)))
structure zbe (R:Nat->Nat->Prop) (x:Xb):Prop where
 j_:z70 R x.j_
 o_:z70 R x.o_
theorem zg5 {R:Nat->Nat->Prop}{cs:List AV}(h:z58 R zbf cs):∃ x:Xb,zbe R x/\(c2 false) x=cs:=by obtain ⟨_,_,rfl,h0,h⟩:=h;obtain ⟨_,_,rfl,h1,h⟩:=h;obtain rfl:=h;obtain ⟨x0,w0,rfl⟩:=z82 h0;obtain ⟨x1,w1,rfl⟩:=z82 h1;exact ⟨⟨x0,x1⟩,⟨w0,w1⟩,rfl⟩
abbrev zff:Ty:=.sl 2 16 zbf
def zfb (R:Nat->Nat->Prop)(x:List Xb):Prop:=R x.length 16/\∀ y∈x,zbe R y
theorem zna {R:Nat->Nat->Prop}{cs:List AV}(h:z58 R zff cs):∃ x:List Xb,zfb R x/\[.im 2 (x.map (c2 false))]=cs:=by obtain ⟨xs,rfl,h1,h2⟩:=h;obtain ⟨ys,h3,rfl⟩:=zaz (c:=(c2 false)) (λ_ h=>zg5 h) h1;exact ⟨ys,⟨by simpa using h2,h3⟩,rfl⟩
abbrev y4n:Ty:=.bool
def y4m (_:Nat->Nat->Prop)(x:Bool):Prop:=True
theorem yl4 {R:Nat->Nat->Prop}{cs:List AV}(h:z58 R y4n cs):∃ x:Bool,y4m R x/\[.sc (.bool x)]=cs:=by obtain ⟨b,rfl⟩:=h;exact ⟨b,trivial,rfl⟩
abbrev zxo:Ty:=.int .u32
def znl (_:Nat->Nat->Prop)(x:Int):Prop:=(Lit.int .u32 x).wf=true
theorem ya3 {R:Nat->Nat->Prop}{cs:List AV}(h:z58 R zxo cs):∃ x:Int,znl R x/\[.sc (.int .u32 x)]=cs:=by obtain ⟨n,rfl,h⟩:=h;exact ⟨n,h,rfl⟩
abbrev zgg:Ty:=.st (.cons zbf (.cons y4n (.cons zxo (.cons z71 (.nil)))))
structure zge (R:Nat->Nat->Prop) (x:Xc):Prop where
 s_:zbe R x.s_
 T_:y4m R x.T_
 m_:znl R x.m_
 u_:z70 R x.u_
theorem zqc {R:Nat->Nat->Prop}{cs:List AV}(h:z58 R zgg cs):∃ x:Xc,zge R x/\(c3 false) x=cs:=by obtain ⟨_,_,rfl,h0,h⟩:=h;obtain ⟨_,_,rfl,h1,h⟩:=h;obtain ⟨_,_,rfl,h2,h⟩:=h;obtain ⟨_,_,rfl,h3,h⟩:=h;obtain rfl:=h;obtain ⟨x0,w0,rfl⟩:=zg5 h0;obtain ⟨x1,w1,rfl⟩:=yl4 h1;obtain ⟨x2,w2,rfl⟩:=ya3 h2;obtain ⟨x3,w3,rfl⟩:=z82 h3;exact ⟨⟨x0,x1,x2,x3⟩,⟨w0,w1,w2,w3⟩,rfl⟩
abbrev zfe:Ty:=.sl 5 32 zgg
def zfa (R:Nat->Nat->Prop)(x:List Xc):Prop:=R x.length 32/\∀ y∈x,zge R y
theorem zn9 {R:Nat->Nat->Prop}{cs:List AV}(h:z58 R zfe cs):∃ x:List Xc,zfa R x/\[.im 5 (x.map (c3 false))]=cs:=by obtain ⟨xs,rfl,h1,h2⟩:=h;obtain ⟨ys,h3,rfl⟩:=zaz (c:=(c3 false)) (λ_ h=>zqc h) h1;exact ⟨ys,⟨by simpa using h2,h3⟩,rfl⟩
abbrev zgf:Ty:=.st (.cons z71 (.cons z71 (.cons z71 (.cons z71 (.cons z71 (.cons z71 (.cons zxo (.nil))))))))
structure zgd (R:Nat->Nat->Prop) (x:Xd):Prop where
 a_:z70 R x.a_
 D_:z70 R x.D_
 A_:z70 R x.A_
 B_:z70 R x.B_
 C_:z70 R x.C_
 N_:z70 R x.N_
 m_:znl R x.m_
theorem zqb {R:Nat->Nat->Prop}{cs:List AV}(h:z58 R zgf cs):∃ x:Xd,zgd R x/\(c4 false) x=cs:=by obtain ⟨_,_,rfl,h0,h⟩:=h;obtain ⟨_,_,rfl,h1,h⟩:=h;obtain ⟨_,_,rfl,h2,h⟩:=h;obtain ⟨_,_,rfl,h3,h⟩:=h;obtain ⟨_,_,rfl,h4,h⟩:=h;obtain ⟨_,_,rfl,h5,h⟩:=h;obtain ⟨_,_,rfl,h6,h⟩:=h;obtain rfl:=h;obtain ⟨x0,w0,rfl⟩:=z82 h0;obtain ⟨x1,w1,rfl⟩:=z82 h1;obtain ⟨x2,w2,rfl⟩:=z82 h2;obtain ⟨x3,w3,rfl⟩:=z82 h3;obtain ⟨x4,w4,rfl⟩:=z82 h4;obtain ⟨x5,w5,rfl⟩:=z82 h5;obtain ⟨x6,w6,rfl⟩:=ya3 h6;exact ⟨⟨x0,x1,x2,x3,x4,x5,x6⟩,⟨w0,w1,w2,w3,w4,w5,w6⟩,rfl⟩
abbrev zfd:Ty:=.sl 7 56 zgf
def zf9 (R:Nat->Nat->Prop)(x:List Xd):Prop:=R x.length 56/\∀ y∈x,zgd R y
theorem zn8 {R:Nat->Nat->Prop}{cs:List AV}(h:z58 R zfd cs):∃ x:List Xd,zf9 R x/\[.im 7 (x.map (c4 false))]=cs:=by obtain ⟨xs,rfl,h1,h2⟩:=h;obtain ⟨ys,h3,rfl⟩:=zaz (c:=(c4 false)) (λ_ h=>zqb h) h1;exact ⟨ys,⟨by simpa using h2,h3⟩,rfl⟩
abbrev y_T_api_Code:Ty:=.st (.cons zdf (.cons zff (.cons zfe (.cons zfd (.nil)))))
structure zbd (R:Nat->Nat->Prop) (x:Xe):Prop where
 g_:zde R x.g_
 c_:zfb R x.c_
 e_:zfa R x.e_
 d_:zf9 R x.d_
theorem r_T_api_Code {R:Nat->Nat->Prop}{cs:List AV}(h:z58 R y_T_api_Code cs):∃ x:Xe,zbd R x/\(c15 false) x=cs:=by obtain ⟨_,_,rfl,h0,h⟩:=h;obtain ⟨_,_,rfl,h1,h⟩:=h;obtain ⟨_,_,rfl,h2,h⟩:=h;obtain ⟨_,_,rfl,h3,h⟩:=h;obtain rfl:=h;obtain ⟨x0,w0,rfl⟩:=zla h0;obtain ⟨x1,w1,rfl⟩:=zna h1;obtain ⟨x2,w2,rfl⟩:=zn9 h2;obtain ⟨x3,w3,rfl⟩:=zn8 h3;exact ⟨⟨x0,x1,x2,x3⟩,⟨w0,w1,w2,w3⟩,rfl⟩
theorem y4k {R:Nat->Nat->Prop}{x:Int}(h:znl R x):0<=x/\x<4294967296:=by
 have h:(Lit.int .u32 x).wf=true:=h;simp [Lit.wf] at h;have e1:u32.min=0:=by decide
 have e2:u32.max=4294967295:=by decide
 omega
theorem zqp {a:Xe}(h:zbd RSaid a):znc a/\zhu a :=
 ⟨⟨Nat.le_trans h.g_.1 (by decide),Nat.le_trans h.c_.1 (by decide),Nat.le_trans h.e_.1 (by decide),Nat.le_trans h.d_.1 (by decide)⟩,(λs hs=>y4k (h.e_.2 s hs).m_),λi hi=>y4k (h.d_.2 i hi).m_⟩
theorem pureReuseClean (a:Xe)(h:zbd RSaid a):∃ n,y5p n a=some true:=⟨_,yc6 a (Nat.le_refl _) (zqp h).1 (zqp h).2⟩
end Loom
