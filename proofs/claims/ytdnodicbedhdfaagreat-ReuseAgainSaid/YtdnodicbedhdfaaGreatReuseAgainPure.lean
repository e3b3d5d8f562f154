/- The plain law of ReuseAgain: what it answers is true,whatever it is handed (part 1 of 1). -/
import Derived.Test.YtdnodicbedhdfaaGreatReuseAgainWvB
set_option linter.unusedVariables false
set_option linter.unusedSimpArgs false
set_option linter.unusedSectionVars false
set_option maxRecDepth 100000
open Go.IntKind (i64 u64 u32)
open Bool (and_eq_true and_eq_true_iff cond_self false_eq not_eq_false' not_eq_true' or_eq_false_iff)
open List (all_eq_true any_cons any_eq_true append_inj' append_nil dropLast_eq_take drop_eq_getElem_cons drop_length drop_zero filter_append findIdx?_cons foldl_cons getElem?_eq_getElem getElem?_set getElem?_set_self getElem_mem length_map length_range length_set map_append mem_append mem_singleton range replicate reverse singleton_append)
open Nat (le_of_ble_eq_true le_succ)
open Option (getD_some map_some)
namespace Loom
open Go
@[simp] theorem orRet_inl {S R:Type}{A:S->Option R}{s:S}:zt A (.inl s)=A s:=rfl
@[simp] theorem orRet_inr {S R:Type}{A:S->Option R}{r:R}:zt A (.inr r)=some r:=rfl
theorem zo {R:Type}{p:Prop}[Decidable p]{x:Option R}(h:p):need p x=x:=by unfold need;rw [if_pos h]
def z37 (l:List Xa)(t:Xb):Bool :=
 bif t.j_==3 then decide (t.n_>=0)&&decide (t.n_<(l.length:Int)) else (t.j_==1||t.j_==2)&&t.n_==0
theorem zy5 {n:Nat}(c:Xe)(t:Xb):f31 n (c,t)=some (z37 c.f_ t):=by
 rw [yd7];unfold z37;by_cases h1:t.j_=1
 ·simp [h1]
 ·by_cases h2:t.j_=2
  ·simp [h2]
  ·by_cases h3:t.j_=3
   ·by_cases h4:t.n_>=0<;>simp [h3,h4]
   ·have e1:(t.j_==1)=false:=by simpa using h1
    have e2:(t.j_==2)=false:=by simpa using h2
    have e3:(t.j_==3)=false:=by simpa using h3
    simp [e1,e2,e3]
theorem zy7 {n:Nat}(l:List Xa)(t:Xb):f39 n (t,l)=some (z37 l t):=by
 rw [ydh];unfold z37;by_cases h1:t.j_=1
 ·simp [h1]
 ·by_cases h2:t.j_=2
  ·simp [h2]
  ·by_cases h3:t.j_=3
   ·by_cases h4:t.n_>=0<;>simp [h3,h4]
   ·have e1:(t.j_==1)=false:=by simpa using h1
    have e2:(t.j_==2)=false:=by simpa using h2
    have e3:(t.j_==3)=false:=by simpa using h3
    simp [e1,e2,e3]
def z7l (x:Int):Bool:=decide (x % 2147483648<=2139095040)||x==2143289344
theorem zxh {m:Nat}(h:m<4294967296):u32.wrap (m:Int)=m:=by
 have:u32.wrap (m:Int)=(m:Int) % 4294967296:=by simp [IntKind.wrap,IntKind.bits,IntKind.signed]
 omega
theorem yku (x:Int)(h0:0<=x)(h1:x<4294967296):(BitVec.ofInt u32.bits x &&& ~~~BitVec.ofInt u32.bits 2147483648).toNat=x.toNat % 2147483648:=by
 show (BitVec.ofInt 32 x &&& ~~~BitVec.ofInt 32 2147483648).toNat=_;have e:(~~~BitVec.ofInt 32 2147483648:BitVec 32)=2147483647#32:=by decide
 rw [e,BitVec.toNat_and];have e2:(2147483647#32).toNat=2 ^ 31 - 1:=by decide
 rw [e2,Nat.and_two_pow_sub_one_eq_mod]
 have e3:(BitVec.ofInt 32 x).toNat=x.toNat:=by rw [BitVec.toNat_ofInt];omega
 rw [e3]
theorem zya {n:Nat}(x:Int)(h0:0<=x)(h1:x<4294967296):f52 n x=some (z7l x):=by
 rw [yds,yku x h0 h1,zxh (by omega)];unfold z7l;have:((x.toNat % 2147483648:Nat):Int)=x % 2147483648:=by omega
 rw [this];cases decide (x % 2147483648<=2139095040)<;>rfl
theorem zif {m:Int}(h0:0<=m)(h:m<18446744073709551616):u64.wrap m=m:=by
 have:u64.wrap m=m % 18446744073709551616:=by simp [IntKind.wrap,IntKind.bits,IntKind.signed]
 omega
theorem y79 (x:Int)(k:Nat)(hk:k<64)(h0:0<=x)(h1:x<18446744073709551616):(BitVec.ofInt u64.bits x &&& BitVec.ofInt u64.bits ((2 ^ k - 1:Nat):Int)).toNat=x.toNat % 2 ^ k:=by
 show (BitVec.ofInt 64 x &&& BitVec.ofInt 64 _).toNat=_;rw [BitVec.toNat_and];have hp:2 ^ k<2 ^ 64:=Nat.pow_lt_pow_right (by decide) hk
 have e2:(BitVec.ofInt 64 ((2 ^ k - 1:Nat):Int)).toNat=2 ^ k - 1:=by rw [BitVec.toNat_ofInt];have:(0:Nat)<2 ^ k:=Nat.two_pow_pos k;omega
 have e3:(BitVec.ofInt 64 x).toNat=x.toNat:=by rw [BitVec.toNat_ofInt];omega
 rw [e2,e3,Nat.and_two_pow_sub_one_eq_mod]
theorem yak {n:Nat}(x:Int)(h0:0<=x)(h1:x<4294967296):∃ r,f69 n x=some r/\r.2.2.2.2=(decide (x / 8388608 % 256=255)&&decide (x % 8388608≠0)):=by
 rw [yel];have e0:u64.wrap x=x:=zif h0 (by omega)
 have e1:x.fdiv (2 ^ min (23:Int).toNat u64.bits)=x / 8388608:=by show x.fdiv 8388608=_;rw [Int.fdiv_eq_ediv_of_nonneg _ (by decide)]
 have e2:(BitVec.ofInt u64.bits (x / 8388608) &&& BitVec.ofInt u64.bits (255:Int)).toNat=(x / 8388608).toNat % 256:=y79 (x / 8388608) 8 (by decide) (by omega) (by omega);have e3:(BitVec.ofInt u64.bits x &&& BitVec.ofInt u64.bits (8388607:Int)).toNat=x.toNat % 8388608:=y79 x 23 (by decide) (by omega) (by omega);simp only [e0,e1,e2,e3];rw [zif (m:=(((x / 8388608).toNat % 256:Nat):Int)) (by omega) (by omega),zif (m:=((x.toNat % 8388608:Nat):Int)) (by omega) (by omega),zh8 (by omega) (by omega)];have c1:(((x / 8388608).toNat % 256:Nat):Int)=x / 8388608 % 256:=by omega
 have c2:((x.toNat % 8388608:Nat):Int)=x % 8388608:=by omega
 rw [c1,c2];by_cases h:x / 8388608 % 256=255
 ·have q:(x / 8388608 % 256==255)=true:=by simp [h]
  simp only [q,cond_true,Option.bind_some,orRet_inl];refine ⟨_,rfl,?_⟩;rw [decide_eq_true h,Bool.true_and];show (x % 8388608 != 0)=_;by_cases h3:x % 8388608=0<;>simp [h3]
 ·have q:(x / 8388608 % 256==255)=false:=by simp [h]
  simp only [q,cond_false];cases (x / 8388608 % 256==0)
  all_goals
   simp only [cond_false,cond_true,Option.bind_some,orRet_inl];refine ⟨_,rfl,?_⟩;rw [decide_eq_false h,Bool.false_and]
theorem zyc {n:Nat}(x:Int)(h0:0<=x)(h1:x<4294967296):f58 n x=some (z7l x):=by
 have w:i64.wrap x=x:=zh8 (by omega) (by omega);obtain ⟨r,e,e'⟩:=yak (n:=n) x h0 h1;rw [ye2,w,yef,e];simp only [Option.bind_some,e'];unfold z7l;by_cases h:x / 8388608 % 256=255/\x % 8388608≠0
 ·have q:(decide (x / 8388608 % 256=255)&&decide (x % 8388608≠0))=true:=by simp [h]
  have q2:decide (x % 2147483648<=2139095040)=false:=by simp;omega
  rw [q,q2];simp only [cond_true,Option.bind_some,Bool.false_or];congr 1;rw [Bool.eq_iff_iff];simp;omega
 ·have q:(decide (x / 8388608 % 256=255)&&decide (x % 8388608≠0))=false:=by rw [Bool.eq_false_iff];intro hb;simp only [and_eq_true,decide_eq_true_eq] at hb;exact h hb
  have q2:decide (x % 2147483648<=2139095040)=true:=by simp;omega
  rw [q,q2];simp
def z75 (l:List Xa)(s:Xc):Bool :=
 z37 l s.s_&&(bif s.s_.j_==2 then s.m_==0&&(decide (s.u_>=0)&&decide (s.u_<=2147483647)) else s.u_==0&&z7l s.m_)
theorem ydc {n:Nat}(c:Xe)(s:Xc)(h0:0<=s.m_)(h1:s.m_<4294967296):f34 n (c,s)=some (z75 c.f_ s):=by rw [ydb,zy5,zya _ h0 h1];unfold z75;simp only [Option.bind_some];cases z37 c.f_ s.s_<;>cases (s.s_.j_==2)<;>cases (s.m_==0)<;>cases (s.u_==0)<;>cases decide (s.u_>=0)<;>rfl
theorem ydj {n:Nat}(l:List Xa)(s:Xc)(h0:0<=s.m_)(h1:s.m_<4294967296):f40 n (s,l)=some (z75 l s):=by rw [ydi,zy7,zyc _ h0 h1];unfold z75;simp only [Option.bind_some];cases z37 l s.s_<;>cases (s.s_.j_==2)<;>cases (s.m_==0)<;>cases (s.u_==0)<;>cases decide (s.u_>=0)<;>rfl
structure z4s where
 d:Int
 a:Int
 b:Int
 c:Int
 n:Int
def z4q (op:Int):Option z4s :=
 bif op==1 then some ⟨1,0,0,0,0⟩ else
 bif op==2 then some ⟨2,0,0,0,1⟩ else
 bif op==3 then some ⟨8,7,0,0,0⟩ else
 bif op==4 then some ⟨4,5,5,0,0⟩ else
 bif op==5 then some ⟨4,5,5,0,0⟩ else
 bif op==6 then some ⟨4,5,5,0,0⟩ else
 bif op==7 then some ⟨4,5,5,0,0⟩ else
 bif op==8 then some ⟨4,5,5,0,0⟩ else
 bif op==9 then some ⟨4,5,5,0,0⟩ else
 bif op==10 then some ⟨4,5,5,0,0⟩ else
 bif op==11 then some ⟨4,5,0,0,0⟩ else
 bif op==12 then some ⟨4,5,0,0,0⟩ else
 bif op==13 then some ⟨4,5,0,0,0⟩ else
 bif op==14 then some ⟨4,5,0,0,0⟩ else
 bif op==15 then some ⟨4,5,5,5,0⟩ else
 bif op==16 then some ⟨1,1,2,0,0⟩ else
 bif op==17 then some ⟨1,2,0,0,0⟩ else
 bif op==18 then some ⟨2,1,0,0,0⟩ else
 bif op==19 then some ⟨1,3,0,0,0⟩ else
 bif op==20 then some ⟨1,3,0,0,0⟩ else
 bif op==21 then some ⟨2,2,0,0,0⟩ else
 bif op==22 then some ⟨2,2,2,0,0⟩ else
 bif op==23 then some ⟨2,2,2,0,0⟩ else
 bif op==24 then some ⟨2,2,2,0,0⟩ else
 bif op==25 then some ⟨2,2,0,0,0⟩ else
 bif op==26 then some ⟨2,2,2,2,0⟩ else
 bif op==27 then some ⟨2,2,2,0,0⟩ else
 bif op==28 then some ⟨2,2,2,0,0⟩ else
 bif op==29 then some ⟨3,0,0,0,2⟩ else
 bif op==30 then some ⟨3,0,0,0,2⟩ else
 bif op==31 then some ⟨0,3,0,0,2⟩ else
 bif op==32 then some ⟨8,0,0,0,3⟩ else
 bif op==33 then some ⟨0,8,0,0,3⟩ else
 bif op==34 then some ⟨0,2,0,0,0⟩ else
 bif op==35 then some ⟨0,0,0,0,0⟩ else
 bif op==36 then some ⟨0,0,0,0,4⟩ else
 bif op==37 then some ⟨0,0,0,0,0⟩ else
 none
theorem z5c (op:Int):(op=1\/op=2\/op=3\/op=4\/op=5\/op=6\/op=7\/op=8\/op=9\/op=10\/op=11\/op=12\/op=13\/op=14\/op=15\/op=16\/op=17\/op=18\/op=19\/op=20\/op=21\/op=22\/op=23\/op=24\/op=25\/op=26\/op=27\/op=28\/op=29\/op=30\/op=31\/op=32\/op=33\/op=34\/op=35\/op=36\/op=37)\/(∀ k:Int,1<=k->k<=37->(op==k)=false):=by
 by_cases h:1<=op/\op<=37
 ·left;omega
 ·right;intro k h1 h2;simp only [beq_eq_false_iff_ne,ne_eq];omega
theorem zob {n:Nat}(op:Int):f26 n op=some (match z4q op with | some r=>(true,r.d,r.a,r.b,r.c,r.n) | none=>(false,0,0,0,0,0)):=by
 rw [yd1];rcases z5c op with (rfl | rfl | rfl | rfl | rfl | rfl | rfl | rfl | rfl | rfl | rfl | rfl | rfl | rfl | rfl | rfl | rfl | rfl | rfl | rfl | rfl | rfl | rfl | rfl | rfl | rfl | rfl | rfl | rfl | rfl | rfl | rfl | rfl | rfl | rfl | rfl | rfl) | h
 iterate 37 (· kernel_rfl)
 simp (discharger:=decide) only [z4q,h,cond_false,Option.bind_some,orRet_inl]
def z5b (s:Int):UInt8:=bif s==1 then 110 else bif s==2 then 119 else bif s==3 then 118 else bif s==4 then 100 else bif s==5 then 120 else bif s==7 then 99 else bif s==8 then 97 else 45
def z8j (s:Int):UInt8:=bif s==1 then 105 else bif s==2 then 112 else bif s==3 then 115 else bif s==4 then 113 else 45
def z4j (r:z4s):ByteArray:=⟨#[z5b r.d,z5b r.a,z5b r.b,z5b r.c,z8j r.n]⟩
theorem zoc {n:Nat}(op:Int):f27 n op=some (match z4q op with | some r=>(z4j r,true) | none=>(⟨#[]⟩,false)):=by
 rw [yd2];rcases z5c op with (rfl | rfl | rfl | rfl | rfl | rfl | rfl | rfl | rfl | rfl | rfl | rfl | rfl | rfl | rfl | rfl | rfl | rfl | rfl | rfl | rfl | rfl | rfl | rfl | rfl | rfl | rfl | rfl | rfl | rfl | rfl | rfl | rfl | rfl | rfl | rfl | rfl) | h
 iterate 37 (· kernel_rfl)
 simp (discharger:=decide) only [z4q,h,cond_false,Option.bind_some,orRet_inl]
theorem z4i {op:Int}(h:∀ k:Int,1<=k->k<=37->(op==k)=false):z4q op=none:=by simp (discharger:=decide) only [z4q,h,cond_false]
def z13 (i:Xd):List Int:=match z4q i.c_ with
 | some r=>(bif r.a==0 then [] else [i.A_])++((bif r.b==0 then [] else [i.B_])++(bif r.c==0 then [] else [i.C_]))
 | none=>[]
def z10 (i:Xd):Bool:=match z4q i.c_ with | some r=>!(r.d==0) | none=>false
theorem zw5 (m:Nat)(i:Xd):f9 (m+4) i=some (z13 i):=by
 obtain ⟨op,d,a,b,c,N,bits⟩:=i;rcases z5c op with (rfl | rfl | rfl | rfl | rfl | rfl | rfl | rfl | rfl | rfl | rfl | rfl | rfl | rfl | rfl | rfl | rfl | rfl | rfl | rfl | rfl | rfl | rfl | rfl | rfl | rfl | rfl | rfl | rfl | rfl | rfl | rfl | rfl | rfl | rfl | rfl | rfl) | h
 iterate 37 (· kernel_rfl)
 rw [yky,zob];simp only [z13,z4i h];kernel_rfl
theorem ycn (m:Nat)(i:Xd):f10 (m+4) i=some (z13 i):=by
 obtain ⟨op,d,a,b,c,N,bits⟩:=i;rcases z5c op with (rfl | rfl | rfl | rfl | rfl | rfl | rfl | rfl | rfl | rfl | rfl | rfl | rfl | rfl | rfl | rfl | rfl | rfl | rfl | rfl | rfl | rfl | rfl | rfl | rfl | rfl | rfl | rfl | rfl | rfl | rfl | rfl | rfl | rfl | rfl | rfl | rfl) | h
 iterate 37 (· kernel_rfl)
 rw [ycm,zoc];simp only [z13,z4i h];kernel_rfl
theorem zj3 (n:Nat)(i:Xd):f11 n i=some (z10 i):=by
 obtain ⟨op,d,a,b,c,N,bits⟩:=i;rcases z5c op with (rfl | rfl | rfl | rfl | rfl | rfl | rfl | rfl | rfl | rfl | rfl | rfl | rfl | rfl | rfl | rfl | rfl | rfl | rfl | rfl | rfl | rfl | rfl | rfl | rfl | rfl | rfl | rfl | rfl | rfl | rfl | rfl | rfl | rfl | rfl | rfl | rfl) | h
 iterate 37 (· kernel_rfl)
 rw [yco,zob];simp only [z10,z4i h];kernel_rfl
theorem zy2 (n:Nat)(i:Xd):f12 n i=some (z10 i):=by
 obtain ⟨op,d,a,b,c,N,bits⟩:=i;rcases z5c op with (rfl | rfl | rfl | rfl | rfl | rfl | rfl | rfl | rfl | rfl | rfl | rfl | rfl | rfl | rfl | rfl | rfl | rfl | rfl | rfl | rfl | rfl | rfl | rfl | rfl | rfl | rfl | rfl | rfl | rfl | rfl | rfl | rfl | rfl | rfl | rfl | rfl) | h
 iterate 37 (· kernel_rfl)
 rw [ycp,zoc];simp only [z10,z4i h];kernel_rfl
def z6z (op:Int):Bool:=bif decide (op>=3) then decide (op<=15) else false
theorem ycr (n:Nat)(op:Int):f13 n op=some (z6z op):=by rw [ycq];unfold z6z;cases decide (op>=3)<;>rfl
theorem yct (n:Nat)(op:Int):f14 n op=some (z6z op):=by rw [ycs];unfold z6z;cases decide (op>=3)<;>rfl
abbrev ty0:Xb:=⟨0,0⟩
def eqTy (t d:Xb):Bool:=t.j_==d.j_&&(t.n_==d.n_&&true)
def isS (t:Xb)(s:Int)(d:Xb):Bool :=
 bif s==1 then t.j_==1 else bif s==2 then t.j_==2 else bif s==3 then t.j_==3 else bif s==4 then t.j_ != 2 else
 bif s==5 then (t.j_==1||eqTy t d) else bif s==7 then (eqTy t d||(t.j_==1&&d.j_==3)) else true
theorem ydw {n:Nat}(t:Xb)(s:Int)(d:Xb)(h:s≠6):f54 n (t,s,d)=some (isS t s d):=by
 have h6:(s==6)=false:=by simpa using h
 rw [ydv];unfold isS eqTy;simp only [h6,cond_false];cases (s==1)<;>cases (s==2)<;>cases (s==3)<;>cases (s==4)<;>cases (s==5)<;>cases (s==7)<;>cases (t.j_==1)<;>cases (t.j_==d.j_&&(t.n_==d.n_&&true))<;>cases (d.j_==3)<;>rfl
theorem z2s {α:Type}{l:List α}{n:Int}(h:n<0\/n>=l.length):idx l n=none:=by
 unfold idx;split
 ·rcases h with h | h
  ·omega
  ·rw [List.getElem?_eq_none];omega
 ·rfl
theorem z8h {α:Type}{l:List α}{n:Int}(h0:0<=n)(h1:n<l.length):∃ y,idx l n=some y/\y∈l:=by
 unfold idx;rw [if_pos h0];have:n.toNat<l.length:=by omega
 exact ⟨l[n.toNat],by simp [this],getElem_mem this⟩
theorem z6c {α:Type}{l:List α}{n:Int}{y:α}(h:idx l n=some y):y∈l/\0<=n/\n<l.length:=by
 unfold idx at h;split at h
 ·rename_i h0;obtain ⟨h1,h2⟩:=List.getElem?_eq_some_iff.1 h;exact ⟨h2 ▸ getElem_mem h1,h0,by omega⟩
 ·cases h
theorem ydu {n:Nat}(a:List Xa)(b:List Xb)(c:List Xc)(d:List Xd)(e:List Bool)(f:List (List Int))(g:List Int)(k:Int) :
  f53 n (a,b,c,d,e,f,g,k)=some (match idx b k with | some t=>(true,a,b,c,d,e,f,g,t.j_,t.n_) | none=>(false,a,b,c,d,e,f,g,0,0)):=by
 rw [ydt];by_cases h:k<0
 ·rw [z2s (.inl h)];simp [h]
 ·by_cases h2:k>=b.length
  ·rw [z2s (.inr h2)];simp [h,h2]
  ·obtain ⟨y,hy,_⟩:=z8h (l:=b) (n:=k) (by omega) (by omega);rw [hy];have e1:decide (k<0)=false:=by simpa using h
   have e2:decide (k>=(b.length:Int))=false:=by simp;omega
   simp [e1,e2,hy]
theorem yen {n:Nat}(c:Xe)(k:Int):f70 n (c,k)=some (match idx c.a_ k with | some t=>(true,t.j_,t.n_) | none=>(false,0,0)):=by
 rw [yem];by_cases h:k<0
 ·rw [z2s (.inl h)];simp [h]
 ·by_cases h2:k>=c.a_.length
  ·rw [z2s (.inr h2)];simp [h,h2]
  ·obtain ⟨y,hy,_⟩:=z8h (l:=c.a_) (n:=k) (by omega) (by omega);rw [hy];have e1:decide (k<0)=false:=by simpa using h
   have e2:decide (k>=(c.a_.length:Int))=false:=by simp;omega
   simp [e1,e2,hy]
theorem zmm {l:List Xa}{t:Xb}(h:z37 l t=true):t.j_=1\/t.j_=2\/(t.j_=3/\0<=t.n_/\t.n_<l.length):=by
 unfold z37 at h;by_cases h3:t.j_=3
 ·simp [h3] at h;exact .inr (.inr ⟨h3,h.1,h.2⟩)
 ·have e3:(t.j_==3)=false:=by simpa using h3
  rw [e3] at h;simp at h;rcases h.1 with h | h
  ·exact .inl h
  ·exact .inr (.inl h)
def z14 (c:Xe)(s k:Int)(d:Xb):Bool:=bif s==0 then k==0 else match idx c.a_ k with | none=>false | some t=>isS t s d
def z4z (s:Int):Prop:=s=0\/s=1\/s=2\/s=3\/s=4\/s=5\/s=7\/s=8
theorem zja {n:Nat}{c:Xe}{s k:Int}{d:Xb}(hs:z4z s)(hr:∀ t∈c.a_,z37 c.f_ t=true):f66 n (c,((z5b s).toNat:Int),k,d)=some (z14 c s k d):=by
 rw [yeg,yen];unfold z14;cases hi:idx c.a_ k with
 | none=>rcases hs with rfl | rfl | rfl | rfl | rfl | rfl | rfl | rfl<;>kernel_rfl
 | some t =>
  have hk:=zmm (hr t (z6c hi).1);rcases hs with rfl | rfl | rfl | rfl | rfl | rfl | rfl | rfl
  ·rfl
  ·rfl
  ·rfl
  ·rfl
  ·rcases hk with h | h | ⟨h,_⟩<;>simp [h,z5b,isS]
  ·show (bif t.j_==1 then some true else some (eqTy t d))=some (t.j_==1||eqTy t d);cases (t.j_==1)<;>rfl
  ·show (bif eqTy t d then some true else bif t.j_==1 then some (d.j_==3) else some false)=some (eqTy t d||(t.j_==1&&d.j_==3));cases eqTy t d<;>cases (t.j_==1)<;>rfl
  ·rfl
theorem zuz {op:Int}{r:z4s}(h:z4q op=some r):(z4z r.d/\z4z r.a/\z4z r.b/\z4z r.c)/\((r.n=0\/r.n=1\/r.n=3\/r.n=4)\/r.n=2/\(r.d=3\/r.d=0/\r.a=3)):=by
 rcases z5c op with (rfl | rfl | rfl | rfl | rfl | rfl | rfl | rfl | rfl | rfl | rfl | rfl | rfl | rfl | rfl | rfl | rfl | rfl | rfl | rfl | rfl | rfl | rfl | rfl | rfl | rfl | rfl | rfl | rfl | rfl | rfl | rfl | rfl | rfl | rfl | rfl | rfl) | h0
 iterate 37 (· cases h;simp [z4z])
 rw [z4i h0] at h;cases h
def tyD (c:Xe)(r:z4s)(i:Xd):Xb:=bif r.d==0 then ty0 else (idx c.a_ i.D_).getD ty0
def tyF (c:Xe)(r:z4s)(i:Xd):Xb:=bif r.d==0 then (bif r.a==0 then ty0 else (idx c.a_ i.A_).getD ty0) else (idx c.a_ i.D_).getD ty0
def nOk (c:Xe)(s N:Int)(t:Xb):Bool :=
 bif s==1 then decide (N>=0)&&decide (N<=2147483647) else
 bif s==2 then (N==0||(N==1&&(match idx c.f_ t.n_ with | some p=>p.j_==2 | none=>false))) else
 bif s==3 then (match idx c.e_ N with | some z=>eqTy z.s_ t | none=>false) else
 bif s==4 then decide (N>=0)&&decide (N<(c.f_.length:Int)) else N==0
def z6l (i:Xd):Bool:=bif i.c_==1 then z7l i.m_ else i.m_==0
def z29 (c:Xe)(i:Xd):Bool:=match z4q i.c_ with
 | none=>false
 | some r=>z14 c r.d i.D_ ty0&&(z14 c r.a i.A_ (tyD c r i)&&(z14 c r.b i.B_ (tyD c r i)&&(z14 c r.c i.C_ (tyD c r i)&&(z6l i&&nOk c r.n i.N_ (tyF c r i)))))
theorem yei {n:Nat}{c:Xe}{N p:Int}(hp:0<=p/\p<c.f_.length):f67 n (c,N,p)=some (N==0||(N==1&&(match idx c.f_ p with | some p=>p.j_==2 | none=>false))):=by rw [yeh];obtain ⟨y,hy,_⟩:=z8h (l:=c.f_) hp.1 hp.2;rw [hy];cases (N==0)<;>cases (N==1)<;>simp
theorem ynj {t d:Xb}(h:isS t 3 d=true):t.j_=3:=by simpa [isS] using h
theorem zur {c:Xe}{i:Xd}{r:z4s}(hr:∀ t∈c.a_,z37 c.f_ t=true)(hp:r.d=3\/r.d=0/\r.a=3)(h1:z14 c r.d i.D_ ty0=true)(h2:z14 c r.a i.A_ (tyD c r i)=true):0<=(tyF c r i).n_/\(tyF c r i).n_<c.f_.length:=by
 have key:∀ (k:Int) (d:Xb),z14 c 3 k d=true->∃ t,idx c.a_ k=some t/\0<=t.n_/\t.n_<c.f_.length:=λk d h=>by
  unfold z14 at h;have e:((3:Int)==0)=false:=by decide
  rw [e,cond_false] at h;split at h
  ·cases h
  ·rename_i t ht;have h3:=ynj h;rcases zmm (hr t (z6c ht).1) with q | q | q
   ·omega
   ·omega
   ·exact ⟨t,ht,q.2⟩
 rcases hp with hp | ⟨hp,hq⟩
 ·rw [hp] at h1;obtain ⟨t,ht,h⟩:=key _ _ h1;unfold tyF;rw [hp];simpa [ht] using h
 ·rw [hq] at h2;obtain ⟨t,ht,h⟩:=key _ _ h2;unfold tyF;rw [hp,hq];simpa [ht] using h
theorem zml {s:Int}(h:z4z s):(((z5b s).toNat:Int) != 45) = !(s==0):=by rcases h with rfl | rfl | rfl | rfl | rfl | rfl | rfl | rfl<;>rfl
theorem y3h {s:Int}(h:z4z s):(((z5b s).toNat:Int)==45)=(s==0):=by rcases h with rfl | rfl | rfl | rfl | rfl | rfl | rfl | rfl<;>rfl
theorem zc4 (r:z4s):((z4j r).size:Int)=5:=rfl
theorem y9r (r:z4s):zd (z4j r) 0=((z5b r.d).toNat:Int):=rfl
theorem y9s (r:z4s):zd (z4j r) 1=((z5b r.a).toNat:Int):=rfl
theorem ymv (r:z4s):zd (z4j r) 2=((z5b r.b).toNat:Int):=rfl
theorem ymw (r:z4s):zd (z4j r) 3=((z5b r.c).toNat:Int):=rfl
theorem y9t (r:z4s):zd (z4j r) 4=((z8j r.n).toNat:Int):=rfl
theorem z60 {c:Xe}{s k:Int}{d:Xb}(h:z14 c s k d=true)(hs:(s==0)=false):∃ t,idx c.a_ k=some t:=by
 unfold z14 at h;rw [hs,cond_false] at h;split at h
 ·cases h
 ·rename_i t ht;exact ⟨t,ht⟩
theorem ye4 {n:Nat}{c:Xe}{i:Xd}(hr:∀ t∈c.a_,z37 c.f_ t=true)(h0:0<=i.m_)(h1:i.m_<4294967296):f59 n (c,i)=some (z29 c i):=by
 rw [ye3,zoc];unfold z29;cases h:z4q i.c_ with
 | none=>rfl
 | some r =>
  obtain ⟨⟨s1,s2,s3,s4⟩,hn⟩:=zuz h;have n1:(0:Int)<=0/\(0:Int)<5:=by decide
  have n2:(0:Int)<=1/\(1:Int)<5:=by decide
  have n3:(0:Int)<=2/\(2:Int)<5:=by decide
  have n4:(0:Int)<=3/\(3:Int)<5:=by decide
  have n5:(0:Int)<=4/\(4:Int)<5:=by decide
  simp only [Option.bind_some,Bool.not_true,cond_false,zyc _ h0 h1]
  have hB:(bif (i.c_ != 1) then (bif (i.m_ != 0) then some (Sum.inl (z4j r,true)) else some (Sum.inl (z4j r,!z7l i.m_))) else some (Sum.inl (z4j r,!z7l i.m_)):Option (ByteArray×Bool⊕Bool))=some (.inl (z4j r,!(z6l i))):=by
   unfold z6l;by_cases q:i.c_=1
   ·simp [q]
   ·by_cases q2:i.m_=0
    ·have:z7l 0=true:=by decide
     simp [q,q2,this]
    ·have e1:(i.c_==1)=false:=by simpa using q
     have e2:(i.m_==0)=false:=by simpa using q2
     simp [bne,e1,e2]
  rw [hB,Option.bind_some,orRet_inl];dsimp only;cases hb:z6l i with
  | false=>simp
  | true =>
   simp only [Bool.not_true,cond_false,zc4,zo n1,y9r,zml s1,zja s1 hr,Option.bind_some]
   have hD:(bif !(r.d==0) then (bif !(z14 c r.d i.D_ ty0) then some (Sum.inr false) else (idx c.a_ i.D_).bind λy5=>some (Sum.inl (z4j r,y5.j_,y5.n_))) else (bif i.D_ != 0 then some (Sum.inr false) else some (Sum.inl (z4j r,0,0))):Option (ByteArray×Int×Int⊕Bool))
     = bif z14 c r.d i.D_ ty0 then some (.inl (z4j r,(tyD c r i).j_,(tyD c r i).n_)) else some (.inr false):=by
    cases hz:r.d==0 with
    | true =>
     have:z14 c r.d i.D_ ty0=(i.D_==0):=by unfold z14;rw [hz];rfl
     rw [this];unfold tyD;rw [hz];have e:(i.D_ != 0) = !(i.D_==0):=rfl;rw [e];cases i.D_==0<;>rfl
    | false =>
     cases hq:z14 c r.d i.D_ ty0 with
     | false=>simp
     | true =>obtain ⟨t,ht⟩:=z60 hq hz;unfold tyD;rw [hz,ht];simp
   rw [hD];cases hd:z14 c r.d i.D_ ty0 with
   | false=>simp
   | true =>
    simp only [cond_true,Option.bind_some,orRet_inl,zc4,zo n2,zo n3,zo n4,y9s,ymv,ymw,zja s2 hr,zja s3 hr,zja s4 hr,Bool.true_and];cases ha:z14 c r.a i.A_ (tyD c r i) with
    | false=>simp
    | true =>
     cases hbb:z14 c r.b i.B_ (tyD c r i) with
     | false=>simp
     | true =>
      cases hcc:z14 c r.c i.C_ (tyD c r i) with
      | false=>simp
      | true =>
       simp only [cond_true,cond_false,Bool.not_true,Option.bind_some,orRet_inl,zc4,zo n1,zo n2,zo n5,y9r,y9s,y9t,y3h s1,zml s2,Bool.true_and]
       have hF:((bif r.d==0 then some (Sum.inl (z4j r,!(r.a==0),(tyD c r i).j_,(tyD c r i).n_)) else some (Sum.inl (z4j r,false,(tyD c r i).j_,(tyD c r i).n_)):Option (ByteArray×Bool×Int×Int⊕(ByteArray×Int×Int⊕Bool))).bind (zt λs4=>bif s4.2.1 then (idx c.a_ i.A_).bind λy9=>some (Sum.inl (s4.1,y9.j_,y9.n_)) else some (Sum.inl (s4.1,s4.2.2.1,s4.2.2.2))))
         = some (.inl (z4j r,(tyF c r i).j_,(tyF c r i).n_)):=by
        unfold tyF tyD;cases hz:r.d==0 with
        | false=>simp
        | true =>
         cases hza:r.a==0 with
         | true=>simp
         | false =>obtain ⟨t,ht⟩:=z60 ha hza;simp [ht]
       rw [hF];simp only [Option.bind_some,orRet_inl,zc4,zo n5,y9t];unfold nOk;rcases hn with (hn | hn | hn | hn) | ⟨hn,hp⟩
       ·simp only [hn,z8j];rfl
       ·simp only [hn,z8j];show (bif decide (i.N_>=0) then some (decide (i.N_<=2147483647)) else some false)=some (decide (i.N_>=0)&&decide (i.N_<=2147483647));cases decide (i.N_>=0)<;>rfl
       ·simp only [hn,z8j];show (bif decide (i.N_>=0) then bif decide (i.N_<(c.e_.length:Int)) then (idx c.e_ i.N_).bind λy11=>some (eqTy y11.s_ (tyF c r i)) else some false else some false)=some (match idx c.e_ i.N_ with | some z=>eqTy z.s_ (tyF c r i) | none=>false);by_cases q:i.N_>=0
        ·by_cases q2:i.N_<c.e_.length
         ·obtain ⟨y,hy,_⟩:=z8h (l:=c.e_) q q2;simp [q,q2,hy]
         ·rw [z2s (by omega)];simp [q,q2]
        ·rw [z2s (by omega)];simp [q]
       ·simp only [hn,z8j];show (bif decide (i.N_>=0) then some (decide (i.N_<(c.f_.length:Int))) else some false)=some (decide (i.N_>=0)&&decide (i.N_<(c.f_.length:Int)));cases decide (i.N_>=0)<;>rfl
       ·have:=zur hr hp hd ha;simp only [hn,z8j];show ((f67 n (c,i.N_,(tyF c r i).n_)).bind λy10=>some y10)=_;rw [yei this];rfl
section
variable {n:Nat}{c:Xe}{i:Xd}{set:List Bool}{news:List (List Int)}{op:List Int}
theorem zgt {a b cc d e k dk dp fk fp s m:Int}(hk:k<4)(h1:idx [a,b,cc,d] k=some s)(h2:idx [i.D_,i.A_,i.B_,i.C_] k=some m)(hs:s≠6) :
  zfk n (c.f_,c.a_,c.e_,c.d_,set,news,op,i) (a,b,cc,d,e) (k,c.f_,c.a_,c.e_,c.d_,set,news,op,dk,dp,fk,fp) =
   some (bif z14 c s m ⟨dk,dp⟩ then .go (i64.wrap (k+1),c.f_,c.a_,c.e_,c.d_,set,news,op,
    (bif s==0 then dk else bif k==0 then ((idx c.a_ m).getD ty0).j_ else dk),(bif s==0 then dp else bif k==0 then ((idx c.a_ m).getD ty0).n_ else dp),
    (bif s==0 then fk else bif k==0 then ((idx c.a_ m).getD ty0).j_ else bif k==1 then (bif a==0 then ((idx c.a_ m).getD ty0).j_ else fk) else fk),
    (bif s==0 then fp else bif k==0 then ((idx c.a_ m).getD ty0).n_ else bif k==1 then (bif a==0 then ((idx c.a_ m).getD ty0).n_ else fp) else fp))
    else .ret (c.f_,c.a_,c.e_,c.d_,set,news,op)):=by
 rw [zlt];have hk':decide (k<4)=true:=by simpa using hk
 simp only [hk',cond_true,h1,h2,Option.bind_some];unfold z14;cases hz:s==0 with
 | true =>simp only [cond_true];have e1:(m != 0) = !(m==0):=rfl;rw [e1];cases m==0<;>rfl
 | false =>
  simp only [cond_false,ydu];cases hi:idx c.a_ m with
  | none=>rfl
  | some t =>simp only [Option.bind_some,Bool.not_true,cond_false,ydw _ _ _ hs];have e2:(⟨t.j_,t.n_⟩:Xb)=t:=rfl;simp only [e2,Option.bind_some,orRet_inl];cases isS t s ⟨dk,dp⟩<;>cases (k==0)<;>cases (k==1)<;>cases (a==0)<;>rfl
theorem znc {s:Int}(h:z4z s):s≠6:=by rcases h with rfl | rfl | rfl | rfl | rfl | rfl | rfl | rfl<;>decide
theorem w1:i64.wrap (0+1)=1:=by decide
theorem w2:i64.wrap (1+1)=2:=by decide
theorem w3:i64.wrap (2+1)=3:=by decide
theorem w4:i64.wrap (3+1)=4:=by decide
theorem yai {a b cc d e dk dp fk fp:Int} :
  zfk n (c.f_,c.a_,c.e_,c.d_,set,news,op,i) (a,b,cc,d,e) (4,c.f_,c.a_,c.e_,c.d_,set,news,op,dk,dp,fk,fp)=some (.out (4,c.f_,c.a_,c.e_,c.d_,set,news,op,dk,dp,fk,fp)):=by
 rw [zlt];rfl
theorem y5k {r:z4s}(m:Nat)(h:z4z r.d/\z4z r.a/\z4z r.b/\z4z r.c) :
  zl (zfk n (c.f_,c.a_,c.e_,c.d_,set,news,op,i) (r.d,r.a,r.b,r.c,r.n)) (m+5) (0,c.f_,c.a_,c.e_,c.d_,set,news,op,0,0,0,0) =
   some (bif z14 c r.d i.D_ ty0&&(z14 c r.a i.A_ (tyD c r i)&&(z14 c r.b i.B_ (tyD c r i)&&z14 c r.c i.C_ (tyD c r i))) then
    .out (4,c.f_,c.a_,c.e_,c.d_,set,news,op,(tyD c r i).j_,(tyD c r i).n_,(tyF c r i).j_,(tyF c r i).n_) else .ret (c.f_,c.a_,c.e_,c.d_,set,news,op)):=by
 obtain ⟨h1,h2,h3,h4⟩:=h
 have eD:∀ b:Bool,b=(r.d==0)->(⟨bif b then 0 else ((idx c.a_ i.D_).getD ty0).j_,bif b then 0 else ((idx c.a_ i.D_).getD ty0).n_⟩:Xb)=tyD c r i:=by intro b hb;unfold tyD;rw [<- hb];cases b<;>rfl
 unfold zl;rw [zgt (s:=r.d) (m:=i.D_) (by decide) rfl rfl (znc h1)];have e0:(⟨0,0⟩:Xb)=ty0:=rfl;rw [e0];cases z14 c r.d i.D_ ty0 with
 | false=>rfl
 | true =>
  have k0:((0:Int)==0)=true:=by decide
  simp only [cond_true,w1,k0,Bool.true_and];unfold zl;rw [zgt (s:=r.a) (m:=i.A_) (by decide) rfl rfl (znc h2),eD _ rfl];cases z14 c r.a i.A_ (tyD c r i) with
  | false=>rfl
  | true =>
   have k1:((1:Int)==0)=false:=by decide
   have k2:((1:Int)==1)=true:=by decide
   simp only [cond_true,w2,k1,k2,cond_false,Bool.true_and,cond_self];unfold zl;rw [zgt (s:=r.b) (m:=i.B_) (by decide) rfl rfl (znc h3),eD _ rfl];cases z14 c r.b i.B_ (tyD c r i) with
   | false=>rfl
   | true =>
    have k3:((2:Int)==0)=false:=by decide
    have k4:((2:Int)==1)=false:=by decide
    simp only [cond_true,w3,k3,k4,cond_false,Bool.true_and,cond_self];unfold zl;rw [zgt (s:=r.c) (m:=i.C_) (by decide) rfl rfl (znc h4),eD _ rfl];cases z14 c r.c i.C_ (tyD c r i) with
    | false=>rfl
    | true =>
     have k5:((3:Int)==0)=false:=by decide
     have k6:((3:Int)==1)=false:=by decide
     simp only [cond_true,w4,k5,k6,cond_false,Bool.true_and,cond_self];unfold zl;rw [yai];simp only;congr 13
     all_goals
      first
      | (unfold tyD;cases r.d==0<;>rfl)
      | (unfold tyF;cases r.d==0<;>cases r.a==0<;>rfl)
theorem yde (m:Nat)(hr:∀ t∈c.a_,z37 c.f_ t=true)(h0:0<=i.m_)(h1:i.m_<4294967296) :
  f35 (m+5) (c.f_,c.a_,c.e_,c.d_,set,news,op,i)=some (z29 c i,c.f_,c.a_,c.e_,c.d_,set,news,op):=by
 rw [ydd,zob];unfold z29;cases h:z4q i.c_ with
 | none=>rfl
 | some r =>
  obtain ⟨hs,hn⟩:=zuz h;simp only [Option.bind_some,Bool.not_true,cond_false,y5k m hs,zya _ h0 h1];cases hd:z14 c r.d i.D_ ty0 with
  | false=>rfl
  | true =>
  cases ha:z14 c r.a i.A_ (tyD c r i) with
  | false=>rfl
  | true =>
  cases hbb:z14 c r.b i.B_ (tyD c r i) with
  | false=>rfl
  | true =>
  cases hcc:z14 c r.c i.C_ (tyD c r i) with
  | false=>rfl
  | true =>
   simp only [Bool.true_and,cond_true,Option.bind_some,Bo.then]
   have hB:(bif (i.c_==1) then (bif (!z7l i.m_) then some (Sum.inl (true,c.f_,c.a_,c.e_,c.d_,set,news,op,r.d,r.a,r.b,r.c,r.n,(tyF c r i).j_,(tyF c r i).n_))
     else (bif i.c_ != 1 then some (.inl (i.m_ != 0,c.f_,c.a_,c.e_,c.d_,set,news,op,r.d,r.a,r.b,r.c,r.n,(tyF c r i).j_,(tyF c r i).n_)) else some (.inl (false,c.f_,c.a_,c.e_,c.d_,set,news,op,r.d,r.a,r.b,r.c,r.n,(tyF c r i).j_,(tyF c r i).n_))))
     else (bif i.c_ != 1 then some (.inl (i.m_ != 0,c.f_,c.a_,c.e_,c.d_,set,news,op,r.d,r.a,r.b,r.c,r.n,(tyF c r i).j_,(tyF c r i).n_)) else some (.inl (false,c.f_,c.a_,c.e_,c.d_,set,news,op,r.d,r.a,r.b,r.c,r.n,(tyF c r i).j_,(tyF c r i).n_))) :
      Option ((Bool×List Xa×List Xb×List Xc×List Xd×List Bool×List (List Int)×List Int×Int×Int×Int×Int×Int×Int×Int)⊕(Bool×List Xa×List Xb×List Xc×List Xd×List Bool×List (List Int)×List Int)))
     = some (.inl (!(z6l i),c.f_,c.a_,c.e_,c.d_,set,news,op,r.d,r.a,r.b,r.c,r.n,(tyF c r i).j_,(tyF c r i).n_)):=by
    unfold z6l;have e1:(i.c_ != 1) = !(i.c_==1):=rfl;have e2:(i.m_ != 0) = !(i.m_==0):=rfl;rw [e1,e2];cases i.c_==1<;>cases z7l i.m_<;>rfl
   rw [hB,Option.bind_some,orRet_inl];dsimp only;cases hb:z6l i with
   | false=>rfl
   | true =>
    simp only [Bool.not_true,cond_false,Bool.true_and];unfold nOk;rcases hn with (hn | hn | hn | hn) | ⟨hn,hp⟩
    ·rw [hn];rfl
    ·rw [hn];show (bif decide (i.N_>=0) then some (decide (i.N_<=2147483647),c.f_,c.a_,c.e_,c.d_,set,news,op) else some (false,c.f_,c.a_,c.e_,c.d_,set,news,op))=some (decide (i.N_>=0)&&decide (i.N_<=2147483647),c.f_,c.a_,c.e_,c.d_,set,news,op);cases decide (i.N_>=0)<;>rfl
    ·rw [hn];show (bif decide (i.N_>=0) then bif decide (i.N_<(c.e_.length:Int)) then (idx c.e_ i.N_).bind λy11=>some (eqTy y11.s_ (tyF c r i),c.f_,c.a_,c.e_,c.d_,set,news,op) else some (false,c.f_,c.a_,c.e_,c.d_,set,news,op) else some (false,c.f_,c.a_,c.e_,c.d_,set,news,op))=some ((match idx c.e_ i.N_ with | some z=>eqTy z.s_ (tyF c r i) | none=>false),c.f_,c.a_,c.e_,c.d_,set,news,op);by_cases q:i.N_>=0
     ·by_cases q2:i.N_<c.e_.length
      ·obtain ⟨y,hy,_⟩:=z8h (l:=c.e_) q q2;simp [q,q2,hy]
      ·rw [z2s (by omega)];simp [q,q2]
     ·rw [z2s (by omega)];simp [q]
    ·rw [hn];show (bif decide (i.N_>=0) then some (decide (i.N_<(c.f_.length:Int)),c.f_,c.a_,c.e_,c.d_,set,news,op) else some (false,c.f_,c.a_,c.e_,c.d_,set,news,op))=some (decide (i.N_>=0)&&decide (i.N_<(c.f_.length:Int)),c.f_,c.a_,c.e_,c.d_,set,news,op);cases decide (i.N_>=0)<;>rfl
    ·obtain ⟨p1,p2⟩:=zur hr hp hd ha;obtain ⟨y,hy,_⟩:=z8h (l:=c.f_) p1 p2;rw [hn];show (bif i.N_==0 then some (true,c.f_,c.a_,c.e_,c.d_,set,news,op) else bif i.N_==1 then (idx c.f_ (tyF c r i).n_).bind λy8=>some (y8.j_==2,c.f_,c.a_,c.e_,c.d_,set,news,op) else some (false,c.f_,c.a_,c.e_,c.d_,set,news,op))=some ((i.N_==0||(i.N_==1&&(match idx c.f_ (tyF c r i).n_ with | some p=>p.j_==2 | none=>false))),c.f_,c.a_,c.e_,c.d_,set,news,op);rw [hy];cases (i.N_==0)<;>cases (i.N_==1)<;>simp
end
theorem zjm {α Y Z:Type}{l:List α}{p:α->Bool}{body:Int->Option (Bo Int Y Z)}{z:Int->Z}{y:Y}
  (hb:∀ (k:Nat) (h:k<l.length),body k=some (bif p l[k] then .go ((k+1:Nat):Int) else .ret (z k))) (he:body l.length=some (.out y)) :
  ∀ (j k f:Nat),k+j=l.length->j<f->zl body f (k:Int)=some (match (l.drop k).findIdx? (λx=>!p x) with | none=>.out y | some i=>.ret (z ((k+i:Nat):Int)))
 | 0,k,f+1,hk,hf=>by
  obtain rfl:k=l.length:=by omega
  unfold zl;rw [he];simp
 | j+1,k,f+1,hk,hf=>by
  have h:k<l.length:=by omega
  unfold zl;rw [hb k h,drop_eq_getElem_cons h];cases hp:p l[k] with
  | false =>simp only [cond_false,findIdx?_cons,hp,Bool.not_false,if_true];rfl
  | true =>simp only [cond_true];rw [zjm hb he j (k+1) f (by omega) (by omega)];rw [findIdx?_cons];simp only [hp,Bool.not_true,cond_false,Bool.false_eq_true,if_false];cases (l.drop (k+1)).findIdx? (λx=>!p x) with | none=>rfl | some i=>simp only [map_some];congr 4;omega
theorem y62 {α Y Z:Type}{l:List α}{p:α->Bool}{body:Int->Option (Bo Int Y Z)}{z:Int->Z}{y:Y}{f:Nat}
  (hb:∀ (k:Nat) (h:k<l.length),body k=some (bif p l[k] then .go ((k+1:Nat):Int) else .ret (z k))) (he:body l.length=some (.out y)) (hf:l.length<f) :
  zl body f 0=some (match l.findIdx? (λx=>!p x) with | none=>.out y | some i=>.ret (z (i:Int))):=by
 have:=zjm hb he l.length 0 f (by omega) hf;simpa using this
theorem zhu {α:Type}(l:List α)(p:α->Bool):(l.findIdx? (λx=>!p x)).isNone=l.all p:=by
 induction l with
 | nil=>rfl
 | cons x l ih =>rw [findIdx?_cons,List.all_cons,<- ih];cases p x<;>simp
theorem z51 {α Y Z:Type}{l:List α}{p:α->Bool}{body:Int->Option (Bo Int Y Z)}{z:Z}{y:Y}{f:Nat}
  (hb:∀ (k:Nat) (h:k<l.length),body k=some (bif p l[k] then .go ((k+1:Nat):Int) else .ret z)) (he:body l.length=some (.out y)) (hf:l.length<f) :
  zl body f 0=some (bif l.all p then .out y else .ret z):=by
 rw [y62 (z:=λ_=>z) hb he hf,<- zhu];cases l.findIdx? (λx=>!p x)<;>rfl
theorem zhh {α S Z:Type}{l:List α}{F:S->α->S}{Inv:S->Prop}{body:Int×S->Option (Bo (Int×S) (Int×S) Z)}
  (hb:∀ (k:Nat) (s:S) (h:k<l.length),Inv s->body (k,s)=some (.go (((k+1:Nat):Int),F s l[k]))/\Inv (F s l[k])) (he:∀ s,Inv s->body (l.length,s)=some (.out ((l.length:Int),s))) :
  ∀ (j k f:Nat) (s:S),k+j=l.length->j<f->Inv s->zl body f ((k:Int),s)=some (.out ((l.length:Int),(l.drop k).foldl F s))
 | 0,k,f+1,s,hk,hf,hi=>by
  obtain rfl:k=l.length:=by omega
  unfold zl;rw [he s hi];simp
 | j+1,k,f+1,s,hk,hf,hi=>by
  have h:k<l.length:=by omega
  obtain ⟨h1,h2⟩:=hb k s h hi;unfold zl;rw [h1,drop_eq_getElem_cons h];exact zhh hb he j (k+1) f _ (by omega) (by omega) h2
theorem y3d {α S Z:Type}{l:List α}{F:S->α->S}{Inv:S->Prop}{body:Int×S->Option (Bo (Int×S) (Int×S) Z)}{f:Nat}{s:S}
  (hb:∀ (k:Nat) (s:S) (h:k<l.length),Inv s->body (k,s)=some (.go (((k+1:Nat):Int),F s l[k]))/\Inv (F s l[k])) (he:∀ s,Inv s->body (l.length,s)=some (.out ((l.length:Int),s)))
  (hf:l.length<f) (hi:Inv s):zl body f (0,s)=some (.out ((l.length:Int),l.foldl F s)):=by
 have:=zhh hb he l.length 0 f s (by omega) hf hi;simpa using this
theorem z22 {k:Nat}(h:k<4611686018427387904):i64.wrap ((k:Int)+1)=((k+1:Nat):Int):=by rw [zh8 (by omega) (by omega)];simp
theorem yn9 {k:Nat}(h:k<4611686018427387904):i64.wrap ((k:Int) - 1)=(k:Int) - 1:=zh8 (by omega) (by omega)
theorem zc1 (i:Xd):(z13 i).length<=3:=by
 unfold z13;split
 ·rename_i r _;cases r.a==0<;>cases r.b==0<;>cases r.c==0<;>simp
 ·simp
theorem ze1 {c:Xe}{i:Xd}(h:z29 c i=true):∃ r,z4q i.c_=some r/\z14 c r.d i.D_ ty0=true/\z14 c r.a i.A_ (tyD c r i)=true/\z14 c r.b i.B_ (tyD c r i)=true/\z14 c r.c i.C_ (tyD c r i)=true:=by
 unfold z29 at h;split at h
 ·cases h
 ·rename_i r hr;simp only [and_eq_true] at h;exact ⟨r,hr,h.1,h.2.1,h.2.2.1,h.2.2.2.1⟩
theorem zer {c:Xe}{s k:Int}{d:Xb}(h:z14 c s k d=true)(hs:(s==0)=false):0<=k/\k<c.a_.length:=by obtain ⟨t,ht⟩:=z60 h hs;exact (z6c ht).2
theorem zq4 {c:Xe}{i:Xd}(h:z29 c i=true):∀ y∈z13 i,0<=y/\y<c.a_.length:=by
 obtain ⟨r,hr,h1,h2,h3,h4⟩:=ze1 h;intro y hy;unfold z13 at hy;rw [hr] at hy;simp only [mem_append] at hy;rcases hy with hy | hy | hy
 ·cases hz:r.a==0 with
  | true=>rw [hz] at hy;cases hy
  | false =>rw [hz] at hy;simp only [cond_false,mem_singleton] at hy;subst hy;exact zer h2 hz
 ·cases hz:r.b==0 with
  | true=>rw [hz] at hy;cases hy
  | false =>rw [hz] at hy;simp only [cond_false,mem_singleton] at hy;subst hy;exact zer h3 hz
 ·cases hz:r.c==0 with
  | true=>rw [hz] at hy;cases hy
  | false =>rw [hz] at hy;simp only [cond_false,mem_singleton] at hy;subst hy;exact zer h4 hz
theorem zl9 {c:Xe}{i:Xd}(h:z29 c i=true)(hs:z10 i=true):0<=i.D_/\i.D_<c.a_.length:=by obtain ⟨r,hr,h1,_⟩:=ze1 h;unfold z10 at hs;rw [hr] at hs;simp only [not_eq_true'] at hs;exact zer h1 hs
def z2k (set:List Bool)(i:Xd):Bool:=(z13 i).all λy=>(set[y.toNat]?).getD false
theorem zcy {α:Type}{l:List α}{y:Int}(h0:0<=y)(h1:y<l.length):∃ b,l[y.toNat]?=some b:=by
 have:y.toNat<l.length:=by omega
 exact ⟨_,getElem?_eq_getElem this⟩
theorem zof {n m:Nat}{c:Xe}{i:Xd}{set:List Bool}{news:List (List Int)}{op:List Int}
  (h:∀ y∈z13 i,0<=y/\y<set.length) :
  zl (zoe n (c.f_,c.a_,c.e_,c.d_,set,news,op,i) (((z13 i).length:Int),z13 i)) (m+4) 0=some (bif z2k set i then .out ((z13 i).length:Int) else .ret ()):=by
 refine z51 (λk hk=>?_) ?_ (by have:=zc1 i;omega)
 ·have h3:=zc1 i;obtain ⟨y0,y1⟩:=h _ (getElem_mem hk);obtain ⟨b,hb⟩:=zcy y0 y1;rw [zlv];have e1:decide ((k:Int)<((z13 i).length:Int))=true:=by simp;omega
  have e2:(z13 i)[(k:Int).toNat]?=some (z13 i)[k]:=by simp [hk]
  simp only [e1,cond_true];rw [zo (by omega),e2];simp only [Option.bind_some];rw [zo ⟨y0,y1⟩,hb,z22 (by omega)];cases b<;>rfl
 ·rw [zlv];simp
theorem y5q {n m:Nat}{c:Xe}{i:Xd}{set:List Bool}{op:List Xi}{b0:Bool}(h:∀ y∈z13 i,0<=y/\y<set.length) :
  zl (zoi n (c,i,set,op) (b0,z13 i)) (m+4) 0=some (bif z2k set i then .out ((z13 i).length:Int) else .ret ()):=by
 refine z51 (λk hk=>?_) ?_ (by have:=zc1 i;omega)
 ·have h3:=zc1 i;obtain ⟨y0,y1⟩:=h _ (getElem_mem hk);obtain ⟨b,hb⟩:=zcy y0 y1;rw [zly];have e1:decide ((k:Int)<((z13 i).length:Int))=true:=by simp;omega
  have e2:(z13 i)[(k:Int).toNat]?=some (z13 i)[k]:=by simp [hk]
  have e3:idx set (z13 i)[k]=some b:=by unfold idx;rw [if_pos y0,hb]
  simp only [e1,cond_true];rw [zo (by omega),e2];simp only [Option.bind_some];rw [e3,z22 (by omega),hb];cases b<;>rfl
 ·rw [zly];simp
def lst (op:List Int):Int:=match op.getLast? with | some x=>x | none=>-1
def z9l (set:List Bool)(l:List Int):List Bool:=l.foldl (λs r=>s.set r.toNat false) set
def zh7 (c:Xe)(k p:Int):Bool:=match idx c.a_ k with | some t=>t.j_==3&&(t.n_==p&&true) | none=>false
def onD (i:Xd):Bool:=z6z i.c_||(i.c_==29||(i.c_==30||i.c_==32))
def onA (i:Xd):Bool:=i.c_==31||i.c_==33
def zex (c:Xe)(i:Xd)(p:Int):Bool:=bif onD i then zh7 c i.D_ p else bif onA i then zh7 c i.A_ p else false
theorem z73 {α:Type}(l:List α)(h:0<l.length):∃ x,l.getLast? = some x/\l[l.length - 1]?=some x:=by rw [List.getLast?_eq_getElem?];exact ⟨l[l.length - 1],by simp [h],by simp [h]⟩
theorem za8 {k:Nat}(h0:0<k)(h:k<4611686018427387904):(i64.wrap ((k:Int) - 1)).toNat=k - 1/\0<=i64.wrap ((k:Int) - 1)/\i64.wrap ((k:Int) - 1)<k:=by rw [yn9 h];omega
theorem zjq {R:Type}(op:List Int)(h:op.length<4611686018427387904):(bif (decide ((op.length:Int) > (0:Int))) then (need (0<=(i64.wrap ((op.length:Int) - (1:Int)))/\(i64.wrap ((op.length:Int) - (1:Int)))<(op.length:Int)) ((op[(i64.wrap ((op.length:Int) - (1:Int))).toNat]?).bind λy1=>some (.inl y1))) else (some (.inl (-1:Int))):Option (Int⊕R))=some (.inl (lst op)):=by
 by_cases h0:0<op.length
 ·have e:decide ((op.length:Int) > 0)=true:=by simp;omega
  obtain ⟨w1,w2,w3⟩:=za8 h0 h;obtain ⟨x,x1,x2⟩:=z73 op h0;rw [e,cond_true,zo ⟨w2,w3⟩,w1,x2];unfold lst;rw [x1];rfl
 ·have:op=[]:=List.eq_nil_of_length_eq_zero (by omega);subst this;rfl
section
variable {n:Nat}{c:Xe}{i:Xd}{set:List Bool}{news:List (List Int)}{op:List Int}
theorem y5o (ho:op.length<4611686018427387904)(h:i.c_=34):f36 n (c.f_,c.a_,c.e_,c.d_,set,news,op,i)=some (!(decide (lst op>=0)||(op.length:Int)==64),c.f_,c.a_,c.e_,c.d_,set,news,op):=by rw [zfl];dsimp only;rw [zjq op ho,h];have e1:((34:Int)==34)=true:=rfl;have e2:((34:Int)==36)=false:=rfl;simp only [Option.bind_some,orRet_inl,e1,e2,cond_true,cond_false];cases decide (lst op>=0)<;>cases ((op.length:Int)==64)<;>rfl
theorem y5m (ho:op.length<=64)(h:i.c_=36):f36 n (c.f_,c.a_,c.e_,c.d_,set,news,op,i)=some (!(decide (lst op>=0)||(op.length:Int)==64),c.f_,c.a_,c.e_,c.d_,set,news,bif (decide (lst op>=0)||(op.length:Int)==64) then op else op++[i.N_]):=by rw [zfl];dsimp only;rw [zjq op (by omega),h];have e1:((36:Int)==34)=false:=rfl;have e2:((36:Int)==36)=true:=rfl;simp only [Option.bind_some,orRet_inl,e1,e2,cond_true,cond_false];rw [zo (by simp;omega)];cases decide (lst op>=0)<;>cases ((op.length:Int)==64)<;>rfl
theorem y5n (ho:op.length<=64)(h:i.c_=37):f36 n (c.f_,c.a_,c.e_,c.d_,set,news,op,i)=some (!(decide (lst op<0)),c.f_,c.a_,c.e_,c.d_,set,news,bif decide (lst op<0) then op else op.dropLast):=by
 rw [zfl];dsimp only;rw [zjq op (by omega),h];have e1:((37:Int)==34)=false:=rfl;have e2:((37:Int)==36)=false:=rfl;have e3:((37:Int)==35)=false:=rfl;have e4:((37:Int)==37)=true:=rfl;simp only [Option.bind_some,orRet_inl,e1,e2,e3,e4,cond_true,cond_false];cases hl:decide (lst op<0) with
 | true=>rfl
 | false =>
  have h0:0<op.length:=by cases op with | nil=>simp [lst] at hl | cons _ _=>simp
  obtain ⟨w1,w2,w3⟩:=za8 h0 (by omega);rw [cond_false,zo ⟨w2,by omega⟩,w1,zo (by omega)];simp [dropLast_eq_take]
theorem y5l (ho:op.length<=64)(hf:z29 c i=true)(h1:i.c_≠34)(h2:i.c_≠35)(h3:i.c_≠36)(h4:i.c_≠37)(hD:onD i=true->∃ t,idx c.a_ i.D_=some t)(hA:onA i=true->∃ t,idx c.a_ i.A_=some t) :
  f36 n (c.f_,c.a_,c.e_,c.d_,set,news,op,i)=some ((bif decide (lst op<0) then true else zex c i (lst op)),c.f_,c.a_,c.e_,c.d_,set,news,op):=by
 rw [zfl];dsimp only;rw [zjq op (by omega)];have e1:(i.c_==34)=false:=by simpa using h1
 have e2:(i.c_==36)=false:=by simpa using h3
 have e3:(i.c_==35)=false:=by simpa using h2
 have e4:(i.c_==37)=false:=by simpa using h4
 simp only [Option.bind_some,orRet_inl,e1,e2,e3,e4,cond_true,cond_false,ycr];cases hl:decide (lst op<0) with
 | true=>rfl
 | false =>
  simp only [cond_false]
  have hB:(bif z6z i.c_ then some (Sum.inl (true,lst op)) else bif i.c_==29 then some (.inl (true,lst op)) else bif i.c_==30 then some (.inl (true,lst op)) else some (.inl (i.c_==32,lst op)):Option (Bool×Int⊕(Bool×List Xa×List Xb×List Xc×List Xd×List Bool×List (List Int)×List Int)))=some (.inl (onD i,lst op)):=by unfold onD;cases z6z i.c_<;>cases i.c_==29<;>cases i.c_==30<;>rfl
  rw [hB,Option.bind_some,orRet_inl];dsimp only;unfold zex;cases hd:onD i with
  | true =>obtain ⟨t,ht⟩:=hD hd;simp only [cond_true,zh7,ht,Option.bind_some]
  | false =>
   simp only [cond_false]
   have hB2:(bif i.c_==31 then some (Sum.inl (true,lst op)) else some (.inl (i.c_==33,lst op)):Option (Bool×Int⊕(Bool×List Xa×List Xb×List Xc×List Xd×List Bool×List (List Int)×List Int)))=some (.inl (onA i,lst op)):=by unfold onA;cases i.c_==31<;>rfl
   rw [hB2,Option.bind_some,orRet_inl];dsimp only;cases ha:onA i with
   | true =>obtain ⟨t,ht⟩:=hA ha;simp only [cond_true,zh7,ht,Option.bind_some]
   | false=>rfl
theorem zqr (set:List Bool)(l:List Int):(z9l set l).length=set.length:=by
 unfold z9l
 induction l generalizing set with | nil=>rfl | cons x l ih=>simp only [foldl_cons];rw [ih];simp
theorem yaj {m:Nat}{nl:List Int}(ho:op.length<=64)(h:i.c_=35)(hn:0<op.length->lst op<0->news.getLast? = some nl/\news.length<4611686018427387904/\nl.length<m+4/\nl.length<4611686018427387904/\∀ r∈nl,0<=r/\r<set.length) :
  f36 (m+4) (c.f_,c.a_,c.e_,c.d_,set,news,op,i)=some (!((op.length:Int)==0||decide (lst op>=0)),c.f_,c.a_,c.e_,c.d_,bif ((op.length:Int)==0||decide (lst op>=0)) then (set,news,op) else (z9l set nl,news.dropLast,op.dropLast)):=by
 rw [zfl];dsimp only;rw [zjq op (by omega),h];have e1:((35:Int)==34)=false:=rfl;have e2:((35:Int)==36)=false:=rfl;have e3:((35:Int)==35)=true:=rfl;simp only [Option.bind_some,orRet_inl,e1,e2,e3,cond_true,cond_false]
 have hB:(bif ((op.length:Int)==0) then some (Sum.inl true) else some (.inl (decide (lst op>=0))):Option (Bool⊕(Bool×List Xa×List Xb×List Xc×List Xd×List Bool×List (List Int)×List Int)))=some (.inl ((op.length:Int)==0||decide (lst op>=0))):=by cases (op.length:Int)==0<;>rfl
 rw [hB,Option.bind_some,orRet_inl];cases hq:((op.length:Int)==0||decide (lst op>=0)) with
 | true=>rfl
 | false =>
  simp only [or_eq_false_iff,beq_eq_false_iff_ne,ne_eq,decide_eq_false_iff_not] at hq;have h0:0<op.length:=by omega
  obtain ⟨n1,n2,n3,n4,n5⟩:=hn h0 (by omega)
  have hnl:0<news.length:=by cases news with | nil=>simp at n1 | cons _ _=>simp
  obtain ⟨w1,w2,w3⟩:=za8 h0 (by omega);obtain ⟨v1,v2,v3⟩:=za8 hnl n2;have hg:news[news.length - 1]?=some nl:=by rw [<- List.getLast?_eq_getElem?];exact n1
  simp only [cond_false];rw [zo ⟨v2,v3⟩,v1,hg];simp only [Option.bind_some]
  have hit:zl (zod (m+4) (c.f_,c.a_,c.e_,c.d_,set,news,op,i) (nl.length:Int)) (m+4) (0,set)=some (.out ((nl.length:Int),z9l set nl)):=by
   refine y3d (F:=λ(s:List Bool) (r:Int)=>s.set r.toNat false) (Inv:=λ(s:List Bool)=>s.length=set.length) (λk s hk hs=>?_) (λs hs=>?_) n3 rfl
   ·obtain ⟨r0,r1⟩:=n5 _ (getElem_mem hk);obtain ⟨b,hb⟩:=zcy (l:=s) r0 (by omega);rw [zlu];have e1:decide ((k:Int)<(nl.length:Int))=true:=by simp;omega
    have e2:nl[(k:Int).toNat]?=some nl[k]:=by simp [hk]
    dsimp only;rw [e1,v1,hg];simp only [cond_true,Option.bind_some];rw [zo (by omega),e2];simp only [Option.bind_some];rw [zo ⟨r0,by omega⟩,hb,z22 (by omega)];exact ⟨rfl,by simpa using hs⟩
   ·rw [zlu];simp
  rw [hit];simp only [Option.bind_some,Bo.then];rw [zo ⟨v2,by omega⟩,zo (by omega),zo ⟨w2,by omega⟩,w1,zo (by omega)];simp [dropLast_eq_take]
end
def zab (news:List (List Int))(d:Int):List (List Int):=match news.getLast? with | some l=>news.set (news.length - 1) (l++[d]) | none=>news
section
variable {n:Nat}{c:Xe}{i:Xd}{set:List Bool}{news:List (List Int)}{op:List Int}
theorem y5p {m:Nat}(h:i.c_=34)(hr:∀ y∈z13 i,0<=y/\y<set.length)(ho:op.length<=64)(hn:news.length<=64) :
  f37 (m+4) (c.f_,c.a_,c.e_,c.d_,set,news,op,i)=some (z2k set i,c.f_,c.a_,c.e_,c.d_,set,bif z2k set i then news++[[]] else news,bif z2k set i then op++[-1] else op):=by
 rw [zy6];dsimp only;rw [zw5];simp only [Option.bind_some];rw [zof hr];cases z2k set i with
 | false=>rfl
 | true =>
  have e1:((34:Int)==34)=true:=rfl
  have hs:z10 i=false:=by unfold z10;rw [h];rfl
  simp only [cond_true,Option.bind_some,Bo.then,h,e1];rw [zo (by simp;omega),zo (by simp;omega)];simp only [Option.bind_some,orRet_inl,zj3,hs,cond_false]
theorem zdv {m:Nat}(h:i.c_≠34)(hr:∀ y∈z13 i,0<=y/\y<set.length)(hD:z10 i=true->0<=i.D_/\i.D_<set.length)(hn:news.length<=64)(hnl:∀ l∈news,l.length<1000000) :
  f37 (m+4) (c.f_,c.a_,c.e_,c.d_,set,news,op,i)=some (z2k set i,c.f_,c.a_,c.e_,c.d_,bif z2k set i&&(z10 i&&!((set[i.D_.toNat]?).getD false)) then (set.set i.D_.toNat true,zab news i.D_,op) else (set,news,op)):=by
 rw [zy6];dsimp only;rw [zw5];simp only [Option.bind_some];rw [zof hr];cases z2k set i with
 | false=>rfl
 | true =>
  have e1:(i.c_==34)=false:=by simpa using h
  simp only [cond_true,Option.bind_some,Bo.then,e1,cond_false,orRet_inl,zj3];cases hs:z10 i with
  | false=>rfl
  | true =>
   obtain ⟨d0,d1⟩:=hD hs;obtain ⟨b,hb⟩:=zcy d0 d1;simp only [cond_true];rw [zo ⟨d0,d1⟩,hb];simp only [Option.bind_some,orRet_inl,getD_some];cases b with
   | true=>rfl
   | false =>
    simp only [Bool.not_false,cond_true,Bool.and_self];rw [zo ⟨d0,d1⟩];by_cases h0:0<news.length
    ·obtain ⟨w1,w2,w3⟩:=za8 h0 (by omega);obtain ⟨l,l1,l2⟩:=z73 news h0;have e2:decide (i64.wrap ((news.length:Int) - 1)>=0)=true:=by simpa using w2
     have hl:l.length<1000000:=hnl l (List.mem_of_getLast? l1);rw [e2,cond_true,zo ⟨w2,w3⟩,w1,l2];simp only [Option.bind_some];rw [zo (by simp;omega),zo ⟨w2,w3⟩,zo (p:=True/\news.length - 1<news.length) ⟨trivial,by omega⟩];unfold zab;rw [l1]
    ·have:news=[]:=List.eq_nil_of_length_eq_zero (by omega);subst this;rfl
end
def z6k (c:Xe)(i:Xd):Int:=match idx c.a_ (bif onD i then i.D_ else bif onA i then i.A_ else -1) with | some t=>bif t.j_==3 then t.n_ else -1 | none=>-1
theorem ye6 {n:Nat}{c:Xe}{i:Xd}:f60 n (c,i)=some (z6k c i):=by
 rw [ye5];simp only [yct,Option.bind_some]
 have hB:((bif z6z i.c_ then some (Sum.inl true) else bif i.c_==29 then some (.inl true) else bif i.c_==30 then some (.inl true) else some (.inl (i.c_==32)):Option (Bool⊕(Int⊕Int))).bind (zt λs1=>bif s1 then some (Sum.inl i.D_) else (bif i.c_==31 then some (Sum.inl true) else some (.inl (i.c_==33)):Option (Bool⊕(Int⊕Int))).bind (zt λs2=>bif s2 then some (Sum.inl i.A_) else some (.inl (-1:Int)))))
   = some (.inl (bif onD i then i.D_ else bif onA i then i.A_ else -1)):=by
  unfold onD onA;cases z6z i.c_<;>cases i.c_==29<;>cases i.c_==30<;>cases i.c_==32<;>cases i.c_==31<;>cases i.c_==33<;>rfl
 rw [hB,Option.bind_some,orRet_inl];unfold z6k;generalize (bif onD i then i.D_ else bif onA i then i.A_ else -1)=k;by_cases h0:k<0
 ·rw [z2s (.inl h0)];simp [h0]
 ·by_cases h1:k>=c.a_.length
  ·rw [z2s (.inr h1)];simp [h0,h1]
  ·obtain ⟨t,ht,_⟩:=z8h (l:=c.a_) (n:=k) (by omega) (by omega);have e1:decide (k<0)=false:=by simpa using h0
   have e2:decide (k>=(c.a_.length:Int))=false:=by simp;omega
   have e3:(t.j_ != 3) = !(t.j_==3):=rfl;simp only [e1,e2,ht,cond_false,Option.bind_some,orRet_inl,e3];cases t.j_==3<;>rfl
theorem ykp {c:Xe}{i:Xd}{p:Int}(hp:0<=p):(z6k c i != p) = !(zex c i p):=by
 have key:∀ k:Int,((match idx c.a_ k with | some t=>bif t.j_==3 then t.n_ else -1 | none=>-1) != p) = !(zh7 c k p):=λk=>by
  unfold zh7;have e:((-1:Int) != p)=true:=by simp;omega
  cases idx c.a_ k with
  | none=>exact e
  | some t =>simp only;cases t.j_==3 with | false=>exact e | true=>simp [bne]
 have e:((-1:Int) != p)=true:=by simp;omega
 unfold z6k zex;cases onD i with
 | true=>exact key _
 | false =>
  simp only [cond_false];cases onA i with
  | true=>exact key _
  | false =>simp only [cond_false,Bool.not_false];rw [z2s (.inl (by decide))];exact e
def z1i (o:List Xi):Bool:=match o.getLast? with | some x=>x.c_==36 | none=>false
def z5v (o:List Xi):Int:=match o.getLast? with | some x=>x.n_ | none=>0
def z5d (i:Xd)(o:List Xi):Bool :=
 bif i.c_==34||i.c_==36 then decide ((o.length:Int)<64) else bif i.c_==35 then (decide ((o.length:Int) > 0)&&!(z1i o)) else bif i.c_==37 then z1i o else true
def z1k (c:Xe)(i:Xd)(set:List Bool)(o:List Xi):Bool :=
 z29 c i&&(!(z1i o&&(!(i.c_==37)&&z6k c i != z5v o))&&(z2k set i&&z5d i o))
theorem ydl {m:Nat}{c:Xe}{i:Xd}{set:List Bool}{o:List Xi}(hr:∀ t∈c.a_,z37 c.f_ t=true)(h0:0<=i.m_)(h1:i.m_<4294967296)
  (hs:set.length=c.a_.length) (ho:o.length<4611686018427387904):f41 (m+4) (c,i,set,o)=some (z1k c i set o):=by
 rw [ydk]
 have hL:(bif (decide ((o.length:Int) > (0:Int))) then ((idx o (i64.wrap ((o.length:Int) - (1:Int)))).bind λy1=>some (Sum.inl (y1.c_==36))) else (some (.inl false)):Option (Bool⊕Bool))=some (.inl (z1i o)):=by
  by_cases q:0<o.length
  ·have e:decide ((o.length:Int) > 0)=true:=by simp;omega
   obtain ⟨w1,w2,w3⟩:=za8 q ho;obtain ⟨x,x1,x2⟩:=z73 o q;have e2:idx o (i64.wrap ((o.length:Int) - 1))=some x:=by unfold idx;rw [if_pos w2,w1,x2]
   rw [e,e2];unfold z1i;rw [x1];rfl
  ·have:o=[]:=List.eq_nil_of_length_eq_zero (by omega);subst this;rfl
 have hP:z1i o=true->idx o (i64.wrap ((o.length:Int) - 1))=o.getLast?:=λhl=>by
  have q:0<o.length:=by cases o with | nil=>cases hl | cons _ _=>simp
  obtain ⟨w1,w2,w3⟩:=za8 q ho;obtain ⟨x,x1,x2⟩:=z73 o q;unfold idx;rw [if_pos w2,w1,x2,x1]
 dsimp only;rw [hL,Option.bind_some,orRet_inl];simp only [ye4 hr h0 h1,ye6,Option.bind_some];unfold z1k;cases hf:z29 c i with
 | false=>rfl
 | true =>
  have hB:(bif z1i o then (bif i.c_ != 37 then ((idx o (i64.wrap ((o.length:Int) - 1))).bind λy4=>some (Sum.inl (z1i o,z6k c i != y4.n_))) else some (.inl (z1i o,false))) else some (.inl (z1i o,false)):Option (Bool×Bool⊕Bool))=some (.inl (z1i o,z1i o&&(!(i.c_==37)&&z6k c i != z5v o))):=by
   have e1:(i.c_ != 37) = !(i.c_==37):=rfl;rw [e1];cases hl:z1i o with
   | false=>rfl
   | true =>
    rw [hP hl];cases i.c_==37 with
    | true=>rfl
    | false =>unfold z5v;cases hg:o.getLast? with | none=>unfold z1i at hl;rw [hg] at hl;cases hl | some x=>rfl
  simp only [Bool.not_true,cond_false];rw [hB,Option.bind_some,orRet_inl];dsimp only;cases hb:(z1i o&&(!(i.c_==37)&&z6k c i != z5v o)) with
  | true=>rfl
  | false =>
   simp only [cond_false,ycn,Option.bind_some,Bool.not_false,Bool.true_and];rw [y5q (λy hy=>by rw [hs];exact zq4 hf y hy)];cases z2k set i with
   | false=>rfl
   | true =>simp only [cond_true,Option.bind_some,Bo.then,Bool.true_and];unfold z5d;cases i.c_==34<;>cases i.c_==36<;>cases i.c_==35<;>cases i.c_==37<;>cases decide ((o.length:Int) > 0)<;>rfl
def code (o:Xi):Int:=bif o.c_==36 then o.n_ else -1
def z4y (o:Xi):Bool:=o.c_==34
def zbh (N:Nat):List Bool->List (List Int)->List Xi->Prop
 | _,[],[]=>True
 | set,l::ls,w::ws=>z9l set l=w.G_/\l.length<=N/\(∀ r∈l,0<=r/\r<set.length)/\zbh N w.G_ ls ws
 | _,_,_=>False
structure Two (c:Xe) (N:Nat) (set:List Bool) (news:List (List Int)) (op:List Int) (o:List Xi):Prop where
 len:set.length=c.a_.length
 op:op=o.map code
 le:o.length<=64
 ok:∀ x∈o,x.c_=34\/(x.c_=36/\0<=x.n_)
 ch:zbh N set news.reverse (o.filter z4y).reverse
theorem ybk {i:Xd}{r:z4s}(h:z4q i.c_=some r)(hd:onD i=true):(r.d==0)=false:=by
 obtain ⟨op,d,a,b,c,N,bits⟩:=i;dsimp only at h;rcases z5c op with (rfl | rfl | rfl | rfl | rfl | rfl | rfl | rfl | rfl | rfl | rfl | rfl | rfl | rfl | rfl | rfl | rfl | rfl | rfl | rfl | rfl | rfl | rfl | rfl | rfl | rfl | rfl | rfl | rfl | rfl | rfl | rfl | rfl | rfl | rfl | rfl | rfl) | h0
 iterate 37 (· first | (cases h;rfl) | (exact absurd hd (by decide)) | (cases h;revert hd;simp [onD,z6z]))
 rw [z4i h0] at h;cases h
theorem ybi {i:Xd}{r:z4s}(h:z4q i.c_=some r)(hd:onA i=true):(r.a==0)=false:=by
 obtain ⟨op,d,a,b,c,N,bits⟩:=i;dsimp only at h;rcases z5c op with (rfl | rfl | rfl | rfl | rfl | rfl | rfl | rfl | rfl | rfl | rfl | rfl | rfl | rfl | rfl | rfl | rfl | rfl | rfl | rfl | rfl | rfl | rfl | rfl | rfl | rfl | rfl | rfl | rfl | rfl | rfl | rfl | rfl | rfl | rfl | rfl | rfl) | h0
 iterate 37 (· first | (cases h;rfl) | (exact absurd hd (by decide)) | (cases h;revert hd;simp [onA]))
 rw [z4i h0] at h;cases h
theorem ybj {c:Xe}{i:Xd}(h:z29 c i=true)(hd:onD i=true):∃ t,idx c.a_ i.D_=some t:=by obtain ⟨r,hr,h1,_⟩:=ze1 h;exact z60 h1 (ybk hr hd)
theorem ybh {c:Xe}{i:Xd}(h:z29 c i=true)(hd:onA i=true):∃ t,idx c.a_ i.A_=some t:=by obtain ⟨r,hr,_,h1,_⟩:=ze1 h;exact z60 h1 (ybi hr hd)
section
variable {c:Xe}{N:Nat}{set:List Bool}{news:List (List Int)}{op:List Int}{o:List Xi}{i:Xd}
theorem Two.lst (h:Two c N set news op o):lst op=(match o.getLast? with | some x=>code x | none=>-1):=by unfold Loom.lst;rw [h.op,List.getLast?_map];cases o.getLast?<;>rfl
theorem Two.loop (h:Two c N set news op o):decide (Loom.lst op>=0)=z1i o/\(z1i o=true->Loom.lst op=z5v o/\0<=z5v o):=by
 rw [h.lst];unfold z1i z5v;cases hg:o.getLast? with
 | none=>exact ⟨by decide,λh=>by cases h⟩
 | some x =>
  have hx:=h.ok x (List.mem_of_getLast? hg);rcases hx with hx | ⟨hx,hp⟩
  ·have e:code x = -1:=by unfold code;rw [hx];rfl
   have e2:(x.c_==36)=false:=by rw [hx];rfl
   simp only [e,e2];exact ⟨by decide,λh=>by cases h⟩
  ·have e:code x=x.n_:=by unfold code;rw [hx];rfl
   have e2:(x.c_==36)=true:=by rw [hx];rfl
   simp only [e,e2];exact ⟨by simpa using hp,λ_=>⟨by trivial,hp⟩⟩
theorem y9n (x:Int):decide (x<0) = !(decide (x>=0)):=by
 by_cases h:x<0
 ·have:¬ x>=0:=by omega
  simp [h]
 ·have:x>=0:=by omega
  simp [h,this]
theorem z4a {N M:Nat}(hNM:N<=M):∀ (set:List Bool) (ls:List (List Int)) (ws:List Xi),zbh N set ls ws->zbh M set ls ws
 | _,[],[],_=>trivial
 | set,l::ls,w::ws,h=>⟨h.1,Nat.le_trans h.2.1 hNM,h.2.2.1,z4a hNM _ ls ws h.2.2.2⟩
 | _,[],_::_,h=>h.elim
 | _,_::_,[],h=>h.elim
theorem zli {N:Nat}:∀ (set:List Bool) (ls:List (List Int)) (ws:List Xi),zbh N set ls ws->ls.length=ws.length
 | _,[],[],_=>rfl
 | set,l::ls,w::ws,h=>by simp [zli _ ls ws h.2.2.2]
 | _,[],_::_,h=>h.elim
 | _,_::_,[],h=>h.elim
theorem zns {N:Nat}:∀ (set:List Bool) (ls:List (List Int)) (ws:List Xi),zbh N set ls ws->∀ l∈ls,l.length<=N
 | _,[],[],_,l,hl=>by cases hl
 | set,l::ls,w::ws,h,x,hx=>by
  rcases List.mem_cons.1 hx with rfl | hx
  ·exact h.2.1
  ·exact zns _ ls ws h.2.2.2 x hx
 | _,[],_::_,h,_,_=>h.elim
 | _,_::_,[],h,_,_=>h.elim
theorem Two.newsOk (h:Two c N set news op o):news.length<=64/\∀ l∈news,l.length<=N:=by have h1:=zli _ _ _ h.ch;simp only [List.length_reverse] at h1;have h2:=List.length_filter_le z4y o;have:=h.le;exact ⟨by omega,λl hl=>zns _ _ _ h.ch l (by simpa using hl)⟩
def zfz (c:Xe)(i:Xd)(op:List Int):Bool :=
 bif i.c_==34||i.c_==36 then !(decide (Loom.lst op>=0)||(op.length:Int)==64) else bif i.c_==35 then !((op.length:Int)==0||decide (Loom.lst op>=0)) else bif i.c_==37 then !(decide (Loom.lst op<0)) else
  bif decide (Loom.lst op<0) then true else zex c i (Loom.lst op)
theorem zuq {k:Int}(h:i.c_=k)(hk:k=34\/k=35\/k=36):z6k c i = -1:=by
 unfold z6k onD onA z6z;rw [h];rcases hk with rfl | rfl | rfl
 all_goals
  show (match idx c.a_ (-1) with | some t=>bif t.j_==3 then t.n_ else -1 | none=>-1)=_;rw [z2s (.inl (by decide))]
theorem Two.place (h:Two c N set news op o):zfz c i op=(!(z1i o&&(!(i.c_==37)&&z6k c i != z5v o))&&z5d i o):=by
 obtain ⟨h1,h2⟩:=h.loop;have hlen:op.length=o.length:=by rw [h.op];simp
 have hle:=h.le;unfold zfz z5d;rw [y9n,h1,hlen];by_cases q4:i.c_=34\/i.c_=36
 ·have e1:(i.c_==34||i.c_==36)=true:=by rcases q4 with q | q<;>rw [q]<;>rfl
  have e2:(i.c_==37)=false:=by rcases q4 with q | q<;>rw [q]<;>rfl
  have e3:z6k c i = -1:=by rcases q4 with q | q<;>exact zuq q (by simp)
  have e4:((o.length:Int)==64) = !(decide ((o.length:Int)<64)):=by
   by_cases q:o.length<64
   ·have:¬ (o.length:Int)=64:=by omega
    have q':(o.length:Int)<64:=by omega
    simp [this,q']
   ·have:(o.length:Int)=64:=by omega
    simp [this]
  rw [e1,e2,e3,e4];simp only [cond_true];cases hl:z1i o with
  | false=>simp
  | true =>
   have:=(h2 hl).2;have e5:((-1:Int) != z5v o)=true:=by simp;omega
   rw [e5];simp
 ·have e1:(i.c_==34||i.c_==36)=false:=by have a1:¬ i.c_=34:=λq=>q4 (.inl q);have a2:¬ i.c_=36:=λq=>q4 (.inr q);simp [a1,a2]
  rw [e1];simp only [cond_false];by_cases q5:i.c_=35
  ·have e2:(i.c_==35)=true:=by rw [q5];rfl
   have e3:(i.c_==37)=false:=by rw [q5];rfl
   have e4:z6k c i = -1:=zuq q5 (by simp)
   have e6:((o.length:Int)==0) = !(decide ((o.length:Int) > 0)):=by
    by_cases q:0<o.length
    ·have a1:((o.length:Int)==0)=false:=by simp only [beq_eq_false_iff_ne,ne_eq];omega
     have a2:decide ((o.length:Int) > 0)=true:=by simp only [decide_eq_true_eq];omega
     rw [a1,a2];rfl
    ·have:(o.length:Int)=0:=by omega
     simp [this]
   rw [e2,e3,e4,e6];simp only [cond_true];cases hl:z1i o with
   | false=>simp
   | true =>
    have:=(h2 hl).2;have e5:((-1:Int) != z5v o)=true:=by simp;omega
    rw [e5];simp
  ·have e2:(i.c_==35)=false:=by simpa using q5
   rw [e2];simp only [cond_false];cases i.c_==37 with
   | true =>simp only [cond_true];cases z1i o<;>rfl
   | false =>
    simp only [cond_false];cases hl:z1i o with
    | false=>rfl
    | true =>obtain ⟨p1,p2⟩:=h2 hl;rw [p1,ykp p2];cases zex c i (z5v o)<;>rfl
end
def zby (i:Xd)(set:List Bool)(news:List (List Int))(op:List Int):List Bool×List (List Int)×List Int :=
 bif i.c_==34 then (set,news++[[]],op++[-1]) else bif i.c_==36 then (set,news,op++[i.N_]) else
 bif i.c_==35 then (z9l set (news.getLast?.getD []),news.dropLast,op.dropLast) else bif i.c_==37 then (set,news,op.dropLast) else
 bif z10 i&&!((set[i.D_.toNat]?).getD false) then (set.set i.D_.toNat true,zab news i.D_,op) else (set,news,op)
def okI (c:Xe)(i:Xd)(set:List Bool)(op:List Int):Bool:=z29 c i&&(zfz c i op&&z2k set i)
section
variable {c:Xe}{N:Nat}{set:List Bool}{news:List (List Int)}{op:List Int}{o:List Xi}{i:Xd}
theorem zi8 {k:Int}(h:i.c_=k)(hk:k=35\/k=36\/k=37):z13 i=[]/\z10 i=false:=by unfold z13 z10;rw [h];rcases hk with rfl | rfl | rfl<;>exact ⟨rfl,rfl⟩
theorem Two.last (h:Two c N set news op o)(h0:0<op.length)(h1:Loom.lst op<0):∃ l w,news.getLast? = some l/\o.getLast? = some w/\w.c_=34/\z9l set l=w.G_/\l.length<=N/\(∀ r∈l,0<=r/\r<set.length)/\zbh N w.G_ news.dropLast.reverse (o.dropLast.filter z4y).reverse:=by
 have hlen:op.length=o.length:=by rw [h.op];simp
 obtain ⟨w,w1,w2⟩:=z73 o (by omega)
 have hw:w.c_=34:=by
  rcases h.ok w (List.mem_of_getLast? w1) with q | ⟨q,p⟩
  ·exact q
  ·rw [h.lst,w1] at h1;simp only [code,q] at h1;have:(bif ((36:Int)==36) then w.n_ else -1)=w.n_:=rfl;omega
 have ho:o=o.dropLast++[w]:=by
  have hne:o≠[]:=λe=>by rw [e] at w1;cases w1
  have:=List.dropLast_concat_getLast hne;rw [List.getLast?_eq_some_getLast hne] at w1;rw [<- Option.some.inj w1];exact this.symm
 have hc:=h.ch;rw [ho,filter_append] at hc;have e:[w].filter z4y=[w]:=by simp [z4y,hw]
 rw [e,List.reverse_append,List.reverse_singleton,singleton_append] at hc;cases hn:news.reverse with
 | nil=>rw [hn] at hc;exact hc.elim
 | cons l ls =>
  rw [hn] at hc
  have hnews:news=ls.reverse++[l]:=by have:=congrArg reverse hn;simpa using this
  refine ⟨l,w,by rw [hnews];simp,w1,hw,hc.1,hc.2.1,hc.2.2.1,?_⟩;have:news.dropLast=ls.reverse:=by rw [hnews];simp
  rw [this,List.reverse_reverse];exact hc.2.2.2
theorem y5b {m k:Nat}{x:Xe}{v:List Xd×Int×List Xa×List Xb×List Xc}(h:Two c N set news op o)(hN:N<1000000)(hm:N<m)(hr:∀ t∈c.a_,z37 c.f_ t=true)(h0:0<=i.m_)(h1:i.m_<4294967296)
  (hk:k<1000000) (hv:decide ((k:Int)<v.2.1)=true) (hi:idx v.1 (k:Int)=some i) :
  zfi (m+5) x v ((k:Int),c.f_,c.a_,c.e_,c.d_,set,news,op)=some (bif okI c i set op then .go (((k+1:Nat):Int),c.f_,c.a_,c.e_,c.d_,zby i set news op) else .ret (k:Int)):=by
 rw [zlk];dsimp only;rw [hv,hi];simp only [cond_true,Option.bind_some];rw [yde m hr h0 h1];unfold okI;cases hf:z29 c i with
 | false=>rfl
 | true =>
  have hle:op.length<=64:=by rw [h.op];simpa using h.le
  obtain ⟨n1,n2⟩:=h.newsOk;have hrd:∀ y∈z13 i,0<=y/\y<set.length:=λy hy=>by rw [h.len];exact zq4 hf y hy
  have hD:z10 i=true->0<=i.D_/\i.D_<set.length:=λhs=>by rw [h.len];exact zl9 hf hs
  simp only [Option.bind_some,Bool.not_true,cond_false,Bool.true_and];unfold zfz zby;by_cases q34:i.c_=34
  ·have e1:(i.c_==34)=true:=by simpa using q34
   rw [y5o (n:=m+5) (by omega) q34];simp only [e1,Bool.true_or,cond_true,Option.bind_some];cases hp:(decide (Loom.lst op>=0)||(op.length:Int)==64) with
   | true=>rfl
   | false =>
    simp only [Bool.not_false,Bool.not_true,cond_false,Bool.true_and];rw [y5p (m:=m+1) q34 hrd hle n1];cases z2k set i with
    | false=>rfl
    | true =>simp only [Option.bind_some,orRet_inl,Bool.not_true,cond_false,cond_true,z22 (show k<4611686018427387904 by omega)]
  ·have e1:(i.c_==34)=false:=by simpa using q34
   by_cases q36:i.c_=36
   ·have e2:(i.c_==36)=true:=by simpa using q36
    obtain ⟨r1,r2⟩:=zi8 q36 (by simp);have r3:z2k set i=true:=by unfold z2k;rw [r1];rfl
    rw [y5m (n:=m+5) hle q36];simp only [e1,e2,Bool.false_or,cond_true,cond_false,Option.bind_some];cases hp:(decide (Loom.lst op>=0)||(op.length:Int)==64) with
    | true=>rfl
    | false =>simp only [Bool.not_false,Bool.not_true,cond_false,Bool.true_and];rw [zdv (m:=m+1) q34 hrd hD n1 (λl hl=>by have:=n2 l hl;omega)];simp only [r2,r3,Bool.false_and,Bool.and_false,Option.bind_some,orRet_inl,Bool.not_true,cond_false,cond_true,z22 (show k<4611686018427387904 by omega)]
   ·have e2:(i.c_==36)=false:=by simpa using q36
    by_cases q35:i.c_=35
    ·have e3:(i.c_==35)=true:=by simpa using q35
     obtain ⟨r1,r2⟩:=zi8 q35 (by simp)
     rw [yaj (m:=m+1) (nl:=news.getLast?.getD []) hle q35 (λz1 z2=>by obtain ⟨l,w,a1,a2,a3,a4,a5,a6,a7⟩:=h.last z1 z2;rw [a1];exact ⟨rfl,by omega,by simp only [getD_some];omega,by simp only [getD_some];omega,a6⟩)]
     simp only [e1,e2,e3,Bool.false_or,cond_true,cond_false,Option.bind_some];cases hp:((op.length:Int)==0||decide (Loom.lst op>=0)) with
     | true=>rfl
     | false =>
      have r3:z2k set i=true:=by unfold z2k;rw [r1];rfl
      simp only [Bool.not_false,Bool.not_true,cond_false,Bool.true_and,r3]
      rw [zdv (m:=m+1) q34 (λy hy=>by rw [r1] at hy;cases hy) (λhs=>by rw [r2] at hs;cases hs) (by simp;omega) (λl hl=>by have:=n2 l ((List.dropLast_sublist _).subset hl);omega)]
      have r4:z2k (z9l set (news.getLast?.getD [])) i=true:=by unfold z2k;rw [r1];rfl
      simp only [r2,r4,Bool.false_and,Bool.and_false,Option.bind_some,orRet_inl,Bool.not_true,cond_false,cond_true,z22 (show k<4611686018427387904 by omega)]
    ·have e3:(i.c_==35)=false:=by simpa using q35
     by_cases q37:i.c_=37
     ·have e4:(i.c_==37)=true:=by simpa using q37
      obtain ⟨r1,r2⟩:=zi8 q37 (by simp);have r3:z2k set i=true:=by unfold z2k;rw [r1];rfl
      rw [y5n (n:=m+5) hle q37];simp only [e1,e2,e3,e4,Bool.false_or,cond_true,cond_false,Option.bind_some];cases hp:decide (Loom.lst op<0) with
      | true=>rfl
      | false =>simp only [Bool.not_false,Bool.not_true,cond_false,Bool.true_and];rw [zdv (m:=m+1) q34 hrd hD n1 (λl hl=>by have:=n2 l hl;omega)];simp only [r2,r3,Bool.false_and,Bool.and_false,Option.bind_some,orRet_inl,Bool.not_true,cond_false,cond_true,z22 (show k<4611686018427387904 by omega)]
     ·have e4:(i.c_==37)=false:=by simpa using q37
      rw [y5l (n:=m+5) hle hf q34 q35 q36 q37 (ybj hf) (ybh hf)];simp only [e1,e2,e3,e4,Bool.false_or,cond_true,cond_false,Option.bind_some];cases hp:(bif decide (Loom.lst op<0) then true else zex c i (Loom.lst op)) with
      | false=>rfl
      | true =>
       simp only [Bool.not_false,Bool.not_true,cond_false,Bool.true_and];rw [zdv (m:=m+1) q34 hrd hD n1 (λl hl=>by have:=n2 l hl;omega)];cases z2k set i with
       | false=>rfl
       | true =>simp only [Bool.true_and,Option.bind_some,orRet_inl,Bool.not_true,cond_false,cond_true,z22 (show k<4611686018427387904 by omega)]
end
def z1y (i:Xd)(set:List Bool)(o:List Xi):List Bool×List Xi :=
 bif i.c_==34||i.c_==36 then (set,o++[⟨i.c_,i.N_,set⟩]) else bif i.c_==35 then ((o.getLast?.getD ⟨0,0,[]⟩).G_,o.dropLast) else bif i.c_==37 then (set,o.dropLast) else
  bif z10 i then (set.set i.D_.toNat true,o) else (set,o)
theorem zy8 {n:Nat}{s:List Bool}(h:s.length<=140737488355328):f42 n s=some s:=by rw [ydm,zo (by omega)]
section
variable {c:Xe}{N:Nat}{set:List Bool}{news:List (List Int)}{op:List Int}{o:List Xi}{i:Xd}
theorem y5d {m k:Nat}(h:Two c N set news op o)(hr:∀ t∈c.a_,z37 c.f_ t=true)(hR:c.a_.length<=1000000)(h0:0<=i.m_)(h1:i.m_<4294967296)
  (hk:k<1000000) (hv:k<c.d_.length) (hi:idx c.d_ (k:Int)=some i) :
  zfj (m+4) c () ((k:Int),set,o)=some (bif z1k c i set o then .go (((k+1:Nat):Int),z1y i set o) else .ret (k:Int)):=by
 have hle:=h.le;have hlen:=h.len;rw [zlo];have e1:decide ((k:Int)<(c.d_.length:Int))=true:=by simp;omega
 dsimp only;rw [e1,hi];simp only [cond_true,Option.bind_some];rw [ydl hr h0 h1 hlen (by omega)];have w:i64.wrap ((k:Int)+1)=((k+1:Nat):Int):=z22 (by omega);cases hs:z1k c i set o with
 | false=>rfl
 | true =>
  simp only [Option.bind_some,Bool.not_true,cond_false,cond_true];have hs':=hs;unfold z1k at hs';simp only [and_eq_true] at hs';obtain ⟨hf,hv1,hrd,hp⟩:=hs';unfold z1y
  have hB:(bif i.c_==34 then some (Sum.inl (true,i.c_,i.D_,i.A_,i.B_,i.C_,i.N_,i.m_)) else some (.inl (i.c_==36,i.c_,i.D_,i.A_,i.B_,i.C_,i.N_,i.m_)):Option (Bool×Int×Int×Int×Int×Int×Int×Int⊕Bo (Int×List Bool×List Xi) (Int×List Bool×List Xi) Int))
    = some (.inl (i.c_==34||i.c_==36,i.c_,i.D_,i.A_,i.B_,i.C_,i.N_,i.m_)):=by
   cases i.c_==34<;>rfl
  rw [hB,Option.bind_some,orRet_inl];dsimp only;cases q1:(i.c_==34||i.c_==36) with
  | true =>simp only [cond_true];rw [zy8 (by omega)];simp only [Option.bind_some];rw [zo (by simp;omega),w]
  | false =>
   simp only [cond_false];unfold z5d at hp;rw [q1] at hp;simp only [cond_false] at hp;cases q2:i.c_==35 with
   | true =>
    rw [q2] at hp;simp only [cond_true,and_eq_true,decide_eq_true_eq] at hp;have hpos:0<o.length:=by omega
    obtain ⟨w1,w2,w3⟩:=za8 hpos (by omega);obtain ⟨x,x1,x2⟩:=z73 o hpos;simp only [cond_true];rw [zo ⟨w2,w3⟩,w1,x2,x1];simp only [Option.bind_some,getD_some]
    have hx:x.G_.length<=140737488355328:=by
     have hl0:Loom.lst op<0:=by have:=h.loop.1;rw [<- this] at hp;simp at hp;omega
     obtain ⟨l,wv,a1,a2,a3,a4,_⟩:=h.last (by rw [h.op];simpa using hpos) hl0;rw [x1] at a2;cases a2;rw [<- a4,zqr];omega
    rw [zy8 hx];simp only [Option.bind_some];rw [zo ⟨w2,by omega⟩,zo (by omega),w];simp [dropLast_eq_take]
   | false =>
    rw [q2] at hp;simp only [cond_false] at hp ⊢;cases q3:i.c_==37 with
    | true =>
     rw [q3] at hp;simp only [cond_true] at hp ⊢
     have hpos:0<o.length:=by cases o with | nil=>cases hp | cons _ _=>simp
     obtain ⟨w1,w2,w3⟩:=za8 hpos (by omega);rw [zo ⟨w2,by omega⟩,w1,zo (by omega),w];simp [dropLast_eq_take]
    | false =>
     have e:(⟨i.c_,i.D_,i.A_,i.B_,i.C_,i.N_,i.m_⟩:Xd)=i:=rfl;simp only [cond_false,e,zy2,Option.bind_some];cases hss:z10 i with
     | false=>simp only [cond_false,w]
     | true =>obtain ⟨d0,d1⟩:=zl9 hf hss;obtain ⟨b,hb⟩:=zcy (l:=set) d0 (by omega);simp only [cond_true];rw [zo ⟨d0,by omega⟩,hb];simp only [Option.bind_some,w]
theorem zqq (l:List Int):∀ (set:List Bool) (j:Nat),(z9l set l)[j]?=if l.any (λr=>r.toNat==j) then (set[j]?).map (λ_=>false) else set[j]?:=by
 unfold z9l
 induction l with
 | nil=>intro set j;simp
 | cons r l ih =>
  intro set j;simp only [foldl_cons];rw [ih,any_cons];by_cases h:r.toNat=j
  ·subst h;simp only [beq_self_eq_true,Bool.true_or,if_true];split
   ·by_cases hj:r.toNat<set.length
    ·simp [hj]
    ·simp [hj]
   ·by_cases hj:r.toNat<set.length
    ·simp [hj]
    ·simp [hj]
  ·have e:(r.toNat==j)=false:=by simpa using h
   rw [e,Bool.false_or,List.getElem?_set_ne h]
theorem y77 {l:List Int}{set:List Bool}{d:Int}(hd:set[d.toNat]?=some false):z9l (set.set d.toNat true) (l++[d])=z9l set l:=by
 apply List.ext_getElem?;intro j
 have hlt:d.toNat<set.length:=by obtain ⟨h,_⟩:=List.getElem?_eq_some_iff.1 hd;exact h
 rw [zqq,zqq,List.any_append];by_cases h:d.toNat=j
 ·subst h;simp only [any_cons,beq_self_eq_true,Bool.true_or,Bool.or_true,if_true,hd];rw [getElem?_set_self hlt];simp
 ·have e:(d.toNat==j)=false:=by simpa using h
  rw [List.getElem?_set_ne h];simp [e]
theorem y44 {set:List Bool}{d:Nat}(h:set[d]?=some true):set.set d true=set:=by
 apply List.ext_getElem?;intro j;by_cases hj:d=j
 ·subst hj;obtain ⟨hl,_⟩:=List.getElem?_eq_some_iff.1 h;rw [getElem?_set_self hl,h]
 ·rw [List.getElem?_set_ne hj]
end
section
variable {c:Xe}{N:Nat}{set:List Bool}{news:List (List Int)}{op:List Int}{o:List Xi}{i:Xd}
theorem yjr (hf:z29 c i=true)(h:i.c_=36):0<=i.N_:=by unfold z29 at hf;rw [h] at hf;have e:z4q 36=some ⟨0,0,0,0,4⟩:=rfl;rw [e] at hf;simp only [and_eq_true] at hf;have:=hf.2.2.2.2.2;have e2:nOk c 4 i.N_ (tyF c ⟨0,0,0,0,4⟩ i)=(decide (i.N_>=0)&&decide (i.N_<(c.f_.length:Int))):=rfl;rw [e2] at this;simp at this;exact this.1
theorem zjs {α:Type}{l:List α}{w:α}(h:l.getLast? = some w):l=l.dropLast++[w]:=by
 have hne:l≠[]:=λe=>by rw [e] at h;cases h
 have:=List.dropLast_concat_getLast hne;rw [List.getLast?_eq_some_getLast hne] at h;rw [<- Option.some.inj h];exact this.symm
theorem Two.next (h:Two c N set news op o)(hok:okI c i set op=true):(z1y i set o).1=(zby i set news op).1/\Two c (N+1) (zby i set news op).1 (zby i set news op).2.1 (zby i set news op).2.2 (z1y i set o).2:=by
 unfold okI at hok;simp only [and_eq_true] at hok;obtain ⟨hf,hp,hrd⟩:=hok;have hlen:op.length=o.length:=by rw [h.op];simp
 unfold zfz at hp;unfold zby z1y;by_cases q34:i.c_=34
 ·have e1:(i.c_==34)=true:=by simpa using q34
  rw [e1] at hp;simp only [Bool.true_or,cond_true,not_eq_true',or_eq_false_iff,beq_eq_false_iff_ne,ne_eq] at hp;have hle:=h.le;simp only [e1,Bool.true_or,cond_true];refine ⟨by trivial,h.len,?_,?_,?_,?_⟩
  ·rw [map_append,h.op];simp [code,q34]
  ·simp;omega
  ·intro x hx;rcases mem_append.1 hx with hx | hx
   ·exact h.ok x hx
   ·simp only [mem_singleton] at hx;subst hx;exact .inl q34
  ·rw [filter_append];have e:[(⟨i.c_,i.N_,set⟩:Xi)].filter z4y=[⟨i.c_,i.N_,set⟩]:=by simp [z4y,q34]
   rw [e,List.reverse_append,List.reverse_append];exact ⟨rfl,Nat.zero_le _,λr hr=>(by cases hr),z4a (le_succ N) _ _ _ h.ch⟩
 ·have e1:(i.c_==34)=false:=by simpa using q34
  rw [e1] at hp;by_cases q36:i.c_=36
  ·have e2:(i.c_==36)=true:=by simpa using q36
   rw [e2] at hp;simp only [Bool.false_or,cond_true,not_eq_true',or_eq_false_iff,beq_eq_false_iff_ne,ne_eq] at hp;have hle:=h.le;simp only [e1,e2,Bool.false_or,cond_true,cond_false];refine ⟨by trivial,h.len,?_,?_,?_,?_⟩
   ·rw [map_append,h.op];simp [code,q36]
   ·simp;omega
   ·intro x hx;rcases mem_append.1 hx with hx | hx
    ·exact h.ok x hx
    ·simp only [mem_singleton] at hx;subst hx;exact .inr ⟨q36,yjr hf q36⟩
   ·rw [filter_append];have e:[(⟨i.c_,i.N_,set⟩:Xi)].filter z4y=[]:=by simp [z4y,q36]
    rw [e,append_nil];exact z4a (le_succ N) _ _ _ h.ch
  ·have e2:(i.c_==36)=false:=by simpa using q36
   rw [e2] at hp;simp only [Bool.false_or,cond_false] at hp;simp only [e1,e2,Bool.false_or,cond_false];by_cases q35:i.c_=35
   ·have e3:(i.c_==35)=true:=by simpa using q35
    rw [e3] at hp;simp only [cond_true,not_eq_true',or_eq_false_iff,beq_eq_false_iff_ne,ne_eq,decide_eq_false_iff_not] at hp;obtain ⟨l,w,a1,a2,a3,a4,a5,a6,a7⟩:=h.last (by omega) (by omega);simp only [e3,cond_true,a1,a2,getD_some];have hle:=h.le;refine ⟨a4.symm,?_,?_,?_,?_,?_⟩
    ·rw [zqr];exact h.len
    ·rw [h.op,List.map_dropLast]
    ·simp;omega
    ·exact λx hx=>h.ok x ((List.dropLast_sublist _).subset hx)
    ·rw [a4];exact z4a (le_succ N) _ _ _ a7
   ·have e3:(i.c_==35)=false:=by simpa using q35
    rw [e3] at hp;simp only [cond_false] at hp;by_cases q37:i.c_=37
    ·have e4:(i.c_==37)=true:=by simpa using q37
     rw [e4,y9n,h.loop.1] at hp;simp only [cond_true,Bool.not_not] at hp;simp only [e3,e4,cond_true,cond_false];have hle:=h.le
     obtain ⟨w,hw⟩:∃ w,o.getLast? = some w:=by
      unfold z1i at hp;split at hp
      ·exact ⟨_,by assumption⟩
      ·cases hp
     have hww:w.c_=36:=by unfold z1i at hp;rw [hw] at hp;simpa using hp
     refine ⟨by trivial,h.len,?_,?_,?_,?_⟩
     ·rw [h.op,List.map_dropLast]
     ·simp;omega
     ·exact λx hx=>h.ok x ((List.dropLast_sublist _).subset hx)
     ·have:=h.ch;rw [zjs hw,filter_append] at this;have e:[w].filter z4y=[]:=by simp [z4y,hww]
      rw [e,append_nil] at this;exact z4a (le_succ N) _ _ _ this
    ·have e4:(i.c_==37)=false:=by simpa using q37
     simp only [e3,e4,cond_false];cases hs:z10 i with
     | false =>simp only [Bool.false_and,cond_false];exact ⟨by trivial,h.len,h.op,h.le,h.ok,z4a (le_succ N) _ _ _ h.ch⟩
     | true =>
      obtain ⟨d0,d1⟩:=zl9 hf hs;obtain ⟨b,hb⟩:=zcy (l:=set) d0 (by rw [h.len];exact d1);simp only [hb,getD_some,Bool.true_and,cond_true];cases b with
      | true =>rw [y44 hb];exact ⟨rfl,h.len,h.op,h.le,h.ok,z4a (le_succ N) _ _ _ h.ch⟩
      | false =>
       simp only [Bool.not_false,cond_true];refine ⟨by trivial,by simpa using h.len,h.op,h.le,h.ok,?_⟩;have hc:=h.ch;cases hn:news.reverse with
       | nil =>
        rw [hn] at hc;have:news=[]:=by simpa using hn
        subst this;cases hw:(o.filter z4y).reverse with | nil=>simp [zab,zbh] | cons w ws=>rw [hw] at hc;exact hc.elim
       | cons l ls =>
        rw [hn] at hc;cases hw:(o.filter z4y).reverse with
        | nil=>rw [hw] at hc;exact hc.elim
        | cons w ws =>
         rw [hw] at hc;obtain ⟨c1,c2,c3,c4⟩:=hc
         have hnews:news=ls.reverse++[l]:=by have:=congrArg reverse hn;simpa using this
         have ha:(zab news i.D_).reverse=(l++[i.D_])::ls:=by unfold zab;rw [hnews];simp
         rw [ha];refine ⟨by rw [y77 hb];exact c1,by simp;omega,λr hr=>?_,z4a (le_succ N) _ _ _ c4⟩;rcases mem_append.1 hr with hr | hr
         ·simpa using c3 r hr
         ·simp only [mem_singleton] at hr;subst hr;refine ⟨d0,?_⟩;simp only [length_set];rw [h.len];exact d1
end
theorem zpf {α S Y Z:Type}{l:List α}{p:α->Bool}{g:Nat->S}{body:S->Option (Bo S Y Z)}{z:Nat->Z}{y:Y}
  (hb:∀ (k:Nat) (h:k<l.length),body (g k)=some (bif p l[k] then .go (g (k+1)) else .ret (z k))) (he:body (g l.length)=some (.out y)) :
  ∀ (j k f:Nat),k+j=l.length->j<f->zl body f (g k)=some (match (l.drop k).findIdx? (λx=>!p x) with | none=>.out y | some i=>.ret (z (k+i)))
 | 0,k,f+1,hk,hf=>by
  obtain rfl:k=l.length:=by omega
  unfold zl;rw [he];simp
 | j+1,k,f+1,hk,hf=>by
  have h:k<l.length:=by omega
  unfold zl;rw [hb k h,drop_eq_getElem_cons h];cases hp:p l[k] with
  | false =>simp only [cond_false,findIdx?_cons,hp,Bool.not_false,if_true];rfl
  | true =>simp only [cond_true];rw [zpf hb he j (k+1) f (by omega) (by omega)];rw [findIdx?_cons];simp only [hp,Bool.not_true,cond_false,Bool.false_eq_true,if_false];cases (l.drop (k+1)).findIdx? (λx=>!p x) with | none=>rfl | some i=>simp only [map_some];congr 3;omega
theorem zpe {α S Y Z:Type}{l:List α}{p:α->Bool}(g:Nat->S){body:S->Option (Bo S Y Z)}(z:Nat->Z){y:Y}{f:Nat}
  (hb:∀ (k:Nat) (h:k<l.length),body (g k)=some (bif p l[k] then .go (g (k+1)) else .ret (z k))) (he:body (g l.length)=some (.out y)) (hf:l.length<f) :
  zl body f (g 0)=some (match l.findIdx? (λx=>!p x) with | none=>.out y | some i=>.ret (z i)):=by
 have:=zpf hb he l.length 0 f (by omega) hf;simpa using this
section
variable {c:Xe}
theorem z2a {α:Type}{l:List α}{k:Nat}(h:k<l.length):idx l (k:Int)=some l[k]:=by simp [idx,h]
theorem yd5 {n:Nat}(h:c.a_.length<n)(h2:c.a_.length<1000000):f29 n (c.a_,c.f_,c.a_,c.e_,c.d_)=some (!(c.a_.all (z37 c.f_)),c.f_,c.a_,c.e_,c.d_):=by
 have hit:zl (zok n (c.a_,c.f_,c.a_,c.e_,c.d_) ()) n ((0:Int),c.f_,c.a_,c.e_,c.d_)=some (match c.a_.findIdx? (λx=>!z37 c.f_ x) with | none=>.out ((c.a_.length:Int),c.f_,c.a_,c.e_,c.d_) | some i=>.ret ((i:Int),c.f_,c.a_,c.e_,c.d_)):=by
  refine zpe (p:=z37 c.f_) (λk=>((k:Int),c.f_,c.a_,c.e_,c.d_)) (λk=>((k:Int),c.f_,c.a_,c.e_,c.d_)) (λk hk=>?_) ?_ h
  ·rw [zm0];have e1:decide ((k:Int)<(c.a_.length:Int))=true:=by simp;omega
   dsimp only;rw [e1,z2a hk];simp only [cond_true,Option.bind_some,yd6,zy5,z22 (show k<4611686018427387904 by omega)];cases z37 c.f_ c.a_[k]<;>rfl
  ·rw [zm0];simp
 rw [yd4,ydq];dsimp only;rw [hit,<- zhu];cases c.a_.findIdx? (λx=>!z37 c.f_ x) with | none=>rfl | some i=>simp [Bo.then]
theorem yd9 {n:Nat}(h:c.e_.length<n)(h2:c.e_.length<1000000)(hb:∀ s∈c.e_,0<=s.m_/\s.m_<4294967296):f32 n (c.e_,c.f_,c.a_,c.e_,c.d_)=some (!(c.e_.all (z75 c.f_)),c.f_,c.a_,c.e_,c.d_):=by
 have hit:zl (zol n (c.e_,c.f_,c.a_,c.e_,c.d_) ()) n ((0:Int),c.f_,c.a_,c.e_,c.d_)=some (match c.e_.findIdx? (λx=>!z75 c.f_ x) with | none=>.out ((c.e_.length:Int),c.f_,c.a_,c.e_,c.d_) | some i=>.ret ((i:Int),c.f_,c.a_,c.e_,c.d_)):=by
  refine zpe (p:=z75 c.f_) (λk=>((k:Int),c.f_,c.a_,c.e_,c.d_)) (λk=>((k:Int),c.f_,c.a_,c.e_,c.d_)) (λk hk=>?_) ?_ h
  ·rw [zm1];have e1:decide ((k:Int)<(c.e_.length:Int))=true:=by simp;omega
   obtain ⟨b0,b1⟩:=hb _ (getElem_mem hk);dsimp only;rw [e1,z2a hk];simp only [cond_true,Option.bind_some,yda,ydc _ _ b0 b1,z22 (show k<4611686018427387904 by omega)];cases z75 c.f_ c.e_[k]<;>rfl
  ·rw [zm1];simp
 rw [yd8,ydr];dsimp only;rw [hit,<- zhu];cases c.e_.findIdx? (λx=>!z75 c.f_ x) with | none=>rfl | some i=>simp [Bo.then]
theorem y5c {n m:Nat}(h:c.a_.length<m)(h2:c.a_.length<1000000):zl (zo3 n c ()) m 0=some (bif c.a_.all (z37 c.f_) then .out (c.a_.length:Int) else .ret ()):=by
 refine z51 (λk hk=>?_) ?_ h
 ·rw [zll];have e1:decide ((k:Int)<(c.a_.length:Int))=true:=by simp;omega
  rw [e1,z2a hk];simp only [cond_true,Option.bind_some,zy7,z22 (show k<4611686018427387904 by omega)];cases z37 c.f_ c.a_[k]<;>rfl
 ·rw [zll];simp
theorem zy3 {n m:Nat}(h:c.e_.length<m)(h2:c.e_.length<1000000)(hb:∀ s∈c.e_,0<=s.m_/\s.m_<4294967296):zl (zo4 n c ()) m 0=some (bif c.e_.all (z75 c.f_) then .out (c.e_.length:Int) else .ret ()):=by
 refine z51 (λk hk=>?_) ?_ h
 ·rw [zlm];have e1:decide ((k:Int)<(c.e_.length:Int))=true:=by simp;omega
  obtain ⟨b0,b1⟩:=hb _ (getElem_mem hk);rw [e1,z2a hk];simp only [cond_true,Option.bind_some,ydj _ _ b0 b1,z22 (show k<4611686018427387904 by omega)];cases z75 c.f_ c.e_[k]<;>rfl
 ·rw [zlm];simp
theorem z3m {S Y Z:Type}{L:Nat}(g:Nat->S){body:S->Option (Bo S Y Z)}{y:Y}(hb:∀ k,k<L->body (g k)=some (.go (g (k+1))))(he:body (g L)=some (.out y)) :
  ∀ (j k f:Nat),k+j=L->j<f->zl body f (g k)=some (.out y)
 | 0,k,f+1,hk,hf=>by
  obtain rfl:k=L:=by omega
  unfold zl;rw [he]
 | j+1,k,f+1,hk,hf=>by unfold zl;rw [hb k (by omega)];exact z3m g hb he j (k+1) f (by omega) (by omega)
theorem yaa {n m:Nat}(h:c.a_.length<m)(h2:c.a_.length<1000000):zl (zo5 n c ()) m (0,[])=some (.out ((c.a_.length:Int),replicate c.a_.length false)):=by
 refine z3m (L:=c.a_.length) (λk=>((k:Int),replicate k false)) (λk hk=>?_) ?_ c.a_.length 0 m (by omega) h
 ·rw [zln];have e1:decide ((k:Int)<(c.a_.length:Int))=true:=by simp;omega
  dsimp only;rw [e1,cond_true,zo (by simp;omega),z22 (by omega),<- List.replicate_succ']
 ·rw [zln];simp
end
def okB (y:Int):Bool:=(decide (y>=65)&&decide (y<=90))||((decide (y>=97)&&decide (y<=122))||((decide (y>=48)&&decide (y<=57))||(y==95||(y==46||(y==47||y==45)))))
theorem yne (y:Int)(h0:0<=y)(h1:y<256):decide ((Lib.indexByte [95,46,47,45] y.toNat.toUInt8:Int)>=0)=(y==95||(y==46||(y==47||y==45))):=by
 have h:(range 256).all (λk=>decide ((Lib.indexByte [95,46,47,45] k.toUInt8:Int)>=0)==((k:Int)==95||((k:Int)==46||((k:Int)==47||(k:Int)==45))))=true:=by kernel_rfl
 have:=all_eq_true.1 h y.toNat (by simp;omega);have e:((y.toNat:Nat):Int)=y:=by omega
 rw [e] at this;simpa using this
theorem yek {n:Nat}(y:Int)(h0:0<=y)(h1:y<256):∃ r,f68 n (⟨#[95,46,47,45]⟩,y)=some r/\decide (r>=0)=(y==95||(y==46||(y==47||y==45))) :=
 ⟨_,by rw [yej];rfl,yne y h0 h1⟩
theorem znq {x:ByteArray}{k:Nat}(h:k<(bytesOf x).length):0<=(bytesOf x)[k]/\(bytesOf x)[k]<256/\zd x (k:Int)=(bytesOf x)[k]:=by
 have hl:k<x.data.toList.length:=by simpa [bytesOf] using h
 have e:(bytesOf x)[k]=((x.data.toList[k]).toNat:Int):=by simp [bytesOf]
 have hb:=UInt8.toNat_lt (x.data.toList[k]);refine ⟨by rw [e];omega,by rw [e];omega,?_⟩;rw [e];unfold zd;rw [List.getD_eq_getElem?_getD,show ((k:Int).toNat)=k from rfl,getElem?_eq_getElem hl];rfl
theorem zlg (x:ByteArray):(bytesOf x).length=x.size:=by unfold bytesOf;rw [length_map];rfl
def zay (x:ByteArray):Bool:=!(x==⟨#[]⟩||decide ((x.size:Int) > 64))&&(bytesOf x).all okB
theorem ye8 {n:Nat}(x:ByteArray)(hn:64<n):f61 n x=some (zay x):=by
 rw [ye7]
 have hB:(bif (x==⟨#[]⟩) then some (Sum.inl true) else some (.inl (decide ((x.size:Int) > 64))):Option (Bool⊕Bool))=some (.inl (x==⟨#[]⟩||decide ((x.size:Int) > 64))):=by cases (x==(⟨#[]⟩:ByteArray))<;>rfl
 rw [hB,Option.bind_some,orRet_inl];unfold zay;cases hq:(x==⟨#[]⟩||decide ((x.size:Int) > 64)) with
 | true=>rfl
 | false =>
  have hs:x.size<=64:=by simp only [or_eq_false_iff,decide_eq_false_iff_not] at hq;omega
  have hl:=zlg x
  have hit:zl (zoo n x ()) n 0=some (bif (bytesOf x).all okB then .out ((bytesOf x).length:Int) else .ret ()):=by
   refine z51 (λk hk=>?_) ?_ (by omega)
   ·obtain ⟨b0,b1,_⟩:=znq hk;obtain ⟨r,r1,r2⟩:=yek (n:=n) _ b0 b1;rw [zm4];have e1:decide ((k:Int)<((bytesOf x).length:Int))=true:=by simp;omega
    rw [e1,z2a hk];simp only [cond_true,Option.bind_some];generalize (bytesOf x)[k]=y at *;rw [z22 (by omega)];unfold okB;cases a1:decide (y>=65)<;>cases a2:decide (y<=90)<;>cases a3:decide (y>=97)<;>cases a4:decide (y<=122)<;>cases a5:decide (y>=48)<;>cases a6:decide (y<=57)<;>simp only [a1,a2,a3,a4,a5,a6,cond_true,cond_false,Option.bind_some,orRet_inl,r1,r2]<;>cases (y==95||(y==46||(y==47||y==45)))<;>rfl
   ·rw [zm4];simp
  rw [hit];cases (bytesOf x).all okB<;>rfl
set_option maxHeartbeats 4000000 in
theorem yec {n:Nat}(x:ByteArray)(hn:64<n):f63 n x=some (zay x):=by
 rw [yeb]
 have hB:(bif (x==⟨#[]⟩) then some (Sum.inl true) else some (.inl (decide ((x.size:Int) > 64))):Option (Bool⊕Bool))=some (.inl (x==⟨#[]⟩||decide ((x.size:Int) > 64))):=by cases (x==(⟨#[]⟩:ByteArray))<;>rfl
 rw [hB,Option.bind_some,orRet_inl];unfold zay;cases hq:(x==⟨#[]⟩||decide ((x.size:Int) > 64)) with
 | true=>rfl
 | false =>
  have hs:x.size<=64:=by simp only [or_eq_false_iff,decide_eq_false_iff_not] at hq;omega
  have hl:=zlg x
  have hit:zl (zop n x ()) n 0=some (bif (bytesOf x).all okB then .out ((bytesOf x).length:Int) else .ret ()):=by
   refine z51 (λk hk=>?_) ?_ (by omega)
   ·obtain ⟨_,_,b2⟩:=znq hk;rw [zm5];have e1:decide ((k:Int)<(x.size:Int))=true:=by simp;omega
    rw [e1,b2,cond_true,zo (by omega),z22 (by omega)];generalize (bytesOf x)[k]=y;unfold okB;cases decide (y>=97)<;>cases decide (y<=122)<;>cases decide (y>=65)<;>cases decide (y<=90)<;>cases decide (y>=48)<;>cases decide (y<=57)<;>cases (y==95)<;>cases (y==46)<;>cases (y==47)<;>cases (y==45)<;>rfl
   ·rw [zm5,hl];simp
  rw [hit];cases (bytesOf x).all okB<;>rfl
def z74 (p:Xa):Bool:=zay p.q_&&((p.j_==1||p.j_==2)&&(decide (p.r_>=1)&&decide (p.r_<=4096)))
theorem zy9 {n:Nat}(p:Xa)(hn:64<n):f48 n p=some (z74 p):=by rw [ydn,ye8 _ hn];unfold z74;simp only [Option.bind_some];cases zay p.q_<;>cases (p.j_==1)<;>cases (p.j_==2)<;>cases decide (p.r_>=1)<;>rfl
theorem zyb {n:Nat}(p:Xa)(hn:64<n):f55 n p=some (z74 p):=by rw [ydx,yec _ hn];unfold z74;simp only [Option.bind_some];cases zay p.q_<;>cases (p.j_==1)<;>cases (p.j_==2)<;>cases decide (p.r_>=1)<;>rfl
theorem zr9 {a b:ByteArray}:(a==b)=true↔a=b:=MapKept.bytes_beq a b
theorem z8a (a:ByteArray):(a==a)=true:=zr9.2 rfl
def z6i (ks:List ByteArray)(p:Xa):List ByteArray:=bif has p.q_ ks then ks else ks++[p.q_]
theorem zp8 {n:Nat}(hn:64<n):∀ (l:List Xa) (ks:List ByteArray),zbr n l ks=some (bif l.all z74 then some (l.foldl z6i ks) else none)
 | [],ks=>rfl
 | p::l,ks=>by
  unfold zbr;have e:zjk n p=some (z74 p):=zy9 p hn;rw [e];simp only [Option.bind_some,List.all_cons,foldl_cons];cases z74 p with
  | false=>rfl
  | true =>simp only [cond_true,Bool.true_and];exact zp8 hn l _
theorem ybb (s:ByteArray)(ks:List ByteArray)(p:Xa):has s (z6i ks p)=(has s ks||p.q_==s):=by
 unfold z6i;cases h:has p.q_ ks with
 | false=>simp [has]
 | true =>
  simp only [cond_true];cases hq:p.q_==s with
  | false=>simp
  | true =>rw [zr9] at hq;subst hq;simp [h]
theorem zmb {x:List Xa}{k:Nat}(h:k<x.length):(x.take (k+1)).foldl z6i []=z6i ((x.take k).foldl z6i []) x[k]:=by rw [List.take_succ_eq_append_getElem h,List.foldl_append];rfl
theorem zpb {x:List Xa}(s:ByteArray):∀ k,k<=x.length->has s ((x.take k).foldl z6i [])=(x.take k).any (λp=>p.q_==s)
 | 0,_=>by simp [has]
 | k+1,h=>by rw [zmb (by omega),ybb,zpb s k (by omega),List.take_succ_eq_append_getElem (by omega),List.any_append];simp only [any_cons,List.any_nil,Bool.or_false]
def z4v (x:List Xa)(k:Nat):Bool:=match x[k]? with | some p=>!((x.take k).any λq=>q.q_==p.q_) | none=>true
theorem zpl {x:List Xa}:∀ k,k<=x.length->((x.take k).foldl z6i []).length=(range k).countP (z4v x)
 | 0,_=>by simp
 | k+1,h=>by
  have hk:k<x.length:=by omega
  rw [zmb hk,List.range_succ,List.countP_append,<- zpl k (by omega)]
  have e:z4v x k = !(has x[k].q_ ((x.take k).foldl z6i [])):=by unfold z4v;rw [getElem?_eq_getElem hk,zpb _ k (by omega)]
  have e2:z6i ((x.take k).foldl z6i []) x[k]=bif has x[k].q_ ((x.take k).foldl z6i []) then (x.take k).foldl z6i [] else (x.take k).foldl z6i []++[x[k].q_]:=rfl;rw [e2];cases hh:has x[k].q_ ((x.take k).foldl z6i []) with | true=>rw [hh] at e;simp [List.countP_cons,e] | false=>rw [hh] at e;simp [List.countP_cons,e]
theorem ycj (x:List Xa):decide (((x.foldl z6i []).length:Int)<(x.length:Int)) = !((range x.length).all (z4v x)):=by
 have h:=zpl (x:=x) x.length (Nat.le_refl _);rw [List.take_length] at h;rw [h];have hle:=List.countP_le_length (p:=z4v x) (l:=range x.length);simp only [length_range] at hle;cases ha:(range x.length).all (z4v x) with
 | true =>have:(range x.length).countP (z4v x)=(range x.length).length:=List.countP_eq_length.2 (all_eq_true.1 ha);rw [this];simp
 | false =>
  have:(range x.length).countP (z4v x)≠(range x.length).length:=λe=>by have:=List.countP_eq_length.1 e;have:(range x.length).all (z4v x)=true:=all_eq_true.2 this;rw [ha] at this;cases this
  simp only [length_range] at this;simp only [Bool.not_false,decide_eq_true_eq];omega
def fnd (x:List Xa)(s:ByteArray):Int×Bool:=match x.findIdx? (λp=>p.q_==s) with | none=>(0,false) | some i=>((i:Int),true)
theorem ydz {n:Nat}{x:List Xa}{s:ByteArray}(h:x.length<n)(h2:x.length<1000000):f56 n (x,s)=some (fnd x s):=by
 have hit:zl (zom n (x,s) ()) n 0=some (match x.findIdx? (λp=>!(!(p.q_==s))) with | none=>.out (x.length:Int) | some i=>.ret (i:Int)):=by
  refine zpe (p:=λp=>!(p.q_==s)) (λk=>(k:Int)) (λk=>(k:Int)) (λk hk=>?_) ?_ h
  ·rw [zm2];have e1:decide ((k:Int)<(x.length:Int))=true:=by simp;omega
   dsimp only;rw [e1,z2a hk];simp only [cond_true,Option.bind_some,z22 (show k<4611686018427387904 by omega)];cases x[k].q_==s<;>rfl
  ·rw [zm2];simp
 rw [ydy,hit];unfold fnd;simp only [Bool.not_not];cases x.findIdx? (λp=>p.q_==s)<;>rfl
theorem y5r {x:List Xa}{k:Nat}(hk:k<x.length):(fnd x x[k].q_).1=(k:Int)↔z4v x k=true:=by
 unfold z4v fnd;rw [getElem?_eq_getElem hk];simp only [not_eq_true'];cases hf:x.findIdx? (λp=>p.q_==x[k].q_) with
 | none =>rw [List.findIdx?_eq_none_iff] at hf;have:=hf x[k] (getElem_mem hk);rw [z8a] at this;cases this
 | some i =>
  obtain ⟨hi,h1,h2⟩:=List.findIdx?_eq_some_iff_getElem.1 hf;simp only;constructor
  ·intro e;have e:i=k:=by omega
   subst e;rw [Bool.eq_false_iff];intro ha;obtain ⟨q,hq,hq2⟩:=any_eq_true.1 ha;obtain ⟨j,hj,rfl⟩:=List.getElem_of_mem hq;simp only [List.length_take] at hj;have:=h2 j (by omega);rw [List.getElem_take] at hq2;rw [hq2] at this;simp at this
  ·intro ha;by_cases hik:i<k
   ·exfalso
    have:(x.take k).any (λq=>q.q_==x[k].q_)=true:=by rw [any_eq_true];exact ⟨x[i],List.mem_take_iff_getElem.2 ⟨i,by omega,rfl⟩,h1⟩
    rw [ha] at this;cases this
   ·by_cases hki:k<i
    ·exfalso;have:=h2 k hki;rw [z8a] at this;simp at this
    ·omega
def zl0 (p:Xa):Int:=bif z74 p then (bif p.j_==2 then i64.wrap (2 * p.r_) else p.r_) else 0
theorem yea {n:Nat}(p:Xa)(hn:64<n):f62 n p=some (zl0 p):=by rw [ye9,zy9 _ hn];unfold zl0;simp only [Option.bind_some];cases z74 p<;>cases (p.j_==2)<;>rfl
theorem yee {n:Nat}(p:Xa)(hn:64<n):f64 n p=some (zl0 p):=by rw [yed,zyb _ hn];unfold zl0;simp only [Option.bind_some];cases z74 p<;>cases (p.j_==2)<;>rfl
def z6f (x:List Xa)(k:Nat):Int:=(x.take k).foldl (λs p=>i64.wrap (s+zl0 p)) 0
theorem zqm {x:List Xa}{k:Nat}(h:k<x.length):z6f x (k+1)=i64.wrap (z6f x k+zl0 x[k]):=by unfold z6f;rw [List.take_succ_eq_append_getElem h,List.foldl_append];rfl
theorem ydp {n:Nat}{x:List Xa}(hn:64<n)(hl:x.length<=64):f49 n x=some (z6f x x.length):=by
 have hit:zl (zoj n x ()) n (0,0)=some (.out (z6f x x.length,(x.length:Int))):=by
  refine z3m (L:=x.length) (λk=>(z6f x k,(k:Int))) (λk hk=>?_) ?_ x.length 0 n (by omega) (by omega)
  ·rw [zlz];have e1:decide ((k:Int)<(x.length:Int))=true:=by simp;omega
   dsimp only;rw [e1,z2a hk];simp only [cond_true,Option.bind_some,yea _ hn,z22 (show k<4611686018427387904 by omega),zqm hk]
  ·rw [zlz];simp
 rw [ydo,hit];rfl
theorem ye1 {n:Nat}{x:List Xa}(hn:64<n)(hl:x.length<=64):f57 n x=some (z6f x x.length):=by
 have hit:zl (zon n x ()) n (0,0)=some (.out (z6f x x.length,(x.length:Int))):=by
  refine z3m (L:=x.length) (λk=>(z6f x k,(k:Int))) (λk hk=>?_) ?_ x.length 0 n (by omega) (by omega)
  ·rw [zm3];have e1:decide ((k:Int)<(x.length:Int))=true:=by simp;omega
   dsimp only;rw [e1,z2a hk];simp only [cond_true,Option.bind_some,yee _ hn,z22 (show k<4611686018427387904 by omega),zqm hk]
  ·rw [zm3];simp
 rw [ye0,hit];rfl
def sgn (x:List Xa):Int:=bif decide ((x.length:Int) > 64) then 2 else bif x.all z74 then (bif (range x.length).all (z4v x) then (bif decide (z6f x x.length > 65536) then 102 else 0) else 101) else 100
theorem yd3 {n:Nat}(x:List Xa)(hn:64<n):f28 n x=some (sgn x):=by
 show g28 n x=_;unfold g28 sgn;simp only [length_map];cases hl:decide ((x.length:Int) > 64) with
 | true=>rfl
 | false =>
  have hl':x.length<=64:=by simp only [decide_eq_false_iff_not] at hl;omega
  rw [zp8 hn];cases x.all z74 with
  | false=>rfl
  | true =>have e:y0s n x=some (z6f x x.length):=ydp hn hl';simp only [cond_false,cond_true,Option.bind_some,z9v,length_map,ycj,e];cases (range x.length).all (z4v x)<;>cases decide (z6f x x.length > 65536)<;>rfl
theorem ydg {n:Nat}(x:List Xa)(hn:64<n):f38 n x=some (sgn x):=by
 rw [ydf];unfold sgn;cases hl:decide ((x.length:Int) > 64) with
 | true=>rfl
 | false =>
  have hl':x.length<=64:=by simp only [decide_eq_false_iff_not] at hl;omega
  have h1:zl (zog n x ()) n 0=some (bif x.all z74 then .out (x.length:Int) else .ret ()):=by
   refine z51 (λk hk=>?_) ?_ (by omega)
   ·rw [zlw];have e1:decide ((k:Int)<(x.length:Int))=true:=by simp;omega
    rw [e1,z2a hk];simp only [cond_true,Option.bind_some,zyb _ hn,z22 (show k<4611686018427387904 by omega)];cases z74 x[k]<;>rfl
   ·rw [zlw];simp
  have h2:zl (zoh n x ()) n 0=some (bif (range x.length).all (z4v x) then .out (x.length:Int) else .ret ()):=by
   refine z51 (l:=range x.length) (λk hk=>?_) ?_ (by simp;omega)
   ·simp only [length_range] at hk;rw [zlx];have e1:decide ((k:Int)<(x.length:Int))=true:=by simp;omega
    rw [e1,z2a hk];simp only [cond_true,Option.bind_some,ydz (n:=n) (x:=x) (s:=x[k].q_) (by omega) (by omega),z22 (show k<4611686018427387904 by omega),List.getElem_range];have:=y5r hk;cases hq:z4v x k with
    | true =>have e:=this.2 hq;rw [e];simp
    | false =>
     have e:(fnd x x[k].q_).1≠(k:Int):=λe=>by have:=this.1 e;rw [hq] at this;cases this
     have e2:((fnd x x[k].q_).1 != (k:Int))=true:=by simpa using e
     rw [e2];rfl
   ·rw [length_range,zlx];simp
  rw [h1];simp only [cond_false];cases x.all z74 with
  | false=>rfl
  | true =>
   simp only [cond_true,Option.bind_some,Bo.then];rw [h2];cases (range x.length).all (z4v x) with
   | false=>rfl
   | true =>simp only [cond_true,Option.bind_some,Bo.then,ye1 hn hl'];cases decide (z6f x x.length > 65536)<;>rfl
theorem zgh (a:Int):(a==a)=true:=by simp
theorem y4x (a:Bool):(a==a)=true:=by simp
structure zdf (a:Xe):Prop where
 s:a.f_.length * 32<=140737488355328
 r:a.a_.length * 16<=140737488355328
 l:a.e_.length * 32<=140737488355328
 i:a.d_.length * 56<=140737488355328
def goR (c:Xe):List Xd->Nat->List Bool->List Xi->Nat⊕(List Bool×List Xi)
 | [],_,set,o=>.inr (set,o)
 | i::l,k,set,o=>bif z1k c i set o then goR c l (k+1) (z1y i set o).1 (z1y i set o).2 else .inl k
section
variable {c:Xe}
theorem y7c {m m':Nat}{x:Xe}(hr:∀ t∈c.a_,z37 c.f_ t=true)(hR:c.a_.length<=1000000)(hL:c.d_.length<1000000)(hm:c.d_.length<m)(hb:∀ i∈c.d_,0<=i.m_/\i.m_<4294967296) :
  ∀ (j k f f':Nat) (set:List Bool) (news:List (List Int)) (op:List Int) (o:List Xi),k+j=c.d_.length->j<f->j<f'->Two c k set news op o ->
   ∃ news' op',(∀ r,goR c (c.d_.drop k) k set o = .inr r->op'.length=r.2.length) /\
    zl (zfi (m+5) x (c.d_,(c.d_.length:Int),c.f_,c.a_,c.e_)) f ((k:Int),c.f_,c.a_,c.e_,c.d_,set,news,op)=some (match goR c (c.d_.drop k) k set o with | .inl k'=>.ret (k':Int) | .inr r=>.out ((c.d_.length:Int),c.f_,c.a_,c.e_,c.d_,r.1,news',op')) /\
    zl (zfj (m'+4) c ()) f' ((k:Int),set,o)=some (match goR c (c.d_.drop k) k set o with | .inl k'=>.ret (k':Int) | .inr r=>.out ((c.d_.length:Int),r.1,r.2))
 | 0,k,f+1,f'+1,set,news,op,o,hk,_,_,h=>by
  obtain rfl:k=c.d_.length:=by omega
  rw [drop_length];refine ⟨news,op,λr hr=>?_,?_,?_⟩
  ·cases hr;rw [h.op];simp
  ·unfold zl;rw [zlk];simp [goR]
  ·unfold zl;rw [zlo];simp [goR]
 | j+1,k,f+1,f'+1,set,news,op,o,hk,hf,hf',h=>by
  have hkl:k<c.d_.length:=by omega
  obtain ⟨b0,b1⟩:=hb _ (getElem_mem hkl);have e1:decide ((k:Int)<(c.d_.length:Int))=true:=by simp;omega
  have s1:=y5b (m:=m) (x:=x) (v:=(c.d_,(c.d_.length:Int),c.f_,c.a_,c.e_)) h (by omega) (by omega) hr b0 b1 (by omega) e1 (z2a hkl);have s2:=y5d (m:=m') h hr hR b0 b1 (by omega) hkl (z2a hkl)
  have e2:z1k c c.d_[k] set o=okI c c.d_[k] set op:=by unfold z1k okI;rw [h.place];cases z29 c c.d_[k]<;>cases z2k set c.d_[k]<;>cases z5d c.d_[k] o<;>simp
  rw [drop_eq_getElem_cons hkl];have eg:goR c (c.d_[k]::c.d_.drop (k+1)) k set o=bif z1k c c.d_[k] set o then goR c (c.d_.drop (k+1)) (k+1) (z1y c.d_[k] set o).1 (z1y c.d_[k] set o).2 else .inl k:=rfl;rw [eg];rw [e2] at s2 ⊢;unfold zl;rw [s1,s2];cases hok:okI c c.d_[k] set op with
  | false=>exact ⟨[],[],λr hr=>(by cases hr),rfl,rfl⟩
  | true =>
   obtain ⟨q1,q2⟩:=h.next hok;simp only [cond_true];have e3:z1y c.d_[k] set o=((zby c.d_[k] set news op).1,(z1y c.d_[k] set o).2):=by rw [<- q1]
   rw [e3];exact y7c hr hR hL hm hb j (k+1) f f' _ _ _ _ (by omega) (by omega) (by omega) q2
end
def chk (c:Xe):Int×Int :=
 bif sgn c.f_ != 0 then (sgn c.f_,-1) else bif (decide ((c.a_.length:Int) > 16384)||decide ((c.d_.length:Int) > 32768)) then (181,-1) else bif decide ((c.e_.length:Int) > 4096) then (180,-1) else
 bif c.a_.all (z37 c.f_) then (bif c.e_.all (z75 c.f_) then (match goR c c.d_ 0 (replicate c.a_.length false) [] with | .inl k=>(160,(k:Int)) | .inr r=>bif decide ((r.2.length:Int) > 0) then (160,(c.d_.length:Int)) else (0,0)) else (160,-1)) else (160,-1)
theorem y52 {n:Nat}{c:Xe}(hn:100000<n)(hs:∀ s∈c.e_,0<=s.m_/\s.m_<4294967296)(hb:∀ i∈c.d_,0<=i.m_/\i.m_<4294967296):f16 n c=some (chk c)/\f21 n c=some (chk c):=by
 unfold chk;obtain ⟨m,rfl⟩:∃ m,n=m+5:=⟨n - 5,by omega⟩
 rw [ycu,ycz,yd3 _ (by omega),ydg _ (by omega)];simp only [Option.bind_some];cases sgn c.f_ != 0 with
 | true=>exact ⟨rfl,rfl⟩
 | false =>
  have hB:∀ {R:Type},(bif (decide ((c.a_.length:Int) > 16384)) then some (Sum.inl true) else some (.inl (decide ((c.d_.length:Int) > 32768))):Option (Bool⊕R))=some (.inl (decide ((c.a_.length:Int) > 16384)||decide ((c.d_.length:Int) > 32768))):=by intro R;cases decide ((c.a_.length:Int) > 16384)<;>rfl
  simp only [cond_false];rw [hB,Option.bind_some,orRet_inl];cases hz:(decide ((c.a_.length:Int) > 16384)||decide ((c.d_.length:Int) > 32768)) with
  | true=>exact ⟨rfl,rfl⟩
  | false =>
   simp only [or_eq_false_iff,decide_eq_false_iff_not] at hz;simp only [cond_false];cases hy:decide ((c.e_.length:Int) > 4096) with
   | true=>exact ⟨rfl,rfl⟩
   | false =>
    simp only [decide_eq_false_iff_not] at hy;simp only [cond_false];rw [yd5 (by omega) (by omega),y5c (by omega) (by omega)];cases hr:c.a_.all (z37 c.f_) with
    | false=>exact ⟨rfl,rfl⟩
    | true =>
     have hr':∀ t∈c.a_,z37 c.f_ t=true:=all_eq_true.1 hr;simp only [Option.bind_some,Bool.not_true,cond_false,cond_true,Bo.then];rw [yd9 (by omega) (by omega) hs,zy3 (by omega) (by omega) hs];cases c.e_.all (z75 c.f_) with
     | false=>exact ⟨rfl,rfl⟩
     | true =>
      simp only [Option.bind_some,orRet_inl,Bool.not_true,cond_false,cond_true,Bo.then];rw [zo (by omega),yaa (by omega) (by omega)];simp only [Option.bind_some,Bo.then];have h0:Two c 0 (replicate c.a_.length false) [] [] []:=⟨by simp,rfl,by simp,λx hx=>(by cases hx),trivial⟩
      have hset:replicate ((c.a_.length:Int)).toNat false=replicate c.a_.length false:=by rw [Int.toNat_natCast]
      rw [hset];obtain ⟨news',op',q0,q1,q2⟩:=y7c (m:=m) (m':=m+1) (x:=c) hr' (by omega) (by omega) (by omega) hb c.d_.length 0 (m+5) (m+5) _ _ _ _ (by omega) (by omega) (by omega) h0;rw [drop_zero] at q0 q1 q2;have q1:zl (zfi (m+5) c (c.d_,(c.d_.length:Int),c.f_,c.a_,c.e_)) (m+5) (0,c.f_,c.a_,c.e_,c.d_,replicate c.a_.length false,[],[])=_:=q1;have q2:zl (zfj (m+5) c ()) (m+5) (0,replicate c.a_.length false,[])=_:=q2;rw [q1,q2];cases hg:goR c c.d_ 0 (replicate c.a_.length false) [] with
      | inl k=>exact ⟨rfl,rfl⟩
      | inr r =>have:=q0 r hg;simp only [Option.bind_some,Bo.then,this];cases decide ((r.2.length:Int) > 0)<;>exact ⟨rfl,rfl⟩
def zc5 (d:Nat)(s t:List Bool):Prop:=s.length=t.length/\∀ j,j≠d->s[j]?=t[j]?
inductive z85 (d:Nat):List Xi->List Xi->Prop
 | nil:z85 d [] []
 | snoc {o p:List Xi} {x y:Xi}:z85 d o p->x.c_=y.c_->x.n_=y.n_->zc5 d x.G_ y.G_->z85 d (o++[x]) (p++[y])
theorem z85.inv {d:Nat}{o p:List Xi}(h:z85 d o p):(o=[]/\p=[])\/∃ o' p' x y,o=o'++[x]/\p=p'++[y]/\z85 d o' p'/\x.c_=y.c_/\x.n_=y.n_/\zc5 d x.G_ y.G_:=by cases h with | nil=>exact .inl ⟨rfl,rfl⟩ | snoc h1 h2 h3 h4=>exact .inr ⟨_,_,_,_,rfl,rfl,h1,h2,h3,h4⟩
theorem z85.len {d:Nat}{o p:List Xi}(h:z85 d o p):o.length=p.length:=by
 induction h with | nil=>rfl | snoc _ _ _ _ ih=>simp [ih]
theorem zc5.refl (d:Nat)(s:List Bool):zc5 d s s:=⟨rfl,λ_ _=>rfl⟩
theorem z85.refl (d:Nat)(o:List Xi):z85 d o o:=by
 have:∀ (n:Nat) (o:List Xi),o.length=n->z85 d o o:=by
  intro n
  induction n with
  | zero=>intro o h;rw [List.eq_nil_of_length_eq_zero h];exact .nil
  | succ n ih =>intro o h;obtain ⟨x,x1,_⟩:=z73 o (by omega);rw [zjs x1];exact .snoc (ih _ (by simp;omega)) rfl rfl (zc5.refl d _)
 exact this _ o rfl
theorem zc5.set {d:Nat}{s t:List Bool}(h:zc5 d s t)(j:Nat)(b:Bool):zc5 d (s.set j b) (t.set j b):=by refine ⟨by simp [h.1],λk hk=>?_⟩;rw [getElem?_set,getElem?_set,h.1,h.2 k hk]
abbrev z28 (c:Xe):List Bool:=replicate c.a_.length false
theorem zfe {c:Xe}(h:(chk c).1=0):(sgn c.f_ != 0)=false/\decide ((c.a_.length:Int) > 16384)=false/\decide ((c.d_.length:Int) > 32768)=false/\decide ((c.e_.length:Int) > 4096)=false/\c.a_.all (z37 c.f_)=true/\c.e_.all (z75 c.f_)=true /\
  ∃ r,goR c c.d_ 0 (z28 c) [] = .inr r/\r.2=[]:=by
 unfold chk at h;cases h1:sgn c.f_ != 0 with
 | true =>rw [h1] at h;have h:sgn c.f_=0:=h;rw [h] at h1;cases h1
 | false =>
  rw [h1] at h;cases h2:decide ((c.a_.length:Int) > 16384) with
  | true=>rw [h2] at h;exact absurd (show (181:Int)=0 from h) (by decide)
  | false =>
   cases h3:decide ((c.d_.length:Int) > 32768) with
   | true=>rw [h2,h3] at h;exact absurd (show (181:Int)=0 from h) (by decide)
   | false =>
    rw [h2,h3] at h;cases h4:decide ((c.e_.length:Int) > 4096) with
    | true=>rw [h4] at h;exact absurd (show (180:Int)=0 from h) (by decide)
    | false =>
     rw [h4] at h;cases h5:c.a_.all (z37 c.f_) with
     | false=>rw [h5] at h;exact absurd (show (160:Int)=0 from h) (by decide)
     | true =>
      rw [h5] at h;cases h6:c.e_.all (z75 c.f_) with
      | false=>rw [h6] at h;exact absurd (show (160:Int)=0 from h) (by decide)
      | true =>
       rw [h6] at h;refine ⟨rfl,rfl,rfl,rfl,rfl,rfl,?_⟩;simp only [Bool.or_self,cond_false,cond_true] at h;cases h7:goR c c.d_ 0 (z28 c) [] with
       | inl k=>rw [h7] at h;exact absurd h (by simp)
       | inr r =>
        rw [h7] at h;refine ⟨r,rfl,?_⟩;cases h8:decide ((r.2.length:Int) > 0) with
        | true=>simp only [h8,cond_true] at h;exact absurd h (by simp)
        | false =>simp only [decide_eq_false_iff_not] at h8;exact List.eq_nil_of_length_eq_zero (by omega)
theorem zp9 (c:Xe)(l':List Xd):∀ (l:List Xd) (k:Nat) (s:List Bool) (o:List Xi),goR ⟨c.f_,c.a_,c.e_,l'⟩ l k s o=goR c l k s o
 | [],_,_,_=>rfl
 | i::l,k,s,o=>by simp only [goR];have e:z1k ⟨c.f_,c.a_,c.e_,l'⟩ i s o=z1k c i s o:=rfl;rw [e,zp9 c l' l]
theorem ycb {c:Xe}(h:(chk c).1=0)(l:List Xd)(hl:l.length<=32768):chk ⟨c.f_,c.a_,c.e_,l⟩=match goR c l 0 (z28 c) [] with | .inl k=>(160,(k:Int)) | .inr r=>bif decide ((r.2.length:Int) > 0) then (160,(l.length:Int)) else (0,0):=by
 obtain ⟨h1,h2,h3,h4,h5,h6,_⟩:=zfe h;have h3':decide ((l.length:Int) > 32768)=false:=by simp;omega
 unfold chk;dsimp only;rw [h1,h2,h3',h4,h5,h6,zp9];rfl
theorem zxi {x:Int}(h0 : -1000000<=x)(h1:x<=1000000):i64.wrap x=x:=zh8 (by omega) (by omega)
theorem ze6 (c:Xe):∀ (l:List Xd) (k:Nat) (s:List Bool) (o:List Xi) (r:List Bool×List Xi),goR c l k s o = .inr r->∀ i∈l,z29 c i=true
 | [],_,_,_,_,_,i,hi=>by cases hi
 | j::l,k,s,o,r,h,i,hi=>by
  simp only [goR] at h;cases hs:z1k c j s o with
  | false=>rw [hs] at h;cases h
  | true =>
   rw [hs,cond_true] at h;rcases List.mem_cons.1 hi with rfl | hi
   ·unfold z1k at hs;simp only [and_eq_true] at hs;exact hs.1
   ·exact ze6 c l _ _ _ r h i hi
section
variable {P:Program}{T:TT}{pro:List Nat}{R S A V:Type}{Q:R->Prop}
end
section
variable {c d:Xe}{i:Xd}
theorem z7a {c:Xe}{i:Xd}(h:z29 c i=true)(ho:z10 i=true):∃ t,idx c.a_ i.D_=some t/\t∈c.a_:=by
 unfold z29 at h;unfold z10 at ho;split at h
 ·cases h
 ·rename_i r hr;rw [hr] at ho;simp only [and_eq_true] at h;obtain ⟨t,ht⟩:=z60 h.1 (by simpa using ho);exact ⟨t,ht,(z6c ht).1⟩
def y3u (i:Xd):Bool:=match z4q i.c_ with | some r=>!(r.a==0) | none=>false
theorem y6l (i:Xd):(onD i=true->z10 i=true)/\(onA i=true->y3u i=true):=by
 obtain ⟨op,d,a,b,cc,N,bits⟩:=i;rcases z5c op with (rfl | rfl | rfl | rfl | rfl | rfl | rfl | rfl | rfl | rfl | rfl | rfl | rfl | rfl | rfl | rfl | rfl | rfl | rfl | rfl | rfl | rfl | rfl | rfl | rfl | rfl | rfl | rfl | rfl | rfl | rfl | rfl | rfl | rfl | rfl | rfl | rfl) | h
 iterate 37 (· simp [onD,onA,z6z,z10,y3u,z4q])
 have he:z6z op=false:=by
  cases he:z6z op with
  | false=>rfl
  | true =>
   exfalso;unfold z6z at he
   have:3<=op/\op<=15:=by
    by_cases q:op>=3
    ·simp [q] at he;omega
    ·simp [q] at he
   have:=h op (by omega) (by omega);simp at this
 simp only [onD,onA,he,h 29 (by decide) (by decide),h 30 (by decide) (by decide),h 31 (by decide) (by decide),h 32 (by decide) (by decide),h 33 (by decide) (by decide)];constructor<;>intro h<;>cases h
end
theorem zoa {n:Nat}{c:Xe}(h1:c.f_.length<n)(h2:c.a_.length<n)(h3:c.e_.length<n)(h4:c.d_.length<n)
  (k1:c.f_.length<4611686018427387904) (k2:c.a_.length<4611686018427387904) (k3:c.e_.length<4611686018427387904) (k4:c.d_.length<4611686018427387904):f23 n (c,c)=some true:=by
 have i1:zl (zo6 n (c,c) ()) n 0=some (.out (c.f_.length:Int)):=by
  refine z3m (L:=c.f_.length) (λk=>(k:Int)) (λk hk=>?_) ?_ c.f_.length 0 n (by omega) h1
  ·rw [zlp];have e1:decide ((k:Int)<(c.f_.length:Int))=true:=by simp;omega
   dsimp only;rw [e1,z2a hk];simp only [cond_true,Option.bind_some,z22 (show k<4611686018427387904 by omega),zgh,z8a,Bool.and_self,Bool.not_true,cond_false]
  ·rw [zlp];simp
 have i2:zl (zo7 n (c,c) ()) n 0=some (.out (c.a_.length:Int)):=by
  refine z3m (L:=c.a_.length) (λk=>(k:Int)) (λk hk=>?_) ?_ c.a_.length 0 n (by omega) h2
  ·rw [zlq];have e1:decide ((k:Int)<(c.a_.length:Int))=true:=by simp;omega
   dsimp only;rw [e1,z2a hk];simp only [cond_true,Option.bind_some,z22 (show k<4611686018427387904 by omega),zgh,z8a,Bool.and_self,Bool.not_true,cond_false]
  ·rw [zlq];simp
 have i3:zl (zo8 n (c,c) ()) n 0=some (.out (c.e_.length:Int)):=by
  refine z3m (L:=c.e_.length) (λk=>(k:Int)) (λk hk=>?_) ?_ c.e_.length 0 n (by omega) h3
  ·rw [zlr];have e1:decide ((k:Int)<(c.e_.length:Int))=true:=by simp;omega
   dsimp only;rw [e1,z2a hk];simp only [cond_true,Option.bind_some,z22 (show k<4611686018427387904 by omega),zgh,y4x,z8a,Bool.and_self,Bool.not_true,cond_false]
  ·rw [zlr];simp
 have i4:zl (zo9 n (c,c) ()) n 0=some (.out (c.d_.length:Int)):=by
  refine z3m (L:=c.d_.length) (λk=>(k:Int)) (λk hk=>?_) ?_ c.d_.length 0 n (by omega) h4
  ·rw [zls];have e1:decide ((k:Int)<(c.d_.length:Int))=true:=by simp;omega
   dsimp only;rw [e1,z2a hk];simp only [cond_true,Option.bind_some,z22 (show k<4611686018427387904 by omega),zgh,z8a,Bool.and_self,Bool.not_true,cond_false]
  ·rw [zls];simp
 rw [yd0,i1,i2,i3,i4];simp [bne,Bo.then]
def yn8 (l:List Xa)(t:Xb):Int:=bif t.j_ != 3 then 1 else match idx l t.n_ with | some p=>p.r_ | none=>0
def zxl (c:Xe)(t:Xb)(x:List Int):Prop:=(t.j_=2/\x.length<=4096)\/((x.length:Nat):Int)=yn8 c.f_ t
structure zxn (c:Xe) (set:List Bool) (R:List Xj):Prop where
 len:R.length=c.a_.length
 ok:∀ (j:Nat) (t:Xb) (x:Xj),c.a_[j]?=some t->R[j]?=some x->(set[j]?).getD false=true->zxl c t x.y_
theorem y7b {α:Type}{l:List α}{k:Int}(h:0<=k/\k<l.length):∃ y,idx l k=some y/\l[k.toNat]?=some y:=by
 obtain ⟨j,rfl⟩:∃ j:Nat,k=j:=⟨k.toNat,by omega⟩
 have hj:j<l.length:=by omega
 exact ⟨l[j],z2a hj,by rw [Int.toNat_natCast];exact getElem?_eq_getElem hj⟩
theorem y3b {α:Type}{l:List α}{k:Int}{t:α}(h:idx l k=some t):0<=k/\k<l.length/\l[k.toNat]?=some t:=by
 by_cases hk:0<=k/\k<l.length
 ·obtain ⟨y,h1,h2⟩:=y7b hk;rw [h1] at h;cases h;exact ⟨hk.1,hk.2,h2⟩
 ·rw [z2s (by omega)] at h;cases h
theorem y9p {i:Xd}{set:List Bool}{k:Int}(h:z2k set i=true)(hk:k∈z13 i):(set[k.toNat]?).getD false=true:=by unfold z2k at h;exact all_eq_true.1 h k hk
def z7y (c:Xe)(k:Int):Xb:=(idx c.a_ k).getD ty0
abbrev zkj (c:Xe):Prop:=(∀ s∈c.e_,0<=s.m_/\s.m_<4294967296)/\∀ i∈c.d_,0<=i.m_/\i.m_<4294967296
theorem zva {n:Nat}{c:Xe}(h:zdf c):zkr n c=some (c.f_,c.a_,c.e_,c.d_):=by rw [ya8,zo h.s,zo h.r,zo h.l,zo h.i]
structure y9z (c:Xe) (S:List Xj):Prop where
 len:S.length=c.e_.length
 ok:∀ (j:Nat) (z:Xc) (x:Xj),c.e_[j]?=some z->S[j]?=some x->zxl c z.s_ x.y_
structure yks (c:Xe) (O:List (List Int)):Prop where
 len:O.length=2 * c.f_.length
 ok:∀ (j:Nat) (p:Xa) (e:Nat) (l:List Int),c.f_[j]?=some p->e<2->O[2 * j+e]?=some l->((l.length:Nat):Int)=p.r_
section
variable {c:Xe}
end
abbrev Ten:Type:=(List Xa)×(List Xb)×(List Xc)×(List Xd)×(List Xj)×(List Xj)×(List (List Int))×(List (List Int))×(List (List Int))×Int
section
variable {P:Program}{T:TT}{pro:List Nat}{R R' S A V:Type}{g:R->R'}
end
noncomputable def dn (n:Nat)(c:Xe)(G P:List (List Int))(i:Xd)(R S:List Xj)(O:List (List Int)):Option Ten :=
 (y68 n).G ((⟨⟨c.f_,c.a_,c.e_,[]⟩,R,S,O,G,P,0⟩:Xl),i)
section
variable {n:Nat}{c:Xe}
end
def z2y (o:List Xi):List Xi:=o.filter λx=>!(x.c_==36)
theorem zam (a b:List Xi):z2y (a++b)=z2y a++z2y b:=by unfold z2y;rw [filter_append]
theorem z34 (o:List Xi)(x:Xi):z1i (o++[x])=(x.c_==36)/\z5v (o++[x])=x.n_:=by unfold z1i z5v;simp
theorem zhz (c:Xe)(i:Xd)(l:List Xd)(k:Nat)(s:List Bool)(o:List Xi):goR c (i::l) k s o=bif z1k c i s o then goR c l (k+1) (z1y i s o).1 (z1y i s o).2 else .inl k:=rfl
section
variable {c:Xe}
end
abbrev MSt:Type:=Int×List Xj×List Xj×List (List Int)
section
variable {n:Nat}{c:Xe}{G P:List (List Int)}
structure Inv (c:Xe) (set:List Bool) (o:List Xi) (m:MSt):Prop where
 skip:0<=m.1
 regs:m.1=0->zxn c set m.2.1
 opens:∀ (j:Nat) (x:Xi),(z2y o)[j]?=some x->(j:Int)+m.1<=(z2y o).length->zxn c x.G_ m.2.1
 slots:y9z c m.2.2.1
 out:yks c m.2.2.2
end
section
variable {P:Program}{T:TT}{pro:List Nat}{R S A V:Type}{Q:R->Prop}
end
section
variable {n:Nat}{c:Xe}{G P:List (List Int)}
end
section
variable {n:Nat}{c:Xe}
end
section
variable {n:Nat}{c:Xe}
end
section
variable {n:Nat}{c:Xe}
end
def zcw (a:Xe):Nat:=a.f_.length+a.a_.length+a.e_.length+a.d_.length+200001
theorem zx7 {α R:Type}(v:α){body:Int×List α->Option (Bo (Int×List α) (Int×List α) R)}{n:Nat}{l:List α}(hl:l.length<4000000000000000000)(hn:l.length<n)
  (hb:∀ q,body q=bif decide (q.1<(q.2.length:Int)) then need (0<=q.1/\q.1<(q.2.length:Int)) ((q.2[q.1.toNat]?).bind λ_=>some (.go (i64.wrap (q.1+1),q.2.set q.1.toNat v))) else some (.out (q.1,q.2))) :
  zl body n (0,l)=some (.out ((l.length:Int),replicate l.length v)):=by
 have:=z3m (L:=l.length) (body:=body) (λk=>((k:Int),replicate k v++l.drop k)) (λk hk=>?_) (y:=((l.length:Int),replicate l.length v)) ?_ l.length 0 n (by omega) hn
 ·simpa using this
 ·rw [hb];have el:(replicate k v++l.drop k).length=l.length:=by simp;omega
  have e1:decide ((k:Int)<(l.length:Int))=true:=by simp;omega
  have eg:(replicate k v++l.drop k)[k]?=some l[k]:=by rw [List.getElem?_append_right (by simp),List.length_replicate,Nat.sub_self,List.getElem?_drop];simp [hk]
  simp only [el,e1,cond_true,Int.toNat_natCast,eg,Option.bind_some];rw [zo (by omega),z22 (by omega),List.set_append_right _ _ (by simp),List.length_replicate,Nat.sub_self,drop_eq_getElem_cons hk,List.set_cons_zero,List.replicate_succ',List.append_assoc];rfl
 ·rw [hb];simp
theorem y5f {n:Nat}{c:Xe}(hs:zdf c)(hn:zcw c<=n):f23 n (c,c)=some true:=by obtain ⟨h1,h2,h3,h4⟩:=hs;unfold zcw at hn;exact zoa (by omega) (by omega) (by omega) (by omega) (by omega) (by omega) (by omega) (by omega)
section
variable {n:Nat}{c:Xe}
def z19:List Xd->List Bool->Bool
 | [],_=>true
 | i::l,s=>bif z10 i then (bif (s[i.D_.toNat]?).getD false then false else z19 l (s.set i.D_.toNat true)) else z19 l s
theorem zck {d:Xe}(hL:d.d_.length<=1000000)(hf:∀ i∈d.d_,z29 d i=true):∀ (j k f:Nat) (s:List Bool),k+j=d.d_.length->j<f->s.length=d.a_.length ->
  ∃ b,zl (zgp n d ()) f ((k:Int),s)=some b/\(match b with | .go _=>False | .out _=>z19 (d.d_.drop k) s=true | .ret _=>z19 (d.d_.drop k) s=false)
 | 0,k,f+1,s,hk,_,hs=>by
  obtain rfl:k=d.d_.length:=by omega
  rw [drop_length];unfold zl;rw [zj5];simp only [show decide ((d.d_.length:Int)<(d.d_.length:Int))=false by simp,cond_false];exact ⟨_,rfl,rfl⟩
 | j+1,k,f+1,s,hk,hj,hs=>by
  have hkl:k<d.d_.length:=by omega
  have e1:decide ((k:Int)<(d.d_.length:Int))=true:=by simp;omega
  rw [drop_eq_getElem_cons hkl];unfold zl;rw [zj5];unfold z19;simp only [e1,cond_true,z2a hkl,Option.bind_some,zy2,z22 (show k<4611686018427387904 by omega)];cases hse:z10 d.d_[k] with
  | false =>simp only [Bool.not_false,cond_true,cond_false];exact zck hL hf j (k+1) f s (by omega) (by omega) hs
  | true =>
   obtain ⟨t,ht,_⟩:=z7a (hf _ (getElem_mem hkl)) hse;obtain ⟨a,b,_⟩:=y3b ht;have hD:d.d_[k].D_.toNat<s.length:=by omega
   have eD:s[d.d_[k].D_.toNat]?=some (s[d.d_[k].D_.toNat]'hD):=getElem?_eq_getElem hD;simp only [Bool.not_true,cond_false,cond_true,eD,Option.bind_some,getD_some];rw [zo (by omega),zo (by omega)];cases s[d.d_[k].D_.toNat]'hD with
   | true=>exact ⟨_,rfl,rfl⟩
   | false =>simp only [cond_false];exact zck hL hf j (k+1) f _ (by omega) (by omega) (by rw [length_set];exact hs)
theorem y45 {d:Xe}(hn:100000<n)(hR:d.a_.length<=20000)(hL:d.d_.length<=40000)(hf:∀ i∈d.d_,z29 d i=true):zw1 n d=some (z19 d.d_ (z28 d)):=by
 rw [ya9];have i1:=z3m (L:=d.a_.length) (body:=zgo n d ()) (λk=>((k:Int),replicate k false)) (λk hk=>?_) (y:=((d.a_.length:Int),replicate d.a_.length false)) ?_ d.a_.length 0 n (by omega) (by omega)
 ·have i1:zl (zgo n d ()) n (0,[])=_:=i1;rw [i1];simp only [Option.bind_some,Bo.then];obtain ⟨b,e1,e2⟩:=zck (n:=n) (d:=d) (by omega) hf d.d_.length 0 n (z28 d) (by omega) (by omega) (by simp);have e1:zl (zgp n d ()) n (0,replicate d.a_.length false)=_:=e1;rw [e1];rw [drop_zero] at e2;cases b with
  | go s=>exact e2.elim
  | out y =>have e2:z19 d.d_ (z28 d)=true:=e2;rw [e2];rfl
  | ret z =>have e2:z19 d.d_ (z28 d)=false:=e2;rw [e2];rfl
 ·rw [zj4];have e1:decide ((k:Int)<(d.a_.length:Int))=true:=by simp;omega
  simp only [e1,cond_true];rw [zo (by simp;omega),z22 (by omega),List.replicate_succ']
 ·rw [zj4];simp
end
def nrO (op:Int):Nat:=match z4q op with
 | some r=>bif r.a==0 then 0 else bif r.b==0 then 1 else bif r.c==0 then 2 else 3
 | none=>0
theorem yms (op:Int):nrO op<=3:=by
 unfold nrO;split
 ·rename_i r _;cases r.a==0<;>cases r.b==0<;>cases r.c==0<;>decide
 ·decide
theorem z58 (i:Xd):z13 i=[i.A_,i.B_,i.C_].take (nrO i.c_)/\nrO i.c_<=3:=by
 obtain ⟨op,d,a,b,cc,N,bits⟩:=i;rcases z5c op with (rfl | rfl | rfl | rfl | rfl | rfl | rfl | rfl | rfl | rfl | rfl | rfl | rfl | rfl | rfl | rfl | rfl | rfl | rfl | rfl | rfl | rfl | rfl | rfl | rfl | rfl | rfl | rfl | rfl | rfl | rfl | rfl | rfl | rfl | rfl | rfl | rfl) | h
 iterate 37 (· exact ⟨by kernel_rfl,yms _⟩)
 simp only [z13,nrO,z4i h];exact ⟨rfl,by decide⟩
theorem yjx (i:Xd):(z13 i).length=nrO i.c_:=by obtain ⟨h1,h2⟩:=z58 i;rw [h1,List.length_take];simp;omega
theorem zpt {i:Xd}(h:0<nrO i.c_):i.A_∈z13 i:=by
 rw [(z58 i).1];generalize nrO i.c_=k at *
 match k,h with
 | k+1,_=>simp
theorem y6j {i:Xd}(h:1<nrO i.c_):i.B_∈z13 i:=by
 rw [(z58 i).1];generalize nrO i.c_=k at *
 match k,h with
 | k+2,_=>simp
theorem y6k {i:Xd}(h:2<nrO i.c_):i.C_∈z13 i:=by
 rw [(z58 i).1];generalize nrO i.c_=k at *
 match k,h with
 | k+3,_=>simp
def atR (al:List Int)(k:Int):Int:=(al[k.toNat]?).getD 0
def rdI (al:List Int)(i:Xd):Xd :=
 ⟨i.c_,i.D_,bif Nat.blt 0 (nrO i.c_) then atR al i.A_ else i.A_,bif Nat.blt 1 (nrO i.c_) then atR al i.B_ else i.B_,bif Nat.blt 2 (nrO i.c_) then atR al i.C_ else i.C_,i.N_,i.m_⟩
def InR (R:Nat)(i:Xd):Prop:=∀ y∈z13 i,0<=y/\y<R
theorem zcn {al:List Int}{R:Nat}(h:al.length=R){k:Int}(hk:0<=k/\k<R):al[k.toNat]?=some (atR al k):=by
 unfold atR;have:k.toNat<al.length:=by omega
 rw [getElem?_eq_getElem this];rfl
theorem yae {n:Nat}{sc:List (List Xg)}{al:List Int}{i:Xd}{R:Nat}(hn:10<n)(ha:al.length=R)(hR:R<=1000000)(hi:InR R i) :
  y5g n (sc,al,i)=some (sc,al,(rdI al i).c_,(rdI al i).D_,(rdI al i).A_,(rdI al i).B_,(rdI al i).C_,(rdI al i).N_,(rdI al i).m_):=by
 obtain ⟨m,rfl⟩:∃ m,n=m+4:=⟨n - 4,by omega⟩
 rw [yad];dsimp only;rw [zw5];simp only [Option.bind_some,yjx];obtain ⟨hr,h3⟩:=z58 i;have hA:=λh=>hi i.A_ (zpt (i:=i) h);have hB:=λh=>hi i.B_ (y6j (i:=i) h);have hC:=λh=>hi i.C_ (y6k (i:=i) h);unfold rdI;generalize nrO i.c_=k at *
 have one:∀ {m:Nat} (s s':Yat),z3h (m+4) (sc,al,i) (k:Int) s=some (.go s')->∀ f,zl (z3h (m+4) (sc,al,i) (k:Int)) (f+1) s=zl (z3h (m+4) (sc,al,i) (k:Int)) f s':=λs s' h f=>by
  conv=>lhs;unfold zl
  rw [h]
 have out:∀ {m:Nat} (s:Yat),s.1=(k:Int)->∀ f,zl (z3h (m+4) (sc,al,i) (k:Int)) (f+1) s=some (.out s):=λs h f=>by
  conv=>lhs;unfold zl
  rw [z9t,h];simp;rw [<- h]
 have s0:∀ {m:Nat} (A B C:Int),0<k->0<=A/\A<R->z3h (m+4) (sc,al,i) (k:Int) (0,i.c_,i.D_,A,B,C,i.N_)=some (.go (1,i.c_,i.D_,atR al A,B,C,i.N_)):=λA B C hk hA=>by
  rw [z9t];have e1:decide ((0:Int)<(k:Int))=true:=by simp;omega
  dsimp only;rw [e1,cond_true,show idx [2,3,4] (0:Int)=some 2 from rfl,Option.bind_some,show z3l [some i.c_,some i.D_,some A,some B,some C,some i.N_,none] 2=some A from rfl,Option.bind_some,zo (by rw [ha];exact hA),zcn ha hA];rfl
 have s1:∀ {m:Nat} (A B C:Int),1<k->0<=B/\B<R->z3h (m+4) (sc,al,i) (k:Int) (1,i.c_,i.D_,A,B,C,i.N_)=some (.go (2,i.c_,i.D_,A,atR al B,C,i.N_)):=λA B C hk hA=>by
  rw [z9t];have e1:decide ((1:Int)<(k:Int))=true:=by simp;omega
  dsimp only;rw [e1,cond_true,show idx [2,3,4] (1:Int)=some 3 from rfl,Option.bind_some,show z3l [some i.c_,some i.D_,some A,some B,some C,some i.N_,none] 3=some B from rfl,Option.bind_some,zo (by rw [ha];exact hA),zcn ha hA];rfl
 have s2:∀ {m:Nat} (A B C:Int),2<k->0<=C/\C<R->z3h (m+4) (sc,al,i) (k:Int) (2,i.c_,i.D_,A,B,C,i.N_)=some (.go (3,i.c_,i.D_,A,B,atR al C,i.N_)):=λA B C hk hA=>by
  rw [z9t];have e1:decide ((2:Int)<(k:Int))=true:=by simp;omega
  dsimp only;rw [e1,cond_true,show idx [2,3,4] (2:Int)=some 4 from rfl,Option.bind_some,show z3l [some i.c_,some i.D_,some A,some B,some C,some i.N_,none] 4=some C from rfl,Option.bind_some,zo (by rw [ha];exact hA),zcn ha hA];rfl
 match k,h3 with
 | 0,_ =>rw [show m+4=m+3+1 from rfl,out _ rfl];rfl
 | 1,_ =>rw [show zl (z3h (m+4) (sc,al,i) ((1:Nat):Int)) (m+4)=zl (z3h (m+4) (sc,al,i) ((1:Nat):Int)) (m+2+1+1) from rfl,one _ _ (s0 _ _ _ (by decide) (hA (by decide))),out _ rfl];rfl
 | 2,_ =>rw [show zl (z3h (m+4) (sc,al,i) ((2:Nat):Int)) (m+4)=zl (z3h (m+4) (sc,al,i) ((2:Nat):Int)) (m+1+1+1+1) from rfl,one _ _ (s0 _ _ _ (by decide) (hA (by decide))),one _ _ (s1 _ _ _ (by decide) (hB (by decide))),out _ rfl];rfl
 | 3,_ =>rw [show zl (z3h (m+4) (sc,al,i) ((3:Nat):Int)) (m+4)=zl (z3h (m+4) (sc,al,i) ((3:Nat):Int)) (m+1+1+1+1) from rfl,one _ _ (s0 _ _ _ (by decide) (hA (by decide))),one _ _ (s1 _ _ _ (by decide) (hB (by decide))),one _ _ (s2 _ _ _ (by decide) (hC (by decide))),out _ rfl];rfl
 | k+4,h=>omega
def mK (x:Xf)(y:Xg):Bool:=kf8 [.int .i64 x.i_.c_,.int .i64 x.i_.D_,.int .i64 x.i_.A_,.int .i64 x.i_.B_,.int .i64 x.i_.C_,.int .i64 x.i_.N_,.int .u32 x.i_.m_,.int .i64 x.t_.j_,.int .i64 x.t_.n_] y
theorem yjs {x:Xf}{y:Xg}:mK x y=true↔x=y.k_:=by
 obtain ⟨⟨a1,a2,a3,a4,a5,a6,a7⟩,⟨a8,a9⟩⟩:=x;obtain ⟨⟨⟨b1,b2,b3,b4,b5,b6,b7⟩,⟨b8,b9⟩⟩,v⟩:=y;simp [mK,kf8];constructor
 ·rintro ⟨h1,h2,h3,h4,h5,h6,h7,h8,h9⟩;exact ⟨⟨h1,h2,h3,h4,h5,h6,h7⟩,h8,h9⟩
 ·rintro ⟨⟨h1,h2,h3,h4,h5,h6,h7⟩,h8,h9⟩;exact ⟨h1,h2,h3,h4,h5,h6,h7,h8,h9⟩
abbrev Scs:Type:=List (List Xg)
def z5m (sc:Scs)(x:Xf):Option Int:=sc.findSome? λm=>(m.find? (mK x)).map (·.v_)
theorem yag {n:Nat}{sc:Scs}{al:List Int}{x:Xf}(hs:sc.length<1000000)(hn:sc.length<n) :
  y5h n (sc,al,x)=some (match z5m sc x with | some r=>(r,true,sc,al) | none=>(0,false,sc,al)):=by
 rw [yaf]
 have key:∀ (j k f:Nat),k+j=sc.length->j<f->zl (zgs n (sc,al,x) ()) f (k:Int)=some (match z5m (sc.drop k) x with | some r=>.ret r | none=>.out (sc.length:Int)):=by
  intro j
  induction j with
  | zero =>
   intro k f hk hf;obtain ⟨f,rfl⟩:∃ g,f=g+1:=⟨f - 1,by omega⟩
   obtain rfl:k=sc.length:=by omega
   rw [drop_length];unfold zl;rw [zj9];simp [z5m]
  | succ j ih =>
   intro k f hk hf;obtain ⟨f,rfl⟩:∃ g,f=g+1:=⟨f - 1,by omega⟩
   have hkl:k<sc.length:=by omega
   have e1:decide ((k:Int)<(sc.length:Int))=true:=by simp;omega
   unfold zl;rw [zj9];dsimp only;rw [e1,cond_true,zo (by omega),Int.toNat_natCast,getElem?_eq_getElem hkl,Option.bind_some,Option.bind_some,drop_eq_getElem_cons hkl];have em:(kf8 [.int .i64 x.i_.c_,.int .i64 x.i_.D_,.int .i64 x.i_.A_,.int .i64 x.i_.B_,.int .i64 x.i_.C_,.int .i64 x.i_.N_,.int .u32 x.i_.m_,.int .i64 x.t_.j_,.int .i64 x.t_.n_])=mK x:=rfl;rw [em]
   have ef:z5m (sc[k]::sc.drop (k+1)) x=match (sc[k].find? (mK x)).map (·.v_) with | some r=>some r | none=>z5m (sc.drop (k+1)) x:=by unfold z5m;rw [List.findSome?_cons];cases (sc[k].find? (mK x)).map (·.v_)<;>rfl
   rw [ef]
   have ea:List.any sc[k] (mK x)=(sc[k].find? (mK x)).isSome:=by rw [Bool.eq_iff_iff,any_eq_true,List.find?_isSome]
   rw [ea];cases hf2:sc[k].find? (mK x) with
   | some y=>simp
   | none =>simp only [Option.isSome_none,cond_false,Option.map_none,z22 (show k<4611686018427387904 by omega)];exact ih (k+1) f (by omega) (by omega)
 have:=key sc.length 0 n (by omega) hn;have this:zl (zgs n (sc,al,x) ()) n 0=_:=this;rw [this,drop_zero];cases z5m sc x<;>rfl
def zat (c:Xe)(j:Xd):Xf:=⟨⟨j.c_,0,j.A_,j.B_,j.C_,j.N_,j.m_⟩,z7y c j.D_⟩
def z8z (sc:Scs)(x:Xf)(d:Int):Scs:=sc.set (sc.length - 1) (zch (mK x) ⟨x,d⟩ ((sc[sc.length - 1]?).getD []))
def cpy (c:Xe)(j:Xd):Bool:=j.c_==3&&eqTy (z7y c j.A_) (z7y c j.D_)
def mem (j:Xd):Bool:=z10 j&&(!(j.c_==32)&&!(j.c_==3))
def ruS (c:Xe)(j:Xd)(sc:Scs)(al:List Int):Bool×Scs×List Int :=
 bif j.c_==34 then (true,sc++[[]],al) else bif j.c_==35 then (true,sc.take (sc.length - 1),al) else
 bif cpy c j then (false,sc,al.set j.D_.toNat j.A_) else
 bif mem j then (match z5m sc (zat c j) with
  | some r=>(false,sc,al.set j.D_.toNat r)
  | none=>(true,z8z sc (zat c j) j.D_,al))
 else (true,sc,al)
def ruL (c:Xe):List Xd->Scs->List Int->List Xd
 | [],_,_=>[]
 | i::l,sc,al=>(bif (ruS c (rdI al i) sc al).1 then [rdI al i] else [])++ruL c l (ruS c (rdI al i) sc al).2.1 (ruS c (rdI al i) sc al).2.2
structure zah (R:Nat) (al:List Int):Prop where
 len:al.length=R
 rng:∀ y∈al,0<=y/\y<R
section
variable {n:Nat}{c:Xe}{i:Xd}{set:List Bool}{o:List Xi}
theorem zaq (h:z29 c i=true):InR c.a_.length i:=by
 have key:∀ {s k:Int} {d:Xb},z14 c s k d=true->(s==0)=false->0<=k/\k<c.a_.length:=λh hs=>by obtain ⟨t,ht⟩:=z60 h hs;exact (z6c ht).2
 intro y hy;unfold z29 at h;unfold z13 at hy;split at h
 ·cases h
 ·rename_i r hr;rw [hr] at hy;simp only [and_eq_true] at h;simp only [mem_append] at hy;rcases hy with hy | hy | hy
  ·cases hs:r.a==0 with | true=>rw [hs] at hy;cases hy | false=>rw [hs] at hy;obtain rfl:=mem_singleton.1 hy;exact key h.2.1 hs
  ·cases hs:r.b==0 with | true=>rw [hs] at hy;cases hy | false=>rw [hs] at hy;obtain rfl:=mem_singleton.1 hy;exact key h.2.2.1 hs
  ·cases hs:r.c==0 with | true=>rw [hs] at hy;cases hy | false=>rw [hs] at hy;obtain rfl:=mem_singleton.1 hy;exact key h.2.2.2.1 hs
theorem zky (h:i.c_=34):z1y i set o=(set,o++[⟨34,i.N_,set⟩])/\z2y (o++[⟨34,i.N_,set⟩])=z2y o++[⟨34,i.N_,set⟩]:=by
 refine ⟨?_,?_⟩
 ·unfold z1y;rw [h];rfl
 ·rw [zam];rfl
theorem zkz (h:i.c_=35)(hst:z1k c i set o=true):∃ o' x,o=o'++[x]/\z2y o=z2y o'++[x]/\z1y i set o=(x.G_,o'):=by
 unfold z1k at hst;simp only [and_eq_true] at hst;have hpl:=hst.2.2.2;unfold z5d at hpl;rw [h] at hpl;have hpl:(decide ((o.length:Int) > 0)&&!(z1i o))=true:=hpl;rcases List.eq_nil_or_concat o with rfl | ⟨o',x,rfl⟩
 ·simp at hpl
 ·rw [List.concat_eq_append] at hpl ⊢;rw [(z34 o' x).1] at hpl;simp only [and_eq_true] at hpl;refine ⟨o',x,rfl,?_,?_⟩
  ·rw [zam];congr 1;unfold z2y;rw [List.filter_cons,hpl.2];rfl
  ·unfold z1y;rw [h];simp
theorem ybf (e34:i.c_≠34)(e35:i.c_≠35)(hst:z1k c i set o=true):z2y (z1y i set o).2=z2y o/\(z1y i set o).1=bif z10 i then set.set i.D_.toNat true else set:=by
 unfold z1k at hst;simp only [and_eq_true] at hst;have hpl:=hst.2.2.2;have e34:(i.c_==34)=false:=by simpa using e34
 have e35:(i.c_==35)=false:=by simpa using e35
 unfold z1y;rw [e34,e35];cases e36:i.c_==36 with
 | true =>
  have h:i.c_=36:=by simpa using e36
  have hs:z10 i=false:=by unfold z10;rw [h];rfl
  rw [hs];refine ⟨?_,rfl⟩;show z2y (o++[⟨i.c_,i.N_,set⟩])=z2y o;rw [zam,h];show z2y o++[]=_;rw [append_nil]
 | false =>
  cases e37:i.c_==37 with
  | true =>
   have h:i.c_=37:=by simpa using e37
   have hs:z10 i=false:=by unfold z10;rw [h];rfl
   rw [hs];refine ⟨?_,rfl⟩;show z2y o.dropLast=z2y o;unfold z5d at hpl;rw [h] at hpl;have hpl:z1i o=true:=hpl;rcases List.eq_nil_or_concat o with rfl | ⟨o',x,rfl⟩
   ·rfl
   ·rw [List.concat_eq_append] at hpl ⊢;rw [(z34 o' x).1] at hpl;rw [List.dropLast_concat,zam];have:z2y [x]=[]:=by unfold z2y;simp [hpl]
    rw [this,append_nil]
  | false =>cases hs:z10 i<;>exact ⟨rfl,rfl⟩
theorem zhl (h:z1k c i set o=true):z29 c i=true:=by unfold z1k at h;simp only [and_eq_true] at h;exact h.1
theorem zkk {R:Nat}{al:List Int}(h:zah R al){k:Int}(hk:0<=k/\k<R):0<=atR al k/\atR al k<R:=by have:=zcn h.len hk;exact h.rng _ (List.mem_of_getElem? this)
theorem zb6 {k:Int}(h:0<=k/\k<c.a_.length):idx c.a_ k=some (z7y c k):=by obtain ⟨y,h1,h2⟩:=y7b h;unfold z7y;rw [h1];rfl
theorem zl8 {R:Nat}{al:List Int}(h:zah R al)(d:Nat){x:Int}(hx:0<=x/\x<R):zah R (al.set d x) :=
 ⟨by rw [length_set];exact h.len,λy hy=>by
  rcases List.mem_or_eq_of_mem_set hy with hy | rfl
  ·exact h.rng y hy
  ·exact hx⟩
def y4m (R:Nat)(sc:Scs):Prop:=∀ m∈sc,∀ y∈m,0<=y.v_/\y.v_<R
theorem zm7 {sc:Scs}{x:Xf}{r:Int}(h:z5m sc x=some r):∃ m∈sc,∃ y∈m,y.k_=x/\y.v_=r:=by unfold z5m at h;obtain ⟨m,hm,h⟩:=List.exists_of_findSome?_eq_some h;obtain ⟨y,hy,rfl⟩:=Option.map_eq_some_iff.1 h;exact ⟨m,hm,y,List.mem_of_find?_eq_some hy,(yjs.1 (List.find?_some hy)).symm,rfl⟩
theorem y6h {x:Xf}{d:Int}{m:List Xg}{y:Xg}(h:y∈zch (mK x) ⟨x,d⟩ m):y∈m\/y=⟨x,d⟩:=by
 unfold zch at h;split at h
 ·rcases List.mem_or_eq_of_mem_set h with h | h
  ·exact .inl h
  ·exact .inr h
 ·rcases mem_append.1 h with h | h
  ·exact .inl h
  ·exact .inr (mem_singleton.1 h)
theorem zmu {sc:Scs}{x:Xf}{d:Int}{m:List Xg}(h:m∈z8z sc x d):m∈sc\/(∀ y∈m,(∃ m'∈sc,y∈m')\/y=⟨x,d⟩):=by
 unfold z8z at h;rcases List.mem_or_eq_of_mem_set h with h | rfl
 ·exact .inl h
 ·right;intro y hy;rcases y6h hy with hy | hy
  ·left;cases hg:sc[sc.length - 1]? with | none=>rw [hg] at hy;cases hy | some m=>rw [hg] at hy;exact ⟨m,List.mem_of_getElem? hg,hy⟩
  ·exact .inr hy
theorem zv8 {al:List Int}:z10 (rdI al i)=z10 i:=rfl
theorem y6m {R:Nat}{al:List Int}(h:zah R al)(hi:InR R i)(ho:i.c_=3):0<=(rdI al i).A_/\(rdI al i).A_<R:=by
 have h0:0<nrO i.c_:=by rw [ho];decide
 have e:(rdI al i).A_=atR al i.A_:=by unfold rdI;rw [ho];rfl
 rw [e];exact zkk h (hi _ (zpt h0))
theorem zy4 {v:List Xa×List Xb×List Xc}{k:Nat}{out:List Xd}{sc:Scs}{al:List Int}(hn:1000010<n)(hR:c.a_.length<=1000000)(hf:z29 c i=true)(hal:zah c.a_.length al)
  (h1:1<=sc.length) (h2:sc.length<=100000) (ho:out.length<=100000) (hk:k<1000000) (e1:decide ((k:Int)<(c.d_.length:Int))=true) (hi:idx c.d_ (k:Int)=some i) :
  zcu n c v ((k:Int),out,sc,al)=some (.go (((k+1:Nat):Int),out++(bif (ruS c (rdI al i) sc al).1 then [rdI al i] else []),(ruS c (rdI al i) sc al).2.1,(ruS c (rdI al i) sc al).2.2)):=by
 have hIn:=zaq hf;rw [zj7];dsimp only;rw [e1,cond_true,hi,Option.bind_some,yae (by omega) hal.len hR hIn,Option.bind_some];have wk:i64.wrap ((k:Int)+1)=((k+1:Nat):Int):=z22 (by omega);have wl:i64.wrap ((sc.length:Int) - 1)=((sc.length - 1:Nat):Int):=by rw [zxi (by omega) (by omega)];omega
 have fin:∀ {R:Type} (s:Scs×List Int),need ((out.length+([rdI al i]:List Xd).length) * 56<=140737488355328) (some (Bo.go (((k+1:Nat):Int),out++[rdI al i],s.1,s.2)):Option (Bo (Int×List Xd×Scs×List Int) (Int×List Xd×Scs×List Int) R))=some (.go (((k+1:Nat):Int),out++[rdI al i],s.1,s.2)):=λs=>zo (by simp;omega);have hsA:(i.c_==3)=true->0<=(rdI al i).A_/\(rdI al i).A_<c.a_.length:=λh=>y6m hal hIn (by simpa using h)
 have hsD:z10 i=true->0<=i.D_/\i.D_<c.a_.length:=λh=>by obtain ⟨t,ht,_⟩:=z7a hf h;exact (z6c ht).2
 have h3s:(i.c_==3)=true->z10 i=true:=λh=>by
  have h:i.c_=3:=by simpa using h
  unfold z10;rw [h];rfl
 unfold ruS;have eo:(rdI al i).c_=i.c_:=rfl;have eD:(rdI al i).D_=i.D_:=rfl;rw [eo];simp only [wk,wl];cases e34:i.c_==34 with
 | true =>simp only [cond_true];rw [zo (by simp;omega),Option.bind_some,orRet_inl];exact fin (sc++[[]],al)
 | false =>
  simp only [cond_false];cases e35:i.c_==35 with
  | true =>simp only [cond_true];rw [zo (by omega),zo (by omega),Option.bind_some,orRet_inl,Int.toNat_natCast];exact fin (sc.take (sc.length - 1),al)
  | false =>
   simp only [cond_false]
   have eC:∀ {R:Type} {a:Scs} {b:List Int} {p d q r s t u:Int},(bif (i.c_==3) then ((idx c.a_ (rdI al i).A_).bind λy11=>(idx c.a_ i.D_).bind λy12=>some (.inl ((y11.j_==y12.j_&&(y11.n_==y12.n_&&true)),a,b,p,d,q,r,s,t,u))) else (some (.inl (false,a,b,p,d,q,r,s,t,u))):Option (Bool×Scs×List Int×Int×Int×Int×Int×Int×Int×Int⊕R))=some (.inl (cpy c (rdI al i),a,b,p,d,q,r,s,t,u)):=by
    intro R a b p d q r s t u;unfold cpy;rw [eo,eD];cases e3:i.c_==3 with
    | false=>rfl
    | true =>rw [cond_true,zb6 (hsA e3),zb6 (hsD (h3s e3))];rfl
   rw [eD,eC,Option.bind_some,orRet_inl];dsimp only;cases hcp:cpy c (rdI al i) with
   | true =>
    have e3:(i.c_==3)=true:=by unfold cpy at hcp;rw [eo] at hcp;exact (and_eq_true_iff.1 hcp).1
    simp only [cond_true,cond_false];obtain ⟨d0,d1⟩:=hsD (h3s e3);rw [zo (by rw [hal.len];omega),zcn hal.len ⟨d0,d1⟩,Option.bind_some,Option.bind_some,orRet_inr,append_nil]
   | false =>
    simp only [cond_false];have ei:(⟨i.c_,i.D_,(rdI al i).A_,(rdI al i).B_,(rdI al i).C_,(rdI al i).N_,(rdI al i).m_⟩:Xd)=rdI al i:=rfl;rw [ei,zj3]
    have eM:∀ {R:Type} {a:Scs} {b:List Int} {p d q r s t u:Int},((some (z10 (rdI al i))).bind (λy14=>bif y14 then (bif (i.c_ != (32:Int)) then (some (.inl ((i.c_ != (3:Int)),a,b,p,d,q,r,s,t,u))) else (some (.inl (false,a,b,p,d,q,r,s,t,u)))) else (some (.inl (false,a,b,p,d,q,r,s,t,u)))):Option (Bool×Scs×List Int×Int×Int×Int×Int×Int×Int×Int⊕R))=some (.inl (mem (rdI al i),a,b,p,d,q,r,s,t,u)):=by intro R a b p d q r s t u;unfold mem;rw [eo];unfold bne;cases z10 (rdI al i)<;>cases i.c_==32<;>rfl
    rw [eM,Option.bind_some,orRet_inl];dsimp only;cases hm:mem (rdI al i) with
    | false =>simp only [cond_false,cond_true,Option.bind_some,orRet_inl];exact fin (sc,al)
    | true =>
     have hs:z10 i=true:=by unfold mem at hm;exact (and_eq_true_iff.1 hm).1
     obtain ⟨d0,d1⟩:=hsD hs;simp only [cond_true];rw [zb6 ⟨d0,d1⟩,Option.bind_some];have ek:(⟨⟨i.c_,0,(rdI al i).A_,(rdI al i).B_,(rdI al i).C_,(rdI al i).N_,(rdI al i).m_⟩,z7y c i.D_⟩:Xf)=zat c (rdI al i):=rfl;rw [ek,yag (by omega) (by omega)];cases hfd:z5m sc (zat c (rdI al i)) with
     | some r =>simp only [Option.bind_some,cond_true,cond_false];rw [zo (by rw [hal.len];omega),zcn hal.len ⟨d0,d1⟩,Option.bind_some,Option.bind_some,orRet_inr,append_nil]
     | none =>
      simp only [Option.bind_some,cond_true,cond_false,wl,Int.toNat_natCast];rw [zo (by omega)];have hl:sc.length - 1<sc.length:=by omega
      rw [getElem?_eq_getElem hl,Option.bind_some,Option.bind_some,Option.bind_some,orRet_inl]
      have ep:z8z sc (zat c (rdI al i)) i.D_=sc.set (sc.length - 1) (zch (mK (zat c (rdI al i))) ⟨zat c (rdI al i),i.D_⟩ sc[sc.length - 1]):=by unfold z8z;rw [getElem?_eq_getElem hl];rfl
      rw [ep];exact fin (_,al)
theorem y43 {sc:Scs}{x:Xf}{d:Int}:(z8z sc x d).length=sc.length:=by unfold z8z;rw [length_set]
theorem ykc {R:Nat}{j:Xd}{sc:Scs}{al:List Int}(hal:zah R al)(hsc:y4m R sc)(hA:j.c_=3->0<=j.A_/\j.A_<R)(hD:z10 j=true->0<=j.D_/\j.D_<R) :
  zah R (ruS c j sc al).2.2/\y4m R (ruS c j sc al).2.1/\(ruS c j sc al).2.1.length=(bif j.c_==34 then sc.length+1 else bif j.c_==35 then sc.length - 1 else sc.length):=by
 unfold ruS;cases e34:j.c_==34 with
 | true =>
  refine ⟨hal,λm hm y hy=>?_,by simp⟩;rcases mem_append.1 hm with hm | hm
  ·exact hsc m hm y hy
  ·obtain rfl:=mem_singleton.1 hm;cases hy
 | false =>
  cases e35:j.c_==35 with
  | true=>exact ⟨hal,λm hm y hy=>hsc m (List.mem_of_mem_take hm) y hy,by simp⟩
  | false =>
   simp only [cond_false];cases hcp:cpy c j with
   | true =>
    have e3:j.c_=3:=by unfold cpy at hcp;simpa using (and_eq_true_iff.1 hcp).1
    exact ⟨zl8 hal _ (hA e3),hsc,rfl⟩
   | false =>
    simp only [cond_false];cases hm:mem j with
    | false=>exact ⟨hal,hsc,rfl⟩
    | true =>
     have hs:z10 j=true:=by unfold mem at hm;exact (and_eq_true_iff.1 hm).1
     simp only [cond_true];cases hfd:z5m sc (zat c j) with
     | some r =>obtain ⟨m,hm,y,hy,_,rfl⟩:=zm7 hfd;exact ⟨zl8 hal _ (hsc m hm y hy),hsc,rfl⟩
     | none =>
      refine ⟨hal,λm hm y hy=>?_,y43⟩;rcases zmu hm with hm | hm
      ·exact hsc m hm y hy
      ·rcases hm y hy with ⟨m',hm',hy'⟩ | rfl
       ·exact hsc m' hm' y hy'
       ·exact hD hs
theorem zv3 {v:List Xa×List Xb×List Xc}(hn:1000010<n)(hR:c.a_.length<=1000000)(hL:c.d_.length<=50000):∀ (j k f:Nat) (set:List Bool) (o:List Xi) (r:List Bool×List Xi) (sc:Scs) (al:List Int) (out:List Xd),
  k+j=c.d_.length->j<f->goR c (c.d_.drop k) k set o = .inr r->zah c.a_.length al->y4m c.a_.length sc->sc.length=(z2y o).length+1->sc.length<=k+1->out.length<=k ->
   ∃ sc' al',zl (zcu n c v) f ((k:Int),out,sc,al)=some (.out ((c.d_.length:Int),out++ruL c (c.d_.drop k) sc al,sc',al'))
 | 0,k,f+1,set,o,r,sc,al,out,hk,_,_,_,_,_,_,_=>by
  obtain rfl:k=c.d_.length:=by omega
  rw [drop_length];refine ⟨sc,al,?_⟩;unfold zl;rw [zj7];simp [ruL]
 | j+1,k,f+1,set,o,r,sc,al,out,hk,hf,hg,hal,hsc,hl,hl2,ho=>by
  have hkl:k<c.d_.length:=by omega
  have e1:decide ((k:Int)<(c.d_.length:Int))=true:=by simp;omega
  rw [drop_eq_getElem_cons hkl,zhz] at hg;cases hst:z1k c c.d_[k] set o with
  | false=>rw [hst] at hg;cases hg
  | true =>
   rw [hst,cond_true] at hg;have hfit:=zhl hst;have hIn:=zaq hfit
   have hD:z10 (rdI al c.d_[k])=true->0<=(rdI al c.d_[k]).D_/\(rdI al c.d_[k]).D_<c.a_.length:=λh=>by obtain ⟨t,ht,_⟩:=z7a hfit h;exact (z6c ht).2
   obtain ⟨q1,q2,q3⟩:=ykc (c:=c) hal hsc (λh=>y6m hal hIn h) hD
   have hlen:(ruS c (rdI al c.d_[k]) sc al).2.1.length=(z2y (z1y c.d_[k] set o).2).length+1/\(ruS c (rdI al c.d_[k]) sc al).2.1.length<=k+2:=by
    rw [q3,show (rdI al c.d_[k]).c_=c.d_[k].c_ from rfl];by_cases h34:c.d_[k].c_=34
    ·obtain ⟨a,b⟩:=zky (set:=set) (o:=o) h34;rw [a,b,h34];simp;omega
    ·by_cases h35:c.d_[k].c_=35
     ·obtain ⟨o',x,a,b,d⟩:=zkz h35 hst;rw [d,h35];rw [b] at hl;simp at hl ⊢;omega
     ·obtain ⟨a,_⟩:=ybf h34 h35 hst;rw [a];have e34:(c.d_[k].c_==34)=false:=by simpa using h34
      have e35:(c.d_[k].c_==35)=false:=by simpa using h35
      rw [e34,e35];simp only [cond_false];omega
   have hout:(out++(bif (ruS c (rdI al c.d_[k]) sc al).1 then [rdI al c.d_[k]] else [])).length<=k+1:=by cases (ruS c (rdI al c.d_[k]) sc al).1<;>simp<;>omega
   obtain ⟨sc',al',e⟩:=zv3 hn hR hL j (k+1) f _ _ r _ _ (out++(bif (ruS c (rdI al c.d_[k]) sc al).1 then [rdI al c.d_[k]] else [])) (by omega) (by omega) hg q1 q2 hlen.1 hlen.2 hout;refine ⟨sc',al',?_⟩;unfold zl;rw [zy4 (i:=c.d_[k]) hn hR hfit hal (by omega) (by omega) (by omega) (by omega) e1 (z2a hkl)];simp only;rw [e,drop_eq_getElem_cons hkl,List.append_assoc];rfl
theorem y70 (hn:100000<n)(hR:c.a_.length<=20000)(hL:c.d_.length<=40000)(hf:∀ i∈c.d_,z29 c i=true):y5e n c=some (z19 c.d_ (z28 c)):=by
 have key:∀ (j k f:Nat) (s:List Bool),k+j=c.d_.length->j<f->s.length=c.a_.length ->
   ∃ b,zl (zgr n c ()) f ((k:Int),s)=some b/\(match b with | .go _=>False | .out _=>z19 (c.d_.drop k) s=true | .ret _=>z19 (c.d_.drop k) s=false):=by
  intro j
  induction j with
  | zero =>
   intro k f s hk hj hs;obtain ⟨f,rfl⟩:∃ g,f=g+1:=⟨f - 1,by omega⟩
   obtain rfl:k=c.d_.length:=by omega
   rw [drop_length];unfold zl;rw [zj8];simp only [show decide ((c.d_.length:Int)<(c.d_.length:Int))=false by simp,cond_false];exact ⟨_,rfl,rfl⟩
  | succ j ih =>
   intro k f s hk hj hs;obtain ⟨f,rfl⟩:∃ g,f=g+1:=⟨f - 1,by omega⟩
   have hkl:k<c.d_.length:=by omega
   have e1:decide ((k:Int)<(c.d_.length:Int))=true:=by simp;omega
   rw [drop_eq_getElem_cons hkl];unfold zl;rw [zj8];unfold z19;simp only [e1,cond_true,z2a hkl,Option.bind_some,zj3,z22 (show k<4611686018427387904 by omega)];cases hse:z10 c.d_[k] with
   | false =>simp only [Bool.not_false,cond_true,cond_false];exact ih (k+1) f s (by omega) (by omega) hs
   | true =>
    obtain ⟨t,ht,_⟩:=z7a (hf _ (getElem_mem hkl)) hse;obtain ⟨a,b,_⟩:=y3b ht;have hD:c.d_[k].D_.toNat<s.length:=by omega
    have eD:s[c.d_[k].D_.toNat]?=some (s[c.d_[k].D_.toNat]'hD):=getElem?_eq_getElem hD;simp only [Bool.not_true,cond_false,cond_true,eD,Option.bind_some,getD_some];rw [zo (by omega),zo (by omega)];cases s[c.d_[k].D_.toNat]'hD with
    | true=>exact ⟨_,rfl,rfl⟩
    | false =>simp only [cond_false];exact ih (k+1) f _ (by omega) (by omega) (by rw [length_set];exact hs)
 rw [yac,zo (by omega)];have er:replicate ((c.a_.length:Int)).toNat false=z28 c:=by rw [Int.toNat_natCast]
 rw [er];obtain ⟨b,e1,e2⟩:=key c.d_.length 0 n (z28 c) (by omega) (by omega) (by simp);have e1:zl (zgr n c ()) n (0,z28 c)=_:=e1;rw [e1];rw [drop_zero] at e2;cases b with
 | go s=>exact e2.elim
 | out y =>have e2:z19 c.d_ (z28 c)=true:=e2;rw [e2];rfl
 | ret z =>have e2:z19 c.d_ (z28 c)=false:=e2;rw [e2];rfl
def z20 (R:Nat):List Int:=(range R).map λ(k:Nat)=>(k:Int)
theorem zmq (R:Nat):zah R (z20 R):=⟨by simp [z20],λy hy=>by obtain ⟨k,hk,rfl⟩:=List.mem_map.1 hy;have:=List.mem_range.1 hk;omega⟩
def z23 (c:Xe):List Xd:=bif z19 c.d_ (z28 c) then ruL c c.d_ [[]] (z20 c.a_.length) else c.d_
def z9b (c:Xe):Int×List Xa×List Xb×List Xc×List Xd :=
 bif (chk c).1 != 0 then (160,[],[],[],[]) else (0,c.f_,c.a_,c.e_,z23 c)
theorem zqa (hn:1000010<n)(hs:zdf c)(hu:zkj c):zht n c=some (z9b c):=by
 rw [yab,(y52 (by omega) hu.1 hu.2).1];simp only [Option.bind_some];unfold z9b;cases hc:(chk c).1 != 0 with
 | true=>rfl
 | false =>
  have hc0:(chk c).1=0:=by simpa using hc
  obtain ⟨_,q1,q2,q3,q4,q5,r,q6,q7⟩:=zfe hc0;simp only [decide_eq_false_iff_not] at q1 q2 q3;have e1:ycv n c.f_=need (c.f_.length * 32<=140737488355328) (some c.f_):=rfl;have e2:ycw n c.a_=need (c.a_.length * 16<=140737488355328) (some c.a_):=rfl;have e3:ycx n c.e_=need (c.e_.length * 32<=140737488355328) (some c.e_):=rfl;have e4:ycy n c.d_=need (c.d_.length * 56<=140737488355328) (some c.d_):=rfl;rw [e1,e2,e3,e4,zo hs.s,zo hs.r,zo hs.l,zo hs.i,y70 (by omega) (by omega) (by omega) (ze6 c _ _ _ _ _ q6)];simp only [Option.bind_some,cond_false];unfold z23;cases hsg:z19 c.d_ (z28 c) with
  | false=>rfl
  | true =>
   simp only [Bool.not_true,cond_false,cond_true];rw [zo (by omega)];have er:replicate ((c.a_.length:Int)).toNat (0:Int)=replicate c.a_.length 0:=by rw [Int.toNat_natCast]
   have i1:=z3m (L:=c.a_.length) (body:=zgq n c (c.f_,c.a_,c.e_)) (λk=>((k:Int),z20 k++replicate (c.a_.length - k) 0)) (λk hk=>?_) (y:=((c.a_.length:Int),z20 c.a_.length)) ?_ c.a_.length 0 n (by omega) (by omega)
   ·have i1:zl (zgq n c (c.f_,c.a_,c.e_)) n (0,replicate (c.a_.length - 0) 0)=_:=i1;rw [er];rw [Nat.sub_zero] at i1;rw [i1];simp only [Option.bind_some,Bo.then];obtain ⟨sc',al',e⟩:=zv3 (v:=(c.f_,c.a_,c.e_)) hn (by omega) (by omega) c.d_.length 0 n (z28 c) [] r [[]] (z20 c.a_.length) [] (by omega) (by omega) (by rw [drop_zero];exact q6) (zmq _) (λm hm y hy=>by obtain rfl:=mem_singleton.1 hm;cases hy) rfl (by simp) (Nat.le_refl _);have e:zl (zcu n c (c.f_,c.a_,c.e_)) n (0,[],[[]],z20 c.a_.length)=_:=e;rw [drop_zero,List.nil_append] at e;rw [e];rfl
   ·rw [zj6];dsimp only;rw [er,List.length_replicate];have h1:decide ((k:Int)<(c.a_.length:Int))=true:=by simp;omega
    have hlen:(z20 k).length=k:=by simp [z20]
    have hg:(z20 k++replicate (c.a_.length - k) (0:Int))[k]?=some 0:=by rw [List.getElem?_append_right (by omega),hlen,Nat.sub_self,List.getElem?_replicate,if_pos (by omega)]
    have hst:(z20 k++replicate (c.a_.length - k) (0:Int)).set k (k:Int)=z20 (k+1)++replicate (c.a_.length - (k+1)) 0:=by
     rw [List.set_append_right _ _ (by omega),hlen,Nat.sub_self];obtain ⟨j,hj⟩:∃ j,c.a_.length - k=j+1:=⟨c.a_.length - k - 1,by omega⟩
     rw [hj,show c.a_.length - (k+1)=j by omega,List.replicate_succ,List.set_cons_zero];unfold z20;rw [List.range_succ,map_append];simp
    rw [h1,cond_true,zo (by simp [hlen];omega),Int.toNat_natCast,hg,Option.bind_some,z22 (by omega),hst]
   ·rw [zj6];simp
end
abbrev on (s:List Bool)(k:Nat):Prop:=(s[k]?).getD false=true
theorem yk1 {s:List Bool}{d k:Nat}(h:on s k):on (s.set d true) k:=by
 unfold on at *;rw [getElem?_set];by_cases e:d=k
 ·subst e;rw [if_pos rfl]
  have:d<s.length:=by
   rcases Nat.lt_or_ge d s.length with h' | h'
   ·exact h'
   ·rw [List.getElem?_eq_none h'] at h;cases h
  rw [if_pos this];rfl
 ·rw [if_neg e];exact h
theorem ybl {s:List Bool}{d:Nat}(h:d<s.length):on (s.set d true) d:=by unfold on;rw [getElem?_set_self h];rfl
theorem yk0 {s:List Bool}{d k:Nat}(h:on (s.set d true) k):on s k\/(k=d/\d<s.length):=by
 unfold on at *;rw [getElem?_set] at h;by_cases e:d=k
 ·right;rw [if_pos e] at h;split at h
  ·exact ⟨e.symm,by omega⟩
  ·cases h
 ·rw [if_neg e] at h;exact .inl h
theorem yjy {op:Int}{r:z4s}(h:z4q op=some r):(r.a==0) = !(Nat.blt 0 (nrO op))/\(r.b==0) = !(Nat.blt 1 (nrO op))/\(r.c==0) = !(Nat.blt 2 (nrO op)):=by
 rcases z5c op with (rfl | rfl | rfl | rfl | rfl | rfl | rfl | rfl | rfl | rfl | rfl | rfl | rfl | rfl | rfl | rfl | rfl | rfl | rfl | rfl | rfl | rfl | rfl | rfl | rfl | rfl | rfl | rfl | rfl | rfl | rfl | rfl | rfl | rfl | rfl | rfl | rfl) | h0
 iterate 37 (· cases h;decide)
 rw [z4i h0] at h;cases h
structure zvg (c d:Xe) (i j:Xd):Prop where
 op:j.c_=i.c_
 bits:j.m_=i.m_
 n:j.N_=i.N_
 D:z10 i=true->idx d.a_ j.D_=idx c.a_ i.D_
 D0:z10 i=false->j.D_=i.D_
 A:0<nrO i.c_->idx d.a_ j.A_=idx c.a_ i.A_
 A0:¬ 0<nrO i.c_->j.A_=i.A_
 B:1<nrO i.c_->idx d.a_ j.B_=idx c.a_ i.B_
 B0:¬ 1<nrO i.c_->j.B_=i.B_
 C:2<nrO i.c_->idx d.a_ j.C_=idx c.a_ i.C_
 C0:¬ 2<nrO i.c_->j.C_=i.C_
section
variable {c d:Xe}{i j:Xd}{set:List Bool}{o:List Xi}
theorem za4 {s k k':Int}{t:Xb}(h:(s==0)=false->idx d.a_ k'=idx c.a_ k)(h0:(s==0)=true->k'=k):z14 d s k' t=z14 c s k t:=by unfold z14;cases hs:s==0 with | true=>rw [h0 hs];rfl | false=>rw [h hs];rfl
theorem y3j (h:zvg c d i j)(hs:d.f_=c.f_)(hz:d.e_=c.e_):z29 d j=z29 c i:=by
 unfold z29;rw [h.op];cases hr:z4q i.c_ with
 | none=>rfl
 | some r =>
  obtain ⟨e1,e2,e3⟩:=yjy hr;have hset:z10 i = !(r.d==0):=by unfold z10;rw [hr]
  have hD:∀ t,z14 d r.d j.D_ t=z14 c r.d i.D_ t:=λt=>za4 (λq=>h.D (by rw [hset,q];rfl)) (λq=>h.D0 (by rw [hset,q];rfl))
  have hA:∀ t,z14 d r.a j.A_ t=z14 c r.a i.A_ t:=λt=>za4 (λq=>h.A (by rw [q] at e1;simp only [false_eq,not_eq_false'] at e1;exact le_of_ble_eq_true e1)) (λq=>h.A0 (λhc=>by have:Nat.blt 0 (nrO i.c_)=true:=Nat.ble_eq_true_of_le hc;rw [q,this] at e1;cases e1))
  have hB:∀ t,z14 d r.b j.B_ t=z14 c r.b i.B_ t:=λt=>za4 (λq=>h.B (by rw [q] at e2;simp only [false_eq,not_eq_false'] at e2;exact le_of_ble_eq_true e2)) (λq=>h.B0 (λhc=>by have:Nat.blt 1 (nrO i.c_)=true:=Nat.ble_eq_true_of_le hc;rw [q,this] at e2;cases e2))
  have hC:∀ t,z14 d r.c j.C_ t=z14 c r.c i.C_ t:=λt=>za4 (λq=>h.C (by rw [q] at e3;simp only [false_eq,not_eq_false'] at e3;exact le_of_ble_eq_true e3)) (λq=>h.C0 (λhc=>by have:Nat.blt 2 (nrO i.c_)=true:=Nat.ble_eq_true_of_le hc;rw [q,this] at e3;cases e3))
  have hb:z6l j=z6l i:=by unfold z6l;rw [h.op,h.bits]
  have htD:tyD d r j=tyD c r i:=by unfold tyD;cases q:r.d==0 with | true=>rfl | false=>rw [h.D (by rw [hset,q];rfl)]
  have htF:tyF d r j=tyF c r i:=by
   unfold tyF;cases q:r.d==0 with
   | false=>rw [h.D (by rw [hset,q];rfl)];rfl
   | true =>
    cases q2:r.a==0 with
    | true=>rfl
    | false =>rw [h.A (by rw [q2] at e1;simp only [false_eq,not_eq_false'] at e1;exact le_of_ble_eq_true e1)];rfl
  have hn:nOk d r.n j.N_ (tyF d r j)=nOk c r.n i.N_ (tyF c r i):=by unfold nOk;rw [hs,hz,h.n,htF]
  simp only [hD,hA,hB,hC,hb,hn,htD]
theorem ymt {i:Xd}(h:onA i=true):0<nrO i.c_:=by unfold onA at h;simp only [Bool.or_eq_true,beq_iff_eq] at h;rcases h with h | h<;>rw [h]<;>decide
theorem y3k (h:zvg c d i j):z6k d j=z6k c i:=by
 have e1:onD j=onD i:=by unfold onD;rw [h.op]
 have e2:onA j=onA i:=by unfold onA;rw [h.op]
 unfold z6k;rw [e1,e2];cases hd:onD i with
 | true=>simp only [cond_true];rw [h.D ((y6l i).1 hd)]
 | false =>
  cases ha:onA i with
  | true=>simp only [cond_true,cond_false];rw [h.A (ymt ha)]
  | false =>simp only [cond_false];rw [z2s (.inl (by decide)),z2s (.inl (by decide))]
theorem zww {o p:List Xi}(h:j.c_=i.c_)(h1:z1i p=z1i o)(h2:p.length=o.length):z5d j p=z5d i o:=by unfold z5d;rw [h,h1,h2]
theorem zr1 {s':List Bool}{p:List Xi}(h:zvg c d i j)(hs:d.f_=c.f_)(hz:d.e_=c.e_)(h1:z1i p=z1i o)(h2:z5v p=z5v o)(h3:p.length=o.length)(hr:z2k s' j=true)(hst:z1k c i set o=true):z1k d j s' p=true:=by unfold z1k at hst ⊢;simp only [and_eq_true] at hst;rw [y3j h hs hz,y3k h,h.op,h1,h2,zww h.op h1 h3,hr,hst.1,hst.2.1,hst.2.2.2];rfl
structure Lvl (c:Xe) (done s s':List Bool) (al:List Int) (sc:Scs):Prop where
 len:s.length=c.a_.length
 len':s'.length=c.a_.length
 regs:∀ r:Nat,on s r->on done r/\on s' (atR al (r:Int)).toNat/\z7y c (atR al (r:Int))=z7y c (r:Int)
 dn:∀ r:Nat,on s' r->on done r
 kept:∀ m∈sc,∀ y∈m,0<=y.v_/\on s' y.v_.toNat/\z7y c y.v_=y.k_.t_/\∀ z∈z13 y.k_.i_,0<=z/\on s' z.toNat
inductive Stk (c:Xe) (done:List Bool) (al:List Int):List Xi->List Xi->Scs->Prop
 | nil:Stk c done al [] [] []
 | wh {o p:List Xi} {sc:Scs} {m:List Xg} {N:Int} {s s':List Bool}:Stk c done al o p sc->Lvl c done s s' al (sc++[m])->Stk c done al (o++[⟨34,N,s⟩]) (p++[⟨34,N,s'⟩]) (sc++[m])
 | lp {o p:List Xi} {sc:Scs} {N:Int} {s s':List Bool}:Stk c done al o p sc->Stk c done al (o++[⟨36,N,s⟩]) (p++[⟨36,N,s'⟩]) sc
theorem Stk.inv {done:List Bool}{al:List Int}{o p:List Xi}{sc:Scs}(h:Stk c done al o p sc):(o=[]/\p=[]/\sc=[]) \/
  (∃ o' p' sc' m N s s',o=o'++[⟨34,N,s⟩]/\p=p'++[⟨34,N,s'⟩]/\sc=sc'++[m]/\Stk c done al o' p' sc'/\Lvl c done s s' al sc)\/(∃ o' p' N s s',o=o'++[⟨36,N,s⟩]/\p=p'++[⟨36,N,s'⟩]/\Stk c done al o' p' sc):=by
 cases h with | nil=>exact .inl ⟨rfl,rfl,rfl⟩ | wh h1 h2=>exact .inr (.inl ⟨_,_,_,_,_,_,_,rfl,rfl,rfl,h1,h2⟩) | lp h1=>exact .inr (.inr ⟨_,_,_,_,_,rfl,rfl,h1⟩)
theorem Stk.skel {done:List Bool}{al:List Int}{o p:List Xi}{sc:Scs}(h:Stk c done al o p sc):z1i p=z1i o/\z5v p=z5v o/\p.length=o.length:=by
 have len:∀ {o p:List Xi} {sc:Scs},Stk c done al o p sc->p.length=o.length:=by
  intro o p sc h
  induction h with | nil=>rfl | wh _ _ ih=>simp [ih] | lp _ ih=>simp [ih]
 refine ⟨?_,?_,len h⟩
 ·rcases h.inv with ⟨rfl,rfl,_⟩ | ⟨o',p',sc',m,N,s,s',rfl,rfl,_⟩ | ⟨o',p',N,s,s',rfl,rfl,_⟩
  ·rfl
  ·rw [(z34 _ _).1,(z34 _ _).1]
  ·rw [(z34 _ _).1,(z34 _ _).1]
 ·rcases h.inv with ⟨rfl,rfl,_⟩ | ⟨o',p',sc',m,N,s,s',rfl,rfl,_⟩ | ⟨o',p',N,s,s',rfl,rfl,_⟩
  ·rfl
  ·rw [(z34 _ _).2,(z34 _ _).2]
  ·rw [(z34 _ _).2,(z34 _ _).2]
theorem Lvl.more {done done' s s':List Bool}{al al':List Int}{sc:Scs}(h:Lvl c done s s' al sc)(hd:∀ r,on done r->on done' r)(ha:∀ r:Nat,on done r->atR al' (r:Int)=atR al (r:Int)):Lvl c done' s s' al' sc :=
 ⟨h.len,h.len',λr hr=>by obtain ⟨h1,h2,h3⟩:=h.regs r hr;rw [ha r h1];exact ⟨hd r h1,h2,h3⟩,λr hr=>hd r (h.dn r hr),h.kept⟩
theorem Stk.more {done done':List Bool}{al al':List Int}{o p:List Xi}{sc:Scs}(h:Stk c done al o p sc)(hd:∀ r,on done r->on done' r)(ha:∀ r:Nat,on done r->atR al' (r:Int)=atR al (r:Int)):Stk c done' al' o p sc:=by
 induction h with | nil=>exact .nil | wh _ h2 ih=>exact .wh ih (h2.more hd ha) | lp _ ih=>exact .lp ih
structure RJ (c:Xe) (done set set':List Bool) (o p:List Xi) (sc:Scs) (al:List Int):Prop where
 aok:zah c.a_.length al
 new:∀ r:Nat,r<c.a_.length->¬ on done r->atR al (r:Int)=(r:Int)
 len:done.length=c.a_.length
 cur:Lvl c done set set' al sc
 stk:∃ sc0 m,sc=sc0++[m]/\Stk c done al o p sc0
def z2n (i:Xd)(done:List Bool):List Bool:=bif z10 i then done.set i.D_.toNat true else done
theorem z32 {done:List Bool}{r:Nat}(h:on done r):on (z2n i done) r:=by unfold z2n;cases z10 i with | true=>exact yk1 h | false=>exact h
theorem zl4 {done set':List Bool}{al:List Int}{sc:Scs}(h:Lvl c done set set' al sc)(hf:z29 c i=true)(hr:z2k set i=true){k:Int}(hk:k∈z13 i):0<=k/\k<c.a_.length/\on done k.toNat/\on set' (atR al k).toNat/\z7y c (atR al k)=z7y c k:=by obtain ⟨h0,h1⟩:=zaq hf k hk;have hs:on set k.toNat:=y9p hr hk;obtain ⟨h2,h3,h4⟩:=h.regs _ hs;rw [Int.toNat_of_nonneg h0] at h3 h4;exact ⟨h0,h1,h2,h3,h4⟩
theorem zq3 {al:List Int}{k:Int}(h:k∈z13 (rdI al i)):∃ k0∈z13 i,k=atR al k0:=by
 obtain ⟨h1,h2⟩:=z58 i;obtain ⟨h3,h4⟩:=z58 (rdI al i);rw [h3] at h;rw [h1];have eo:(rdI al i).c_=i.c_:=rfl;rw [eo] at h;unfold rdI at h;simp only at h;generalize nrO i.c_=k1 at *
 match k1,h2 with
 | 0,_=>simp at h
 | 1,_ =>simp at h;exact ⟨i.A_,by simp,h⟩
 | 2,_ =>
  simp at h;rcases h with h | h
  ·exact ⟨i.A_,by simp,h⟩
  ·exact ⟨i.B_,by simp,h⟩
 | 3,_ =>
  simp at h;rcases h with h | h | h
  ·exact ⟨i.A_,by simp,h⟩
  ·exact ⟨i.B_,by simp,h⟩
  ·exact ⟨i.C_,by simp,h⟩
theorem ybo {done set':List Bool}{al:List Int}{sc:Scs}(h:Lvl c done set set' al sc)(hal:zah c.a_.length al)(hf:z29 c i=true)(hr:z2k set i=true):zvg c c i (rdI al i):=by
 have key:∀ k∈z13 i,idx c.a_ (atR al k)=idx c.a_ k:=λk hk=>by obtain ⟨h0,h1,_,_,h4⟩:=zl4 h hf hr hk;rw [zb6 ⟨h0,h1⟩,zb6 (zkk hal ⟨h0,h1⟩),h4]
 have bt:∀ k:Nat,k<nrO i.c_->Nat.blt k (nrO i.c_)=true:=λk h=>Nat.ble_eq_true_of_le h
 have bf:∀ k:Nat,¬ k<nrO i.c_->Nat.blt k (nrO i.c_)=false:=λk h=>by cases q:Nat.blt k (nrO i.c_) with | false=>rfl | true=>exact absurd (le_of_ble_eq_true q) h
 refine ⟨rfl,rfl,rfl,λ_=>rfl,λ_=>rfl,λh0=>?_,λh0=>?_,λh0=>?_,λh0=>?_,λh0=>?_,λh0=>?_⟩
 ·unfold rdI;simp only [bt 0 h0,cond_true];exact key _ (zpt h0)
 ·unfold rdI;simp only [bf 0 h0,cond_false]
 ·unfold rdI;simp only [bt 1 h0,cond_true];exact key _ (y6j h0)
 ·unfold rdI;simp only [bf 1 h0,cond_false]
 ·unfold rdI;simp only [bt 2 h0,cond_true];exact key _ (y6k h0)
 ·unfold rdI;simp only [bf 2 h0,cond_false]
theorem ybp {done set':List Bool}{al:List Int}{sc:Scs}(h:Lvl c done set set' al sc)(hf:z29 c i=true)(hr:z2k set i=true):z2k set' (rdI al i)=true:=by unfold z2k;rw [all_eq_true];intro k hk;obtain ⟨k0,h1,rfl⟩:=zq3 hk;exact (zl4 h hf hr h1).2.2.2.1
end
section
variable {c:Xe}{i:Xd}{set set' done:List Bool}{o p:List Xi}{sc:Scs}{al:List Int}
theorem zun (h:i.c_=36):z1y i set o=(set,o++[⟨36,i.N_,set⟩]):=by unfold z1y;rw [h];rfl
theorem zuo (h:i.c_=37):z1y i set o=(set,o.dropLast):=by unfold z1y;rw [h];rfl
theorem zup (h1:i.c_≠34)(h2:i.c_≠35)(h3:i.c_≠36)(h4:i.c_≠37):z1y i set o=(z2n i set,o):=by
 have h1:(i.c_==34)=false:=by simpa using h1
 have h2:(i.c_==35)=false:=by simpa using h2
 have h3:(i.c_==36)=false:=by simpa using h3
 have h4:(i.c_==37)=false:=by simpa using h4
 unfold z1y z2n;rw [h1,h2,h3,h4];cases z10 i<;>rfl
theorem zbn {s:List Bool}{r:Nat}(h:on (z2n i s) r):on s r\/(z10 i=true/\r=i.D_.toNat/\i.D_.toNat<s.length):=by
 unfold z2n at h;cases hs:z10 i with
 | false=>rw [hs] at h;exact .inl h
 | true =>
  rw [hs] at h;rcases yk0 h with h | ⟨h1,h2⟩
  ·exact .inl h
  ·exact .inr ⟨rfl,h1,h2⟩
theorem z50 (s:List Bool):(z2n i s).length=s.length:=by unfold z2n;cases z10 i<;>simp
theorem z53 {s:List Bool}(hs:z10 i=true)(h:i.D_.toNat<s.length):on (z2n i s) i.D_.toNat:=by unfold z2n;rw [hs];exact ybl h
theorem RJ.el (h:RJ c done set set' o p sc al)(hf:z29 c i=true)(hd:z10 i=true->¬ on done i.D_.toNat):RJ c (z2n i done) (z2n i set) (z2n i set') o p sc al:=by
 have hD:z10 i=true->0<=i.D_/\i.D_<c.a_.length:=λh=>by obtain ⟨t,ht,_⟩:=z7a hf h;exact (z6c ht).2
 refine ⟨h.aok,λr hr hn=>h.new r hr (λq=>hn (z32 q)),by rw [z50];exact h.len,⟨by rw [z50];exact h.cur.len,by rw [z50];exact h.cur.len',λr hr=>?_,λr hr=>?_,λm hm y hy=>?_⟩,?_⟩
 ·rcases zbn hr with hr | ⟨h1,rfl,h2⟩
  ·obtain ⟨q1,q2,q3⟩:=h.cur.regs r hr;exact ⟨z32 q1,z32 q2,q3⟩
  ·obtain ⟨d0,d1⟩:=hD h1;have e:atR al (i.D_.toNat:Int)=(i.D_.toNat:Int):=h.new _ (by omega) (hd h1);rw [e];exact ⟨z53 h1 (by rw [h.len];omega),by rw [Int.toNat_natCast];exact z53 h1 (by rw [h.cur.len'];omega),rfl⟩
 ·rcases zbn hr with hr | ⟨h1,rfl,h2⟩
  ·exact z32 (h.cur.dn r hr)
  ·obtain ⟨d0,d1⟩:=hD h1;exact z53 h1 (by rw [h.len];omega)
 ·obtain ⟨q1,q2,q3,q4⟩:=h.cur.kept m hm y hy;exact ⟨q1,z32 q2,q3,λz hz=>⟨(q4 z hz).1,z32 (q4 z hz).2⟩⟩
 ·obtain ⟨sc0,m,e,hs⟩:=h.stk;exact ⟨sc0,m,e,hs.more (λr hr=>z32 hr) (λ_ _=>rfl)⟩
theorem y42 {sc0:Scs}{m:List Xg}{x:Xf}{d:Int}:z8z (sc0++[m]) x d=sc0++[zch (mK x) ⟨x,d⟩ m]:=by unfold z8z;simp
theorem RJ.put (h:RJ c done set set' o p sc al){x:Xf}{d:Int}(h0:0<=d)(h1:on set' d.toNat)(h2:z7y c d=x.t_)(h3:∀ z∈z13 x.i_,0<=z/\on set' z.toNat):RJ c done set set' o p (z8z sc x d) al:=by
 refine ⟨h.aok,h.new,h.len,⟨h.cur.len,h.cur.len',h.cur.regs,h.cur.dn,λm hm y hy=>?_⟩,?_⟩
 ·rcases zmu hm with hm | hm
  ·exact h.cur.kept m hm y hy
  ·rcases hm y hy with ⟨m',hm',hy'⟩ | rfl
   ·exact h.cur.kept m' hm' y hy'
   ·exact ⟨h0,h1,h2,h3⟩
 ·obtain ⟨sc0,m,e,hs⟩:=h.stk;subst e;exact ⟨sc0,_,y42,hs⟩
theorem zr8 {k d:Nat}{x:Int}(h:k≠d):atR (al.set d x) (k:Int)=atR al (k:Int):=by unfold atR;rw [Int.toNat_natCast,getElem?_set,if_neg (λe=>h e.symm)]
theorem y4w {d:Nat}{x:Int}(h:d<al.length):atR (al.set d x) (d:Int)=x:=by unfold atR;rw [Int.toNat_natCast,getElem?_set_self h];rfl
theorem RJ.drop (h:RJ c done set set' o p sc al)(hs:z10 i=true)(hD:0<=i.D_/\i.D_<c.a_.length)(hd:¬ on done i.D_.toNat){x:Int}(hx:0<=x/\x<c.a_.length)(hon:on set' x.toNat)(ht:z7y c x=z7y c i.D_):RJ c (z2n i done) (z2n i set) set' o p sc (al.set i.D_.toNat x):=by
 have hne:∀ r:Nat,on done r->r≠i.D_.toNat:=λr hr e=>hd (e ▸ hr);have hal:i.D_.toNat<al.length:=by rw [h.aok.len];omega
 have ha:∀ r:Nat,on done r->atR (al.set i.D_.toNat x) (r:Int)=atR al (r:Int):=λr hr=>zr8 (hne r hr);refine ⟨zl8 h.aok _ hx,λr hr hn=>?_,by rw [z50];exact h.len,⟨by rw [z50];exact h.cur.len,h.cur.len',λr hr=>?_,λr hr=>z32 (h.cur.dn r hr),h.cur.kept⟩,?_⟩
 ·have:r≠i.D_.toNat:=λe=>hn (by rw [e];exact z53 hs (by rw [h.len];omega));rw [zr8 this];exact h.new r hr (λq=>hn (z32 q))
 ·rcases zbn hr with hr | ⟨h1,rfl,h2⟩
  ·obtain ⟨q1,q2,q3⟩:=h.cur.regs r hr;rw [ha r q1];exact ⟨z32 q1,q2,q3⟩
  ·rw [y4w hal,Int.toNat_of_nonneg hD.1];exact ⟨z53 hs (by rw [h.len];omega),hon,ht⟩
 ·obtain ⟨sc0,m,e,hs⟩:=h.stk;exact ⟨sc0,m,e,hs.more (λr hr=>z32 hr) ha⟩
theorem ya6 {t d:Xb}(h:eqTy t d=true):t=d:=by obtain ⟨a,b⟩:=t;obtain ⟨a',b'⟩:=d;unfold eqTy at h;simp at h;obtain ⟨rfl,rfl⟩:=h;rfl
theorem zbo {s:List Bool}(h:z10 i=false):z2n i s=s:=by unfold z2n;rw [h];rfl
theorem zd7 {i:Xd}(h:i.c_=34\/i.c_=35\/i.c_=36\/i.c_=37):z10 i=false:=by unfold z10;rcases h with h | h | h | h<;>rw [h]<;>rfl
theorem Stk.lp_top {o' p:List Xi}{x:Xi}(h:Stk c done al (o'++[x]) p sc)(hx:x.c_=36):∃ p' y,p=p'++[y]/\y.c_=36/\Stk c done al o' p' sc:=by
 rcases h.inv with ⟨e,_⟩ | ⟨o',p',sc',m,N,s,s',e,_⟩ | ⟨o',p',N,s,s',e,rfl,h⟩
 ·simp at e
 ·have:=(append_inj' e rfl).2;simp at this;rw [this] at hx;exact absurd hx (by show ¬ ((34:Int)=36);decide)
 ·have:=(append_inj' e rfl).1;subst this;exact ⟨p',_,rfl,rfl,h⟩
theorem Stk.wh_top {o' p:List Xi}{x:Xi}(h:Stk c done al (o'++[x]) p sc)(hx:x.c_≠36):∃ p' sc' m s',p=p'++[⟨34,x.n_,s'⟩]/\x.c_=34/\sc=sc'++[m]/\Stk c done al o' p' sc'/\Lvl c done x.G_ s' al sc:=by
 rcases h.inv with ⟨e,_⟩ | ⟨o',p',sc',m,N,s,s',e,rfl,rfl,h1,h2⟩ | ⟨o',p',N,s,s',e,rfl,h⟩
 ·simp at e
 ·have e1:=(append_inj' e rfl).1;have e2:=(append_inj' e rfl).2;simp at e2;subst e1;subst e2;exact ⟨p',sc',m,s',rfl,rfl,rfl,h1,h2⟩
 ·have:=(append_inj' e rfl).2;simp at this;rw [this] at hx;exact absurd rfl hx
theorem zwz {i j:Xd}(h:i.c_=j.c_)(hA:i.A_=j.A_)(hB:i.B_=j.B_)(hC:i.C_=j.C_):z13 i=z13 j:=by rw [(z58 i).1,(z58 j).1,h,hA,hB,hC]
theorem RJ.step (h:RJ c done set set' o p sc al)(hst:z1k c i set o=true)(hd:z10 i=true->¬ on done i.D_.toNat) :
  ((ruS c (rdI al i) sc al).1=true->z1k c (rdI al i) set' p=true/\RJ c (z2n i done) (z1y i set o).1 (z1y (rdI al i) set' p).1 (z1y i set o).2 (z1y (rdI al i) set' p).2 (ruS c (rdI al i) sc al).2.1 (ruS c (rdI al i) sc al).2.2)
  /\((ruS c (rdI al i) sc al).1=false->RJ c (z2n i done) (z1y i set o).1 set' (z1y i set o).2 p (ruS c (rdI al i) sc al).2.1 (ruS c (rdI al i) sc al).2.2):=by
 have hf:=zhl hst
 have hrd:z2k set i=true:=by unfold z1k at hst;simp only [and_eq_true] at hst;exact hst.2.2.1
 have hlike:=ybo h.cur h.aok hf hrd;have hrd':=ybp h.cur hf hrd;obtain ⟨sc0,m,esc,hstk⟩:=h.stk;obtain ⟨k1,k2,k3⟩:=hstk.skel;have hst':z1k c (rdI al i) set' p=true:=zr1 hlike rfl rfl k1 k2 k3 hrd' hst;have hIn:=zaq hf;have eo:(rdI al i).c_=i.c_:=rfl;have eD:(rdI al i).D_=i.D_:=rfl;have eN:(rdI al i).N_=i.N_:=rfl;have es:∀ s,z2n (rdI al i) s=z2n i s:=λs=>rfl;by_cases h34:i.c_=34
 ·have e:ruS c (rdI al i) sc al=(true,sc++[[]],al):=by unfold ruS;rw [eo,h34];rfl
  rw [e,(zky h34).1,(zky (i:=rdI al i) h34).1,zbo (zd7 (.inl h34))];refine ⟨λ_=>⟨hst',h.aok,h.new,h.len,⟨h.cur.len,h.cur.len',h.cur.regs,h.cur.dn,λm' hm y hy=>?_⟩,⟨sc,[],rfl,?_⟩⟩,λq=>by cases q⟩
  ·rcases mem_append.1 hm with hm | hm
   ·exact h.cur.kept m' hm y hy
   ·obtain rfl:=mem_singleton.1 hm;cases hy
  ·have hc:=h.cur;subst esc;exact .wh hstk hc
 ·by_cases h35:i.c_=35
  ·have e:ruS c (rdI al i) sc al=(true,sc.take (sc.length - 1),al):=by unfold ruS;rw [eo,h35];rfl
   have et:sc.take (sc.length - 1)=sc0:=by rw [esc];simp
   obtain ⟨o',x,e1,e2,e3⟩:=zkz h35 hst
   have hx:x.c_≠36:=λq=>by
    have:z2y [x]=[]:=by unfold z2y;simp [q]
    rw [e1,zam,this] at e2;have:=congrArg List.length e2;simp at this
   rw [e1] at hstk;obtain ⟨p',sc',m',s',e4,_,e5,hk,hl⟩:=hstk.wh_top hx;obtain ⟨p'',x',w1,w2,w3⟩:=zkz (i:=rdI al i) h35 hst';rw [e4] at w1;obtain rfl:=(append_inj' w1 rfl).1;have:=(append_inj' w1 rfl).2;simp at this;subst this;rw [e,e3,w3,et,zbo (zd7 (.inr (.inl h35)))];exact ⟨λ_=>⟨hst',h.aok,h.new,h.len,hl,⟨sc',m',e5,hk⟩⟩,λq=>by cases q⟩
  ·have b34:(i.c_==34)=false:=by simpa using h34
   have b35:(i.c_==35)=false:=by simpa using h35
   by_cases h36:i.c_=36
   ·have e:ruS c (rdI al i) sc al=(true,sc,al):=by unfold ruS cpy mem;rw [eo,h36,zv8,zd7 (.inr (.inr (.inl h36)))];rfl
    rw [e,zun h36,zun (i:=rdI al i) h36,zbo (zd7 (.inr (.inr (.inl h36))))];exact ⟨λ_=>⟨hst',h.aok,h.new,h.len,h.cur,⟨sc0,m,esc,.lp hstk⟩⟩,λq=>by cases q⟩
   ·by_cases h37:i.c_=37
    ·have e:ruS c (rdI al i) sc al=(true,sc,al):=by unfold ruS cpy mem;rw [eo,h37,zv8,zd7 (.inr (.inr (.inr h37)))];rfl
     rw [e,zuo h37,zuo (i:=rdI al i) h37,zbo (zd7 (.inr (.inr (.inr h37))))];refine ⟨λ_=>⟨hst',h.aok,h.new,h.len,h.cur,⟨sc0,m,esc,?_⟩⟩,λq=>by cases q⟩
     have hpl:z1i o=true:=by unfold z1k z5d at hst;simp only [and_eq_true] at hst;have:=hst.2.2.2;rw [h37] at this;exact this
     rcases List.eq_nil_or_concat o with rfl | ⟨o',x,rfl⟩
     ·cases hpl
     ·rw [List.concat_eq_append] at hpl hstk ⊢;rw [(z34 o' x).1] at hpl;obtain ⟨p',y,rfl,_,hk⟩:=hstk.lp_top (by simpa using hpl);rw [List.dropLast_concat,List.dropLast_concat];exact hk
    ·rw [zup h34 h35 h36 h37,zup (i:=rdI al i) h34 h35 h36 h37];unfold ruS;rw [eo,eD,b34,b35];simp only [cond_false,es]
     have hDr:z10 i=true->0<=i.D_/\i.D_<c.a_.length:=λh=>by obtain ⟨t,ht,_⟩:=z7a hf h;exact (z6c ht).2
     cases hcp:cpy c (rdI al i) with
     | true =>
      have hcp':=hcp;unfold cpy at hcp';rw [eo,eD] at hcp';obtain ⟨e3,et⟩:=and_eq_true_iff.1 hcp';have e3:i.c_=3:=by simpa using e3
      have hs:z10 i=true:=by unfold z10;rw [e3];rfl
      have hA:(rdI al i).A_∈z13 (rdI al i):=zpt (by rw [eo,e3];decide);have hon:on set' (rdI al i).A_.toNat:=y9p hrd' hA;exact ⟨λq=>(by cases q),λ_=>h.drop hs (hDr hs) (hd hs) (y6m h.aok hIn e3) hon (ya6 et)⟩
     | false =>
      simp only [cond_false];cases hm:mem (rdI al i) with
      | false=>exact ⟨λ_=>⟨hst',h.el hf hd⟩,λq=>by cases q⟩
      | true =>
       have hs:z10 i=true:=by unfold mem at hm;exact (and_eq_true_iff.1 hm).1
       obtain ⟨d0,d1⟩:=hDr hs;simp only [cond_true];cases hfd:z5m sc (zat c (rdI al i)) with
       | some r =>
        obtain ⟨m',hm',y,hy,ey,rfl⟩:=zm7 hfd;obtain ⟨q1,q2,q3,q4⟩:=h.cur.kept m' hm' y hy
        have hlt:y.v_.toNat<c.a_.length:=by
         rcases Nat.lt_or_ge y.v_.toNat set'.length with h' | h'
         ·rw [h.cur.len'] at h';exact h'
         ·unfold on at q2;rw [List.getElem?_eq_none h'] at q2;cases q2
        exact ⟨λq=>(by cases q),λ_=>h.drop hs ⟨d0,d1⟩ (hd hs) ⟨q1,by omega⟩ q2 (by rw [q3,ey];rfl)⟩
       | none =>refine ⟨λ_=>⟨hst',(h.el hf hd).put d0 (z53 hs (by rw [h.cur.len'];omega)) rfl (λz hz=>?_)⟩,λq=>by cases q⟩;have er:z13 (zat c (rdI al i)).i_=z13 (rdI al i):=zwz rfl rfl rfl rfl;rw [er] at hz;obtain ⟨z0,hz0,rfl⟩:=zq3 hz;obtain ⟨g1,g2,_,g4,_⟩:=zl4 h.cur hf hrd hz0;exact ⟨(zkk h.aok ⟨g1,g2⟩).1,z32 g4⟩
end
theorem zvb {n:Nat}(h:200<=n):y5i n ()=some true:=by
 obtain ⟨m,rfl⟩:∃ m,n=m+200:=⟨n - 200,by omega⟩
 kernel_rfl
section
variable {c:Xe}{set set' done:List Bool}{o p:List Xi}{sc:Scs}{al:List Int}
theorem zhk {i:Xd}{l:List Xd}{s:List Bool}(h:z19 (i::l) s=true):(z10 i=true->¬ on s i.D_.toNat)/\z19 l (z2n i s)=true:=by
 unfold z19 at h;unfold z2n on;cases hs:z10 i with
 | false=>rw [hs] at h;exact ⟨λq=>(by cases q),h⟩
 | true =>
  rw [hs] at h;cases hg:(s[i.D_.toNat]?).getD false with
  | true=>rw [hg] at h;cases h
  | false=>rw [hg] at h;exact ⟨λ_ q=>(by cases q),h⟩
theorem y46 {i:Xd}{l:List Xd}{s:List Bool}(h1:z10 i=true->¬ on s i.D_.toNat)(h2:z19 l (z2n i s)=true):z19 (i::l) s=true:=by
 unfold z19;unfold z2n at h2;unfold on at h1;cases hs:z10 i with
 | false=>rw [hs] at h2;exact h2
 | true =>rw [hs] at h2;cases hg:(s[i.D_.toNat]?).getD false with | true=>exact absurd hg (h1 hs) | false=>exact h2
theorem z62 (i:Xd)(l:List Xd)(sc:Scs)(al:List Int):ruL c (i::l) sc al=(bif (ruS c (rdI al i) sc al).1 then [rdI al i] else [])++ruL c l (ruS c (rdI al i) sc al).2.1 (ruS c (rdI al i) sc al).2.2:=rfl
theorem zpa:∀ (l:List Xd) (k k':Nat) (done set set':List Bool) (o p:List Xi) (sc:Scs) (al:List Int) (r:List Bool×List Xi),RJ c done set set' o p sc al->z19 l done=true->goR c l k set o = .inr r ->
  ∃ r',goR c (ruL c l sc al) k' set' p = .inr r'/\r'.2.length=r.2.length
 | [],k,k',done,set,set',o,p,sc,al,r,h,hs,hg=>by obtain ⟨sc0,m,e,hk⟩:=h.stk;have hg:(Sum.inr (set,o):Nat⊕_) = .inr r:=hg;cases hg;exact ⟨(set',p),rfl,hk.skel.2.2⟩
 | i::l,k,k',done,set,set',o,p,sc,al,r,h,hs,hg=>by
  obtain ⟨h1,h2⟩:=zhk hs;rw [zhz] at hg;cases hst:z1k c i set o with
  | false=>rw [hst] at hg;cases hg
  | true =>
   rw [hst,cond_true] at hg;obtain ⟨s1,s2⟩:=h.step hst h1;rw [z62];cases hr:(ruS c (rdI al i) sc al).1 with
   | true =>obtain ⟨t1,t2⟩:=s1 hr;obtain ⟨r',e1,e2⟩:=zpa l (k+1) (k'+1) _ _ _ _ _ _ _ r t2 h2 hg;refine ⟨r',?_,e2⟩;rw [cond_true,singleton_append,zhz,t1];exact e1
   | false =>obtain ⟨r',e1,e2⟩:=zpa l (k+1) k' _ _ _ _ _ _ _ r (s2 hr) h2 hg;exact ⟨r',e1,e2⟩
theorem zmo (c:Xe)(k:Nat):¬ on (z28 c) k:=by unfold on;rw [List.getElem?_replicate];split<;>simp
theorem RJ.start (c:Xe):RJ c (z28 c) (z28 c) (z28 c) [] [] [[]] (z20 c.a_.length):=by
 refine ⟨zmq _,λr hr _=>?_,by simp,⟨by simp,by simp,λr hr=>absurd hr (zmo c r),λr hr=>absurd hr (zmo c r),λm hm y hy=>?_⟩,⟨[],[],rfl,.nil⟩⟩
 ·unfold atR z20;rw [Int.toNat_natCast,List.getElem?_map,List.getElem?_range hr];rfl
 ·obtain rfl:=mem_singleton.1 hm;cases hy
theorem zh5:∀ (l:List Xd) (sc:Scs) (al:List Int),List.Sublist ((ruL c l sc al).map (·.c_)) (l.map (·.c_))
 | [],_,_=>.slnil
 | i::l,sc,al=>by rw [z62,List.map_cons];cases (ruS c (rdI al i) sc al).1 with | true=>exact (zh5 l _ _).cons_cons _ | false=>exact (zh5 l _ _).cons _
theorem zv2:∀ (l:List Xd) (sc:Scs) (al:List Int),∀ j∈ruL c l sc al,∃ i∈l,∃ al',j=rdI al' i
 | [],_,_,j,h=>by cases h
 | i::l,sc,al,j,h=>by
  rw [z62] at h;rcases mem_append.1 h with h | h
  ·cases hr:(ruS c (rdI al i) sc al).1 with | true=>rw [hr] at h;exact ⟨i,List.mem_cons_self,al,mem_singleton.1 h⟩ | false=>rw [hr] at h;cases h
  ·obtain ⟨i',h1,h2⟩:=zv2 l _ _ j h;exact ⟨i',List.mem_cons_of_mem _ h1,h2⟩
theorem y6w (c:Xe):List.Sublist ((z23 c).map (·.c_)) (c.d_.map (·.c_)):=by unfold z23;cases z19 c.d_ (z28 c) with | true=>exact zh5 _ _ _ | false=>exact List.Sublist.refl _
theorem zq8 (c:Xe):(z23 c).length<=c.d_.length:=by simpa using (y6w c).length_le
theorem y3y {c:Xe}(hu:zkj c):∀ j∈z23 c,0<=j.m_/\j.m_<4294967296:=by
 unfold z23;cases z19 c.d_ (z28 c) with
 | true =>intro j hj;obtain ⟨i,hi,al',rfl⟩:=zv2 _ _ _ j hj;exact hu.2 i hi
 | false=>exact hu.2
abbrev z61 (c:Xe):Xe:=⟨c.f_,c.a_,c.e_,z23 c⟩
theorem zrb {c:Xe}(h:(chk c).1=0):(chk (z61 c)).1=0:=by
 unfold z61 z23;cases hs:z19 c.d_ (z28 c) with
 | false=>exact h
 | true =>obtain ⟨_,q1,q2,q3,q4,q5,r,q6,q7⟩:=zfe h;simp only [decide_eq_false_iff_not] at q2;obtain ⟨r',e1,e2⟩:=zpa c.d_ 0 0 _ _ _ _ _ _ _ r (RJ.start c) hs q6;have hl:=(zh5 (c:=c) c.d_ [[]] (z20 c.a_.length)).length_le;rw [length_map,length_map] at hl;rw [cond_true,ycb h _ (by omega),e1];rw [q7] at e2;have e2:r'.2.length=0:=e2;simp [e2]
theorem ybz {c:Xe}(hu:zkj c):zkj (z61 c):=⟨hu.1,y3y hu⟩
theorem y49 {c:Xe}(hs:zdf c):zdf (z61 c):=⟨hs.s,hs.r,hs.l,by have:=zq8 c;have:=hs.i;show (z23 c).length * 56<=_;omega⟩
theorem zq9 {c:Xe}(h:(chk c).1=0):z9b c=(0,c.f_,c.a_,c.e_,z23 c):=by unfold z9b;rw [h];rfl
theorem ybu {c:Xe}(h:(chk c).1≠0):z9b c=(160,[],[],[],[]):=by
 have h1:((chk c).1 != 0)=true:=by simpa using h
 unfold z9b;rw [h1];rfl
def zoy (a:Xe):Nat:=zcw a+2000000
end
section
variable {c:Xe}
theorem zxr {R:Nat}{k:Int}(h:0<=k/\k<R):atR (z20 R) k=k:=by unfold atR z20;rw [List.getElem?_map,List.getElem?_range (by omega)];show ((k.toNat:Nat):Int)=k;omega
theorem y3t {R:Nat}{j:Xd}(h:InR R j):rdI (z20 R) j=j:=by
 obtain ⟨op,d,a,b,cc,N,bits⟩:=j
 have key:∀ (k:Nat) (x:Int),(k<nrO op->0<=x/\x<R)->(bif Nat.blt k (nrO op) then atR (z20 R) x else x)=x:=λk x hx=>by cases q:Nat.blt k (nrO op) with | false=>rfl | true=>exact zxr (hx (le_of_ble_eq_true q))
 unfold rdI;simp only;rw [key 0 a (λq=>h _ (zpt (i:=⟨op,d,a,b,cc,N,bits⟩) q)),key 1 b (λq=>h _ (y6j (i:=⟨op,d,a,b,cc,N,bits⟩) q)),key 2 cc (λq=>h _ (y6k (i:=⟨op,d,a,b,cc,N,bits⟩) q))]
theorem y40 {j:Xd}{sc:Scs}{al al':List Int}:(ruS c j sc al).1=(ruS c j sc al').1/\(ruS c j sc al).2.1=(ruS c j sc al').2.1/\((ruS c j sc al).1=true->(ruS c j sc al).2.2=al)/\((ruS c j sc al).1=false->(ruS c j sc al).2.1=sc):=by
 unfold ruS;cases j.c_==34 with
 | true=>exact ⟨rfl,rfl,λ_=>rfl,λq=>by cases q⟩
 | false =>
  cases j.c_==35 with
  | true=>exact ⟨rfl,rfl,λ_=>rfl,λq=>by cases q⟩
  | false =>
   cases cpy c j with
   | true=>exact ⟨rfl,rfl,λq=>(by cases q),λ_=>rfl⟩
   | false =>
    cases mem j with
    | false=>exact ⟨rfl,rfl,λ_=>rfl,λq=>by cases q⟩
    | true =>
     simp only [cond_false,cond_true];cases z5m sc (zat c j) with
     | some r=>exact ⟨rfl,rfl,λq=>(by cases q),λ_=>rfl⟩
     | none=>exact ⟨rfl,rfl,λ_=>rfl,λq=>by cases q⟩
theorem zic:∀ (l:List Xd) (sc:Scs) (al:List Int),(∀ j∈ruL c l sc al,InR c.a_.length j)->ruL c (ruL c l sc al) sc (z20 c.a_.length)=ruL c l sc al
 | [],_,_,_=>rfl
 | i::l,sc,al,h=>by
  rw [z62] at h ⊢;obtain ⟨h1,h2,h3,h4⟩:=y40 (c:=c) (j:=rdI al i) (sc:=sc) (al:=al) (al':=z20 c.a_.length);cases hr:(ruS c (rdI al i) sc al).1 with
  | false =>rw [hr] at h;rw [cond_false,List.nil_append,h4 hr];rw [h4 hr] at h;exact zic l _ _ h
  | true =>rw [hr] at h;rw [cond_true,singleton_append,z62];have hj:rdI (z20 c.a_.length) (rdI al i)=rdI al i:=y3t (h _ List.mem_cons_self);rw [hj,<- h1,hr,cond_true,singleton_append,<- h2,(y40 (c:=c) (j:=rdI al i) (sc:=sc) (al:=z20 c.a_.length) (al':=z20 c.a_.length)).2.2.1 (h1 ▸ hr)];rw [zic l _ _ (λj hj=>h j (List.mem_cons_of_mem _ hj))]
theorem zg3:∀ (l:List Xd) (sc:Scs) (al:List Int) (s s':List Bool),s'.length=s.length->(∀ k,on s' k->on s k)->z19 l s=true->z19 (ruL c l sc al) s'=true
 | [],_,_,_,_,_,_,_=>rfl
 | i::l,sc,al,s,s',hl,hs,h=>by
  obtain ⟨h1,h2⟩:=zhk h;rw [z62];cases (ruS c (rdI al i) sc al).1 with
  | false=>exact zg3 l _ _ _ s' (by rw [z50];exact hl) (λk hk=>z32 (hs k hk)) h2
  | true =>
   refine y46 (λq hk=>h1 q (hs _ hk)) (zg3 l _ _ _ _ (by rw [z50,z50];exact hl) (λk hk=>?_) h2);rcases zbn hk with hk | ⟨q1,q2,q3⟩
   ·exact z32 (hs k hk)
   ·rw [q2];exact z53 (i:=i) q1 (by rw [<- hl];exact q3)
theorem zx9 {c:Xe}(h:z19 c.d_ (z28 c)=true):z19 (z23 c) (z28 c)=true:=by unfold z23;rw [h];exact zg3 _ _ _ _ _ rfl (λ_ h=>h) h
theorem zx1 {c:Xe}(h:(chk c).1=0):z23 (z61 c)=z23 c:=by
 obtain ⟨_,p1,p2,p3,p4,p5,r',p6,p7⟩:=zfe (zrb h);have hf':∀ i∈z23 c,z29 (z61 c) i=true:=ze6 _ _ _ _ _ _ p6;cases hs:z19 c.d_ (z28 c) with
 | false =>
  have e:z23 c=c.d_:=by unfold z23;rw [hs];rfl
  unfold z61;rw [e];exact e
 | true =>
  have e:z23 c=ruL c c.d_ [[]] (z20 c.a_.length):=by unfold z23;rw [hs];rfl
  have e2:z19 (z61 c).d_ (z28 (z61 c))=true:=zx9 hs
  have e3:∀ l sc al,ruL (z61 c) l sc al=ruL c l sc al:=λl=>by
   induction l with
   | nil=>intros;rfl
   | cons i l ih =>intro sc al;rw [z62,z62,ih];rfl
  show (bif z19 (z61 c).d_ (z28 (z61 c)) then ruL (z61 c) (z23 c) [[]] (z20 c.a_.length) else _)=_;rw [e2,cond_true,e3,e];exact zic _ _ _ (λj hj=>zaq (c:=z61 c) (hf' j (e ▸ hj)))
theorem ybn {n:Nat}(c:Xe)(hN:zoy c<=n)(hs:zdf c)(hu:zkj c):y5j n c=some true:=by
 have hn:1000010<n:=by unfold zoy at hN;omega
 have hN2:zcw c<=n:=by unfold zoy at hN;omega
 have hN3:=hN2;unfold zcw at hN3;have e:(⟨c.f_,c.a_,c.e_,c.d_⟩:Xe)=c:=rfl;rw [yah,zva hs];simp only [Option.bind_some,e];rw [zqa hn hs hu];simp only [Option.bind_some,show ((z9b c).1 != (z9b c).1)=false by simp,cond_false];obtain ⟨k1,k2,k3,k4⟩:=hs;by_cases h:(chk c).1=0
 ·have hl:=zq8 c;have sr:=y49 ⟨k1,k2,k3,k4⟩;rw [zq9 h];have hfin:f23 n (z61 c,z61 c)=some true:=zoa (by show c.f_.length<_;omega) (by show c.a_.length<_;omega) (by show c.e_.length<_;omega) (by show (z23 c).length<_;omega) (by show c.f_.length<_;omega) (by show c.a_.length<_;omega) (by show c.e_.length<_;omega) (by show (z23 c).length<_;omega);have hfin:f23 n ((⟨c.f_,c.a_,c.e_,z23 c⟩:Xe),(⟨c.f_,c.a_,c.e_,z23 c⟩:Xe))=some true:=hfin;have htw:zkr n (⟨c.f_,c.a_,c.e_,z23 c⟩:Xe)=some (c.f_,c.a_,c.e_,z23 c):=zva sr
  have hre:zht n (⟨c.f_,c.a_,c.e_,z23 c⟩:Xe)=some (0,c.f_,c.a_,c.e_,z23 c):=by rw [show (⟨c.f_,c.a_,c.e_,z23 c⟩:Xe)=z61 c from rfl,zqa hn sr (ybz hu),zq9 (zrb h),zx1 h]
  obtain ⟨_,q1,q2,q3,q4,q5,r,q6,q7⟩:=zfe h;simp only [decide_eq_false_iff_not] at q1 q2 q3;have hsi:zw1 n c=some (z19 c.d_ (z28 c)):=y45 (by omega) (by omega) (by omega) (ze6 c _ _ _ _ _ q6);simp only [hfin,Option.bind_some,Bool.not_true,orRet_inl,cond_false,htw,hre,show ((0:Int) != 0)=false by decide,hsi]
  have tail:∀ b:Bool,((bif b then (some (.inl ((((z23 c).length:Int) != ((z23 c).length:Int)),c.f_,c.a_,c.e_,z23 c,c.f_,c.a_,c.e_,z23 c))) else (some (.inl (false,c.f_,c.a_,c.e_,z23 c,c.f_,c.a_,c.e_,z23 c))):Option (Bool×List Xa×List Xb×List Xc×List Xd×List Xa×List Xb×List Xc×List Xd⊕Bool)))=some (.inl (false,c.f_,c.a_,c.e_,z23 c,c.f_,c.a_,c.e_,z23 c)):=λb=>by
   cases b
   ·rfl
   ·rw [show (((z23 c).length:Int) != ((z23 c).length:Int))=false by simp];rfl
  rw [tail];simp only [Option.bind_some,orRet_inl,cond_false];rw [zx7 (⟨99,0,0,0,0,0,0⟩:Xd) (by omega) (by omega) (λq=>zw2 _ _ _ q)];simp only [Option.bind_some,Bo.then];rw [zx7 (⟨9,0⟩:Xb) (by omega) (by omega) (λq=>zw3 _ _ _ q)];simp only [Option.bind_some,Bo.then];rw [zx7 (⟨⟨0,0⟩,false,0,0⟩:Xc) (by omega) (by omega) (λq=>zw4 _ _ _ q)];simp only [Option.bind_some,Bo.then];simp only [Option.bind_some,hfin,cond_true];rw [zvb (by omega)];rfl
 ·rw [ybu h];have:f23 n ((⟨[],[],[],[]⟩:Xe),(⟨[],[],[],[]⟩:Xe))=some true:=y5f ⟨by simp,by simp,by simp,by simp⟩ (by unfold zcw;simp;omega);simp only [this,Option.bind_some,Bool.not_true,orRet_inl,cond_false,show ((160:Int) != 0)=true by decide,cond_true];rw [zvb (by omega)];rfl
end
abbrev y9y:Ty:=.str
def y9x (R:Nat->Nat->Prop)(x:ByteArray):Prop:=R x.size 1
theorem ymu {R:Nat->Nat->Prop}{cs:List AV}(h:z52 R y9y cs):∃ x:ByteArray,y9x R x/\[.sc (.string x)]=cs:=by obtain ⟨b,rfl,h⟩:=h;exact ⟨b,h,rfl⟩
abbrev z6v:Ty:=.int .i64
def z6u (_:Nat->Nat->Prop)(x:Int):Prop:=(Lit.int .i64 x).wf=true
theorem z7x {R:Nat->Nat->Prop}{cs:List AV}(h:z52 R z6v cs):∃ x:Int,z6u R x/\[.sc (.int .i64 x)]=cs:=by obtain ⟨n,rfl,h⟩:=h;exact ⟨n,h,rfl⟩
abbrev zf9:Ty:=.st (.cons y9y (.cons z6v (.cons z6v (.nil))))
structure zf5 (R:Nat->Nat->Prop) (x:Xa):Prop where
 q_:y9x R x.q_
 j_:z6u R x.j_
 r_:z6u R x.r_
theorem zn5 {R:Nat->Nat->Prop}{cs:List AV}(h:z52 R zf9 cs):∃ x:Xa,zf5 R x/\(c1 false) x=cs:=by obtain ⟨_,_,rfl,h0,h⟩:=h;obtain ⟨_,_,rfl,h1,h⟩:=h;obtain ⟨_,_,rfl,h2,h⟩:=h;obtain rfl:=h;obtain ⟨x0,w0,rfl⟩:=ymu h0;obtain ⟨x1,w1,rfl⟩:=z7x h1;obtain ⟨x2,w2,rfl⟩:=z7x h2;exact ⟨⟨x0,x1,x2⟩,⟨w0,w1,w2⟩,rfl⟩
abbrev zdd:Ty:=.sl 3 32 zf9
def zdc (R:Nat->Nat->Prop)(x:List Xa):Prop:=R x.length 32/\∀ y∈x,zf5 R y
theorem zl3 {R:Nat->Nat->Prop}{cs:List AV}(h:z52 R zdd cs):∃ x:List Xa,zdc R x/\[.im 3 (x.map (c1 false))]=cs:=by obtain ⟨xs,rfl,h1,h2⟩:=h;obtain ⟨ys,h3,rfl⟩:=zaw (c:=(c1 false)) (λ_ h=>zn5 h) h1;exact ⟨ys,⟨by simpa using h2,h3⟩,rfl⟩
abbrev zbb:Ty:=.st (.cons z6v (.cons z6v (.nil)))
structure zba (R:Nat->Nat->Prop) (x:Xb):Prop where
 j_:z6u R x.j_
 n_:z6u R x.n_
theorem zg0 {R:Nat->Nat->Prop}{cs:List AV}(h:z52 R zbb cs):∃ x:Xb,zba R x/\(c2 false) x=cs:=by obtain ⟨_,_,rfl,h0,h⟩:=h;obtain ⟨_,_,rfl,h1,h⟩:=h;obtain rfl:=h;obtain ⟨x0,w0,rfl⟩:=z7x h0;obtain ⟨x1,w1,rfl⟩:=z7x h1;exact ⟨⟨x0,x1⟩,⟨w0,w1⟩,rfl⟩
abbrev zf8:Ty:=.sl 2 16 zbb
def zf4 (R:Nat->Nat->Prop)(x:List Xb):Prop:=R x.length 16/\∀ y∈x,zba R y
theorem zn4 {R:Nat->Nat->Prop}{cs:List AV}(h:z52 R zf8 cs):∃ x:List Xb,zf4 R x/\[.im 2 (x.map (c2 false))]=cs:=by obtain ⟨xs,rfl,h1,h2⟩:=h;obtain ⟨ys,h3,rfl⟩:=zaw (c:=(c2 false)) (λ_ h=>zg0 h) h1;exact ⟨ys,⟨by simpa using h2,h3⟩,rfl⟩
abbrev y4j:Ty:=.bool
def y4i (_:Nat->Nat->Prop)(x:Bool):Prop:=True
theorem yk9 {R:Nat->Nat->Prop}{cs:List AV}(h:z52 R y4j cs):∃ x:Bool,y4i R x/\[.sc (.bool x)]=cs:=by obtain ⟨b,rfl⟩:=h;exact ⟨b,trivial,rfl⟩
abbrev zxj:Ty:=.int .u32
def zne (_:Nat->Nat->Prop)(x:Int):Prop:=(Lit.int .u32 x).wf=true
theorem y9o {R:Nat->Nat->Prop}{cs:List AV}(h:z52 R zxj cs):∃ x:Int,zne R x/\[.sc (.int .u32 x)]=cs:=by obtain ⟨n,rfl,h⟩:=h;exact ⟨n,h,rfl⟩
abbrev zgb:Ty:=.st (.cons zbb (.cons y4j (.cons zxj (.cons z6v (.nil)))))
structure zg9 (R:Nat->Nat->Prop) (x:Xc):Prop where
 s_:zba R x.s_
 O_:y4i R x.O_
 m_:zne R x.m_
 u_:z6u R x.u_
theorem zq1 {R:Nat->Nat->Prop}{cs:List AV}(h:z52 R zgb cs):∃ x:Xc,zg9 R x/\(c3 false) x=cs:=by obtain ⟨_,_,rfl,h0,h⟩:=h;obtain ⟨_,_,rfl,h1,h⟩:=h;obtain ⟨_,_,rfl,h2,h⟩:=h;obtain ⟨_,_,rfl,h3,h⟩:=h;obtain rfl:=h;obtain ⟨x0,w0,rfl⟩:=zg0 h0;obtain ⟨x1,w1,rfl⟩:=yk9 h1;obtain ⟨x2,w2,rfl⟩:=y9o h2;obtain ⟨x3,w3,rfl⟩:=z7x h3;exact ⟨⟨x0,x1,x2,x3⟩,⟨w0,w1,w2,w3⟩,rfl⟩
abbrev zf7:Ty:=.sl 5 32 zgb
def zf3 (R:Nat->Nat->Prop)(x:List Xc):Prop:=R x.length 32/\∀ y∈x,zg9 R y
theorem zn3 {R:Nat->Nat->Prop}{cs:List AV}(h:z52 R zf7 cs):∃ x:List Xc,zf3 R x/\[.im 5 (x.map (c3 false))]=cs:=by obtain ⟨xs,rfl,h1,h2⟩:=h;obtain ⟨ys,h3,rfl⟩:=zaw (c:=(c3 false)) (λ_ h=>zq1 h) h1;exact ⟨ys,⟨by simpa using h2,h3⟩,rfl⟩
abbrev zga:Ty:=.st (.cons z6v (.cons z6v (.cons z6v (.cons z6v (.cons z6v (.cons z6v (.cons zxj (.nil))))))))
structure zg8 (R:Nat->Nat->Prop) (x:Xd):Prop where
 c_:z6u R x.c_
 D_:z6u R x.D_
 A_:z6u R x.A_
 B_:z6u R x.B_
 C_:z6u R x.C_
 N_:z6u R x.N_
 m_:zne R x.m_
theorem zq0 {R:Nat->Nat->Prop}{cs:List AV}(h:z52 R zga cs):∃ x:Xd,zg8 R x/\(c4 false) x=cs:=by obtain ⟨_,_,rfl,h0,h⟩:=h;obtain ⟨_,_,rfl,h1,h⟩:=h;obtain ⟨_,_,rfl,h2,h⟩:=h;obtain ⟨_,_,rfl,h3,h⟩:=h;obtain ⟨_,_,rfl,h4,h⟩:=h;obtain ⟨_,_,rfl,h5,h⟩:=h;obtain ⟨_,_,rfl,h6,h⟩:=h;obtain rfl:=h;obtain ⟨x0,w0,rfl⟩:=z7x h0;obtain ⟨x1,w1,rfl⟩:=z7x h1;obtain ⟨x2,w2,rfl⟩:=z7x h2;obtain ⟨x3,w3,rfl⟩:=z7x h3;obtain ⟨x4,w4,rfl⟩:=z7x h4;obtain ⟨x5,w5,rfl⟩:=z7x h5;obtain ⟨x6,w6,rfl⟩:=y9o h6;exact ⟨⟨x0,x1,x2,x3,x4,x5,x6⟩,⟨w0,w1,w2,w3,w4,w5,w6⟩,rfl⟩
abbrev zf6:Ty:=.sl 7 56 zga
def zf2 (R:Nat->Nat->Prop)(x:List Xd):Prop:=R x.length 56/\∀ y∈x,zg8 R y
theorem zn2 {R:Nat->Nat->Prop}{cs:List AV}(h:z52 R zf6 cs):∃ x:List Xd,zf2 R x/\[.im 7 (x.map (c4 false))]=cs:=by obtain ⟨xs,rfl,h1,h2⟩:=h;obtain ⟨ys,h3,rfl⟩:=zaw (c:=(c4 false)) (λ_ h=>zq0 h) h1;exact ⟨ys,⟨by simpa using h2,h3⟩,rfl⟩
abbrev y_T_api_Code:Ty:=.st (.cons zdd (.cons zf8 (.cons zf7 (.cons zf6 (.nil)))))
structure zb9 (R:Nat->Nat->Prop) (x:Xe):Prop where
 f_:zdc R x.f_
 a_:zf4 R x.a_
 e_:zf3 R x.e_
 d_:zf2 R x.d_
theorem r_T_api_Code {R:Nat->Nat->Prop}{cs:List AV}(h:z52 R y_T_api_Code cs):∃ x:Xe,zb9 R x/\(c15 false) x=cs:=by obtain ⟨_,_,rfl,h0,h⟩:=h;obtain ⟨_,_,rfl,h1,h⟩:=h;obtain ⟨_,_,rfl,h2,h⟩:=h;obtain ⟨_,_,rfl,h3,h⟩:=h;obtain rfl:=h;obtain ⟨x0,w0,rfl⟩:=zl3 h0;obtain ⟨x1,w1,rfl⟩:=zn4 h1;obtain ⟨x2,w2,rfl⟩:=zn3 h2;obtain ⟨x3,w3,rfl⟩:=zn2 h3;exact ⟨⟨x0,x1,x2,x3⟩,⟨w0,w1,w2,w3⟩,rfl⟩
theorem y4g {R:Nat->Nat->Prop}{x:Int}(h:zne R x):0<=x/\x<4294967296:=by
 have h:(Lit.int .u32 x).wf=true:=h;simp [Lit.wf] at h;have e1:u32.min=0:=by decide
 have e2:u32.max=4294967295:=by decide
 omega
theorem zqh {a:Xe}(h:zb9 RSaid a):zdf a/\zkj a :=
 ⟨⟨Nat.le_trans h.f_.1 (by decide),Nat.le_trans h.a_.1 (by decide),Nat.le_trans h.e_.1 (by decide),Nat.le_trans h.d_.1 (by decide)⟩,(λs hs=>y4g (h.e_.2 s hs).m_),λi hi=>y4g (h.d_.2 i hi).m_⟩
theorem pureReuseAgain (a:Xe)(h:zb9 RSaid a):∃ n,y5j n a=some true:=⟨_,ybn a (Nat.le_refl _) (zqh h).1 (zqh h).2⟩
end Loom
