import Derived.Test.YtklknkfoafdgpaaProg
import Derived.Laws.BitsAllLaws
namespace Go.Proofs.Ytklknkfoafdgpaa.LiveT
set_option linter.unusedVariables false
set_option linter.unusedSimpArgs false
abbrev RS:=Int→Bool
structure I where
 q:Bool
 d:Int
 a:Int→Bool
def inR (r:Int):Bool:=decide (0≤r)&&decide (r<512)
def idle (x:I) (S:RS):Bool:=x.q&& !S x.d
def ahead (x:I) (S:RS):RS:=if idle x S=true then S else fun r=>(S r&&r != x.d)||(inR r&&x.a r)
def Le (S T:RS):Prop:=∀ r,S r=true→T r=true
theorem Le.rfl' {S:RS}:Le S S:=fun _ h=>h
theorem Le.trans' {S T U:RS} (h:Le S T) (h2:Le T U):Le S U:=fun r hr=>h2 r (h r hr)
theorem le_antisymm' {S T:RS} (h:Le S T) (h2:Le T S):S=T:=by
 funext r
 cases hs:S r with
 |true=>exact (h r hs).symm
 |false =>
  cases ht:T r with
  |true=>rw [h2 r ht] at hs;exact absurd hs (by decide)
  |false=>rfl
theorem idle_mono {x:I} {S T:RS} (h:Le S T) (hi:idle x T=true):idle x S=true:=by
 simp only [idle,Bool.and_eq_true,Bool.not_eq_true'] at hi ⊢;refine ⟨hi.1,?_⟩;cases hs:S x.d with
 |false=>rfl
 |true=>rw [h _ hs] at hi;exact absurd hi.2 (by decide)
theorem ahead_mono (x:I) {S T:RS} (h:Le S T):Le (ahead x S) (ahead x T):=by
 intro r hr
 by_cases hT:idle x T=true
 ·have hS:=idle_mono h hT;simp only [ahead,if_pos hT];simp only [ahead,if_pos hS] at hr;exact h r hr
 ·by_cases hS:idle x S=true
  ·simp only [ahead,if_neg hT];simp only [ahead,if_pos hS] at hr;have hd:S x.d=false:=by
    simp only [idle,Bool.and_eq_true,Bool.not_eq_true'] at hS;exact hS.2
   have hne:r≠x.d:=fun he=>by rw [he,hd] at hr;exact absurd hr (by decide)
   simp [h r hr,hne]
  ·simp only [ahead,if_neg hT];simp only [ahead,if_neg hS,Bool.or_eq_true,Bool.and_eq_true] at hr;simp only [Bool.or_eq_true,Bool.and_eq_true]
   rcases hr with hr |hr
   ·exact .inl ⟨h r hr.1,hr.2⟩
   ·exact .inr hr
def back:List I→RS→RS
 |[],S=>S
 |x::l,S=>ahead x (back l S)
theorem back_mono (l:List I) {S T:RS} (h:Le S T):Le (back l S) (back l T):=by
 induction l with
 |nil=>exact h
 |cons x l ih=>exact ahead_mono x ih
theorem back_append (l m:List I) (S:RS):back (l++m) S=back l (back m S):=by
 induction l with
 |nil=>rfl
 |cons x l ih=>simp only [List.cons_append,back,ih]
def endd (nb:Nat) (W:Nat→RS) (next:List Int):RS:=fun r=>next.any fun n=>decide (0≤n)&&decide (n<nb)&&W n.toNat r
theorem endd_true {nb:Nat} {W:Nat→RS} {next:List Int} {r:Int}:endd nb W next r=true↔ ∃ n:Nat,(n:Int)∈next∧n<nb∧W n r=true:=by
 simp only [endd,List.any_eq_true,Bool.and_eq_true,decide_eq_true_eq];constructor
 ·rintro ⟨n,hn,⟨h0,h1⟩,h2⟩;exact ⟨n.toNat,by rw [Int.toNat_of_nonneg h0];exact hn,by omega,h2⟩
 ·rintro ⟨n,hn,h1,h2⟩;exact ⟨n,hn,⟨by omega,by omega⟩,by simpa using h2⟩
theorem endd_mono {nb:Nat} {W V:Nat→RS} (next:List Int) (h:∀ n,n<nb→Le (W n) (V n)):Le (endd nb W next) (endd nb V next):=by
 intro r hr;obtain ⟨n,h0,h1,h2⟩:=endd_true.mp hr;exact endd_true.mpr ⟨n,h0,h1,h n h1 r h2⟩
theorem endd_congr {nb:Nat} {W V:Nat→RS} (next:List Int) (h:∀ n,n<nb→W n=V n):endd nb W next=endd nb V next:=
 le_antisymm' (endd_mono next fun n hn=>by rw [h n hn];exact Le.rfl') (endd_mono next fun n hn=>by rw [h n hn];exact Le.rfl')
abbrev Blk:=List I×List Int
def Regs (S:RS):Prop:=∀ r,S r=true→inR r=true
theorem ahead_regs (x:I) {S:RS} (h:Regs S):Regs (ahead x S):=by
 intro r hr;simp only [ahead] at hr
 split at hr
 ·exact h r hr
 ·simp only [Bool.or_eq_true,Bool.and_eq_true] at hr
  rcases hr with hr |hr
  ·exact h r hr.1
  ·exact hr.1
theorem back_regs (l:List I) {S:RS} (h:Regs S):Regs (back l S):=by
 induction l with
 |nil=>exact h
 |cons x l ih=>exact ahead_regs x ih
theorem endd_regs {nb:Nat} {W:Nat→RS} (next:List Int) (h:∀ n,n<nb→Regs (W n)):Regs (endd nb W next):=by
 intro r hr;obtain ⟨n,h0,h1,h2⟩:=endd_true.mp hr;exact h n h1 r h2
def Pre (c:List Blk) (P:Nat→RS):Prop:=∀ b B,c[b]? =some B→Le (back B.1 (endd c.length P B.2)) (P b)
structure Lfp (c:List Blk) (W:Nat→RS):Prop where
 fix:∀ b B,c[b]? =some B→W b=back B.1 (endd c.length W B.2)
 least:∀ P,Pre c P→∀ b,b<c.length→Le (W b) (P b)
theorem Lfp.unique {c:List Blk} {W V:Nat→RS} (h:Lfp c W) (h2:Lfp c V) {b:Nat} (hb:b<c.length):W b=V b:=
 le_antisymm' (h.least V (fun b B hB=>by rw [←h2.fix b B hB];exact Le.rfl') b hb) (h2.least W (fun b B hB=>by rw [←h.fix b B hB];exact Le.rfl') b hb)
theorem Lfp.regs {c:List Blk} {W:Nat→RS} (h:Lfp c W) {b:Nat} (hb:b<c.length):Regs (W b):=by
 have:=h.least (fun b r=>W b r&&inR r) (fun b B hB r hr=>by
  have h1:Le (endd c.length (fun b r=>W b r&&inR r) B.2) (endd c.length W B.2):=endd_mono _ (fun n _ r hr=>by simp only [Bool.and_eq_true] at hr;exact hr.1);have h2:W b r=true:=by rw [h.fix b B hB];exact back_mono _ h1 r hr
  have h3:inR r=true:=back_regs _ (endd_regs _ (fun n _ r hr=>by simp only [Bool.and_eq_true] at hr;exact hr.2)) r hr;simp only [h2,h3,Bool.and_self]) b hb
 intro r hr;have h:=this r hr;simp only [Bool.and_eq_true] at h;exact h.2
section
variable {α:Type} (f:α→I)
def strip:List α→RS→List α
 |[],_=>[]
 |x::l,S=>if idle (f x) (back (l.map f) S)=true then strip l S else x::strip l S
def outs:List α→RS→List Bool
 |[],_=>[]
 |x::l,S=>idle (f x) (back (l.map f) S)::outs l S
theorem outs_length (l:List α) (S:RS):(outs f l S).length=l.length:=by
 induction l with
 |nil=>rfl
 |cons x l ih=>simp only [outs,List.length_cons,ih]
theorem ahead_idle {x:I} {S:RS} (h:idle x S=true):ahead x S=S:=by simp only [ahead,if_pos h]
theorem back_strip_le (l:List α) {S T:RS} (h:Le T S):back ((strip f l S).map f) T=back (l.map f) T:=by
 induction l with
 |nil=>rfl
 |cons x l ih =>
  simp only [strip]
  by_cases hi:idle (f x) (back (l.map f) S)=true
  ·rw [if_pos hi,ih];simp only [List.map_cons,back];rw [ahead_idle (idle_mono (back_mono _ h) hi)]
  ·rw [if_neg hi];simp only [List.map_cons,back,ih]
theorem back_strip (l:List α) (S:RS):back ((strip f l S).map f) S=back (l.map f) S:=back_strip_le f l Le.rfl'
theorem strip_strip (l:List α) (S:RS):strip f (strip f l S) S=strip f l S:=by
 induction l with
 |nil=>rfl
 |cons x l ih =>
  simp only [strip]
  by_cases hi:idle (f x) (back (l.map f) S)=true
  ·rw [if_pos hi,ih]
  ·rw [if_neg hi];simp only [strip];rw [back_strip,if_neg hi,ih]
abbrev Cd (α:Type):=List (List α×List Int)
def abs (c:Cd α):List Blk:=c.map fun b=>(b.1.map f,b.2)
def run (W:Nat→RS) (c:Cd α):Cd α:=c.map fun b=>(strip f b.1 (endd c.length W b.2),b.2)
theorem abs_length (c:Cd α):(abs f c).length=c.length:=by simp [abs]
theorem run_length (W:Nat→RS) (c:Cd α):(run f W c).length=c.length:=by simp [run]
theorem abs_get {c:Cd α} {b:Nat} {B:Blk} (h:(abs f c)[b]? =some B):∃ x,c[b]? =some x∧B=(x.1.map f,x.2):=by
 simp only [abs,List.getElem?_map,Option.map_eq_some_iff] at h;obtain ⟨x,hx,rfl⟩:=h;exact ⟨x,hx,rfl⟩
theorem get_abs {c:Cd α} {b:Nat} {x:List α×List Int} (h:c[b]? =some x):(abs f c)[b]? =some (x.1.map f,x.2):=by
 simp [abs,h]
theorem lfp_run {c:Cd α} {W:Nat→RS} (h:Lfp (abs f c) W):Lfp (abs f (run f W c)) W:=by
 have hn:(abs f (run f W c)).length=c.length:=by rw [abs_length,run_length]
 have hn0:(abs f c).length=c.length:=abs_length f c;constructor
 ·intro b B hB;obtain ⟨x,hx,rfl⟩:=abs_get f hB;simp only [run,List.getElem?_map,Option.map_eq_some_iff] at hx;obtain ⟨y,hy,rfl⟩:=hx;rw [hn];simp only;rw [back_strip,h.fix b _ (get_abs f hy),hn0]
 ·intro P hP b hb;have key:Pre (abs f c) (fun b r=>P b r&&W b r):=by
   intro b B hB;obtain ⟨y,hy,rfl⟩:=abs_get f hB;rw [hn0];have hW:Le (endd c.length (fun b r=>P b r&&W b r) y.2) (endd c.length W y.2):=endd_mono _ (fun n _ r hr=>by simp only [Bool.and_eq_true] at hr;exact hr.2);have hPl:Le (endd c.length (fun b r=>P b r&&W b r) y.2) (endd c.length P y.2):=endd_mono _ (fun n _ r hr=>by simp only [Bool.and_eq_true] at hr;exact hr.1);intro r hr;have h1:W b r=true:=by rw [h.fix b _ (get_abs f hy),hn0];exact back_mono _ hW r hr
   have hd:(abs f (run f W c))[b]? =some ((strip f y.1 (endd c.length W y.2)).map f,y.2):=get_abs f (x:=(strip f y.1 (endd c.length W y.2),y.2)) (by simp [run,hy]);have h2:=hP b _ hd r (by rw [hn];refine back_mono _ hPl r ?_;rw [back_strip_le f y.1 hW];exact hr);simp only [h1,h2,Bool.and_self]
  intro r hr;have:=h.least _ key b (by rw [hn0];rw [hn] at hb;exact hb) r hr;simp only [Bool.and_eq_true] at this;exact this.1
end
end Go.Proofs.Ytklknkfoafdgpaa.LiveT
namespace Go.Proofs.Ytklknkfoafdgpaa.LiveB
open LiveT
set_option linter.unusedVariables false
set_option linter.unusedSimpArgs false
def wd (S:RS) (i:Nat):Nat→Nat
 |0=>0
 |k+1=>wd S i k ||| (if S ((64*i+k:Nat):Int)=true then 2 ^ k else 0)
theorem testBit_wd (S:RS) (i k j:Nat):(wd S i k).testBit j=(decide (j<k)&&S ((64*i+j:Nat):Int)):=by
 induction k with
 |zero=>simp [wd]
 |succ k ih =>
  rw [wd,Nat.testBit_or,ih]
  by_cases he:k=j
  ·subst he
   by_cases hs:S ((64*i+k:Nat):Int)=true
   ·rw [if_pos hs,Nat.testBit_two_pow_self,hs];simp
   ·rw [if_neg hs];simp at hs;simp [hs]
  ·have h2:(if S ((64*i+k:Nat):Int)=true then 2 ^ k else 0).testBit j=false:=by
    split
    ·exact Nat.testBit_two_pow_of_ne he
    ·exact Nat.zero_testBit j
   rw [h2,Bool.or_false];have:decide (j<k)=decide (j<k+1):=by
    by_cases hj:j<k
    ·simp [hj];omega
    ·have h3:¬ j<k+1:=by omega
     simp [hj,h3]
   rw [this]
theorem wd_lt (S:RS) (i k:Nat):wd S i k<2 ^ k:=by
 induction k with
 |zero=>simp [wd]
 |succ k ih =>
  rw [wd];refine Nat.or_lt_two_pow ?_ ?_
  ·exact Nat.lt_of_lt_of_le ih (Nat.pow_le_pow_right (by omega) (by omega))
  ·split
   ·exact Nat.pow_lt_pow_right (by omega) (by omega)
   ·exact Nat.two_pow_pos _
def word (S:RS) (i:Nat):Nat:=wd S i 64
theorem word_lt (S:RS) (i:Nat):word S i<18446744073709551616:=wd_lt S i 64
theorem testBit_word (S:RS) (i j:Nat):(word S i).testBit j=(decide (j<64)&&S ((64*i+j:Nat):Int)):=testBit_wd S i 64 j
theorem word_congr {S T:RS} {i:Nat} (h:∀ j,j<64→S ((64*i+j:Nat):Int)=T ((64*i+j:Nat):Int)):word S i=word T i:=by
 apply Nat.eq_of_testBit_eq;intro j;rw [testBit_word,testBit_word]
 by_cases hj:j<64
 ·rw [h j hj]
 ·simp [hj]
theorem word_inj {S T:RS} (hS:Regs S) (hT:Regs T) (h:∀ i,i<8→word S i=word T i):S=T:=by
 funext r
 by_cases hr:inR r=true
 ·have h':=hr;simp only [inR,Bool.and_eq_true,decide_eq_true_eq] at h';have h1:=congrArg (fun n=>n.testBit (r.toNat % 64)) (h (r.toNat / 64) (by omega));simp only [testBit_word] at h1;have h2:((64*(r.toNat / 64)+r.toNat % 64:Nat):Int)=r:=by omega
  rw [h2,show decide (r.toNat % 64<64)=true from decide_eq_true (by omega),Bool.true_and,Bool.true_and] at h1;exact h1
 ·have a:S r=false:=by
   cases hs:S r with
   |false=>rfl
   |true=>exact absurd (hS r hs) hr
  have b:T r=false:=by
   cases hs:T r with
   |false=>rfl
   |true=>exact absurd (hT r hs) hr
  rw [a,b]
def none':RS:=fun _=>false
theorem word_none (i:Nat):word none' i=0:=by
 apply Nat.eq_of_testBit_eq;intro j;rw [testBit_word]
 simp [none']
def addR (S:RS) (r:Int):RS:=fun x=>S x||(inR r&&x==r)
def delR (S:RS) (r:Int):RS:=fun x=>S x&&x != r
def join (S T:RS):RS:=fun x=>S x||T x
theorem word_add (S:RS) (r i:Nat) (hr:r<512):word (addR S r) i=if i=r / 64 then word S i ||| 2 ^ (r % 64) else word S i:=by
 have hin:inR (r:Int)=true:=by simp [inR];omega
 apply Nat.eq_of_testBit_eq;intro j
 by_cases hi:i=r / 64
 ·rw [if_pos hi,Nat.testBit_or,testBit_word,testBit_word];simp only [addR,hin,Bool.true_and]
  by_cases hj:j<64
  ·by_cases he:r % 64=j
   ·have h3:(((64*i+j:Nat):Int)==(r:Int))=true:=by simp;omega
    rw [he,Nat.testBit_two_pow_self,h3];simp [hj]
   ·have h3:(((64*i+j:Nat):Int)==(r:Int))=false:=by simp;omega
    rw [Nat.testBit_two_pow_of_ne he,h3];simp
  ·have:r % 64≠j:=by omega
   rw [Nat.testBit_two_pow_of_ne this];simp [hj]
 ·rw [if_neg hi];have hw:word (addR S r) i=word S i:=word_congr fun j hj=>by
   have h3:(((64*i+j:Nat):Int)==(r:Int))=false:=by simp;omega
   simp only [addR,h3,Bool.and_false,Bool.or_false]
  rw [hw]
theorem word_del (S:RS) (r i:Nat) (hr:r<512):word (delR S r) i=if i=r / 64 then word S i &&& (18446744073709551615-2 ^ (r % 64)) else word S i:=by
 apply Nat.eq_of_testBit_eq;intro j
 by_cases hi:i=r / 64
 ·rw [if_pos hi,Nat.testBit_and,testBit_word,testBit_word];simp only [delR]
  by_cases hj:j<64
  ·have hb:(18446744073709551615-2 ^ (r % 64)).testBit j= !decide (r % 64=j):=by
    have h1:18446744073709551615-2 ^ (r % 64)=2 ^ 64-(2 ^ (r % 64)+1):=by omega
    rw [h1,Nat.testBit_two_pow_sub_succ (Nat.pow_lt_pow_right (by omega) (by omega)),Nat.testBit_two_pow]
    simp [hj]
   rw [hb]
   by_cases he:r % 64=j
   ·have h3:(((64*i+j:Nat):Int) != (r:Int))=false:=by simp;omega
    rw [h3];simp [he]
   ·have h3:(((64*i+j:Nat):Int) != (r:Int))=true:=by simp;omega
    rw [h3];simp [he]
  ·simp [hj]
 ·rw [if_neg hi];have hw:word (delR S r) i=word S i:=word_congr fun j hj=>by
   have h3:(((64*i+j:Nat):Int) != (r:Int))=true:=by simp;omega
   simp only [delR,h3,Bool.and_true]
  rw [hw]
theorem word_join (S T:RS) (i:Nat):word (join S T) i=word S i ||| word T i:=by
 apply Nat.eq_of_testBit_eq;intro j;rw [Nat.testBit_or,testBit_word,testBit_word,testBit_word];simp only [join];cases decide (j<64)<;>simp
theorem word_has (S:RS) (r:Nat):word S (r / 64) / 2 ^ (r % 64) % 2=if S (r:Int)=true then 1 else 0:=by
 have h:=testBit_word S (r / 64) (r % 64);rw [show 64*(r / 64)+r % 64=r by omega,show decide (r % 64<64)=true from decide_eq_true (by omega),Bool.true_and,Nat.testBit_eq_decide_div_mod_eq] at h;cases hs:S (r:Int) with
 |true=>rw [hs] at h;simp at h;simp [h]
 |false=>rw [hs] at h;simp at h;simp;omega
theorem addR_out (S:RS) (r:Int) (h:inR r=false):addR S r=S:=by funext x;simp [addR,h]
theorem delR_out {S:RS} (hS:Regs S) (r:Int) (h:inR r=false):delR S r=S:=by
 funext x
 simp only [delR]
 by_cases he:x=r
 ·subst he;cases hs:S x with
  |false=>simp
  |true=>rw [hS x hs] at h;exact absurd h (by decide)
 ·simp [he]
theorem none_regs:Regs none':=fun r hr=>by simp [none'] at hr
def addL (S:RS) (l:List Int):RS:=l.foldl addR S
theorem addL_eq (S:RS) (l:List Int):addL S l=fun x=>S x||(inR x&&l.contains x):=by
 induction l generalizing S with
 |nil=>funext x;simp [addL]
 |cons y l ih =>
  show addL (addR S y) l=_
  rw [ih]
  funext x
  simp only [addR,List.contains_cons]
  by_cases he:x=y
  ·subst he;cases S x<;>cases inR x<;>simp
  ·have hb:(x==y)=false:=by simp [he]
   rw [hb];cases S x<;>cases inR x<;>simp
end Go.Proofs.Ytklknkfoafdgpaa.LiveB
