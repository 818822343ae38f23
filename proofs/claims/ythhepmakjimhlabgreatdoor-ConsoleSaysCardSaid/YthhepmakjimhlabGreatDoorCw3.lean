/- Part 3 of the proof of ConsoleSays: a small language for the program's functions, its soundness, and what the functions do. No conditions beyond the theorems' own. -/
import Derived.Test.YthhepmakjimhlabGreatDoorCw2
import Derived.Sort.AssemblyPlain
import Derived.Sort.Walk13a
import Derived.Sort.Walk7
import Derived.Sort.WalkA6
import Derived.Sort.WalkC
set_option linter.unusedSimpArgs false
set_option linter.unusedVariables false
set_option maxRecDepth 20000
open List renaming mem_singleton -> YA, getD_eq_getElem?_getD -> Zp, mem_append -> Yd, cons_append -> Y7, nil_append -> YI, pairwise_iff_getElem -> Aa0, length_nil -> ZR, length_cons -> Y5, getElem?_eq_getElem -> Zj, mem_of_mem_take -> Z4, append_assoc -> Zy, getElem?_eq_none -> Aa1, length_append -> Zk, take_length -> Z5, length_drop -> ZO, getElem_of_mem -> Z3, mem_cons -> X5, mem_cons_of_mem -> Yb, length_take -> Zn, getElem?_range -> Aa3, getD_cons_zero -> Z6, getD_cons_succ -> Z8, pairwise_cons -> Aaq, take_of_length_le -> ZB, getElem?_map -> Aae, pairwise_append -> Aa4, length_take_le -> Aa5, getElem?_eq_some_iff -> Yk, getElem?_append_left -> Zl, length -> ZT, length_map -> Aaw, mergeSort_perm -> Aa9, length_pos_iff -> Zx, getD -> AaO, filter_append -> AaI, range -> Yh, length_range -> Abb, not_mem_nil -> AaL, getElem_set -> Abd, eq_nil_of_length_eq_zero -> Zs, take_take -> Abf, sum_cons -> Abg, map_cons -> Yj, filter_cons_of_pos -> Abh, filter_cons_of_neg -> Abi, eraseIdx_cons_succ -> Abj, take_append_drop -> ZD, mem_map -> Yu, length_filter_le -> Abl, eraseIdx_sublist -> Abm, mem_of_mem_drop -> Aac, mem_of_getElem? -> ZY, length_eraseIdx -> Abn, flatMap_append -> Z0, take_sublist -> Abq, getElem_take -> Abr, flatMap_cons -> ZL, drop_sublist -> Abs, getElem_mem -> Aah, nodup_cons -> Yr, map_append -> Aam, length_set -> Abv, drop_drop -> ZA, take_add -> Aby
open Go.Cw.Heap renaming set_ne -> ZW, le.refl -> ZX, set_eq -> Aab
open Nat renaming le_refl -> Yq, exists_eq_succ_of_ne_zero -> Aa2, xor_lt_two_pow -> Aba, one_shiftLeft -> Abc, le_trans -> YU, min_eq_left -> AaQ, zero_add -> Yn, pow_le_pow_right -> ZZ, div_mul_le_self -> Abp, min_le_right -> Abt, lt_of_not_le -> Abu, div_le_self -> Aax, sub_self -> AbA, add_zero -> YV, mod_lt -> Zi
open Int renaming toNat_natCast -> Aaa, tmod_eq_emod_of_nonneg -> Aaz
open Option renaming none -> O, some -> U, map_some -> YH
open Go.Cw.Si renaming enc -> Aa6, enc_len -> Aa7
open Bool renaming false_and -> Aa8, true_and -> Abk, not_eq_true' -> YD, and_eq_true -> X6, and_false -> Abw, and_true -> Abz
open UInt8 renaming toNat_inj -> Abe
open Array renaming extract_size -> Abo
open Go.Cw.Rd renaming bad -> Abx, enc -> AbB
open Classical renaming epsilon_spec -> AbC
namespace Go.Cw
open Go
section
variable (w n:Nat) (E:List (List Si))
def IE (e:Nat) (t:List UInt8):Int:=Iy w n (E.take (e+1)) t
def II (a b:List UInt8) (e:Nat):Nat:=if 0<=IE w n E e a/\IE w n E e a=IE w n E e b then 1 else 0
def CQ (a b:List UInt8) (lo:Nat):Nat->Nat
 |0=>0
 |m+1=>CQ a b lo m+if lo<=m then II w n E a b m else 0
def B9 (span:Nat) (a b:List UInt8) (e:Nat):Nat:=CQ w n E a b (e+1-span) (e+1)
def Cf (s p:List UInt8):Prop:=0<AK s/\AK s<AK p
def Dw (span score e:Nat) (s was r:List UInt8):Prop:=
 (r=[]/\∀ p,Cf s p->B9 w n E span s p e<score) \/
 (∃M,score<=M/\Cf s r/\B9 w n E span s r e=M/\(∀p,Cf s p->B9 w n E span s p e<=M) /\
  (r=was\/(¬(Cf s was/\B9 w n E span s was e=M)/\∀ p,Cf s p->B9 w n E span s p e=M->p=r\/Op.bytesLess r p=true)))
noncomputable def eps (P:List UInt8->Prop):List UInt8:=Classical.epsilon P
noncomputable def DF (span score:Nat) (s:List UInt8):Nat->List UInt8
 |0=>eps (Dw w n E span score 0 s [])
 |e+1=>eps (Dw w n E span score (e+1) s (DF span score s e))
noncomputable def MH (span score:Nat) (s:List UInt8):Nat->List UInt8
 |0=>[]
 |e+1=>DF w n E span score s e
end
theorem Uz {w n:Nat} {E:List (List Si)} {span score:Nat} {s:List UInt8} (e:Nat):DF w n E span score s e=eps (Dw w n E span score e s (MH w n E span score s e)):=by cases e<;>rfl
theorem Dw.uniq {w n:Nat} {E:List (List Si)} {span score e:Nat} {s was r r':List UInt8} (h:Dw w n E span score e s was r) (h':Dw w n E span score e s was r'):r=r':=by
 rcases h with⟨rfl,h⟩|⟨M,h1,h2,h3,h4,h5⟩
 ·rcases h' with⟨rfl,_⟩|⟨M,g1,g2,g3,g4,g5⟩
  ·rfl
  ·have:=h _ g2;omega
 ·rcases h' with⟨rfl,h⟩|⟨M',g1,g2,g3,g4,g5⟩
  ·have:=h _ h2;omega
  ·have hM:M=M':=by have:=h4 _ g2;have:=g4 _ h2;omega
   subst hM;rcases h5 with rfl|⟨h5,h6⟩
   ·rcases g5 with e|⟨g5,_⟩
    ·exact e.symm
    ·exact absurd ⟨h2,h3⟩ g5
   ·rcases g5 with rfl|⟨g5,g6⟩
    ·exact absurd ⟨g2,g3⟩ h5
    ·rcases h6 _ g2 g3 with e|h7
     ·exact e.symm
     ·rcases g6 _ h2 h3 with e|g7
      ·exact e
      ·rw[GW h7]at g7;cases g7
theorem L8 {w n:Nat} {E:List (List Si)} {span score e:Nat} {s r:List UInt8} (h:Dw w n E span score e s (MH w n E span score s e) r):DF w n E span score s e=r:=by
 rw[Uz];exact(AbC (p:=Dw w n E span score e s (MH w n E span score s e)) ⟨r,h⟩:Dw _ _ _ _ _ _ _ _ _).uniq h
theorem Qv {w n:Nat} {E E':List (List Si)} {e:Nat} {t:List UInt8} (he:e<E.length):IE w n (E++E') e t=IE w n E e t:=by
 unfold IE;rw[List.take_append_of_le_length oM]
theorem SB {w n:Nat} {E E':List (List Si)} {a b:List UInt8} {lo:Nat}:∀ m,m<=E.length->CQ w n (E++E') a b lo m=CQ w n E a b lo m:=by
 intro m;induction m with
 |zero=>intro _;rfl
 |succ m ih=>intro h;simp only[CQ,II];rw[ih oM,Qv oM,Qv oM]
theorem SC {w n:Nat} {E E':List (List Si)} {span:Nat} {a b:List UInt8} {e:Nat} (he:e<E.length):B9 w n (E++E') span a b e=B9 w n E span a b e:=SB _ oM
theorem LQ {w n:Nat} {E E':List (List Si)} {span score e:Nat} {s was:List UInt8} (he:e<E.length):Dw w n (E++E') span score e s was=Dw w n E span score e s was:=by
 funext r;unfold Dw;simp only[SC he]
theorem S6 {w n:Nat} {E E':List (List Si)} {span score:Nat} {s:List UInt8}:∀ e,e<E.length->DF w n (E++E') span score s e=DF w n E span score s e:=by
 intro e;induction e with
 |zero=>intro h;simp only[DF,LQ h]
 |succ e ih=>intro h;simp only[DF,LQ h,ih oM]
theorem KJ {w n:Nat} {E:List (List Si)} (hn:1<=n) {e:Nat} {t:List UInt8} (h:0<=IE w n E e t):Bb (E.take (e+1)) t:=by
 refine Classical.byContradiction λhc=>?_;have:IE w n E e t=-1:=by
  unfold IE Iy Xi;refine Jt (λp=>?_) 8;unfold BJ;rw[List.filter_eq_nil_iff.2,ZR]
  ·omega
  ·intro l hl hs;obtain⟨s,h1,h2,_⟩:=of_decide_eq_true hs;exact hc ⟨l,Aac hl,s,h1,h2⟩
 omega
theorem QE {w n:Nat} {E:List (List Si)} (hn:1<=n) {a b:List UInt8} {e:Nat} (h:0<II w n E a b e):Bb (E.take (e+1)) a/\Bb (E.take (e+1)) b:=by
 unfold II at h;split at h
 ·rename_i hc;exact⟨KJ hn hc.1,KJ hn (by rw[<-hc.2];exact hc.1)⟩
 ·omega
theorem JQ {E:List (List Si)} {t:List UInt8} {i j:Nat} (h:i<=j) (ht:Bb (E.take i) t):Bb (E.take j) t:=by
 obtain⟨l,hl,hs⟩:=ht;refine⟨l,?_,hs⟩;rw[show E.take i=(E.take j).take i by rw[Abf,AaQ h]]at hl;exact Z4 hl
theorem QD {w n:Nat} {E:List (List Si)} (hn:1<=n) {a b:List UInt8} {lo:Nat}:∀ m,0<CQ w n E a b lo m->Bb (E.take m) a/\Bb (E.take m) b:=by
 intro m;induction m with
 |zero=>intro h;simp[CQ]at h
 |succ m ih=>
  intro h;simp only[CQ]at h;by_cases h1:0<CQ w n E a b lo m
  ·obtain⟨q1,q2⟩:=ih h1;exact⟨JQ oM q1,JQ oM q2⟩
  ·split at h
   ·have h2:0<II w n E a b m:=oM;exact QE hn h2
   ·omega
theorem GY {w n:Nat} {E:List (List Si)} (hn:1<=n) {span:Nat} {a b:List UInt8} {e:Nat} (h:0<B9 w n E span a b e):Bb (E.take (e+1)) a/\Bb (E.take (e+1)) b:=QD hn _ h
theorem Uk {w n:Nat} {E:List (List Si)} {a b:List UInt8} {e:Nat}:II w n E a b e<=1:=by unfold II;split<;>omega
theorem PM {w n:Nat} {E:List (List Si)} {a b:List UInt8} {lo:Nat}:∀ m,CQ w n E a b lo m<=m:=by
 intro m;induction m with
 |zero=>simp[CQ]
 |succ m ih=>have h1:=Uk (w:=w) (n:=n) (E:=E) (a:=a) (b:=b) (e:=m);simp only[CQ];split<;>omega
theorem Uy {w n:Nat} {E:List (List Si)} (hn:1<=n) {span score e:Nat} (hs:1<=score) {s:List UInt8} (h:AK s<=0\/¬ Bb (E.take (e+1)) s):DF w n E span score s e=[]:=by
 refine L8 (.inl ⟨rfl,λp hp=>?_⟩);rcases h with h|h
 ·have:=hp.1;omega
 ·refine Abu λhc=>h (GY hn (show 0<B9 w n E span s p e by omega)).1
end Go.Cw
namespace Go.Cw
open Go
def E7 (T:List UInt8->Nat) (score:Nat) (s was:List UInt8) (pre:List (List UInt8)) (best:List UInt8) (most:Int):Prop:=
 (best=[]/\most=(score:Int)-1/\∀ p∈pre,Cf s p->T p<score) \/
 ((score:Int)<=most/\Cf s best/\best∈pre/\(T best:Int)=most/\(∀p∈pre,Cf s p->(T p:Int)<=most) /\
  (best=was\/(¬(was∈pre/\Cf s was/\(T was:Int)=most)/\∀ p∈pre,Cf s p->(T p:Int)=most->p=best\/Op.bytesLess best p=true)))
variable {T:List UInt8->Nat} {score:Nat} {s was:List UInt8} {pre:List (List UInt8)} {best:List UInt8} {most:Int} {p:List UInt8}
theorem E7.nil:E7 T score s was [] [] ((score:Int)-1):=.inl ⟨rfl,rfl,by simp⟩
theorem E7.skip (h:E7 T score s was pre best most) (hp:¬ Cf s p):E7 T score s was (pre++[p]) best most:=by
 have hm:∀ {q},q∈pre++[p]->Cf s q->q∈pre:=by
  intro q hq hc;rw[Yd,YA]at hq;rcases hq with hq|rfl
  ·exact hq
  ·exact absurd hc hp
 rcases h with⟨h1,h2,h3⟩|⟨h1,h2,h3,h4,h5,h6⟩
 ·exact .inl ⟨h1,h2,λq hq hc=>h3 q (hm hq hc) hc⟩
 ·refine .inr ⟨h1,h2,by simp[h3],h4,λq hq hc=>h5 q (hm hq hc) hc,h6.imp id λ⟨a,b⟩=>⟨λ⟨q1,q2,q3⟩=>a ⟨hm q1 q2,q2,q3⟩,λq hq hc=>b q (hm hq hc) hc⟩⟩
theorem E7.take (h:E7 T score s was pre best most) (hp:Cf s p) (hord:∀ q∈pre,Op.bytesLess q p=true) (hs:1<=score)
  (hc:most<(T p:Int)\/((T p:Int)=most/\(score:Int)<=T p/\p=was)):E7 T score s was (pre++[p]) p (T p):=by
 have hall:∀ q∈pre,Cf s q->(T q:Int)<=T p:=by
  intro q hq hcq;rcases h with⟨h1,h2,h3⟩|⟨h1,h2,h3,h4,h5,h6⟩
  ·have:=h3 q hq hcq;omega
  ·have:=h5 q hq hcq;omega
 have hsc:(score:Int)<=T p:=by
  rcases hc with hc|hc
  ·rcases h with⟨h1,h2,h3⟩|⟨h1,h2,h3,h4,h5,h6⟩<;>omega
  ·exact hc.2.1
 refine .inr ⟨hsc,hp,by simp,rfl,λq hq hcq=>?_,?_⟩
 ·rw[Yd,YA]at hq;rcases hq with hq|rfl
  ·exact hall q hq hcq
  ·omega
 ·by_cases hw:p=was
  ·exact .inl hw
  ·refine .inr ?_;have hgt:most<(T p:Int):=by
    rcases hc with hc|hc
    ·exact hc
    ·exact absurd hc.2.2 hw
   have hlt:∀ q∈pre,Cf s q->(T q:Int)<T p:=by
    intro q hq hcq;rcases h with⟨h1,h2,h3⟩|⟨h1,h2,h3,h4,h5,h6⟩
    ·have:=h3 q hq hcq;omega
    ·have:=h5 q hq hcq;omega
   refine⟨λ⟨q1,q2,q3⟩=>?_,λq hq hcq he=>?_⟩
   ·rw[Yd,YA]at q1;rcases q1 with q1|e
    ·have:=hlt _ q1 q2;omega
    ·exact hw e.symm
   ·rw[Yd,YA]at hq;rcases hq with hq|rfl
    ·have:=hlt _ hq hcq;omega
    ·exact .inl rfl
theorem E7.leave (h:E7 T score s was pre best most) (hp:Cf s p) (hord:∀ q∈pre,Op.bytesLess q p=true)
  (hc:¬ (most<(T p:Int)\/((T p:Int)=most/\(score:Int)<=T p/\p=was))):E7 T score s was (pre++[p]) best most:=by
 rcases h with⟨h1,h2,h3⟩|⟨h1,h2,h3,h4,h5,h6⟩
 ·refine .inl ⟨h1,h2,λq hq hcq=>?_⟩;rw[Yd,YA]at hq;rcases hq with hq|rfl
  ·exact h3 q hq hcq
  ·omega
 ·refine .inr ⟨h1,h2,by simp[h3],h4,λq hq hcq=>?_,h6.imp id λ⟨a,b⟩=>⟨λ⟨q1,q2,q3⟩=>?_,λq hq hcq he=>?_⟩⟩
  ·rw[Yd,YA]at hq;rcases hq with hq|rfl
   ·exact h5 q hq hcq
   ·omega
  ·rw[Yd,YA]at q1;rcases q1 with q1|e
   ·exact a ⟨q1,q2,q3⟩
   ·subst e;exact hc (.inr ⟨q3,oM,rfl⟩)
  ·rw[Yd,YA]at hq;rcases hq with hq|rfl
   ·exact b q hq hcq he
   ·exact .inr (hord _ h3)
def Hl (T:List UInt8->Nat) (s:List UInt8) (pre:List (List UInt8)) (best:Nat):Prop:=
 (∀p∈pre,Cf s p->T p<=best)/\(best=0\/∃ p∈pre,Cf s p/\T p=best)
theorem Hl.nil:Hl T s [] 0:=⟨by simp,.inl rfl⟩
theorem Hl.skip {b:Nat} (h:Hl T s pre b) (hp:¬ Cf s p):Hl T s (pre++[p]) b:=by
 refine⟨λq hq hc=>?_,h.2.imp id λ⟨q,q1,q2⟩=>⟨q,by simp[q1],q2⟩⟩;rw[Yd,YA]at hq;rcases hq with hq|rfl
 ·exact h.1 q hq hc
 ·exact absurd hc hp
theorem Hl.more {b:Nat} (h:Hl T s pre b) (hp:Cf s p):Hl T s (pre++[p]) (max b (T p)):=by
 refine⟨λq hq hc=>?_,?_⟩
 ·rw[Yd,YA]at hq;rcases hq with hq|rfl
  ·have:=h.1 q hq hc;omega
  ·omega
 ·rcases Nat.le_total b (T p)with hb|hb
  ·exact .inr ⟨p,by simp,hp,oM⟩
  ·refine h.2.imp (λe=>by omega) λ⟨q,q1,q2,q3⟩=>⟨q,by simp[q1],q2,oM⟩
def Fz (T:List UInt8->Nat) (s was:List UInt8) (M:Nat) (pre:List (List UInt8)) (first:List UInt8):Prop:=
 ¬ (was∈pre/\Cf s was/\T was=M)/\((first=[]/\∀ p∈pre,Cf s p->T p≠M)\/(first∈pre/\Cf s first/\T first=M/\∀ p∈pre,Cf s p->T p=M->p=first\/Op.bytesLess first p=true))
theorem Fz.nil {M:Nat}:Fz T s was M [] []:=⟨by simp,.inl ⟨rfl,by simp⟩⟩
theorem Cf.ne {q:List UInt8} (h:Cf s q):q≠[]:=by
 rintro rfl;have h1:=h.1;have h2:=h.2;have:AK []=0:=by decide
 omega
theorem Fz.skip {M:Nat} {first:List UInt8} (h:Fz T s was M pre first) (hp:¬ (Cf s p/\T p=M)):Fz T s was M (pre++[p]) first:=by
 have hm:∀ {q},q∈pre++[p]->Cf s q->T q=M->q∈pre:=by
  intro q hq hc ht;rw[Yd,YA]at hq;rcases hq with hq|rfl
  ·exact hq
  ·exact absurd ⟨hc,ht⟩ hp
 refine⟨λ⟨q1,q2,q3⟩=>h.1 ⟨hm q1 q2 q3,q2,q3⟩,h.2.imp (λ⟨a,b⟩=>⟨a,λq hq hc ht=>b q (hm hq hc ht) hc ht⟩) λ⟨a,b,c,d⟩=>⟨by simp[a],b,c,λq hq hc ht=>d q (hm hq hc ht) hc ht⟩⟩
theorem Fz.take {M:Nat} {first:List UInt8} (h:Fz T s was M pre first) (hp:Cf s p) (ht:T p=M) (hw:p≠was) (hord:∀ q∈pre,Op.bytesLess q p=true):Fz T s was M (pre++[p]) (if first=[]then p else first):=by
 refine⟨λ⟨q1,q2,q3⟩=>?_,.inr ?_⟩
 ·rw[Yd,YA]at q1;rcases q1 with q1|e
  ·exact h.1 ⟨q1,q2,q3⟩
  ·exact hw e.symm
 ·rcases h.2 with⟨rfl,hn⟩|⟨h1,h2,h3,h4⟩
  ·rw[if_pos rfl];refine⟨by simp,hp,ht,λq hq hc he=>?_⟩;rw[Yd,YA]at hq;rcases hq with hq|rfl
   ·exact absurd he (hn q hq hc)
   ·exact .inl rfl
  ·rw[if_neg h2.ne];refine⟨by simp[h1],h2,h3,λq hq hc he=>?_⟩;rw[Yd,YA]at hq;rcases hq with hq|rfl
   ·exact h4 q hq hc he
   ·exact .inr (hord _ h1)
section
variable {w n:Nat} {E:List (List Si)} {span e:Nat}
theorem E7.par {l:List (List UInt8)} (h:E7 (λp=>B9 w n E span s p e) score s was l best most) (hs:1<=score)
  (hl:∀ p,Cf s p->0<B9 w n E span s p e->p∈l):Dw w n E span score e s was best:=by
 unfold E7 at h;dsimp only at h;rcases h with⟨h1,h2,h3⟩|⟨h1,h2,h3,h4,h5,h6⟩
 ·refine .inl ⟨h1,λp hp=>?_⟩;refine Abu λhc=>?_;have:=h3 p (hl p hp oM) hp;omega
 ·have hM:most=((B9 w n E span s best e:Nat):Int):=h4.symm;subst hM;refine .inr ⟨_,oM,h2,rfl,λp hp=>?_,?_⟩
  ·by_cases h0:0<B9 w n E span s p e
   ·have:=h5 p (hl p hp h0) hp;omega
   ·omega
  ·rcases h6 with h6|⟨h6,h7⟩
   ·exact .inl h6
   ·refine .inr ⟨λ⟨q1,q2⟩=>h6 ⟨hl _ q1 oM,q1,by rw[q2]⟩,λp hp he=>h7 p (hl p hp oM) hp (by rw[he])⟩
theorem Hl.ltP {l:List (List UInt8)} {b:Nat} (h:Hl (λp=>B9 w n E span s p e) s l b) (hs:1<=score) (hb:b<score)
  (hl:∀ p,Cf s p->0<B9 w n E span s p e->p∈l):Dw w n E span score e s was []:=by
 unfold Hl at h;dsimp only at h;refine .inl ⟨rfl,λp hp=>?_⟩;by_cases h0:0<B9 w n E span s p e
 ·have:=h.1 p (hl p hp h0) hp;omega
 ·omega
theorem Hl.wasP {l:List (List UInt8)} {b:Nat} (h:Hl (λp=>B9 w n E span s p e) s l b) (hs:1<=score) (hb:score<=b)
  (hl:∀ p,Cf s p->0<B9 w n E span s p e->p∈l) (hc:Cf s was) (ht:B9 w n E span s was e=b):Dw w n E span score e s was was:=by
 unfold Hl at h;dsimp only at h;refine .inr ⟨b,hb,hc,ht,λp hp=>?_,.inl rfl⟩;by_cases h0:0<B9 w n E span s p e
 ·exact h.1 p (hl p hp h0) hp
 ·omega
theorem Hl.firstP {l:List (List UInt8)} {b:Nat} {first:List UInt8} (h:Hl (λp=>B9 w n E span s p e) s l b) (hs:1<=score) (hb:score<=b)
  (hl:∀ p,Cf s p->0<B9 w n E span s p e->p∈l) (hf:Fz (λp=>B9 w n E span s p e) s was b l first):Dw w n E span score e s was first:=by
 unfold Hl at h;unfold Fz at hf;dsimp only at h hf;obtain⟨p0,q1,q2,q3⟩:∃ p∈l,Cf s p/\B9 w n E span s p e=b:=by
  rcases h.2 with h2|h2
  ·omega
  ·exact h2
 rcases hf with⟨f1,⟨rfl,f2⟩|⟨f2,f3,f4,f5⟩⟩
 ·exact absurd q3 (f2 p0 q1 q2)
 ·refine .inr ⟨b,hb,f3,f4,λp hp=>?_,.inr ⟨λ⟨c1,c2⟩=>f1 ⟨hl _ c1 oM,c1,c2⟩,λp hp he=>f5 p (hl p hp oM) hp he⟩⟩;by_cases h0:0<B9 w n E span s p e
  ·exact h.1 p (hl p hp h0) hp
  ·omega
end
end Go.Cw
namespace Go.Cw
open Go
theorem PK {w n:Nat} {E:List (List Si)} {a b:List UInt8} {lo:Nat}:∀ m,m<=lo->CQ w n E a b lo m=0:=by
 intro m;induction m with
 |zero=>intro _;rfl
 |succ m ih=>intro h;simp only[CQ];rw[ih oM,if_neg oM]
theorem FF {w n:Nat} {E:List (List Si)} {a b:List UInt8} {lo m:Nat} (h:lo<=m):CQ w n E a b lo (m+1)=CQ w n E a b lo m+II w n E a b m:=by simp only[CQ];rw[if_pos h]
def S84:Spec:=λargs h K=>∃ g bm window need E a b,∃e span:Nat,args=[.pointer (U ⟨bm,0,O⟩),.string (str a),.string (str b),.int .i64 e,.int .i64 span]/\RT g bm window need E/\Heap.le g h/\N9 window need E/\a.length<=1000000/\b.length<=1000000/\e<E.length/\1<=span/\span<=8 /\
 ∀ g' h',Av g h g' h'->RT g' bm window need E->K (.int .i64 (B9 window need E span a b e:Nat)) h'
theorem F84_ok {N:Num} {Γ:Ctx} [Ak Γ] (H70:Sat S70 (Γ 70)):Sat S84 (SF N Γ F84):=by
 rintro _ h K ⟨g,bm,window,need,E,a,b,e,span,rfl,hT,hg,hm,hal,hbl,he,hs1,hs2,hK⟩;have hel:E.length<=1000:=(hT.read hg).choose_spec.choose_spec.2.2.1;refine An rfl ?_;simp only[F84,Ze,Nat.reduceSub,Nat.reduceAdd];have hmax:max 0 (IntKind.i64.wrap (IntKind.i64.wrap ((e:Int)-span)+1))=((e+1-span:Nat):Int):=by rw[BC (n:=(e:Int)-span) oM oM,BC oM oM];omega
 refine Ap @hmax ?_;refine Aj (λm:Nat=>[U (.pointer (U ⟨bm,0,O⟩)),U (.string (str a)),U (.string (str b)),U (.int .i64 e),U (.int .i64 span),O,U (.int .i64 (CQ window need E a b (e+1-span) m:Nat)),U (.int .i64 m),O,O,O,O,O,O])
  (λm H=>e+1-span<=m/\m<=e+1/\∃ g',Av g h g' H/\RT g' bm window need E) (λm=>e+1-m) (e+1-span) (by rw[PK _ (Yq _)];try simp only[Pf];rfl) ⟨oM,oM,g,Av.refl hg,hT⟩ ?_
 rintro m H ⟨hm1,hm2,g1,hS1,hT1⟩;have hle:=PM (w:=window) (n:=need) (E:=E) (a:=a) (b:=b) (lo:=e+1-span) m;refine Ae ?_;refine Ad (λc=>?_) (λc=>?_);rotate_left
 ·have:m=e+1:=oM;subst this;refine Ae ?_;exact hK g1 H hS1 hT1
 have hm3:m<=e:=oM;refine Ae ?_;refine Aa H70 ⟨g1,bm,window,need,E,a,m,rfl,hT1,hS1.le,hm,hal,oM,λg2 h2 hS2 hT2=>?_⟩;have hw:=wS m;by_cases hc:0<=Iy window need (E.take (m+1)) a
 ·have hc':(0<=Iy window need (E.take (m+1)) a)=True:=by simpa using hc
  refine Ap @hc' ?_;refine Aa H70 ⟨g2,bm,window,need,E,b,m,rfl,hT2,hS2.le,hm,hbl,oM,λg3 h3 hS3 hT3=>?_⟩;refine Ae ?_;refine Ad (λc2=>?_) (λc2=>?_)
  ·have hn:CQ window need E a b (e+1-span) (m+1)=CQ window need E a b (e+1-span) m+1:=by
    rw[FF hm1,II,if_pos ⟨hc,c2.symm⟩]
   have hw2:IntKind.i64.wrap ((CQ window need E a b (e+1-span) m:Int)+1)=((CQ window need E a b (e+1-span) (m+1):Nat):Int):=by rw[hn,BC oM oM];omega
   refine AH @hw @hw2 ?_;exact Ag (m+1) oM sE ⟨oM,oM,g3,(hS1.trans hS2).trans hS3,hT3⟩
  ·have hn:CQ window need E a b (e+1-span) (m+1)=CQ window need E a b (e+1-span) m:=by
    rw[FF hm1,II,if_neg (λh=>c2 h.2.symm)];rfl
   refine Ap @hw ?_;exact Ag (m+1) oM (by rw[hn];try simp only[Pf]) ⟨oM,oM,g3,(hS1.trans hS2).trans hS3,hT3⟩
 ·have hc':(0<=Iy window need (E.take (m+1)) a)=False:=by simpa using hc
  have hn:CQ window need E a b (e+1-span) (m+1)=CQ window need E a b (e+1-span) m:=by
   rw[FF hm1,II,if_neg (λh=>hc h.1)];rfl
  refine AH @hc' @hw ?_;exact Ag (m+1) oM (by rw[hn];try simp only[Pf]) ⟨oM,oM,g2,hS1.trans hS2,hT2⟩
def S68:Spec:=λargs h K=>∃ bx gt bt window need E a b,∃e span:Nat,args=[.pointer (U ⟨bx,0,O⟩),.string (str a),.string (str b),.int .i64 e]/\Sk gt bt window need E/\Heap.le gt h/\h.cell ((⟨bx,0,O⟩:Addr).add 0)=U (.int .i64 span)/\h.cell ((⟨bx,0,O⟩:Addr).add 2)=U (.pointer (U ⟨bt,0,O⟩))/\1<=need/\E.length<=1000/\e<E.length/\1<=span/\span<=8 /\
 K (.int .i64 (B9 window need E span a b e:Nat)) h
theorem JL {window need:Nat} {E:List (List Si)} {t:List UInt8} {m:Nat} (hn:1<=need) (hm:m<E.length):(whr window need E t m=(IE window need E m t,0)/\Bb E t)\/(whr window need E t m=(0,5)/\IE window need E m t<0):=by
 unfold whr;rw[if_neg oM,Aaa];split
 ·rename_i ht;exact .inl ⟨rfl,ht⟩
 ·rename_i ht;refine .inr ⟨rfl,Int.not_le.1 λhc=>ht ?_⟩;have:=KJ hn hc;obtain⟨l,hl,hs⟩:=this;exact⟨l,Z4 hl,hs⟩
theorem F68_ok {N:Num} {Γ:Ctx} [Ak Γ] (H30:Sat (S30 N) (Γ 30)):Sat S68 (SF N Γ F68):=by
 rintro _ h K ⟨bx,gt,bt,window,need,E,a,b,e,span,rfl,hT,hg,hA0,hA2,hn,hel,he,hs1,hs2,hK⟩;refine An rfl ?_;simp only[F68,Ze,Nat.reduceSub,Nat.reduceAdd];have hmax:max 0 (IntKind.i64.wrap (IntKind.i64.wrap ((e:Int)-span)+1))=((e+1-span:Nat):Int):=by rw[BC (n:=(e:Int)-span) oM oM,BC oM oM];omega
 refine AH @hA0 @hmax ?_;refine Aj (λm:Nat=>[U (.pointer (U ⟨bx,0,O⟩)),U (.string (str a)),U (.string (str b)),U (.int .i64 e),O,U (.int .i64 (CQ window need E a b (e+1-span) m:Nat)),U (.int .i64 m),O,O,O,O,O,O,O,O])
  (λm H=>e+1-span<=m/\m<=e+1/\H=h) (λm=>e+1-m) (e+1-span) (by rw[PK _ (Yq _)];try simp only[Pf];rfl) ⟨oM,oM,rfl⟩ ?_
 rintro m H ⟨hm1,hm2,rfl⟩;have hle:=PM (w:=window) (n:=need) (E:=E) (a:=a) (b:=b) (lo:=e+1-span) m;refine Ae ?_;refine Ad (λc=>?_) (λc=>?_);rotate_left
 ·have:m=e+1:=oM;subst this;refine Ae ?_;exact hK
 have hm3:m<=e:=oM;have hw:=wS m;refine Ap @hA2 ?_;refine Aa H30 (IB hT hg ?_);refine Ap @hA2 ?_;refine Aa H30 (IB hT hg ?_);have hsame:∀ hc:¬ (0<=IE window need E m a/\IE window need E m a=IE window need E m b),CQ window need E a b (e+1-span) (m+1)=CQ window need E a b (e+1-span) m:=λhc=>by
  rw[FF hm1,II,if_neg hc];rfl
 rcases JL (window:=window) (t:=a) hn (show m<E.length by omega)with⟨ea,_⟩|⟨ea,la⟩
 ·rcases JL (window:=window) (t:=b) hn (show m<E.length by omega)with⟨eb,_⟩|⟨eb,lb⟩
  ·rw[ea,eb];refine Ap @AP ?_;refine Ad (λc2=>?_) (λc2=>?_)
   ·have hn:CQ window need E a b (e+1-span) (m+1)=CQ window need E a b (e+1-span) m+1:=by
     rw[FF hm1,II,if_pos c2]
    have hw2:IntKind.i64.wrap ((CQ window need E a b (e+1-span) m:Int)+1)=((CQ window need E a b (e+1-span) (m+1):Nat):Int):=by rw[hn,BC oM oM];omega
    refine AH @hw @hw2 ?_;exact Ag (m+1) oM sE ⟨oM,oM,rfl⟩
   ·refine Ap @hw ?_;exact Ag (m+1) oM (by rw[hsame c2];try simp only[Pf]) ⟨oM,oM,rfl⟩
  ·rw[ea,eb];refine CS @AP @Aq @hw ?_;exact Ag (m+1) oM (by rw[hsame oM];try simp only[Pf]) ⟨oM,oM,rfl⟩
 ·rw[ea];generalize whr window need E b m=wb;obtain⟨q,f⟩:=wb;refine AH @Aq @hw ?_;exact Ag (m+1) oM (by rw[hsame oM];try simp only[Pf]) ⟨oM,oM,rfl⟩
theorem Lo {l:List (List UInt8)} (h:Jy l) {i:Nat} (hi:i<l.length):∀ q∈l.take i,Op.bytesLess q (l.getD i default)=true:=by
 intro q hq;obtain⟨j,hj,rfl⟩:=Z3 hq;rw[Zn]at hj;have:=Aa0.1 h j i oM hi oM;rw[Abr];simpa[AaO,hi]using this
def S69:Spec:=λargs h K=>∃ g bm window need E s was,∃e span score:Nat,args=[.pointer (U ⟨bm,0,O⟩),.string (str s),.int .i64 e,.int .i64 span,.int .i64 score,.string (str was)]/\RT g bm window need E/\Heap.le g h/\N9 window need E/\s.length<=1000000/\(∀t,Bb E t->t.length<=1000000)/\e<E.length/\1<=span/\span<=8/\1<=score/\score<=8 /\
 ∀ g' h' r,Av g h g' h'->RT g' bm window need E->Dw window need E span score e s was r->K (.string (str r)) h'
theorem F69_ok {N:Num} {Γ:Ctx} [Ak Γ] (H14:Sat S14 (Γ 14)) (H83:Sat S83 (Γ 83)) (H84:Sat S84 (Γ 84)):Sat S69 (SF N Γ F69):=by
 rintro _ h K ⟨g,bm,window,need,E,s,was,e,span,score,rfl,hT,hg,hm,hsl,htl,he,hs1,hs2,hc1,hc2,hK⟩;have hR:=hT.read hg;have hel:E.length<=1000:=hR.choose_spec.choose_spec.2.2.1;have hn1:1<=need:=hm.2.2.1;refine An rfl ?_;simp only[F69,Ze,Nat.reduceSub,Nat.reduceAdd];obtain⟨evm,fvm,hom,⟨vsm,hvm,hvml,_⟩,_⟩:=id hR;have Am:h.cell ((⟨bm,0,O⟩:Addr).add 2)=U evm:=hom.rules.1 2 (by simp);have Rm:=hvm.rules1 id (λ_=>rfl) undef;rw[hvml]at Rm;refine AH @Am @Rm ?_;refine Aa H14 ⟨⟨bm,0,O⟩,window,need,E,E.length,rfl,hR,λv h1 ho=>?_⟩;rw[ZB oM]at ho;have hord:Jy (AX E):=Eo _;have hmem:=λt=>CG E t;have hfl:=I1 E λl hl=>hR.choose_spec.choose_spec.2.2.2 l hl;have htl2:(AX E).length<=2000000:=by have:=GE (FQ E);unfold AX;omega
 generalize hL:AX E=L at *;have hin:∀ p,Cf s p->0<B9 window need E span s p e->p∈L:=by
  intro p _ h0;have:=(GY hn1 h0).2;obtain⟨l,hl,hs⟩:=this;exact(hmem p).2 ⟨l,Z4 hl,hs⟩
 have hSl:=ho.slf2 (enc:=AB) (λ_=>rfl);have hF1:Heap.le (fr h h1) h1/\CA (fr h h1) g:=by
  refine⟨Au _ _,λb hb=>?_⟩;cases e1:g b with
  |none=>rfl
  |some o=>exact absurd (Er (hg b o e1)) hb
 have hSt:=Av.more hg ho.1;generalize fr h h1=F at *;refine Ae ?_;refine AA (λenv H=>∃ best g',Av g h g' H/\RT g' bm window need E/\Heap.le F H/\CA F g'/\Hl (λp=>B9 window need E span s p e) s L best /\
  env=[U (.pointer (U ⟨bm,0,O⟩)),U (.string (str s)),U (.int .i64 e),U (.int .i64 span),U (.int .i64 score),U (.string (str was)),O,U v,U (.int .i64 (best:Nat)),O,O,O,O,O,O,O,O,O,O,O,O,O,O,O,O,O,O,O,O]) ?_ ?_
 rotate_left
 ·refine Aj (λx:Nat×Nat=>[U (.pointer (U ⟨bm,0,O⟩)),U (.string (str s)),U (.int .i64 e),U (.int .i64 span),U (.int .i64 score),U (.string (str was)),O,U v,U (.int .i64 (x.2:Nat)),U (.int .i64 (x.1:Nat)),O,O,O,O,O,O,O,O,O,O,O,O,O,O,O,O,O,O,O])
   (λx H=>x.1<=L.length/\∃ g',Av g h g' H/\RT g' bm window need E/\Heap.le F H/\CA F g'/\Hl (λp=>B9 window need E span s p e) s (L.take x.1) x.2) (λx=>L.length-x.1) (0,0) (by dsimp only;try simp only[Pf];rfl) ⟨dM,g,hSt,hT,hF1.1,hF1.2,Hl.nil⟩ ?_
  rintro⟨i,best⟩ H ⟨hi,g1,hS1,hT1,hF⟩;obtain⟨hFl,hFd,hM⟩:=hF;dsimp only at hi hM ⊢;have RV:=(hSl.le hFl).rules1 (λt=>.string (str t)) (λ_=>rfl) default;refine Ap @RV ?_;refine Ad (λc=>?_) (λc=>?_);rotate_left
  ·have:i=L.length:=oM;subst this;rw[Z5]at hM;refine Ae ?_;exact Ar _ sE ⟨best,g1,hS1,hT1,hFl,hFd,hM,rfl⟩
  have A5:i<L.length:=oM;have htt:=htl _ ((hmem _).1 (As default A5));have hnx:L.take (i+1)=L.take i++[L.getD i default]:=Ai default A5;have hw:=wS i;generalize hp:L.getD i default=p at *;refine Ae ?_;refine Aa H83 ⟨s,rfl,λh2 hle2=>?_⟩;have hS2:=hS1.trans (Av.more hS1.le hle2);have RV2:=(hSl.le (hFl.trans hle2)).rules1 (λt=>.string (str t)) (λ_=>rfl) default;by_cases hk:0<AK s
  ·have hk':(0<AK s)=True:=by simpa using hk
   refine CS @hk' @RV2 @hp ?_;refine Aa H83 ⟨p,rfl,λh3 hle3=>?_⟩;refine Ae ?_;refine Aa H83 ⟨s,rfl,λh4 hle4=>?_⟩;have hle24:=hle3.trans hle4;have hS4:=hS2.trans (Av.more hS2.le hle24);have hF4:=hFl.trans (hle2.trans hle24);have RV4:=(hSl.le hF4).rules1 (λt=>.string (str t)) (λ_=>rfl) default;refine Ae ?_;refine Ad (λc2=>?_) (λc2=>?_)
   ·refine AH @RV4 @hp ?_;refine Aa H84 ⟨g1,bm,window,need,E,s,p,e,span,rfl,hT1,hS4.le,hm,hsl,htt,he,hs1,hs2,λg5 h5 hS5 hT5=>?_⟩;obtain⟨hF5,hd5⟩:=hS5.keep hF4 hFd;have hmx:max (best:Int) ((B9 window need E span s p e:Nat):Int)=((max best (B9 window need E span s p e):Nat):Int):=oM;refine AH @hmx @hw ?_;exact Ag (i+1,max best (B9 window need E span s p e)) dM (by dsimp only;try simp only[Pf]) ⟨dM,g5,hS4.trans hS5,hT5,hF5,hd5,by rw[hnx];exact hM.more ⟨hk,c2⟩⟩
   ·refine Ap @hw ?_;exact Ag (i+1,best) dM (by dsimp only;try simp only[Pf]) ⟨dM,g1,hS4,hT1,hF4,hFd,by rw[hnx];exact hM.skip λhc=>c2 hc.2⟩
  ·have hk':(0<AK s)=False:=by simpa using hk
   refine AH @hk' @hw ?_;exact Ag (i+1,best) dM (by dsimp only;try simp only[Pf]) ⟨dM,g1,hS2,hT1,hFl.trans hle2,hFd,by rw[hnx];exact hM.skip λhc=>hk hc.1⟩
 rintro env H ⟨best,g1,hS1,hT1,hFl,hFd,hM,rfl⟩;refine Ae ?_;refine Aj (λx:Nat×List UInt8=>[U (.pointer (U ⟨bm,0,O⟩)),U (.string (str s)),U (.int .i64 e),U (.int .i64 span),U (.int .i64 score),U (.string (str was)),O,U v,U (.int .i64 (best:Nat)),O,U (.string (str x.2)),U (.int .i64 (x.1:Nat)),O,O,O,O,O,O,O,O,O,O,O,O,O,O,O,O,O])
   (λx H=>x.1<=L.length/\(best<score->x.1=0)/\∃ g',Av g h g' H/\RT g' bm window need E/\Heap.le F H/\CA F g'/\Fz (λp=>B9 window need E span s p e) s was best (L.take x.1) x.2) (λx=>L.length-x.1) (0,[]) (by try simp only[Pf];rfl) ⟨dM,λ_=>rfl,g1,hS1,hT1,hFl,hFd,Fz.nil⟩ ?_
 clear hS1 hT1 hFl hFd;rintro⟨i,first⟩ H ⟨hi,hi0,g1,hS1,hT1,hFl,hFd,hP⟩;dsimp only at hi hi0 hP ⊢;have RV:=(hSl.le hFl).rules1 (λt=>.string (str t)) (λ_=>rfl) default;have hwr:∀ r,Dw window need E span score e s was r->K (.string (str r)) H:=λr hr=>hK g1 H r hS1 hT1 hr;by_cases hb:best<score
 ·have hb1:((score:Int)<=(best:Int))=False:=by rw[eq_iff_iff];simp;omega
  have hi00:=hi0 hb;subst hi00;obtain rfl:first=[]:=by
   rcases hP with⟨_,⟨h1,_⟩|⟨h1,_⟩⟩
   ·exact h1
   ·simp at h1
  refine AH @RV @hb1 ?_;exact hwr [] (hM.ltP hc1 hb hin)
 have hb2:((score:Int)<=(best:Int))=True:=by rw[eq_iff_iff];simp;omega
 have hsb:score<=best:=oM;refine AH @RV @hb2 ?_;refine Ad (λc=>?_) (λc=>?_);rotate_left
 ·have:i=L.length:=oM;subst this;rw[Z5]at hP;refine Ae ?_;exact hwr first (hM.firstP hc1 hsb hin hP)
 have A5:i<L.length:=oM;have hpm:=As default A5;have htt:=htl _ ((hmem _).1 hpm);have hnx:L.take (i+1)=L.take i++[L.getD i default]:=Ai default A5;have hw:=wS i;have hordi:=Lo hord A5;have hks:0<AK s:=by
  rcases hM.2 with h2|⟨q,_,hq,_⟩
  ·omega
  ·exact hq.1
 generalize hp:L.getD i default=p at *;refine AH @RV @hp ?_;refine Aa H83 ⟨p,rfl,λh2 hle2=>?_⟩;refine Ae ?_;refine Aa H83 ⟨s,rfl,λh3 hle3=>?_⟩;have hle23:=hle2.trans hle3;have hS3:=hS1.trans (Av.more hS1.le hle23);have hF3:=hFl.trans hle23;have RV3:=(hSl.le hF3).rules1 (λt=>.string (str t)) (λ_=>rfl) default;by_cases hk:AK s<AK p;rotate_left
 ·have hk':(AK s<AK p)=False:=by simpa using hk
  refine AH @hk' @hw ?_;exact Ag (i+1,first) dM (by dsimp only;try simp only[Pf]) ⟨dM,λh=>by omega,g1,hS3,hT1,hF3,hFd,by rw[hnx];exact hP.skip λhc=>hk hc.1.2⟩
 have hk':(AK s<AK p)=True:=by simpa using hk
 refine CS @hk' @RV3 @hp ?_;refine Aa H84 ⟨g1,bm,window,need,E,s,p,e,span,rfl,hT1,hS3.le,hm,hsl,htt,he,hs1,hs2,λg5 h5 hS5 hT5=>?_⟩;obtain⟨hF5,hd5⟩:=hS5.keep hF3 hFd;have hS:=hS3.trans hS5;have RV5:=(hSl.le hF5).rules1 (λt=>.string (str t)) (λ_=>rfl) default;refine Ae ?_;refine Ad (λc2=>?_) (λc2=>?_);rotate_left
 ·refine Ap @hw ?_;exact Ag (i+1,first) dM (by dsimp only;try simp only[Pf]) ⟨dM,λh=>by omega,g5,hS,hT5,hF5,hd5,by rw[hnx];exact hP.skip λhc=>c2 (by have:=hc.2;omega)⟩
 have hTp:B9 window need E span s p e=best:=oM;refine AH @RV5 @hp ?_;refine Ad (λc3=>?_) (λc3=>?_)
 ·subst c3;refine Ae ?_;exact hK g5 h5 _ hS hT5 (hM.wasP hc1 hsb hin ⟨hks,hk⟩ hTp)
 have hnext:=hP.take ⟨hks,hk⟩ hTp c3 hordi;rw[<-hnx]at hnext;refine Ae ?_;refine Ad (λc4=>?_) (λc4=>?_)
 ·subst c4;rw[if_pos rfl]at hnext;refine CS @RV5 @hp @hw ?_;exact Ag (i+1,p) dM (by dsimp only;try simp only[Pf]) ⟨dM,λh=>by omega,g5,hS,hT5,hF5,hd5,hnext⟩
 ·rw[if_neg c4]at hnext;refine Ap @hw ?_;exact Ag (i+1,first) dM (by dsimp only;try simp only[Pf]) ⟨dM,λh=>by omega,g5,hS,hT5,hF5,hd5,hnext⟩
theorem Av.side {g h g' H H':Heap} (a:Av g h g' H) {v:Value} (hv:∀ b,Ao v=U b->(h b=O\/g b≠O)/\g' b=O) (hk:∀ b o,H b=U o->Ao v≠U b->H' b=U o):Av g h g' H':=by
 refine⟨λb o hb=>hk b o (a.le b o hb) λe=>?_,λb o hb hg=>hk b o (a.frame b o hb hg) λe=>?_,a.fresh⟩
 ·rw[(hv b e).2]at hb;cases hb
 ·rcases(hv b e).1 with h1|h1
  ·rw[h1]at hb;cases hb
  ·exact h1 hg
theorem BE.step {α:Type} {enc:α->List Value} {sz:Nat} {g h g' H:Heap} {v:Value} {l:List α} (hs:BE enc sz h v l) (a:Av g h g' H) (hv:∀ b,Ao v=U b->g b=O):BE enc sz H v l:=by
 refine hs.same λb hb=>?_;cases hh:h b with
 |none=>exact absurd hh (hs.mem hb)
 |some o=>exact a.frame b o hh (hv b hb)
section
variable (w n:Nat) (E:List (List Si)) (span score:Nat) (s:List UInt8)
noncomputable def KV (k:Nat):List (List UInt8):=(Yh k).map (DF w n E span score s)
end
theorem M5 {w n:Nat} {E:List (List Si)} {span score:Nat} {s:List UInt8} {k:Nat}:(KV w n E span score s k).length=k:=by simp[KV]
theorem QW {w n:Nat} {E:List (List Si)} {span score:Nat} {s:List UInt8} {k:Nat}:KV w n E span score s (k+1)=KV w n E span score s k++[DF w n E span score s k]:=by simp[KV,List.range_succ]
theorem S5 {w n:Nat} {E:List (List Si)} {span score:Nat} {s:List UInt8} {k i:Nat} (h:i<k):(KV w n E span score s k).getD i default=DF w n E span score s i:=by
 simp[KV,AaO,h]
def S48:Spec:=λargs h K=>∃ g bm window need E s,∃k span score:Nat,args=[.pointer (U ⟨bm,0,O⟩),.string (str s),.int .i64 k,.int .i64 span,.int .i64 score]/\RT g bm window need E/\Heap.le g h/\N9 window need E/\s.length<=1000000/\(∀t,Bb E t->t.length<=1000000)/\k<=E.length/\1<=span/\span<=8/\1<=score/\score<=8 /\
 ∀ g' h' v,Av g h g' h'->RT g' bm window need E->BE AB 1 h' v (KV window need E span score s k)->(∀b,Ao v=U b->(h b=O\/g b≠O)/\g' b=O)->K v h'
theorem F48_ok {N:Num} {Γ:Ctx} [Ak Γ] (H69:Sat S69 (Γ 69)):Sat S48 (SF N Γ F48):=by
 rintro _ h K ⟨g,bm,window,need,E,s,k,span,score,rfl,hT,hg,hm,hsl,htl,hk,hs1,hs2,hc1,hc2,hK⟩;have hel:E.length<=1000:=(hT.read hg).choose_spec.choose_spec.2.2.1;refine An rfl ?_;simp only[F48,Ze,Nat.reduceSub,Nat.reduceAdd];refine Ae ?_;refine Aj (λx:Nat×Value×List UInt8=>[U (.pointer (U ⟨bm,0,O⟩)),U (.string (str s)),U (.int .i64 k),U (.int .i64 span),U (.int .i64 score),O,U x.2.1,U (.string (str x.2.2)),U (.int .i64 (x.1:Nat)),O,O,O,O,O])
  (λx H=>x.1<=k/\x.2.2=MH window need E span score s x.1/\BE AB 1 H x.2.1 (KV window need E span score s x.1)/\∃ g',Av g h g' H/\RT g' bm window need E/\∀ b,Ao x.2.1=U b->(h b=O\/g b≠O)/\g' b=O) (λx=>k-x.1) (0,.slice O 0 0,[]) (by dsimp only;try simp only[Pf];rfl) ⟨dM,rfl,BE.nil,g,Av.refl hg,hT,by simp[Ao]⟩ ?_
 rintro⟨i,v,was⟩ H ⟨hi,hwas,hS,g1,hS1,hT1,hvb⟩;dsimp only at hi hwas hS hvb ⊢;refine Ae ?_;refine Ad (λc=>?_) (λc=>?_);rotate_left
 ·have:i=k:=oM;subst this;refine Ae ?_;exact hK g1 H v hS1 hT1 hS hvb
 have A5:i<k:=oM;have hw:=wS i;refine Ae ?_;refine Aa H69 ⟨g1,bm,window,need,E,s,was,i,span,score,rfl,hT1,hS1.le,hm,hsl,htl,oM,hs1,hs2,hc1,hc2,λg2 h2 r hS2 hT2 hr=>?_⟩;have hr2:DF window need E span score s i=r:=L8 (by rw[<-hwas];exact hr);have hvH:∀ b,Ao v=U b->g1 b=O:=λb hb=>(hvb b hb).2;have hSl2:=hS.step hS2 hvH;have hS12:=hS1.trans hS2;have hvb2:∀ b,Ao v=U b->(h b=O\/g b≠O)/\g2 b=O:=λb hb=>⟨(hvb b hb).1,hS2.fresh b (hS.mem hb) (hvb b hb).2⟩
 refine Ae ?_;refine Bg AB 1 (λ_=>rfl) [r] rfl rfl (by simp[maxLen]) λx1 b1 h3 hle3 hb1 hx1 hS3=>?_;have O2:=hS3.one;refine AH O2.1 O2.2 ?_;refine Cc (enc:=AB) (sz:=1) (g:=h3) (l:=KV window need E span score s i) (l':=[r]) (λ_=>rfl) (by simp[AB,one]) (hSl2.le hle3) (ZX h3) (BE.sl (enc:=AB) (λ_=>rfl) (hS3.le (Au _ _))) (by rw[M5];simp;omega) λv4 h4 g4 hS4 St4 e1 e2 e3=>?_;have hS13:=hS12.trans (Av.more hS12.le hle3);have hS14:Av g h g2 h4:=hS13.side hvb2 e3;rw[hr2.symm,<-QW]at hS4;refine Ap @hw ?_;refine Ag (i+1,v4,r) dM (by dsimp only;try simp only[Pf]) ⟨dM,hr2.symm,hS4.le St4.le,g2,hS14,hT2,λb hb=>?_⟩;rcases e2 b hb with h5|h5
 ·exact hvb2 b h5
 ·have hh:h3 b=O:=h5;refine⟨?_,?_⟩
  ·cases e:h b with
   |none=>exact .inl rfl
   |some o=>
    cases eg:g b with
    |none=>have:=hS13.frame b o e eg;rw[hh]at this;cases this
    |some o'=>exact .inr (by simp)
  ·cases e:g2 b with
   |none=>rfl
   |some o=>have:=hS13.le b o e;rw[hh]at this;cases this
end Go.Cw
namespace Go.Cw
open Go
def PF (g:Heap) (m:Nat) (f:List UInt8->List UInt8):Prop:=∃ kv bs ck,Bn AF AF g m kv bs ck/\∀ s,look kv s=if f s=[]then O else U (f s)
theorem PF.le {g h:Heap} {m:Nat} {f:List UInt8->List UInt8} (hm:PF g m f) (hl:Heap.le g h):PF h m f:=by
 obtain⟨kv,bs,ck,h1,h2⟩:=hm;exact⟨kv,bs,ck,h1.le hl,h2⟩
theorem PF.lkp {h:Heap} {m:Nat} {f:List UInt8->List UInt8} (hm:PF h m f) (s:List UInt8):A8 h (.lkp .str (.string (str []))) (.v (.map (U m))) (.v (.string (str s)))=U (.v (.string (str (f s)))):=by
 obtain⟨kv,bs,ck,h1,h2⟩:=hm;have:=(h1.rules .str).1 (.string (str [])) s;rw[show(Value.string (str s))=AF s from rfl,this,h2 s];by_cases h:f s=[]
 ·rw[if_pos h,h]
 ·rw[if_neg h];rfl
structure Xr (g:Heap) (bx bt window need:Nat) (E:List (List Si)) (span score looked:Nat) (pv:Value) (ms:List Nat) (g0:Heap):Prop where
 obj:Ah g ⟨bx,0,O⟩ [.int .i64 span,.int .i64 score,.pointer (U ⟨bt,0,O⟩),pv]
 sl:BE Fw 1 g pv ms
 len:ms.length=looked
 le0:Heap.le g0 g
 maps:∀ i,i<looked->PF g0 (ms.getD i 0) λs=>DF window need E span score s i
 nb:g0 bx=O
 ns:∀ x,Ao pv=U x->g0 x=O/\x≠bx
 lk:looked<=E.length
def Ue (g:Heap) (bx bt window need:Nat) (E:List (List Si)) (span score looked:Nat):Prop:=∃ pv ms g0,Xr g bx bt window need E span score looked pv ms g0
theorem Ue.more {g:Heap} {bx bt window need:Nat} {E E':List (List Si)} {span score looked:Nat} (h:Ue g bx bt window need E span score looked):Ue g bx bt window need (E++E') span score looked:=by
 obtain⟨pv,ms,g0,h⟩:=h;refine⟨pv,ms,g0,{ h with maps:=λi hi=>?_,lk:=by have:=h.lk;simp;omega }⟩;have:=h.maps i hi;have he:(λs=>DF window need (E++E') span score s i)=λs=>DF window need E span score s i:=by
  funext s;exact S6 i (by have:=h.lk;omega)
 rw[he];exact this
def Nk (span score:Int):Prop:=span<1\/8<span\/score<1\/span<score
def S44 (N:Num):Spec:=λargs h K=>∃ bt window need span score,args=[.pointer (U ⟨bt,0,O⟩),.int .i64 span,.int .i64 score] /\
 (Nk span score->K (.tuple #[.pointer O,Cm N 1]) h) /\
 (¬Nk span score->∀ bx h',h bx=O->Heap.le h h'->(∀E,Ue (fr h h') bx bt window need E span.toNat score.toNat 0)->K (.tuple #[.pointer (U ⟨bx,0,O⟩),.nilIface]) h')
theorem F44_ok {N:Num} {Γ:Ctx} [Ak Γ]:Sat (S44 N) (SF N Γ F44):=by
 rintro _ h K ⟨bt,window,need,span,score,rfl,hK1,hK2⟩;unfold Nk at hK1 hK2;refine An rfl ?_;simp only[F44,Ze,Nat.reduceSub,Nat.reduceAdd];refine Ae ?_;refine Ad (λc=>?_) (λc=>?_)
 ·refine Ae ?_;exact hK1 oM
 ·refine Ae ?_;refine AO λbx h1 hle1 hb ho=>?_;refine Ae ?_;refine hK2 oM bx h1 hb hle1 λE=>⟨.slice O 0 0,[],λ_=>O,⟨?_,BE.nil,rfl,λ_ _ h=>(by cases h),λi hi=>by omega,rfl,by simp[Ao],oM⟩⟩
  have e1:((span.toNat:Nat):Int)=span:=oM;have e2:((score.toNat:Nat):Int)=score:=oM;rw[e1,e2];exact ho
theorem Xr.read {g h:Heap} {bx bt window need:Nat} {E:List (List Si)} {span score looked:Nat} {pv:Value} {ms:List Nat} {g0:Heap} (hT:Xr g bx bt window need E span score looked pv ms g0) (hg:Heap.le g h) :
  h.cell ((⟨bx,0,O⟩:Addr).add 0)=U (.int .i64 span)/\h.cell ((⟨bx,0,O⟩:Addr).add 1)=U (.int .i64 score)/\h.cell ((⟨bx,0,O⟩:Addr).add 2)=U (.pointer (U ⟨bt,0,O⟩))/\h.cell ((⟨bx,0,O⟩:Addr).add 3)=U pv/\Sl Fw h pv ms:=by
 have ho:=hT.obj.le hg;exact⟨ho.rules.1 0 (by simp),ho.rules.1 1 (by simp),ho.rules.1 2 (by simp),ho.rules.1 3 (by simp),BE.sl (enc:=Fw) (sz:=1) (λ_=>rfl) (hT.sl.le hg)⟩
def S49 (N:Num):Spec:=λargs h K=>∃ g bx bt window need E span score looked s e,args=[.pointer (U ⟨bx,0,O⟩),.string (str s),.int .i64 e]/\Ue g bx bt window need E span score looked/\Heap.le g h /\
 ((e<0\/(looked:Int)<=e)->K (.tuple #[.string (str []),Cm N 1]) h)/\(∀i:Nat,e=i->i<looked->K (.tuple #[.string (str (DF window need E span score s i)),.nilIface]) h)
theorem F49_ok {N:Num} {Γ:Ctx} [Ak Γ]:Sat (S49 N) (SF N Γ F49):=by
 rintro _ h K ⟨g,bx,bt,window,need,E,span,score,looked,s,e,rfl,⟨pv,ms,g0,hT⟩,hg,hK1,hK2⟩;refine An rfl ?_;simp only[F49,Ze,Nat.reduceSub,Nat.reduceAdd];obtain⟨_,_,_,A3,hS⟩:=hT.read hg;have R:=hS.rules1 E6 (λ_=>rfl) 0;rw[hT.len]at R;refine AH @A3 @R ?_;refine Ad (λc=>?_) (λc=>?_)
 ·refine Ae ?_;exact hK1 oM
 ·obtain⟨i,rfl⟩:∃ i:Nat,e=i:=⟨e.toNat,oM⟩
  have hm:=((hT.maps i oM).le (hT.le0.trans hg)).lkp s;refine Ek @A3 @R @E6.eq_1 @hm ?_;exact hK2 i rfl oM
theorem T0:∀ (x y:List UInt8),Op.bytesLess x y=decide (x<y):=by
 intro x;induction x with
 |nil=>
  intro y;cases y with
  |nil=>simp[Op.bytesLess]
  |cons b y=>simp[Op.bytesLess]
 |cons a x ih=>
  intro y;cases y with
  |nil=>simp[Op.bytesLess]
  |cons b y=>
   rw[Bool.eq_iff_iff];simp[Op.bytesLess,ih,List.cons_lt_cons_iff]
abbrev MC (l:List (List UInt8)):List (List UInt8):=l.mergeSort λx y=>decide (x<=y)
theorem Mf (x y:List UInt8):decide (x<=y)=!Op.bytesLess y x:=by
 rw[T0,<-decide_not];exact decide_eq_decide.2 (by rw[List.not_lt])
theorem PO {l:List (List UInt8)} (h:l.Nodup):Jy (MC l):=by
 have hp:(MC l).Pairwise λx y=>decide (x<=y)=true:=by
  refine List.pairwise_mergeSort (λa b c h1 h2=>?_) (λa b=>?_) l
  ·rw[Mf,YD]at *;cases h3:Op.bytesLess c a with
   |false=>rfl
   |true=>
    by_cases e:a=b
    ·subst e;rw[h3]at h2;cases h2
    ·rw[Fl h3 (Hh h1 (Ne.symm e))]at h2;cases h2
  ·rw[Mf,Mf];cases h3:Op.bytesLess b a with
   |false=>rfl
   |true=>rw[GW h3];rfl
 have hn:(MC l).Nodup:=(Aa9 l _).nodup_iff.2 h;refine List.Pairwise.imp₂ (λ{a b} h1 h2=>?_) hp hn;rw[Mf,YD]at h1;exact Hh h1 (Ne.symm h2)
theorem Uo {l:List (List UInt8)} {t:List UInt8}:t∈MC l↔t∈l:=(Aa9 l _).mem_iff
theorem PP {l:List (List UInt8)}:(MC l).length=l.length:=(Aa9 l _).length_eq
theorem Ib:∀ {l m:List Nat},l.Nodup->(∀x∈l,x∈m)->l.length<=m.length:=by
 intro l;induction l with
 |nil=>intro m _ _;simp
 |cons a l ih=>
  intro m hn hs;have hn':=Yr.1 hn;have ha:=hs a (by simp);have:=ih (m:=m.erase a) hn'.2 λx hx=>by
   have:x≠a:=by rintro rfl;exact hn'.1 hx
   exact(List.mem_erase_of_ne this).2 (hs x (by simp[hx]))
  rw[List.length_erase_of_mem ha]at this;have:=List.length_pos_of_mem ha;simp;omega
def S67:Spec:=λargs h K=>∃ v l,args=[v]/\BE AB 1 h v l/\l.length<=10000000/\∀ h',BE AB 1 h' v (MC l)->(∀b o,h b=U o->Ao v≠U b->h' b=U o)->K (.tuple #[]) h'
theorem Ah.nset {h:Heap} {b m:Nat} {o:Obj} {cs:List Value} (ho:Ah h ⟨b,0,O⟩ cs) (hm:b≠m):Ah (h.set m o) ⟨b,0,O⟩ cs:=IF.obj (b:=m) (λx hx=>ZW hx) hm ho
theorem Ah.kept {h h':Heap} {b:Nat} {cs:List Value} (ho:Ah h ⟨b,0,O⟩ cs) (hk:∀ o,h b=U o->h' b=U o):Ah h' ⟨b,0,O⟩ cs:=by
 obtain⟨h1,c,t,h2,h3⟩:=ho;exact⟨h1,c,t,hk _ h2,h3⟩
theorem Ue.next {h H3 gx:Heap} {bx bt window need:Nat} {E:List (List Si)} {span score looked:Nat} {pv pv':Value} {ms:List Nat} {g0:Heap} {m:Nat}
  (hT:Xr gx bx bt window need E span score looked pv ms g0) (hg:Heap.le gx h) (hm:h m=O) (hlE:looked<E.length)
  (hl:∀ b o,h b=U o->b≠bx->Ao pv≠U b->H3 b=U o)
  (hobj:Ah H3 ⟨bx,0,O⟩ [.int .i64 span,.int .i64 score,.pointer (U ⟨bt,0,O⟩),pv'])
  (hsl:BE Fw 1 H3 pv' (ms++[m])) (hmap:PF H3 m λs=>DF window need E span score s looked) (hpm:Ao pv'≠U m)
  (hpv:∀ b,Ao pv'=U b->Ao pv=U b\/h b=O):∃ gx',Av gx h gx' H3/\Ue gx' bx bt window need E span score (looked+1):=by
 have hbx:gx bx≠O:=by obtain⟨_,c,t,q,_⟩:=hT.obj;rw[q];simp
 have hbh:h bx≠O:=by
  cases e:gx bx with
  |none=>exact absurd e hbx
  |some o=>rw[hg _ _ e];simp
 have hmb:m≠bx:=by rintro rfl;exact hbh hm
 have hpx:∀ b,Ao pv'=U b->g0 b=O/\b≠bx/\b≠m:=by
  intro b hb;refine⟨?_,?_,λe=>hpm (by rw[hb,e])⟩
  ·rcases hpv b hb with h1|h1
   ·exact(hT.ns b h1).1
   ·exact AC (hT.le0.trans hg) b h1
  ·rcases hpv b hb with h1|h1
   ·exact(hT.ns b h1).2
   ·rintro rfl;exact hbh h1
 have hg0m:g0 m=O:=AC (hT.le0.trans hg) m hm;have hg03:Heap.le g0 H3:=by
  intro b o hb;refine hl b o (hg b o (hT.le0 b o hb)) (λe=>?_) λe=>?_
  ·subst e;rw[hT.nb]at hb;cases hb
  ·rw[(hT.ns b e).1]at hb;cases hb
 obtain⟨g1,hg1⟩:∃ g1:Heap,g1=λb=>if b=m then H3 b else g0 b:=⟨_,rfl⟩
 obtain⟨g2,hg2⟩:∃ g2:Heap,g2=λb=>if b=bx\/Ao pv'=U b then H3 b else g1 b:=⟨_,rfl⟩
 have hle1:Heap.le g1 H3:=by
  intro b o hb;rw[hg1]at hb;dsimp only at hb;split at hb
  ·exact hb
  ·exact hg03 b o hb
 have hle2:Heap.le g2 H3:=by
  intro b o hb;rw[hg2]at hb;dsimp only at hb;split at hb
  ·exact hb
  ·exact hle1 b o hb
 have hle12:Heap.le g1 g2:=by
  intro b o hb;rw[hg2];dsimp only;split
  ·exact hle1 b o hb
  ·exact hb
 refine⟨g2,⟨hle2,λb o hb hn=>?_,λb hb hn=>?_⟩,pv',ms++[m],g1,⟨?_,?_,by rw[Zk,hT.len];rfl,hle12,λi hi=>?_,?_,λx hx=>?_,oM⟩⟩
 ·refine hl b o hb (λe=>?_) λe=>?_
  ·subst e;exact hbx hn
  ·exact hT.sl.mem e hn
 ·rw[hg2];dsimp only;have h1:b≠bx:=by rintro rfl;exact hbx hn
  have h2:Ao pv'≠U b:=by
   intro e;rcases hpv b e with h3|h3
   ·exact hT.sl.mem h3 hn
   ·exact hb h3
  have h3:b≠m:=by rintro rfl;exact hb hm
  rw[if_neg (by simp[h1,h2]),hg1];dsimp only;rw[if_neg h3];exact AC hT.le0 b hn
 ·exact hobj.kept λo ho=>by rw[hg2];simp[ho]
 ·exact hsl.same λb hb=>by rw[hg2];simp[hb]
 ·by_cases h1:i<looked
  ·have h2:=hT.maps i h1;have h3:Heap.le g0 g1:=by
    intro b o hb;rw[hg1];dsimp only;rw[if_neg λe=>?_]
    ·exact hb
    ·subst e;rw[hg0m]at hb;cases hb
   have h4:=h2.le h3;have h5:(ms++[m]).getD i 0=ms.getD i 0:=by simp[AaO,Zl (show i<ms.length by rw[hT.len];exact h1)]
   rw[h5];exact h4
  ·have h2:i=looked:=oM;subst h2;have h5:(ms++[m]).getD i 0=m:=by rw[<-hT.len];simp[AaO]
   rw[h5];obtain⟨kv,bs,ck,⟨es,q1,q2⟩,q3⟩:=hmap;exact⟨kv,bs,ck,⟨es,by rw[hg1];simpa using q1,q2⟩,q3⟩
 ·rw[hg1];dsimp only;rw[if_neg (Ne.symm hmb)];exact hT.nb
 ·obtain⟨h1,h2,h3⟩:=hpx x hx;refine⟨?_,h2⟩;rw[hg1];dsimp only;rw[if_neg h3];exact h1
def Sj (wkv:List (List UInt8×Value)) (bs dn:List Nat) (l:List (List UInt8)):Prop:=
 l.Nodup/\l.length<=dn.length/\∀ t,t∈l↔0<AK t/\∃ (j b:Nat) (u:Value),wkv[j]?=U (t,u)/\bs[j]?=U b/\b∈dn
theorem Sj.skip {wkv:List (List UInt8×Value)} {bs dn:List Nat} {l:List (List UInt8)} (h:Sj wkv bs dn l) {j b:Nat} {key:List UInt8} {u:Value} (hj:wkv[j]?=U (key,u)) (hb:bs[j]?=U b) (hbs:bs.Nodup) (hk:¬ 0<AK key):Sj wkv bs (dn++[b]) l:=by
 refine⟨h.1,by have:=h.2.1;simp;omega,λt=>(h.2.2 t).trans ⟨λ⟨h1,j',b',u',h2,h3,h4⟩=>⟨h1,j',b',u',h2,h3,by simp[h4]⟩,λ⟨h1,j',b',u',h2,h3,h4⟩=>⟨h1,j',b',u',h2,h3,?_⟩⟩⟩;rw[Yd,YA]at h4;rcases h4 with h4|rfl
 ·exact h4
 ·have:=EC hbs hb h3;subst this;rw[hj]at h2;simp only[Option.some.injEq,Prod.mk.injEq]at h2;rw[h2.1]at hk;exact absurd h1 hk
theorem Sj.take {wkv:List (List UInt8×Value)} {bs dn:List Nat} {l:List (List UInt8)} (h:Sj wkv bs dn l) {j b:Nat} {key:List UInt8} {u:Value} (hj:wkv[j]?=U (key,u)) (hb:bs[j]?=U b) (hbs:bs.Nodup) (hnd:(wkv.map (·.1)).Nodup) (hn:b∉dn) (hk:0<AK key):Sj wkv bs (dn++[b]) (l++[key]):=by
 refine⟨List.nodup_append.2 ⟨h.1,by simp,λx hx y hy e=>?_⟩,by have:=h.2.1;simp;omega,λt=>⟨λht=>?_,λ⟨h1,j',b',u',h2,h3,h4⟩=>?_⟩⟩
 ·simp at hy;subst hy;subst e;obtain⟨_,j',b',u',h2,h3,h4⟩:=(h.2.2 x).1 hx;have h5:(wkv.map (·.1))[j']?=U x:=by rw[Aae,h2];rfl
  have h6:(wkv.map (·.1))[j]?=U x:=by rw[Aae,hj];rfl
  have:=EC hnd h5 h6;subst this;rw[hb]at h3;cases h3;exact hn h4
 ·rw[Yd,YA]at ht;rcases ht with ht|rfl
  ·obtain⟨h1,j',b',u',h2,h3,h4⟩:=(h.2.2 t).1 ht;exact⟨h1,j',b',u',h2,h3,by simp[h4]⟩
  ·exact⟨hk,j,b,u,hj,hb,by simp⟩
 ·rw[Yd,YA]at h4 ⊢;rcases h4 with h4|rfl
  ·exact .inl ((h.2.2 t).2 ⟨h1,j',b',u',h2,h3,h4⟩)
  ·have:=EC hbs hb h3;subst this;rw[hj]at h2;simp only[Option.some.injEq,Prod.mk.injEq]at h2;exact .inr h2.1.symm
def PG (w n:Nat) (E:List (List Si)) (span score e:Nat) (pre:List (List UInt8)) (kv:List (List UInt8×List UInt8)):Prop:=
 ∀ s,look kv s=if s∈pre/\DF w n E span score s e≠[]then U (DF w n E span score s e)else O
def S46:Spec:=λargs h K=>∃ gx gt bx bt window need E span score looked,args=[.pointer (U ⟨bx,0,O⟩)]/\Ue gx bx bt window need E span score looked/\Heap.le gx h/\Sk gt bt window need E/\Heap.le gt h/\CA gt gx/\1<=need/\E.length<=1000/\(∀l∈E,l.length<=2000)/\1<=span/\span<=8/\1<=score/\score<=8 /\
 (looked=E.length->K (.bool false) h)/\(looked<E.length->∀ gx' h',Av gx h gx' h'->Ue gx' bx bt window need E span score (looked+1)->K (.bool true) h')
theorem F46_ok {N:Num} {Γ:Ctx} [Ak Γ] (H31:Sat S31 (Γ 31)) (H54:Sat (S54 N) (Γ 54)) (H66:Sat S66 (Γ 66)) (H67:Sat S67 (Γ 67)) (H68:Sat S68 (Γ 68)):Sat S46 (SF N Γ F46):=by
 rintro _ h K ⟨gx,gt,bx,bt,window,need,E,span,score,looked,rfl,⟨pv,ms,g0,hI⟩,hgx,hT,hgt,hd,hn1,hEl,hEr,hs1,hs2,hc1,hc2,hK1,hK2⟩;refine An rfl ?_;simp only[F46,Ze,Nat.reduceSub,Nat.reduceAdd];have hlk:=hI.lk;obtain⟨A0,A1,A2,A3,hPS⟩:=hI.read hgx;have R:=hPS.rules1 E6 (λ_=>rfl) 0;rw[hI.len]at R;refine CS @A3 @R @A2 ?_;refine Aa H31 ⟨gt,bt,window,need,E,rfl,hT,hgt,?_⟩;refine Ae ?_;refine Ad (λc1=>?_) (λc1=>?_)
 ·refine Ae ?_;exact hK1 oM
 have hlo:looked<E.length:=oM;have hK:=hK2 hlo;clear hK1 hK2;refine Ae ?_;refine AO λb3 h1 hle1 hb3 ho3=>?_;have ho3':Ah h1 ⟨b3,0,O⟩ [.slice O 0 0]:=ho3.le (Au _ _);have hRd:∀ H,Heap.le h H->H.cell ((⟨bx,0,O⟩:Addr).add 0)=U (.int .i64 span)/\H.cell ((⟨bx,0,O⟩:Addr).add 1)=U (.int .i64 score)/\H.cell ((⟨bx,0,O⟩:Addr).add 2)=U (.pointer (U ⟨bt,0,O⟩))/\H.cell ((⟨bx,0,O⟩:Addr).add 3)=U pv/\Sl Fw H pv ms:=λH hl=>hI.read (hgx.trans hl);have A21:=(hRd h1 hle1).2.2.1;refine Ap @A21 ?_;refine Aa H54 ⟨_,rfl,λb6 h2 hle2 ho6=>?_⟩;obtain⟨mw,wkv,bs,ck,hmw,hMB,hnd,hkeys⟩:=hT.keys;have hbsl:bs.length=wkv.length:=by obtain⟨_,_,_,h,_⟩:=hMB;exact h
 have hbsn:bs.Nodup:=by obtain⟨_,_,_,_,h,_⟩:=hMB;exact h
 have hwl:wkv.length=(AX E).length:=by
  have e:=Lp hnd (Fc E) λx=>(hkeys x).trans (CG E x).symm
  rwa [Aaw]at e
 have hfl:=I1 E hEr;have htl2:(AX E).length<=2000000:=by have:=GE (FQ E);unfold AX;omega
 have hle12:=hle1.trans hle2;refine Ae ?_;refine Vk (ek:=AF) (ev:=id) (c:=⟨b6,0,O⟩) (a:=⟨bt,0,O⟩) (kv:=wkv) (bs:=bs) (ck:=ck) (mp:=mw) rfl ((ho6.le (Au _ _)).rules.2.1 (by simp)) (hmw h2 (hgt.trans hle12))
  (λdn G=>Heap.le h G/\∃ v l,Ah G ⟨b3,0,O⟩ [v]/\BE AB 1 G v l/\(∀b,Ao v=U b->h b=O/\b≠b3)/\Sj wkv bs dn l) ⟨hle12,.slice O 0 0,[],ho3'.le hle2,BE.nil,by simp[Ao],⟨by simp,by simp,by simp⟩⟩ (λdn G hJ=>hMB.le (hgt.trans hJ.1)) ?_ ?_
 rotate_left
 ·rintro dn G j b key val ⟨hG,v,l,hob,hSl,hvb,hga⟩ hdn hds hj hb hnb;have hdl:dn.length<=bs.length:=Ib hdn hds;have hll:=hga.2.1;refine AH @GH @AF.eq_1 ?_;refine Aa H66 ⟨key,rfl,λG2 hle3=>?_⟩;refine Ae ?_;refine Ad (λc=>?_) (λc=>?_);rotate_left
  ·refine Ap @GH ?_;exact⟨hG.trans hle3,v,l,hob.le hle3,hSl.le hle3,hvb,hga.skip hj hb hbsn c⟩
  have B3:G2.cell ⟨b3,0,O⟩=U v:=(hob.le hle3).rules.2.1 (by simp);have O1:=hSl.one;refine Ap @B3 ?_;refine Bg AB 1 (λ_=>rfl) [key] rfl rfl (by simp[maxLen]) λx1 b1 G3 hle4 hb1 hx1 hS3=>?_;have O2:=hS3.one;have hle34:=hle3.trans hle4;refine AH O2.1 O2.2 ?_;refine Cc (enc:=AB) (sz:=1) (g:=G3) (l:=l) (l':=[key]) (λ_=>rfl) (by simp[AB,one]) (hSl.le hle34) (ZX G3) (BE.sl (enc:=AB) (λ_=>rfl) (hS3.le (Au _ _))) (by simp;omega) λv4 h4 g4 hS4 St4 e1 e2 e3=>?_;have hob4:Ah h4 ⟨b3,0,O⟩ [v]:=(hob.le hle34).kept λo ho=>e3 _ _ ho λe=>(hvb _ e).2 rfl;have hb3G:G3 b3≠O:=by obtain⟨_,cc,tt,q,_⟩:=hob.le hle34;rw[q];simp
  have hvb4:∀ b,Ao v4=U b->h b=O/\b≠b3:=by
   intro b hb;rcases e2 b hb with h5|h5
   ·exact hvb b h5
   ·exact⟨AC (hG.trans hle34) b h5,λe=>hb3G (e▸h5)⟩
  have hG4:Heap.le h h4:=λb o hb=>e3 b o (hle34 b o (hG b o hb)) λe=>by rw[(hvb b e).1]at hb;cases hb
  have O4:=hS4.one;refine AH O4.1 O4.2 ?_;refine Br hob4 0 1 (by rw[O4.2];rfl) (by rw[O4.2];simp[O4.1]) oM (by simp) λo7 hob8 _=>?_;have hob9:Ah (h4.set b3 o7) ⟨b3,0,O⟩ [v4]:=by have:=hob8 h4 rfl;simpa[O4.2]using this
  refine Ap @GH ?_;have hb3h:h b3=O:=hb3;refine⟨IF.le (b:=b3) hG4 hb3h λx hx=>ZW hx,v4,l++[key],hob9,(hS4.le St4.le).same λb hb=>ZW (hvb4 b hb).2,hvb4,hga.take hj hb hbsn hnd hnb c⟩
 rintro dn G ⟨hG,v,l,hob,hSl,hvb,hga⟩ hdn hds hall;have hdl:dn.length<=bs.length:=Ib hdn hds;have hll:l.length<=2000000:=by have:=hga.2.1;omega
 have hmem:∀ t,t∈l↔0<AK t/\Bb E t:=by
  intro t;rw[hga.2.2 t,<-hkeys t];refine and_congr Iff.rfl ⟨λ⟨j,b,u,q1,q2,q3⟩=>Yu.2 ⟨_,ZY q1,rfl⟩,λht=>?_⟩;obtain⟨⟨k,u⟩,q1,rfl⟩:=Yu.1 ht;obtain⟨j,hj,q2⟩:=Z3 q1;have hj2:j<bs.length:=oM;exact⟨j,bs[j],u,by rw[Zj hj,q2],by rw[Zj hj2],hall _ (Aah hj2)⟩
 have B3:G.cell ⟨b3,0,O⟩=U v:=hob.rules.2.1 (by simp);refine Ap @B3 ?_;refine Aa H67 ⟨v,l,rfl,hSl,oM,λH1 hS1 hk1=>?_⟩;have hordL:=PO hga.1;have hmemL:∀ t,t∈MC l↔0<AK t/\Bb E t:=λt=>Uo.trans (hmem t);have hLl:(MC l).length<=2000000:=by rw[PP];exact hll
 generalize MC l=L at *;have hH1:Heap.le h H1:=λb o hb=>hk1 b o (hG b o hb) λe=>by rw[(hvb b e).1]at hb;cases hb
 have hob1:Ah H1 ⟨b3,0,O⟩ [v]:=hob.kept λo ho=>hk1 _ _ ho λe=>(hvb _ e).2 rfl;clear hk1 hSl hob B3 hga;refine Ae ?_;refine EX (ek:=AF) (ev:=AF) λm H2 hm0 hle2' hmE=>?_;have hmE2:=hmE.le (Au _ _);have hob2:=hob1.le hle2';have hS2:=hS1.le hle2';have hH2:=hH1.trans hle2';have hmh:h m=O:=AC hH1 m hm0;have hmb3:b3≠m:=by
  rintro rfl;obtain⟨_,cc,tt,q,_⟩:=hob1;rw[q]at hm0;cases hm0
 have hvm:Ao v≠U m:=λe=>hS1.mem e hm0;have B32:∀ H,Ah H ⟨b3,0,O⟩ [v]->H.cell ⟨b3,0,O⟩=U v:=λH ho=>ho.rules.2.1 (by simp);have B3:=B32 _ hob2;have RL0:=(BE.sl (enc:=AB) (sz:=1) (λ_=>rfl) hS2).rules1 (λt=>.string (str t)) (λ_=>rfl) default;have hin:∀ s p,Cf s p->0<B9 window need E span s p looked->p∈L:=by
  intro s p hc h0;have:=(GY hn1 h0).2;obtain⟨l,hl,hs⟩:=this;exact(hmemL p).2 ⟨by have:=hc.1;have:=hc.2;omega,l,Z4 hl,hs⟩
 refine AH @B3 @RL0 ?_;refine AA (λenv H=>Heap.le h H/\(∃kv bs ck,Bn AF AF H m kv bs ck/\PG window need E span score looked L kv)/\env=[U (.pointer (U ⟨bx,0,O⟩)),O,U (.int .i64 (looked:Nat)),U (.pointer (U ⟨b3,0,O⟩)),O,U (.map (U m)),O,O,O,O,O,O,O,O,O,O,O,O,O,O,O,O,O,O,O,O,O,O,O,O,O,O,O,O,O,O,O,O,O,O,O,O]) ?_ ?_;rotate_left
 ·refine Aj (λi:Nat=>[U (.pointer (U ⟨bx,0,O⟩)),O,U (.int .i64 (looked:Nat)),U (.pointer (U ⟨b3,0,O⟩)),O,U (.map (U m)),O,O,O,O,O,O,O,O,O,O,O,O,O,O,O,O,O,U v,U (.int .i64 L.length),U (.int .i64 (i:Nat)),O,O,O,O,O,O,O,O,O,O,O,O,O,O,O,O])
   (λi H=>i<=L.length/\Heap.le h H/\Ah H ⟨b3,0,O⟩ [v]/\BE AB 1 H v L/\∃ kv bs ck,Bn AF AF H m kv bs ck/\PG window need E span score looked (L.take i) kv) (λi=>L.length-i) 0 (by try simp only[Pf];rfl) ⟨oM,hH2,hob2,hS2,[],[],0,hmE2,λs=>by simp[Bd]⟩ ?_
  rintro i H ⟨hi,hH,hob,hS,kv,bs',ck',hmp,hkid⟩;have RL:=(BE.sl (enc:=AB) (sz:=1) (λ_=>rfl) hS).rules1 (λt=>.string (str t)) (λ_=>rfl) default;have hw:=wS i;refine Ae ?_;refine Ad (λc=>?_) (λc=>?_);rotate_left
  ·have:i=L.length:=oM;subst this;rw[Z5]at hkid;refine Ae ?_;exact Ar _ sE ⟨hH,⟨kv,bs',ck',hmp,hkid⟩,rfl⟩
  have A5:i<L.length:=oM;have hcm:=(hmemL _).1 (As default A5);have hnx:L.take (i+1)=L.take i++[L.getD i default]:=Ai default A5;refine Ap @RL ?_;generalize hch:L.getD i default=ch at *;refine AT (λenv H'=>H'=H/\env=[U (.pointer (U ⟨bx,0,O⟩)),O,U (.int .i64 (looked:Nat)),U (.pointer (U ⟨b3,0,O⟩)),O,U (.map (U m)),U (.string (str ch)),U (.string (str (MH window need E span score ch looked))),O,O,O,O,O,O,O,O,O,O,O,O,O,O,O,U v,U (.int .i64 L.length),U (.int .i64 (i:Nat)),O,O,O,O,O,O,O,O,O,O,O,O,O,O,O,O]) ?_ ?_;rotate_left
  ·obtain⟨_,_,_,A3H,hPS⟩:=hRd H hH;have RP:=hPS.rules1 E6 (λ_=>rfl) 0;rw[hI.len]at RP;cases looked with
   |zero=>
    refine Ae ?_;exact Ar _ (by try simp only[Pf];rfl) ⟨rfl,rfl⟩
   |succ e1=>
    have hm:=((hI.maps e1 oM).le (hI.le0.trans (hgx.trans hH))).lkp ch;have he1:IntKind.i64.wrap (((e1+1:Nat):Int)-1)=((e1:Nat):Int):=wN;have hp1:((0:Int)<((e1+1:Nat):Int))=True:=by rw[eq_iff_iff];simp
    refine Vc @hp1 @A3H @he1 @RP @E6.eq_1 @hm ?_;exact Ar _ (by try simp only[Pf];rfl) ⟨rfl,rfl⟩
  rintro env H' ⟨rfl,rfl⟩;obtain⟨_,A1H,_,_,_⟩:=hRd H' hH;have B3H:=B32 H' hob;have hsc:IntKind.i64.wrap ((score:Int)-1)=(score:Int)-1:=by rw[BC oM oM]
  generalize hwas:MH window need E span score ch looked=was at *;refine Ek @A1H @hsc @B3H @RL ?_;refine Aj (λx:Nat×List UInt8×Int=>[U (.pointer (U ⟨bx,0,O⟩)),O,U (.int .i64 (looked:Nat)),U (.pointer (U ⟨b3,0,O⟩)),O,U (.map (U m)),U (.string (str ch)),U (.string (str was)),U (.string (str x.2.1)),U (.int .i64 x.2.2),O,O,O,O,O,O,O,O,O,O,O,O,O,U v,U (.int .i64 L.length),U (.int .i64 (i:Nat)),O,O,U v,U (.int .i64 L.length),U (.int .i64 (x.1:Nat)),O,O,O,O,O,O,O,O,O,O,O])
   (λx G=>x.1<=L.length/\Heap.le H' G/\E7 (λp=>B9 window need E span ch p looked) score ch was (L.take x.1) x.2.1 x.2.2) (λx=>L.length-x.1) (0,[],(score:Int)-1) (by try simp only[Pf];rfl) ⟨dM,ZX H',E7.nil⟩ ?_
  rintro⟨k,best,most⟩ G1 ⟨hk,hHG,hF⟩;dsimp only at hk hF ⊢;have RLG:=(BE.sl (enc:=AB) (sz:=1) (λ_=>rfl) (hS.le hHG)).rules1 (λt=>.string (str t)) (λ_=>rfl) default;have hwk:=wS k;refine Ae ?_;refine Ad (λc2=>?_) (λc2=>?_);rotate_left
  ·have:k=L.length:=oM;subst this;rw[Z5]at hF;have hpar:DF window need E span score ch looked=best:=L8 (by rw[hwas];exact hF.par hc1 (hin ch));have hKid:∀ kv',(∀s,look kv' s=if s=ch/\best≠[]then U best else look kv s)->PG window need E span score looked (L.take (i+1)) kv':=by
    intro kv' h' s;rw[h' s,hnx,hkid s];by_cases hs:s=ch
    ·subst hs;rw[hpar];by_cases hbn:best=[]
     ·simp[hbn]
     ·simp[hbn]
    ·simp[hs]
   refine Ae ?_;refine Ad (λc3=>?_) (λc3=>?_)
   ·refine Ae ?_;refine BX (ek:=AF) (ev:=AF) (hmp.le hHG) (ZX G1) ch best λo bs'' ck'' hm' St' _=>?_;refine Ap @hw ?_;refine Ag (i+1) oM sE ⟨oM,IF.le (b:=m) (hH.trans hHG) hmh λx hx=>ZW hx,(hob.le hHG).nset hmb3,(hS.le hHG).same λb hb=>ZW λe=>hvm (e▸hb),_,_,_,hm',hKid _ λs=>?_⟩;rw[A6];by_cases hs:s=ch
    ·rw[if_pos hs,if_pos ⟨hs,c3⟩]
    ·rw[if_neg hs,if_neg λh=>hs h.1]
   ·refine Ap @hw ?_;exact Ag (i+1) oM sE ⟨oM,hH.trans hHG,hob.le hHG,hS.le hHG,_,_,_,hmp.le hHG,hKid _ λs=>by rw[if_neg λh=>c3 h.2]⟩
  have hk2:k<L.length:=oM;have hpm:=(hmemL _).1 (As default hk2);have hnk:L.take (k+1)=L.take k++[L.getD k default]:=Ai default hk2;have hordk:=Lo hordL hk2;refine Ap @RLG ?_;generalize hp:L.getD k default=p at *;refine Aa H66 ⟨p,rfl,λG2 hle2'=>?_⟩;refine Ae ?_;refine Aa H66 ⟨ch,rfl,λG3 hle3'=>?_⟩;have hHG3:=hHG.trans (hle2'.trans hle3');obtain⟨A03,A13,A23,_,_⟩:=hRd G3 (hH.trans hHG3);refine Ae ?_;refine Ad (λc4=>?_) (λc4=>?_)
  ·refine Ap @hwk ?_;refine Ag (k+1,best,most) dM (by dsimp only;try simp only[Pf]) ⟨dM,hHG3,?_⟩;dsimp only;rw[hnk];exact hF.skip λhc=>by have:=hc.2;omega
  have hcd:Cf ch p:=⟨hcm.1,oM⟩
  refine Ae ?_;refine Aa H68 ⟨bx,gt,bt,window,need,E,ch,p,looked,span,rfl,hT,hgt.trans (hH.trans hHG3),A03,A23,hn1,hEl,hlo,hs1,hs2,?_⟩;refine Ap @A13 ?_;refine Ad (λc5=>?_) (λc5=>?_)
  ·refine Ap @hwk ?_;refine Ag (k+1,p,(B9 window need E span ch p looked:Nat)) dM (by dsimp only;try simp only[Pf]) ⟨dM,hHG3,?_⟩;dsimp only;rw[hnk];exact hF.take hcd hordk hc1 (c5.imp id λ⟨⟨a,b⟩,c⟩=>⟨a,b,c⟩)
  ·refine Ap @hwk ?_;refine Ag (k+1,best,most) dM (by dsimp only;try simp only[Pf]) ⟨dM,hHG3,?_⟩;dsimp only;rw[hnk];exact hF.leave hcd hordk λhx=>c5 (hx.imp id λ⟨a,b,c⟩=>⟨⟨a,b⟩,c⟩)
 rintro env H ⟨hH,⟨kv,bs',ck',hmp,hkid⟩,rfl⟩;obtain⟨_,_,_,A3H,hPSH⟩:=hRd H hH;have hMapS:∀ G,(∀o,H m=U o->G m=U o)->PF G m λs=>DF window need E span score s looked:=by
  intro G hG;obtain⟨es,q1,q2⟩:=hmp;refine⟨kv,bs',ck',⟨es,hG _ q1,q2⟩,λs=>?_⟩;rw[hkid s];by_cases hp:DF window need E span score s looked=[]
  ·rw[if_neg λh=>h.2 hp,if_pos hp]
  ·have hsL:s∈L:=by
    refine(hmemL s).2 (Classical.byContradiction λhc=>hp (Uy hn1 hc1 ?_));by_cases hk:AK s<=0
    ·exact .inl hk
    ·refine .inr λht=>hc ⟨oM,?_⟩;obtain⟨l,hl,hs⟩:=ht;exact⟨l,Z4 hl,hs⟩
   rw[if_neg hp,if_pos ⟨hsL,hp⟩]
 have hHm:H m≠O:=by obtain⟨es,q1,q2⟩:=hmp;rw[q1];simp
 have hpl:ms.length=looked:=hI.len;refine Ap @A3H ?_;refine Bg Fw 1 (λ_=>rfl) [m] rfl rfl (by simp[maxLen]) λx1 b1 H5 hle5 hb1 hx1 hS5=>?_;have O2:=hS5.one;have OP:=hI.sl.one;refine Ek O2.1 O2.2 OP.1 OP.2 ?_;have hHH5:=hH.trans hle5;refine Cc (enc:=Fw) (sz:=1) (g:=H5) (l:=ms) (l':=[m]) (λ_=>rfl) (by simp[Fw,E6,one]) (hI.sl.le (hgx.trans hHH5)) (ZX H5) (BE.sl (enc:=Fw) (λ_=>rfl) (hS5.le (Au _ _))) (by simp;omega) λpv' H6 g6 hS6 St6 e1 e2 e3=>?_;have O6:=hS6.one;have hbxp:Ao pv≠U bx:=λe=>(hI.ns _ e).2 rfl;have hob6:Ah H6 ⟨bx,0,O⟩ [.int .i64 span,.int .i64 score,.pointer (U ⟨bt,0,O⟩),pv]:=(hI.obj.le (hgx.trans hHH5)).kept λo ho=>e3 _ _ ho hbxp;refine AH O6.1 O6.2 ?_;refine Br hob6 3 1 (by rw[O6.2];rfl) (by rw[O6.2];simp[O6.1]) oM (by simp) λo7 hob8 _=>?_;have hob9:Ah (H6.set bx o7) ⟨bx,0,O⟩ [.int .i64 span,.int .i64 score,.pointer (U ⟨bt,0,O⟩),pv']:=by have:=hob8 H6 rfl;simpa[O6.2]using this
 have hbx5:H5 bx≠O:=by obtain⟨_,cc,tt,q,_⟩:=hI.obj.le (hgx.trans hHH5);rw[q];simp
 have hm5:H5 m≠O:=by
  cases e:H m with
  |none=>exact absurd e hHm
  |some o=>rw[hle5 _ _ e];simp
 have hbxh:h bx≠O:=by obtain⟨_,cc,tt,q,_⟩:=hI.obj.le hgx;rw[q];simp
 have hmx:m≠bx:=by rintro rfl;exact hbxh hmh
 have hpvm:Ao pv≠U m:=λe=>(hI.sl.le hgx).mem e hmh;have hpx:∀ b,Ao pv'=U b->b≠bx/\b≠m/\(Ao pv=U b\/h b=O):=by
  intro b hb;rcases e2 b hb with h5|h5
  ·exact⟨(hI.ns b h5).2,λe=>hpvm (e▸h5),.inl h5⟩
  ·exact⟨λe=>hbx5 (e▸h5),λe=>hm5 (e▸h5),.inr (AC hHH5 b h5)⟩
 obtain⟨gx',hSt,hIn⟩:=Ue.next (H3:=H6.set bx o7) (pv':=pv') hI hgx hmh hlo
  (λb o hb h1 h2=>by rw[ZW h1];exact e3 b o (hHH5 b o hb) h2) hob9
  ((hS6.le St6.le).same λb hb=>ZW (hpx b hb).1)
  (hMapS _ λo ho=>by rw[ZW hmx];exact e3 m o (hle5 m o ho) hpvm)
  (λe=>(hpx m e).2.1 rfl) λb hb=>(hpx b hb).2.2
 refine Ae ?_;exact hK gx' _ hSt hIn
end Go.Cw
namespace Go.Cw
open Go Go.Sort Go.Proofs
def kv (v:Value) (h h':Heap):Prop:=∀ x o,h x=U o->Ao v≠U x->h' x=U o
theorem kv.refl {v:Value} {h:Heap}:kv v h h:=λ_ _ h _=>h
theorem kv.trans {v:Value} {h h' h'':Heap} (a:kv v h h') (b:kv v h' h''):kv v h h'':=λx o h1 h2=>b x o (a x o h1 h2) h2
theorem kv.of_le {v:Value} {h h':Heap} (a:Heap.le h h'):kv v h h':=λx o h1 _=>a x o h1
def Rw (F h:Heap) (v:Value) (d:Array Si):Prop:=AQ Aa6 4 F h v d.toList
theorem Rw.le {F h h':Heap} {v:Value} {d:Array Si} (a:Rw F h v d) (hl:Heap.le h h'):Rw F h' v d:=AQ.le a hl
structure So (N:Num) (Γ:Ctx) (F:Heap) (v:Value) (fl fs:Nat) (cl cs:Array Value) (lt:Si->Si->Bool) (n:Nat):Prop where
 less:∀ (H:Heap) (d:Array Si) (i j:Nat) (K:Value->Heap->Prop),d.size=n->Rw F H v d->i<n->j<n->(∀H',Heap.le H H'->K (.bool (lt d[i]! d[j]!)) H')->By N Γ .cal [.func (.func fl) #[] cl,.int .i64 i,.int .i64 j] H K
 swap:∀ (H:Heap) (d:Array Si) (i j:Nat) (K:Value->Heap->Prop),d.size=n->Rw F H v d->i<n->j<n->(∀H',Rw F H' v (swp d i j)->kv v H H'->K (.tuple #[]) H')->By N Γ .cal [.func (.func fs) #[] cs,.int .i64 i,.int .i64 j] H K
 size:n<=100000000
def S98 (N:Num) (Γ:Ctx):Spec:=λargs h K=>∃ F v fl fs cl cs lt d,∃a b:Nat,args=[.agg #[.func (.func fl) #[] cl,.func (.func fs) #[] cs],.int .i64 a,.int .i64 b]/\So N Γ F v fl fs cl cs lt d.size/\Rw F h v d/\a<=b/\b<=d.size /\
 ∀ h',Rw F h' v (insertionSort lt d a b)->kv v h h'->K (.tuple #[]) h'
theorem F98_ok {N:Num} {Γ:Ctx} [Ak Γ]:Sat (S98 N Γ) (SF N Γ F98):=by
 rintro _ h K ⟨F,v,fl,fs,cl,cs,lt,d,a,b,rfl,hS,hd,hab,hb,hK⟩;have hsz:=hS.size;refine An rfl ?_;simp only[F98,Ze,Nat.reduceSub,Nat.reduceAdd];refine Ae ?_;refine Aj (λx:Nat×Array Si=>[U (.agg #[.func (.func fl) #[] cl,.func (.func fs) #[] cs]),U (.int .i64 a),U (.int .i64 b),U (.agg #[.func (.func fl) #[] cl,.func (.func fs) #[] cs]),U (.int .i64 (x.1:Nat)),O,O,O,O,O])
  (λx H=>a<x.1/\x.1<=b+1/\x.2.size=d.size/\Rw F H v x.2/\kv v h H/\insOuter lt a b x.1 x.2=insOuter lt a b (a+1) d) (λx=>b+1-x.1) (a+1,d) (by dsimp only;try simp only[Pf]) ⟨dM,dM,rfl,hd,kv.refl,rfl⟩ ?_
 rintro⟨i,dk⟩ H ⟨hai,hib,hsk,hR,hkv,hO⟩;dsimp only at hai hib hsk hR hO ⊢;have hw:=wS i;refine Ae ?_;refine Ad (λc=>?_) (λc=>?_);rotate_left
 ·refine Ae ?_;refine hK H ?_ hkv;unfold insertionSort;rw[<-hO,insOuter_stop _ _ _ _ _ oM];exact hR
 have hib2:i<b:=oM;refine Ae ?_;refine Aj (λx:Nat×Array Si=>[U (.agg #[.func (.func fl) #[] cl,.func (.func fs) #[] cs]),U (.int .i64 a),U (.int .i64 b),U (.agg #[.func (.func fl) #[] cl,.func (.func fs) #[] cs]),U (.int .i64 (i:Nat)),U (.int .i64 (x.1:Nat)),O,O,O,O])
  (λx H2=>a<=x.1/\x.1<=i/\x.2.size=d.size/\Rw F H2 v x.2/\kv v h H2/\insInner lt a x.1 x.2=insInner lt a i dk) (λx=>x.1) (i,dk) (by dsimp only;try simp only[Pf]) ⟨dM,Yq _,hsk,hR,hkv,rfl⟩ ?_
 rintro⟨j,dj⟩ H2 ⟨haj,hji,hsj,hR2,hkv2,hI⟩;dsimp only at haj hji hsj hR2 hI ⊢;have hout:∀ H3,(j<=a\/lt dj[j]! dj[j-1]! = false)->Heap.le H2 H3->a<i+1/\i+1<=b+1/\dj.size=d.size/\Rw F H3 v dj/\kv v h H3/\insOuter lt a b (i+1) dj=insOuter lt a b (a+1) d:=by
  intro H3 hst hle;refine⟨oM,oM,hsj,hR2.le hle,hkv2.trans (kv.of_le hle),?_⟩;rw[<-hO,insOuter_go _ _ _ _ _ hib2,<-hI,insInner_stop _ _ _ _ hst]
 by_cases hja:a<j;rotate_left
 ·have hja':((a:Int)<(j:Int))=False:=by rw[eq_iff_iff];simp;omega
  refine AH @hja' @hw ?_;exact Ag (i+1,dj) dM (by dsimp only;try simp only[Pf]) (hout H2 (.inl oM) (ZX _))
 have hja':((a:Int)<(j:Int))=True:=by rw[eq_iff_iff];simp;omega
 have hj1:IntKind.i64.wrap ((j:Int)-1)=((j-1:Nat):Int):=wN;refine AH @hja' @hj1 ?_;refine hS.less H2 dj j (j-1) _ hsj hR2 oM oM λH3 hle3=>?_;cases hl:lt dj[j]! dj[j-1]! with
 |false=>
  refine Ap @hw ?_;exact Ag (i+1,dj) dM (by dsimp only;try simp only[Pf]) (hout H3 (.inr hl) hle3)
 |true=>
  refine Ap @hj1 ?_;refine hS.swap H3 dj j (j-1) _ hsj (hR2.le hle3) oM oM λH4 hR4 hk4=>?_;refine Ap @hj1 ?_;exact Ag (j-1,swp dj j (j-1)) dM (by dsimp only;try simp only[Pf]) ⟨dM,dM,by dsimp only;rw[size_swp];exact hsj,hR4,(hkv2.trans (kv.of_le hle3)).trans hk4,by rw[<-hI,insInner_go lt a j dj hja hl]⟩
end Go.Cw
namespace Go.Cw
open Go Go.Sort Go.Proofs
theorem Gj {lt:Si->Si->Bool} {hi first root:Nat} {d:Array Si} (h:hi<=2*root+1):siftDown lt hi first root d=d:=by rw[siftDown,dif_pos oM]
def Qa (lt:Si->Si->Bool) (hi first root:Nat) (d:Array Si):Nat:=if 2*root+1+1<hi&&lt d[first+(2*root+1)]! d[first+(2*root+1)+1]! then 2*root+2 else 2*root+1
theorem HY {lt:Si->Si->Bool} {hi first root:Nat} {d:Array Si} (h:¬ hi<=2*root+1):Qa lt hi first root d<hi/\root<Qa lt hi first root d /\
  siftDown lt hi first root d=if lt d[first+root]! d[first+Qa lt hi first root d]! then siftDown lt hi first (Qa lt hi first root d) (swp d (first+root) (first+Qa lt hi first root d))else d:=by
 unfold Qa;rw[siftDown,dif_neg oM];split
 ·rename_i hc;simp only[X6,decide_eq_true_eq]at hc;refine⟨oM,oM,?_⟩;cases hl:lt d[first+root]! d[first+(2*root+2)]! with
  |true=>simp[show 2*root+2<hi by omega]
  |false=>simp
 ·refine⟨oM,oM,?_⟩;cases hl:lt d[first+root]! d[first+(2*root+1)]! with
  |true=>simp
  |false=>simp
def S112 (N:Num) (Γ:Ctx):Spec:=λargs h K=>∃ F v fl fs cl cs lt d,∃lo hi first:Nat,args=[.agg #[.func (.func fl) #[] cl,.func (.func fs) #[] cs],.int .i64 lo,.int .i64 hi,.int .i64 first]/\So N Γ F v fl fs cl cs lt d.size/\Rw F h v d/\lo<=d.size/\first+hi<=d.size /\
 ∀ h',Rw F h' v (siftDown lt hi first lo d)->kv v h h'->K (.tuple #[]) h'
theorem F112_ok {N:Num} {Γ:Ctx} [Ak Γ]:Sat (S112 N Γ) (SF N Γ F112):=by
 rintro _ h K ⟨F,v,fl,fs,cl,cs,lt,d,lo,hi,first,rfl,hS,hd,hlo,hb,hK⟩;have hsz:=hS.size;refine An rfl ?_;simp only[F112,Ze,Nat.reduceSub,Nat.reduceAdd];refine Ae ?_;refine Aj (λx:Nat×Array Si=>[U (.agg #[.func (.func fl) #[] cl,.func (.func fs) #[] cs]),U (.int .i64 lo),U (.int .i64 hi),U (.int .i64 first),U (.agg #[.func (.func fl) #[] cl,.func (.func fs) #[] cs]),U (.int .i64 (x.1:Nat)),O,O,O,O,O,O,O])
  (λx H=>x.1<=d.size/\x.2.size=d.size/\Rw F H v x.2/\kv v h H/\siftDown lt hi first x.1 x.2=siftDown lt hi first lo d) (λx=>d.size-x.1) (lo,d) (by dsimp only;try simp only[Pf]) ⟨hlo,rfl,hd,kv.refl,rfl⟩ ?_
 rintro⟨r,dk⟩ H ⟨hr,hsk,hR,hkv,hP⟩;dsimp only at hr hsk hR hP ⊢;have hw1:IntKind.i64.wrap (IntKind.i64.wrap (2*(r:Int))+1)=((2*r+1:Nat):Int):=by rw[BC (n:=2*(r:Int)) oM oM,BC oM oM];omega
 refine Ap @hw1 ?_;refine Ad (λc=>?_) (λc=>?_)
 ·refine Ae ?_;refine hK H ?_ hkv;rw[<-hP,Gj oM];exact hR
 have hc1:¬ hi<=2*r+1:=oM;obtain⟨k1,k2,k3⟩:=HY (lt:=lt) (first:=first) (d:=dk) hc1;have hw2:IntKind.i64.wrap (((2*r+1:Nat):Int)+1)=((2*r+1+1:Nat):Int):=wN;have hw3:IntKind.i64.wrap ((first:Int)+((2*r+1:Nat):Int))=((first+(2*r+1):Nat):Int):=wN;have hw4:IntKind.i64.wrap (((first+(2*r+1):Nat):Int)+1)=((first+(2*r+1)+1:Nat):Int):=wN;refine Ap @hw2 ?_;have hgo:∀ (H2:Heap) (env:At),(Qa lt hi first r dk=2*r+2\/Qa lt hi first r dk=2*r+1)->Heap.le H H2->Rw F H2 v dk/\kv v h H2:=λH2 env _ hl=>⟨hR.le hl,hkv.trans (kv.of_le hl)⟩
 by_cases hc2:2*r+1+1<hi;rotate_left
 ·have hc2':(((2*r+1+1:Nat):Int)<(hi:Int))=False:=by rw[eq_iff_iff];simp;omega
  have hkd:Qa lt hi first r dk=2*r+1:=by unfold Qa;rw[if_neg (by simp;omega)]
  rw[hkd]at k1 k2 k3;have hw5:IntKind.i64.wrap ((first:Int)+(r:Int))=((first+r:Nat):Int):=wN;refine CS @hc2' @hw3 @hw5 ?_;refine hS.less H dk (first+r) (first+(2*r+1)) _ hsk hR oM oM λH3 hle3=>?_;cases hl:lt dk[first+r]! dk[first+(2*r+1)]! with
  |false=>
   rw[hl]at k3;refine Ae ?_;refine hK H3 ?_ (hkv.trans (kv.of_le hle3));rw[<-hP,k3];exact hR.le hle3
  |true=>
   rw[hl,if_pos rfl]at k3;refine AH @hw3 @hw5 ?_;refine hS.swap H3 dk (first+r) (first+(2*r+1)) _ hsk (hR.le hle3) oM oM λH4 hR4 hk4=>?_;refine Ae ?_;exact Ag (2*r+1,swp dk (first+r) (first+(2*r+1))) dM (by dsimp only;try simp only[Pf]) ⟨dM,by dsimp only;rw[size_swp];exact hsk,hR4,(hkv.trans (kv.of_le hle3)).trans hk4,by rw[<-hP,k3]⟩
 have hc2':(((2*r+1+1:Nat):Int)<(hi:Int))=True:=by rw[eq_iff_iff];simp;omega
 refine CS @hc2' @hw3 @hw4 ?_;refine hS.less H dk (first+(2*r+1)) (first+(2*r+1)+1) _ hsk hR oM oM λH2 hle2=>?_;have hR2:=hR.le hle2;have hkv2:=hkv.trans (kv.of_le hle2);have hw5:IntKind.i64.wrap ((first:Int)+(r:Int))=((first+r:Nat):Int):=wN;have hw6:IntKind.i64.wrap ((first:Int)+((2*r+1+1:Nat):Int))=((first+(2*r+2):Nat):Int):=wN;cases hl0:lt dk[first+(2*r+1)]! dk[first+(2*r+1)+1]! with
 |false=>
  have hkd:Qa lt hi first r dk=2*r+1:=by unfold Qa;rw[hl0];simp
  rw[hkd]at k1 k2 k3;refine AH @hw3 @hw5 ?_;refine hS.less H2 dk (first+r) (first+(2*r+1)) _ hsk hR2 oM oM λH3 hle3=>?_;cases hl:lt dk[first+r]! dk[first+(2*r+1)]! with
  |false=>
   rw[hl]at k3;refine Ae ?_;refine hK H3 ?_ (hkv2.trans (kv.of_le hle3));rw[<-hP,k3];exact hR2.le hle3
  |true=>
   rw[hl,if_pos rfl]at k3;refine AH @hw3 @hw5 ?_;refine hS.swap H3 dk (first+r) (first+(2*r+1)) _ hsk (hR2.le hle3) oM oM λH4 hR4 hk4=>?_;refine Ae ?_;exact Ag (2*r+1,swp dk (first+r) (first+(2*r+1))) dM (by dsimp only;try simp only[Pf]) ⟨dM,by dsimp only;rw[size_swp];exact hsk,hR4,(hkv2.trans (kv.of_le hle3)).trans hk4,by rw[<-hP,k3]⟩
 |true=>
  have hkd:Qa lt hi first r dk=2*r+2:=by unfold Qa;rw[hl0,if_pos (by simp;omega)]
  rw[hkd]at k1 k2 k3;refine CS @hw2 @hw5 @hw6 ?_;refine hS.less H2 dk (first+r) (first+(2*r+2)) _ hsk hR2 oM oM λH3 hle3=>?_;cases hl:lt dk[first+r]! dk[first+(2*r+2)]! with
  |false=>
   rw[hl]at k3;refine Ae ?_;refine hK H3 ?_ (hkv2.trans (kv.of_le hle3));rw[<-hP,k3];exact hR2.le hle3
  |true=>
   rw[hl,if_pos rfl]at k3;refine AH @hw6 @hw5 ?_;refine hS.swap H3 dk (first+r) (first+(2*r+2)) _ hsk (hR2.le hle3) oM oM λH4 hR4 hk4=>?_;refine Ae ?_;exact Ag (2*r+2,swp dk (first+r) (first+(2*r+2))) dM (by dsimp only;try simp only[Pf]) ⟨dM,by dsimp only;rw[size_swp];exact hsk,hR4,(hkv2.trans (kv.of_le hle3)).trans hk4,by rw[<-hP,k3]⟩
end Go.Cw
namespace Go.Cw
open Go Go.Sort Go.Proofs
theorem Hq (lt:Si->Si->Bool) (hi first:Nat):∀ (n root:Nat) (d:Array Si),hi-root<=n->(siftDown lt hi first root d).size=d.size:=by
 intro n;induction n with
 |zero=>intro root d h;rw[Gj oM]
 |succ n ih=>
  intro root d h;by_cases hc:hi<=2*root+1
  ·rw[Gj hc]
  ·obtain⟨k1,k2,k3⟩:=HY (lt:=lt) (first:=first) (d:=d) hc;rw[k3];split
   ·rw[ih _ _ oM,size_swp]
   ·rfl
def S99 (N:Num) (Γ:Ctx):Spec:=λargs h K=>∃ F v fl fs cl cs lt d,∃a b:Nat,args=[.agg #[.func (.func fl) #[] cl,.func (.func fs) #[] cs],.int .i64 a,.int .i64 b]/\So N Γ F v fl fs cl cs lt d.size/\Rw F h v d/\a<=b/\b<=d.size /\
 ∀ h',Rw F h' v (heapSort lt d a b)->kv v h h'->K (.tuple #[]) h'
theorem F99_ok {N:Num} {Γ:Ctx} [Ak Γ] (H112:Sat (S112 N Γ) (Γ 112)):Sat (S99 N Γ) (SF N Γ F99):=by
 rintro _ h K ⟨F,v,fl,fs,cl,cs,lt,d,a,b,rfl,hS,hd,hab,hb,hK⟩;have hsz:=hS.size;obtain⟨n,hn⟩:∃ n,n=b-a:=⟨_,rfl⟩
 unfold heapSort at hK;rw[<-hn]at hK;refine An rfl ?_;simp only[F99,Ze,Nat.reduceSub,Nat.reduceAdd];have hw1:IntKind.i64.wrap ((b:Int)-a)=(n:Int):=wN;have hw2:IntKind.i64.wrap (Int.tdiv (IntKind.i64.wrap ((n:Int)-1)) 2)=(((n-1)/2:Nat):Int):=by
  rw[BC (n:=(n:Int)-1) oM oM];cases n with
  |zero=>decide
  |succ m=>
   have:(((m+1:Nat):Int)-1)=(m:Int):=oM;rw[this,show Int.tdiv (m:Int) 2=((m/2:Nat):Int)from rfl,BC oM oM];simp
 have hw2':Int.tdiv (IntKind.i64.wrap ((n:Int)-1)) 2=(((n-1)/2:Nat):Int):=by
  rw[BC (n:=(n:Int)-1) oM oM];cases n with
  |zero=>decide
  |succ m=>
   have:(((m+1:Nat):Int)-1)=(m:Int):=oM;rw[this,show Int.tdiv (m:Int) 2=((m/2:Nat):Int)from rfl];simp
 have hw2'':Int.tdiv ((n:Int)-1) 2=(((n-1)/2:Nat):Int):=by rw[BC (n:=(n:Int)-1) oM oM]at hw2';exact hw2'
 have hw3:IntKind.i64.wrap ((n:Int)-1)=(n:Int)-1:=by rw[BC oM oM]
 refine CS @hw1 @hw3 @hw2'' ?_;refine AA (λenv H=>∃ dk,dk.size=d.size/\Rw F H v dk/\kv v h H/\dk=heapBuild lt n a ((n-1)/2+1) d/\env=[U (.agg #[.func (.func fl) #[] cl,.func (.func fs) #[] cs]),U (.int .i64 a),U (.int .i64 b),U (.agg #[.func (.func fl) #[] cl,.func (.func fs) #[] cs]),U (.int .i64 a),U (.int .i64 0),U (.int .i64 n),O,O,O,O]) ?_ ?_;rotate_left
 ·refine Aj (λx:Nat×Array Si=>[U (.agg #[.func (.func fl) #[] cl,.func (.func fs) #[] cs]),U (.int .i64 a),U (.int .i64 b),U (.agg #[.func (.func fl) #[] cl,.func (.func fs) #[] cs]),U (.int .i64 a),U (.int .i64 0),U (.int .i64 n),U (.int .i64 ((x.1:Int)-1)),O,O,O])
   (λx H=>x.1<=(n-1)/2+1/\x.2.size=d.size/\Rw F H v x.2/\kv v h H/\heapBuild lt n a x.1 x.2=heapBuild lt n a ((n-1)/2+1) d) (λx=>x.1) ((n-1)/2+1,d) (by dsimp only;rw[show((((n-1)/2+1:Nat):Int)-1)=(((n-1)/2:Nat):Int) by omega];try simp only[Pf]) ⟨Yq _,rfl,hd,kv.refl,rfl⟩ ?_
  rintro⟨k,dk⟩ H ⟨hk,hsk,hR,hkv,hP⟩;dsimp only at hk hsk hR hP ⊢;refine Ae ?_;refine Ad (λc=>?_) (λc=>?_);rotate_left
  ·have:k=0:=oM;subst this;refine Ae ?_;exact Ar _ sE ⟨dk,hsk,hR,hkv,by rw[<-hP];rfl,rfl⟩
  obtain⟨m,rfl⟩:∃ m,k=m+1:=⟨k-1,oM⟩
  have hm1:(((m+1:Nat):Int)-1)=(m:Int):=oM;have hw4:IntKind.i64.wrap ((m:Int)-1)=(m:Int)-1:=by rw[BC oM oM]
  rw[hm1];refine Ae ?_;refine Aa H112 ⟨F,v,fl,fs,cl,cs,lt,dk,m,n,a,rfl,by rw[hsk];exact hS,hR,oM,oM,λH2 hR2 hk2=>?_⟩;refine Ap @hw4 ?_;exact Ag (m,siftDown lt n a m dk) dM (by dsimp only;try simp only[Pf]) ⟨dM,by dsimp only;rw[Hq lt n a _ _ _ (Yq _)];exact hsk,hR2,hkv.trans hk2,by rw[<-hP];rfl⟩
 rintro env H ⟨dk,hsk,hR,hkv,hdk,rfl⟩;rw[<-hdk]at hK;clear hdk;refine Ap @hw3 ?_;refine Aj (λx:Nat×Array Si=>[U (.agg #[.func (.func fl) #[] cl,.func (.func fs) #[] cs]),U (.int .i64 a),U (.int .i64 b),U (.agg #[.func (.func fl) #[] cl,.func (.func fs) #[] cs]),U (.int .i64 a),U (.int .i64 0),U (.int .i64 n),O,U (.int .i64 ((x.1:Int)-1)),O,O])
   (λx H=>x.1<=n/\x.2.size=d.size/\Rw F H v x.2/\kv v h H/\heapPop lt a x.1 x.2=heapPop lt a n dk) (λx=>x.1) (n,dk) (by dsimp only;try simp only[Pf]) ⟨Yq _,hsk,hR,hkv,rfl⟩ ?_
 clear hR hkv;rintro⟨k,dj⟩ H ⟨hk,hsj,hR,hkv,hP⟩;dsimp only at hk hsj hR hP ⊢;refine Ae ?_;refine Ad (λc=>?_) (λc=>?_);rotate_left
 ·have:k=0:=oM;subst this;refine Ae ?_;refine hK H ?_ hkv;rw[<-hP];exact hR
 obtain⟨m,rfl⟩:∃ m,k=m+1:=⟨k-1,oM⟩
 have hm1:(((m+1:Nat):Int)-1)=(m:Int):=oM;have hw4:IntKind.i64.wrap ((m:Int)-1)=(m:Int)-1:=by rw[BC oM oM]
 have hw5:IntKind.i64.wrap ((a:Int)+(m:Int))=((a+m:Nat):Int):=wN;rw[hm1];refine Ap @hw5 ?_;refine hS.swap H dj a (a+m) _ hsj hR oM oM λH2 hR2 hk2=>?_;have hs2:(swp dj a (a+m)).size=d.size:=by rw[size_swp];exact hsj
 refine Ae ?_;refine Aa H112 ⟨F,v,fl,fs,cl,cs,lt,swp dj a (a+m),0,m,a,rfl,by rw[hs2];exact hS,hR2,oM,oM,λH3 hR3 hk3=>?_⟩;refine Ap @hw4 ?_;exact Ag (m,siftDown lt m a 0 (swp dj a (a+m))) dM (by dsimp only;try simp only[Pf]) ⟨dM,by dsimp only;rw[Hq lt m a _ _ _ (Yq _)];exact hs2,hR3,(hkv.trans hk2).trans hk3,by rw[<-hP];rfl⟩
def S102 (N:Num) (Γ:Ctx):Spec:=λargs h K=>∃ F v fl fs cl cs lt d,∃a b:Nat,args=[.agg #[.func (.func fl) #[] cl,.func (.func fs) #[] cs],.int .i64 a,.int .i64 b]/\So N Γ F v fl fs cl cs lt d.size/\Rw F h v d/\a<b/\b<=d.size /\
 ∀ h',Rw F h' v (reverseRange d a b)->kv v h h'->K (.tuple #[]) h'
theorem F102_ok {N:Num} {Γ:Ctx} [Ak Γ]:Sat (S102 N Γ) (SF N Γ F102):=by
 rintro _ h K ⟨F,v,fl,fs,cl,cs,lt,d,a,b,rfl,hS,hd,hab,hb,hK⟩;have hsz:=hS.size;unfold reverseRange at hK;refine An rfl ?_;simp only[F102,Ze,Nat.reduceSub,Nat.reduceAdd];have hw1:IntKind.i64.wrap ((b:Int)-1)=((b-1:Nat):Int):=wN;refine Ap @hw1 ?_;refine Aj (λx:Nat×Nat×Array Si=>[U (.agg #[.func (.func fl) #[] cl,.func (.func fs) #[] cs]),U (.int .i64 a),U (.int .i64 b),U (.agg #[.func (.func fl) #[] cl,.func (.func fs) #[] cs]),U (.int .i64 (x.1:Nat)),U (.int .i64 (x.2.1:Nat)),O])
   (λx H=>x.1<=b/\x.2.1<b/\x.2.2.size=d.size/\Rw F H v x.2.2/\kv v h H/\reverseLoop x.1 x.2.1 x.2.2=reverseLoop a (b-1) d) (λx=>x.2.1-x.1) (a,b-1,d) (by dsimp only;try simp only[Pf]) ⟨dM,dM,rfl,hd,kv.refl,rfl⟩ ?_
 rintro⟨i,j,dk⟩ H ⟨hi,hj,hsk,hR,hkv,hP⟩;dsimp only at hi hj hsk hR hP ⊢;refine Ae ?_;refine Ad (λc=>?_) (λc=>?_);rotate_left
 ·refine Ae ?_;refine hK H ?_ hkv;rw[<-hP,reverseLoop,if_neg oM];exact hR
 have hij:i<j:=oM;have hw2:=wS i;have hw3:IntKind.i64.wrap ((j:Int)-1)=((j-1:Nat):Int):=wN;refine Ae ?_;refine hS.swap H dk i j _ hsk hR oM oM λH2 hR2 hk2=>?_;refine AH @hw2 @hw3 ?_;exact Ag (i+1,j-1,swp dk i j) dM (by dsimp only;try simp only[Pf]) ⟨dM,dM,by dsimp only;rw[size_swp];exact hsk,hR2,hkv.trans hk2,by rw[<-hP];dsimp only;conv=>rhs;rw[reverseLoop,if_pos hij]⟩
def kb (b:Nat) (h h':Heap):Prop:=∀ x o,h x=U o->x≠b->h' x=U o
theorem kb.trans {b:Nat} {h h' h'':Heap} (a:kb b h h') (c:kb b h' h''):kb b h h'':=λx o h1 h2=>c x o (a x o h1 h2) h2
theorem kb.of_le {b:Nat} {h h':Heap} (a:Heap.le h h'):kb b h h':=λx o h1 _=>a x o h1
theorem Rw.kb {F h h':Heap} {v:Value} {d:Array Si} {b:Nat} (a:Rw F h v d) (hF:F b=O) (hv:Ao v≠U b) (hk:kb b h h'):Rw F h' v d:=by
 have hle:Heap.le F h':=by
  intro x o hx;refine hk x o (a.1 x o hx) ?_;rintro rfl;rw[hF]at hx;cases hx
 refine BE.own (a.slb.1.same λx hx=>?_) hle a.slb.2;cases hh:h x with
 |none=>exact absurd hh (a.slb.1.mem hx)
 |some o=>exact hk x o hh (by rintro rfl;exact hv hx)
theorem kb.kv {b:Nat} {v:Value} {h h':Heap} (k:kb b h h') (hn:h b=O):kv v h h':=λx o h1 _=>k x o h1 (by rintro rfl;rw[hn]at h1;cases h1)
def S129 (N:Num) (Γ:Ctx):Spec:=λargs h K=>∃ F v fl fs cl cs lt d bs,∃a b s:Nat,args=[.agg #[.func (.func fl) #[] cl,.func (.func fs) #[] cs],.int .i64 a,.int .i64 b,.pointer (U ⟨bs,0,O⟩)]/\So N Γ F v fl fs cl cs lt d.size/\Rw F h v d/\a<d.size/\b<d.size /\
 Ah h ⟨bs,0,O⟩ [.int .i64 s]/\F bs=O/\Ao v≠U bs/\s<=1000 /\
 ∀ h',Rw F h' v d->Ah h' ⟨bs,0,O⟩ [.int .i64 ((order2 lt d a b s).2.2:Nat)]->kb bs h h'->K (.tuple #[.int .i64 ((order2 lt d a b s).1:Nat),.int .i64 ((order2 lt d a b s).2.1:Nat)]) h'
theorem F129_ok {N:Num} {Γ:Ctx} [Ak Γ]:Sat (S129 N Γ) (SF N Γ F129):=by
 rintro _ h K ⟨F,v,fl,fs,cl,cs,lt,d,bs,a,b,s,rfl,hS,hd,ha,hb,ho,hF,hv,hs,hK⟩;have hsz:=hS.size;unfold order2 at hK;refine An rfl ?_;simp only[F129,Ze,Nat.reduceSub,Nat.reduceAdd];refine Ae ?_;refine hS.less h d b a _ rfl hd oM oM λh1 hle1=>?_;have ho1:=ho.le hle1;cases hl:lt d[b]! d[a]! with
 |true=>
  have hc:h1.cell ⟨bs,0,O⟩=U (.int .i64 s):=ho1.rules.2.1 (by simp);have hw:=wS s;rw[hl]at hK;refine AH @hc @hw ?_;refine Br ho1 0 1 rfl rfl oM (by simp) λo hob _=>?_;have hob2:Ah (h1.set bs o) ⟨bs,0,O⟩ [.int .i64 (s+1:Nat)]:=hob h1 rfl;have hkb:kb bs h (h1.set bs o):=λx o' hx hne=>by rw[ZW hne];exact hle1 x o' hx
  refine Ae ?_;exact hK _ (hd.kb hF hv hkb) hob2 hkb
 |false=>
  rw[hl]at hK;refine Ae ?_;exact hK h1 (hd.le hle1) ho1 (kb.of_le hle1)
theorem ET {lt:Si->Si->Bool} {d:Array Si} {a b s n:Nat} (ha:a<n) (hb:b<n):(order2 lt d a b s).1<n/\(order2 lt d a b s).2.1<n/\(order2 lt d a b s).2.2<=s+1:=by
 unfold order2;split<;>(dsimp only;omega)
def S116 (N:Num) (Γ:Ctx):Spec:=λargs h K=>∃ F v fl fs cl cs lt d bs,∃a b c s:Nat,args=[.agg #[.func (.func fl) #[] cl,.func (.func fs) #[] cs],.int .i64 a,.int .i64 b,.int .i64 c,.pointer (U ⟨bs,0,O⟩)]/\So N Γ F v fl fs cl cs lt d.size/\Rw F h v d/\a<d.size/\b<d.size/\c<d.size /\
 Ah h ⟨bs,0,O⟩ [.int .i64 s]/\F bs=O/\Ao v≠U bs/\s<=500 /\
 ∀ h',Rw F h' v d->Ah h' ⟨bs,0,O⟩ [.int .i64 ((median lt d a b c s).2:Nat)]->kb bs h h'->K (.int .i64 ((median lt d a b c s).1:Nat)) h'
theorem F116_ok {N:Num} {Γ:Ctx} [Ak Γ] (H129:Sat (S129 N Γ) (Γ 129)):Sat (S116 N Γ) (SF N Γ F116):=by
 rintro _ h K ⟨F,v,fl,fs,cl,cs,lt,d,bs,a,b,c,s,rfl,hS,hd,ha,hb,hc,ho,hF,hv,hs,hK⟩;unfold median at hK;refine An rfl ?_;simp only[F116,Ze,Nat.reduceSub,Nat.reduceAdd];refine Ae ?_;refine Aa H129 ⟨F,v,fl,fs,cl,cs,lt,d,bs,a,b,s,rfl,hS,hd,ha,hb,ho,hF,hv,oM,λh1 hd1 ho1 k1=>?_⟩;have r1:=ET (lt:=lt) (d:=d) (s:=s) ha hb;generalize order2 lt d a b s=q1 at *;obtain⟨x1,y1,s1⟩:=q1;dsimp only at r1 ho1 hK ⊢;refine Ae ?_;refine Aa H129 ⟨F,v,fl,fs,cl,cs,lt,d,bs,y1,c,s1,rfl,hS,hd1,r1.2.1,hc,ho1,hF,hv,oM,λh2 hd2 ho2 k2=>?_⟩;have r2:=ET (lt:=lt) (d:=d) (s:=s1) r1.2.1 hc;generalize order2 lt d y1 c s1=q2 at *;obtain⟨x2,y2,s2⟩:=q2;dsimp only at r2 ho2 hK ⊢;refine Ae ?_;refine Aa H129 ⟨F,v,fl,fs,cl,cs,lt,d,bs,x1,x2,s2,rfl,hS,hd2,r1.1,r2.1,ho2,hF,hv,oM,λh3 hd3 ho3 k3=>?_⟩;generalize order2 lt d x1 x2 s2=q3 at *;obtain⟨x3,y3,s3⟩:=q3;dsimp only at ho3 hK ⊢;refine Ae ?_;exact hK h3 hd3 ho3 ((k1.trans k2).trans k3)
theorem HH {lt:Si->Si->Bool} {d:Array Si} {a b c s n:Nat} (ha:a<n) (hb:b<n) (hc:c<n):(median lt d a b c s).1<n/\(median lt d a b c s).2<=s+3:=by
 unfold median;have r1:=ET (lt:=lt) (d:=d) (s:=s) ha hb;have r2:=ET (lt:=lt) (d:=d) (s:=(order2 lt d a b s).2.2) r1.2.1 hc;have r3:=ET (lt:=lt) (d:=d) (s:=(order2 lt d (order2 lt d a b s).2.1 c (order2 lt d a b s).2.2).2.2) r1.1 r2.1;dsimp only;omega
def S115 (N:Num) (Γ:Ctx):Spec:=λargs h K=>∃ F v fl fs cl cs lt d bs,∃a s:Nat,args=[.agg #[.func (.func fl) #[] cl,.func (.func fs) #[] cs],.int .i64 a,.pointer (U ⟨bs,0,O⟩)]/\So N Γ F v fl fs cl cs lt d.size/\Rw F h v d/\1<=a/\a+1<d.size /\
 Ah h ⟨bs,0,O⟩ [.int .i64 s]/\F bs=O/\Ao v≠U bs/\s<=500 /\
 ∀ h',Rw F h' v d->Ah h' ⟨bs,0,O⟩ [.int .i64 ((medianAdjacent lt d a s).2:Nat)]->kb bs h h'->K (.int .i64 ((medianAdjacent lt d a s).1:Nat)) h'
theorem F115_ok {N:Num} {Γ:Ctx} [Ak Γ] (H116:Sat (S116 N Γ) (Γ 116)):Sat (S115 N Γ) (SF N Γ F115):=by
 rintro _ h K ⟨F,v,fl,fs,cl,cs,lt,d,bs,a,s,rfl,hS,hd,ha,hb,ho,hF,hv,hs,hK⟩;have hsz:=hS.size;unfold medianAdjacent at hK;refine An rfl ?_;simp only[F115,Ze,Nat.reduceSub,Nat.reduceAdd];have hw1:IntKind.i64.wrap ((a:Int)-1)=((a-1:Nat):Int):=wN;have hw2:=wS a;refine AH @hw1 @hw2 ?_;refine Aa H116 ⟨F,v,fl,fs,cl,cs,lt,d,bs,a-1,a,a+1,s,rfl,hS,hd,oM,oM,oM,ho,hF,hv,hs,λh1 hd1 ho1 k1=>?_⟩;refine Ae ?_;exact hK h1 hd1 ho1 k1
end Go.Cw
namespace Go.Cw
open Go Go.Sort Go.Proofs
def Jn:Hint->Int
 |.unknown=>0
 |.increasing=>1
 |.decreasing=>2
def SY (lt:Si->Si->Bool) (d:Array Si) (l i j k:Nat):Nat×Nat:=(if l≥8 then(if l≥50 then median lt d (medianAdjacent lt d i 0).1 (medianAdjacent lt d j (medianAdjacent lt d i 0).2).1 (medianAdjacent lt d k (medianAdjacent lt d j (medianAdjacent lt d i 0).2).2).1 (medianAdjacent lt d k (medianAdjacent lt d j (medianAdjacent lt d i 0).2).2).2 else median lt d i j k 0)else(j,0):Nat×Nat)
theorem Xg {lt:Si->Si->Bool} {d:Array Si} {a b l i j k:Nat} (hl:l=b-a) (hi:i=a+l/4*1) (hj:j=a+l/4*2) (hk:k=a+l/4*3) :
  choosePivot lt d a b=((SY lt d l i j k).1,if(SY lt d l i j k).2=0 then .increasing else if(SY lt d l i j k).2=12 then .decreasing else .unknown):=by
 subst hl hi hj hk;rfl
def S101 (N:Num) (Γ:Ctx):Spec:=λargs h K=>∃ F v fl fs cl cs lt d,∃a b:Nat,args=[.agg #[.func (.func fl) #[] cl,.func (.func fs) #[] cs],.int .i64 a,.int .i64 b]/\So N Γ F v fl fs cl cs lt d.size/\Rw F h v d/\a<b/\b<=d.size /\
 ∀ h',Rw F h' v d->kv v h h'->K (.tuple #[.int .i64 ((choosePivot lt d a b).1:Nat),.int .i64 (Jn (choosePivot lt d a b).2)]) h'
theorem F101_ok {N:Num} {Γ:Ctx} [Ak Γ] (H115:Sat (S115 N Γ) (Γ 115)) (H116:Sat (S116 N Γ) (Γ 116)):Sat (S101 N Γ) (SF N Γ F101):=by
 rintro _ h K ⟨F,v,fl,fs,cl,cs,lt,d,a,b,rfl,hS,hd,hab,hb,hK⟩;have hsz:=hS.size;obtain⟨l,hl⟩:∃ l,l=b-a:=⟨_,rfl⟩
 refine An rfl ?_;simp only[F101,Ze,Nat.reduceSub,Nat.reduceAdd];have hw1:IntKind.i64.wrap ((b:Int)-a)=(l:Int):=wN;have hq:Int.tdiv (l:Int) 4=((l/4:Nat):Int):=rfl;refine Ap @hw1 ?_;refine AO λb7 h1 hle1 hb7 ho=>?_;have ho1:Ah h1 ⟨b7,0,O⟩ [.int .i64 (0:Nat)]:=ho.le (Au _ _);have hF7:F b7=O:=AC hd.1 b7 hb7;have hv7:Ao v≠U b7:=λe=>hd.slb.1.mem e hb7;have hd1:=hd.le hle1;obtain⟨i,hi⟩:∃ i,i=a+l/4*1:=⟨_,rfl⟩
 obtain⟨j,hj⟩:∃ j,j=a+l/4*2:=⟨_,rfl⟩
 obtain⟨k,hk⟩:∃ k,k=a+l/4*3:=⟨_,rfl⟩
 rw[Xg hl hi hj hk]at hK;have hwi:IntKind.i64.wrap ((a:Int)+IntKind.i64.wrap (((l/4:Nat):Int)*1))=(i:Int):=by rw[BC (n:=((l/4:Nat):Int)*1) oM oM,BC oM oM];omega
 have hwj:IntKind.i64.wrap ((a:Int)+IntKind.i64.wrap (((l/4:Nat):Int)*2))=(j:Int):=by rw[BC (n:=((l/4:Nat):Int)*2) oM oM,BC oM oM];omega
 have hwk:IntKind.i64.wrap ((a:Int)+IntKind.i64.wrap (((l/4:Nat):Int)*3))=(k:Int):=by rw[BC (n:=((l/4:Nat):Int)*3) oM oM,BC oM oM];omega
 have hwq:IntKind.i64.wrap ((l/4:Nat):Int)=((l/4:Nat):Int):=BC oM oM;have hi':a+l/4=i:=oM;have hj':a+l/4*2=j:=oM;have hk':a+l/4*3=k:=oM;refine Le @hq @hwq @hwi @hwj @hwk ?_;simp only[hi',hj',hk'];generalize hr:SY lt d l i j k=r at *;unfold SY at hr;refine AT (λenv H=>Rw F H v d/\kb b7 h1 H/\Ah H ⟨b7,0,O⟩ [.int .i64 (r.2:Nat)]/\env=[U (.agg #[.func (.func fl) #[] cl,.func (.func fs) #[] cs]),U (.int .i64 a),U (.int .i64 b),U (.agg #[.func (.func fl) #[] cl,.func (.func fs) #[] cs]),U (.int .i64 0),U (.int .i64 0),U (.int .i64 l),U (.pointer (U ⟨b7,0,O⟩)),O,U (.int .i64 (r.1:Nat)),O,O,O,O,O,O,O,O,O,O]) ?_ ?_;rotate_left
 ·refine Ad (λc1=>?_) (λc1=>?_);rotate_left
  ·rw[if_neg oM]at hr;subst hr;refine Ae ?_;exact Ar _ sE ⟨hd1,λx o h _=>h,ho1,rfl⟩
  rw[if_pos oM]at hr;refine Ae ?_;by_cases h50:l≥50
  ·have h50':((50:Int)<=(l:Int))=True:=by rw[eq_iff_iff];simp;omega
   rw[if_pos h50]at hr;refine Ap @h50' ?_;refine Aa H115 ⟨F,v,fl,fs,cl,cs,lt,d,b7,i,0,rfl,hS,hd1,oM,oM,ho1,hF7,hv7,oM,λh2 hd2 ho2 k2=>?_⟩;have r1:=HH (lt:=lt) (d:=d) (s:=0) (n:=d.size) (show i-1<d.size by omega) (show i<d.size by omega) (show i+1<d.size by omega);change (medianAdjacent lt d i 0).1<d.size/\(medianAdjacent lt d i 0).2<=0+3 at r1;generalize medianAdjacent lt d i 0=q1 at *;refine Ae ?_;refine Aa H115 ⟨F,v,fl,fs,cl,cs,lt,d,b7,j,q1.2,rfl,hS,hd2,oM,oM,ho2,hF7,hv7,oM,λh3 hd3 ho3 k3=>?_⟩;have r2:=HH (lt:=lt) (d:=d) (s:=q1.2) (n:=d.size) (show j-1<d.size by omega) (show j<d.size by omega) (show j+1<d.size by omega);change (medianAdjacent lt d j q1.2).1<d.size/\(medianAdjacent lt d j q1.2).2<=q1.2+3 at r2;generalize medianAdjacent lt d j q1.2=q2 at *;refine Ae ?_;refine Aa H115 ⟨F,v,fl,fs,cl,cs,lt,d,b7,k,q2.2,rfl,hS,hd3,oM,oM,ho3,hF7,hv7,oM,λh4 hd4 ho4 k4=>?_⟩;have r3:=HH (lt:=lt) (d:=d) (s:=q2.2) (n:=d.size) (show k-1<d.size by omega) (show k<d.size by omega) (show k+1<d.size by omega);change (medianAdjacent lt d k q2.2).1<d.size/\(medianAdjacent lt d k q2.2).2<=q2.2+3 at r3;generalize medianAdjacent lt d k q2.2=q3 at *;refine Ae ?_;refine Aa H116 ⟨F,v,fl,fs,cl,cs,lt,d,b7,q1.1,q2.1,q3.1,q3.2,rfl,hS,hd4,r1.1,r2.1,r3.1,ho4,hF7,hv7,oM,λh5 hd5 ho5 k5=>?_⟩;rw[hr]at ho5 ⊢;refine Ae ?_;exact Ar _ sE ⟨hd5,((k2.trans k3).trans k4).trans k5,ho5,rfl⟩
  ·have h50':((50:Int)<=(l:Int))=False:=by rw[eq_iff_iff];simp;omega
   rw[if_neg h50]at hr;refine Ap @h50' ?_;refine Aa H116 ⟨F,v,fl,fs,cl,cs,lt,d,b7,i,j,k,0,rfl,hS,hd1,oM,oM,oM,ho1,hF7,hv7,oM,λh5 hd5 ho5 k5=>?_⟩;rw[hr]at ho5 ⊢;refine Ae ?_;exact Ar _ sE ⟨hd5,k5,ho5,rfl⟩
 rintro env H ⟨hdH,hkb,hoH,rfl⟩;have hc:H.cell ⟨b7,0,O⟩=U (.int .i64 (r.2:Nat)):=hoH.rules.2.1 (by simp);have hkv:kv v h H:=((kb.of_le hle1).trans hkb).kv hb7;have hKK:=hK H hdH hkv;refine Ap @hc ?_;refine Ad (λc1=>?_) (λc1=>?_)
 ·rw[if_pos oM]at hKK;refine Ae ?_;exact hKK
 rw[if_neg oM]at hKK;refine Ae ?_;refine Ad (λc2=>?_) (λc2=>?_)
 ·rw[if_pos oM]at hKK;refine Ae ?_;exact hKK
 ·rw[if_neg oM]at hKK;refine Ae ?_;exact hKK
end Go.Cw
namespace Go.Cw
open Go Go.Sort Go.Proofs
theorem JU {lt:Si->Si->Bool} {d:Array Si} {b:Nat}:∀ (n i:Nat),b-i<=n->i<=b->i<=scanSorted lt d b i/\scanSorted lt d b i<=b:=by
 intro n;induction n with
 |zero=>
  intro i h hi;rw[scanSorted_stop _ _ _ _ (.inl oM)];omega
 |succ n ih=>
  intro i h hi;by_cases hc:i<b
  ·cases hl:lt d[i]! d[i-1]! with
   |true=>rw[scanSorted_stop _ _ _ _ (.inr hl)];omega
   |false=>
    rw[scanSorted_go _ _ _ _ hc hl];have:=ih (i+1) oM oM;omega
  ·rw[scanSorted_stop _ _ _ _ (.inl hc)];omega
def ON (lt:Si->Si->Bool) (a i:Nat) (d:Array Si):Array Si:=if i-a≥2 then shiftDown lt (i-1) d else d
def VJ (lt:Si->Si->Bool) (b i:Nat) (d:Array Si):Array Si:=if b-i≥2 then shiftUp lt b (i+1) d else d
theorem Rb (lt:Si->Si->Bool) (a b s i:Nat) (d:Array Si):partialIns lt a b (s+1) i d =
  if scanSorted lt d b i=b then(d,true)else if b-a<50 then(d,false)else
   partialIns lt a b s (scanSorted lt d b i) (VJ lt b (scanSorted lt d b i) (ON lt a (scanSorted lt d b i) (swp d (scanSorted lt d b i) (scanSorted lt d b i-1)))):=by
 rw[partialIns];rfl
def S103 (N:Num) (Γ:Ctx):Spec:=λargs h K=>∃ F v fl fs cl cs lt d,∃a b:Nat,args=[.agg #[.func (.func fl) #[] cl,.func (.func fs) #[] cs],.int .i64 a,.int .i64 b]/\So N Γ F v fl fs cl cs lt d.size/\Rw F h v d/\a<b/\b<=d.size /\
 ∀ h',Rw F h' v (partialInsertionSort lt d a b).1->kv v h h'->K (.bool (partialInsertionSort lt d a b).2) h'
theorem F103_ok {N:Num} {Γ:Ctx} [Ak Γ]:Sat (S103 N Γ) (SF N Γ F103):=by
 rintro _ h K ⟨F,v,fl,fs,cl,cs,lt,d,a,b,rfl,hS,hd,hab,hb,hK⟩;have hsz:=hS.size;unfold partialInsertionSort at hK;refine An rfl ?_;simp only[F103,Ze,Nat.reduceSub,Nat.reduceAdd];have hwa:=wS a;have hwba:IntKind.i64.wrap ((b:Int)-a)=((b-a:Nat):Int):=wN;refine Ap @hwa ?_;refine Aj (λx:Nat×Nat×Array Si=>[U (.agg #[.func (.func fl) #[] cl,.func (.func fs) #[] cs]),U (.int .i64 a),U (.int .i64 b),U (.agg #[.func (.func fl) #[] cl,.func (.func fs) #[] cs]),O,U (.int .i64 (x.2.1:Nat)),U (.int .i64 (x.1:Nat)),O,O,O,O,O,O,O,O,O,O,O,O,O,O,O,O])
  (λx H=>x.1<=5/\a<x.2.1/\x.2.1<=b/\x.2.2.size=d.size/\Rw F H v x.2.2/\kv v h H/\partialIns lt a b (5-x.1) x.2.1 x.2.2=partialIns lt a b 5 (a+1) d) (λx=>5-x.1) (0,a+1,d) (by dsimp only;try simp only[Pf];rfl) ⟨dM,dM,dM,rfl,hd,kv.refl,rfl⟩ ?_
 rintro⟨st,i,dk⟩ H ⟨hst,hai,hib,hsk,hR,hkv,hP⟩;dsimp only at hst hai hib hsk hR hP ⊢;have hws:=wS st;refine Ae ?_;refine Ad (λc=>?_) (λc=>?_);rotate_left
 ·have:st=5:=oM;subst this;rw[show 5-5=0 from rfl,partialIns]at hP;rw[<-hP]at hK;refine Ae ?_;exact hK H hR hkv
 obtain⟨s',hs'⟩:∃ s',5-st=s'+1:=⟨4-st,oM⟩
 rw[hs',Rb]at hP;have hrng:=JU (lt:=lt) (d:=dk) (b:=b) (b-i) i (Yq _) hib;generalize hq:scanSorted lt dk b i=q at *;refine Ae ?_;refine AA (λenv H2=>Heap.le H H2/\env=[U (.agg #[.func (.func fl) #[] cl,.func (.func fs) #[] cs]),U (.int .i64 a),U (.int .i64 b),U (.agg #[.func (.func fl) #[] cl,.func (.func fs) #[] cs]),O,U (.int .i64 (q:Nat)),U (.int .i64 (st:Nat)),O,O,O,O,O,O,O,O,O,O,O,O,O,O,O,O]) ?_ ?_;rotate_left
 ·refine Aj (λx:Nat=>[U (.agg #[.func (.func fl) #[] cl,.func (.func fs) #[] cs]),U (.int .i64 a),U (.int .i64 b),U (.agg #[.func (.func fl) #[] cl,.func (.func fs) #[] cs]),O,U (.int .i64 (x:Nat)),U (.int .i64 (st:Nat)),O,O,O,O,O,O,O,O,O,O,O,O,O,O,O,O])
   (λx H2=>i<=x/\x<=b/\Heap.le H H2/\scanSorted lt dk b x=q) (λx=>b-x) i sE ⟨Yq _,hib,ZX H,hq⟩ ?_
  rintro x H2 ⟨hx1,hx2,hle,hxq⟩;have hwx:=wS x;have hwx1:IntKind.i64.wrap ((x:Int)-1)=((x-1:Nat):Int):=wN;by_cases hxb:x<b;rotate_left
  ·have hxb':((x:Int)<(b:Int))=False:=by rw[eq_iff_iff];simp;omega
   rw[scanSorted_stop _ _ _ _ (.inl hxb)]at hxq;subst hxq;refine Ap @hxb' ?_;exact Ar _ sE ⟨hle,rfl⟩
  have hxb':((x:Int)<(b:Int))=True:=by rw[eq_iff_iff];simp;omega
  refine AH @hxb' @hwx1 ?_;refine hS.less H2 dk x (x-1) _ hsk (hR.le hle) oM oM λH3 hle3=>?_;cases hl:lt dk[x]! dk[x-1]! with
  |true=>
   rw[scanSorted_stop _ _ _ _ (.inr hl)]at hxq;subst hxq;refine Ae ?_;exact Ar _ sE ⟨hle.trans hle3,rfl⟩
  |false=>
   rw[scanSorted_go _ _ _ _ hxb hl]at hxq;refine Ap @hwx ?_;exact Ag (x+1) oM sE ⟨oM,oM,hle.trans hle3,hxq⟩
 rintro env H2 ⟨hle2,rfl⟩;have hR2:=hR.le hle2;have hkv2:=hkv.trans (kv.of_le hle2);refine Ae ?_;refine Ad (λc1=>?_) (λc1=>?_)
 ·rw[if_pos oM]at hP;rw[<-hP]at hK;refine Ae ?_;exact hK H2 hR2 hkv2
 rw[if_neg oM]at hP;refine Ap @hwba ?_;refine Ad (λc3=>?_) (λc3=>?_)
 ·rw[if_pos oM]at hP;rw[<-hP]at hK;refine Ae ?_;exact hK H2 hR2 hkv2
 rw[if_neg oM]at hP;have hq1:a<q:=oM;have hqb:q<b:=oM;have hwq1:IntKind.i64.wrap ((q:Int)-1)=((q-1:Nat):Int):=wN;have hwq2:=wS q;have hwqa:IntKind.i64.wrap ((q:Int)-a)=((q-a:Nat):Int):=wN;have hwbq:IntKind.i64.wrap ((b:Int)-q)=((b-q:Nat):Int):=wN;refine Ap @hwq1 ?_;refine hS.swap H2 dk q (q-1) _ hsk hR2 oM oM λH3 hR3 hk3=>?_;have hkv3:=hkv2.trans hk3;have hsk3:(swp dk q (q-1)).size=d.size:=by rw[size_swp];exact hsk
 generalize swp dk q (q-1)=d3 at *;clear hR hR2 hkv hkv2 hk3 hle2 hsk;refine Ap @hwqa ?_;refine AT (λenv H=>∃ d4,d4=ON lt a q d3/\d4.size=d.size/\Rw F H v d4/\kv v h H/\env=[U (.agg #[.func (.func fl) #[] cl,.func (.func fs) #[] cs]),U (.int .i64 a),U (.int .i64 b),U (.agg #[.func (.func fl) #[] cl,.func (.func fs) #[] cs]),O,U (.int .i64 (q:Nat)),U (.int .i64 (st:Nat)),O,O,O,O,O,O,O,O,O,O,O,O,O,O,O,O]) ?_ ?_;rotate_left
 ·unfold ON;refine Ad (λc4=>?_) (λc4=>?_);rotate_left
  ·refine Ae ?_;exact Ar _ sE ⟨d3,by rw[if_neg oM],hsk3,hR3,hkv3,rfl⟩
  rw[if_pos oM];refine Ap @hwq1 ?_;refine Aj (λx:Nat×Array Si=>[U (.agg #[.func (.func fl) #[] cl,.func (.func fs) #[] cs]),U (.int .i64 a),U (.int .i64 b),U (.agg #[.func (.func fl) #[] cl,.func (.func fs) #[] cs]),O,U (.int .i64 (q:Nat)),U (.int .i64 (st:Nat)),U (.int .i64 (x.1:Nat)),O,O,O,O,O,O,O,O,O,O,O,O,O,O,O])
   (λx H=>x.1<=q-1/\x.2.size=d.size/\Rw F H v x.2/\kv v h H/\shiftDown lt x.1 x.2=shiftDown lt (q-1) d3) (λx=>x.1) (q-1,d3) (by dsimp only;try simp only[Pf]) ⟨Yq _,hsk3,hR3,hkv3,rfl⟩ ?_
  rintro⟨x,dx⟩ H5 ⟨hx,hsx,hRx,hkx,hPx⟩;dsimp only at hx hsx hRx hPx ⊢;have hwx1:x≠0->IntKind.i64.wrap ((x:Int)-1)=((x-1:Nat):Int):=λh0=>by rw[BC oM oM];omega
  refine Ae ?_;refine Ad (λc5=>?_) (λc5=>?_);rotate_left
  ·refine Ae ?_;refine Ar _ sE ⟨dx,?_,hsx,hRx,hkx,rfl⟩;rw[<-hPx,shiftDown_stop _ _ _ (.inl oM)]
  have hw0:=hwx1 oM;refine Ap @hw0 ?_;refine hS.less H5 dx x (x-1) _ hsx hRx oM oM λH6 hle6=>?_;cases hl:lt dx[x]! dx[x-1]! with
  |false=>
   refine Ae ?_;refine Ar _ sE ⟨dx,?_,hsx,hRx.le hle6,hkx.trans (kv.of_le hle6),rfl⟩;rw[<-hPx,shiftDown_stop _ _ _ (.inr hl)]
  |true=>
   refine Ap @hw0 ?_;refine hS.swap H6 dx x (x-1) _ hsx (hRx.le hle6) oM oM λH7 hR7 hk7=>?_;refine Ap @hw0 ?_;exact Ag (x-1,swp dx x (x-1)) dM (by dsimp only;try simp only[Pf]) ⟨dM,by dsimp only;rw[size_swp];exact hsx,hR7,(hkx.trans (kv.of_le hle6)).trans hk7,by rw[<-hPx];dsimp only;rw[shiftDown_go lt x dx oM hl]⟩
 clear hR3 hkv3 hsk3;rintro env H4 ⟨d4,hd4,hs4,hR4,hkv4,rfl⟩;rw[<-hd4]at hP;clear hd4;refine Ap @hwbq ?_;refine D2 (λenv H=>∃ d5,d5=VJ lt b q d4/\d5.size=d.size/\Rw F H v d5/\kv v h H/\env=[U (.agg #[.func (.func fl) #[] cl,.func (.func fs) #[] cs]),U (.int .i64 a),U (.int .i64 b),U (.agg #[.func (.func fl) #[] cl,.func (.func fs) #[] cs]),O,U (.int .i64 (q:Nat)),U (.int .i64 (st:Nat)),O,O,O,O,O,O,O,O,O,O,O,O,O,O,O,O]) ?_ ?_;rotate_left
 ·unfold VJ;refine Ad (λc4=>?_) (λc4=>?_);rotate_left
  ·refine Ae ?_;exact Ar _ sE ⟨d4,by rw[if_neg oM],hs4,hR4,hkv4,rfl⟩
  rw[if_pos oM];refine Ap @hwq2 ?_;refine Aj (λx:Nat×Array Si=>[U (.agg #[.func (.func fl) #[] cl,.func (.func fs) #[] cs]),U (.int .i64 a),U (.int .i64 b),U (.agg #[.func (.func fl) #[] cl,.func (.func fs) #[] cs]),O,U (.int .i64 (q:Nat)),U (.int .i64 (st:Nat)),O,U (.int .i64 (x.1:Nat)),O,O,O,O,O,O,O,O,O,O,O,O,O,O])
   (λx H=>q+1<=x.1/\x.1<=b/\x.2.size=d.size/\Rw F H v x.2/\kv v h H/\shiftUp lt b x.1 x.2=shiftUp lt b (q+1) d4) (λx=>b-x.1) (q+1,d4) (by dsimp only;try simp only[Pf]) ⟨Yq _,dM,hs4,hR4,hkv4,rfl⟩ ?_
  rintro⟨x,dx⟩ H5 ⟨hx0,hx,hsx,hRx,hkx,hPx⟩;dsimp only at hx0 hx hsx hRx hPx ⊢;have hw0:IntKind.i64.wrap ((x:Int)-1)=((x-1:Nat):Int):=wN;have hw9:=wS x;refine Ae ?_;refine Ad (λc5=>?_) (λc5=>?_);rotate_left
  ·refine Ae ?_;refine Ar _ sE ⟨dx,?_,hsx,hRx,hkx,rfl⟩;rw[<-hPx,shiftUp_stop _ _ _ _ (.inl oM)]
  refine Ap @hw0 ?_;refine hS.less H5 dx x (x-1) _ hsx hRx oM oM λH6 hle6=>?_;cases hl:lt dx[x]! dx[x-1]! with
  |false=>
   refine Ae ?_;refine Ar _ sE ⟨dx,?_,hsx,hRx.le hle6,hkx.trans (kv.of_le hle6),rfl⟩;rw[<-hPx,shiftUp_stop _ _ _ _ (.inr hl)]
  |true=>
   refine Ap @hw0 ?_;refine hS.swap H6 dx x (x-1) _ hsx (hRx.le hle6) oM oM λH7 hR7 hk7=>?_;refine Ap @hw9 ?_;exact Ag (x+1,swp dx x (x-1)) dM (by dsimp only;try simp only[Pf]) ⟨dM,dM,by dsimp only;rw[size_swp];exact hsx,hR7,(hkx.trans (kv.of_le hle6)).trans hk7,by rw[<-hPx];dsimp only;rw[shiftUp_go lt b x dx oM hl]⟩
 clear hR4 hkv4 hs4;rintro env H5 ⟨d5,hd5,hs5,hR5,hkv5,rfl⟩;rw[<-hd5]at hP;clear hd5;refine Ap @hws ?_;refine Ag (st+1,q,d5) dM (by dsimp only;try simp only[Pf]) ⟨dM,dM,dM,hs5,hR5,hkv5,?_⟩;dsimp only;rw[show 5-(st+1)=s' by omega];exact hP
end Go.Cw
namespace Go.Cw
open Go Go.Sort Go.Proofs
theorem HB {p:Si->Bool} {d:Array Si} {j:Nat}:∀ (n i:Nat),j+1-i<=n->i<=scanUp p d j i/\(scanUp p d j i<=j+1\/scanUp p d j i=i):=by
 intro n;induction n with
 |zero=>
  intro i h;rw[scanUp_end _ _ _ _ (.inl oM)];omega
 |succ n ih=>
  intro i h;by_cases hc:i<=j
  ·cases hl:p d[i]! with
   |false=>rw[scanUp_end _ _ _ _ (.inr hl)];omega
   |true=>
    rw[scanUp_go _ _ _ _ hc hl];have:=ih (i+1) oM;omega
  ·rw[scanUp_end _ _ _ _ (.inl hc)];omega
theorem Gk {p:Si->Bool} {d:Array Si} {i:Nat}:∀ (n j:Nat),j<=n->scanDown p d i j<=j/\(i<=scanDown p d i j+1\/scanDown p d i j=j):=by
 intro n;induction n with
 |zero=>
  intro j h;obtain rfl:j=0:=oM;rw[scanDown];omega
 |succ n ih=>
  intro j h;by_cases hc:i<=j/\0<j
  ·cases hl:p d[j]! with
   |false=>rw[scanDown_end _ _ _ _ (.inr hl)];omega
   |true=>
    rw[scanDown_go _ _ _ _ hc.1 hc.2 hl];have:=ih (j-1) oM;omega
  ·by_cases h0:j=0
   ·subst h0;rw[scanDown];omega
   ·rw[scanDown_end _ _ _ _ (.inl oM)];omega
def S104 (N:Num) (Γ:Ctx):Spec:=λargs h K=>∃ F v fl fs cl cs lt d,∃a b pivot:Nat,args=[.agg #[.func (.func fl) #[] cl,.func (.func fs) #[] cs],.int .i64 a,.int .i64 b,.int .i64 pivot]/\So N Γ F v fl fs cl cs lt d.size/\Rw F h v d/\a<b/\b<=d.size/\pivot<d.size /\
 ∀ h',Rw F h' v (partitionEqual lt d a b pivot).2->kv v h h'->K (.int .i64 ((partitionEqual lt d a b pivot).1:Nat)) h'
theorem F104_ok {N:Num} {Γ:Ctx} [Ak Γ]:Sat (S104 N Γ) (SF N Γ F104):=by
 rintro _ h K ⟨F,v,fl,fs,cl,cs,lt,d,a,b,pivot,rfl,hS,hd,hab,hb,hpv,hK⟩;have hsz:=hS.size;unfold partitionEqual at hK;refine An rfl ?_;simp only[F104,Ze,Nat.reduceSub,Nat.reduceAdd];have hwa:=wS a;have hwb:IntKind.i64.wrap ((b:Int)-1)=((b-1:Nat):Int):=wN;refine Ae ?_;refine hS.swap h d a pivot _ rfl hd oM oM λh1 hR1 hk1=>?_;have hs1:(swp d a pivot).size=d.size:=size_swp _ _ _;generalize swp d a pivot=d1 at *;refine AH @hwa @hwb ?_;refine Aj (λx:Nat×Nat×Array Si=>[U (.agg #[.func (.func fl) #[] cl,.func (.func fs) #[] cs]),U (.int .i64 a),U (.int .i64 b),U (.int .i64 pivot),U (.agg #[.func (.func fl) #[] cl,.func (.func fs) #[] cs]),O,U (.int .i64 (x.1:Nat)),U (.int .i64 (x.2.1:Nat)),O,O,O,O,O,O,O])
  (λx H=>a<x.1/\x.1<=x.2.1+2/\x.2.1<b/\x.2.2.size=d.size/\Rw F H v x.2.2/\kv v h H/\partEqLoop lt a x.1 x.2.1 x.2.2=partEqLoop lt a (a+1) (b-1) d1) (λx=>x.2.1+1-x.1) (a+1,b-1,d1) (by dsimp only;try simp only[Pf]) ⟨dM,dM,dM,hs1,hR1,hk1,rfl⟩ ?_
 rintro⟨i,j,dk⟩ H ⟨hai,hij,hjb,hsk,hR,hkv,hP⟩;dsimp only at hai hij hjb hsk hR hP ⊢;rw[partEqLoop_eq]at hP;have rU:=HB (p:=λx=>!lt dk[a]! x) (d:=dk) (j:=j) (j+1-i) i (Yq _);generalize A5:scanUp (λx=>!lt dk[a]! x) dk j i=i2 at *;have rD:=Gk (p:=λx=>lt dk[a]! x) (d:=dk) (i:=i2) j j (Yq _);generalize hj2:scanDown (λx=>lt dk[a]! x) dk i2 j=j2 at *;refine Ae ?_;refine AA (λenv H2=>Heap.le H H2/\env=[U (.agg #[.func (.func fl) #[] cl,.func (.func fs) #[] cs]),U (.int .i64 a),U (.int .i64 b),U (.int .i64 pivot),U (.agg #[.func (.func fl) #[] cl,.func (.func fs) #[] cs]),O,U (.int .i64 (i2:Nat)),U (.int .i64 (j:Nat)),O,O,O,O,O,O,O]) ?_ ?_;rotate_left
 ·refine Aj (λx:Nat=>[U (.agg #[.func (.func fl) #[] cl,.func (.func fs) #[] cs]),U (.int .i64 a),U (.int .i64 b),U (.int .i64 pivot),U (.agg #[.func (.func fl) #[] cl,.func (.func fs) #[] cs]),O,U (.int .i64 (x:Nat)),U (.int .i64 (j:Nat)),O,O,O,O,O,O,O])
    (λx H2=>i<=x/\(x<=j+1\/x=i)/\Heap.le H H2/\scanUp (λx=>!lt dk[a]! x) dk j x=i2) (λx=>j+1-x) i sE ⟨Yq _,oM,ZX H,A5⟩ ?_
  rintro x H2 ⟨hx1,hx2,hle,hxq⟩;have hwx:=wS x;by_cases hxj:x<=j;rotate_left
  ·have hxj':((x:Int)<=(j:Nat))=False:=by rw[eq_iff_iff];simp;omega
   rw[scanUp_end _ _ _ _ (.inl hxj)]at hxq;subst hxq;refine Ap @hxj' ?_;exact Ar _ sE ⟨hle,rfl⟩
  have hxj':((x:Int)<=(j:Nat))=True:=by rw[eq_iff_iff];simp;omega
  refine Ap @hxj' ?_;refine hS.less H2 dk a x _ hsk (hR.le hle) oM oM λH3 hle3=>?_;cases hl:lt dk[a]! dk[x]! with
  |false=>
   rw[scanUp_go _ _ _ _ hxj (by simp[hl])]at hxq;refine Ap @hwx ?_;exact Ag (x+1) oM sE ⟨oM,oM,hle.trans hle3,hxq⟩
  |true=>
   rw[scanUp_end _ _ _ _ (.inr (by simp[hl]))]at hxq;subst hxq;refine Ae ?_;exact Ar _ sE ⟨hle.trans hle3,rfl⟩
 rintro env H2 ⟨hleU,rfl⟩;refine Ae ?_;refine AA (λenv H3=>Heap.le H H3/\env=[U (.agg #[.func (.func fl) #[] cl,.func (.func fs) #[] cs]),U (.int .i64 a),U (.int .i64 b),U (.int .i64 pivot),U (.agg #[.func (.func fl) #[] cl,.func (.func fs) #[] cs]),O,U (.int .i64 (i2:Nat)),U (.int .i64 (j2:Nat)),O,O,O,O,O,O,O]) ?_ ?_;rotate_left
 ·refine Aj (λy:Nat=>[U (.agg #[.func (.func fl) #[] cl,.func (.func fs) #[] cs]),U (.int .i64 a),U (.int .i64 b),U (.int .i64 pivot),U (.agg #[.func (.func fl) #[] cl,.func (.func fs) #[] cs]),O,U (.int .i64 (i2:Nat)),U (.int .i64 (y:Nat)),O,O,O,O,O,O,O])
    (λy H3=>(i2<=y+1\/y=j)/\y<=j/\Heap.le H H3/\scanDown (λx=>lt dk[a]! x) dk i2 y=j2) (λy=>y) j sE ⟨oM,Yq _,hleU,hj2⟩ ?_
  rintro y H3 ⟨hy1,hy2,hle,hyq⟩;by_cases hyj:i2<=y;rotate_left
  ·have hyj':((i2:Int)<=(y:Int))=False:=by rw[eq_iff_iff];simp;omega
   rw[scanDown_end _ _ _ _ (.inl hyj)]at hyq;subst hyq;refine Ap @hyj' ?_;exact Ar _ sE ⟨hle,rfl⟩
  have hyj':((i2:Int)<=(y:Int))=True:=by rw[eq_iff_iff];simp;omega
  have hwy:IntKind.i64.wrap ((y:Int)-1)=((y-1:Nat):Int):=wN;refine Ap @hyj' ?_;refine hS.less H3 dk a y _ hsk (hR.le hle) oM oM λH4 hle4=>?_;cases hl:lt dk[a]! dk[y]! with
  |false=>
   rw[scanDown_end _ _ _ _ (.inr (by simp[hl]))]at hyq;subst hyq;refine Ae ?_;exact Ar _ sE ⟨hle.trans hle4,rfl⟩
  |true=>
   rw[scanDown_go _ _ _ _ hyj oM (by simp[hl])]at hyq;refine Ap @hwy ?_;exact Ag (y-1) oM sE ⟨oM,oM,hle.trans hle4,hyq⟩
 rintro env H3 ⟨hleD,rfl⟩;have hR3:=hR.le hleD;have hkv3:=hkv.trans (kv.of_le hleD);refine Ae ?_;refine Ad (λc=>?_) (λc=>?_)
 ·rw[if_pos oM]at hP;rw[<-hP]at hK;refine Ae ?_;exact hK H3 hR3 hkv3
 rw[if_neg oM]at hP;have hw1:=wS i2;have hw2:IntKind.i64.wrap ((j2:Int)-1)=((j2-1:Nat):Int):=wN;refine Ae ?_;refine hS.swap H3 dk i2 j2 _ hsk hR3 oM oM λH5 hR5 hk5=>?_;refine AH @hw1 @hw2 ?_;exact Ag (i2+1,j2-1,swp dk i2 j2) dM (by dsimp only;try simp only[Pf]) ⟨dM,dM,dM,by dsimp only;rw[size_swp];exact hsk,hR5,hkv3.trans hk5,hP⟩
theorem Ux (lt:Si->Si->Bool) (d:Array Si) (a b pivot:Nat):partition lt d a b pivot =
  if scanUp (λx=>lt x (swp d a pivot)[a]!) (swp d a pivot) (b-1) (a+1)>scanDown (λx=>!lt x (swp d a pivot)[a]!) (swp d a pivot) (scanUp (λx=>lt x (swp d a pivot)[a]!) (swp d a pivot) (b-1) (a+1)) (b-1)
  then(scanDown (λx=>!lt x (swp d a pivot)[a]!) (swp d a pivot) (scanUp (λx=>lt x (swp d a pivot)[a]!) (swp d a pivot) (b-1) (a+1)) (b-1),true,swp (swp d a pivot) (scanDown (λx=>!lt x (swp d a pivot)[a]!) (swp d a pivot) (scanUp (λx=>lt x (swp d a pivot)[a]!) (swp d a pivot) (b-1) (a+1)) (b-1)) a)
  else((partLoop lt a (scanUp (λx=>lt x (swp d a pivot)[a]!) (swp d a pivot) (b-1) (a+1)+1) (scanDown (λx=>!lt x (swp d a pivot)[a]!) (swp d a pivot) (scanUp (λx=>lt x (swp d a pivot)[a]!) (swp d a pivot) (b-1) (a+1)) (b-1)-1) (swp (swp d a pivot) (scanUp (λx=>lt x (swp d a pivot)[a]!) (swp d a pivot) (b-1) (a+1)) (scanDown (λx=>!lt x (swp d a pivot)[a]!) (swp d a pivot) (scanUp (λx=>lt x (swp d a pivot)[a]!) (swp d a pivot) (b-1) (a+1)) (b-1)))).1,false,
   swp (partLoop lt a (scanUp (λx=>lt x (swp d a pivot)[a]!) (swp d a pivot) (b-1) (a+1)+1) (scanDown (λx=>!lt x (swp d a pivot)[a]!) (swp d a pivot) (scanUp (λx=>lt x (swp d a pivot)[a]!) (swp d a pivot) (b-1) (a+1)) (b-1)-1) (swp (swp d a pivot) (scanUp (λx=>lt x (swp d a pivot)[a]!) (swp d a pivot) (b-1) (a+1)) (scanDown (λx=>!lt x (swp d a pivot)[a]!) (swp d a pivot) (scanUp (λx=>lt x (swp d a pivot)[a]!) (swp d a pivot) (b-1) (a+1)) (b-1)))).2
    (partLoop lt a (scanUp (λx=>lt x (swp d a pivot)[a]!) (swp d a pivot) (b-1) (a+1)+1) (scanDown (λx=>!lt x (swp d a pivot)[a]!) (swp d a pivot) (scanUp (λx=>lt x (swp d a pivot)[a]!) (swp d a pivot) (b-1) (a+1)) (b-1)-1) (swp (swp d a pivot) (scanUp (λx=>lt x (swp d a pivot)[a]!) (swp d a pivot) (b-1) (a+1)) (scanDown (λx=>!lt x (swp d a pivot)[a]!) (swp d a pivot) (scanUp (λx=>lt x (swp d a pivot)[a]!) (swp d a pivot) (b-1) (a+1)) (b-1)))).1 a):=by
 rfl
def S105 (N:Num) (Γ:Ctx):Spec:=λargs h K=>∃ F v fl fs cl cs lt d,∃a b pivot:Nat,args=[.agg #[.func (.func fl) #[] cl,.func (.func fs) #[] cs],.int .i64 a,.int .i64 b,.int .i64 pivot]/\So N Γ F v fl fs cl cs lt d.size/\Rw F h v d/\a<b/\b<=d.size/\pivot<d.size /\
 ∀ h',Rw F h' v (partition lt d a b pivot).2.2->kv v h h'->K (.tuple #[.int .i64 ((partition lt d a b pivot).1:Nat),.bool (partition lt d a b pivot).2.1]) h'
theorem F105_ok {N:Num} {Γ:Ctx} [Ak Γ]:Sat (S105 N Γ) (SF N Γ F105):=by
 rintro _ h K ⟨F,v,fl,fs,cl,cs,lt,d,a,b,pivot,rfl,hS,hd,hab,hb,hpv,hK⟩;have hsz:=hS.size;rw[Ux]at hK;refine An rfl ?_;simp only[F105,Ze,Nat.reduceSub,Nat.reduceAdd];have hwa:=wS a;have hwb:IntKind.i64.wrap ((b:Int)-1)=((b-1:Nat):Int):=wN;refine Ae ?_;refine hS.swap h d a pivot _ rfl hd oM oM λh1 hR hkv=>?_;have hsk:(swp d a pivot).size=d.size:=size_swp _ _ _;generalize swp d a pivot=d1 at *;refine AH @hwa @hwb ?_;obtain⟨i0,hi0⟩:∃ i,i=a+1:=⟨_,rfl⟩
 obtain⟨j0,hj0⟩:∃ j,j=b-1:=⟨_,rfl⟩
 rw[<-hi0,<-hj0]at hK ⊢;have rU:=HB (p:=λx=>lt x d1[a]!) (d:=d1) (j:=j0) (j0+1-i0) i0 (Yq _);generalize A5:scanUp (λx=>lt x d1[a]!) d1 j0 i0=i2 at *;have rD:=Gk (p:=λx=>!lt x d1[a]!) (d:=d1) (i:=i2) j0 j0 (Yq _);generalize hj2:scanDown (λx=>!lt x d1[a]!) d1 i2 j0=j2 at *;refine Ae ?_;refine AA (λenv H2=>Heap.le h1 H2/\env=[U (.agg #[.func (.func fl) #[] cl,.func (.func fs) #[] cs]),U (.int .i64 a),U (.int .i64 b),U (.int .i64 pivot),U (.agg #[.func (.func fl) #[] cl,.func (.func fs) #[] cs]),O,O,U (.int .i64 (i2:Nat)),U (.int .i64 (j0:Nat)),O,O,O,O,O,O,O,O,O,O,O,O,O,O]) ?_ ?_;rotate_left
 ·refine Aj (λx:Nat=>[U (.agg #[.func (.func fl) #[] cl,.func (.func fs) #[] cs]),U (.int .i64 a),U (.int .i64 b),U (.int .i64 pivot),U (.agg #[.func (.func fl) #[] cl,.func (.func fs) #[] cs]),O,O,U (.int .i64 (x:Nat)),U (.int .i64 (j0:Nat)),O,O,O,O,O,O,O,O,O,O,O,O,O,O])
    (λx H2=>i0<=x/\(x<=j0+1\/x=i0)/\Heap.le h1 H2/\scanUp (λx=>lt x d1[a]!) d1 j0 x=i2) (λx=>j0+1-x) i0 sE ⟨Yq _,oM,ZX h1,A5⟩ ?_
  rintro x H2 ⟨hx1,hx2,hle,hxq⟩;have hwx:=wS x;by_cases hxj:x<=j0;rotate_left
  ·have hxj':((x:Int)<=(j0:Nat))=False:=by rw[eq_iff_iff];simp;omega
   rw[scanUp_end _ _ _ _ (.inl hxj)]at hxq;subst hxq;refine Ap @hxj' ?_;exact Ar _ sE ⟨hle,rfl⟩
  have hxj':((x:Int)<=(j0:Nat))=True:=by rw[eq_iff_iff];simp;omega
  refine Ap @hxj' ?_;refine hS.less H2 d1 x a _ hsk (hR.le hle) oM oM λH3 hle3=>?_;cases hl:lt d1[x]! d1[a]! with
  |false=>
   rw[scanUp_end _ _ _ _ (.inr (by simp[hl]))]at hxq;subst hxq;refine Ae ?_;exact Ar _ sE ⟨hle.trans hle3,rfl⟩
  |true=>
   rw[scanUp_go _ _ _ _ hxj (by simp[hl])]at hxq;refine Ap @hwx ?_;exact Ag (x+1) oM sE ⟨oM,oM,hle.trans hle3,hxq⟩
 rintro env H2 ⟨hleU,rfl⟩;refine Ae ?_;refine AA (λenv H3=>Heap.le h1 H3/\env=[U (.agg #[.func (.func fl) #[] cl,.func (.func fs) #[] cs]),U (.int .i64 a),U (.int .i64 b),U (.int .i64 pivot),U (.agg #[.func (.func fl) #[] cl,.func (.func fs) #[] cs]),O,O,U (.int .i64 (i2:Nat)),U (.int .i64 (j2:Nat)),O,O,O,O,O,O,O,O,O,O,O,O,O,O]) ?_ ?_;rotate_left
 ·refine Aj (λy:Nat=>[U (.agg #[.func (.func fl) #[] cl,.func (.func fs) #[] cs]),U (.int .i64 a),U (.int .i64 b),U (.int .i64 pivot),U (.agg #[.func (.func fl) #[] cl,.func (.func fs) #[] cs]),O,O,U (.int .i64 (i2:Nat)),U (.int .i64 (y:Nat)),O,O,O,O,O,O,O,O,O,O,O,O,O,O])
    (λy H3=>(i2<=y+1\/y=j0)/\y<=j0/\Heap.le h1 H3/\scanDown (λx=>!lt x d1[a]!) d1 i2 y=j2) (λy=>y) j0 sE ⟨oM,Yq _,hleU,hj2⟩ ?_
  rintro y H3 ⟨hy1,hy2,hle,hyq⟩;by_cases hyj:i2<=y;rotate_left
  ·have hyj':((i2:Int)<=(y:Int))=False:=by rw[eq_iff_iff];simp;omega
   rw[scanDown_end _ _ _ _ (.inl hyj)]at hyq;subst hyq;refine Ap @hyj' ?_;exact Ar _ sE ⟨hle,rfl⟩
  have hyj':((i2:Int)<=(y:Int))=True:=by rw[eq_iff_iff];simp;omega
  have hwy:IntKind.i64.wrap ((y:Int)-1)=((y-1:Nat):Int):=wN;refine Ap @hyj' ?_;refine hS.less H3 d1 y a _ hsk (hR.le hle) oM oM λH4 hle4=>?_;cases hl:lt d1[y]! d1[a]! with
  |false=>
   rw[scanDown_go _ _ _ _ hyj oM (by simp[hl])]at hyq;refine Ap @hwy ?_;exact Ag (y-1) oM sE ⟨oM,oM,hle.trans hle4,hyq⟩
  |true=>
   rw[scanDown_end _ _ _ _ (.inr (by simp[hl]))]at hyq;subst hyq;refine Ae ?_;exact Ar _ sE ⟨hle.trans hle4,rfl⟩
 rintro env H3 ⟨hleD,rfl⟩;have hR3:=hR.le hleD;have hkv3:=hkv.trans (kv.of_le hleD);refine Ae ?_;refine Ad (λc=>?_) (λc=>?_)
 ·rw[if_pos oM]at hK;refine Ae ?_;refine hS.swap H3 d1 j2 a _ hsk hR3 oM oM λH5 hR5 hk5=>?_;refine Ae ?_;exact hK H5 hR5 (hkv3.trans hk5)
 rw[if_neg oM]at hK;have hw1:=wS i2;have hw2:IntKind.i64.wrap ((j2:Int)-1)=((j2-1:Nat):Int):=wN;refine Ae ?_;refine hS.swap H3 d1 i2 j2 _ hsk hR3 oM oM λH5 hR5 hk5=>?_;have hs2:(swp d1 i2 j2).size=d.size:=by rw[size_swp];exact hsk
 have hkv5:=hkv3.trans hk5;generalize swp d1 i2 j2=d2 at *;have hr1:a<i2+1/\i2+1<=j2-1+2/\j2-1<b:=oM;refine AH @hw1 @hw2 ?_;obtain⟨i1,hi1⟩:∃ i,i=i2+1:=⟨_,rfl⟩
 obtain⟨j1,hj1⟩:∃ j,j=j2-1:=⟨_,rfl⟩
 have hij1:i1<=j1+2:=oM;rw[<-hi1,<-hj1]at hK hr1 ⊢;clear hR3 hkv3 hR hkv hk5 hleU hleD hsk;clear A5 hj2 rU rD hi0 hj0 c hw1 hw2 hi1 hj1;refine AA (λenv H=>∃ d9,d9.size=d.size/\Rw F H v d9/\kv v h H/\d9=(partLoop lt a i1 j1 d2).2/\(partLoop lt a i1 j1 d2).1<b/\env=[U (.agg #[.func (.func fl) #[] cl,.func (.func fs) #[] cs]),U (.int .i64 a),U (.int .i64 b),U (.int .i64 pivot),U (.agg #[.func (.func fl) #[] cl,.func (.func fs) #[] cs]),O,O,O,U (.int .i64 ((partLoop lt a i1 j1 d2).1:Nat)),O,O,O,O,O,O,O,O,O,O,O,O,O,O]) ?_ ?_;rotate_left
 ·refine Aj (λx:Nat×Nat×Array Si=>[U (.agg #[.func (.func fl) #[] cl,.func (.func fs) #[] cs]),U (.int .i64 a),U (.int .i64 b),U (.int .i64 pivot),U (.agg #[.func (.func fl) #[] cl,.func (.func fs) #[] cs]),O,O,U (.int .i64 (x.1:Nat)),U (.int .i64 (x.2.1:Nat)),O,O,O,O,O,O,O,O,O,O,O,O,O,O])
   (λx H=>a<x.1/\x.1<=x.2.1+2/\x.2.1<b/\x.2.2.size=d.size/\Rw F H v x.2.2/\kv v h H/\partLoop lt a x.1 x.2.1 x.2.2=partLoop lt a i1 j1 d2) (λx=>x.2.1+1-x.1) (i1,j1,d2) (by dsimp only;try simp only[Pf]) ⟨dM,dM,dM,hs2,hR5,hkv5,rfl⟩ ?_
  clear hR5 hkv5 hs2 hr1 hij1;rintro⟨i,j,dk⟩ H ⟨hai,hij,hjb,hsk,hR,hkv,hP⟩;dsimp only at hai hij hjb hsk hR hP ⊢;rw[partLoop_eq]at hP;have rU:=HB (p:=λx=>lt x dk[a]!) (d:=dk) (j:=j) (j+1-i) i (Yq _);generalize A5:scanUp (λx=>lt x dk[a]!) dk j i=i2 at *;have rD:=Gk (p:=λx=>!lt x dk[a]!) (d:=dk) (i:=i2) j j (Yq _);generalize hj2:scanDown (λx=>!lt x dk[a]!) dk i2 j=j2 at *;refine Ae ?_;refine AA (λenv H2=>Heap.le H H2/\env=[U (.agg #[.func (.func fl) #[] cl,.func (.func fs) #[] cs]),U (.int .i64 a),U (.int .i64 b),U (.int .i64 pivot),U (.agg #[.func (.func fl) #[] cl,.func (.func fs) #[] cs]),O,O,U (.int .i64 (i2:Nat)),U (.int .i64 (j:Nat)),O,O,O,O,O,O,O,O,O,O,O,O,O,O]) ?_ ?_;rotate_left
  ·refine Aj (λx:Nat=>[U (.agg #[.func (.func fl) #[] cl,.func (.func fs) #[] cs]),U (.int .i64 a),U (.int .i64 b),U (.int .i64 pivot),U (.agg #[.func (.func fl) #[] cl,.func (.func fs) #[] cs]),O,O,U (.int .i64 (x:Nat)),U (.int .i64 (j:Nat)),O,O,O,O,O,O,O,O,O,O,O,O,O,O])
     (λx H2=>i<=x/\(x<=j+1\/x=i)/\Heap.le H H2/\scanUp (λx=>lt x dk[a]!) dk j x=i2) (λx=>j+1-x) i sE ⟨Yq _,oM,ZX H,A5⟩ ?_
   rintro x H2 ⟨hx1,hx2,hle,hxq⟩;have hwx:=wS x;by_cases hxj:x<=j;rotate_left
   ·have hxj':((x:Int)<=(j:Nat))=False:=by rw[eq_iff_iff];simp;omega
    rw[scanUp_end _ _ _ _ (.inl hxj)]at hxq;subst hxq;refine Ap @hxj' ?_;exact Ar _ sE ⟨hle,rfl⟩
   have hxj':((x:Int)<=(j:Nat))=True:=by rw[eq_iff_iff];simp;omega
   refine Ap @hxj' ?_;refine hS.less H2 dk x a _ hsk (hR.le hle) oM oM λH3 hle3=>?_;cases hl:lt dk[x]! dk[a]! with
   |false=>
    rw[scanUp_end _ _ _ _ (.inr (by simp[hl]))]at hxq;subst hxq;refine Ae ?_;exact Ar _ sE ⟨hle.trans hle3,rfl⟩
   |true=>
    rw[scanUp_go _ _ _ _ hxj (by simp[hl])]at hxq;refine Ap @hwx ?_;exact Ag (x+1) oM sE ⟨oM,oM,hle.trans hle3,hxq⟩
  rintro env H2 ⟨hleU,rfl⟩;refine Ae ?_;refine AA (λenv H3=>Heap.le H H3/\env=[U (.agg #[.func (.func fl) #[] cl,.func (.func fs) #[] cs]),U (.int .i64 a),U (.int .i64 b),U (.int .i64 pivot),U (.agg #[.func (.func fl) #[] cl,.func (.func fs) #[] cs]),O,O,U (.int .i64 (i2:Nat)),U (.int .i64 (j2:Nat)),O,O,O,O,O,O,O,O,O,O,O,O,O,O]) ?_ ?_;rotate_left
  ·refine Aj (λy:Nat=>[U (.agg #[.func (.func fl) #[] cl,.func (.func fs) #[] cs]),U (.int .i64 a),U (.int .i64 b),U (.int .i64 pivot),U (.agg #[.func (.func fl) #[] cl,.func (.func fs) #[] cs]),O,O,U (.int .i64 (i2:Nat)),U (.int .i64 (y:Nat)),O,O,O,O,O,O,O,O,O,O,O,O,O,O])
     (λy H3=>(i2<=y+1\/y=j)/\y<=j/\Heap.le H H3/\scanDown (λx=>!lt x dk[a]!) dk i2 y=j2) (λy=>y) j sE ⟨oM,Yq _,hleU,hj2⟩ ?_
   rintro y H3 ⟨hy1,hy2,hle,hyq⟩;by_cases hyj:i2<=y;rotate_left
   ·have hyj':((i2:Int)<=(y:Int))=False:=by rw[eq_iff_iff];simp;omega
    rw[scanDown_end _ _ _ _ (.inl hyj)]at hyq;subst hyq;refine Ap @hyj' ?_;exact Ar _ sE ⟨hle,rfl⟩
   have hyj':((i2:Int)<=(y:Int))=True:=by rw[eq_iff_iff];simp;omega
   have hwy:IntKind.i64.wrap ((y:Int)-1)=((y-1:Nat):Int):=wN;refine Ap @hyj' ?_;refine hS.less H3 dk y a _ hsk (hR.le hle) oM oM λH4 hle4=>?_;cases hl:lt dk[y]! dk[a]! with
   |false=>
    rw[scanDown_go _ _ _ _ hyj oM (by simp[hl])]at hyq;refine Ap @hwy ?_;exact Ag (y-1) oM sE ⟨oM,oM,hle.trans hle4,hyq⟩
   |true=>
    rw[scanDown_end _ _ _ _ (.inr (by simp[hl]))]at hyq;subst hyq;refine Ae ?_;exact Ar _ sE ⟨hle.trans hle4,rfl⟩
  rintro env H3 ⟨hleD,rfl⟩;have hR3:=hR.le hleD;have hkv3:=hkv.trans (kv.of_le hleD);refine Ae ?_;refine Ad (λc=>?_) (λc=>?_)
  ·rw[if_pos oM]at hP;rw[<-hP];refine Ae ?_;exact Ar _ sE ⟨dk,hsk,hR3,hkv3,rfl,oM,rfl⟩
  rw[if_neg oM]at hP;have hw1:=wS i2;have hw2:IntKind.i64.wrap ((j2:Int)-1)=((j2-1:Nat):Int):=wN;refine Ae ?_;refine hS.swap H3 dk i2 j2 _ hsk hR3 oM oM λH5 hR5 hk5=>?_;refine AH @hw1 @hw2 ?_;exact Ag (i2+1,j2-1,swp dk i2 j2) dM (by dsimp only;try simp only[Pf]) ⟨dM,dM,dM,by dsimp only;rw[size_swp];exact hsk,hR5,hkv3.trans hk5,hP⟩
 clear hR5 hkv5;rintro env H ⟨d9,hs9,hR9,hkv9,hd9,hlt9,rfl⟩;rw[<-hd9]at hK;generalize (partLoop lt a i1 j1 d2).1=j9 at *;refine Ae ?_;refine hS.swap H d9 j9 a _ hs9 hR9 oM oM λH5 hR5 hk5=>?_;refine Ae ?_;exact hK H5 hR5 (hkv9.trans hk5)
end Go.Cw
namespace Go.Cw
open Go Go.Sort Go.Proofs
theorem PQ (k':IntKind) (x s:Nat) (hs:s<=64):Bj .shl (.int .u64 (x:Int)) (.int k' (s:Int))=U (.int .u64 ((x*2^s%18446744073709551616:Nat):Int)):=by
 simp only[Bj,HA];rw[if_neg oM,Aaa,show Nat.min s IntKind.u64.bits=s from AaQ hs];have h1:(x:Int)*2^s=((x*2^s:Nat):Int):=by simp
 rw[h1];simp[IntKind.wrap,IntKind.bits,IntKind.signed]
theorem LS (x y:Nat) (hx:x<2^64) (hy:y<2^64):Bj .xor (.int .u64 (x:Int)) (.int .u64 (y:Int))=U (.int .u64 ((x ^^^ y:Nat):Int)):=by
 have hb:(BitVec.ofInt IntKind.u64.bits (x:Int) ^^^ BitVec.ofInt IntKind.u64.bits (y:Int)).toNat=x ^^^ y:=by rw[BitVec.toNat_xor,Ci IntKind.u64.bits x hx,Ci IntKind.u64.bits y hy]
 simp only[Bj,Gt,if_true];rw[hb,Cg _ (Aba hx hy)]
theorem BP {h h':Heap} {b:Nat} {cs:List Value} (ho:Ah h ⟨b,0,O⟩ cs) (hk:∀ o,h b=U o->h' b=U o):Ah h' ⟨b,0,O⟩ cs:=by
 obtain⟨h1,c,t,h2,h3⟩:=ho;exact⟨h1,c,t,hk _ h2,h3⟩
def S76:Spec:=λargs h K=>∃ n:Nat,args=[.int .u64 n]/\n<2^60/\K (.int .i64 (bitsLen n:Nat)) h
def S113:Spec:=λargs h K=>∃ n:Nat,args=[.int .i64 n]/\n<2^60/\K (.int .u64 (1 <<< bitsLen n:Nat)) h
theorem F113_ok {N:Num} {Γ:Ctx} [Ak Γ] (H76:Sat S76 (Γ 76)):Sat S113 (SF N Γ F113):=by
 rintro _ h K ⟨n,rfl,hn,hK⟩;refine An rfl ?_;simp only[F113,Ze,Nat.reduceSub,Nat.reduceAdd];have hw:IntKind.u64.wrap (n:Int)=(n:Int):=Cg _ oM;have hl:bitsLen n<=60:=(bitsLen_le_iff n 60).2 hn;have hw2:IntKind.u64.wrap ((bitsLen n:Nat):Int)=((bitsLen n:Nat):Int):=Cg _ oM;have hp:2^bitsLen n<=2^60:=ZZ oM hl;have hs:=JB .u64 1 (bitsLen n) oM oM;rw[Nat.one_mul]at hs;rw[Abc]at hK;refine Ap @hw ?_;refine Aa H76 ⟨n,rfl,hn,?_⟩;have hs':Bj .shl (.int .u64 1) (.int .u64 ((bitsLen n:Nat):Int))=U (.int .u64 ((2^bitsLen n:Nat):Int)):=hs;refine AH @hw2 @hs' ?_;exact hK
def S114:Spec:=λargs h K=>∃ b,∃x:Nat,args=[.pointer (U ⟨b,0,O⟩)]/\Ah h ⟨b,0,O⟩ [.int .u64 x]/\x<18446744073709551616/\∀ h',kb b h h'->Ah h' ⟨b,0,O⟩ [.int .u64 (xorNextN x:Nat)]->K (.int .u64 (xorNextN x:Nat)) h'
theorem F114_ok {N:Num} {Γ:Ctx} [Ak Γ]:Sat S114 (SF N Γ F114):=by
 rintro _ h K ⟨b,x,rfl,ho,hx,hK⟩;have hlt:=xorNextN_lt x hx;refine An rfl ?_;simp only[F114,Ze,Nat.reduceSub,Nat.reduceAdd];have hc:h.cell ⟨b,0,O⟩=U (.int .u64 x):=ho.rules.2.1 (by simp);obtain⟨x1,hx1⟩:∃ x1,x1=x*2^13%18446744073709551616:=⟨_,rfl⟩
 have hx1l:x1<2^64:=by rw[hx1];exact Zi _ oM
 obtain⟨y,hy⟩:∃ y,y=x ^^^ x1:=⟨_,rfl⟩
 have hyl:y<2^64:=by rw[hy];exact Aba hx hx1l
 obtain⟨y1,hy1⟩:∃ y1,y1=y/2^7:=⟨_,rfl⟩
 have hy1l:y1<2^64:=oM;obtain⟨z,hz⟩:∃ z,z=y ^^^ y1:=⟨_,rfl⟩
 have hzl:z<2^64:=by rw[hz];exact Aba hyl hy1l
 obtain⟨z1,hz1⟩:∃ z1,z1=z*2^17%18446744073709551616:=⟨_,rfl⟩
 have hz1l:z1<2^64:=by rw[hz1];exact Zi _ oM
 obtain⟨q,hq⟩:∃ q,q=z ^^^ z1:=⟨_,rfl⟩
 have hxn:xorNextN x=q:=by rw[hq,hz1,hz,hy1,hy,hx1];rfl
 rw[hxn]at hK hlt;have s1:Bj .shl (.int .u64 (x:Int)) (.int .u64 13)=U (.int .u64 (x1:Int)):=by rw[hx1];exact PQ .u64 x 13 oM
 have t1:Bj .xor (.int .u64 (x:Int)) (.int .u64 (x1:Int))=U (.int .u64 (y:Int)):=by rw[hy];exact LS x x1 hx hx1l
 have s2:Bj .shr (.int .u64 (y:Int)) (.int .u64 7)=U (.int .u64 (y1:Int)):=by rw[hy1];exact G0 .u64 .u64 y 7 (by simp[IntKind.bits])
 have t2:Bj .xor (.int .u64 (y:Int)) (.int .u64 (y1:Int))=U (.int .u64 (z:Int)):=by rw[hz];exact LS y y1 hyl hy1l
 have s3:Bj .shl (.int .u64 (z:Int)) (.int .u64 17)=U (.int .u64 (z1:Int)):=by rw[hz1];exact PQ .u64 z 17 oM
 have t3:Bj .xor (.int .u64 (z:Int)) (.int .u64 (z1:Int))=U (.int .u64 (q:Int)):=by rw[hq];exact LS z z1 hzl hz1l
 clear hx1 hy hy1 hz hz1 hq hxn;refine CS @hc @s1 @t1 ?_;refine Br ho 0 1 rfl rfl oM (by simp) λo1 hob1 _=>?_;have p1:Ah (h.set b o1) ⟨b,0,O⟩ [.int .u64 y]:=hob1 h rfl;have k1:kb b h (h.set b o1):=λx o' hx hne=>by rw[ZW hne];exact hx
 generalize h.set b o1=h1 at *;have hc1:h1.cell ⟨b,0,O⟩=U (.int .u64 y):=p1.rules.2.1 (by simp);refine CS @hc1 @s2 @t2 ?_;refine Br p1 0 1 rfl rfl oM (by simp) λo2 hob2 _=>?_;have p2:Ah (h1.set b o2) ⟨b,0,O⟩ [.int .u64 z]:=hob2 h1 rfl;have k2:kb b h1 (h1.set b o2):=λx o' hx hne=>by rw[ZW hne];exact hx
 generalize h1.set b o2=h2 at *;have hc2:h2.cell ⟨b,0,O⟩=U (.int .u64 z):=p2.rules.2.1 (by simp);refine CS @hc2 @s3 @t3 ?_;refine Br p2 0 1 rfl rfl oM (by simp) λo3 hob3 _=>?_;have p3:Ah (h2.set b o3) ⟨b,0,O⟩ [.int .u64 q]:=hob3 h2 rfl;have k3:kb b h2 (h2.set b o3):=λx o' hx hne=>by rw[ZW hne];exact hx
 generalize h2.set b o3=h3 at *;have hc3:h3.cell ⟨b,0,O⟩=U (.int .u64 q):=p3.rules.2.1 (by simp);refine Ap @hc3 ?_;exact hK h3 ((k1.trans k2).trans k3) p3
def S100 (N:Num) (Γ:Ctx):Spec:=λargs h K=>∃ F v fl fs cl cs lt d,∃a b:Nat,args=[.agg #[.func (.func fl) #[] cl,.func (.func fs) #[] cs],.int .i64 a,.int .i64 b]/\So N Γ F v fl fs cl cs lt d.size/\Rw F h v d/\a<=b/\b<=d.size /\
 ∀ h',Rw F h' v (breakPatterns d a b)->kv v h h'->K (.tuple #[]) h'
theorem F100_ok {N:Num} {Γ:Ctx} [Ak Γ] (H113:Sat S113 (Γ 113)) (H114:Sat S114 (Γ 114)):Sat (S100 N Γ) (SF N Γ F100):=by
 rintro _ h K ⟨F,v,fl,fs,cl,cs,lt,d,a,b,rfl,hS,hd,hab,hb,hK⟩;have hsz:=hS.size;obtain⟨l,rfl⟩:∃ l,b=a+l:=⟨b-a,oM⟩
 refine An rfl ?_;simp only[F100,Ze,Nat.reduceSub,Nat.reduceAdd];have hw1:IntKind.i64.wrap (((a+l:Nat):Int)-a)=(l:Int):=wN;refine Ap @hw1 ?_;refine Ad (λc=>?_) (λc=>?_);rotate_left
 ·have hbp:breakPatterns d a (a+l)=d:=by unfold breakPatterns;simp only[Nat.add_sub_cancel_left];rw[if_neg oM]
  rw[hbp]at hK;refine Ae ?_;exact hK h hd kv.refl
 have h8:8<=l:=oM;rw[breakPatterns_eq d a l h8]at hK;obtain⟨M,hM⟩:∃ M:Nat,M=1 <<< bitsLen l:=⟨_,rfl⟩
 have hM1:1<=M:=by rw[hM,Abc];exact Nat.two_pow_pos _
 have hM2:M<=2*l:=by rw[hM,Abc];exact two_pow_bitsLen_le oM
 rw[<-hM]at hK;have hq:Int.tdiv (l:Int) 4=((l/4:Nat):Int):=rfl;have hwq:IntKind.i64.wrap ((l/4:Nat):Int)=((l/4:Nat):Int):=BC oM oM;obtain⟨i0,hi0⟩:∃ i,i=a+l/4*2-1:=⟨_,rfl⟩
 rw[<-hi0]at hK;have hwi:IntKind.i64.wrap (IntKind.i64.wrap ((a:Int)+IntKind.i64.wrap (((l/4:Nat):Int)*2))-1)=(i0:Int):=by rw[BC (n:=((l/4:Nat):Int)*2) oM oM,BC (n:=(a:Int)+((l/4:Nat):Int)*2) oM oM,BC oM oM];omega
 have hwe:IntKind.i64.wrap (IntKind.i64.wrap ((a:Int)+IntKind.i64.wrap (((l/4:Nat):Int)*2))+1)=((i0+2:Nat):Int):=by rw[BC (n:=((l/4:Nat):Int)*2) oM oM,BC (n:=(a:Int)+((l/4:Nat):Int)*2) oM oM,BC oM oM];omega
 have hwu:IntKind.u64.wrap (l:Int)=(l:Int):=Cg _ oM;refine Ap @hwu ?_;refine AO λb5 h1 hle1 hb5 ho=>?_;have hF5:F b5=O:=AC hd.1 b5 hb5;have hv5:Ao v≠U b5:=λe=>hd.slb.1.mem e hb5;refine Ae ?_;refine Br (ho.le (Au _ _)) 0 1 rfl rfl oM (by simp[Value.cells]) λo hob _=>?_;have hr0:(UInt64.ofNat l).toNat=l:=by simp;omega
 have ho2:Ah (h1.set b5 o) ⟨b5,0,O⟩ [.int .u64 ((UInt64.ofNat l).toNat:Nat)]:=by rw[hr0];exact hob h1 rfl
 have hle2:Heap.le h (h1.set b5 o):=IF.le (b:=b5) hle1 hb5 λx hx=>ZW hx;generalize h1.set b5 o=h2 at *;refine Ae ?_;refine Aa H113 ⟨l,rfl,oM,?_⟩;rw[<-hM];refine CS @hq @hwq @hwi ?_;refine Aj (λx:Nat×UInt64×Array Si=>[U (.agg #[.func (.func fl) #[] cl,.func (.func fs) #[] cs]),U (.int .i64 a),U (.int .i64 (a+l:Nat)),U (.agg #[.func (.func fl) #[] cl,.func (.func fs) #[] cs]),U (.int .i64 l),U (.pointer (U ⟨b5,0,O⟩)),U (.int .u64 M),U (.int .i64 ((i0+x.1:Nat):Int)),O,O,O,O,O,O,O])
  (λx H=>x.1<=3/\x.2.2.size=d.size/\Rw F H v x.2.2/\kv v h H/\Ah H ⟨b5,0,O⟩ [.int .u64 (x.2.1.toNat:Nat)]/\bpRest a l M i0 (3-x.1) x.1 (x.2.1,x.2.2)=bpRest a l M i0 3 0 (UInt64.ofNat l,d)) (λx=>3-x.1) (0,UInt64.ofNat l,d) (by dsimp only;try simp only[Pf];simp[hi0]) ⟨dM,rfl,hd.le hle2,kv.of_le hle2,ho2,rfl⟩ ?_
 rintro⟨t,r,dk⟩ H ⟨ht,hsk,hR,hkv,hoH,hP⟩;dsimp only at ht hsk hR hoH hP ⊢;refine CS @hq @hwq @hwe ?_;refine Ad (λc2=>?_) (λc2=>?_);rotate_left
 ·have:t=3:=oM;subst this;rw[show 3-3=0 from rfl,bpRest]at hP;rw[<-hP]at hK;refine Ae ?_;exact hK H hR hkv
 have ht2:t<3:=oM;have hrl:=r.toNat_lt;refine Ae ?_;refine Aa H114 ⟨b5,r.toNat,rfl,hoH,oM,λH3 hk3 ho3=>?_⟩;rw[<-xorNext_toNat]at ho3 ⊢;have hnl:=(xorNext r).toNat_lt;have hM64:IntKind.u64.wrap ((M:Int)-1)=((M-1:Nat):Int):=by rw[show(M:Int)-1=((M-1:Nat):Int) by omega,Cg _ oM]
 have han:=My (xorNext r).toNat (M-1) oM oM;have hal:(xorNext r).toNat &&& (M-1)<=M-1:=Nat.and_le_right;obtain⟨e,he⟩:∃ e,e=(xorNext r).toNat &&& (M-1):=⟨_,rfl⟩
 rw[<-he]at han hal;have hwe2:IntKind.i64.wrap (e:Int)=(e:Int):=BC oM oM;have hR3:=hR.kb hF5 hv5 hk3;have hkv3:kv v h H3:=λx o hx hne=>hk3 x o (hkv x o hx hne) (by rintro rfl;rw[hb5]at hx;cases hx);refine CS @hM64 @han @hwe2 ?_;obtain⟨ot,hot⟩:∃ ot,ot=if e≥l then e-l else e:=⟨_,rfl⟩
 have hotl:ot<l:=by rw[hot];split<;>omega
 have hstep:=bp_step a l M i0 t r dk ot ht2 (by rw[<-he];exact hot.symm);refine AT (λenv G=>G=H3/\env=[U (.agg #[.func (.func fl) #[] cl,.func (.func fs) #[] cs]),U (.int .i64 a),U (.int .i64 (a+l:Nat)),U (.agg #[.func (.func fl) #[] cl,.func (.func fs) #[] cs]),U (.int .i64 l),U (.pointer (U ⟨b5,0,O⟩)),U (.int .u64 M),U (.int .i64 ((i0+t:Nat):Int)),U (.int .i64 ot),O,O,O,O,O,O]) ?_ ?_;rotate_left
 ·refine Ad (λc3=>?_) (λc3=>?_)
  ·have hw9:IntKind.i64.wrap ((e:Int)-l)=(ot:Int):=by rw[BC oM oM,hot,if_pos oM];omega
   refine Ap @hw9 ?_;exact Ar _ sE ⟨rfl,rfl⟩
  ·have:e=ot:=by rw[hot,if_neg oM]
   rw[this];refine Ae ?_;exact Ar _ sE ⟨rfl,rfl⟩
 rintro env G ⟨rfl,rfl⟩;have hwao:IntKind.i64.wrap ((a:Int)+ot)=((a+ot:Nat):Int):=wN;have hwt:IntKind.i64.wrap (((i0+t:Nat):Int)+1)=((i0+(t+1):Nat):Int):=wN;refine Ap @hwao ?_;refine hS.swap G dk (i0+t) (a+ot) _ hsk hR3 oM oM λH4 hR4 hk4=>?_;refine Ap @hwt ?_;exact Ag (t+1,xorNext r,swp dk (i0+t) (a+ot)) dM (by dsimp only;try simp only[Pf]) ⟨dM,by dsimp only;rw[size_swp];exact hsk,hR4,hkv3.trans hk4,BP ho3 λo h5=>hk4 _ _ h5 hv5,by rw[<-hP];exact hstep.symm⟩
end Go.Cw
namespace Go.Cw
open Go Go.Sort Go.Proofs
def S77 (N:Num) (Γ:Ctx) (n:Nat):Spec:=λargs h K=>∃ F v fl fs cl cs lt d,∃a b limit:Nat,args=[.agg #[.func (.func fl) #[] cl,.func (.func fs) #[] cs],.int .i64 a,.int .i64 b,.int .i64 limit]/\So N Γ F v fl fs cl cs lt d.size/\SWO lt/\Rw F h v d/\a<=b/\b<=d.size/\b-a<=n/\limit<=1000/\Below lt a b d /\
 ∀ h',Rw F h' v (pdq lt d a b limit true true)->kv v h h'->K (.tuple #[]) h'
theorem V9 {N:Num} {Γ:Ctx} [Ak Γ] {Q:SE->At->Heap->Prop} [CD Q] (R:At->Heap->Prop) {s b:St} {env:At} {h:Heap} (hb:∀ env h,R env h->SW N Γ b Q env h) (hx:SW N Γ s (Gw R Q) env h):SW N Γ (.seq s b) Q env h:=by
 show SW N Γ s (IK N Γ b Q) env h;exact Mk R hb hx
theorem LA {x:Hint}:Jn x=2↔x=.decreasing:=by cases x<;>simp[Jn]
theorem LB {x:Hint}:Jn x=1↔x=.increasing:=by cases x<;>simp[Jn]
theorem F77_ok {N:Num} {Γ:Ctx} [Ak Γ] (n:Nat) (H77:∀ m,m<n->Sat (S77 N Γ m) (Γ 77)) (H98:Sat (S98 N Γ) (Γ 98)) (H99:Sat (S99 N Γ) (Γ 99)) (H100:Sat (S100 N Γ) (Γ 100)) (H101:Sat (S101 N Γ) (Γ 101)) (H102:Sat (S102 N Γ) (Γ 102)) (H103:Sat (S103 N Γ) (Γ 103)) (H104:Sat (S104 N Γ) (Γ 104)) (H105:Sat (S105 N Γ) (Γ 105)):Sat (S77 N Γ n) (SF N Γ F77):=by
 rintro _ h K ⟨F,v,fl,fs,cl,cs,lt,d,a,b,limit,rfl,hS,hO,hd,hab,hb,hn,hlim,hBel0,hK⟩;have hsz:=hS.size;refine An rfl ?_;simp only[F77,Ze,Nat.reduceSub,Nat.reduceAdd];refine Ae ?_;refine Aj (λx:Nat×Nat×Nat×Bool×Bool×Array Si=>[U (.agg #[.func (.func fl) #[] cl,.func (.func fs) #[] cs]),U (.int .i64 (x.1:Nat)),U (.int .i64 (x.2.1:Nat)),U (.int .i64 (x.2.2.1:Nat)),U (.agg #[.func (.func fl) #[] cl,.func (.func fs) #[] cs]),U (.bool x.2.2.2.1),U (.bool x.2.2.2.2.1),O,O,O,O,O,O,O,O,O,O,O,O,O,O,O,O,O,O,O,O,O,O])
  (λx H=>a<=x.1/\x.1<=x.2.1/\x.2.1<=b/\x.2.2.1<=limit/\x.2.2.2.2.2.size=d.size/\Below lt x.1 x.2.1 x.2.2.2.2.2/\Rw F H v x.2.2.2.2.2/\kv v h H/\pdq lt x.2.2.2.2.2 x.1 x.2.1 x.2.2.1 x.2.2.2.1 x.2.2.2.2.1=pdq lt d a b limit true true) (λx=>x.2.1-x.1) (a,b,limit,true,true,d) (by dsimp only;try simp only[Pf]) ⟨Yq _,hab,Yq _,Yq _,rfl,hBel0,hd,kv.refl,rfl⟩ ?_
 rintro⟨a',b',lim,wb,wp,dk⟩ H ⟨haa,hab',hbb,hll,hsk,hBel,hR,hkv,hP⟩;dsimp only at haa hab' hbb hll hsk hBel hR hP ⊢;rw[<-hP]at hK;have hSk:So N Γ F v fl fs cl cs lt dk.size:=by rw[hsk];exact hS
 have hwL:IntKind.i64.wrap ((b':Int)-a')=((b'-a':Nat):Int):=wN;refine Ap @hwL ?_;refine Ad (λc1=>?_) (λc1=>?_)
 ·rw[pdq_small oM]at hK;refine Ae ?_;refine Aa H98 ⟨F,v,fl,fs,cl,cs,lt,dk,a',b',rfl,hSk,hR,hab',oM,λH2 hR2 hk2=>?_⟩;refine Ae ?_;exact hK H2 hR2 (hkv.trans hk2)
 have h12:¬ b'-a'<=12:=oM;refine Ae ?_;refine Ad (λc2=>?_) (λc2=>?_)
 ·rw[pdq_heap h12 oM]at hK;refine Ae ?_;refine Aa H99 ⟨F,v,fl,fs,cl,cs,lt,dk,a',b',rfl,hSk,hR,hab',oM,λH2 hR2 hk2=>?_⟩;refine Ae ?_;exact hK H2 hR2 (hkv.trans hk2)
 have hl0:¬ lim=0:=oM;obtain⟨s1,B1,hc1,s2,B2,hpv,s3,B3⟩:=rd_facts (lt:=lt) (limit:=lim) (wb:=wb) (wp:=wp) hO partialInsertionSort_holds reverseRange_holds (show a'<b' by omega) (show b'<=dk.size by omega) hBel;have hrl:(rd lt dk a' b' lim wb wp).lim<=lim:=rd_lim_le;refine Ae ?_;refine AT (λenv H2=>Rw F H2 v (rd lt dk a' b' lim wb wp).d1/\kv v h H2/\env=[U (.agg #[.func (.func fl) #[] cl,.func (.func fs) #[] cs]),U (.int .i64 (a':Nat)),U (.int .i64 (b':Nat)),U (.int .i64 ((rd lt dk a' b' lim wb wp).lim:Nat)),U (.agg #[.func (.func fl) #[] cl,.func (.func fs) #[] cs]),U (.bool wb),U (.bool wp),U (.int .i64 (b'-a':Nat)),O,O,O,O,O,O,O,O,O,O,O,O,O,O,O,O,O,O,O,O,O]) ?_ ?_;rotate_left
 ·cases wb with
  |true=>
   refine Ae ?_;exact Ar _ (by rw[rd_true.2];try simp only[Pf]) ⟨hR,hkv,rfl⟩
  |false=>
   refine Ae ?_;refine Aa H100 ⟨F,v,fl,fs,cl,cs,lt,dk,a',b',rfl,hSk,hR,hab',oM,λH2 hR2 hk2=>?_⟩;have hwl:IntKind.i64.wrap ((lim:Int)-1)=(((rd lt dk a' b' lim false wp).lim:Nat):Int):=by rw[rd_false.2,BC oM oM];omega
   refine Ap @hwl ?_;exact Ar _ sE ⟨by rw[rd_false.1];exact hR2,hkv.trans hk2,rfl⟩
 clear hR hkv;rintro env H2 ⟨hR1,hkv1,rfl⟩;refine Ae ?_;refine Aa H101 ⟨F,v,fl,fs,cl,cs,lt,(rd lt dk a' b' lim wb wp).d1,a',b',rfl,by rw[s1];exact hSk,hR1,oM,oM,λH3 hR3 hk3=>?_⟩;have hkv3:=hkv1.trans hk3;rw[<-rd_c];clear hR1 hkv1 hk3;refine Ae ?_;refine AT (λenv H4=>Rw F H4 v (rd lt dk a' b' lim wb wp).d2/\kv v h H4/\env=[U (.agg #[.func (.func fl) #[] cl,.func (.func fs) #[] cs]),U (.int .i64 (a':Nat)),U (.int .i64 (b':Nat)),U (.int .i64 ((rd lt dk a' b' lim wb wp).lim:Nat)),U (.agg #[.func (.func fl) #[] cl,.func (.func fs) #[] cs]),U (.bool wb),U (.bool wp),U (.int .i64 (b'-a':Nat)),U (.int .i64 ((rd lt dk a' b' lim wb wp).pivot:Nat)),U (.int .i64 (Jn (rd lt dk a' b' lim wb wp).hint)),O,O,O,O,O,O,O,O,O,O,O,O,O,O,O,O,O,O,O]) ?_ ?_;rotate_left
 ·refine Ad (λc3=>?_) (λc3=>?_)
  ·have hh:=LA.1 c3;obtain⟨e1,e2,e3⟩:=rd_dec hh;refine Ae ?_;refine Aa H102 ⟨F,v,fl,fs,cl,cs,lt,(rd lt dk a' b' lim wb wp).d1,a',b',rfl,by rw[s1];exact hSk,hR3,oM,oM,λH4 hR4 hk4=>?_⟩;have hwp:IntKind.i64.wrap (IntKind.i64.wrap ((b':Int)-1)-IntKind.i64.wrap (((rd lt dk a' b' lim wb wp).c.1:Int)-a'))=(((rd lt dk a' b' lim wb wp).pivot:Nat):Int):=by
    rw[e2,BC (n:=(b':Int)-1) oM oM,BC (n:=((rd lt dk a' b' lim wb wp).c.1:Int)-a') oM oM,BC oM oM];omega
   refine Ap @hwp ?_;refine Ar _ (by rw[e3,e2];simp only[Jn];try simp only[Pf]) ⟨by rw[e1];exact hR4,hkv3.trans hk4,rfl⟩
  ·have hh:(rd lt dk a' b' lim wb wp).c.2≠.decreasing:=λe=>c3 (LA.2 e);obtain⟨e1,e2,e3⟩:=rd_not hh;refine Ae ?_;refine Ar _ (by rw[e2,e3];try simp only[Pf]) ⟨by rw[e1];exact hR3,hkv3,rfl⟩
 clear hR3 hkv3;rintro env H4 ⟨hR4,hkv4,rfl⟩;refine Ae ?_;refine AT (λenv H5=>(rd lt dk a' b' lim wb wp).pi.2=false/\Rw F H5 v (rd lt dk a' b' lim wb wp).pi.1/\kv v h H5/\env=[U (.agg #[.func (.func fl) #[] cl,.func (.func fs) #[] cs]),U (.int .i64 (a':Nat)),U (.int .i64 (b':Nat)),U (.int .i64 ((rd lt dk a' b' lim wb wp).lim:Nat)),U (.agg #[.func (.func fl) #[] cl,.func (.func fs) #[] cs]),U (.bool wb),U (.bool wp),U (.int .i64 (b'-a':Nat)),U (.int .i64 ((rd lt dk a' b' lim wb wp).pivot:Nat)),O,O,O,O,O,O,O,O,O,O,O,O,O,O,O,O,O,O,O,O]) ?_ ?_;rotate_left
 ·by_cases hc:(wb&&wp&&decide ((rd lt dk a' b' lim wb wp).hint=.increasing))=true
  ·have hpi:=rd_pi_yes hc;have hc':=hc;simp only[X6,decide_eq_true_eq]at hc';obtain⟨⟨rfl,rfl⟩,hinc⟩:=hc';have hz:=LB.2 hinc;refine Ap @hz ?_;refine Aa H103 ⟨F,v,fl,fs,cl,cs,lt,_,a',b',rfl,by rw[s2];exact hSk,hR4,oM,oM,λH5 hR5 hk5=>?_⟩;rw[<-hpi]at hR5 ⊢;cases hp2:(rd lt dk a' b' lim true true).pi.2 with
   |true=>
    rw[pdq_done h12 hl0 hp2]at hK;refine Ae ?_;exact hK H5 hR5 (hkv4.trans hk5)
   |false=>
    refine Ae ?_;exact Ar _ sE ⟨hR5,hkv4.trans hk5,rfl⟩
  ·have hc0:(wb&&wp&&decide ((rd lt dk a' b' lim wb wp).hint=.increasing))=false:=by simpa using hc
   have hpi:=rd_pi_no hc0;have e1:(rd lt dk a' b' lim wb wp).pi.1=(rd lt dk a' b' lim wb wp).d2:=by rw[hpi]
   have e2:(rd lt dk a' b' lim wb wp).pi.2=false:=by rw[hpi]
   rw[<-e1]at hR4;cases wb with
   |false=>
    refine Ae ?_;exact Ar _ sE ⟨e2,hR4,hkv4,rfl⟩
   |true=>
    cases wp with
    |false=>
     refine Ae ?_;exact Ar _ sE ⟨e2,hR4,hkv4,rfl⟩
    |true=>
     have hz:(Jn (rd lt dk a' b' lim true true).hint=1)=False:=by
      rw[eq_iff_iff,iff_false];intro e;exact hc (by simp[LB.1 e])
     refine Ap @hz ?_;exact Ar _ sE ⟨e2,hR4,hkv4,rfl⟩
 clear hR4 hkv4;rintro env H5 ⟨hp2,hR5,hkv5,rfl⟩;have hsz5:(rd lt dk a' b' lim wb wp).pi.1.size=d.size:=s3.trans hsk;have hS5:So N Γ F v fl fs cl cs lt (rd lt dk a' b' lim wb wp).pi.1.size:=by rw[hsz5];exact hS
 have hpvs:(rd lt dk a' b' lim wb wp).pivot<d.size:=oM;have hwp1:a'≠0->IntKind.i64.wrap ((a':Int)-1)=((a'-1:Nat):Int):=λh0=>by rw[BC oM oM];omega
 refine V9 (λenv H6=>(decide (a'>0)&&!lt (rd lt dk a' b' lim wb wp).pi.1[a'-1]! (rd lt dk a' b' lim wb wp).pi.1[(rd lt dk a' b' lim wb wp).pivot]!)=false/\Rw F H6 v (rd lt dk a' b' lim wb wp).pi.1/\kv v h H6/\env=[U (.agg #[.func (.func fl) #[] cl,.func (.func fs) #[] cs]),U (.int .i64 (a':Nat)),U (.int .i64 (b':Nat)),U (.int .i64 ((rd lt dk a' b' lim wb wp).lim:Nat)),U (.agg #[.func (.func fl) #[] cl,.func (.func fs) #[] cs]),U (.bool wb),U (.bool wp),U (.int .i64 (b'-a':Nat)),U (.int .i64 ((rd lt dk a' b' lim wb wp).pivot:Nat)),O,O,O,O,O,O,O,O,O,O,O,O,O,O,O,O,O,O,O,O]) ?_ ?_;rotate_left
 ·by_cases ha0:a'=0
  ·have h0:((0:Int)<(a':Int))=False:=by rw[eq_iff_iff];simp;omega
   refine Ap @h0 ?_;exact Ar _ sE ⟨by subst ha0;rfl,hR5,hkv5,rfl⟩
  have h0:((0:Int)<(a':Int))=True:=by rw[eq_iff_iff];simp;omega
  have hw0:=hwp1 ha0;refine AH @h0 @hw0 ?_;refine hS.less H5 (rd lt dk a' b' lim wb wp).pi.1 (a'-1) (rd lt dk a' b' lim wb wp).pivot _ hsz5 hR5 oM oM λH6 hle6=>?_;cases hl:lt (rd lt dk a' b' lim wb wp).pi.1[a'-1]! (rd lt dk a' b' lim wb wp).pi.1[(rd lt dk a' b' lim wb wp).pivot]! with
  |true=>
   refine Ae ?_;exact Ar _ sE ⟨hR5.le hle6,hkv5.trans (kv.of_le hle6),rfl⟩
  |false=>
   have h87:(decide (a'>0)&&!lt (rd lt dk a' b' lim wb wp).pi.1[a'-1]! (rd lt dk a' b' lim wb wp).pi.1[(rd lt dk a' b' lim wb wp).pivot]!)=true:=by rw[hl];simp;omega
   obtain⟨mid,d4,hx⟩:∃ mid d4,(partitionEqual lt (rd lt dk a' b' lim wb wp).pi.1 a' b' (rd lt dk a' b' lim wb wp).pivot)=(mid,d4):=⟨_,_,rfl⟩
   obtain⟨r1,r2,r3,r4,_⟩:=round_eq hO (partitionEqual_holds lt) (show 0<a' by omega) hpv.1 hpv.2 (show b'<=(rd lt dk a' b' lim wb wp).pi.1.size by omega) B3 hl hx;refine Ae ?_;refine Aa H104 ⟨F,v,fl,fs,cl,cs,lt,(rd lt dk a' b' lim wb wp).pi.1,a',b',(rd lt dk a' b' lim wb wp).pivot,rfl,hS5,hR5.le hle6,oM,oM,oM,λH7 hR7 hk7=>?_⟩;rw[hx]at hR7 ⊢;have hnx:=pdq_eq h12 hl0 hp2 h87 (by rw[hx];exact⟨r1,r2⟩);rw[hx]at hnx;refine Ae ?_;exact Ag (mid,b',(rd lt dk a' b' lim wb wp).lim,wb,wp,d4) dM (by dsimp only;try simp only[Pf]) ⟨dM,dM,hbb,dM,dM,r4,hR7,(hkv5.trans (kv.of_le hle6)).trans hk7,by rw[<-hP,hnx]⟩
 clear hR5 hkv5;rintro env H6 ⟨h87,hR6,hkv6,rfl⟩;obtain⟨mid,ap,d4,hx⟩:∃ mid ap d4,(partition lt (rd lt dk a' b' lim wb wp).pi.1 a' b' (rd lt dk a' b' lim wb wp).pivot)=(mid,ap,d4):=⟨_,_,_,rfl⟩
 obtain⟨r1,r2,r3,r4,r5,r6,r7⟩:=round_part hO (partition_holds lt) hpv.1 hpv.2 (show b'<=(rd lt dk a' b' lim wb wp).pi.1.size by omega) B3 hx;have hs4:d4.size=d.size:=r3.trans hsz5;have hS4:So N Γ F v fl fs cl cs lt d4.size:=by rw[hs4];exact hS
 refine Ae ?_;refine Aa H105 ⟨F,v,fl,fs,cl,cs,lt,(rd lt dk a' b' lim wb wp).pi.1,a',b',(rd lt dk a' b' lim wb wp).pivot,rfl,hS5,hR6,oM,oM,oM,λH7 hR7 hk7=>?_⟩;rw[hx]at hR7 ⊢;have hkv7:=hkv6.trans hk7;have hwl:IntKind.i64.wrap ((mid:Int)-a')=((mid-a':Nat):Int):=wN;have hwr:IntKind.i64.wrap ((b':Int)-mid)=((b'-mid:Nat):Int):=wN;have hw8:Int.tdiv ((b'-a':Nat):Int) 8=(((b'-a')/8:Nat):Int):=rfl;have hwm:=wS mid;refine CS @hwl @hwr @hw8 ?_;by_cases h4:mid-a'<b'-mid
 ·have h4':(((mid-a':Nat):Int)<((b'-mid:Nat):Int))=True:=by rw[eq_iff_iff];simp;omega
  have hnx:=pdq_left h12 hl0 hp2 h87 (by rw[hx];exact⟨r1,r2⟩) (by rw[hx];exact h4);rw[hx]at hnx;obtain⟨pL,sL⟩:=pdq_sorts lt hO d4 a' mid (rd lt dk a' b' lim wb wp).lim true true r1 oM r4;refine Ap @h4' ?_;refine Aa (H77 (mid-a') oM) ⟨F,v,fl,fs,cl,cs,lt,d4,a',mid,(rd lt dk a' b' lim wb wp).lim,rfl,hS4,hO,hR7,r1,oM,Yq _,oM,r4,λH8 hR8 hk8=>?_⟩;refine Ap @hwm ?_;exact Ag (mid+1,b',(rd lt dk a' b' lim wb wp).lim,decide (mid-a'≥(b'-a')/8),ap,pdq lt d4 a' mid (rd lt dk a' b' lim wb wp).lim true true) dM (by dsimp only;try simp only[Pf];exact congrArg Value.bool (decide_eq_decide.2 oM)) ⟨dM,dM,hbb,dM,pL.1.trans hs4,(r6 _ pL sL).1,hR8,hkv7.trans hk8,by rw[<-hP,hnx]⟩
 ·have h4':(((mid-a':Nat):Int)<((b'-mid:Nat):Int))=False:=by rw[eq_iff_iff];simp;omega
  have hnx:=pdq_right h12 hl0 hp2 h87 (by rw[hx];exact⟨r1,r2⟩) (by rw[hx];exact h4);rw[hx]at hnx;obtain⟨pL,sL⟩:=pdq_sorts lt hO d4 (mid+1) b' (rd lt dk a' b' lim wb wp).lim true true oM oM r5;refine AH @h4' @hwm ?_;refine Aa (H77 (b'-(mid+1)) oM) ⟨F,v,fl,fs,cl,cs,lt,d4,mid+1,b',(rd lt dk a' b' lim wb wp).lim,rfl,hS4,hO,hR7,oM,oM,Yq _,oM,r5,λH8 hR8 hk8=>?_⟩;refine Ae ?_;exact Ag (a',mid,(rd lt dk a' b' lim wb wp).lim,decide (b'-mid≥(b'-a')/8),ap,pdq lt d4 (mid+1) b' (rd lt dk a' b' lim wb wp).lim true true) dM (by dsimp only;try simp only[Pf];exact congrArg Value.bool (decide_eq_decide.2 oM)) ⟨haa,dM,dM,dM,pL.1.trans hs4,(r7 _ pL sL).1,hR8,hkv7.trans hk8,by rw[<-hP,hnx]⟩
end Go.Cw
namespace Go.Cw
open Go Go.Sort Go.Proofs
def Dc (a b:Si):Bool:=if a.tag≠b.tag then Op.bytesLess a.tag b.tag else if a.time≠b.time then decide (a.time<b.time)else if a.place≠b.place then decide (a.place<b.place)else decide (a.strength<b.strength)
theorem KG (a b:Si):Dc a b=true↔Op.bytesLess a.tag b.tag=true\/(a.tag=b.tag/\(a.time<b.time\/(a.time=b.time/\(a.place<b.place\/(a.place=b.place/\a.strength<b.strength))))):=by
 unfold Dc;by_cases h1:a.tag=b.tag
 ·rw[if_neg (by simp[h1]),h1,EE];by_cases h2:a.time=b.time
  ·rw[if_neg (by simp[h2])];by_cases h3:a.place=b.place
   ·rw[if_neg (by simp[h3]),decide_eq_true_eq];simp[h2,h3]
   ·rw[if_pos h3,decide_eq_true_eq];simp[h2,h3]
  ·rw[if_pos h2,decide_eq_true_eq];simp[h2]
 ·rw[if_pos h1];simp[h1]
theorem NV (a:Si):Dc a a=false:=by
 cases h:Dc a a with
 |false=>rfl
 |true=>
  have:=(KG a a).1 h;rw[EE]at this;simp at this
theorem HQ {a b c:Si} (h1:Dc a b=true) (h2:Dc b c=true):Dc a c=true:=by
 rw[KG]at *;rcases h1 with h1|⟨e1,h1⟩
 ·rcases h2 with h2|⟨e2,_⟩
  ·exact .inl (Fl h1 h2)
  ·rw[<-e2];exact .inl h1
 ·rcases h2 with h2|⟨e2,h2⟩
  ·rw[e1];exact .inl h2
  ·exact .inr ⟨e1.trans e2,oM⟩
theorem NU {a b:Si} (h1:Dc a b=false) (h2:a≠b):Dc b a=true:=by
 have h1':¬ Dc a b=true:=by rw[h1];simp
 rw[KG]at h1' ⊢;by_cases e1:a.tag=b.tag
 ·refine .inr ⟨e1.symm,?_⟩;have h3:¬ (a.time<b.time\/(a.time=b.time/\(a.place<b.place\/(a.place=b.place/\a.strength<b.strength)))):=λh=>h1' (.inr ⟨e1,h⟩);have h4:¬ (a.time=b.time/\a.place=b.place/\a.strength=b.strength):=by
   rintro⟨x1,x2,x3⟩;exact h2 (by cases a;cases b;simp_all)
  omega
 ·refine .inl (Hh ?_ e1);cases hb:Op.bytesLess a.tag b.tag with
  |false=>rfl
  |true=>exact absurd (.inl hb) h1'
theorem Sc {a b:Si} (h1:Dc a b=false) (h2:Dc b a=false):a=b:=by
 by_cases e:a=b
 ·exact e
 ·rw[NU h1 e]at h2;cases h2
theorem Qu:SWO Dc where
 irrefl:=NV
 trans:=λ_ _ _ h1 h2=>HQ h1 h2
 ntrans:=λx y z h1 h2=>by
  cases h3:Dc x z with
  |false=>rfl
  |true=>
   by_cases e:x=y
   ·subst e;rw[h3]at h2;cases h2
   ·rw[HQ (NU h1 e) h3]at h2;cases h2
def OR (l:List Si):Prop:=l.Pairwise λa b=>Dc b a=false
theorem Rf:∀ {l m:List Si},OR l->OR m->l.Perm m->l=m:=by
 intro l;induction l with
 |nil=>intro m _ _ hp;exact hp.nil_eq
 |cons x l ih=>
  intro m hl hm hp;cases m with
  |nil=>exact absurd hp.length_eq (by simp)
  |cons y m=>
   have h1:=Aaq.1 hl;have h2:=Aaq.1 hm;have hxy:x=y:=by
    have hx:x∈y::m:=hp.subset (by simp);have hy:y∈x::l:=hp.symm.subset (by simp);rw[X5]at hx hy;rcases hx with e|hx
    ·exact e
    ·rcases hy with e|hy
     ·exact e.symm
     ·exact Sc (h2.1 x hx) (h1.1 y hy)
   subst hxy;rw[ih h1.2 h2.2 hp.cons_inv]
theorem MT {d d':Array Si} (hp:PermIn 0 d.size d d') (hs:SortedIn Dc 0 d.size d'):OR d'.toList/\d'.toList.Perm d.toList:=by
 have hsz:d'.size=d.size:=hp.1;constructor
 ·refine Aa0.2 λi j hi hj hij=>?_;simp only[Array.length_toList]at hi hj;have:=hs i j (Nat.zero_le _) hij oM;rw[getElem!_pos d' j hj,getElem!_pos d' i hi]at this;simpa using this
 ·have:=hp.2.2
  rwa [<-hsz,Abo,hsz,Abo]at this
def Dm (l:List Si) (s:Si):Nat->Nat
 |0=>0
 |k+1=>if Dc s (l.getD k default)then Dm l s k else k+1
def Mj (l:List Si) (s:Si):List Si:=l.take (Dm l s l.length)++s::l.drop (Dm l s l.length)
theorem PU (l:List Si) (s:Si):∀ k,Dm l s k<=k:=by
 intro k;induction k with
 |zero=>simp[Dm]
 |succ k ih=>simp only[Dm];split<;>omega
theorem QU (l:List Si) (s:Si):∀ k,(∀i,Dm l s k<=i->i<k->Dc s (l.getD i default)=true)/\(0<Dm l s k->Dc s (l.getD (Dm l s k-1) default)=false):=by
 intro k;induction k with
 |zero=>simp[Dm]
 |succ k ih=>
  cases hb:Dc s (l.getD k default)with
  |true=>
   have e:Dm l s (k+1)=Dm l s k:=by simp only[Dm];rw[if_pos hb]
   rw[e];refine⟨λi h1 h2=>?_,ih.2⟩;by_cases hi:i<k
   ·exact ih.1 i h1 hi
   ·have:i=k:=oM;subst this;exact hb
  |false=>
   have e:Dm l s (k+1)=k+1:=by simp only[Dm];rw[if_neg (by rw[hb];simp)]
   rw[e];exact⟨λi h1 h2=>by omega,λ_=>by simpa using hb⟩
theorem RD (l:List Si) (s:Si):(Mj l s).Perm (s::l):=by
 unfold Mj;refine List.perm_middle.trans (List.Perm.cons s ?_);rw[ZD]
theorem S9 {l:List Si} (s:Si) (h:OR l):OR (Mj l s):=by
 have hsp:=QU l s l.length;have hle:=PU l s l.length;generalize hp:Dm l s l.length=p at *;unfold Mj;rw[hp];have hT:∀ x∈l.take p,Dc s x=false:=by
  intro x hx;obtain⟨i,hi,rfl⟩:=Z3 hx;rw[Zn]at hi;rw[Abr];have h1:=hsp.2 oM;by_cases hil:i=p-1
  ·subst hil;rw[Zp,Zj oM]at h1;exact h1
  ·have h2:=Aa0.1 h i (p-1) oM oM oM;rw[Zp,Zj oM]at h1;exact Qu.ntrans _ _ _ h1 h2
 have hD:∀ x∈l.drop p,Dc x s=false:=by
  intro x hx;obtain⟨i,hi,rfl⟩:=Z3 hx;rw[ZO]at hi;rw[List.getElem_drop];have h1:=hsp.1 (p+i) oM oM;rw[Zp,Zj oM]at h1;cases hb:Dc l[p+i] s with
  |false=>rfl
  |true=>have:=HQ h1 hb;rw[NV]at this;cases this
 refine Aa4.2 ⟨h.sublist (Abq _ _),Aaq.2 ⟨hD,h.sublist (Abs _ _)⟩,λa ha b hb=>?_⟩;rw[X5]at hb;rcases hb with rfl|hb
 ·exact hT a ha
 ·have h3:=Aa4.1 (show(l.take p++l.drop p).Pairwise λa b=>Dc b a=false by rw[ZD];exact h);exact h3.2.2 a ha b hb
def OS (l:List Si):List Si:=l.foldl Mj []
theorem M6 (l:List Si) (s:Si):OS (l++[s])=Mj (OS l) s:=by simp[OS]
theorem Ma (l:List Si):OR (OS l)/\(OS l).Perm l:=by
 induction l using BG with
 |h0=>simp[OS,OR]
 |hs l s ih=>
  rw[M6];refine⟨S9 s ih.1,(RD _ _).trans (((List.perm_cons s).2 ih.2).trans ?_)⟩;exact(List.perm_append_comm (l₁:=[s]) (l₂:=l))
theorem Ow {d d':Array Si} (hp:PermIn 0 d.size d d') (hs:SortedIn Dc 0 d.size d'):d'.toList=OS d.toList:=by
 obtain⟨h1,h2⟩:=MT hp hs;obtain⟨h3,h4⟩:=Ma d.toList;exact Rf h1 h3 (h2.trans h4.symm)
end Go.Cw
namespace Go.Cw
open Go Go.Sort Go.Proofs
def N6 (s:Si):Value:=.agg #[.int .i64 s.place,.int .i64 s.strength,.int .i64 s.time,.string (str s.tag)]
def S63:Spec:=λargs h K=>∃ a b,args=[N6 a,N6 b]/\K (.bool (Dc a b)) h
theorem F63_ok {N:Num} {Γ:Ctx} [Ak Γ]:Sat S63 (SF N Γ F63):=by
 rintro _ h K ⟨a,b,rfl,hK⟩;unfold Dc at hK;refine An rfl ?_;simp only[F63,Ze,Nat.reduceSub,Nat.reduceAdd,N6];refine Ae ?_;refine Ad (λc1=>?_) (λc1=>?_)
 ·rw[if_pos c1]at hK;refine Ae ?_;exact hK
 rw[if_neg c1]at hK;refine Ae ?_;refine Ad (λc2=>?_) (λc2=>?_)
 ·rw[if_pos c2]at hK;refine Ae ?_;exact hK
 rw[if_neg c2]at hK;refine Ae ?_;refine Ad (λc3=>?_) (λc3=>?_)
 ·rw[if_pos c3]at hK;refine Ae ?_;exact hK
 rw[if_neg c3]at hK;refine Ae ?_;exact hK
def S78:Spec:=S63
theorem F78_ok {N:Num} {Γ:Ctx} [Ak Γ]:Sat S78 (SF N Γ F78):=by
 rintro _ h K ⟨a,b,rfl,hK⟩;unfold Dc at hK;refine An rfl ?_;simp only[F78,Ze,Nat.reduceSub,Nat.reduceAdd,N6];refine Ae ?_;refine Ad (λc1=>?_) (λc1=>?_)
 ·rw[if_pos c1]at hK;refine Ae ?_;exact hK
 rw[if_neg c1]at hK;refine Ae ?_;refine Ad (λc2=>?_) (λc2=>?_)
 ·rw[if_pos c2]at hK;refine Ae ?_;exact hK
 rw[if_neg c2]at hK;refine Ae ?_;refine Ad (λc3=>?_) (λc3=>?_)
 ·rw[if_pos c3]at hK;refine Ae ?_;exact hK
 rw[if_neg c3]at hK;refine Ae ?_;exact hK
def S62:Spec:=λargs h K=>∃ b v l,∃i j:Nat,args=[.int .i64 i,.int .i64 j,.pointer (U ⟨b,0,O⟩)]/\h.cell ⟨b,0,O⟩=U v/\Sl Aa6 h v l/\i<l.length/\j<l.length/\K (.bool (Dc (l.getD i default) (l.getD j default))) h
theorem F62_ok {N:Num} {Γ:Ctx} [Ak Γ] (H63:Sat S63 (Γ 63)):Sat S62 (SF N Γ F62):=by
 rintro _ h K ⟨b,v,l,i,j,rfl,hc,hS,hi,hj,hK⟩;refine An rfl ?_;simp only[F62,Ze,Nat.reduceSub,Nat.reduceAdd];have R:=hS.rules 4 Aa7 default;refine AH @hc @R ?_;refine Aa H63 ⟨l.getD i default,l.getD j default,rfl,?_⟩;refine Ae ?_;exact hK
def Cd (size late now:Nat):Nat:=(now-late)/size
theorem NM {size late now k:Nat} (hs:0<size):(k+1)*size+late<=now↔k<Cd size late now:=by
 unfold Cd;rw[Nat.lt_iff_add_one_le,Nat.le_div_iff_mul_le hs];have:size<=(k+1)*size:=Nat.le_mul_of_pos_left size oM;omega
theorem Ms {size late now:Nat}:Cd size late now<=now:=YU (Aax _ _) oM
end Go.Cw
namespace Go.Cw
open Go Go.Sort Go.Proofs
def ep (size:Nat) (s:Si):Nat:=s.time.toNat/size
def He (size:Nat) (s:Si):List Value:=[.int .i64 s.place,.int .i64 s.strength,.int .i64 s.time,.string (str s.tag),.int .i64 (ep size s:Nat)]
theorem E2 (size:Nat) (s:Si):(He size s).length=5:=rfl
theorem Sl.row4 {size:Nat} {h:Heap} {v:Value} {A:List Si} (hs:Sl (He size) h v A) {i:Nat} (hi:i<A.length):h.row ((K0 v (i*5)).add 0) 4=U #[.int .i64 (A.getD i default).place,.int .i64 (A.getD i default).strength,.int .i64 (A.getD i default).time,.string (str (A.getD i default).tag)]:=by
 have R:=hs.rules 5 (E2 size) default;have h5:=R.2.2.1 i hi;obtain⟨a,cap,rfl,_,hr⟩:=hs;rcases hr with e|⟨g,rfl,hrow⟩
 ·rw[e]at hi;cases hi
 have hl:(A.flatMap (He size)).length=A.length*5:=AZ (E2 size) A;have h5':=hrow.row (i:=i*5) (n:=5) oM;have h4:=hrow.row (i:=i*5) (n:=4) oM;have e1:K0 (.slice (U g) A.length cap) (i*5)=g.add (i*5):=rfl;rw[e1]at h5 ⊢;rw[h5']at h5;simp only[Option.some.injEq]at h5;have h6:((A.flatMap (He size)).drop (i*5)).take 5=He size (A.getD i default):=by
  have:=congrArg Array.toList h5;simpa using this
 rw[DK,h4];have h7:((A.flatMap (He size)).drop (i*5)).take 4=(He size (A.getD i default)).take 4:=by
  rw[<-h6,Abf];rfl
 rw[h7];rfl
def PZ (size:Nat) (A:List Si) (n:Nat):List Si:=OS (A.filter λs=>decide (ep size s=n))
theorem Td {size n i:Nat} {A:List Si} (hi:i<A.length):(A.take (i+1)).filter (λs=>decide (ep size s=n))=(A.take i).filter (λs=>decide (ep size s=n))++if ep size (A.getD i default)=n then[A.getD i default]else[]:=by
 rw[Ai default hi,AaI];congr 1;by_cases h:ep size (A.getD i default)=n
 ·rw[if_pos h,Abh (by simpa using h)];rfl
 ·rw[if_neg h,Abi (by simpa using h)];rfl
theorem PY (l:List Si):(OS l).length=l.length:=(Ma l).2.length_eq
end Go.Cw
namespace Go.Cw
open Go Go.Sort Go.Proofs
def Iq (e:Nat×Value):List Value:=[.int .i64 (e.1:Nat),e.2]
theorem Ck (e:Nat×Value):(Iq e).length=2:=rfl
structure XM (Gf H:Heap) (v:Value) (L:List (Nat×List Si)) (es:List (Nat×Value)) (Z:Heap):Prop where
 sl:BE Iq 2 H v es
 own:∀ b,Ao v=U b->Gf b=O/\Z b=O
 le:Heap.le Z H
 fz:∀ b,Z b≠O->Gf b=O
 len:es.length=L.length
 el:∀ i,i<L.length->(es.getD i default).1=(L.getD i default).1/\Sl Aa6 Z (es.getD i default).2 (L.getD i default).2/\Cw.one (es.getD i default).2=true
def Hk (Gf H:Heap) (v:Value) (L:List (Nat×List Si)):Prop:=∃ es Z,XM Gf H v L es Z
theorem Hk.nil {Gf H:Heap}:Hk Gf H (.slice O 0 0) []:=⟨[],λ_=>O,BE.nil,by simp[Ao],λ_ _ h=>(by cases h),λ_ h=>absurd rfl h,rfl,λi hi=>by simp at hi⟩
theorem Hk.mono {Gf H H':Heap} {v:Value} {L:List (Nat×List Si)} (a:Hk Gf H v L) (hl:Heap.le H H'):Hk Gf H' v L:=by
 obtain⟨es,Z,h⟩:=a;exact⟨es,Z,{ h with sl:=h.sl.le hl,le:=h.le.trans hl }⟩
theorem Tu {N:Num} {Γ:Ctx} {Gf H Z2:Heap} {v x:Value} {L:List (Nat×List Si)} {t n:Nat} {sv:Value} {l:List Si} (a:Hk Gf H v L) (hx:Sl Iq H x [(n,sv)]) (hG:Heap.le Gf H) (hZ:Heap.le Z2 H) (hZf:∀ b,Z2 b≠O->Gf b=O) (hZv:∀ b,Ao v=U b->Z2 b=O) (hs:Sl Aa6 Z2 sv l) (h1:Cw.one sv=true) (hlen:L.length<=10000) {K:Value->Heap->Prop}
  (hK:∀ v' H',Hk Gf H' v' (L++[(n,l)])->kv v H H'->K v' H'):By N Γ (.app t 2 32) [v,x] H K:=by
 obtain⟨es,Z,h⟩:=a;have hel:=h.len;refine Cc (enc:=Iq) (sz:=2) (g:=H) (l:=es) (l':=[(n,sv)]) Ck (by intro x hx;simp only[YA]at hx;subst hx;simp only[Iq,List.all_cons,List.all_nil,h1,Abz];rfl) h.sl (ZX H) hx (by simp;omega) λv' H' g' hS' St' e1 e2 e3=>?_;have hfr:∀ b,Ao v'=U b->Gf b=O/\join Z Z2 b=O:=by
  intro b hb;rcases e2 b hb with h5|h5
  ·exact⟨(h.own b h5).1,Bs (h.own b h5).2 (hZv b h5)⟩
  ·exact⟨AC hG b h5,Bs (AC h.le b h5) (AC hZ b h5)⟩
 have hZH:Heap.le (join Z Z2) H:=Gq h.le hZ;have hnv:∀ b,Ao v=U b->join Z Z2 b=O:=λb hb=>Bs (h.own b hb).2 (hZv b hb);have hZ':Heap.le (join Z Z2) H':=by
  intro b o hb;refine e3 b o (hZH b o hb) λe=>?_;rw[hnv b e]at hb;cases hb
 refine hK v' H' ⟨es++[(n,sv)],join Z Z2,⟨hS'.le St'.le,hfr,hZ',λb hb=>?_,by simp[hel],λi hi=>?_⟩⟩ λb o hb hne=>e3 b o hb hne
 ·simp only[join]at hb;cases hz:Z b with
  |some o=>exact h.fz b (by rw[hz];simp)
  |none=>rw[hz]at hb;exact hZf b (by simpa using hb)
 ·by_cases A5:i<L.length
  ·have g1:(es++[(n,sv)]).getD i default=es.getD i default:=by rw[Zp,Zl oM,<-Zp]
   have g2:(L++[(n,l)]).getD i default=L.getD i default:=by rw[Zp,Zl A5,<-Zp]
   rw[g1,g2];obtain⟨q1,q2,q3⟩:=h.el i A5;exact⟨q1,q2.le (Db _ _),q3⟩
  ·have hie:i=L.length:=by simp at hi;omega
   subst hie;have g1:(es++[(n,sv)]).getD L.length default=(n,sv):=by rw[<-hel];simp[AaO]
   have g2:(L++[(n,l)]).getD L.length default=(n,l):=by simp[AaO]
   rw[g1,g2];exact⟨rfl,hs.le (HI (g:=Z) h.le hZ),h1⟩
def rest (g h:Heap):Heap:=λb=>if g b=O then h b else O
theorem Gn (g h:Heap):Heap.le (rest g h) h:=by
 intro b o hb;unfold rest at hb;split at hb
 ·exact hb
 ·cases hb
def Iu (size late A0 A1:Nat) (A:List Si):List (Nat×List Si):=(List.range' (Cd size late A0) (Cd size late A1-Cd size late A0)).map λk=>(k,PZ size A k)
theorem Jg (s n:Nat):List.range' s (n+1)=List.range' s n++[s+n]:=by
 rw[List.range'_concat];simp
end Go.Cw
namespace Go.Cw
open Go Go.Sort Go.Proofs
def Cs (now:Nat) (s:Si):Prop:=s.place<0\/7<s.place\/s.strength<0\/255<s.strength\/s.time<0\/(now:Int)<s.time\/s.tag.length≠8
instance (now:Nat) (s:Si):Decidable (Cs now s):=by unfold Cs;infer_instance
def Sn (size late now:Nat) (s:Si):Nat:=if Cs now s then 1 else if ep size s<Cd size late now then 6 else 0
end Go.Cw
namespace Go.Cw
open Go Go.Sort Go.Proofs
def Tb (size late now:Nat) (A:List Si) (k:Nat):List Si:=if Cd size late now<=k then A.filter (λs=>decide (ep size s=k))else[]
def MA (kv:List (Int×Value)) (n:Int):Value:=(look kv n).getD (.slice O 0 0)
structure Ww (g:Heap) (p size late now:Nat) (A:List Si) (mw:Nat) (kv:List (Int×Value)) (bs:List Nat) (ck:Nat):Prop where
 obj:Ah g ⟨p,0,O⟩ [.int .i64 size,.int .i64 late,.int .i64 now,.int .i64 (Cd size late now:Nat),.map (U mw)]
 wm:Bn Bm id g mw kv bs ck
 pm:p≠mw
 no:∀ k:Nat,look kv (k:Int)=O->Tb size late now A k=[]
 so:∀ (n:Int) v,look kv n=U v->∃ (k:Nat) (x:Nat),n=k/\Ao v=U x/\x≠p/\x≠mw/\BE Aa6 4 g v (Tb size late now A k)
 inj:∀ n n' v v',look kv n=U v->look kv n'=U v'->Ao v=Ao v'->n=n'
def PD (g:Heap) (p size late now:Nat) (A:List Si):Prop:=∃ mw kv bs ck,Ww g p size late now A mw kv bs ck
theorem Bn.lkpE {h:Heap} {m:Nat} {kv:List (Int×Value)} {bs:List Nat} {ck:Nat} (hm:Bn Bm id h m kv bs ck) (n:Int):A8 h (.lkp .int (.slice O 0 0)) (.v (.map (U m))) (.v (.int .i64 n))=U (.v (MA kv n)):=by
 have:=(hm.rules .int).1 (.slice O 0 0) n;rw[show(Value.int .i64 n)=Bm n from rfl,this];unfold MA;cases look kv n<;>rfl
def NC (size late:Int):Prop:=size<1\/50<size\/late<0\/50<late
def S33 (N:Num):Spec:=λargs h K=>∃ size late,args=[.int .i64 size,.int .i64 late]/\(NC size late->K (.tuple #[.pointer O,Cm N 1]) h) /\
 (¬NC size late->∀ p h',h p=O->Heap.le h h'->PD (fr h h') p size.toNat late.toNat 0 []->K (.tuple #[.pointer (U ⟨p,0,O⟩),.nilIface]) h')
theorem F33_ok {N:Num} {Γ:Ctx} [Ak Γ]:Sat (S33 N) (SF N Γ F33):=by
 rintro _ h K ⟨size,late,rfl,hK1,hK2⟩;unfold NC at hK1 hK2;refine An rfl ?_;simp only[F33,Ze,Nat.reduceSub,Nat.reduceAdd];refine Ae ?_;refine Ad (λc=>?_) (λc=>?_)
 ·refine Ae ?_;exact hK1 oM
 refine Ae ?_;refine EX (ek:=Bm) (ev:=(id:Value->Value)) λm h1 hm0 hle1 hmE=>?_;refine Ae ?_;refine AO λp h2 hle2 hp ho=>?_;refine Ae ?_;have hpm:p≠m:=by
  rintro rfl;obtain⟨es,q,_⟩:=hmE.le (Au _ _);rw[q]at hp;cases hp
 refine hK2 oM p h2 (AC hle1 p hp) (hle1.trans hle2) ⟨m,[],[],0,?_,hmE.le (Fg hle2),hpm,λk _=>by simp[Tb],λn v h=>by simp[Bd]at h,λn n' v v' h=>by simp[Bd]at h⟩;have h3:=ho.le (Ql hle1);have e1:((size.toNat:Nat):Int)=size:=oM;have e2:((late.toNat:Nat):Int)=late:=oM;have e3:Cd size.toNat late.toNat 0=0:=by simp[Cd]
 rw[e1,e2,e3];exact h3
theorem Ww.read {g h:Heap} {p size late now:Nat} {A:List Si} {mw:Nat} {kv:List (Int×Value)} {bs:List Nat} {ck:Nat} (hP:Ww g p size late now A mw kv bs ck) (hg:Heap.le g h) :
  h.cell ((⟨p,0,O⟩:Addr).add 0)=U (.int .i64 size)/\h.cell ((⟨p,0,O⟩:Addr).add 1)=U (.int .i64 late)/\h.cell ((⟨p,0,O⟩:Addr).add 2)=U (.int .i64 now)/\h.cell ((⟨p,0,O⟩:Addr).add 3)=U (.int .i64 (Cd size late now:Nat))/\h.cell ((⟨p,0,O⟩:Addr).add 4)=U (.map (U mw)):=by
 have ho:=hP.obj.le hg;exact⟨ho.rules.1 0 (by simp),ho.rules.1 1 (by simp),ho.rules.1 2 (by simp),ho.rules.1 3 (by simp),ho.rules.1 4 (by simp)⟩
def S39:Spec:=λargs h K=>∃ g p size late now A,args=[.pointer (U ⟨p,0,O⟩)]/\PD g p size late now A/\Heap.le g h/\K (.int .i64 (now:Nat)) h
theorem F39_ok {N:Num} {Γ:Ctx} [Ak Γ]:Sat S39 (SF N Γ F39):=by
 rintro _ h K ⟨g,p,size,late,now,A,rfl,⟨mw,kv,bs,ck,hP⟩,hg,hK⟩;obtain⟨c0,c1,c2,c3,c4⟩:=hP.read hg;refine An rfl ?_;simp only[F39,Ze,Nat.reduceSub,Nat.reduceAdd];refine Ap @c2 ?_;exact hK
theorem Ww.vsl {g:Heap} {p size late now:Nat} {A:List Si} {mw:Nat} {kv:List (Int×Value)} {bs:List Nat} {ck:Nat} (hP:Ww g p size late now A mw kv bs ck) (k:Nat) :
  BE Aa6 4 g (MA kv k) (Tb size late now A k)/\Ao (MA kv k)≠U p/\Ao (MA kv k)≠U mw:=by
 unfold MA;cases hl:look kv (k:Int)with
 |none=>rw[hP.no k hl];exact⟨BE.nil,by simp[Ao],by simp[Ao]⟩
 |some v=>
  obtain⟨k',x,e,h1,h2,h3,h4⟩:=hP.so _ _ hl;obtain rfl:k=k':=oM;exact⟨h4,by simp[h1,h2],by simp[h1,h3]⟩
def Oh (p m:Nat) (h:Heap):Heap:=λb=>if b=p\/b=m then h b else O
theorem VA {p m:Nat} {h h':Heap} (h1:∀ o,h p=U o->h' p=U o) (h2:∀ o,h m=U o->h' m=U o):Heap.le (Oh p m h) h':=by
 intro b o hb;unfold Oh at hb;split at hb
 ·rename_i e;rcases e with rfl|rfl
  ·exact h1 o hb
  ·exact h2 o hb
 ·cases hb
theorem Ah.nsetE {h:Heap} {b m:Nat} {o:Obj} {cs:List Value} (ho:Ah h ⟨b,0,O⟩ cs) (hm:b≠m):Ah (h.set m o) ⟨b,0,O⟩ cs:=IF.obj (b:=m) (λx hx=>ZW hx) hm ho
def S37 (N:Num):Spec:=λargs h K=>∃ g p,∃size late now:Nat,∃A s,args=[.pointer (U ⟨p,0,O⟩),N6 s]/\PD g p size late now A/\Heap.le g h/\0<size/\size<=1000/\late<=1000/\now<=1000/\A.length<2000 /\
 (Sn size late now s≠0->K (Cm N (Sn size late now s)) h)/\(Sn size late now s=0->∀ g' h',Av g h g' h'->PD g' p size late now (A++[s])->K .nilIface h')
theorem F37_ok {N:Num} {Γ:Ctx} [Ak Γ]:Sat (S37 N) (SF N Γ F37):=by
 rintro _ h K ⟨g,p,size,late,now,A,s,rfl,⟨mw,kv,bs,ck,hP⟩,hg,hs1,hs2,hl,hn,hA,hK1,hK2⟩;obtain⟨c0,c1,c2,c3,c4⟩:=hP.read hg;refine An rfl ?_;simp only[F37,Ze,Nat.reduceSub,Nat.reduceAdd,N6];unfold Sn at hK1 hK2;refine Ap @c2 ?_;refine Ad (λcc=>?_) (λcc=>?_)
 ·have hb:Cs now s:=by unfold Cs;omega
  rw[if_pos hb]at hK1;refine Ae ?_;exact hK1 oM
 have hb:¬ Cs now s:=by unfold Cs;omega
 rw[if_neg hb]at hK1 hK2;unfold Cs at hb;obtain⟨tn,htn⟩:∃ tn:Nat,s.time=tn:=⟨s.time.toNat,oM⟩
 have hep:ep size s=tn/size:=by unfold ep;rw[htn,Aaa]
 have hq:Int.tdiv (tn:Int) (size:Int)=((tn/size:Nat):Int):=rfl;have htnl:tn/size<=tn:=Aax _ _;have hwq:IntKind.i64.wrap ((tn/size:Nat):Int)=((tn/size:Nat):Int):=BC oM oM;have hsz0:((size:Int)=0)=False:=by rw[eq_iff_iff];simp;omega
 rw[hep]at hK1 hK2;rw[htn];generalize hk:tn/size=k at *;refine Le @c0 @hq @hwq @hsz0 @c3 ?_;refine Ad (λcc2=>?_) (λcc2=>?_)
 ·rw[if_pos oM]at hK1;refine Ae ?_;exact hK1 oM
 rw[if_neg oM]at hK2;have hm:=(hP.wm.le hg).lkpE (k:Int);obtain⟨hvs,hvp,hvm⟩:=hP.vsl k;have OV:=hvs.one;refine AH @c4 @hm ?_;have htwo:∀ H:Heap,(∀o,h p=U o->H p=U o)->(∀o,h mw=U o->H mw=U o)->Heap.le (Oh p mw h) H:=λH h1 h2=>VA h1 h2;have htp:∀ {x:Value},h.cell ((⟨p,0,O⟩:Addr).add 4)=U x->(Oh p mw h).cell ((⟨p,0,O⟩:Addr).add 4)=U x:=λ{x} hx=>by
  have:Oh p mw h p=h p:=by simp[Oh]
  simpa[Heap.cell,Heap.cells,this,Addr.add]using hx
 have hmt:A8 (Oh p mw h) (.lkp .int (.slice O 0 0)) (.v (.map (U mw))) (.v (.int .i64 (k:Int)))=U (.v (MA kv k)):=by
  obtain⟨es,q1,q2⟩:=hP.wm.le hg;exact Bn.lkpE (h:=Oh p mw h) ⟨es,by simp[Oh,q1],q2⟩ k
 refine Bg Aa6 4 Aa7 [s] (by simp[Aa6,htn]) rfl (by simp[maxLen]) λx1 b1 h1 hle1 hb1 hx1 hS1=>?_;have O2:=hS1.one;have hle2:=htwo h1 (λo=>hle1 p o) (λo=>hle1 mw o);refine Np (Oh p mw h) (htwo h (λo h=>h) (λo h=>h)) ?_ (AE hle2) ?_
 ·intro l' hl';simp only[X5,AaL,or_false]at hl';have c4':=htp c4;rcases hl' with rfl|rfl|rfl
  ·exact⟨true,rfl,λ_=>⟨.v (.map (U mw)),by try simp(disch:=first|omega|(simp only[PL];omega)) only[Zr,simprocAttr,-reduceIte,c4']⟩⟩
  ·exact⟨true,rfl,λ_=>⟨.v (.map (U mw)),by try simp(disch:=first|omega|(simp only[PL];omega)) only[Zr,simprocAttr,-reduceIte,c4']⟩⟩
  ·exact⟨true,rfl,λ_=>⟨.v (MA kv k),by try simp(disch:=first|omega|(simp only[PL];omega)) only[Zr,simprocAttr,-reduceIte,c4',hmt]⟩⟩
 refine Ek O2.1 O2.2 OV.1 OV.2 ?_;have hln:(Tb size late now A k).length<=A.length:=by unfold Tb;split;exact Abl _ _;simp
 refine Cc (enc:=Aa6) (sz:=4) (g:=g) (l:=Tb size late now A k) (l':=[s]) Aa7 (by simp[Aa6,one]) hvs (hg.trans hle1) (BE.sl Aa7 (hS1.le (Au _ _))) (by simp;omega) λv2 h2 g2 hS2 St2 e1 e2 e3=>?_;have hgp:g p≠O:=by obtain⟨_,c,t,q,_⟩:=hP.obj;rw[q];simp
 have hgm:g mw≠O:=by obtain⟨es,q,_⟩:=hP.wm;rw[q];simp
 have hv2n:∀ b,g b≠O->Ao (MA kv k)≠U b->Ao v2≠U b:=by
  intro b hb hnb e;rcases e2 b e with h5|h5
  ·exact hnb h5
  ·exact hb (AC (hg.trans hle1) b h5)
 have hv2p:=hv2n p hgp hvp;have hv2m:=hv2n mw hgm hvm;have hsame:∀ b,g b≠O->Ao (MA kv k)≠U b->g2 b=g b:=λb hb hnb=>e1 b hnb (hv2n b hb hnb);have hwm2:Bn Bm id g2 mw kv bs ck:=by
  obtain⟨es,q1,q2⟩:=hP.wm;exact⟨es,by rw[hsame mw hgm hvm];exact q1,q2⟩
 have O3:=hS2.one;have hle3:Heap.le (Oh p mw h) h2:=htwo h2 (λo hx=>e3 p o (hle1 p o hx) hvp) (λo hx=>e3 mw o (hle1 mw o hx) hvm);refine Ae ?_;refine CX (AE hle3) ?_;refine AH O3.1 O3.2 ?_;refine BX (ek:=Bm) (ev:=(id:Value->Value)) hwm2 St2.le (k:Int) v2 λo bs' ck' hm' St' _=>?_;refine Ae ?_;obtain⟨x2,hx2⟩:∃ x,Ao v2=U x:=by
  obtain⟨a,cap,rfl,q1,q2,q3⟩:=hS2;rcases q3 with⟨_,e,_⟩|⟨b,c,t,rfl,_⟩
  ·simp at e
  ·exact⟨b,rfl⟩
 have hopn:∀ k':Nat,Tb size late now (A++[s]) k'=if k'=k then Tb size late now A k++[s]else Tb size late now A k':=by
  intro k';unfold Tb;by_cases hkk:k'=k
  ·subst hkk;rw[if_pos rfl,if_pos oM,if_pos oM,AaI];congr 1;rw[Abh (by simp[hep])];rfl
  ·rw[if_neg hkk];by_cases hc:Cd size late now<=k'
   ·rw[if_pos hc,if_pos hc,AaI];have:[s].filter (λs=>decide (ep size s=k'))=[]:=by rw[Abi (by simp[hep];omega)];rfl
    rw[this,List.append_nil]
   ·rw[if_neg hc,if_neg hc]
 refine hK2 rfl _ _ (((Av.more hg hle1).trans St2).trans St') ⟨mw,_,_,_,?_,hm',hP.pm,λk' hk'=>?_,λn v hv=>?_,λn n' v v' hv hv' he=>?_⟩
 ·exact(BP hP.obj λo' ho'=>by rw[hsame p hgp hvp];exact ho').nsetE hP.pm
 ·rw[A6]at hk';split at hk'
  ·cases hk'
  ·rename_i hne;rw[hopn k',if_neg oM];exact hP.no k' hk'
 ·rw[A6]at hv;split at hv
  ·rename_i e;cases hv;refine⟨k,x2,e,hx2,λe'=>hv2p (by rw[hx2,e']),λe'=>hv2m (by rw[hx2,e']),?_⟩;rw[hopn k,if_pos rfl];exact hS2.same λb hb=>ZW (by rintro rfl;exact hv2m hb)
  ·rename_i hne;obtain⟨k',x,e,q1,q2,q3,q4⟩:=hP.so n v hv;refine⟨k',x,e,q1,q2,q3,?_⟩;rw[hopn k',if_neg oM];refine q4.same λb hb=>?_;rw[ZW (by rintro rfl;rw[q1]at hb;exact q3 (by simpa using hb))];refine hsame b (q4.mem hb) λe'=>hne ?_;unfold MA at e';cases hl:look kv (k:Int)with
   |none=>rw[hl]at e';simp[Ao]at e'
   |some u=>
    rw[hl]at e';exact hP.inj n k v u hv hl (by rw[hb];exact e'.symm)
 ·rw[A6]at hv hv';have hno:∀ n v,look kv n=U v->n≠(k:Int)->Ao v≠Ao v2:=by
   intro n v hv hne he;obtain⟨k',x,e,q1,q2,q3,q4⟩:=hP.so n v hv;have hgx:=q4.mem q1;refine hv2n x hgx (λe'=>?_) (by rw[<-he];exact q1);unfold MA at e';cases hl:look kv (k:Int)with
   |none=>rw[hl]at e';simp[Ao]at e'
   |some u=>
    rw[hl]at e';exact hne (hP.inj n k v u hv hl (by rw[q1];exact e'.symm))
  by_cases h1:n=(k:Int)
  ·by_cases h2:n'=(k:Int)
   ·omega
   ·rw[if_pos h1]at hv;rw[if_neg h2]at hv';cases hv;exact absurd he.symm (hno n' v' hv' h2)
  ·rw[if_neg h1]at hv;by_cases h2:n'=(k:Int)
   ·rw[if_pos h2]at hv';cases hv';exact absurd he (hno n v hv h1)
   ·rw[if_neg h2]at hv';exact hP.inj n n' v v' hv hv' he
end Go.Cw
namespace Go.Cw
open Go
section
variable {κ ν:Type} [DecidableEq κ]
theorem Qz {α β γ:Type} (f:α->β->γ):∀ (l:List α) (m:List β) (j:Nat),l.length=m.length->List.zipWith f (l.eraseIdx j) (m.eraseIdx j)=(List.zipWith f l m).eraseIdx j:=by
 intro l;induction l with
 |nil=>intro m j h;cases m<;>simp at h ⊢
 |cons a l ih=>
  intro m j h;cases m with
  |nil=>simp at h
  |cons b m=>
   cases j with
   |zero=>simp
   |succ j=>simp only[Abj,List.zipWith_cons_cons];rw[ih m j (by simpa using h)]
theorem OW:∀ (kv:List (κ×ν)) (k:κ) (i j:Nat) (x:ν),(kv.map (·.1)).Nodup->CV kv k i=U (j,x)->i<=j/\j-i<kv.length/\∀ k',look (kv.eraseIdx (j-i)) k'=if k'=k then O else look kv k':=by
 intro kv;induction kv with
 |nil=>intro k i j x _ h;simp[CV]at h
 |cons p r ih=>
  intro k i j x hn h;have hn':=Yr.1 (show(p.1::r.map (·.1)).Nodup by simpa using hn);simp only[CV]at h;split at h
  ·rename_i e;simp only[Option.some.injEq,Prod.mk.injEq]at h;obtain⟨rfl,rfl⟩:=h;refine⟨Yq _,by simp,λk'=>?_⟩;rw[AbA,List.eraseIdx_cons_zero,Bx];by_cases hk:k'=k
   ·subst hk;rw[if_pos rfl];cases hl:look r k' with
    |none=>rfl
    |some u=>
     have:=Cz hl;exact absurd (Yu.2 ⟨_,this,rfl⟩) (by rw[e];exact hn'.1)
   ·rw[if_neg hk,if_neg (by rw[<-e];exact hk)]
  ·rename_i e;obtain⟨h1,h2,h3⟩:=ih k (i+1) j x hn'.2 h;have hj:j-i=(j-(i+1))+1:=oM;refine⟨oM,by simp;omega,λk'=>?_⟩;rw[hj,Abj,Bx,Bx,h3 k'];by_cases hk:k'=k
   ·subst hk;rw[if_neg e,if_pos rfl,if_pos rfl]
   ·rw[if_neg hk,if_neg hk]
theorem We {kb:Bk} {ek:κ->Value} [LP kb ek] {ev:ν->Value} {N:Num} {Γ:Ctx} {g h:Heap} {m:Nat} {kv:List (κ×ν)} {bs:List Nat} {ck:Nat} (hm:Bn ek ev g m kv bs ck) (hg:Heap.le g h) (k:κ) {K:Value->Heap->Prop}
  (hK:∀ g' h' kv' bs',Bn ek ev g' m kv' bs' ck->Heap.le g' h'->(∀k',look kv' k'=if k'=k then O else look kv k')->(∀b,b≠m->g' b=g b)->(∀b,b≠m->h' b=h b)->K undef h'):By N Γ (.mdel kb) [.map (U m),ek k] h K:=by
 obtain⟨es,h1,h2,h3,h4,h5,h6⟩:=hm;have hgm:g m≠O:=by rw[h1];simp
 refine⟨es,ck,hg _ _ h1,_,by rw[h2];exact Ii k kv bs 0 h3,?_⟩;cases hl:CV kv k 0 with
 |none=>
  simp only[Option.map_none];refine hK g h kv bs ⟨es,h1,h2,h3,h4,h5,h6⟩ hg (λk'=>?_) (λb _=>rfl) λb _=>rfl;by_cases hk:k'=k
  ·subst hk;rw[if_pos rfl];unfold look;rw[hl];rfl
  ·rw[if_neg hk]
 |some p=>
  obtain⟨j,x⟩:=p;simp only[YH];obtain⟨_,hjl,hlk⟩:=OW kv k 0 j x h6 hl;rw[Nat.sub_zero]at hjl hlk;refine hK (g.set m (.map (es.eraseIdxIfInBounds j) ck)) _ (kv.eraseIdx j) (bs.eraseIdx j) ⟨_,Aab,?_,?_,?_,λb hb=>h5 b (List.mem_of_mem_eraseIdx hb),?_⟩ ?_ hlk (λb hb=>ZW hb) λb hb=>ZW hb
  ·rw[Qz _ _ _ _ h3.symm,<-h2,Array.eraseIdxIfInBounds];have:j<es.size:=by
    have:=congrArg ZT h2;simp at this;omega
   simp[this]
  ·rw[Abn,Abn,h3]
  ·exact h4.sublist (Abm _ _)
  ·exact h6.sublist ((Abm kv j).map _)
  ·exact(Av.set hg hgm _).le
end
end Go.Cw
namespace Go.Cw
open Go Go.Sort Go.Proofs
def XO (N:Num) (Γ:Ctx) (F:Heap) (v:Value) (fl:Nat) (cl:Array Value) (lt:Si->Si->Bool) (n:Nat):Prop:=
 ∀ (H:Heap) (d:Array Si) (i j:Nat) (K:Value->Heap->Prop),d.size=n->Rw F H v d->i<n->j<n->(∀H',Heap.le H H'->K (.bool (lt d[i]! d[j]!)) H')->By N Γ .cal [.func (.func fl) #[] cl,.int .i64 i,.int .i64 j] H K
def S61 (N:Num) (Γ:Ctx):Spec:=λargs h K=>∃ F v fl cl lt d,args=[.iface (N.tid 64) v,.func (.func fl) #[] cl]/\XO N Γ F v fl cl lt d.size/\d.size<=100000000/\SWO lt/\Rw F h v d /\
 ∀ h' d',Rw F h' v d'->PermIn 0 d.size d d'->SortedIn lt 0 d.size d'->kv v h h'->K (.tuple #[]) h'
end Go.Cw
namespace Go.Cw
open Go Go.Sort Go.Proofs
def GK (size next:Nat) (A:List Si) (k:Nat):List Si:=if next<=k then A.filter (λs=>decide (ep size s=k))else[]
structure Vx (g:Heap) (p size late now next:Nat) (A:List Si) (mw:Nat) (kv:List (Int×Value)) (bs:List Nat) (ck:Nat):Prop where
 obj:Ah g ⟨p,0,O⟩ [.int .i64 size,.int .i64 late,.int .i64 now,.int .i64 next,.map (U mw)]
 wm:Bn Bm id g mw kv bs ck
 pm:p≠mw
 no:∀ k:Nat,look kv (k:Int)=O->GK size next A k=[]
 so:∀ (n:Int) v,look kv n=U v->∃ (k:Nat) (x:Nat),n=k/\Ao v=U x/\x≠p/\x≠mw/\BE Aa6 4 g v (GK size next A k)
 inj:∀ n n' v v',look kv n=U v->look kv n'=U v'->Ao v=Ao v'->n=n'
theorem Ww.q {g:Heap} {p size late now:Nat} {A:List Si} {mw:Nat} {kv:List (Int×Value)} {bs:List Nat} {ck:Nat} (h:Ww g p size late now A mw kv bs ck):Vx g p size late now (Cd size late now) A mw kv bs ck:=⟨h.obj,h.wm,h.pm,h.no,h.so,h.inj⟩
theorem Vx.p {g:Heap} {p size late now:Nat} {A:List Si} {mw:Nat} {kv:List (Int×Value)} {bs:List Nat} {ck:Nat} (h:Vx g p size late now (Cd size late now) A mw kv bs ck):Ww g p size late now A mw kv bs ck:=⟨h.obj,h.wm,h.pm,h.no,h.so,h.inj⟩
theorem Vx.vsl {g:Heap} {p size late now next:Nat} {A:List Si} {mw:Nat} {kv:List (Int×Value)} {bs:List Nat} {ck:Nat} (hP:Vx g p size late now next A mw kv bs ck) (k:Nat) :
  BE Aa6 4 g (MA kv k) (GK size next A k)/\Ao (MA kv k)≠U p/\Ao (MA kv k)≠U mw:=by
 unfold MA;cases hl:look kv (k:Int)with
 |none=>rw[hP.no k hl];exact⟨BE.nil,by simp[Ao],by simp[Ao]⟩
 |some v=>
  obtain⟨k',x,e,h1,h2,h3,h4⟩:=hP.so _ _ hl;obtain rfl:k=k':=oM;exact⟨h4,by simp[h1,h2],by simp[h1,h3]⟩
theorem Vx.setp {g:Heap} {p size late now next:Nat} {A:List Si} {mw:Nat} {kv:List (Int×Value)} {bs:List Nat} {ck:Nat} (hP:Vx g p size late now next A mw kv bs ck) {o:Obj} {now' next':Nat} (ho:Ah (g.set p o) ⟨p,0,O⟩ [.int .i64 size,.int .i64 late,.int .i64 now',.int .i64 next',.map (U mw)])
  (hn:∀ k:Nat,look kv (k:Int)=O->GK size next' A k=[]) (hs:∀ (n:Int) v,look kv n=U v->∀ k:Nat,n=k->GK size next' A k=GK size next A k):Vx (g.set p o) p size late now' next' A mw kv bs ck:=by
 refine⟨ho,?_,hP.pm,hn,λn v hv=>?_,hP.inj⟩
 ·obtain⟨es,q1,q2⟩:=hP.wm;exact⟨es,by rw[ZW (Ne.symm hP.pm)];exact q1,q2⟩
 ·obtain⟨k,x,e,h1,h2,h3,h4⟩:=hP.so n v hv;refine⟨k,x,e,h1,h2,h3,?_⟩;rw[hs n v hv k e];exact h4.same λb hb=>ZW (by rintro rfl;rw[h1]at hb;exact h2 (by simpa using hb))
theorem Hk.step {Gf Gf' H H':Heap} {v:Value} {L:List (Nat×List Si)} (a:Hk Gf H v L) (hk:∀ b o,H b=U o->Gf b=O->H' b=U o) (hf:∀ b,H b≠O->Gf b=O->Gf' b=O):Hk Gf' H' v L:=by
 obtain⟨es,Z,h⟩:=a;have hm:∀ b,Ao v=U b->H b≠O:=λb hb=>h.sl.mem hb;refine⟨es,Z,h.sl.same λb hb=>?_,λb hb=>⟨hf b (hm b hb) (h.own b hb).1,(h.own b hb).2⟩,λb o hb=>hk b o (h.le b o hb) (h.fz b (by rw[hb];simp)),λb hb=>hf b ?_ (h.fz b hb),h.len,h.el⟩
 ·cases hh:H b with
  |none=>exact absurd hh (hm b hb)
  |some o=>exact hk b o hh (h.own b hb).1
 ·cases hz:Z b with
  |none=>exact absurd hz hb
  |some o=>rw[h.le b o hz];simp
def S34 (N:Num):Spec:=λargs h K=>∃ g p n,∃size late now:Nat,∃A,args=[.pointer (U ⟨p,0,O⟩),.int .i64 n]/\PD g p size late now A/\Heap.le g h/\0<size/\size<=1000/\late<=1000/\now<=1000/\A.length<=2000 /\
 ((n<0\/1000-(now:Int)<n)->K (.tuple #[.slice O 0 0,Cm N 1]) h) /\
 (∀m:Nat,n=m->now+m<=1000->∀ g' h' v,Av g h g' h'->PD g' p size late (now+m) A->Hk (join (rest g h) g') h' v (Iu size late now (now+m) A)->K (.tuple #[v,.nilIface]) h')
theorem F34_ok {N:Num} {Γ:Ctx} [Ak Γ] (H62:Sat S62 (Γ 62)) (H61:Sat (S61 N Γ) (Γ 61)):Sat (S34 N) (SF N Γ F34):=by
 rintro _ h K ⟨g,p,n,size,late,now,A,rfl,⟨mw,kv,bs,ck,hP⟩,hg,hs1,hs2,hl,hn,hA,hK1,hK2⟩;obtain⟨c0,c1,c2,c3,c4⟩:=hP.read hg;refine An rfl ?_;simp only[F34,Ze,Nat.reduceSub,Nat.reduceAdd];have hw0:IntKind.i64.wrap (1000-(now:Int))=1000-(now:Int):=BC oM oM;refine AH @c2 @hw0 ?_;refine Ad (λcc=>?_) (λcc=>?_)
 ·refine Ae ?_;exact hK1 oM
 obtain⟨m,rfl⟩:∃ m:Nat,n=m:=⟨n.toNat,oM⟩
 have hm:now+m<=1000:=oM;have hK:=hK2 m rfl hm;clear hK1 hK2;have hw1:IntKind.i64.wrap ((now:Int)+m)=((now+m:Nat):Int):=wN;refine AH @c2 @hw1 ?_;refine Br (hP.obj.le hg) 2 1 rfl rfl oM (by simp) λo hob _=>?_;have hgp:g p≠O:=by obtain⟨_,c,t,q,_⟩:=hP.obj;rw[q];simp
 have ho1:Ah (h.set p o) ⟨p,0,O⟩ [.int .i64 size,.int .i64 late,.int .i64 (now+m:Nat),.int .i64 (Cd size late now:Nat),.map (U mw)]:=hob h rfl;have ho1g:Ah (g.set p o) ⟨p,0,O⟩ [.int .i64 size,.int .i64 late,.int .i64 (now+m:Nat),.int .i64 (Cd size late now:Nat),.map (U mw)]:=by
  refine BP ho1 λo' ho'=>?_;simp only[Heap.set,if_true]at ho' ⊢;exact ho'
 have hst:=Av.set hg hgp o;have hQ:=hP.q.setp ho1g hP.q.no λ_ _ _ _ _=>rfl;have hc01:Cd size late now<=Cd size late (now+m):=Nat.div_le_div_right oM;have hcl:=Ms (size:=size) (late:=late) (now:=now+m);obtain⟨e0,he0⟩:∃ c,c=Cd size late now:=⟨_,rfl⟩
 obtain⟨e1,he1⟩:∃ c,c=Cd size late (now+m):=⟨_,rfl⟩
 unfold Iu at hK;rw[<-he0,<-he1]at hc01 hK;rw[<-he0]at hQ;rw[<-he1]at hcl;clear hob ho1 ho1g c0 c1 c2 c3 c4;generalize h.set p o=h1 at *;generalize g.set p o=g1 at *;refine Ae ?_;refine Aj (λx:Nat×Value=>[U (.pointer (U ⟨p,0,O⟩)),U (.int .i64 m),O,O,U x.2,O,O,O,O,O,O,O])
  (λx H=>e0<=x.1/\x.1<=e1/\∃ g' kv bs ck,Av g h g' H/\Vx g' p size late (now+m) x.1 A mw kv bs ck/\Hk (join (rest g h) g') H x.2 ((List.range' e0 (x.1-e0)).map λk=>(k,PZ size A k))) (λx=>e1-x.1) (e0,.slice O 0 0) (by dsimp only;try simp only[Pf]) ⟨Yq _,hc01,g1,kv,bs,ck,hst,hQ,by rw[AbA];exact Hk.nil⟩ ?_
 clear hQ hst;rintro⟨e,v⟩ H ⟨hee0,hee1,g2,kv,bs,ck,hSt,hQ,hO⟩;dsimp only at hee0 hee1 hQ hO ⊢;have hread:=λH (hl:Heap.le g2 H)=>(hQ.obj.le hl).rules.1;have d0:H.cell ((⟨p,0,O⟩:Addr).add 0)=U (.int .i64 size):=hread H hSt.le 0 (by simp);have d1:H.cell ((⟨p,0,O⟩:Addr).add 1)=U (.int .i64 late):=hread H hSt.le 1 (by simp);have d2:H.cell ((⟨p,0,O⟩:Addr).add 2)=U (.int .i64 (now+m:Nat)):=hread H hSt.le 2 (by simp);have d3:H.cell ((⟨p,0,O⟩:Addr).add 3)=U (.int .i64 (e:Nat)):=hread H hSt.le 3 (by simp);have d4:H.cell ((⟨p,0,O⟩:Addr).add 4)=U (.map (U mw)):=hread H hSt.le 4 (by simp);have hwa:=wS e;have hbd:(e+1)*size<=1001*1000:=Nat.mul_le_mul oM hs2;have hwb:IntKind.i64.wrap (((e+1:Nat):Int)*(size:Int))=(((e+1)*size:Nat):Int):=by rw[<-Int.natCast_mul,BC oM oM]
 have hwc:IntKind.i64.wrap ((((e+1)*size:Nat):Int)+late)=(((e+1)*size+late:Nat):Int):=wN;have hi:=NM (late:=late) (now:=now+m) (k:=e) hs1;refine Wx @d0 @d1 @d2 @d3 @hwa @hwb @hwc ?_;refine Ad (λc=>?_) (λc=>?_);rotate_left
 ·have h9:¬ e<Cd size late (now+m):=λh=>c (by have:=hi.2 h;omega);have:e=e1:=oM;subst this;refine Ae ?_;rw[he1]at hQ;exact hK g2 H v hSt ⟨mw,kv,bs,ck,hQ.p⟩ hO
 have he2:e<e1:=by have:=hi.1 oM;omega
 have hlk:=(hQ.wm.le hSt.le).lkpE (e:Int);obtain⟨hvs,hvp,hvm⟩:=hQ.vsl e;generalize hsv:MA kv (e:Int)=sv at *;have OV:=hvs.one;refine CS @d3 @d4 @hlk ?_;refine AO λb5 H1 hle1 hb5 ho5=>?_;refine Cb (AE hle1) ?_;refine AH OV.1 OV.2 ?_;have ho5':Ah H1 ⟨b5,0,O⟩ [.slice O 0 0]:=ho5.le (Au _ _);refine Br ho5' 0 1 (by rw[OV.2];rfl) (by rw[OV.2];simp[OV.1]) oM (by simp) λo5 hob5 _=>?_;have q5:Ah (H1.set b5 o5) ⟨b5,0,O⟩ [sv]:=by have:=hob5 H1 rfl;simpa[OV.2]using this
 have hle2:Heap.le H (H1.set b5 o5):=IF.le (b:=b5) hle1 hb5 λx hx=>ZW hx;generalize H1.set b5 o5=H2 at *;clear ho5 ho5' hob5;have d32:H2.cell ((⟨p,0,O⟩:Addr).add 3)=U (.int .i64 (e:Nat)):=Ce hle2 d3;have d42:H2.cell ((⟨p,0,O⟩:Addr).add 4)=U (.map (U mw)):=Ce hle2 d4;refine AH @d32 @d42 ?_;refine We (ek:=Bm) (ev:=(id:Value->Value)) hQ.wm (hSt.le.trans hle2) (e:Int) λg3 H3 kv3 bs3 hm3 hle3 hlk3 hg3 hH3=>?_;have hgp2:g2 p≠O:=by obtain⟨_,c,t,q,_⟩:=hQ.obj;rw[q];simp
 have hgm2:g2 mw≠O:=by obtain⟨es,q,_⟩:=hQ.wm;rw[q];simp
 have hnn:∀ b,g2 b≠O->H b≠O:=λb hb=>by
  cases hh:g2 b with
  |none=>exact absurd hh hb
  |some o=>rw[hSt.le b o hh];simp
 have hb5m:b5≠mw:=by rintro rfl;exact hnn _ hgm2 hb5
 have hb5v:Ao sv≠U b5:=λe'=>hnn _ (hvs.mem e') hb5;have q53:Ah H3 ⟨b5,0,O⟩ [sv]:=BP q5 λo ho=>by rw[hH3 b5 hb5m];exact ho
 have hvs3:BE Aa6 4 H3 sv (GK size e A e):=(hvs.le (hSt.le.trans hle2)).same λb hb=>hH3 b (by rintro rfl;exact hvm hb);have hQo3:Ah H3 ⟨p,0,O⟩ [.int .i64 size,.int .i64 late,.int .i64 (now+m:Nat),.int .i64 e,.map (U mw)]:=BP (hQ.obj.le (hSt.le.trans hle2)) λo ho=>by rw[hH3 p hQ.pm];exact ho
 obtain⟨F,hF⟩:∃ F:Heap,F=λb=>if Ao sv=U b then O else H3 b:=⟨_,rfl⟩
 have hFH:Heap.le F H3:=by
  intro b o hb;rw[hF]at hb;dsimp only at hb;split at hb
  ·cases hb
  ·exact hb
 have hRw:Rw F H3 sv (GK size e A e).toArray:=hvs3.own hFH λb hb=>by rw[hF];simp[hb]
 have q5F:Ah F ⟨b5,0,O⟩ [sv]:=BP q53 λo ho=>by rw[hF];simp[hb5v,ho]
 have hopl:(GK size e A e).length<=2000:=by
  unfold GK;split
  ·exact YU (Abl _ _) hA
  ·simp
 have hB53:H3.cell ⟨b5,0,O⟩=U sv:=q53.rules.2.1 (by simp);refine CS @hB53 OV.1 OV.2 ?_;refine Aa H61 ⟨F,sv,N.fid 62,_,Dc,(GK size e A e).toArray,rfl,?_,by simp;omega,Qu,hRw,λH4 d' hR4 hpm hso hk4=>?_⟩
 ·intro G d i j K' hd hRG hi hj hK';have hcG:G.cell ⟨b5,0,O⟩=U sv:=(q5F.le hRG.1).rules.2.1 (by simp);refine Ea H62 ⟨b5,sv,d.toList,i,j,rfl,hcG,AQ.sl Aa7 hRG,by simp;omega,by simp;omega,?_⟩;have e1:∀ i,i<d.size->d.toList.getD i default=d[i]!:=λi hi=>by
   rw[getElem!_pos d i hi,Zp];simp[hi]
  rw[e1 i oM,e1 j oM];exact hK' G (ZX G)
 have hd':d'.toList=PZ size A e:=by
  have:=Ow hpm hso;rw[this];unfold GK PZ;rw[if_pos (Yq e)]
 have hvs4:BE Aa6 4 H4 sv (PZ size A e):=by rw[<-hd'];exact(AQ.slb hR4).1
 have hQo4:=BP hQo3 λo ho=>hk4 p o ho hvp;have d34:H4.cell ((⟨p,0,O⟩:Addr).add 3)=U (.int .i64 (e:Nat)):=hQo4.rules.1 3 (by simp);have hB54:H4.cell ⟨b5,0,O⟩=U sv:=(BP q53 λo ho=>hk4 b5 o ho hb5v).rules.2.1 (by simp);refine Ek @d34 @hB54 OV.1 OV.2 ?_;refine Bg Iq 2 Ck [(e,sv)] rfl rfl (by simp[maxLen]) λx1 b1 H5 hle5 hb1 hx1 hS1=>?_;have O2:=hS1.one;refine AH O2.1 O2.2 ?_;obtain⟨g4,hg4⟩:∃ g4:Heap,g4=λb=>if Ao sv=U b then O else g3 b:=⟨_,rfl⟩
 obtain⟨Z2,hZ2⟩:∃ Z2:Heap,Z2=λb=>if Ao sv=U b then H5 b else O:=⟨_,rfl⟩
 have hsvg:∀ b,Ao sv=U b->g2 b≠O:=λb hb=>hvs.mem hb;have h35:∀ b o,H3 b=U o->Ao sv≠U b->H5 b=U o:=λb o hb hne=>hle5 b o (hk4 b o hb hne);have hH35:∀ b o,H b=U o->g2 b=O->H5 b=U o:=λb o hb hn=>by
  refine h35 b o ?_ λe'=>hsvg b e' hn;rw[hH3 b (by rintro rfl;exact hgm2 hn)];exact hle2 b o hb
 have hg34:∀ b,g2 b=O->g4 b=O:=λb hn=>by
  rw[hg4];dsimp only;rw[if_neg λe'=>hsvg b e' hn,hg3 b (by rintro rfl;exact hgm2 hn)];exact hn
 have hrf:∀ b o,rest g h b=U o->g2 b=O/\H b=U o:=λb o hb=>by
  unfold rest at hb;split at hb
  ·rename_i hgb;exact⟨hSt.fresh b (by rw[hb];simp) hgb,hSt.frame b o hb hgb⟩
  ·cases hb
 have hO5:Hk (join (rest g h) g4) H5 v ((List.range' e0 (e-e0)).map λk=>(k,PZ size A k)):=by
  refine hO.step (λb o hb hn=>?_) λb hb hn=>?_
  ·refine hH35 b o hb ?_;simp only[join]at hn;cases hr:rest g h b with
   |some o'=>rw[hr]at hn;simp at hn
   |none=>rw[hr]at hn;simpa using hn
  ·simp only[join]at hn;cases hr:rest g h b with
   |some o'=>rw[hr]at hn;simp at hn
   |none=>rw[hr]at hn;exact Bs hr (hg34 b (by simpa using hn))
 have hg45:Heap.le g4 H5:=by
  intro b o hb;rw[hg4]at hb;dsimp only at hb;split at hb
  ·cases hb
  ·rename_i hne;exact h35 b o (hle3 b o hb) hne
 have hr5:Heap.le (rest g h) H5:=λb o hb=>by obtain⟨q1,q2⟩:=hrf b o hb;exact hH35 b o q2 q1
 have hvg:∀ b,Ao v=U b->g2 b=O:=λb hb=>by
  obtain⟨es,Z,hP⟩:=hO;have hn:=(hP.own b hb).1;simp only[join]at hn;cases hr:rest g h b with
  |some o'=>rw[hr]at hn;simp at hn
  |none=>rw[hr]at hn;simpa using hn
 refine Tu (Gf:=join (rest g h) g4) (Z2:=Z2) (n:=e) (sv:=sv) (l:=PZ size A e) hO5 (BE.sl Ck (hS1.le (Au _ _))) (Gq hr5 hg45) ?_ (λb hb=>?_) (λb hb=>?_) ?_ OV.1 (by simp;omega) λv' H6 hO6 hk6=>?_
 ·intro b o hb;rw[hZ2]at hb;dsimp only at hb;split at hb
  ·exact hb
  ·cases hb
 ·rw[hZ2]at hb;dsimp only at hb;split at hb
  ·rename_i hsb;refine Bs ?_ (by rw[hg4];dsimp only;rw[if_pos hsb]);cases hr:rest g h b with
   |none=>rfl
   |some o'=>exact absurd (hrf b o' hr).1 (hsvg b hsb)
  ·exact absurd rfl hb
 ·rw[hZ2];dsimp only;rw[if_neg λe'=>hsvg b e' (hvg b hb)]
 ·exact BE.sl Aa7 ((hvs4.le hle5).same λb hb=>by rw[hZ2];simp[hb])
 have hvp6:Ao v≠U p:=λe'=>hgp2 (hvg p e');have hQo6:=BP (hQo4.le hle5) λo ho=>hk6 p o ho hvp6;have d36:H6.cell ((⟨p,0,O⟩:Addr).add 3)=U (.int .i64 (e:Nat)):=hQo6.rules.1 3 (by simp);refine AH @d36 @hwa ?_;refine Br hQo6 3 1 rfl rfl oM (by simp) λo7 hob7 _=>?_;have ho7:Ah (H6.set p o7) ⟨p,0,O⟩ [.int .i64 size,.int .i64 late,.int .i64 (now+m:Nat),.int .i64 (e+1:Nat),.map (U mw)]:=hob7 H6 rfl;have hg4p:g4 p≠O:=by rw[hg4];dsimp only;rw[if_neg hvp,hg3 p hQ.pm];exact hgp2
 have hg46:Heap.le g4 H6:=λb o hb=>hk6 b o (hg45 b o hb) λe'=>by rw[hg34 b (hvg b e')]at hb;cases hb
 refine Ae ?_;refine Ag (e+1,v') dM (by dsimp only;try simp only[Pf]) ⟨dM,dM,g4.set p o7,kv3,bs3,ck,⟨?_,λb o hb hn=>?_,λb hb hn=>?_⟩,⟨?_,?_,hQ.pm,λk hk=>?_,λn u hu=>?_,λn n' u u' hu hu' he=>?_⟩,?_⟩
 ·intro b o hb;by_cases e':b=p
  ·subst e';simp only[Heap.set,if_true]at hb ⊢;exact hb
  ·rw[ZW e']at hb ⊢;exact hg46 b o hb
 ·have h1:=hSt.fresh b (by rw[hb];simp) hn;have h2:=hSt.frame b o hb hn;rw[ZW (by rintro rfl;exact hgp2 h1)];refine hk6 b o (hH35 b o h2 h1) λe'=>?_;obtain⟨es,Z,hP⟩:=hO;have h3:=(hP.own b e').1;have h4:rest g h b=U o:=by unfold rest;rw[if_pos hn];exact hb
  simp[join,h4]at h3
 ·have h1:=hSt.fresh b hb hn;rw[ZW (by rintro rfl;exact hgp2 h1)];exact hg34 b h1
 ·refine BP ho7 λo' ho'=>?_;simp only[Heap.set,if_true]at ho' ⊢;exact ho'
 ·obtain⟨es,q1,q2⟩:=hm3;refine⟨es,?_,q2⟩;rw[ZW (Ne.symm hQ.pm),hg4];dsimp only;rw[if_neg hvm];exact q1
 ·rw[hlk3]at hk;unfold GK;by_cases hke:k=e
  ·subst hke;rw[if_neg oM]
  ·rw[if_neg oM]at hk;have:=hQ.no k hk;unfold GK at this;by_cases hc:e+1<=k
   ·rw[if_pos hc];rw[if_pos oM]at this;exact this
   ·rw[if_neg hc]
 ·rw[hlk3]at hu;split at hu
  ·cases hu
  ·rename_i hne;obtain⟨k,x,e',q1,q2,q3,q4⟩:=hQ.so n u hu;refine⟨k,x,e',q1,q2,q3,?_⟩;have hopk:GK size (e+1) A k=GK size e A k:=by
    unfold GK;by_cases hc:e+1<=k
    ·rw[if_pos hc,if_pos oM]
    ·rw[if_neg hc,if_neg oM]
   rw[hopk];refine q4.same λb hb=>?_;have hbx:b=x:=by rw[q1]at hb;exact(Option.some.inj hb).symm
   subst hbx;rw[ZW q2,hg4];dsimp only;rw[if_neg λe''=>hne ?_,hg3 b q3];rw[<-hsv]at e'';unfold MA at e'';cases hl:look kv (e:Int)with
   |none=>rw[hl]at e'';simp[Ao]at e''
   |some w=>rw[hl]at e'';exact hQ.inj n e u w hu hl (by rw[q1];exact e''.symm)
 ·rw[hlk3]at hu hu';split at hu
  ·cases hu
  ·split at hu'
   ·cases hu'
   ·exact hQ.inj n n' u u' hu hu' he
 ·dsimp only;rw[show e+1-e0=(e-e0)+1 by omega,Jg,Aam,show e0+(e-e0)=e by omega];refine hO6.step (λb o hb hn=>?_) λb hb hn=>?_
  ·rw[ZW]
   ·exact hb
   ·rintro rfl;simp only[join]at hn;cases hr:rest g h b with
    |some o'=>rw[hr]at hn;simp at hn
    |none=>rw[hr]at hn;exact hg4p (by simpa using hn)
  ·simp only[join]at hn;cases hr:rest g h b with
   |some o'=>rw[hr]at hn;simp at hn
   |none=>
    rw[hr]at hn;have hn':g4 b=O:=by simpa using hn
    exact Bs hr (by rw[ZW (by rintro rfl;exact hg4p hn')];exact hn')
end Go.Cw
namespace Go.Cw
open Go Go.Sort Go.Proofs
def U6 (h:Heap) (v:Value) (L:List (Nat×List Si)):Prop:=∃ es:List (Nat×Value),Sl Iq h v es/\es.length=L.length/\∀ i,i<L.length->(es.getD i default).1=(L.getD i default).1/\Sl Aa6 h (es.getD i default).2 (L.getD i default).2
theorem Hk.epsR {Gf H:Heap} {v:Value} {L:List (Nat×List Si)} (a:Hk Gf H v L):U6 H v L:=by
 obtain⟨es,Z,h⟩:=a;exact⟨es,BE.sl Ck h.sl,h.len,λi hi=>⟨(h.el i hi).1,(h.el i hi).2.1.le h.le⟩⟩
end Go.Cw
namespace Go.Cw
open Go Go.Sort Go.Proofs
theorem TN {g h h':Heap} (hg:Heap.le g h):CA g (fr h h'):=by
 intro b hb;cases e:g b with
 |none=>exact absurd e hb
 |some o=>exact Er (hg b o e)
structure Ac where
 kind:List UInt8
 n:Int
 s:List UInt8
 x:Si
 deriving Inhabited
end Go.Cw
namespace Go.Cw
open Go
structure Rl where
 name:List UInt8
 kind:Int
 first:Int
 thn:Int
 wout:Int
 wthn:Int
 deriving DecidableEq,Inhabited
def Rl.enc (r:Rl):List Value:=[.string (str r.name),.int .i64 r.kind,.int .i64 r.first,.int .i64 r.thn,.int .i64 r.wout,.int .i64 r.wthn]
theorem Rl.enc_len (r:Rl):r.enc.length=6:=rfl
def FW (r:Rl):Value:=.agg #[.string (str r.name),.int .i64 r.kind,.int .i64 r.first,.int .i64 r.thn,.int .i64 r.wout,.int .i64 r.wthn]
def Dq (s:List UInt8):Prop:=∀ b∈s,97<=b.toNat/\b.toNat<=122
instance (s:List UInt8):Decidable (Dq s):=by unfold Dq;infer_instance
def D1 (s:List UInt8):Prop:=s≠[]/\s.length<=12/\Dq s
instance (s:List UInt8):Decidable (D1 s):=by unfold D1;infer_instance
def Rl.bound (r:Rl):Prop:=r.kind<0\/3<r.kind\/r.first<0\/7<r.first\/r.thn<0\/7<r.thn\/r.wout < -1\/7<r.wout\/r.wthn<1\/50<r.wthn
def Rl.shape (r:Rl):Prop:=r.first=r.thn\/r.wout=r.first\/r.wout=r.thn
instance (r:Rl):Decidable r.bound:=by unfold Rl.bound;infer_instance
instance (r:Rl):Decidable r.shape:=by unfold Rl.shape;infer_instance
def AY (r:Rl):Nat:=if ¬D1 r.name then 4 else if r.bound then 1 else if r.shape then 3 else 0
theorem Be {r:Rl}:AY r=0↔D1 r.name/\¬ r.bound/\¬ r.shape:=by
 unfold AY;by_cases h1:D1 r.name
 ·by_cases h2:r.bound
  ·simp[h1,h2]
  ·by_cases h3:r.shape<;>simp[h1,h2,h3]
 ·simp[h1]
def kn (k:Int):List UInt8:=if k=1 then[105,116,101,109]else if k=2 then[99,97,115,101]else if k=3 then[112,97,108,108,101,116]else[97,110,121]
theorem Xc (k:Int):(32:UInt8)∉kn k:=by
 unfold kn
 repeat' split
 all_goals decide
theorem V7 {k k':Int} (h1:0<=k) (h2:k<=3) (h3:0<=k') (h4:k'<=3) (h:kn k=kn k'):k=k':=by
 unfold kn at h
 repeat' split at h
 all_goals first|omega|(simp at h;done)
def Sw:List UInt8:=[116,104,101,110]
def JN:List UInt8:=[119,105,116,104,111,117,116]
def LT:List UInt8:=[119,105,116,104,105,110]
def EQ (r:Rl):List (List UInt8):=[r.name++[58],kn r.kind,Bo r.first.toNat,Sw,Bo r.thn.toNat]++((if 0<=r.wout then[JN,Bo r.wout.toNat]else[])++[LT,Bo r.wthn.toNat])
def Lx (c:UInt8):List (List UInt8)->List UInt8
 |[]=>[]
 |[a]=>a
 |a::b::r=>a++c::Lx c (b::r)
theorem S2 {c:UInt8}:∀ (ws:List (List UInt8)),ws≠[]->(∀w∈ws,c∉w)->CI c (Lx c ws)=ws:=by
 intro ws;induction ws with
 |nil=>intro h;exact absurd rfl h
 |cons a r ih=>
  intro _ h;cases r with
  |nil=>exact IM (h a (by simp))
  |cons b r=>
   simp only[Lx];rw[FJ (h a (by simp)),ih (by simp) λw hw=>h w (by simp at hw ⊢;right;exact hw)]
def Ba (r:Rl):List UInt8:=Lx 32 (EQ r)
theorem Je (r:Rl):Ba r=r.name++[58,32]++kn r.kind++[32]++Bo r.first.toNat++[32,116,104,101,110,32]++Bo r.thn.toNat++(if 0<=r.wout then[32,119,105,116,104,111,117,116,32]++Bo r.wout.toNat else[])++([32,119,105,116,104,105,110,32]++Bo r.wthn.toNat):=by
 unfold Ba EQ;by_cases h:0<=r.wout
 ·simp[h,Lx,Sw,JN,LT]
 ·simp[h,Lx,Sw,JN,LT]
theorem O0 {s:List UInt8} (h:Dq s) {c:UInt8} (hc:c.toNat<97\/122<c.toNat):c∉s:=by
 intro hm;have:=h c hm;omega
theorem SR {r:Rl} (h:Dq r.name):∀ w∈EQ r,(32:UInt8)∉w:=by
 have hd:∀ n,(32:UInt8)∉Bo n:=λn=>Du (CB n) (.inl (by decide));intro w hw;unfold EQ at hw;simp only[Yd,X5,AaL,or_false]at hw;rcases hw with(rfl|rfl|rfl|rfl|rfl)|(hw|rfl|rfl)
 ·rw[Yd,not_or];exact⟨O0 h (.inl (by decide)),by decide⟩
 ·exact Xc _
 ·exact hd _
 ·decide
 ·exact hd _
 ·split at hw
  ·simp only[X5,AaL,or_false]at hw;rcases hw with rfl|rfl
   ·decide
   ·exact hd _
  ·simp at hw
 ·decide
 ·exact hd _
theorem Gm {r:Rl} (h:Dq r.name):CI 32 (Ba r)=EQ r:=S2 _ (by simp[EQ]) (SR h)
theorem HZ {r q:Rl} (h1:AY r=0) (h2:AY q=0) (h:Ba r=Ba q):r=q:=by
 rw[Be]at h1 h2;obtain⟨⟨_,_,l1⟩,b1,_⟩:=h1;obtain⟨⟨_,_,l2⟩,b2,_⟩:=h2;have e:=Gm l1;rw[h,Gm l2]at e;unfold Rl.bound at b1 b2;unfold EQ at e;have hdi:∀ {a b:Int},0<=a->0<=b->Bo a.toNat=Bo b.toNat->a=b:=λ{a b} ha hb e=>by have:=Qp e;omega
 cases r with
 |mk n k f t wo wi=>
 cases q with
 |mk n' k' f' t' wo' wi'=>
 dsimp only at *;simp only[Y7,YI,List.cons.injEq,List.append_cancel_right_eq]at e;obtain⟨e1,e2,e3,_,e4,e5⟩:=e;have k1:=V7 oM oM oM oM e2;have k2:=hdi oM oM e3;have k3:=hdi oM oM e4;subst e1 k1 k2 k3;by_cases hw:0<=wo<;>by_cases hw':0<=wo'
 ·simp only[hw,hw',if_true,Y7,YI,List.cons.injEq,and_true,true_and]at e5;have k4:=hdi oM oM e5.1;have k5:=hdi oM oM e5.2;subst k4 k5;rfl
 ·simp only[hw,hw',if_true,if_false,Y7,YI]at e5;have:=congrArg ZT e5;simp at this
 ·simp only[hw,hw',if_true,if_false,Y7,YI]at e5;have:=congrArg ZT e5;simp at this
 ·simp only[hw,hw',if_false,YI,List.cons.injEq,and_true,true_and]at e5;have k5:=hdi oM oM e5;have k4:wo=wo':=oM;subst k4 k5;rfl
theorem Ie {s:List UInt8} {i:Nat} (h:Dq (s.take i)) (hi:i<s.length) (h1:97<=(s.getD i 0).toNat) (h2:(s.getD i 0).toNat<=122):Dq (s.take (i+1)):=by
 intro b hb;rw[Ai 0 hi,Yd,YA]at hb;rcases hb with hb|rfl
 ·exact h b hb
 ·exact⟨h1,h2⟩
theorem Kf {s:List UInt8} (h:Dq s) {i:Nat} (hi:i<s.length):97<=(s.getD i 0).toNat/\(s.getD i 0).toNat<=122:=h _ (As 0 hi)
def S186:Spec:=λargs h K=>∃ s,args=[.string (str s)]/\s.length<=10000000/\K (.bool (decide (D1 s))) h
theorem F186_ok {N:Num} {Γ:Ctx} [Ak Γ]:Sat S186 (SF N Γ F186):=by
 rintro _ h K ⟨s,rfl,hsl,hK⟩;refine An rfl ?_;simp only[F186,Ze,Nat.reduceSub,Nat.reduceAdd];refine Ae ?_;refine Aj (λi:Nat=>[U (.string (str s)),O,O,U (.int .i64 (s.length:Nat)),U (.int .i64 (i:Nat)),O,O]) (λi H=>H=h/\i<=s.length/\Dq (s.take i)) (λi=>s.length-i) 0 (by try simp only[Pf];simp) ⟨rfl,oM,by intro b hb;simp at hb⟩ ?_;rintro i H ⟨rfl,hi,hd⟩;have hwi:=wS i;refine Ae ?_;refine Ad (λc2=>?_) (λc2=>?_);rotate_left
 ·have:i=s.length:=oM;subst this;rw[Z5]at hd;have e:decide (D1 s)=decide (s≠[]/\(s.length:Int)<=12):=decide_eq_decide.2 ⟨λ⟨h1,h2,_⟩=>⟨h1,oM⟩,λ⟨h1,h2⟩=>⟨h1,oM,hd⟩⟩;rw[e]at hK;refine Ae ?_;exact hK
 have A5:i<s.length:=oM;have hb:=(s.getD i 0).toNat_lt;refine Ae ?_;refine Ad (λc3=>?_) (λc3=>?_)
 ·have hn:¬ D1 s:=λhn=>by
   have:=Kf hn.2.2 A5;omega
  rw[decide_eq_false hn]at hK;refine Ae ?_;exact hK
 ·refine Ap @hwi ?_;exact Ag (i+1) oM sE ⟨rfl,oM,Ie hd A5 oM oM⟩
def S170 (N:Num):Spec:=λargs h K=>∃ r,args=[FW r]/\r.name.length<=10000000/\K (Cm N (AY r)) h
theorem F170_ok {N:Num} {Γ:Ctx} [Ak Γ] (H186:Sat S186 (Γ 186)):Sat (S170 N) (SF N Γ F170):=by
 rintro _ h K ⟨r,rfl,hl,hK⟩;refine An rfl ?_;simp only[F170,Ze,Nat.reduceSub,Nat.reduceAdd,FW];unfold AY at hK;refine Ae ?_;refine Aa H186 ⟨r.name,rfl,hl,?_⟩;by_cases hn:D1 r.name;rotate_left
 ·rw[decide_eq_false hn];rw[if_pos hn,Aq]at hK;refine Ae ?_;exact hK
 rw[decide_eq_true hn];rw[if_neg (by simpa using hn)]at hK;refine Ae ?_;refine Ad (λc=>?_) (λc=>?_)
 ·have hb:r.bound:=by unfold Rl.bound;omega
  rw[if_pos hb,Aq]at hK;refine Ae ?_;exact hK
 have hb:¬ r.bound:=by unfold Rl.bound;omega
 rw[if_neg hb]at hK;refine Ae ?_;refine Ad (λc=>?_) (λc=>?_)
 ·have hs:r.shape:=by unfold Rl.shape;omega
  rw[if_pos hs,Aq]at hK;refine Ae ?_;exact hK
 have hs:¬ r.shape:=by unfold Rl.shape;omega
 rw[if_neg hs,AP]at hK;refine Ae ?_;exact hK
def S168:Spec:=λargs h K=>∃ r,args=[FW r]/\K (.int .i64 (AY r:Nat)) h
theorem F168_ok {N:Num} {Γ:Ctx} [Ak Γ]:Sat S168 (SF N Γ F168):=by
 rintro _ h K ⟨r,rfl,hK⟩;refine An rfl ?_;simp only[F168,Ze,Nat.reduceSub,Nat.reduceAdd,FW];unfold AY at hK;refine Ae ?_;refine Ad (λc=>?_) (λc=>?_)
 ·have hn:¬ D1 r.name:=λhn=>by
   have h1:=Zx.2 hn.1;have h2:=hn.2.1;omega
  rw[if_pos hn]at hK;refine Ae ?_;exact hK
 refine Ae ?_;refine Aj (λi:Nat=>[O,U (.agg #[.string (str r.name),.int .i64 r.kind,.int .i64 r.first,.int .i64 r.thn,.int .i64 r.wout,.int .i64 r.wthn]),O,U (.int .i64 (i:Nat)),O,O,O,O,O]) (λi H=>H=h/\i<=r.name.length/\Dq (r.name.take i)) (λi=>r.name.length-i) 0 (by try simp only[Pf];simp) ⟨rfl,oM,by intro b hb;simp at hb⟩ ?_;rintro i H ⟨rfl,hi,hd⟩;have hwi:=wS i;refine Ae ?_;refine Ad (λc2=>?_) (λc2=>?_)
 ·have A5:i<r.name.length:=oM;have hb:=(r.name.getD i 0).toNat_lt;refine Ae ?_;refine Ad (λc3=>?_) (λc3=>?_)
  ·have hn:¬ D1 r.name:=λhn=>by
    have:=Kf hn.2.2 A5;omega
   rw[if_pos hn]at hK;refine Ae ?_;exact hK
  ·refine Ap @hwi ?_;exact Ag (i+1) oM sE ⟨rfl,oM,Ie hd A5 oM oM⟩
 have:i=r.name.length:=oM;subst this;rw[Z5]at hd;have hn:D1 r.name:=⟨λe=>c (.inl (by rw[e];decide)),oM,hd⟩
 rw[if_neg (by simpa using hn)]at hK;refine Ae ?_;refine Ad (λc=>?_) (λc=>?_)
 ·have hb:r.bound:=by unfold Rl.bound;omega
  rw[if_pos hb]at hK;refine Ae ?_;exact hK
 have hb:¬ r.bound:=by unfold Rl.bound;omega
 rw[if_neg hb]at hK;refine Ae ?_;refine Ad (λc=>?_) (λc=>?_)
 ·have hs:r.shape:=by unfold Rl.shape;omega
  rw[if_pos hs]at hK;refine Ae ?_;exact hK
 have hs:¬ r.shape:=by unfold Rl.shape;omega
 rw[if_neg hs]at hK;refine Ae ?_;exact hK
def Fs:Value:=.agg #[.string (str [97,110,121]),.string (str [105,116,101,109]),.string (str [99,97,115,101]),.string (str [112,97,108,108,101,116])]
def S185:Spec:=λargs h K=>args=[]/\K Fs h
theorem F185_ok {N:Num} {Γ:Ctx} [Ak Γ]:Sat S185 (SF N Γ F185):=by
 rintro _ h K ⟨rfl,hK⟩;refine An rfl ?_;simp only[F185,Ze,Nat.reduceSub,Nat.reduceAdd];refine Ae ?_;exact hK
def S187:Spec:=S185
theorem F187_ok {N:Num} {Γ:Ctx} [Ak Γ]:Sat S187 (SF N Γ F187):=by
 rintro _ h K ⟨rfl,hK⟩;refine An rfl ?_;simp only[F187,Ze,Nat.reduceSub,Nat.reduceAdd];refine Ae ?_;exact hK
theorem Ig {k:Int} (h1:0<=k) (h2:k<=3) (h:Heap) (ik:IntKind):A8 h (.vidx 4) (.v Fs) (.v (.int ik k))=U (.v (.string (str (kn k)))):=by
 have:=P3.2.2.2.2.2.1 h 4 #[.string (str [97,110,121]),.string (str [105,116,101,109]),.string (str [99,97,115,101]),.string (str [112,97,108,108,101,116])] ik k h1 oM;unfold Fs;rw[this];have hk:k=0\/k=1\/k=2\/k=3:=oM;rcases hk with rfl|rfl|rfl|rfl<;>rfl
theorem Tn (k:Int):(kn k).length<=6:=by
 unfold kn
 repeat' split
 all_goals decide
def S169 (T:Heap) (N:Num):Spec:=λargs h K=>∃ r,args=[FW r]/\r.name.length<=10000000/\Heap.le T h/\(AY r≠0->∀ h',Heap.le h h'->K (.tuple #[.string (str []),Cm N (AY r)]) h')/\(AY r=0->∀ h',Heap.le h h'->K (.tuple #[.string (str (Ba r)),.nilIface]) h')
theorem F169_ok {N:Num} {Γ:Ctx} [Ak Γ] {T:Heap} (H170:Sat (S170 N) (Γ 170)) (H185:Sat S185 (Γ 185)) (H176:Sat (S176n T) (Γ 176)):Sat (S169 T N) (SF N Γ F169):=by
 rintro _ h K ⟨r,rfl,hl,hT,hK1,hK2⟩;refine An rfl ?_;simp only[F169,Ze,Nat.reduceSub,Nat.reduceAdd,FW];refine Ae ?_;refine Aa H170 ⟨r,rfl,hl,?_⟩;by_cases hf:AY r=0;rotate_left
 ·have hK:=hK1 hf;obtain⟨f,hf'⟩:∃ f,AY r=f+1:=⟨AY r-1,oM⟩
  rw[hf']at hK ⊢;refine Ap @Aq ?_;rw[Aq]at hK;exact hK h (ZX h)
 have hK:=hK2 hf;clear hK1 hK2;rw[hf];have hz:=(Be.1 hf)
 obtain⟨⟨hn1,hn2,hn3⟩,hb,_⟩:=hz;unfold Rl.bound at hb;obtain⟨fn,hfn⟩:∃ n:Nat,r.first=n:=⟨r.first.toNat,oM⟩
 obtain⟨tn,htn⟩:∃ n:Nat,r.thn=n:=⟨r.thn.toNat,oM⟩
 obtain⟨wn,hwn⟩:∃ n:Nat,r.wthn=n:=⟨r.wthn.toNat,oM⟩
 rw[Je]at hK;simp only[hfn,htn,hwn,Aaa]at hK;have hkv:=Ig (k:=r.kind) oM oM;unfold Fs at hkv;have l1:=Tn r.kind;have l2:=AG 19 (n:=fn) oM oM;have l3:=AG 19 (n:=tn) oM oM;have l4:=AG 19 (n:=wn) oM oM;rw[hfn,htn,hwn];refine Ap @AP ?_;refine Aa H185 ⟨rfl,?_⟩;refine Cb (AE (ZX _)) ?_;unfold Fs;refine Ap @hkv ?_;refine Aa H176 ⟨fn,rfl,oM,hT,λh3 hle3=>?_⟩;refine Ae ?_;refine CX (AE hle3) ?_;refine Ae ?_;refine Aa H176 ⟨tn,rfl,oM,hT.trans hle3,λh4 hle4=>?_⟩;have hle04:=hle3.trans hle4;refine Ae ?_;refine CX (AE hle04) ?_;refine Ae ?_;by_cases hw:0<=r.wout
 ·rw[if_pos hw]at hK;obtain⟨on,hon⟩:∃ n:Nat,r.wout=n:=⟨r.wout.toNat,oM⟩
  have l5:=AG 19 (n:=on) oM oM;have hc:(0<=((on:Nat):Int))=True:=by rw[eq_iff_iff];simp
  simp only[hon,Aaa]at hK;rw[hon];refine Ap @hc ?_;refine Aa H176 ⟨on,rfl,oM,hT.trans hle04,λh5 hle5=>?_⟩;refine Ae ?_;refine Aa H176 ⟨wn,rfl,oM,hT.trans (hle04.trans hle5),λh6 hle6=>?_⟩;have:=hK h6 (hle04.trans (hle5.trans hle6));simp only[Zy,Y7,YI]at this;refine Ae ?_;simp only[Zy,Y7,YI];exact this
 ·rw[if_neg hw]at hK;have hc:(0<=r.wout)=False:=by rw[eq_iff_iff];simp;omega
  refine Ap @hc ?_;refine Aa H176 ⟨wn,rfl,oM,hT.trans hle04,λh6 hle6=>?_⟩;have:=hK h6 (hle04.trans hle6);simp only[Zy,Y7,YI]at this;refine Ae ?_;simp only[Zy,Y7,YI];exact this
def S171:Spec:=λargs h K=>∃ r,args=[FW r]/\AY r=0/\∀ h',Heap.le h h'->K (.string (str (Ba r))) h'
theorem F171_ok {N:Num} {Γ:Ctx} [Ak Γ] (H187:Sat S187 (Γ 187)) (H85:Sat S85 (Γ 85)):Sat S171 (SF N Γ F171):=by
 rintro _ h K ⟨r,rfl,hf,hK⟩;refine An rfl ?_;simp only[F171,Ze,Nat.reduceSub,Nat.reduceAdd,FW];have hz:=(Be.1 hf)
 obtain⟨⟨hn1,hn2,hn3⟩,hb,_⟩:=hz;unfold Rl.bound at hb;obtain⟨fn,hfn⟩:∃ n:Nat,r.first=n:=⟨r.first.toNat,oM⟩
 obtain⟨tn,htn⟩:∃ n:Nat,r.thn=n:=⟨r.thn.toNat,oM⟩
 obtain⟨wn,hwn⟩:∃ n:Nat,r.wthn=n:=⟨r.wthn.toNat,oM⟩
 rw[Je]at hK;simp only[hfn,htn,hwn,Aaa]at hK;have hkv:=Ig (k:=r.kind) oM oM;unfold Fs at hkv;have l1:=Tn r.kind;have l2:=AG 19 (n:=fn) oM oM;have l3:=AG 19 (n:=tn) oM oM;have l4:=AG 19 (n:=wn) oM oM;rw[hfn,htn,hwn];refine Ae ?_;refine Aa H187 ⟨rfl,?_⟩;refine Cb (AE (ZX _)) ?_;unfold Fs;refine Ap @hkv ?_;refine Aa H85 ⟨fn,rfl,oM,λh3 hle3=>?_⟩;refine Ae ?_;refine CX (AE hle3) ?_;refine Ae ?_;refine Aa H85 ⟨tn,rfl,oM,λh4 hle4=>?_⟩;have hle04:=hle3.trans hle4;refine Ae ?_;refine CX (AE hle04) ?_;refine Ae ?_;by_cases hw:0<=r.wout
 ·rw[if_pos hw]at hK;obtain⟨on,hon⟩:∃ n:Nat,r.wout=n:=⟨r.wout.toNat,oM⟩
  have l5:=AG 19 (n:=on) oM oM;have hc:(0<=((on:Nat):Int))=True:=by rw[eq_iff_iff];simp
  simp only[hon,Aaa]at hK;rw[hon];refine Ap @hc ?_;refine Aa H85 ⟨on,rfl,oM,λh5 hle5=>?_⟩;refine Ae ?_;refine Aa H85 ⟨wn,rfl,oM,λh6 hle6=>?_⟩;have:=hK h6 (hle04.trans (hle5.trans hle6));simp only[Zy,Y7,YI]at this;refine Ae ?_;simp only[Zy,Y7,YI];exact this
 ·rw[if_neg hw]at hK;have hc:(0<=r.wout)=False:=by rw[eq_iff_iff];simp;omega
  refine Ap @hc ?_;refine Aa H85 ⟨wn,rfl,oM,λh6 hle6=>?_⟩;have:=hK h6 (hle04.trans hle6);simp only[Zy,Y7,YI]at this;refine Ae ?_;simp only[Zy,Y7,YI];exact this
def S190 (T:Heap):Spec:=λargs h K=>∃ s,args=[.string (str s)]/\s.length<=1000000/\Heap.le T h/\∀ h' (z:Int) e,Heap.le h h'->(∀n,s=Bo n->n<=1000000000000000->z=(n:Nat)/\e=.nilIface)->(e=.nilIface\/∃ t a,e=.iface t a)->K (.tuple #[.int .i64 z,e]) h'
def Fb (c:UInt8) (s:List UInt8):List UInt8:=if s.getLast?=U c then s.dropLast else s
def S191:Spec:=λargs h K=>∃ s,∃c:UInt8,args=[.string (str s),.string (str [c])]/\s.length<=1000000/\∀ h',Heap.le h h'->K (.string (str (Fb c s))) h'
theorem Oi (c:UInt8) (s:List UInt8):Fb c (s++[c])=s:=by simp[Fb]
theorem QC (c:UInt8) (s:List UInt8):(Fb c s).length<=s.length:=by unfold Fb;split<;>simp
def S188:Spec:=λargs h K=>∃ g b5 b3 v w,∃k:Nat,args=[.pointer (U ⟨b5,0,O⟩),.pointer (U ⟨b3,0,O⟩)]/\Heap.le g h/\g b5=O/\g.cell ⟨b3,0,O⟩=U v/\Sl AB g v w/\w.length<=10000000/\Ah h ⟨b5,0,O⟩ [.int .i64 (k:Nat)]/\k<=w.length /\
 ∀ h',IF b5 h h'->Ah h' ⟨b5,0,O⟩ [.int .i64 (min (k+1) w.length:Nat)]->K (.string (str (w.getD k []))) h'
theorem F188_ok {N:Num} {Γ:Ctx} [Ak Γ]:Sat S188 (SF N Γ F188):=by
 rintro _ h K ⟨g,b5,b3,v,w,k,rfl,hg,hgb,hc,hS,hwl,ho,hk,hK⟩;refine An rfl ?_;simp only[F188,Ze,Nat.reduceSub,Nat.reduceAdd];have C5:h.cell ⟨b5,0,O⟩=U (.int .i64 (k:Nat)):=ho.rules.2.1 (by simp);have C3:=Ce hg hc;have R:=(hS.le hg).rules1 (λt=>.string (str t)) (λ_=>rfl) default;refine CS @C5 @C3 @R ?_;refine Ad (λc=>?_) (λc=>?_)
 ·have hkl:k=w.length:=oM;have e1:min (k+1) w.length=k:=oM;have e2:w.getD k []=[]:=by rw[Zp,Aa1 oM];rfl
  rw[e1,e2]at hK;refine Ae ?_;exact hK h (λx _=>rfl) ho
 have hk2:k<w.length:=oM;have hw1:=wS k;have hw2:IntKind.i64.wrap (((k+1:Nat):Int)-1)=(k:Nat):=wN;refine AH @C5 @hw1 ?_;refine Br ho 0 1 rfl rfl oM (by simp) λo hob _=>?_;have hob2:Ah (h.set b5 o) ⟨b5,0,O⟩ [.int .i64 (k+1:Nat)]:=hob h rfl;have hbut:IF b5 h (h.set b5 o):=λx hx=>ZW hx;have hg2:Heap.le g (h.set b5 o):=IF.le hg hgb hbut;have e1:min (k+1) w.length=k+1:=oM;rw[e1]at hK;generalize h.set b5 o=h2 at *;have D5:h2.cell ⟨b5,0,O⟩=U (.int .i64 (k+1:Nat)):=hob2.rules.2.1 (by simp);have D3:=Ce hg2 hc;have R2:=(hS.le hg2).rules1 (λt=>.string (str t)) (λ_=>rfl) default;have hd:w.getD k default=w.getD k []:=rfl;refine Le @D5 @D3 @R2 @hw2 @hd ?_;exact hK h2 hbut hob2
def S189 (T:Heap) (N:Num):Spec:=λargs h K=>∃ g b6 b5 b3 v w,∃k:Nat,args=[.pointer (U ⟨b6,0,O⟩)]/\Heap.le g h/\g b5=O/\g.cell ⟨b6,0,O⟩=U (.func (.func (N.fid 188)) #[] #[.pointer (U ⟨b5,0,O⟩),.pointer (U ⟨b3,0,O⟩)])/\g.cell ⟨b3,0,O⟩=U v/\Sl AB g v w/\w.length<=10000000/\(∀x∈w,x.length<=1000000)/\Ah h ⟨b5,0,O⟩ [.int .i64 (k:Nat)]/\k<=w.length/\Heap.le T g /\
 ∀ h' (z:Int),Heap.le g h'->Ah h' ⟨b5,0,O⟩ [.int .i64 (min (k+1) w.length:Nat)]->(∀n,w.getD k []=Bo n->n<=1000000000000000->z=(n:Nat))->K (.int .i64 z) h'
theorem F189_ok {N:Num} {Γ:Ctx} [Ak Γ] {T:Heap} (H188:Sat S188 (Γ 188)) (H190:Sat (S190 T) (Γ 190)):Sat (S189 T N) (SF N Γ F189):=by
 rintro _ h K ⟨g,b6,b5,b3,v,w,k,rfl,hg,hgb,hc6,hc,hS,hwl,hwx,ho,hk,hT,hK⟩;refine An rfl ?_;simp only[F189,Ze,Nat.reduceSub,Nat.reduceAdd];have C6:=Ce hg hc6;have hwk:(w.getD k []).length<=1000000:=by
  by_cases hk2:k<w.length
  ·exact hwx _ (As [] hk2)
  ·rw[Zp,Aa1 oM];simp
 refine Ap @C6 ?_;refine Ea H188 ⟨g,b5,b3,v,w,k,rfl,hg,hgb,hc,hS,hwl,ho,hk,λh1 hbut ho1=>?_⟩;have hg1:Heap.le g h1:=IF.le hg hgb hbut;refine Ae ?_;refine Aa H190 ⟨w.getD k [],rfl,hwk,hT.trans hg1,λh2 z e hle2 hz he=>?_⟩;rcases he with rfl|⟨t,a,rfl⟩
 ·refine Ae ?_;exact hK h2 z (hg1.trans hle2) (ho1.le hle2) λn h1 h2=>(hz n h1 h2).1
 ·refine Ae ?_;refine hK h2 (-2) (hg1.trans hle2) (ho1.le hle2) λn h1 h2=>?_;have:=(hz n h1 h2).2;cases this
def BD (s:List UInt8):Nat->Int
 |0=>-1
 |i+1=>if kn (i:Nat)=s then(i:Nat)else BD s i
theorem Nj {k:Int} (h1:0<=k) (h2:k<=3):BD (kn k) 4=k:=by
 have hk:k=0\/k=1\/k=2\/k=3:=oM;rcases hk with rfl|rfl|rfl|rfl<;>rfl
theorem Nt (w:List (List UInt8)) (k:Nat):w.getD (min k w.length) []=w.getD k []:=by
 by_cases h:k<=w.length
 ·rw[AaQ h]
 ·rw[Nat.min_eq_right oM,Zp,Zp,Aa1 oM,Aa1 oM]
theorem Na (k l:Nat):min (min k l+1) l=min (k+1) l:=oM
structure T7 (N:Num) (T g H:Heap) (b6 b5 b3:Nat) (v:Value) (w:List (List UInt8)) (k:Nat):Prop where
 hg:Heap.le g H
 hgb:g b5=O
 c6:g.cell ⟨b6,0,O⟩=U (.func (.func (N.fid 188)) #[] #[.pointer (U ⟨b5,0,O⟩),.pointer (U ⟨b3,0,O⟩)])
 c3:g.cell ⟨b3,0,O⟩=U v
 S:Sl AB g v w
 wl:w.length<=10000000
 wx:∀ x∈w,x.length<=1000000
 o:Ah H ⟨b5,0,O⟩ [.int .i64 (min k w.length:Nat)]
 hT:Heap.le T g
section
variable {N:Num} {Γ:Ctx} {T g H H':Heap} {b6 b5 b3:Nat} {v:Value} {w:List (List UInt8)} {k:Nat}
theorem T7.more (p:T7 N T g H b6 b5 b3 v w k) (hl:Heap.le H H'):T7 N T g H' b6 b5 b3 v w k:={ p with hg:=p.hg.trans hl,o:=p.o.le hl }
theorem T7.f6 (p:T7 N T g H b6 b5 b3 v w k):H.cell ⟨b6,0,O⟩=U (.func (.func (N.fid 188)) #[] #[.pointer (U ⟨b5,0,O⟩),.pointer (U ⟨b3,0,O⟩)]):=Ce p.hg p.c6
theorem Kk (p:T7 N T g H b6 b5 b3 v w k) (H188:Sat S188 (Γ 188)) {K:Value->Heap->Prop} (hK:∀ h',T7 N T g h' b6 b5 b3 v w (k+1)->K (.string (str (w.getD k []))) h'):By N Γ .cal [.func (.func (N.fid 188)) #[] #[.pointer (U ⟨b5,0,O⟩),.pointer (U ⟨b3,0,O⟩)]] H K:=by
 refine Ea H188 ⟨g,b5,b3,v,w,min k w.length,rfl,p.hg,p.hgb,p.c3,p.S,p.wl,p.o,Abt _ _,λh1 hbut ho1=>?_⟩;rw[Nt];rw[Na]at ho1;exact hK h1 { p with hg:=IF.le p.hg p.hgb hbut,o:=ho1 }
theorem Nn (p:T7 N T g H b6 b5 b3 v w k) (H189:Sat (S189 T N) (Γ 189)) {K:Value->Heap->Prop} (hK:∀ h' (z:Int),T7 N T g h' b6 b5 b3 v w (k+1)->(∀n,w.getD k []=Bo n->n<=1000000000000000->z=(n:Nat))->K (.int .i64 z) h'):By N Γ .cal [.func (.func (N.fid 189)) #[] #[.pointer (U ⟨b6,0,O⟩)]] H K:=by
 refine Ea H189 ⟨g,b6,b5,b3,v,w,min k w.length,rfl,p.hg,p.hgb,p.c6,p.c3,p.S,p.wl,p.wx,p.o,Abt _ _,p.hT,λh1 z hg1 ho1 hz=>?_⟩;rw[Nt]at hz;rw[Na]at ho1;exact hK h1 z { p with hg:=hg1,o:=ho1 } hz
end
theorem Lh {r:Rl} {s:List UInt8} (h:AY r=0) (hs:Ba r=s):CI 32 s=EQ r:=by
 subst hs;exact Gm (Be.1 h).1.2.2
def S172 (T:Heap) (N:Num):Spec:=λargs h K=>∃ s,args=[.string (str s)]/\s.length<=1000000/\Heap.le T h /\
 (∀r:Rl,AY r=0->Ba r=s->∀ h',Heap.le h h'->K (.tuple #[FW r,.nilIface]) h')/\((∀r:Rl,AY r=0->Ba r≠s)->∀ h',Heap.le h h'->K (.tuple #[FW ⟨[],0,0,0,0,0⟩,Cm N 4]) h')
theorem F172_ok {N:Num} {Γ:Ctx} [Ak Γ] {T:Heap} (H181:Sat (S181 T) (Γ 181)) (H188:Sat S188 (Γ 188)) (H189:Sat (S189 T N) (Γ 189)) (H191:Sat S191 (Γ 191)) (H185:Sat S185 (Γ 185)) (H169:Sat (S169 T N) (Γ 169)):Sat (S172 T N) (SF N Γ F172):=by
 rintro _ h K ⟨s,rfl,hsl,hT,hK1,hK2⟩;simp only[Aq,FW]at hK1 hK2;refine An rfl ?_;simp only[F172,Ze,Nat.reduceSub,Nat.reduceAdd];have hrd:∀ r:Rl,AY r=0->Ba r=s->_:=λr h1 h2=>Lh h1 h2;refine Ae ?_;refine Aa H181 ⟨s,32,rfl,hsl,hT,λv h1 ho1=>?_⟩;have hle1:=ho1.1;have hS:=ho1.sl (enc:=AB) (λ_=>rfl);have hwm:=B6 (c:=32) (s:=s);have hwl:=JC 32 s;obtain⟨w,hw⟩:∃ w,w=CI 32 s:=⟨_,rfl⟩
 rw[<-hw]at hS hwm hwl hrd;have O1:=hS.one;clear ho1;refine Ae ?_;refine AO λb3 h2 hle2 hb3 ho3=>?_;refine AH O1.1 O1.2 ?_;have ho3':Ah h2 ⟨b3,0,O⟩ [.slice O 0 0]:=ho3.le (Au h1 h2);refine Br ho3' 0 1 (by rw[O1.2];rfl) (by rw[O1.2];simp[O1.1]) oM (by simp) λo3 hob3 _=>?_;have q3:Ah (h2.set b3 o3) ⟨b3,0,O⟩ [v]:=by have:=hob3 h2 rfl;simpa[O1.2]using this
 have hle3:Heap.le h1 (h2.set b3 o3):=IF.le (b:=b3) hle2 hb3 λx hx=>ZW hx;generalize h2.set b3 o3=h3 at *;clear ho3 ho3' hob3;refine Ae ?_;refine AO λb5 h4 hle4 hb5 ho5=>?_;refine Ae ?_;refine Br (ho5.le (Au h3 h4)) 0 1 rfl rfl oM (Yq 1) λo5 hob5 _=>?_;have q5:Ah (h4.set b5 o5) ⟨b5,0,O⟩ [.int .i64 0]:=hob5 h4 rfl;have hle5:Heap.le h3 (h4.set b5 o5):=IF.le (b:=b5) hle4 hb5 λx hx=>ZW hx;generalize h4.set b5 o5=h5 at *;clear ho5 hob5;refine Ae ?_;refine AO λb6 h6 hle6 hb6 ho6=>?_;refine Ae ?_;refine Br (ho6.le (Au h5 h6)) 0 1 rfl rfl oM (Yq 1) λo6 hob6 _=>?_;have q6:Ah (h6.set b6 o6) ⟨b6,0,O⟩ [.func (.func (N.fid 188)) #[] #[.pointer (U ⟨b5,0,O⟩),.pointer (U ⟨b3,0,O⟩)]]:=hob6 h6 rfl;have hle7:Heap.le h5 (h6.set b6 o6):=IF.le (b:=b6) hle6 hb6 λx hx=>ZW hx;generalize h6.set b6 o6=h7 at *;clear ho6 hob6;obtain⟨g,hge⟩:∃ g:Heap,g=λx=>if x=b5 then O else h7 x:=⟨_,rfl⟩
 have hgH:Heap.le g h7:=by
  intro x o hx;rw[hge]at hx;dsimp only at hx;split at hx
  ·cases hx
  ·exact hx
 have h35:b3≠b5:=by
  rintro rfl;obtain⟨_,c,t,q,_⟩:=q3;dsimp only at q;rw[q]at hb5;cases hb5
 have h65:b6≠b5:=by
  rintro rfl;obtain⟨_,c,t,q,_⟩:=q5;dsimp only at q;rw[q]at hb6;cases hb6
 have hlow:∀ x:Heap,Heap.le x h3->x b5=O->Heap.le x g:=λx hx hn y o hy=>by
  rw[hge];dsimp only;rw[if_neg (by rintro rfl;rw[hn]at hy;cases hy)];exact hle7 y o (hle5 y o (hx y o hy))
 have hg1:Heap.le h1 g:=hlow h1 hle3 (AC hle3 b5 hb5);have hg3:Heap.le h3 g:=hlow h3 (ZX h3) hb5;have hgh:Heap.le h g:=hle1.trans hg1;have p0:T7 N T g h7 b6 b5 b3 v w 0:=by
  refine⟨hgH,by rw[hge];simp,?_,(q3.le hg3).rules.2.1 (by simp),hS.le hg1,oM,λx hx=>YU (hwm x hx) hsl,?_,hT.trans hgh⟩
  ·have:=q6.rules.2.1 (by simp);rw[hge];simpa[Heap.cell,Heap.cells,h65]using this
  ·have:=q5.le hle7;simpa using this
 clear hS hle1 hle2 hle3 hle4 hle5 hle6 hle7 q3 q5 q6 hlow hg1 hg3 hgH h35 h65 hge;have e6:=p0.f6;refine Ap @e6 ?_;refine Kk p0 H188 λh8 p1=>?_;have hw0:=p0.wx;have hwk:∀ k,(w.getD k []).length<=1000000:=λk=>by
  by_cases hk2:k<w.length
  ·exact hw0 _ (As [] hk2)
  ·rw[Zp,Aa1 oM];simp
 have htl:=QC 58 (w.getD 0 []);have hwk0:=hwk 0;refine Ae ?_;refine Aa H191 ⟨w.getD 0 [],58,rfl,hwk 0,λh9 hle9=>?_⟩;have p1':=p1.more hle9;have e6:=p1'.f6;refine Ap @e6 ?_;refine Kk p1' H188 λh10 p2=>?_;refine Ae ?_;refine Aa H185 ⟨rfl,?_⟩;have hkv:=λ(i:Nat) (hi:i<4) (H:Heap) (ik:IntKind)=>Ig (k:=(i:Int)) oM oM H ik;unfold Fs at hkv ⊢;refine Ae ?_;refine AA (λenv H=>T7 N T g H b6 b5 b3 v w 2/\env=[U (.string (str s)),U (.agg #[.string (str []),.int .i64 0,.int .i64 0,.int .i64 0,.int .i64 0,.int .i64 0]),O,O,U (.agg #[.string (str (Fb 58 (w.getD 0 []))),.int .i64 (BD (w.getD 1 []) 4),.int .i64 0,.int .i64 0,.int .i64 (-1),.int .i64 0]),O,U (.pointer (U ⟨b6,0,O⟩)),U (.func (.func (N.fid 189)) #[] #[.pointer (U ⟨b6,0,O⟩)]),O,O,O,O,O,O,O,O,O,O,O,O,O,O,O,O,O,O,O,O,O,O,O,O]) ?_ ?_;rotate_left
 ·refine Aj (λi:Nat=>[U (.string (str s)),U (.agg #[.string (str []),.int .i64 0,.int .i64 0,.int .i64 0,.int .i64 0,.int .i64 0]),O,O,U (.agg #[.string (str (Fb 58 (w.getD 0 []))),.int .i64 (BD (w.getD 1 []) i),.int .i64 0,.int .i64 0,.int .i64 (-1),.int .i64 0]),O,U (.pointer (U ⟨b6,0,O⟩)),U (.func (.func (N.fid 189)) #[] #[.pointer (U ⟨b6,0,O⟩)]),U (.string (str (w.getD 1 []))),O,O,O,O,O,O,O,O,O,O,U (.agg #[.string (str [97,110,121]),.string (str [105,116,101,109]),.string (str [99,97,115,101]),.string (str [112,97,108,108,101,116])]),U (.int .i64 (i:Nat)),O,O,O,O,O,O,O,O,O,O,O]) (λi H=>T7 N T g H b6 b5 b3 v w 2/\i<=4) (λi=>4-i) 0 (by try simp only[Pf];simp[BD]) ⟨p2,oM⟩ ?_;clear p0 p1 p1' p2;rintro i H ⟨p,hi⟩;have hwi:=wS i;refine Ae ?_;refine Ad (λc=>?_) (λc=>?_);rotate_left
  ·have:i=4:=oM;subst this;refine Ae ?_;exact Ar _ sE ⟨p,rfl⟩
  have A5:i<4:=oM;have hki:=hkv i A5;refine Ap @hki ?_;refine Ad (λc2=>?_) (λc2=>?_)
  ·have e:BD (w.getD 1 []) (i+1)=(i:Nat):=by simp only[BD,if_pos c2]
   refine Ap @hwi ?_;exact Ag (i+1) oM (by rw[e];try simp only[Pf]) ⟨p,oM⟩
  ·have e:BD (w.getD 1 []) (i+1)=BD (w.getD 1 []) i:=by simp only[BD,if_neg c2]
   refine Ap @hwi ?_;exact Ag (i+1) oM (by rw[e];try simp only[Pf]) ⟨p,oM⟩
 clear p0 p1 p1' p2;rintro env H ⟨p2,rfl⟩;refine Ae ?_;refine Nn p2 H189 λh11 z2 p3 hz2=>?_;have e6:=p3.f6;refine Ap @e6 ?_;refine Kk p3 H188 λh12 p4=>?_;refine Ae ?_;refine Nn p4 H189 λh13 z4 p5 hz4=>?_;have e6:=p5.f6;refine Ap @e6 ?_;refine Kk p5 H188 λh14 p6=>?_;refine Ae ?_;have fin:∀ (wo wi:Int) (H:Heap),Heap.le g H->(∀r:Rl,AY r=0->Ba r=s->wo=r.wout/\wi=r.wthn)->∀ r:Rl,AY r=0->Ba r=s->r=⟨Fb 58 (w.getD 0 []),BD (w.getD 1 []) 4,z2,z4,wo,wi⟩:=by
  intro wo wi H hH hwo r hr ht;obtain⟨e1,e2⟩:=hwo r hr ht;have hww:=hrd r hr ht;obtain⟨⟨_,_,_⟩,hb,_⟩:=Be.1 hr;unfold Rl.bound at hb;rw[hww]at hz2 hz4 ⊢;simp only[EQ,Y7,YI,Z6,Z8]at hz2 hz4 ⊢;have f2:=hz2 _ rfl oM;have f4:=hz4 _ rfl oM;have g2:z2=r.first:=oM;have g4:z4=r.thn:=oM;rw[Oi,Nj oM oM,e1,e2,g2,g4]
 refine Ad (λc5=>?_) (λc5=>?_)
 ·refine Ae ?_;refine Nn p6 H189 λh15 z6 p7 hz6=>?_;have e6:=p7.f6;refine Ap @e6 ?_;refine Kk p7 H188 λh16 p8=>?_;refine Ae ?_;refine Nn p8 H189 λh17 z8 p9 hz8=>?_;have hfin:=fin z6 z8 h17 p9.hg λr hr ht=>by
   have hww:=hrd r hr ht;obtain⟨⟨_,_,_⟩,hb,_⟩:=Be.1 hr;unfold Rl.bound at hb;rw[hww]at hz6 hz8 c5;by_cases hwo:0<=r.wout
   ·simp only[EQ,if_pos hwo,Y7,YI,Z6,Z8]at hz6 hz8;have f6:=hz6 _ rfl oM;have f8:=hz8 _ rfl oM;omega
   ·simp only[EQ,if_neg hwo,Y7,YI,Z6,Z8]at c5;exact absurd c5 (by decide)
  refine Ae ?_;refine Aa H169 ⟨⟨Fb 58 (w.getD 0 []),BD (w.getD 1 []) 4,z2,z4,z6,z8⟩,rfl,dM,p9.hT.trans p9.hg,λhb h18 hle18=>?_,λhb h18 hle18=>?_⟩
  ·obtain⟨f,hf⟩:∃ f,AY ⟨Fb 58 (w.getD 0 []),BD (w.getD 1 []) 4,z2,z4,z6,z8⟩=f+1:=Aa2 hb;rw[hf];refine Ap @Aq ?_;refine hK2 (λr hr ht=>?_) h18 (hgh.trans (p9.hg.trans hle18));rw[hfin r hr ht]at hr;exact hb hr
  ·refine Ae ?_;refine Ad (λc9=>?_) (λc9=>?_)
   ·refine Ae ?_;refine hK2 (λr hr ht=>?_) h18 (hgh.trans (p9.hg.trans hle18));rw[hfin r hr ht]at ht;exact c9 ht
   ·refine Ae ?_;exact hK1 _ hb (Decidable.not_not.1 c9) h18 (hgh.trans (p9.hg.trans hle18))
 ·refine Ae ?_;refine Nn p6 H189 λh15 z6 p7 hz6=>?_;have hfin:=fin (-1) z6 h15 p7.hg λr hr ht=>by
   have hww:=hrd r hr ht;obtain⟨⟨_,_,_⟩,hb,_⟩:=Be.1 hr;unfold Rl.bound at hb;rw[hww]at hz6 c5;by_cases hwo:0<=r.wout
   ·simp only[EQ,if_pos hwo,Y7,YI,Z6,Z8]at c5;exact absurd rfl c5
   ·simp only[EQ,if_neg hwo,Y7,YI,Z6,Z8]at hz6;have f6:=hz6 _ rfl oM;omega
  refine Ae ?_;refine Aa H169 ⟨⟨Fb 58 (w.getD 0 []),BD (w.getD 1 []) 4,z2,z4,-1,z6⟩,rfl,dM,p7.hT.trans p7.hg,λhb h18 hle18=>?_,λhb h18 hle18=>?_⟩
  ·obtain⟨f,hf⟩:∃ f,AY ⟨Fb 58 (w.getD 0 []),BD (w.getD 1 []) 4,z2,z4,-1,z6⟩=f+1:=Aa2 hb;rw[hf];refine Ap @Aq ?_;refine hK2 (λr hr ht=>?_) h18 (hgh.trans (p7.hg.trans hle18));rw[hfin r hr ht]at hr;exact hb hr
  ·refine Ae ?_;refine Ad (λc9=>?_) (λc9=>?_)
   ·refine Ae ?_;refine hK2 (λr hr ht=>?_) h18 (hgh.trans (p7.hg.trans hle18));rw[hfin r hr ht]at ht;exact c9 ht
   ·refine Ae ?_;exact hK1 _ hb (Decidable.not_not.1 c9) h18 (hgh.trans (p7.hg.trans hle18))
end Go.Cw
namespace Go.Cw
open Go
theorem Hb {n:Nat} (h:n<10^9):CJ (Bo n):=⟨AG 9 h oM,CB n⟩
def S173:Spec:=λargs h K=>∃ s,args=[.string (str s)]/\s.length<=1000000 /\
 (∀r:Rl,AY r=0->Ba r=s->∀ h',Heap.le h h'->K (.tuple #[FW r,.bool true]) h')/\((∀r:Rl,AY r=0->Ba r≠s)->∀ h',Heap.le h h'->K (.tuple #[FW ⟨[],0,0,0,0,0⟩,.bool false]) h')
theorem F173_ok {N:Num} {Γ:Ctx} [Ak Γ] (H183:Sat S183 (Γ 183)) (H187:Sat S187 (Γ 187)) (H184:Sat S184 (Γ 184)) (H168:Sat S168 (Γ 168)) (H171:Sat S171 (Γ 171)):Sat S173 (SF N Γ F173):=by
 rintro _ h K ⟨s,rfl,hsl,hK1,hK2⟩;simp only[FW]at hK1 hK2;refine An rfl ?_;simp only[F173,Ze,Nat.reduceSub,Nat.reduceAdd];have hrd:∀ r:Rl,AY r=0->Ba r=s->_:=λr h1 h2=>Lh h1 h2;have h32:((32:UInt8).toNat:Int)=32:=rfl;refine Ae ?_;refine Aa H183 ⟨s,32,rfl,hsl,λv h1 ho1=>?_⟩;have hle1:=ho1.1;have hS:=ho1.sl (enc:=AB) (λ_=>rfl);have hwm:=B6 (c:=32) (s:=s);have hwl:=JC 32 s;have hne:=Zx.2 (J2 32 s);obtain⟨w,hw⟩:∃ w,w=CI 32 s:=⟨_,rfl⟩
 rw[<-hw]at hS hwm hwl hrd hne;have O1:=hS.one;clear ho1;have hread:∀ r:Rl,AY r=0->Ba r=s->(w.length=if 0<=r.wout then 9 else 7)/\w.getD 0 []=r.name++[58]/\w.getD 1 []=kn r.kind/\w.getD 2 []=Bo r.first.toNat/\w.getD 4 []=Bo r.thn.toNat/\w.getD (w.length-1) []=Bo r.wthn.toNat/\(0<=r.wout->w.getD 6 []=Bo r.wout.toNat)/\0<=r.kind/\r.kind<=3/\0<=r.first/\r.first<=7/\0<=r.thn/\r.thn<=7/\-1<=r.wout/\r.wout<=7/\1<=r.wthn/\r.wthn<=50:=by
  intro r hr ht;have hww:=hrd r hr ht;obtain⟨⟨_,_,_⟩,hb,_⟩:=Be.1 hr;unfold Rl.bound at hb;rw[hww];by_cases hwo:0<=r.wout
  ·simp only[EQ,if_pos hwo];exact⟨rfl,rfl,rfl,rfl,rfl,rfl,λ_=>rfl,oM⟩
  ·simp only[EQ,if_neg hwo];exact⟨rfl,rfl,rfl,rfl,rfl,rfl,λh=>absurd h hwo,oM⟩
 have hwk:∀ k,(w.getD k []).length<=1000000:=λk=>by
  by_cases hk2:k<w.length
  ·exact YU (hwm _ (As [] hk2)) hsl
  ·rw[Zp,Aa1 oM];simp
 have hdd:∀ k,w.getD k default=w.getD k []:=λk=>rfl;have hwk0:=hwk 0;have R:=hS.rules1 (λt=>.string (str t)) (λ_=>rfl) default;refine AH @R @hdd ?_;refine Ad (λc1=>?_) (λc1=>?_)
 ·refine Ae ?_;refine hK2 (λr hr ht=>?_) h1 hle1;obtain⟨q1,q2,_⟩:=hread r hr ht;have:(w.getD 0 []).length≠0:=by rw[q2];simp
  split at q1<;>omega
 have hlen:w.length=7\/w.length=9:=oM;have hw0:(w.getD 0 []).length≠0:=oM;have hws:IntKind.i64.wrap (((w.getD 0 []).length:Nat)-1)=(((w.getD 0 []).length-1:Nat):Int):=wN;have htk:((w.getD 0 []).take ((w.getD 0 []).length-1)).drop 0=(w.getD 0 []).dropLast:=by rw[List.drop_zero,List.dropLast_eq_take]
 refine Ek @R @hdd @hws @htk ?_;refine AO λb4 h2 hle2 hb4 ho4=>?_;refine Cb (AE hle2) ?_;refine Ae ?_;refine Br (ho4.le (Au h1 h2)) 0 6 rfl rfl oM (Yq 6) λo hob _=>?_;have ho5:Ah (h2.set b4 o) ⟨b4,0,O⟩ [.string (str (w.getD 0 []).dropLast),.int .i64 (-1),.int .i64 0,.int .i64 0,.int .i64 (-1),.int .i64 0]:=hob h2 rfl;have hle3:Heap.le h1 (h2.set b4 o):=IF.le (b:=b4) hle2 hb4 λx hx=>ZW hx;generalize h2.set b4 o=h3 at *;clear ho4 hob;have hkv:=λ(i:Nat) (hi:i<4) (H:Heap) (ik:IntKind)=>Ig (k:=(i:Int)) oM oM H ik;unfold Fs at hkv;refine Ae ?_;refine AA (λenv H=>Heap.le h1 H/\Ah H ⟨b4,0,O⟩ [.string (str (w.getD 0 []).dropLast),.int .i64 (BD (w.getD 1 []) 4),.int .i64 0,.int .i64 0,.int .i64 (-1),.int .i64 0]/\env=[U (.string (str s)),U (.agg #[.string (str []),.int .i64 0,.int .i64 0,.int .i64 0,.int .i64 0,.int .i64 0]),O,U (v),U (.pointer (U ⟨b4,0,O⟩)),O,O,O,O,O,O,O,O,O,O,O,O,O,O,O,O,O,O,O,O,O,O,O,O,O,O,O,O]) ?_ ?_;rotate_left
 ·refine Aj (λi:Nat=>[U (.string (str s)),U (.agg #[.string (str []),.int .i64 0,.int .i64 0,.int .i64 0,.int .i64 0,.int .i64 0]),O,U (v),U (.pointer (U ⟨b4,0,O⟩)),U (.int .i64 (i:Nat)),O,O,O,O,O,O,O,O,O,O,O,O,O,O,O,O,O,O,O,O,O,O,O,O,O,O,O]) (λi H=>i<=4/\Heap.le h1 H/\Ah H ⟨b4,0,O⟩ [.string (str (w.getD 0 []).dropLast),.int .i64 (BD (w.getD 1 []) i),.int .i64 0,.int .i64 0,.int .i64 (-1),.int .i64 0]) (λi=>4-i) 0 (by try simp only[Pf];simp) ⟨oM,hle3,ho5⟩ ?_;clear ho5 hle3 hle2;rintro i H ⟨hi,hle,ho⟩;have hwi:=wS i;have RH:=(hS.le hle).rules1 (λt=>.string (str t)) (λ_=>rfl) default;refine Ae ?_;refine Ad (λc=>?_) (λc=>?_);rotate_left
  ·have:i=4:=oM;subst this;refine Ae ?_;exact Ar _ sE ⟨hle,ho,rfl⟩
  have A5:i<4:=oM;have hki:=hkv i A5;refine AH @RH @hdd ?_;refine Aa H187 ⟨rfl,?_⟩;refine Cb (AE (ZX _)) ?_;unfold Fs;refine Ap @hki ?_;refine Ad (λc2=>?_) (λc2=>?_)
  ·have e:BD (w.getD 1 []) (i+1)=(i:Nat):=by simp only[BD,if_pos c2]
   refine Ae ?_;refine Br ho 1 1 rfl rfl oM (by simp) λo hob _=>?_;have hob2:Ah (H.set b4 o) ⟨b4,0,O⟩ [.string (str (w.getD 0 []).dropLast),.int .i64 (BD (w.getD 1 []) (i+1)),.int .i64 0,.int .i64 0,.int .i64 (-1),.int .i64 0]:=by rw[e];exact hob H rfl
   have hle4:Heap.le h1 (H.set b4 o):=hle.over hb4 o;generalize H.set b4 o=H2 at *;refine Ap @hwi ?_;exact Ag (i+1) oM sE ⟨oM,hle4,hob2⟩
  ·have e:BD (w.getD 1 []) (i+1)=BD (w.getD 1 []) i:=by simp only[BD,if_neg c2]
   refine Ap @hwi ?_;exact Ag (i+1) oM sE ⟨oM,hle,by rw[e];exact ho⟩
 clear ho5 hle3 hle2;rintro env H ⟨hle,ho,rfl⟩;have RH:=(hS.le hle).rules1 (λt=>.string (str t)) (λ_=>rfl) default;have hwn:IntKind.i64.wrap ((w.length:Nat)-1)=((w.length-1:Nat):Int):=wN;refine AH @RH @hdd ?_;refine Aa H184 ⟨w.getD 2 [],rfl,by have:=hwk 2;omega,?_⟩;refine AH @RH @hdd ?_;refine Aa H184 ⟨w.getD 4 [],rfl,by have:=hwk 4;omega,?_⟩;refine CS @RH @hdd @hwn ?_;refine Aa H184 ⟨w.getD (w.length-1) [],rfl,by have:=hwk (w.length-1);omega,?_⟩;by_cases hfig:(CJ (w.getD 2 [])/\w.getD 2 []≠[])/\(CJ (w.getD 4 [])/\w.getD 4 []≠[])/\(CJ (w.getD (w.length-1) [])/\w.getD (w.length-1) []≠[])
 rotate_left
 ·have hno:∀ r:Rl,AY r=0->Ba r≠s:=by
   intro r hr ht;obtain⟨q1,q2,q3,q4,q5,q6,q7,q8⟩:=hread r hr ht;refine hfig ⟨?_,?_,?_⟩
   ·rw[q4];exact⟨Hb oM,DI _⟩
   ·rw[q5];exact⟨Hb oM,DI _⟩
   ·rw[q6];exact⟨Hb oM,DI _⟩
  by_cases f2:CJ (w.getD 2 [])/\w.getD 2 []≠[]
  ·by_cases f4:CJ (w.getD 4 [])/\w.getD 4 []≠[]
   ·have f6:¬ (CJ (w.getD (w.length-1) [])/\w.getD (w.length-1) []≠[]):=λh=>hfig ⟨f2,f4,h⟩;rw[decide_eq_true f2,decide_eq_true f4,decide_eq_false f6];refine Ae ?_;exact hK2 hno H (hle1.trans hle)
   ·rw[decide_eq_true f2,decide_eq_false f4];refine Ae ?_;exact hK2 hno H (hle1.trans hle)
  ·rw[decide_eq_false f2];refine Ae ?_;exact hK2 hno H (hle1.trans hle)
 obtain⟨f2,f4,f6⟩:=hfig;have hnm:∀ x:List UInt8,CJ x->Az x<=1000000000:=by
  intro x hx;have h1:=G8 hx.2;have h2:10^x.length<=10^9:=ZZ oM hx.1;omega
 rw[decide_eq_true f2,decide_eq_true f4,decide_eq_true f6,if_pos f2.1,if_pos f4.1,if_pos f6.1];refine Ae ?_;refine Br ho 2 1 rfl rfl oM (by simp) λo2 hob2 _=>?_;have ho2:Ah (H.set b4 o2) ⟨b4,0,O⟩ [.string (str (w.getD 0 []).dropLast),.int .i64 (BD (w.getD 1 []) 4),.int .i64 (Az (w.getD 2 []):Nat),.int .i64 0,.int .i64 (-1),.int .i64 0]:=hob2 H rfl;have hle2:Heap.le h1 (H.set b4 o2):=hle.over hb4 o2;generalize H.set b4 o2=H2 at *;refine Ae ?_;refine Br ho2 3 1 rfl rfl oM (by simp) λo3 hob3 _=>?_;have ho3:Ah (H2.set b4 o3) ⟨b4,0,O⟩ [.string (str (w.getD 0 []).dropLast),.int .i64 (BD (w.getD 1 []) 4),.int .i64 (Az (w.getD 2 []):Nat),.int .i64 (Az (w.getD 4 []):Nat),.int .i64 (-1),.int .i64 0]:=hob3 H2 rfl;have hle3:Heap.le h1 (H2.set b4 o3):=hle2.over hb4 o3;generalize H2.set b4 o3=H3 at *;refine Ae ?_;refine Br ho3 5 1 rfl rfl oM (by simp) λo4 hob4 _=>?_;have ho4:Ah (H3.set b4 o4) ⟨b4,0,O⟩ [.string (str (w.getD 0 []).dropLast),.int .i64 (BD (w.getD 1 []) 4),.int .i64 (Az (w.getD 2 []):Nat),.int .i64 (Az (w.getD 4 []):Nat),.int .i64 (-1),.int .i64 (Az (w.getD (w.length-1) []):Nat)]:=hob4 H3 rfl;have hle4:Heap.le h1 (H3.set b4 o4):=hle3.over hb4 o4;generalize H3.set b4 o4=H4 at *;clear hob2 hob3 hob4 ho ho2 ho3 hle2 hle3 RH hle;have RH:=(hS.le hle4).rules1 (λt=>.string (str t)) (λ_=>rfl) default;have hdl:(w.getD 0 []).dropLast.length<=1000000:=by rw[List.length_dropLast];omega
 have fin:∀ wo:Int,(∀r:Rl,AY r=0->Ba r=s->wo=r.wout)->∀ r:Rl,AY r=0->Ba r=s->r=⟨(w.getD 0 []).dropLast,BD (w.getD 1 []) 4,(Az (w.getD 2 []):Nat),(Az (w.getD 4 []):Nat),wo,(Az (w.getD (w.length-1) []):Nat)⟩:=by
  intro wo hwo r hr ht;obtain⟨q1,q2,q3,q4,q5,q6,q7,q8⟩:=hread r hr ht;have e1:=hwo r hr ht;rw[q2,q3,q4,q5,q6,e1,DW,DW,DW,Nj oM oM];have g2:((r.first.toNat:Nat):Int)=r.first:=oM;have g4:((r.thn.toNat:Nat):Int)=r.thn:=oM;have g6:((r.wthn.toNat:Nat):Int)=r.wthn:=oM;rw[g2,g4,g6,List.dropLast_concat]
 rcases hlen with hl7|hl9
 ·have q9:(((w.length:Nat):Int)=9)=False:=by rw[eq_iff_iff];simp;omega
  have hfin:=fin (-1) λr hr ht=>by
   obtain⟨q1,q2,q3,q4,q5,q6,q7,q8⟩:=hread r hr ht;split at q1<;>omega
  have hrow:=ho4.rules.2.2;simp only[Y5,ZR,Nat.reduceAdd]at hrow;refine CS @RH @q9 @hrow ?_;refine Aa H168 ⟨⟨(w.getD 0 []).dropLast,BD (w.getD 1 []) 4,(Az (w.getD 2 []):Nat),(Az (w.getD 4 []):Nat),-1,(Az (w.getD (w.length-1) []):Nat)⟩,rfl,?_⟩;by_cases hb:AY ⟨(w.getD 0 []).dropLast,BD (w.getD 1 []) 4,(Az (w.getD 2 []):Nat),(Az (w.getD 4 []):Nat),-1,(Az (w.getD (w.length-1) []):Nat)⟩=0;rotate_left
  ·obtain⟨f,hf⟩:=Aa2 hb;rw[hf];have hpos:((0:Int)<((f+1:Nat):Int))=True:=by rw[eq_iff_iff];exact⟨λ_=>trivial,λ_=>by omega⟩
   refine Ap @hpos ?_;refine hK2 (λr hr ht=>?_) H4 (hle1.trans hle4);rw[hfin r hr ht]at hr;exact hb hr
  rw[hb];refine Ap @hrow ?_;refine Aa H171 ⟨_,rfl,hb,λh9 hle9=>?_⟩;have hrow9:=EB hle9 hrow;refine Ae ?_;refine Ad (λc9=>?_) (λc9=>?_)
  ·refine Ae ?_;refine hK2 (λr hr ht=>?_) h9 (hle1.trans (hle4.trans hle9));rw[hfin r hr ht]at ht;exact c9 ht
  ·refine Ap @hrow9 ?_;exact hK1 _ hb (Decidable.not_not.1 c9) h9 (hle1.trans (hle4.trans hle9))
 ·have q9:(((w.length:Nat):Int)=9)=True:=by rw[eq_iff_iff];simp;omega
  refine CS @RH @q9 @hdd ?_;refine Aa H184 ⟨w.getD 6 [],rfl,by have:=hwk 6;omega,?_⟩;by_cases f9:CJ (w.getD 6 [])/\w.getD 6 []≠[];rotate_left
  ·rw[decide_eq_false f9];refine Ae ?_;refine hK2 (λr hr ht=>?_) H4 (hle1.trans hle4);obtain⟨q1,q2,q3,q4,q5,q6,q7,q8⟩:=hread r hr ht;have hwo:0<=r.wout:=by split at q1<;>omega
   refine f9 ?_;rw[q7 hwo];exact⟨Hb oM,DI _⟩
  rw[decide_eq_true f9,if_pos f9.1];have hn6:=hnm _ f9.1;refine Ae ?_;refine Br ho4 4 1 rfl rfl oM (by simp) λo5 hob5 _=>?_;have ho5:Ah (H4.set b4 o5) ⟨b4,0,O⟩ [.string (str (w.getD 0 []).dropLast),.int .i64 (BD (w.getD 1 []) 4),.int .i64 (Az (w.getD 2 []):Nat),.int .i64 (Az (w.getD 4 []):Nat),.int .i64 (Az (w.getD 6 []):Nat),.int .i64 (Az (w.getD (w.length-1) []):Nat)]:=hob5 H4 rfl;have hle5:Heap.le h1 (H4.set b4 o5):=hle4.over hb4 o5;generalize H4.set b4 o5=H5 at *;clear hob5;have hfin:=fin (Az (w.getD 6 []):Nat) λr hr ht=>by
   obtain⟨q1,q2,q3,q4,q5,q6,q7,q8⟩:=hread r hr ht;have hwo:0<=r.wout:=by split at q1<;>omega
   rw[q7 hwo,DW];omega
  have hrow:=ho5.rules.2.2;simp only[Y5,ZR,Nat.reduceAdd]at hrow;refine Ap @hrow ?_;refine Aa H168 ⟨⟨(w.getD 0 []).dropLast,BD (w.getD 1 []) 4,(Az (w.getD 2 []):Nat),(Az (w.getD 4 []):Nat),(Az (w.getD 6 []):Nat),(Az (w.getD (w.length-1) []):Nat)⟩,rfl,?_⟩;by_cases hb:AY ⟨(w.getD 0 []).dropLast,BD (w.getD 1 []) 4,(Az (w.getD 2 []):Nat),(Az (w.getD 4 []):Nat),(Az (w.getD 6 []):Nat),(Az (w.getD (w.length-1) []):Nat)⟩=0;rotate_left
  ·obtain⟨f,hf⟩:=Aa2 hb;rw[hf];have hpos:((0:Int)<((f+1:Nat):Int))=True:=by rw[eq_iff_iff];exact⟨λ_=>trivial,λ_=>by omega⟩
   refine Ap @hpos ?_;refine hK2 (λr hr ht=>?_) H5 (hle1.trans hle5);rw[hfin r hr ht]at hr;exact hb hr
  rw[hb];refine Ap @hrow ?_;refine Aa H171 ⟨_,rfl,hb,λh9 hle9=>?_⟩;have hrow9:=EB hle9 hrow;refine Ae ?_;refine Ad (λc9=>?_) (λc9=>?_)
  ·refine Ae ?_;refine hK2 (λr hr ht=>?_) h9 (hle1.trans (hle5.trans hle9));rw[hfin r hr ht]at ht;exact c9 ht
  ·refine Ap @hrow9 ?_;exact hK1 _ hb (Decidable.not_not.1 c9) h9 (hle1.trans (hle5.trans hle9))
def EM (cm bad:Nat->Bool) (lo:Nat):Nat->Bool
 |0=>false
 |n+1=>if n<lo then false else if cm n then true else if bad n then false else EM cm bad lo n
theorem Lg (cm bad:Nat->Bool) (lo:Nat):∀ n,EM cm bad lo n=true↔∃ e0,lo<=e0/\e0<n/\cm e0=true/\∀ x,e0<x->x<n->bad x=false:=by
 intro n;induction n with
 |zero=>simp[EM]
 |succ n ih=>
  unfold EM;by_cases h1:n<lo
  ·rw[if_pos h1];constructor
   ·intro h;cases h
   ·rintro⟨e0,h2,h3,_⟩;omega
  rw[if_neg h1];by_cases h2:cm n=true
  ·rw[if_pos h2];exact⟨λ_=>⟨n,oM,oM,h2,λx h3 h4=>by omega⟩,λ_=>rfl⟩
  rw[if_neg h2];by_cases h3:bad n=true
  ·rw[if_pos h3];constructor
   ·intro h;cases h
   ·rintro⟨e0,q1,q2,q3,q4⟩;by_cases e:e0=n
    ·subst e;exact absurd q3 h2
    ·have:=q4 n oM oM;rw[this]at h3;cases h3
  rw[if_neg h3,ih];constructor
  ·rintro⟨e0,q1,q2,q3,q4⟩;refine⟨e0,q1,oM,q3,λx h5 h6=>?_⟩;by_cases e:x=n
   ·subst e;simpa using h3
   ·exact q4 x h5 oM
  ·rintro⟨e0,q1,q2,q3,q4⟩;have:e0≠n:=by rintro rfl;exact h2 q3
   exact⟨e0,q1,oM,q3,λx h5 h6=>q4 x h5 oM⟩
def Fy (window need:Nat) (E:List (List Si)) (r:Rl) (s:List UInt8) (x:Nat):Bool:=decide (0<=r.wout/\Iy window need (E.take (x+1)) s=r.wout)
def EY (window need:Nat) (E:List (List Si)) (r:Rl) (s:List UInt8) (e:Int):Bool:=
 decide (AY r=0)&&decide (AK s≠0)&&decide (r.kind=0\/AK s=r.kind)&&I6 window need E s r.thn e&&EM (λx=>I6 window need E s r.first (x:Nat)) (Fy window need E r s) (e-r.wthn).toNat e.toNat
theorem Di (b:List UInt8):AK b=0↔BS b=O:=by
 unfold AK;cases h:BS b with
 |none=>simp
 |some t=>
  have hk:1<=t.kind:=by
   unfold BS at h;split at h
   ·cases h
   ·split at h
    ·cases h
    ·split at h<;>cases h;rename_i hb;obtain⟨_,_,k1,_⟩:=Tg.good hb;exact k1
  simp;omega
theorem NL {window need:Nat} {E:List (List Si)} {s:List UInt8} {p e:Int} (h:I6 window need E s p e=true):0<=e/\e<E.length/\Bb E s:=by
 unfold I6 at h;split at h
 ·cases h
 ·rename_i hc;have h0:(whr window need E s e).2=0:=by
   refine Classical.byContradiction λhn=>hc (.inl hn)
  unfold whr at h0;split at h0
  ·cases h0
  ·split at h0
   ·rename_i h1 h2;exact⟨oM,oM,h2⟩
   ·cases h0
def S174 (N:Num):Spec:=λargs h K=>∃ gt bt window need E r s e,args=[.pointer (U ⟨bt,0,O⟩),FW r,.string (str s),.int .i64 e]/\Sk gt bt window need E/\Heap.le gt h/\E.length<=1000/\r.name.length<=10000000/\(-1000000<=e/\e<=1000000) /\
 ∀ h',Heap.le h h'->K (.bool (EY window need E r s e)) h'
theorem F174_ok {N:Num} {Γ:Ctx} [Ak Γ] (H170:Sat (S170 N) (Γ 170)) (H50:Sat S50 (Γ 50)) (H81:Sat (S81 N) (Γ 81)) (H30:Sat (S30 N) (Γ 30)):Sat (S174 N) (SF N Γ F174):=by
 rintro _ h K ⟨gt,bt,window,need,E,r,s,e,rfl,hT,hgt,hEl,hnl,he,hK⟩;refine An rfl ?_;simp only[F174,Ze,Nat.reduceSub,Nat.reduceAdd,FW];unfold EY at hK;refine Ae ?_;refine Aa H170 ⟨r,rfl,hnl,?_⟩;by_cases hf:AY r=0;rotate_left
 ·obtain⟨f,hf'⟩:=Aa2 hf;rw[decide_eq_false hf]at hK;simp only[Aa8]at hK;rw[hf'];refine Ap @Aq ?_;exact hK h (ZX h)
 rw[decide_eq_true hf]at hK;rw[hf];have hb:=(Be.1 hf).2.1;unfold Rl.bound at hb;refine Ap @AP ?_;refine Aa H50 ⟨gt,bt,window,need,E,s,r.thn,e,rfl,hT,hgt,oM,?_⟩;cases hc:I6 window need E s r.thn e with
 |false=>
  rw[hc]at hK;simp only[Abw,Aa8]at hK;refine Ae ?_;exact hK h (ZX h)
 |true=>
 obtain⟨he0,hel,htd⟩:=NL hc;rw[hc]at hK;refine Ae ?_;refine Aa H81 ⟨s,rfl,λh1 hle1=>?_⟩;unfold SD;have hkz:=Di s;have hks:=GN s;cases htg:BS s with
 |none=>
  have hk0:¬ (AK s≠0):=by rw[hkz.2 htg];simp
  rw[decide_eq_false hk0]at hK;simp only[Abw,Aa8,Abk]at hK;simp only[Co,Option.getD,Option.isSome,Bool.false_eq_true,if_false];refine Ap @Aq ?_;exact hK h1 hle1
 |some t=>
 have hk0:AK s≠0:=λh=>by rw[hkz.1 h]at htg;cases htg
 rw[htg]at hks;simp only[Option.getD]at hks;rw[decide_eq_true hk0]at hK;simp only[Co,Option.getD,Option.isSome,if_true,Abk,Abz]at hK ⊢;have hwe:IntKind.i64.wrap (e-1)=e-1:=BC oM oM;have hww:IntKind.i64.wrap (e-r.wthn)=e-r.wthn:=BC oM oM;refine Ap @AP ?_;refine Ad (λc1=>?_) (λc1=>?_)
 ·have hn:¬ (r.kind=0\/AK s=r.kind):=by rw[hks];omega
  rw[decide_eq_false hn]at hK;simp only[Aa8]at hK;refine Ae ?_;exact hK h1 hle1
 have hn:r.kind=0\/AK s=r.kind:=by rw[hks];omega
 rw[decide_eq_true hn]at hK;simp only[Abk]at hK;obtain⟨en,rfl⟩:∃ n:Nat,e=n:=⟨e.toNat,oM⟩
 have hTl:=hgt.trans hle1;obtain⟨lo,hlo⟩:∃ lo,lo=((en:Int)-r.wthn).toNat:=⟨_,rfl⟩
 have hmx:max (0:Int) ((en:Int)-r.wthn)=(lo:Nat):=oM;rw[<-hlo,Aaa]at hK;refine Ap @hwe ?_;refine Aj (λn:Nat=>[U (.pointer (U ⟨bt,0,O⟩)),O,U (.string (str s)),U (.int .i64 (en:Nat)),U (.agg #[.string (str r.name),.int .i64 r.kind,.int .i64 r.first,.int .i64 r.thn,.int .i64 r.wout,.int .i64 r.wthn]),O,O,O,U (.int .i64 ((n:Nat)-1)),O,O,O,O,O,O,O,O,O,O,O,O,O,O])
  (λn H=>H=h1/\n<=en/\EM (λx=>I6 window need E s r.first (x:Nat)) (Fy window need E r s) lo en=EM (λx=>I6 window need E s r.first (x:Nat)) (Fy window need E r s) lo n) (λn=>n) en sE ⟨rfl,oM,rfl⟩ ?_
 rintro n H ⟨rfl,hnn,hsc⟩;refine AH @hww @hmx ?_;refine Ad (λc2=>?_) (λc2=>?_);rotate_left
 ·have:EM (λx=>I6 window need E s r.first (x:Nat)) (Fy window need E r s) lo n=false:=by
   cases n with
   |zero=>rfl
   |succ n=>unfold EM;rw[if_pos oM]
  rw[hsc,this]at hK;refine Ae ?_;exact hK H hle1
 obtain⟨m,rfl⟩:∃ m,n=m+1:=⟨n-1,oM⟩
 have hm1:((m+1:Nat):Int)-1=(m:Nat):=oM;have hm2:IntKind.i64.wrap ((m:Int)-1)=(m:Nat)-1:=BC oM oM;rw[hm1];have hst:EM (λx=>I6 window need E s r.first (x:Nat)) (Fy window need E r s) lo (m+1)=if I6 window need E s r.first (m:Nat)then true else if Fy window need E r s m then false else EM (λx=>I6 window need E s r.first (x:Nat)) (Fy window need E r s) lo m:=by
  conv=>lhs;unfold EM
  rw[if_neg oM]
 refine Ae ?_;refine Aa H50 ⟨gt,bt,window,need,E,s,r.first,(m:Nat),rfl,hT,hTl,oM,?_⟩;cases hcm:I6 window need E s r.first (m:Nat)with
 |true=>
  rw[hsc,hst,if_pos hcm]at hK;refine Ae ?_;exact hK H hle1
 |false=>
 rw[hst,if_neg (by rw[hcm];simp)]at hsc;refine Ae ?_;refine Aa H30 (IB hT hTl ?_);have hwr:whr window need E s (m:Nat)=(Iy window need (E.take (m+1)) s,0):=by
  unfold whr;rw[if_neg oM,if_pos htd,Aaa]
 rw[hwr];refine Ae ?_;refine Ad (λc3=>?_) (λc3=>?_)
 ·have hbd:Fy window need E r s m=true:=decide_eq_true c3;rw[if_pos hbd]at hsc;rw[hsc]at hK;refine Ae ?_;exact hK H hle1
 ·have hbd:¬ Fy window need E r s m=true:=by unfold Fy;rw[decide_eq_false c3];simp
  rw[if_neg hbd]at hsc;refine Ap @hm2 ?_;exact Ag m oM sE ⟨rfl,oM,hsc⟩
def Ps (H:Heap) (gs:List Heap):Prop:=(∀g∈gs,Heap.le g H)/\gs.Pairwise CA
theorem Ps.lt {H:Heap} {gs:List Heap} (h:Ps H gs) (i:Nat) {g:Heap} (hi:gs[i]?=U g):Heap.le g H:=h.1 g (ZY hi)
theorem Ps.dj {H:Heap} {gs:List Heap} (h:Ps H gs) (i j:Nat) {f g:Heap} (hi:gs[i]?=U f) (hj:gs[j]?=U g) (hn:i≠j):CA f g:=by
 obtain⟨hi1,rfl⟩:=Yk.1 hi;obtain⟨hj1,rfl⟩:=Yk.1 hj;rcases Nat.lt_or_gt_of_ne hn with e|e
 ·exact Aa0.1 h.2 i j hi1 hj1 e
 ·exact(Aa0.1 h.2 j i hj1 hi1 e).symm
theorem Ps.up {H H':Heap} {gs:List Heap} (h:Ps H gs) (hl:Heap.le H H'):Ps H' gs:=⟨λg hg=>(h.1 g hg).trans hl,h.2⟩
theorem Ps.step {H H':Heap} {gs:List Heap} (h:Ps H gs) (i:Nat) {g g':Heap} (hi:gs[i]?=U g) (st:Av g H g' H'):Ps H' (gs.set i g'):=by
 obtain⟨hi1,A5⟩:=Yk.1 hi;have key:∀ j (hj:j<gs.length),j≠i->Heap.le gs[j] H'/\CA gs[j] g':=λj hj hn=>
  st.keep (h.1 _ (Aah hj)) (h.dj j i (Zj hj) hi hn)
 refine⟨λx hx=>?_,Aa0.2 λa b ha hb hab=>?_⟩
 ·obtain⟨j,hj,rfl⟩:=Z3 hx;rw[Abv]at hj;rw[Abd];split
  ·exact st.le
  ·rename_i e;exact(key j hj λe'=>e e'.symm).1
 ·rw[Abv]at ha hb;rw[Abd,Abd];split
  ·rename_i e;rw[if_neg oM];exact(key b hb oM).2.symm
  ·rename_i e;split
   ·exact(key a ha λe'=>e e'.symm).2
   ·exact Aa0.1 h.2 a b ha hb hab
theorem Ps.new {H H':Heap} {gs:List Heap} (h:Ps H gs) (hl:Heap.le H H'):Ps H' (gs++[fr H H']):=by
 refine⟨λg hg=>?_,Aa4.2 ⟨h.2,by simp,λa ha b hb=>?_⟩⟩
 ·rcases Yd.1 hg with e|e
  ·exact(h.1 g e).trans hl
  ·rw[YA.1 e];exact Au _ _
 ·rw[YA.1 hb];exact TN (h.1 a ha)
theorem Ps.add {H f:Heap} {gs:List Heap} (h:Ps H gs) (hf:Heap.le f H) (hd:∀ g∈gs,CA g f):Ps H (gs++[f]):=by
 refine⟨λg hg=>?_,Aa4.2 ⟨h.2,by simp,λa ha b hb=>?_⟩⟩
 ·rcases Yd.1 hg with e|e
  ·exact h.1 g e
  ·rw[YA.1 e];exact hf
 ·rw[YA.1 hb];exact hd a ha
theorem Ps.drop {H:Heap} {gs:List Heap} (n:Nat) (h:Ps H gs):Ps H (gs.drop n):=⟨λg hg=>h.1 g (Aac hg),h.2.sublist (Abs n gs)⟩
theorem Ps.take {H:Heap} {gs:List Heap} (n:Nat) (h:Ps H gs):Ps H (gs.take n):=⟨λg hg=>h.1 g (Z4 hg),h.2.sublist (Abq n gs)⟩
def Gx:List Heap->Heap
 |[]=>λ_=>O
 |g::l=>join g (Gx l)
theorem Gr {b:Nat}:∀ {gs:List Heap},(∀g∈gs,g b=O)->Gx gs b=O:=by
 intro gs;induction gs with
 |nil=>intro _;rfl
 |cons g l ih=>intro h;exact Bs (h g (by simp)) (ih λx hx=>h x (Yb _ hx))
theorem IW {b:Nat}:∀ {gs:List Heap},Gx gs b≠O->∃ g∈gs,g b≠O:=by
 intro gs hb;exact Classical.byContradiction λh=>hb (Gr λg hg=>Classical.byContradiction λe=>h ⟨g,hg,e⟩)
theorem GO {H:Heap}:∀ {gs:List Heap},(∀g∈gs,Heap.le g H)->Heap.le (Gx gs) H:=by
 intro gs;induction gs with
 |nil=>intro _ b o hb;cases hb
 |cons g l ih=>intro h;exact Gq (h g (by simp)) (ih λx hx=>h x (Yb _ hx))
theorem To {H:Heap}:∀ {gs:List Heap},(∀g∈gs,Heap.le g H)->∀ g∈gs,Heap.le g (Gx gs):=by
 intro gs;induction gs with
 |nil=>intro _ g hg;cases hg
 |cons g l ih=>
  intro h x hx;rcases X5.1 hx with rfl|hx
  ·exact Db _ _
  ·exact(ih (λy hy=>h y (Yb _ hy)) x hx).trans (HI (h g (by simp)) (GO λy hy=>h y (Yb _ hy)))
theorem Ps.sub {H:Heap} {gs:List Heap} (h:Ps H gs):Ps (Gx gs) gs:=⟨To h.1,h.2⟩
theorem Ps.rest {g h:Heap} {gs:List Heap} (p:Ps g gs) (hg:Heap.le g h):Ps h (rest g h::gs):=by
 refine⟨λx hx=>?_,Aaq.2 ⟨λx hx b hb=>?_,p.2⟩⟩
 ·rcases X5.1 hx with rfl|hx
  ·intro b o hb;unfold Cw.rest at hb;split at hb;exact hb;cases hb
  ·exact(p.1 x hx).trans hg
 ·refine AC (p.1 x hx) b ?_;unfold Cw.rest at hb;split at hb
  ·assumption
  ·exact absurd rfl hb
theorem Ps.toStep {g h H':Heap} {gs:List Heap} (hg:Heap.le g h) (p:Ps H' (Cw.rest g h::gs)):Av g h (Gx gs) H':=by
 have hd:=(Aaq.1 p.2).1;refine⟨GO λx hx=>p.1 x (Yb _ hx),λb o h1 h2=>p.1 (Cw.rest g h) (by simp) b o (by unfold Cw.rest;rw[if_pos h2];exact h1),λb h1 h2=>Gr λx hx=>hd x hx b ?_⟩;unfold Cw.rest;rw[if_pos h2];exact h1
def Cp (g:Heap) (p n:Nat) (F:Nat->Value):Prop:=Ah g ⟨p,0,O⟩ ((Yh n).map F)
theorem Cp.le {g h:Heap} {p n:Nat} {F:Nat->Value} (ho:Cp g p n F) (hl:Heap.le g h):Cp h p n F:=Ah.le ho hl
theorem Cp.cell {h:Heap} {p n:Nat} {F:Nat->Value} (ho:Cp h p n F) {j:Nat} (hj:j<n):h.cell ((⟨p,0,O⟩:Addr).add j)=U (F j):=by
 rw[(Ah.rules ho).1 j (by simpa using hj)];simp[hj]
def Dx (F:Nat->Value) (j:Nat) (v:Value):Nat->Value:=λi=>if i=j then v else F i
theorem Bv {F:Nat->Value} {j:Nat} {v:Value}:Dx F j v j=v:=by simp[Dx]
theorem Af {F:Nat->Value} {i j:Nat} {v:Value} (h:i≠j):Dx F j v i=F i:=by simp[Dx,h]
theorem QQ (F:Nat->Value) (n j:Nat) (v:Value) (hj:j<n):((Yh n).map F).take j++[v]++((Yh n).map F).drop (j+1)=(Yh n).map (Dx F j v):=by
 apply List.ext_getElem?;intro i;simp only[Zy,List.getElem?_append,Zn,Aaw,Abb,List.getElem?_take,List.getElem?_drop,Aae,List.length_singleton];by_cases e:i<j
 ·rw[if_pos oM,if_pos e,Aa3 oM];simp[Af (show i≠j by omega)]
 ·rw[if_neg oM];by_cases e2:i=j
  ·subst e2;rw[if_pos oM,Aa3 hj];simp[Bv,show i-min i n=0 by omega]
  ·rw[if_neg oM];have:j+1+(i-min j n-1)=i:=oM;rw[this];by_cases e3:i<n
   ·rw[Aa3 e3];simp[Af e2]
   ·rw[Aa1 (by simp;omega)];simp
theorem BO {N:Num} {Γ:Ctx} {g h:Heap} {p n:Nat} {F:Nat->Value} (ho:Cp g p n F) (hg:Heap.le g h) (j:Nat) {x:Value} (hx:x.cells=#[x]) (h1:one x=true) (hj:j<n) {K:Value->Heap->Prop}
  (hK:∀ g' h',Av g h g' h'->Cp g' p n (Dx F j x)->K undef h'):By N Γ (.st 1) [.pointer (U ((⟨p,0,O⟩:Addr).add j)),x] h K:=by
 have hb:g p≠O:=by obtain⟨_,c,t,q,_⟩:=ho;rw[q];simp
 have he:g p=h p:=by
  cases e:g p with
  |none=>exact absurd e hb
  |some o=>exact(hg p o e).symm
 refine Br (Ah.le ho hg) j 1 (by rw[hx];rfl) (by rw[hx];simp[h1]) oM (by simp;omega) λo q1 _=>?_;refine hK (g.set p o) _ (Av.set hg hb o) ?_;have:=q1 g he;rw[hx]at this;unfold Cp;rw[<-QQ F n j x hj];simpa using this
theorem Cp.part2 {h:Heap} {p n:Nat} {F:Nat->Value} (ho:Cp h p n F) {j:Nat} (hj:j+2<=n):Ah h ⟨p,j,O⟩ [F j,F (j+1)]:=by
 obtain⟨_,c,t,q1,q2,q3⟩:=ho;refine⟨rfl,c,t,q1,?_,λi hi=>?_⟩
 ·simp at q2;simp;omega
 ·have:=q3 (j+i) (by simp at hi;simp;omega);simp only[Yn]at this;rw[this];simp at hi;rcases(by omega:i=0\/i=1)with rfl|rfl
  ·simp[show j<n by omega]
  ·simp[show j+1<n by omega]
theorem Cp.back2 {g h h':Heap} {p n:Nat} {F:Nat->Value} (ho:Cp g p n F) (hg:Heap.le g h) {j:Nat} (hj:j+2<=n) {x y:Value} (hk:keeps ⟨p,j,O⟩ 2 h h') (hn:Ah h' ⟨p,j,O⟩ [x,y]) :
  ∃ g',Av g h g' h'/\(∀b,g' b≠O->g b≠O)/\Cp g' p n (Dx (Dx F j x) (j+1) y):=by
 obtain⟨_,c,t,q1,q2,q3⟩:=ho;obtain⟨k1,k2⟩:=hk;have hp:=hg p _ q1;obtain⟨c',w1,w2,w3⟩:=k2 c t _ hp;have w1':h' p=U (.cells c' t (0,0)):=w1;obtain⟨_,c2,t2,r1,r2,r3⟩:=hn;have r1':h' p=U (.cells c2 t2 (0,0)):=r1;rw[w1']at r1';cases r1';simp only[Aaw,Abb]at q2 q3;have hgp:g p≠O:=by rw[show g p=_ from q1];simp
 refine⟨g.set p (.cells c' t (0,0)),⟨λb o hb=>?_,λb o h1 h2=>?_,λb h1 h2=>?_⟩,λb hb=>?_,rfl,c',t,Aab,by simp;omega,λi hi=>?_⟩
 ·by_cases e:b=p
  ·subst e;rw[Aab]at hb;cases hb;exact w1'
  ·rw[ZW e]at hb;exact k1 b o e (hg b o hb)
 ·refine k1 b o (λe=>?_) h1;have e':b=p:=e;subst e';exact hgp h2
 ·have e:b≠p:=λe=>by subst e;exact hgp h2
  rw[ZW e];exact h2
 ·by_cases e:b=p
  ·subst e;exact hgp
  ·rw[ZW e]at hb;exact hb
 ·simp only[Aaw,Abb]at hi;simp only[Yn];rw[Aae,Aa3 hi];by_cases e1:i=j
  ·subst e1;have:=r3 0 (by simp);simp only[YV]at this;rw[this,YH,Af oM,Bv];rfl
  ·by_cases e2:i=j+1
   ·subst e2;have:=r3 1 (by simp);rw[this,YH,Bv];rfl
   ·have e3:=q3 i hi;rw[Yn,Aae,Aa3 hi]at e3;rw[w3 i (by simp;omega),e3,YH,YH,Af e2,Af e1]
def Rd.bytes (r:Rd):List UInt8:=[b8 r.ant,b8 r.str,b8 r.age]++r.tag
def Fr.body (f:Fr):List UInt8:=if f.ty=3 then[b8 f.warm]else f.reads.flatMap Rd.bytes
def Fr.front (f:Fr):List UInt8:=[165,b8 f.body.length,b8 f.ty]++f.body
def Ed (l:List UInt8):Nat:=(l.map (·.toNat)).sum
def Fr.bytes (f:Fr):List UInt8:=f.front++[b8 (255-(Ed f.front:Int)%256)]
theorem Hg:∀ (l:List Rd),(∀r∈l,r.tag.length=8)->(l.flatMap Rd.bytes).length=l.length*11:=by
 intro l;induction l with
 |nil=>intro _;rfl
 |cons r l ih=>
  intro h;have h1:=h r (by simp);rw[ZL,Zk,ih λr hr=>h r (by simp[hr])];simp only[Rd.bytes,Zk,Y5,ZR,h1];omega
theorem Px {l:List UInt8} {i:Nat} (hi:i<l.length):Ed (l.take (i+1))=Ed (l.take i)+(l.getD i 0).toNat:=by
 unfold Ed;rw[Ai 0 hi,Aam,List.sum_append];simp only[Yj,List.map_nil,Abg,List.sum_nil,YV]
theorem NP:∀ (l:List UInt8),Ed l<=l.length*255:=by
 intro l;induction l with
 |nil=>simp[Ed]
 |cons x l ih=>
  have:x.toNat<256:=x.toNat_lt;simp only[Ed,Yj,Abg,Y5]at ih ⊢;omega
theorem Mu (l:List UInt8):Iw l=Ed l%256:=by
 have:∀ (l:List UInt8) (a:Nat),l.foldl (λa b=>(a+b.toNat)%256) (a%256)=(a+Ed l)%256:=by
  intro l;induction l with
  |nil=>intro a;simp[Ed]
  |cons x l ih=>
   intro a;simp only[List.foldl_cons];have:=ih (a%256+x.toNat);rw[this];simp only[Ed,Yj,Abg];omega
 have:=this l 0;simpa[Iw]using this
theorem Fr.fine {f:Fr} (hf:f.fault=0):1<=f.ty/\f.ty<=3/\f.reads.length<=4/\(∀r∈f.reads,¬r.bad)/\0<=f.warm/\f.warm<=255/\(f.ty≠1->f.reads=[])/\(f.ty≠3->f.warm=0):=by
 unfold Fr.fault at hf
 repeat' split at hf
 all_goals first|(simp at hf;done)|skip
 rename_i h1 h2 h3 h4 h5;refine⟨oM,oM,oM,λr hr hb=>h5 ⟨r,hr,hb⟩,oM,oM,λh=>?_,oM⟩;exact Zs oM
theorem Fr.body_len {f:Fr} (hf:f.fault=0):f.body.length<=44:=by
 obtain⟨h1,h2,h3,h4,h5,h6,h7⟩:=Fr.fine hf;unfold Fr.body;split
 ·simp
 ·rw[Hg _ λr hr=>by have:=h4 r hr;simp only[Abx]at this;omega];omega
def S22:Spec:=λargs h K=>∃ v f,args=[v]/\PH h v f/\f.fault=0/\∀ h',Heap.le h h'->K (.string (str f.bytes)) h'
theorem F22_ok {N:Num} {Γ:Ctx} [Ak Γ]:Sat S22 (SF N Γ F22):=by
 rintro _ h K ⟨_,f,rfl,⟨s,rfl,hs⟩,hf,hK⟩;obtain⟨h1,h2,h3,h4,h5,h6,h7,h8⟩:=Fr.fine hf;have hbl:=Fr.body_len hf;have htag:∀ r∈f.reads,r.tag.length=8:=λr hr=>by have:=h4 r hr;simp only[Abx]at this;omega
 refine An rfl ?_;simp only[F22,Ze,Nat.reduceSub,Nat.reduceAdd];refine Ae ?_;refine Aj (λi:Nat=>[O,U (.agg #[.int .i64 f.ty,s,.int .i64 f.warm]),O,U (.string (str ((f.reads.take i).flatMap Rd.bytes))),U (.int .i64 i),O,O,O,O,O,O,O,O,O,O,O,O,O,O])
  (λi h'=>i<=f.reads.length/\Heap.le h h') (λi=>f.reads.length-i) 0 ?_ ⟨oM,ZX _⟩ ?_
 ·try simp only[Pf];exact⟨rfl,rfl⟩
 rintro i h' ⟨hi,hle⟩;have R:=(hs.le hle).rules 4 (λ_=>rfl) default;refine Ap @R ?_;refine Ad (λc5=>?_) (λc5=>?_)
 ·refine AH @R @Rd.enc.eq_1 ?_;refine BQ BF 1 Ax [b8 (f.reads.getD i default).ant,b8 (f.reads.getD i default).str,b8 (f.reads.getD i default).age] (by simp[BF,KE]) rfl (by simp[maxLen]) λv' h'' hle' ho=>?_;have ht:=htag _ (As default (l:=f.reads) (i:=i) oM);have hlen:=Hg (f.reads.take i) λr hr=>htag r (Z4 hr);have hlt:=Aa5 i f.reads;refine AH ((ho.sl Ax).b2s) @hlen ?_;refine Ag (i+1) oM ?_ ⟨oM,hle.trans hle'⟩
  try simp only[Pf]
  rw[Ai default (show i<f.reads.length by omega),Z0];simp[Rd.bytes]
 ·refine Ae ?_;have hi':i=f.reads.length:=oM;subst hi';rw[Z5];refine AT (λenv h'=>Heap.le h h'/\env=[O,U (.agg #[.int .i64 f.ty,s,.int .i64 f.warm]),O,U (.string (str f.body)),O,O,O,O,O,O,O,O,O,O,O,O,O,O,O]) ?_ ?_
  ·rintro env h' ⟨hle,rfl⟩;refine Ae ?_;refine BQ BF 1 Ax [165,b8 f.body.length,b8 f.ty] (by simp[BF,KE]) rfl (by simp[maxLen]) λv' h'' hle' ho=>?_;refine Ap ((ho.sl Ax).b2s) ?_;have hfl:f.front.length<=47:=by simp only[Fr.front,Zk,Y5,ZR];omega
   show SW N Γ _ _ [_,_,_,_,_,_,U (.string (str f.front)),_,_,_,_,_,_,_,_,_,_,_,_] _;refine Aj (λi:Nat=>[O,O,O,O,O,O,U (.string (str f.front)),U (.int .i64 (Ed (f.front.take i))),U (.int .i64 i),O,O,O,O,O,O,O,O,O,O])
    (λi h'=>i<=f.front.length/\h'=h'') (λi=>f.front.length-i) 0 ?_ ⟨oM,rfl⟩ ?_
   ·try simp only[Pf];exact⟨rfl,rfl⟩
   rintro i _ ⟨hi,rfl⟩;refine Ae ?_;refine Ad (λc5=>?_) (λc5=>?_)
   ·have hb:(f.front.getD i 0).toNat<256:=(f.front.getD i 0).toNat_lt;have hs1:=NP (f.front.take i);have hs2:=Aa5 i f.front;refine Ae ?_;refine Ag (i+1) oM ?_ ⟨oM,rfl⟩
    try simp only[Pf]
    rw[Px oM]
   ·have hi':i=f.front.length:=oM;subst hi';rw[Z5];have hs1:=NP f.front;have e1:IntKind.i64.wrap (255-Int.tmod (Ed f.front) 256)=255-(Ed f.front:Int)%256:=by
     rw[Aaz oM,BC oM oM]
    refine Ap @e1 ?_;refine BQ BF 1 Ax [b8 (255-(Ed f.front:Int)%256)] (by simp[BF,KE]) rfl (by simp[maxLen]) λv' h3 hle3 ho=>?_;refine Ap ((ho.sl Ax).b2s) ?_;exact hK _ (hle.trans (hle'.trans hle3))
  ·refine Ad (λc6=>?_) (λc6=>?_)
   ·refine Ae ?_;refine BQ BF 1 Ax [b8 f.warm] (by simp[BF,KE]) rfl (by simp[maxLen]) λv' h'' hle' ho=>?_;refine Ap ((ho.sl Ax).b2s) ?_;refine Ar _ ?_ ⟨hle.trans hle',rfl⟩
    try simp only[Pf];simp[Fr.body,c6]
   ·refine Ae ?_;refine Ar _ ?_ ⟨hle,rfl⟩
    try simp only[Pf];simp[Fr.body,c6]
theorem PH.le {h h':Heap} (hl:Heap.le h h') {v:Value} {f:Fr} (hv:PH h v f):PH h' v f:=by
 obtain⟨s,h1,h2⟩:=hv;exact⟨s,h1,h2.le hl⟩
def S18 (N:Num):Spec:=λargs h K=>∃ v f,args=[v]/\PH h v f/\∀ h',Heap.le h h'->K (.tuple #[.string (str (if f.fault=0 then f.bytes else[])),Cm N f.fault]) h'
theorem F18_ok {N:Num} {Γ:Ctx} [Ak Γ] (H20:Sat (S20 N) (Γ 20)) (H56:Sat S56 (Γ 56)):Sat (S18 N) (SF N Γ F18):=by
 rintro _ h K ⟨_,f,rfl,hv0,hK⟩;obtain⟨s,rfl,hs⟩:=hv0;refine An rfl ?_;simp only[F18,Ze,Nat.reduceSub,Nat.reduceAdd];refine Ae ?_;refine Aa H20 ⟨_,f,rfl,⟨s,rfl,hs⟩,?_⟩;refine Ap @Mo ?_;refine Ad (λc1=>?_) (λc1=>?_)
 ·refine Ae ?_;rw[if_neg c1]at hK;exact hK _ (ZX _)
 have hf:f.fault=0:=oM;rw[hf]at hK ⊢;simp only[if_true,AP]at hK ⊢;obtain⟨h1,h2,h3,h4,h5,h6,h7,h8⟩:=Fr.fine hf;have hbl:=Fr.body_len hf;have htag:∀ r∈f.reads,r.tag.length=8:=λr hr=>by have:=h4 r hr;simp only[Abx]at this;omega
 refine Ae ?_;refine D2 (λenv h'=>∃ v,AQ BF 1 h h' v f.body/\env=[O,U (.agg #[.int .i64 f.ty,s,.int .i64 f.warm]),O,O,O,U v,O,O,O,O,O,O,O,O,O,O,O,O,O,O,O,O,O,O,O,O,O,O,O]) ?_ ?_
 ·rintro env h' ⟨v,ho,rfl⟩;have R:=(ho.sl Ax).rules 1 (λ_=>rfl) default;refine Ap @R ?_;refine BQ BF 1 Ax [165,b8 f.body.length,b8 f.ty] (by simp[BF,KE]) rfl (by simp[maxLen]) λv1 h1 hle1 ho1=>?_;refine AH ((ho1.sl Ax).b2s) (((ho.le hle1).sl Ax).b2s) ?_;show By N Γ _ [.string (str f.front)] _ _;have hfl:f.front.length<=47:=by simp only[Fr.front,Zk,Y5,ZR];omega
  refine Aa H56 ⟨f.front,rfl,oM,?_⟩;refine Ae ?_;refine BQ BF 1 Ax [b8 (255-(Ed f.front:Int)%256)] (by simp[BF,KI,Mu];omega) rfl (by simp[maxLen]) λv2 h2 hle2 ho2=>?_;show CU N Γ _ [_,_,_,_,_,_,_,_,_,_,_,_,_,_,_,_,_,_,_,_,_,_,_,_,_,_,U (.string (str f.front)),_,_] _ _;refine Ap ((ho2.sl Ax).b2s) ?_;exact hK _ (ho.1.trans (hle1.trans hle2))
 ·refine Ad (λc2=>?_) (λc2=>?_)
  ·have R:=hs.rules 4 (λ_=>rfl) default;refine Ap @R ?_;refine Aj (λ(s':Nat×Value)=>[O,U (.agg #[.int .i64 f.ty,s,.int .i64 f.warm]),O,O,O,U s'.2,O,O,O,O,O,O,U s,U (.int .i64 f.reads.length),U (.int .i64 s'.1),O,O,O,O,O,O,O,O,O,O,O,O,O,O])
    (λs' h'=>s'.1<=f.reads.length/\AQ BF 1 h h' s'.2 ((f.reads.take s'.1).flatMap Rd.bytes)) (λs'=>f.reads.length-s'.1) (0,.slice O 0 0) (by try simp only[Pf];rfl) ⟨by simp,AQ.nil (ZX _)⟩ ?_
   rintro⟨i,v⟩ h' ⟨hi,ho⟩;have R:=(hs.le ho.1).rules 4 (λ_=>rfl) default;dsimp only at hi ho;refine Ap @R ?_;refine Ad (λc5=>?_) (λc5=>?_)
   ·refine AH @R @Rd.enc.eq_1 ?_;have hlt:i<f.reads.length:=oM;have ht:=htag _ (As default hlt);have hlen:=Hg (f.reads.take i) λr hr=>htag r (Z4 hr);have hlt2:=Aa5 i f.reads;refine BQ BF 1 Ax [b8 (f.reads.getD i default).ant,b8 (f.reads.getD i default).str,b8 (f.reads.getD i default).age] (by simp[BF,KE]) rfl (by simp[maxLen]) λv1 h1 hle1 ho1=>?_;refine Ae ?_;refine FO Ax GT (ho.le hle1) (ho1.sl Ax) (by simp only[Y5,ZR];omega) λv2 h2 ho2=>?_;refine Ae ?_;refine TA ho2 (by simp only[Zk,Y5,ZR];omega) λv3 h3 ho3=>?_;refine Ae ?_;refine Ag (i+1,v3) dM sE ⟨oM,?_⟩;have e:(List.take (i+1) f.reads).flatMap Rd.bytes=(List.take i f.reads).flatMap Rd.bytes++[b8 (f.reads.getD i default).ant,b8 (f.reads.getD i default).str,b8 (f.reads.getD i default).age]++(f.reads.getD i default).tag:=by
     rw[Ai default hlt,Z0];simp[Rd.bytes]
    dsimp only;rw[e];exact ho3
   ·refine Ae ?_;have hi':i=f.reads.length:=oM;subst hi';rw[Z5]at ho;refine Ar _ ?_ ⟨v,?_,rfl⟩
    ·try simp only[Pf]
    ·simpa[Fr.body,c2]using ho
  ·refine Ae ?_;refine Ad (λc3=>?_) (λc3=>?_)
   ·refine Ae ?_;refine BQ BF 1 Ax [b8 f.warm] (by simp[BF,KE]) rfl (by simp[maxLen]) λv1 h1 hle1 ho1=>?_;refine Ae ?_;refine FO Ax GT ((AQ.nil (ZX _)).le hle1) (ho1.sl Ax) (by simp) λv2 h2 ho2=>?_;refine Ae ?_;refine Ar _ ?_ ⟨v2,?_,rfl⟩
    ·try simp only[Pf]
    ·simpa[Fr.body,c3]using ho2
   ·refine Ae ?_;have e:f.body=[]:=by
     have h9:=h7 oM;simp[Fr.body,c3,h9]
    refine Ar _ ?_ ⟨.slice O 0 0,?_,rfl⟩
    ·try simp only[Pf]
    ·rw[e];exact AQ.nil (ZX _)
structure I9 where
 ty:Int
 sv:Value
 warm:Int
 deriving Inhabited
def I9.enc (r:I9):List Value:=[.int .i64 r.ty,r.sv,.int .i64 r.warm]
def I9.ok (h:Heap) (r:I9) (f:Fr):Prop:=r.ty=f.ty/\r.warm=f.warm/\Sl AbB h r.sv f.reads
def Xn (h:Heap) (v:Value) (fs:List Fr):Prop:=∃ rs:List I9,Sl I9.enc h v rs/\rs.length=fs.length/\∀ i,i<fs.length->I9.ok h (rs.getD i default) (fs.getD i default)
def JZ (b:List UInt8):Rd:=⟨(b.getD 0 0).toNat,(b.getD 1 0).toNat,(b.getD 2 0).toNat,(b.drop 3).take 8⟩
def HE:Nat->List UInt8->List Rd
 |0,_=>[]
 |n+1,b=>JZ b::HE n (b.drop 11)
def Fr.zero:Fr:=⟨0,[],0⟩
def AM (ty:Nat) (b:List UInt8):Fr:=⟨ty,if ty=1 then HE (b.length/11) b else[],if ty=3/\b.length=1 then(b.getD 0 0).toNat else 0⟩
def HM (s:List UInt8):Option (Fr×Nat):=
 if s.length<4\/s.getD 0 0≠165\/44<(s.getD 1 0).toNat\/s.length<4+(s.getD 1 0).toNat then O
 else
  let n:=(s.getD 1 0).toNat
  let f:=AM (s.getD 2 0).toNat ((s.drop 3).take n)
  if f.fault≠0\/f.bytes≠s.take (4+n)then O else U (f,4+n)
def BR (s:List UInt8):Prop:=if s.length=1 then s.getD 0 0=165 else s.getD 0 0=165/\(s.getD 1 0).toNat<=44/\s.length<4+(s.getD 1 0).toNat
instance (s:List UInt8):Decidable (BR s):=by unfold BR;infer_instance
def BZ (kind:Nat) (b:List UInt8):Option Fr:=
 if kind=1/\b.length%11=0/\b.length<=44 then
  if ∀r∈HE (b.length/11) b,r.ant<4 then U ⟨1,HE (b.length/11) b,0⟩else O
 else if kind=2/\b=[]then U ⟨2,[],0⟩
 else if kind=3/\b.length=1 then U ⟨3,[],(b.getD 0 0).toNat⟩
 else O
def first (s:List UInt8):Option (Fr×Nat)×Bool:=
 if s.getD 0 0≠165 then(O,false)
 else if s.length<2 then(O,true)
 else
  let n:=4+(s.getD 1 0).toNat
  if 48<n then(O,false)
  else if s.length<n then(O,true)
  else if 255-Iw (s.take (n-1))≠(s.getD (n-1) 0).toNat then(O,false)
  else((BZ (s.getD 2 0).toNat ((s.take (n-1)).drop 3)).map λf=>(f,n),false)
theorem QO:∀ (n:Nat) (b:List UInt8),n*11<=b.length->(HE n b).flatMap Rd.bytes=b.take (n*11):=by
 intro n;induction n with
 |zero=>intro b _;simp[HE]
 |succ n ih=>
  intro b hb;have hl:11<=b.length:=oM;simp only[HE,ZL];rw[ih _ (by rw[ZO];omega)];have e:b.take ((n+1)*11)=b.take 11++(b.drop 11).take (n*11):=by
   rw[show(n+1)*11=11+n*11 by omega,Aby]
  rw[e];congr 1
  match b,hl with
  |b0::b1::b2::r,_=>simp[JZ,Rd.bytes,Wo]
theorem Da:∀ (n:Nat) (b:List UInt8),(HE n b).length=n:=by
 intro n;induction n with
 |zero=>intro b;rfl
 |succ n ih=>intro b;simp[HE,ih]
theorem SX:∀ (n:Nat) (b:List UInt8),n*11<=b.length->∀ r∈HE n b,0<=r.ant/\0<=r.str/\r.str<=255/\0<=r.age/\r.age<=255/\r.tag.length=8:=by
 intro n;induction n with
 |zero=>intro b _ r hr;simp[HE]at hr
 |succ n ih=>
  intro b hb r hr;simp only[HE,X5]at hr;rcases hr with rfl|hr
  ·have h1:=(b.getD 1 0).toNat_lt;have h2:=(b.getD 2 0).toNat_lt;simp only[JZ,Zn,ZO];omega
  ·exact ih _ (by rw[ZO];omega) r hr
theorem Nv (f:Fr) (n:Nat) (hn:n<=44) (ty ck:UInt8) (B:List UInt8) (hB:B.length=n) (hty:f.ty=ty.toNat) :
  f.bytes=[165,UInt8.ofNat n,ty]++B++[ck]↔f.body=B/\ck.toNat=255-Iw ([165,UInt8.ofNat n,ty]++B):=by
 have hb:b8 f.ty=ty:=by rw[hty,Wo]
 have hn8:b8 (n:Int)=UInt8.ofNat n:=by
  apply Abe.1;have:=KI (n:Int);simp;omega
 have hs:∀ m:Nat,b8 (255-(m:Int)%256)=ck↔ck.toNat=255-m%256:=by
  intro m;rw[<-Abe];have:=KI (255-(m:Int)%256);omega
 constructor
 ·intro h;have hl:=congrArg ZT h;simp only[Fr.bytes,Fr.front,Zk,Y5,ZR]at hl;have hl2:f.body.length=n:=oM;have hfr:f.front=[165,UInt8.ofNat n,ty]++f.body:=by simp only[Fr.front,hl2,hb,hn8]
  simp only[Fr.bytes,hfr,Y7,YI,List.cons.injEq,true_and]at h;have h3:=List.append_inj h oM;refine⟨h3.1,?_⟩;rw[Mu,<-h3.1];exact(hs _).1 (by simpa using h3.2)
 ·rintro⟨h1,h2⟩;have hfr:f.front=[165,UInt8.ofNat n,ty]++B:=by simp only[Fr.front,h1,hB,hb,hn8]
  simp only[Fr.bytes,hfr];rw[Mu]at h2;rw[(hs _).2 h2]
theorem Fr.fault_zero {f:Fr}:f.fault=0↔1<=f.ty/\f.ty<=3/\(f.ty≠1->f.reads=[])/\(f.ty≠3->f.warm=0)/\0<=f.warm/\f.warm<=255/\f.reads.length<=4/\∀ r∈f.reads,¬r.bad:=by
 constructor
 ·intro h;obtain⟨h1,h2,h3,h4,h5,h6,h7,h8⟩:=Fr.fine h;exact⟨h1,h2,h7,h8,h5,h6,h3,h4⟩
 ·rintro⟨h1,h2,h7,h8,h5,h6,h3,h4⟩;unfold Fr.fault;rw[if_neg oM,if_neg,if_neg oM,if_neg oM,if_neg]
  ·rintro⟨r,hr,hb⟩;exact h4 r hr hb
  ·rintro(⟨a,b⟩|⟨a,b⟩)
   ·rw[h7 a]at b;simp at b
   ·exact b (h8 a)
theorem TZ (ty:UInt8) (B:List UInt8) (hn:B.length<=44):((AM ty.toNat B).fault=0/\(AM ty.toNat B).body=B->BZ ty.toNat B=U (AM ty.toNat B)) /\
  (¬((AM ty.toNat B).fault=0/\(AM ty.toNat B).body=B)->BZ ty.toNat B=O):=by
 by_cases t1:ty.toNat=1
 ·have hd:AM ty.toNat B=⟨1,HE (B.length/11) B,0⟩:=by simp[AM,t1]
  have hbody:(⟨1,HE (B.length/11) B,0⟩:Fr).body=B.take (B.length/11*11):=by
   simp only[Fr.body];rw[if_neg (by decide),QO _ _ (Abp _ _)]
  have hfine:=SX (B.length/11) B (Abp _ _);have hb2:B.take (B.length/11*11)=B↔B.length%11=0:=by
   constructor
   ·intro h;have:=congrArg ZT h;rw[Zn]at this;omega
   ·intro h;exact ZB oM
  have hf:(⟨1,HE (B.length/11) B,0⟩:Fr).fault=0↔∀ r∈HE (B.length/11) B,r.ant<4:=by
   rw[Fr.fault_zero];simp only[Da];constructor
   ·rintro⟨_,_,_,_,_,_,_,h⟩ r hr;have:=h r hr;simp only[Abx]at this;omega
   ·intro h;refine⟨by decide,by decide,by intro h;exact absurd rfl h,by intro _;trivial,by decide,by decide,oM,?_⟩;intro r hr hb;have h1:=hfine r hr;have h2:=h r hr;simp only[Abx]at hb;omega
  rw[hd,hbody,hb2,hf];simp only[BZ,t1,hn,true_and,and_true];constructor
  ·rintro⟨h1,h2⟩;rw[if_pos h2,if_pos h1]
  ·intro h;by_cases h2:B.length%11=0
   ·rw[if_pos h2,if_neg (λh1=>h ⟨h1,h2⟩)]
   ·rw[if_neg h2];simp
 ·by_cases t2:ty.toNat=2
  ·have hd:AM ty.toNat B=⟨2,[],0⟩:=by simp[AM,t2]
   have hbody:(⟨2,[],0⟩:Fr).body=[]:=by simp[Fr.body]
   have hf:(⟨2,[],0⟩:Fr).fault=0:=by decide
   rw[hd,hbody,hf];simp only[BZ,t2,true_and];constructor
   ·intro h;rw[if_neg oM,if_pos h.symm]
   ·intro h;rw[if_neg oM,if_neg (λe=>h e.symm),if_neg oM]
  ·by_cases t3:ty.toNat=3
   ·simp only[BZ,t3];by_cases hl:B.length=1
    ·have hd:AM 3 B=⟨3,[],(B.getD 0 0).toNat⟩:=by simp[AM,hl]
     rw[hd];have h0:=(B.getD 0 0).toNat_lt;have hbody:(⟨3,[],(B.getD 0 0).toNat⟩:Fr).body=B:=by
      match B,hl with
      |[x],_=>simp[Fr.body,Wo]
     have hf:(⟨3,[],(B.getD 0 0).toNat⟩:Fr).fault=0:=by
      rw[Fr.fault_zero];exact⟨dM,dM,by intro _;rfl,by intro h;exact absurd rfl h,dM,dM,by simp,by intro r hr;simp at hr⟩
     rw[hbody,hf];simp[hl]
    ·have hd:AM 3 B=⟨3,[],0⟩:=by simp[AM,hl]
     rw[hd];have:¬ ((⟨3,[],0⟩:Fr).fault=0/\(⟨3,[],0⟩:Fr).body=B):=by
      rintro⟨_,h⟩;rw[<-h]at hl;simp[Fr.body]at hl
     simp[this,hl]
   ·have:¬ ((AM ty.toNat B).fault=0/\(AM ty.toNat B).body=B):=by
     rintro⟨h,_⟩;rw[Fr.fault_zero]at h;simp only[AM]at h;omega
    simp[this,BZ,t1,t2,t3]
theorem RQ (s:List UInt8) (hs:s≠[]):(first s).1=HM s/\(HM s=O->((first s).2=true↔BR s))/\(HM s≠O->(first s).2=false):=by
 have hl:0<s.length:=Zx.2 hs;by_cases h0:s.getD 0 0=165;rotate_left
 ·have e1:first s=(O,false):=by unfold first;rw[if_pos h0]
  have e2:HM s=O:=by unfold HM;rw[if_pos (.inr (.inl h0))]
  have e3:¬ BR s:=by unfold BR;split;exact h0;intro h;exact h0 h.1
  rw[e1,e2];simp[e3]
 by_cases h1:s.length<2
 ·have e1:first s=(O,true):=by unfold first;rw[if_neg (λe=>e h0),if_pos h1]
  have e2:HM s=O:=by unfold HM;rw[if_pos (.inl oM)]
  have e3:BR s:=by unfold BR;rw[if_pos oM];exact h0
  rw[e1,e2];simp[e3]
 by_cases h2:44<(s.getD 1 0).toNat
 ·have e1:first s=(O,false):=by unfold first;rw[if_neg (λe=>e h0),if_neg h1];simp only;rw[if_pos oM]
  have e2:HM s=O:=by unfold HM;rw[if_pos oM]
  have e3:¬ BR s:=by unfold BR;rw[if_neg oM];omega
  rw[e1,e2];simp[e3]
 by_cases h3:s.length<4+(s.getD 1 0).toNat
 ·have e1:first s=(O,true):=by unfold first;rw[if_neg (λe=>e h0),if_neg h1];simp only;rw[if_neg oM,if_pos h3]
  have e2:HM s=O:=by unfold HM;rw[if_pos oM]
  have e3:BR s:=by unfold BR;rw[if_neg oM];exact⟨h0,oM,h3⟩
  rw[e1,e2];simp[e3]
 have e3:¬ BR s:=by unfold BR;rw[if_neg oM];omega
 have hn:(s.getD 1 0).toNat<=44:=oM;generalize hnn:(s.getD 1 0).toNat=n at *;have hB:((s.drop 3).take n).length=n:=by simp only[Zn,ZO];omega
 have hs1:s.take (4+n)=[165,UInt8.ofNat n,s.getD 2 0]++(s.drop 3).take n++[s.getD (3+n) 0]:=by
  have h4:s.take (4+n)=s.take (3+n)++[s.getD (3+n) 0]:=by rw[show 4+n=(3+n)+1 by omega,Ai 0 oM]
  have h5:s.take (3+n)=s.take 3++(s.drop 3).take n:=by rw[Aby]
  have h6:s.take 3=[165,UInt8.ofNat n,s.getD 2 0]:=by
   match s,h1,h3 with
   |[a,b],_,h3=>simp at h3;omega
   |a::b::c::r,_,_=>simp at h0 hnn ⊢;exact⟨h0,by rw[<-hnn];simp⟩
  rw[h4,h5,h6]
 have hs2:s.take (4+n-1)=[165,UInt8.ofNat n,s.getD 2 0]++(s.drop 3).take n:=by
  have:s.take (4+n-1)=(s.take (4+n)).take (3+n):=by rw[Abf,show min (3+n) (4+n)=4+n-1 by omega]
  rw[this,hs1,List.take_left' (by simp only[Zk,Y5,ZR,hB]<;>omega)]
 have hs3:(s.take (4+n-1)).drop 3=(s.drop 3).take n:=by rw[hs2];rfl
 have law:=TZ (s.getD 2 0) ((s.drop 3).take n) oM;have fb:=Nv (AM (s.getD 2 0).toNat ((s.drop 3).take n)) n hn (s.getD 2 0) (s.getD (3+n) 0) _ hB rfl;rw[<-hs1]at fb;have e1:first s=if 255-Iw (s.take (4+n-1))≠(s.getD (4+n-1) 0).toNat then(O,false)else((BZ (s.getD 2 0).toNat ((s.take (4+n-1)).drop 3)).map λf=>(f,4+n),false):=by
  unfold first;rw[if_neg (λe=>e h0),if_neg h1];simp only[hnn];rw[if_neg oM,if_neg oM]
 have e2:HM s=if(AM (s.getD 2 0).toNat ((s.drop 3).take n)).fault≠0\/(AM (s.getD 2 0).toNat ((s.drop 3).take n)).bytes≠s.take (4+n)then O else U (AM (s.getD 2 0).toNat ((s.drop 3).take n),4+n):=by
  unfold HM;rw[if_neg (by rw[hnn];rintro(h|h|h|h);omega;exact h h0;omega;omega)];simp only[hnn]
 rw[show 4+n-1=3+n by omega]at e1 hs2 hs3;rw[hs3,hs2]at e1;rw[e1,e2];by_cases hc:(s.getD (3+n) 0).toNat=255-Iw ([165,UInt8.ofNat n,s.getD 2 0]++(s.drop 3).take n)
 ·rw[if_neg oM];by_cases hb:(AM (s.getD 2 0).toNat ((s.drop 3).take n)).fault=0/\(AM (s.getD 2 0).toNat ((s.drop 3).take n)).body=(s.drop 3).take n
  ·rw[law.1 hb,if_neg]
   ·simp
   ·simp only[ne_eq,fb];rw[hb.1,hb.2];simp;exact hc
  ·rw[law.2 hb,if_pos]
   ·simp[e3]
   ·simp only[ne_eq,fb];by_cases hf:(AM (s.getD 2 0).toNat ((s.drop 3).take n)).fault=0
    ·exact .inr λh=>hb ⟨hf,h.1⟩
    ·exact .inl hf
 ·rw[if_pos oM,if_pos]
  ·simp[e3]
  ·simp only[ne_eq,fb];exact .inr λh=>hc h.2
theorem L5:∀ (n:Nat) (b:List UInt8) (j:Nat),j<n->(HE n b).getD j default=JZ (b.drop (j*11)):=by
 intro n;induction n with
 |zero=>intro b j hj;omega
 |succ n ih=>
  intro b j hj;cases j with
  |zero=>simp[HE]
  |succ j=>
   have:=ih (b.drop 11) j oM;rw[ZA,show 11+j*11=(j+1)*11 by omega]at this;simpa[HE]using this
theorem MX (n:Nat) (b:List UInt8) (j:Nat) (hj:j<n):(HE n b).take (j+1)=(HE n b).take j++[JZ (b.drop (j*11))]:=by
 rw[Ai default (by rw[Da];exact hj),L5 n b j hj]
theorem IG (b:UInt8):b=165↔b.toNat=165:=by rw[<-Abe];rfl
theorem GC (h:Heap):PH h (.agg #[.int .i64 0,.slice O 0 0,.int .i64 0]) Fr.zero:=⟨_,rfl,Sl.nil⟩
theorem Rd.enc_len (r:Rd):r.enc.length=4:=rfl
theorem Rd.enc_one (r:Rd):r.enc.all one=true:=rfl
theorem FX (b:UInt8):IntKind.i64.wrap (b.toNat:Int)=(b.toNat:Int):=by
 have:=b.toNat_lt;exact BC oM oM
theorem AQ.slf {α:Type} {enc:α->List Value} {sz:Nat} (he:∀ x,(enc x).length=sz) {h0 h:Heap} {v:Value} {l:List α} (ho:AQ enc sz h0 h v l):Sl enc (fr h0 h) v l:=by
 obtain⟨_,a,cap,h1,h2,_,h3⟩:=ho;refine⟨a,cap,h1,h2,?_⟩;rcases h3 with⟨_,h4,_⟩|⟨b,c,t,h4,h4',h5,h6,h7⟩
 ·exact .inl h4
 ·refine .inr ⟨_,h4,rfl,c,t,_,by simp only[fr,h4'];exact h5,?_,?_⟩
  ·rw[AZ he,h6];have:=Nat.mul_le_mul_right sz h2;simpa using this
  ·intro i hi;simpa using h7 i hi
def S72:Spec:=λargs h K=>∃ (k:Nat) (b:List UInt8),args=[.int .i64 k,.string (str b)]/\b.length<2^62 /\
 ∀ v h',Heap.le h h'->PH (fr h h') v ((BZ k b).getD Fr.zero)->K (.tuple #[v,.bool (BZ k b).isSome]) h'
set_option maxRecDepth 4000 in
theorem F72_ok {N:Num} {Γ:Ctx} [Ak Γ]:Sat S72 (SF N Γ F72):=by
 rintro _ h K ⟨k,b,rfl,hb,hK⟩;refine An rfl ?_;simp only[F72,Ze,Nat.reduceSub,Nat.reduceAdd];refine Ae ?_;have em:Int.tmod (b.length:Int) 11=((b.length%11:Nat):Int):=by rw[Aaz oM];omega
 rw[em];refine D2 (λenv h'=>∃ f v,Heap.le h h'/\PH (fr h h') v f/\BZ k b=U f/\env=[O,O,U (.agg #[.int .i64 0,.slice O 0 0,.int .i64 0]),O,U v,O,O,O,O,O,O,O,O,O]) ?_ ?_
 ·rintro env h' ⟨f,v,hle,⟨sv,rfl,hs⟩,hbo,rfl⟩;refine Ap @hs.one ?_;rw[hbo]at hK;exact hK _ h' hle ⟨sv,rfl,hs⟩
 ·refine Ad (λc1=>?_) (λc1=>?_)
  ·have hk:k=1:=oM;have hm:b.length%11=0:=oM;have hl:b.length<=44:=oM;have hbo:BZ k b=if ∀r∈HE (b.length/11) b,r.ant<4 then U (⟨1,HE (b.length/11) b,0⟩:Fr)else O:=by
    unfold BZ;rw[if_pos ⟨hk,hm,hl⟩]
   refine Ae ?_;refine Aj (λ(s:Nat×Value)=>[O,U (.string (str (b.drop (s.1*11)))),U (.agg #[.int .i64 0,.slice O 0 0,.int .i64 0]),O,U (.agg #[.int .i64 k,s.2,.int .i64 0]),O,O,O,O,O,O,O,O,O])
    (λs h'=>s.1<=b.length/11/\AQ AbB 4 h h' s.2 ((HE (b.length/11) b).take s.1)/\∀ j,j<s.1->((HE (b.length/11) b).getD j default).ant<4) (λs=>b.length/11-s.1) (0,.slice O 0 0)
    (by try simp only[Pf];rfl) ⟨dM,AQ.nil (ZX _),by intro j hj;dsimp only at hj;omega⟩ ?_
   rintro⟨j,v⟩ h' ⟨hj,ho,hg⟩;dsimp only at hj ho hg;refine Ae ?_;refine Ad (λc2=>?_) (λc2=>?_)
   ·have hj2:j<b.length/11:=by
     have:(b.drop (j*11)).length≠0:=by intro h0;exact c2 (Zs h0)
     simp only[ZO]at this;omega
    have hdl:(b.drop (j*11)).length=b.length-j*11:=ZO;refine Ap @FX ?_;refine Ad (λc3=>?_) (λc3=>?_)
    ·refine Ae ?_;have:BZ k b=O:=by
      rw[hbo,if_neg];intro h4;have h5:=h4 _ (As default (l:=HE (b.length/11) b) (i:=j) (by rw[Da];omega));rw[L5 _ _ _ hj2]at h5;simp only[JZ]at h5;omega
     rw[this]at hK;exact hK _ h' ho.1 (GC _)
    ·refine Ap @FX ?_;refine BQ AbB 4 Rd.enc_len [JZ (b.drop (j*11))] (by simp[AbB,JZ,List.take_drop]) rfl (by simp[maxLen]) λv1 h1 hle1 ho1=>?_;refine Ae ?_;refine Cb (AE hle1) ?_;refine Ae ?_;have hlt:=Aa5 j (HE (b.length/11) b);refine FO Rd.enc_len Rd.enc_one (ho.le hle1) (ho1.sl Rd.enc_len) (by simp only[Y5,ZR];omega) λv2 h2 ho2=>?_;refine Ap @ho2.one ?_;refine Ag (j+1,v2) dM ?_ ⟨dM,?_,?_⟩
     ·try simp only[Pf]
      rw[ZB (by rw[hdl];omega),ZA,show j*11+11=(j+1)*11 by omega]
     ·dsimp only;rw[MX _ _ _ hj2];exact ho2
     ·intro i hi;dsimp only at hi;by_cases e:i=j
      ·subst e;rw[L5 _ _ _ hj2];simp only[JZ];omega
      ·exact hg i oM
   ·refine Ae ?_;have hj2:j=b.length/11:=by
     have:=congrArg ZT (show b.drop (j*11)=[] by simpa using c2);simp only[ZO,ZR]at this;omega
    subst hj2;refine Ar _ ?_ ⟨⟨1,HE (b.length/11) b,0⟩,.agg #[.int .i64 1,v,.int .i64 0],ho.1,?_,?_,rfl⟩;rotate_left
    ·refine⟨v,rfl,?_⟩;have:=ho.slf Rd.enc_len
     rwa [ZB (by rw[Da];omega)]at this
    ·rw[hbo,if_pos];intro r hr;obtain⟨i,hi,rfl⟩:=Z3 hr;rw[Da]at hi;have:=hg i hi
     rwa [Zp,Zj (by rw[Da];exact hi)]at this
    ·try simp only[Pf];rw[hk];rfl
  ·refine Ae ?_;refine Ad (λc2=>?_) (λc2=>?_)
   ·refine Ae ?_;refine Ar _ ?_ ⟨⟨2,[],0⟩,.agg #[.int .i64 2,.slice O 0 0,.int .i64 0],ZX _,⟨_,rfl,Sl.nil (a:=O) (c:=0)⟩,?_,rfl⟩
    ·try simp only[Pf];rw[show k=2 by omega];rfl
    ·unfold BZ;rw[if_neg oM,if_pos ⟨oM,c2.2⟩]
   ·refine Ae ?_;refine Ad (λc3=>?_) (λc3=>?_)
    ·refine Ap @FX ?_;refine Ar _ ?_ ⟨⟨3,[],(b.getD 0 0).toNat⟩,.agg #[.int .i64 3,.slice O 0 0,.int .i64 (b.getD 0 0).toNat],ZX _,⟨_,rfl,Sl.nil (a:=O) (c:=0)⟩,?_,rfl⟩
     ·try simp only[Pf];rw[show k=3 by omega];rfl
     ·unfold BZ;rw[if_neg oM,if_neg (by rintro⟨h1,h2⟩;omega),if_pos oM]
    ·refine Ae ?_;have:BZ k b=O:=by
      unfold BZ;rw[if_neg oM,if_neg (by rintro⟨h1,h2⟩;exact c2 ⟨oM,h2⟩),if_neg oM]
     rw[this]at hK;exact hK _ h (ZX _) (GC _)
end Go.Cw
