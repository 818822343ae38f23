/- Part 4 of the proof of ConsoleSays: a small language for the program's functions, its soundness, and what the functions do. No conditions beyond the theorems' own. -/
import Derived.Test.YthhepmakjimhlabGreatDoorCw3
set_option linter.unusedSimpArgs false
set_option linter.unusedVariables false
set_option maxRecDepth 20000
open List renaming length_drop -> ZO, length_append -> Zk, length_take -> Zn, length_cons -> Y5, length_nil -> ZR, take_length -> Z5, mem_singleton -> YA, length_pos_iff -> Zx, mem_cons -> X5, mem_append -> Yd, map_append -> Aam, length_map -> Aaw, getD_eq_getElem?_getD -> Zp, take_of_length_le -> ZB, length_singleton -> Zo, getElem?_eq_getElem -> Zj, eq_nil_of_length_eq_zero -> Zs, append_assoc -> Zy, mem_cons_of_mem -> Yb, pairwise_cons -> Aaq, append_nil -> AaP, mem_of_mem_take -> Z4, getElem?_eq_some_iff -> Yk, not_mem_nil -> AaL, mem_map -> Yu, foldl_cons -> Aan, range -> Yh, foldl_append -> Aat, mem_range -> Zc, cons_append -> Y7, mem_append_left -> Yx, range_succ -> AaN, getElem?_append_left -> Zl, drop_eq_getElem_cons -> Aaj, flatMap_singleton -> AbF, length_filter_le -> Abl, getElem?_range -> Aa3, getD_cons_zero -> Z6, getD_cons_succ -> Z8, flatMap_append -> Z0, set_cons_zero -> AbH, take_append_of_le_length -> AbI, drop_length -> AbJ, any_eq_true -> Y8, sum_append -> AbK, getElem?_append_right -> YN, pairwise_singleton -> AbN, map_cons -> Yj, set_append_right -> AbP, pairwise_append -> Aa4, filter_append -> AaI, nodup_append -> Yp, any_eq_false -> AbR, getElem_inj -> AbS, drop_take -> AbU, map_take -> AbV, length -> ZT, getD -> AaO
open Go.Cw.Heap renaming le.refl -> ZX, set_ne -> ZW
open Int renaming toNat_natCast -> Aaa, toNat_of_nonneg -> AbE, tdiv_eq_ediv_of_nonneg -> AbL
open Go.Cw.Rl renaming enc_len -> AbD, enc -> AbG
open Nat renaming exists_eq_succ_of_ne_zero -> Aa2, le_refl -> Yq, zero_add -> Yn, le_trans -> YU, sub_self -> AbA, mul_le_mul -> AbM, mul_comm -> Aao, pow_le_pow_right -> ZZ, div_le_div_right -> AbQ, div_le_self -> Aax, add_assoc -> Zg, mul_one -> ZV
open Go.Cw.Si renaming enc_len -> Aa7, enc -> Aa6
open Bool renaming and_eq_true -> X6, false_and -> Aa8, true_and -> Abk, decide_and -> AbT
open Option renaming none -> O, some -> U, map_some -> YH
open Go.Cw.Rd renaming enc_len -> AbO, enc -> AbB
open Go.Cw.keeps renaming refl -> AbW
open Go.Cw.Fr renaming fault -> AbX
namespace Go.Cw
open Go
def S57:Spec:=λargs h K=>∃ (s:List UInt8),args=[.string (str s)]/\s≠[]/\s.length<2^62 /\
 ∀ v h',Heap.le h h'->PH (fr h h') v (((first s).1.map (·.1)).getD Fr.zero)->K (.tuple #[v,.int .i64 (((first s).1.map (·.2)).getD 0:Nat),.bool (first s).2]) h'
theorem F57_ok {N:Num} {Γ:Ctx} [Ak Γ] (H56:Sat S56 (Γ 56)) (H72:Sat S72 (Γ 72)):Sat S57 (SF N Γ F57):=by
 rintro _ h K ⟨s,rfl,hne,hb,hK⟩;have hl:0<s.length:=Zx.2 hne;refine An rfl ?_;simp only[F57,Ze,Nat.reduceSub,Nat.reduceAdd];refine Ae ?_;refine Ad (λc1=>?_) (λc1=>?_)
 ·refine Ae ?_;have:first s=(O,false):=by unfold first;rw[if_pos (by rw[Ne,IG];omega)]
  rw[this]at hK;exact hK _ h (ZX _) (GC _)
 have c1':s.getD 0 0=165:=by rw[IG];omega
 refine Ae ?_;refine Ad (λc2=>?_) (λc2=>?_)
 ·refine Ae ?_;have:first s=(O,true):=by unfold first;rw[if_neg (λe=>e c1'),if_pos oM]
  rw[this]at hK;exact hK _ h (ZX _) (GC _)
 have hn:=(s.getD 1 0).toNat_lt;have hf:first s=if 48<4+(s.getD 1 0).toNat then(O,false)else if s.length<4+(s.getD 1 0).toNat then(O,true)
   else if 255-Iw (s.take (4+(s.getD 1 0).toNat-1))≠(s.getD (4+(s.getD 1 0).toNat-1) 0).toNat then(O,false)
   else((BZ (s.getD 2 0).toNat ((s.take (4+(s.getD 1 0).toNat-1)).drop 3)).map λf=>(f,4+(s.getD 1 0).toNat),false):=by
  unfold first;rw[if_neg (λe=>e c1'),if_neg oM]
 generalize hnn:(s.getD 1 0).toNat=n at *;have e1:IntKind.i64.wrap (4+IntKind.i64.wrap (n:Int))=((4+n:Nat):Int):=by rw[BC (n:=(n:Int)) oM oM,BC oM oM];omega
 refine AH @hnn @e1 ?_;refine Ad (λc3=>?_) (λc3=>?_)
 ·refine Ae ?_;rw[if_pos oM]at hf;rw[hf]at hK;exact hK _ h (ZX _) (GC _)
 rw[if_neg oM]at hf;refine Ae ?_;refine Ad (λc4=>?_) (λc4=>?_)
 ·refine Ae ?_;rw[if_pos oM]at hf;rw[hf]at hK;exact hK _ h (ZX _) (GC _)
 rw[if_neg oM]at hf;have e2:IntKind.i64.wrap (((4+n:Nat):Int)-1)=((4+n-1:Nat):Int):=wN;refine Ap @e2 ?_;refine Aa H56 ⟨s.take (4+n-1),rfl,by simp only[Zn];omega,?_⟩;have hbs:=Qt (s.take (4+n-1));refine Ae ?_;refine Ad (λc5=>?_) (λc5=>?_)
 ·refine Ae ?_;rw[if_pos oM]at hf;rw[hf]at hK;exact hK _ h (ZX _) (GC _)
 rw[if_neg oM]at hf;refine AH @e2 @FX ?_;refine Aa H72 ⟨(s.getD 2 0).toNat,_,rfl,by simp only[ZO,Zn];omega,?_⟩;intro v h' hle hv;have hK2:=hK;rw[hf]at hK;obtain⟨sv,rfl,hsl⟩:=hv;refine Ap @hsl.one ?_;cases hbo:BZ (s.getD 2 0).toNat ((s.take (4+n-1)).drop 3)with
 |none=>
  rw[hbo]at hK hsl;refine Ap @hsl.one ?_;exact hK _ h' hle ⟨sv,rfl,hsl⟩
 |some f=>
  rw[hbo]at hK hsl;refine Ap @hsl.one ?_;exact hK _ h' hle ⟨sv,rfl,hsl⟩
def S59:Spec:=λargs h K=>∃ (s:List UInt8),args=[.string (str s)]/\s≠[]/\s.length<2^62/\K (.bool (decide (BR s))) h
theorem F59_ok {N:Num} {Γ:Ctx} [Ak Γ]:Sat S59 (SF N Γ F59):=by
 rintro _ h K ⟨s,rfl,hne,hb,hK⟩;have hl:0<s.length:=Zx.2 hne;have hn:=(s.getD 1 0).toNat_lt;refine An rfl ?_;simp only[F59,Ze,Nat.reduceSub,Nat.reduceAdd];refine Ae ?_;refine Ad (λc1=>?_) (λc1=>?_)
 ·refine Ae ?_;have:BR s↔((s.getD 0 0).toNat:Int)=165:=by unfold BR;rw[if_pos oM,IG];omega
  rw[decide_eq_decide.2 this]at hK;exact hK
 ·refine Ae ?_;generalize hnn:(s.getD 1 0).toNat=n at *;have e1:IntKind.i64.wrap (4+IntKind.i64.wrap (n:Int))=((4+n:Nat):Int):=by rw[BC (n:=(n:Int)) oM oM,BC oM oM];omega
  refine AH @hnn @e1 ?_;have:BR s↔(((s.getD 0 0).toNat:Int)=165/\(n:Int)<=44)/\(s.length:Int)<((4+n:Nat):Int):=by unfold BR;rw[if_neg oM,IG,hnn];omega
  rw[decide_eq_decide.2 this]at hK;exact hK
def S58:Spec:=λargs h K=>∃ (s:List UInt8),args=[.string (str s)]/\s.length<2^62 /\
 ∀ v h',Heap.le h h'->PH (fr h h') v (((HM s).map (·.1)).getD Fr.zero)->K (.tuple #[v,.int .i64 (((HM s).map (·.2)).getD 0:Nat)]) h'
theorem F58_ok {N:Num} {Γ:Ctx} [Ak Γ] (H17:Sat S17 (Γ 17)) (H22:Sat S22 (Γ 22)):Sat S58 (SF N Γ F58):=by
 rintro _ h K ⟨s,rfl,hb,hK⟩;refine An rfl ?_;simp only[F58,Ze,Nat.reduceSub,Nat.reduceAdd];by_cases h4:(s.length:Int)<4
 ·have hf:HM s=O:=by unfold HM;rw[if_pos (.inl oM)]
  refine Ap @h4 ?_;rw[hf]at hK;exact hK _ h (ZX _) (GC _)
 have hn:=(s.getD 1 0).toNat_lt;refine Ap @h4 ?_;generalize hnn:(s.getD 1 0).toNat=n at *;have e0:IntKind.i64.wrap (n:Int)=(n:Int):=BC oM oM;have e1:IntKind.i64.wrap (4+(n:Int))=((4+n:Nat):Int):=wN;have e3:IntKind.i64.wrap (3+(n:Int))=((3+n:Nat):Int):=wN;refine Ek @hnn @e0 @e1 @h4 ?_

 refine Ad (λc1=>?_) (λc1=>?_)
 ·refine Ae ?_;have hf:HM s=O:=by
   unfold HM;rw[if_pos];simp only[IG,ne_eq,hnn];omega
  rw[hf]at hK;exact hK _ h (ZX _) (GC _)
 have hn44:n<=44:=oM;have hsl:4+n<=s.length:=oM;have hf:HM s=if(AM (s.getD 2 0).toNat ((s.drop 3).take n)).fault≠0\/(AM (s.getD 2 0).toNat ((s.drop 3).take n)).bytes≠s.take (4+n)then O else U (AM (s.getD 2 0).toNat ((s.drop 3).take n),4+n):=by
  unfold HM;rw[if_neg (by simp only[IG,ne_eq,hnn];omega)];simp only[hnn]
 have hBl:((s.drop 3).take n).length=n:=by simp only[Zn,ZO];omega
 have hBe:(s.take (3+n)).drop 3=(s.drop 3).take n:=by rw[AbU];congr 1;omega
 refine Ek @hnn @e0 @e3 @FX ?_;rw[hBe];generalize hB:(s.drop 3).take n=B at *;generalize hty:s.getD 2 0=ty at *;refine AT (λenv h'=>∃ sv,AQ AbB 4 h h' sv (AM ty.toNat B).reads/\env=[U (.string (str s)),U (.agg #[.int .i64 0,.slice O 0 0,.int .i64 0]),O,U (.int .i64 n),U (.agg #[.int .i64 ty.toNat,sv,.int .i64 0]),U (.string (str B)),O,O,O,O,O,O,O,O,O,O,O,O,O,O,O]) ?_ ?_
 ·rintro env h' ⟨sv,ho,rfl⟩;have b0:ty.toNat=3->n=1->(AM ty.toNat B).warm=(B.getD 0 0).toNat:=by intro h1 h2;simp only[AM];rw[if_pos ⟨h1,oM⟩]
  have b1:¬ (ty.toNat=3/\n=1)->(AM ty.toNat B).warm=0:=by intro h1;simp only[AM];rw[if_neg oM]
  refine Ae ?_;refine AT (λenv h''=>h''=h'/\env=[U (.string (str s)),U (.agg #[.int .i64 0,.slice O 0 0,.int .i64 0]),O,U (.int .i64 n),U (.agg #[.int .i64 ty.toNat,sv,.int .i64 (AM ty.toNat B).warm]),U (.string (str B)),O,O,O,O,O,O,O,O,O,O,O,O,O,O,O]) ?_ ?_
  ·rintro env h2 ⟨e2,rfl⟩;rw[e2];clear e2;have hvf:PH (fr h h') (.agg #[.int .i64 ty.toNat,sv,.int .i64 (AM ty.toNat B).warm]) (AM ty.toNat B):=⟨sv,rfl,ho.slf AbO⟩
   have hv2:PH h' (.agg #[.int .i64 ty.toNat,sv,.int .i64 (AM ty.toNat B).warm]) (AM ty.toNat B):=hvf.le (Au _ _);refine Ae ?_;refine Aa H17 ⟨_,_,rfl,hv2,?_⟩;refine Ae ?_;by_cases hft:(AM ty.toNat B).fault=0
   ·have hn0:¬ (0:Int)<(AM ty.toNat B).fault:=oM;refine AH @hn0 @e1 ?_;refine Aa H22 ⟨_,_,rfl,hv2,hft,λh'' hle2=>?_⟩;refine AH @hn0 @e1 ?_;refine Ad (λc2=>?_) (λc2=>?_)
    ·refine Ae ?_;rw[if_pos (.inr c2)]at hf;rw[hf]at hK;exact hK _ h'' (ho.1.trans hle2) (GC _)
    ·refine AH @ho.one @e1 ?_;rw[if_neg (by rintro(h1|h1);exact h1 hft;exact c2 h1)]at hf;rw[hf]at hK;exact hK _ h'' (ho.1.trans hle2) (hvf.le (Fg hle2))
   ·refine Ap (show(0:Int)<(AM ty.toNat B).fault by omega) ?_;rw[if_pos (.inl hft)]at hf;rw[hf]at hK;exact hK _ h' ho.1 (GC _)
  ·refine Ad (λc2=>?_) (λc2=>?_)
   ·refine Ap @FX ?_;refine Ar _ ?_ ⟨rfl,rfl⟩
    try simp only[Pf];rw[b0 oM oM]
   ·refine Ae ?_;refine Ar _ ?_ ⟨rfl,rfl⟩
    try simp only[Pf];rw[b1 oM]
 ·refine Ad (λc2=>?_) (λc2=>?_)
  ·have ht:ty.toNat=1:=oM;have hr:(AM ty.toNat B).reads=HE (n/11) B:=by simp only[AM];rw[if_pos ht,hBl]
   refine Ae ?_;refine Aj (λ(p:Nat×Value)=>[U (.string (str s)),U (.agg #[.int .i64 0,.slice O 0 0,.int .i64 0]),O,U (.int .i64 n),U (.agg #[.int .i64 ty.toNat,p.2,.int .i64 0]),U (.string (str B)),U (.int .i64 (p.1*11:Nat)),O,O,O,O,O,O,O,O,O,O,O,O,O,O])
    (λp h'=>p.1<=n/11/\AQ AbB 4 h h' p.2 ((HE (n/11) B).take p.1)) (λp=>n/11-p.1) (0,.slice O 0 0)
    (by try simp only[Pf];rfl) ⟨dM,AQ.nil (ZX _)⟩ ?_
   rintro⟨j,v⟩ h' ⟨hj,ho⟩;dsimp only at hj ho;refine Ae ?_;refine Ad (λc3=>?_) (λc3=>?_)
   ·have hj2:j<n/11:=oM;refine Ap @FX ?_;have e5:(B.take (j*11+11)).drop (j*11+3)=((B.drop (j*11)).drop 3).take 8:=by
     rw[AbU,List.drop_drop];congr 1;omega
    refine BQ AbB 4 AbO [JZ (B.drop (j*11))] (by simp[AbB,JZ,e5]) rfl (by simp[maxLen]) λv1 h1 hle1 ho1=>?_;refine Ae ?_;refine Cb (AE hle1) ?_;refine Ae ?_;have hlt:=List.length_take_le j (HE (n/11) B);refine FO AbO Rd.enc_one (ho.le hle1) (ho1.sl AbO) (by simp only[Y5,ZR];omega) λv2 h2 ho2=>?_;refine Ap @ho2.one ?_;refine Ag (j+1,v2) dM ?_ ⟨dM,?_⟩
    ·try simp only[Pf];congr 1;omega
    ·dsimp only;rw[MX _ _ _ hj2];exact ho2
   ·refine Ae ?_;have hj2:j=n/11:=oM;subst hj2;rw[ZB (by rw[Da];omega)]at ho;refine Ar _ ?_ ⟨v,by rw[hr];exact ho,rfl⟩
    try simp only[Pf]
  ·have hr:(AM ty.toNat B).reads=[]:=by simp only[AM];rw[if_neg oM]
   refine Ae ?_;refine Ar _ ?_ ⟨.slice O 0 0,by rw[hr];exact AQ.nil (ZX _),rfl⟩
   try simp only[Pf]
def feedN:Nat->List UInt8->List Fr×List UInt8×Nat
 |0,s=>([],s,0)
 |n+1,s=>
  if s=[]then([],[],0)else
  match HM s with
  |some (f,k)=>(f::(feedN n (s.drop k)).1,(feedN n (s.drop k)).2)
  |none=>if BR s then([],s,0)else((feedN n (s.drop 1)).1,(feedN n (s.drop 1)).2.1,(feedN n (s.drop 1)).2.2+1)
def feed (s:List UInt8):List Fr×List UInt8×Nat:=feedN s.length s
theorem Hd {s:List UInt8} {f:Fr} {k:Nat} (h:HM s=U (f,k)):4<=k/\k<=s.length/\k<=48/\f.fault=0/\f.bytes=s.take k:=by
 unfold HM at h;split at h
 ·cases h
 ·rename_i h1;simp only at h;split at h
  ·cases h
  ·rename_i h2;simp only[Option.some.injEq,Prod.mk.injEq]at h;obtain⟨rfl,rfl⟩:=h;refine⟨oM,oM,oM,?_,?_⟩
   ·exact Classical.byContradiction λe=>h2 (.inl e)
   ·exact Classical.byContradiction λe=>h2 (.inr e)
theorem Ny:∀ (n m:Nat) (s:List UInt8),s.length<=n->s.length<=m->feedN n s=feedN m s:=by
 intro n;induction n with
 |zero=>
  intro m s h1 h2;have:s=[]:=Zs oM;subst this;cases m<;>simp[feedN]
 |succ n ih=>
  intro m s h1 h2;by_cases hs:s=[]
  ·subst hs;cases m<;>simp[feedN]
  ·have hl:0<s.length:=Zx.2 hs;cases m with
   |zero=>omega
   |succ m=>
    simp only[feedN,hs,if_false];cases hf:HM s with
    |none=>
     simp only;rw[ih m (s.drop 1) (by rw[ZO];omega) (by rw[ZO];omega)]
    |some p=>
     obtain⟨f,k⟩:=p;have:=Hd hf;simp only;rw[ih m (s.drop k) (by rw[ZO];omega) (by rw[ZO];omega)]
theorem FSx:feed []=([],[],0):=rfl
theorem Hc {s:List UInt8} (hs:s≠[]):feed s=match HM s with
  |some (f,k)=>(f::(feed (s.drop k)).1,(feed (s.drop k)).2)
  |none=>if BR s then([],s,0)else((feed (s.drop 1)).1,(feed (s.drop 1)).2.1,(feed (s.drop 1)).2.2+1):=by
 have hl:0<s.length:=Zx.2 hs;obtain⟨n,hn⟩:∃ n,s.length=n+1:=⟨s.length-1,oM⟩
 unfold feed
 conv=>lhs;rw[hn]
 simp only[feedN,hs,if_false];cases hf:HM s with
 |none=>simp only;rw[Ny n (s.drop 1).length (s.drop 1) (by rw[ZO];omega) (Yq _)]
 |some p=>
  obtain⟨f,k⟩:=p;have:=Hd hf;simp only;rw[Ny n (s.drop k).length (s.drop k) (by rw[ZO];omega) (Yq _)]
def Ke (rest:List UInt8) (lost:Nat):List Value:=[.string (str rest),.int .i64 lost]
def DA (h:Heap) (a:Addr) (rest:List UInt8) (lost:Nat):Prop:=Ah h a (Ke rest lost)
theorem DA.rules {h:Heap} {a:Addr} {rest:List UInt8} {lost:Nat} (ho:DA h a rest lost):h.cell a=U (.string (str rest))/\h.cell (a.add 0)=U (.string (str rest))/\h.cell (a.add 1)=U (.int .i64 lost)/\h.row a 2=U #[.string (str rest),.int .i64 lost]:=by
 obtain⟨h1,h2,h3⟩:=Ah.rules ho;exact⟨h2 (by simp[Ke]),h2 (by simp[Ke]),h1 1 (by simp[Ke]),h3⟩
def S26:Spec:=λargs h K=>∃ a rest lost,args=[.pointer (U a)]/\DA h a rest lost/\K (.int .i64 lost) h
theorem F26_ok {N:Num} {Γ:Ctx} [Ak Γ]:Sat S26 (SF N Γ F26):=by
 rintro _ h K ⟨a,rest,lost,rfl,ho,hK⟩;refine An rfl ?_;simp only[F26,Ze,Nat.reduceSub,Nat.reduceAdd];have R:=ho.rules;refine Ap @R ?_;exact hK
def S24:Spec:=λargs h K=>∃ a rest lost s,args=[.pointer (U a),.string (str s)]/\DA h a rest lost/\rest.length+s.length<=10000000/\lost<=2^60 /\
 ∀ v h',keeps a 2 h h'->DA h' a (feed (rest++s)).2.1 (lost+(feed (rest++s)).2.2)->Xn (fr h h') v (feed (rest++s)).1->K v h'
def K8 (g:Heap) (rs:List I9) (fs:List Fr):Prop:=rs.length=fs.length/\∀ i,i<fs.length->I9.ok g (rs.getD i default) (fs.getD i default)
theorem K8.push {g g':Heap} {rs:List I9} {fs:List Fr} (hg:K8 g rs fs) (hl:Heap.le g g') {r:I9} {f:Fr} (hr:I9.ok g' r f):K8 g' (rs++[r]) (fs++[f]):=by
 obtain⟨h1,h2⟩:=hg;refine⟨by simp[h1],λi hi=>?_⟩;simp only[Zk,Y5,ZR]at hi;by_cases e:i<fs.length
 ·have:=h2 i e;simp only[Zp]at this ⊢;rw[Zl oM,Zl e];exact⟨this.1,this.2.1,this.2.2.le hl⟩
 ·have e':i=fs.length:=oM;subst e';simp only[Zp];rw[YN oM,YN (Yq _)];simpa[h1]using hr
theorem K8.le {g g':Heap} {rs:List I9} {fs:List Fr} (hg:K8 g rs fs) (hl:Heap.le g g'):K8 g' rs fs:=
 ⟨hg.1,λi hi=>let ⟨a,b,c⟩:=hg.2 i hi;⟨a,b,c.le hl⟩⟩
theorem I9.enc_len (r:I9):r.enc.length=3:=rfl
theorem Lw {a:Addr} {n:Nat} {h0 g:Heap} (k:keeps a n h0 g) {o:Obj} (ha:g a.block=U o):∀ b,g b=O->h0 b=O:=by
 intro b hb;cases hh:h0 b with
 |none=>rfl
 |some x=>
  by_cases e:b=a.block
  ·subst e;rw[ha]at hb;cases hb
  ·rw[k.1 b x e hh]at hb;cases hb
theorem Wh {h0 g:Heap} {b:Nat} {o o':Obj} (hb:h0 b=U o):fr h0 (g.set b o')=fr h0 g:=by
 funext x;simp only[fr,Heap.set];split
 ·rename_i hx;split
  ·rename_i e;subst e;rw[hb]at hx;cases hx
  ·rfl
 ·rfl
def Ey (h0:Heap) (a:Addr) (rest:List UInt8) (lost:Nat) (out:Value) (fs:List Fr) (h:Heap):Prop:=
 ∃ g rs,AQ I9.enc 3 g h out rs/\DA g a rest lost/\keeps a 2 h0 g/\K8 (fr h0 g) rs fs
theorem Ey.line {h0:Heap} {a:Addr} {rest:List UInt8} {lost:Nat} {out:Value} {fs:List Fr} {h:Heap} (hI:Ey h0 a rest lost out fs h):DA h a rest lost:=by
 obtain⟨g,rs,h1,h2,h3,h4⟩:=hI;exact Ah.le h2 h1.1
theorem Ey.grow {h0:Heap} {a:Addr} {rest:List UInt8} {lost:Nat} {out:Value} {fs:List Fr} {h h1:Heap} (hI:Ey h0 a rest lost out fs h) (hl:Heap.le h h1) :
  ∃ g rs,AQ I9.enc 3 g h1 out rs/\DA g a rest lost/\keeps a 2 h0 g/\K8 (fr h0 g) rs fs/\Heap.le (fr h h1) (fr h0 g):=by
 obtain⟨g,rs,a1,a2,a3,a4⟩:=hI;have jl:=Db g (fr h h1);refine⟨join g (fr h h1),rs,a1.grow hl,Ah.le a2 jl,a3.trans (.of_le jl),a4.le (Fg jl),?_⟩;intro b o hb;have hbn:h b=O:=by
  cases hh:h b with
  |none=>rfl
  |some x=>simp[fr,hh]at hb
 obtain⟨_,c,t,h5,_⟩:=a2;have hgb:g b=O:=AC a1.1 b hbn;have h0b:h0 b=O:=Lw a3 h5 b hgb;have e:(join g (fr h h1)) b=U o:=by simp only[join,hgb];simpa using hb
 simp only[fr,h0b];exact e
theorem Ey.add {h0:Heap} {a:Addr} {rest:List UInt8} {lost:Nat} {out:Value} {fs:List Fr} {h:Heap} {g:Heap} {rs:List I9} {r:I9} {f:Fr}
  (h4:DA g a rest lost) (h5:keeps a 2 h0 g) (h6:K8 (fr h0 g) rs fs) (hr:I9.ok (fr h0 g) r f) (ho:AQ I9.enc 3 g h out (rs++[r])):Ey h0 a rest lost out (fs++[f]) h:=
 ⟨g,rs++[r],ho,h4,h5,h6.push (ZX _) hr⟩
theorem Ey.write {N:Num} {Γ:Ctx} {h0:Heap} {a:Addr} {rest:List UInt8} {lost:Nat} {out:Value} {fs:List Fr} {h:Heap} (hI:Ey h0 a rest lost out fs h) (h00:∃ o,h0 a.block=U o) (j:Nat) {x:Value} (rest':List UInt8) (lost':Nat)
  (hx:x.cells.size=1) (h1:x.cells.toList.all one=true) (hj:j+1<=2) (he:(Ke rest lost).take j++x.cells.toList++(Ke rest lost).drop (j+1)=Ke rest' lost') {K:Value->Heap->Prop}
  (hK:∀ h',Ey h0 a rest' lost' out fs h'->K undef h'):By N Γ (.st 1) [.pointer (U (a.add j)),x] h K:=by
 obtain⟨g,rs,a1,a2,a3,a4⟩:=hI;have a2':=Ah.le a2 a1.1;obtain⟨o0,ho0⟩:=h00;have hg:∃ o,g a.block=U o:=by obtain⟨_,c,t,h5,_⟩:=a2;exact⟨_,h5⟩
 obtain⟨og,hog⟩:=hg;have hgh:g a.block=h a.block:=by rw[hog,a1.1 _ _ hog]
 refine Br a2' j 1 hx h1 oM hj λo h2 h3=>hK _ ⟨g.set a.block o,rs,a1.set hog,?_,a3.trans (h3 g hgh),?_⟩
 ·have:=h2 g hgh;rw[he]at this;exact this
 ·rw[Wh ho0];exact a4
theorem Ey.done {h0:Heap} {a:Addr} {rest:List UInt8} {lost:Nat} {out:Value} {fs:List Fr} {h:Heap} (hI:Ey h0 a rest lost out fs h) (h00:∃ o,h0 a.block=U o):keeps a 2 h0 h/\DA h a rest lost/\Xn (fr h0 h) out fs:=by
 obtain⟨g,rs,a1,a2,a3,a4⟩:=hI;refine⟨a3.trans (.of_le a1.1),Ah.le a2 a1.1,rs,?_,a4.1,λi hi=>?_⟩
 ·obtain⟨_,c,t,h5,_⟩:=a2;have:=(a1.slf (sz:=3) I9.enc_len).le (Qn (g:=h0) (Lw a3 h5));exact this
 ·have:=a4.2 i hi;exact⟨this.1,this.2.1,this.2.2.le (Fg a1.1)⟩
theorem F24_ok {N:Num} {Γ:Ctx} [Ak Γ] (H57:Sat S57 (Γ 57)):Sat S24 (SF N Γ F24):=by
 rintro _ h K ⟨a,rest,lost,s,rfl,ho,hlen,hlost,hK⟩;have h00:∃ o,h a.block=U o:=by obtain⟨_,c,t,h5,_⟩:=ho;exact⟨_,h5⟩
 refine An rfl ?_;simp only[F24,Ze,Nat.reduceSub,Nat.reduceAdd];refine Ap @ho.rules ?_;refine AA (λenv h'=>∃ s' out l fs,Ey h a rest l out fs h'/\feed (rest++s)=(fs,s',l-lost)/\lost<=l/\l<=2^61/\env=[U (.pointer (U a)),U (.string (str s')),O,U out,O,O,O,O,O,O,O,O,O,O,O,O,O]) ?_ ?_
 ·rintro env h' ⟨s',out,l,fs,hI,hf,hl,_,rfl⟩;refine Ae ?_;refine hI.write h00 0 s' l rfl rfl oM rfl λh2 hI2=>?_;refine Ae ?_;obtain⟨k1,k2,k3⟩:=hI2.done h00;rw[hf]at hK;refine hK out h2 k1 ?_ k3;dsimp only;rw[show lost+(l-lost)=l by omega];exact k2
 ·refine Aj (λ(p:List UInt8×Value×Nat)=>[U (.pointer (U a)),U (.string (str p.1)),O,U p.2.1,O,O,O,O,O,O,O,O,O,O,O,O,O])
   (λp h'=>∃ fs,Ey h a rest p.2.2 p.2.1 fs h'/\feed (rest++s)=(fs++(feed p.1).1,(feed p.1).2.1,p.2.2-lost+(feed p.1).2.2)/\lost<=p.2.2/\p.2.2+p.1.length<=lost+10000000/\fs.length*4+p.1.length<=10000000)
   (λp=>p.1.length) (rest++s,.slice O 0 0,lost) sE ⟨[],⟨h,[],AQ.nil (ZX _),ho,AbW _ _ _,by simp[K8]⟩,by simp,by simp,by simp;omega,by simp;omega⟩ ?_
  rintro⟨s',out,l⟩ h' ⟨fs,hI,hf,hl,hb1,hb2⟩;dsimp only at hI hf hl hb1 hb2;refine Ae ?_;refine Ad (λc1=>?_) (λc1=>?_);rotate_left
  ·have:s'=[]:=by simpa using c1
   subst this;refine Ae ?_;refine Ar _ ?_ ⟨[],out,l,fs,hI,?_,hl,oM,rfl⟩
   ·try simp only[Pf]
   ·rw[hf,FSx];simp
  have hlaw:=RQ s' c1;have hfc:=Hc c1;have hp:0<s'.length:=Zx.2 c1;refine Ae ?_;refine Aa H57 ⟨s',rfl,c1,oM,λv h1 hle hv=>?_⟩;obtain⟨g,rs,a1,a2,a3,a4,a5⟩:=hI.grow hle;have hI1:Ey h a rest l out fs h1:=⟨g,rs,a1,a2,a3,a4⟩
  rw[hlaw.1]at hv ⊢;obtain⟨sv,rfl,hsv⟩:=hv;refine Ap @hsv.one ?_;cases hfa:HM s' with
  |none=>
   rw[hfa]at hfc hsv;simp only at hfc;have hb:=hlaw.2.1 hfa;by_cases hw:BR s'
   ·have hw2:=hb.2 hw;rw[if_pos hw]at hfc;refine Ap @hw2 ?_;refine Ar _ ?_ ⟨s',out,l,fs,hI1,?_,hl,oM,rfl⟩
    ·try simp only[Pf]
    ·rw[hf,hfc];simp
   ·have hw2:(first s').2=false:=by
     cases h2:(first s').2 with
     |false=>rfl
     |true=>exact absurd (hb.1 h2) hw
    rw[if_neg hw]at hfc;refine AH @hw2 @hI1.line.rules ?_;refine hI1.write h00 1 rest (l+1) rfl rfl oM rfl λh2 hI2=>?_;refine Ae ?_;refine Ag (s'.drop 1,out,l+1) (by simp only[ZO];omega) ?_ ⟨fs,hI2,?_,dM,by simp only[ZO];omega,by simp only[ZO];omega⟩
    ·try simp only[Pf];rw[ZB oM]
    ·rw[hf,hfc];dsimp only;congr 2;omega
  |some p=>
   obtain⟨f,k⟩:=p;have hk:=Hd hfa;have hw2:=hlaw.2.2 (by rw[hfa];simp);rw[hfa]at hfc hsv;simp only at hfc;refine Ap @hw2 ?_;refine Tz oM ?_;refine Ap @hsv.one ?_;refine BQ I9.enc 3 I9.enc_len [⟨f.ty,sv,f.warm⟩] (by simp[I9.enc]) rfl (by simp[maxLen]) λv1 h2 hle2 ho1=>?_;refine Ae ?_;refine D7 I9.enc_len (by intro x hx;simp at hx;subst hx;simp[I9.enc,P8,hsv.one]) (a1.le hle2) (ho1.sl I9.enc_len) (by rw[a4.1];simp only[Y5,ZR];omega) λv2 h3 ho2=>?_;have hI3:=Ey.add a2 a3 a4 (r:=⟨f.ty,sv,f.warm⟩) (f:=f) ⟨rfl,rfl,by simpa using hsv.le a5⟩ ho2;refine Ae ?_;refine Ag (s'.drop k,v2,l) (by simp only[ZO];omega) ?_ ⟨fs++[f],hI3,?_,hl,by simp only[ZO];omega,by simp only[ZO,Zk,Y5,ZR];omega⟩
   ·try simp only[Pf];rw[ZB oM]
   ·rw[hf,hfc];simp
theorem F25_ok {N:Num} {Γ:Ctx} [Ak Γ] (H58:Sat S58 (Γ 58)) (H59:Sat S59 (Γ 59)):Sat S24 (SF N Γ F25):=by
 rintro _ h K ⟨a,rest,lost,s,rfl,ho,hlen,hlost,hK⟩;have h00:∃ o,h a.block=U o:=by obtain⟨_,c,t,h5,_⟩:=ho;exact⟨_,h5⟩
 refine An rfl ?_;simp only[F25,Ze,Nat.reduceSub,Nat.reduceAdd];refine Ap @ho.rules ?_;refine AA (λenv h'=>∃ s' out l fs,Ey h a rest l out fs h'/\feed (rest++s)=(fs,s',l-lost)/\lost<=l/\l<=2^61/\env=[U (.pointer (U a)),U (.string (str s')),O,U out,O,O,O,O,O,O,O,O,O,O,O,O,O]) ?_ ?_
 ·rintro env h' ⟨s',out,l,fs,hI,hf,hl,_,rfl⟩;refine Ae ?_;refine hI.write h00 0 s' l rfl rfl oM rfl λh2 hI2=>?_;refine Ae ?_;obtain⟨k1,k2,k3⟩:=hI2.done h00;rw[hf]at hK;refine hK out h2 k1 ?_ k3;dsimp only;rw[show lost+(l-lost)=l by omega];exact k2
 ·refine Aj (λ(p:List UInt8×Value×Nat)=>[U (.pointer (U a)),U (.string (str p.1)),O,U p.2.1,O,O,O,O,O,O,O,O,O,O,O,O,O])
   (λp h'=>∃ fs,Ey h a rest p.2.2 p.2.1 fs h'/\feed (rest++s)=(fs++(feed p.1).1,(feed p.1).2.1,p.2.2-lost+(feed p.1).2.2)/\lost<=p.2.2/\p.2.2+p.1.length<=lost+10000000/\fs.length*4+p.1.length<=10000000)
   (λp=>p.1.length) (rest++s,.slice O 0 0,lost) sE ⟨[],⟨h,[],AQ.nil (ZX _),ho,AbW _ _ _,by simp[K8]⟩,by simp,by simp,by simp;omega,by simp;omega⟩ ?_
  rintro⟨s',out,l⟩ h' ⟨fs,hI,hf,hl,hb1,hb2⟩;dsimp only at hI hf hl hb1 hb2;refine Ae ?_;refine Ad (λc1=>?_) (λc1=>?_);rotate_left
  ·have:s'=[]:=Zs oM;subst this;refine Ae ?_;refine Ar _ ?_ ⟨[],out,l,fs,hI,?_,hl,oM,rfl⟩
   ·try simp only[Pf]
   ·rw[hf,FSx];simp
  have c1:s'≠[]:=by intro e;subst e;simp at c1
  have hfc:=Hc c1;have hp:0<s'.length:=oM;refine Ae ?_;refine Aa H58 ⟨s',rfl,oM,λv h1 hle hv=>?_⟩;obtain⟨g,rs,a1,a2,a3,a4,a5⟩:=hI.grow hle;have hI1:Ey h a rest l out fs h1:=⟨g,rs,a1,a2,a3,a4⟩
  obtain⟨sv,rfl,hsv⟩:=hv;refine Ap @hsv.one ?_;cases hfa:HM s' with
  |none=>
   rw[hfa]at hfc hsv;simp only at hfc;refine Ae ?_;refine Aa H59 ⟨s',rfl,c1,oM,?_⟩;refine Ae ?_;refine Ad (λhw=>?_) (λhw=>?_)
   ·rw[if_pos hw]at hfc;refine Ae ?_;refine Ar _ ?_ ⟨s',out,l,fs,hI1,?_,hl,oM,rfl⟩
    ·try simp only[Pf]
    ·rw[hf,hfc];simp
   ·rw[if_neg hw]at hfc;refine Ap @hI1.line.rules ?_;refine hI1.write h00 1 rest (l+1) rfl rfl oM rfl λh2 hI2=>?_;refine Ae ?_;refine Ag (s'.drop 1,out,l+1) (by simp only[ZO];omega) ?_ ⟨fs,hI2,?_,dM,by simp only[ZO];omega,by simp only[ZO];omega⟩
    ·try simp only[Pf];rw[ZB oM]
    ·rw[hf,hfc];dsimp only;congr 2;omega
  |some p=>
   obtain⟨f,k⟩:=p;have hk:=Hd hfa;rw[hfa]at hfc hsv;simp only at hfc;refine Ae ?_;refine Tx oM ?_;refine Ap @hsv.one ?_;refine BQ I9.enc 3 I9.enc_len [⟨f.ty,sv,f.warm⟩] (by simp[I9.enc]) rfl (by simp[maxLen]) λv1 h2 hle2 ho1=>?_;refine Ae ?_;refine D7 I9.enc_len (by intro x hx;simp at hx;subst hx;simp[I9.enc,P8,hsv.one]) (a1.le hle2) (ho1.sl I9.enc_len) (by rw[a4.1];simp only[Y5,ZR];omega) λv2 h3 ho2=>?_;have hI3:=Ey.add a2 a3 a4 (r:=⟨f.ty,sv,f.warm⟩) (f:=f) ⟨rfl,rfl,by simpa using hsv.le a5⟩ ho2;refine Ae ?_;refine Ag (s'.drop k,v2,l) (by simp only[ZO];omega) ?_ ⟨fs++[f],hI3,?_,hl,by simp only[ZO];omega,by simp only[ZO,Zk,Y5,ZR];omega⟩
   ·try simp only[Pf];rw[ZB oM]
   ·rw[hf,hfc];simp
structure Al where
 rule:Int
 epoch:Int
 tag:List UInt8
 deriving DecidableEq,Inhabited
def DL (a:Al):List Value:=[.int .i64 a.rule,.int .i64 a.epoch,.string (str a.tag)]
theorem Bu (a:Al):(DL a).length=3:=rfl
def GS (b:Bool):Value:=.bool b
structure Wa where
 c:Nat->Int
 rs:List Rl
 ln:Nat->List UInt8×Nat
 wm:Nat->Int
 dr:Nat->Nat
 kn:List (List UInt8)
 now:Nat
 A:List Si
 E:List (List Si)
 al:List Al
def Ez {α:Type} (f:Nat->α) (k:Nat) (v:α):Nat->α:=λi=>if i=k then v else f i
theorem EH {α:Type} {f:Nat->α} {k:Nat} {v:α}:Ez f k v k=v:=by simp[Ez]
theorem EG {α:Type} {f:Nat->α} {i k:Nat} {v:α} (h:i≠k):Ez f k v i=f i:=by simp[Ez,h]
def CT (c:Nat->Int):Prop:=c 0<1\/50<c 0\/c 1<0\/50<c 1\/c 2<1\/8<c 2\/c 3<1\/c 2<c 3\/c 4<1\/8<c 4\/c 5<1\/c 4<c 5
structure Wa.Ok (w:Wa) (fed:Nat):Prop where
 c0:1<=w.c 0/\w.c 0<=50
 c1:0<=w.c 1/\w.c 1<=50
 c2:1<=w.c 2/\w.c 2<=8
 c3:1<=w.c 3/\w.c 3<=w.c 2
 c4:1<=w.c 4/\w.c 4<=8
 c5:1<=w.c 5/\w.c 5<=w.c 4
 wh:∀ k,k<16->-1<=w.c (6+k)/\w.c (6+k)<=7
 rl:w.rs.length<=6
 rf:∀ r∈w.rs,AY r=0
 now:w.now<=1000
 sum:11*(w.A.length+w.dr 1+w.dr 2+w.dr 3+w.dr 4)+((w.ln 0).1.length+(w.ln 0).2)+((w.ln 1).1.length+(w.ln 1).2)+((w.ln 2).1.length+(w.ln 2).2)+((w.ln 3).1.length+(w.ln 3).2)<=fed
 d0:w.dr 0=0
 kn:w.kn.length<=12
 knn:w.kn.Nodup
 Ab:∀ s∈w.A,¬Cs 1000 s/\s.tag∈w.kn/\AK s.tag≠0
 El:w.E.length=Cd (w.c 0).toNat (w.c 1).toNat w.now
 Eb:∀ l∈w.E,l.length<=2000/\∀ s∈l,¬Cs 1000 s/\s.tag∈w.kn/\AK s.tag≠0
 al:w.al.length<=100*w.E.length
structure WF (F:Nat->Value) (w:Wa) (rv:Value) (pd pt px mk:Nat) (av:Value):Prop where
 c:∀ k,k<22->F k=.int .i64 (w.c k)
 r:F 22=rv
 l1:∀ k,k<4->F (23+2*k)=.string (str (w.ln k).1)
 l2:∀ k,k<4->F (24+2*k)=.int .i64 ((w.ln k).2:Nat)
 wm:∀ k,k<4->F (31+k)=.int .i64 (w.wm k)
 d:F 35=.pointer (U ⟨pd,0,O⟩)
 t:F 36=.pointer (U ⟨pt,0,O⟩)
 x:F 37=.pointer (U ⟨px,0,O⟩)
 k:F 38=.map (U mk)
 dr:∀ k,k<5->F (39+k)=.int .i64 (w.dr k:Nat)
 a:F 44=av
def Uc (kv:List (List UInt8×Bool)) (kn:List (List UInt8)):Prop:=(∀t,look kv t=if t∈kn then U true else O)/\kv.length=kn.length
theorem Uc.nil:Uc [] []:=⟨λt=>by simp[Bd],rfl⟩
theorem Uc.add {kv:List (List UInt8×Bool)} {kn:List (List UInt8)} (h:Uc kv kn) (t:List UInt8):Uc (upd kv t true) (if t∈kn then kn else kn++[t]):=by
 refine⟨λx=>?_,?_⟩
 ·rw[A6];by_cases e:x=t
  ·subst e;rw[if_pos rfl];split<;>simp_all
  ·rw[if_neg e,h.1 x];by_cases e2:t∈kn
   ·simp[e2]
   ·simp[e2,e]
 ·have e:(upd kv t true).length=((upd kv t true).map (·.1)).length:=by simp
  have hm:t∈kv.map (·.1)↔t∈kn:=by
   constructor
   ·intro hm;have:=h.1 t;split at this
    ·assumption
    ·exact absurd hm (FM this)
   ·intro hm;have:=h.1 t;rw[if_pos hm]at this;exact Yu.2 ⟨_,Cz this,rfl⟩
  rw[e,JP];by_cases e2:t∈kn
  ·rw[if_pos (hm.2 e2),if_pos e2];simpa using h.2
  ·rw[if_neg (λx=>e2 (hm.1 x)),if_neg e2];simp[h.2]
structure WP (p:Nat) (w:Wa) (F:Nat->Value) (rv av:Value) (pd pt px mk:Nat) (kv:List (List UInt8×Bool)) (gw gr gd gt gx gk ga:Heap):Prop where
 ob:Cp gw p 45 F
 wf:WF F w rv pd pt px mk av
 rs:Sl AbG gr rv w.rs
 dk:PD gd pd (w.c 0).toNat (w.c 1).toNat w.now w.A
 tr:Sk gt pt (w.c 2).toNat (w.c 3).toNat w.E
 ix:Ue gx px pt (w.c 2).toNat (w.c 3).toNat w.E (w.c 4).toNat (w.c 5).toNat w.E.length
 km:∃ bs ck,Bn AF GS gk mk kv bs ck
 kn:Uc kv w.kn
 al:BE DL 3 ga av w.al
def WO (g:Heap) (p:Nat) (w:Wa):Prop:=∃ F rv av pd pt px mk kv gw gr gd gt gx gk ga,Ps g [gw,gr,gd,gt,gx,gk,ga]/\WP p w F rv av pd pt px mk kv gw gr gd gt gx gk ga
def Wa.read (w:Wa) (reader:Nat) (r:Rd):Wa:=
 let pl:=w.c (6+(4*reader+r.ant.toNat))
 let s:Si:=⟨pl,r.str,w.now-r.age,r.tag⟩
 if BS r.tag=O then{ w with dr:=Ez w.dr 1 (w.dr 1+1) }
 else if pl<0 then{ w with dr:=Ez w.dr 2 (w.dr 2+1) }
 else if r.tag∉w.kn/\w.kn.length=12 then{ w with dr:=Ez w.dr 4 (w.dr 4+1) }
 else if Sn (w.c 0).toNat (w.c 1).toNat w.now s≠0 then{ w with dr:=Ez w.dr 3 (w.dr 3+1) }
 else{ w with A:=w.A++[s],kn:=if r.tag∈w.kn then w.kn else w.kn++[r.tag] }
theorem WF.drop {F:Nat->Value} {w:Wa} {rv:Value} {pd pt px mk:Nat} {av:Value} (h:WF F w rv pd pt px mk av) (k:Nat) (hk:k<5) (n:Nat):WF (Dx F (39+k) (.int .i64 (n:Nat))) { w with dr:=Ez w.dr k n } rv pd pt px mk av where
 c:=λj hj=>by rw[Af oM];exact h.c j hj
 r:=by rw[Af oM];exact h.r
 l1:=λj hj=>by rw[Af oM];exact h.l1 j hj
 l2:=λj hj=>by rw[Af oM];exact h.l2 j hj
 wm:=λj hj=>by rw[Af oM];exact h.wm j hj
 d:=by rw[Af oM];exact h.d
 t:=by rw[Af oM];exact h.t
 x:=by rw[Af oM];exact h.x
 k:=by rw[Af oM];exact h.k
 dr:=λj hj=>by
  by_cases e:j=k
  ·subst e;rw[Bv];simp only[EH]
  ·rw[Af oM];simp only[EG e];exact h.dr j hj
 a:=by rw[Af oM];exact h.a
theorem WF.warm {F:Nat->Value} {w:Wa} {rv:Value} {pd pt px mk:Nat} {av:Value} (h:WF F w rv pd pt px mk av) (k:Nat) (hk:k<4) (n:Int):WF (Dx F (31+k) (.int .i64 n)) { w with wm:=Ez w.wm k n } rv pd pt px mk av where
 c:=λj hj=>by rw[Af oM];exact h.c j hj
 r:=by rw[Af oM];exact h.r
 l1:=λj hj=>by rw[Af oM];exact h.l1 j hj
 l2:=λj hj=>by rw[Af oM];exact h.l2 j hj
 wm:=λj hj=>by
  by_cases e:j=k
  ·subst e;rw[Bv];simp only[EH]
  ·rw[Af oM];simp only[EG e];exact h.wm j hj
 d:=by rw[Af oM];exact h.d
 t:=by rw[Af oM];exact h.t
 x:=by rw[Af oM];exact h.x
 k:=by rw[Af oM];exact h.k
 dr:=λj hj=>by rw[Af oM];exact h.dr j hj
 a:=by rw[Af oM];exact h.a
theorem WF.line {F:Nat->Value} {w:Wa} {rv:Value} {pd pt px mk:Nat} {av:Value} (h:WF F w rv pd pt px mk av) (k:Nat) (hk:k<4) (a:List UInt8) (n:Nat):WF (Dx (Dx F (23+2*k) (.string (str a))) (23+2*k+1) (.int .i64 (n:Nat))) { w with ln:=Ez w.ln k (a,n) } rv pd pt px mk av where
 c:=λj hj=>by rw[Af oM,Af oM];exact h.c j hj
 r:=by rw[Af oM,Af oM];exact h.r
 l1:=λj hj=>by
  rw[Af oM];by_cases e:j=k
  ·subst e;rw[Bv];simp only[EH]
  ·rw[Af oM];simp only[EG e];exact h.l1 j hj
 l2:=λj hj=>by
  by_cases e:j=k
  ·subst e;rw[show 24+2*j=23+2*j+1 by omega,Bv];simp only[EH]
  ·rw[Af oM,Af oM];simp only[EG e];exact h.l2 j hj
 wm:=λj hj=>by rw[Af oM,Af oM];exact h.wm j hj
 d:=by rw[Af oM,Af oM];exact h.d
 t:=by rw[Af oM,Af oM];exact h.t
 x:=by rw[Af oM,Af oM];exact h.x
 k:=by rw[Af oM,Af oM];exact h.k
 dr:=λj hj=>by rw[Af oM,Af oM];exact h.dr j hj
 a:=by rw[Af oM,Af oM];exact h.a
theorem WF.al {F:Nat->Value} {w:Wa} {rv:Value} {pd pt px mk:Nat} {av:Value} (h:WF F w rv pd pt px mk av) (l:List Al) (v:Value):WF (Dx F 44 v) { w with al:=l } rv pd pt px mk v where
 c:=λj hj=>by rw[Af oM];exact h.c j hj
 r:=by rw[Af oM];exact h.r
 l1:=λj hj=>by rw[Af oM];exact h.l1 j hj
 l2:=λj hj=>by rw[Af oM];exact h.l2 j hj
 wm:=λj hj=>by rw[Af oM];exact h.wm j hj
 d:=by rw[Af oM];exact h.d
 t:=by rw[Af oM];exact h.t
 x:=by rw[Af oM];exact h.x
 k:=by rw[Af oM];exact h.k
 dr:=λj hj=>by rw[Af oM];exact h.dr j hj
 a:=Bv
theorem WF.same {F:Nat->Value} {w w':Wa} {rv:Value} {pd pt px mk:Nat} {av:Value} (h:WF F w rv pd pt px mk av) (e1:w'.c=w.c) (e2:w'.ln=w.ln) (e3:w'.wm=w.wm) (e4:w'.dr=w.dr):WF F w' rv pd pt px mk av where
 c:=λj hj=>by rw[e1];exact h.c j hj
 r:=h.r
 l1:=λj hj=>by rw[e2];exact h.l1 j hj
 l2:=λj hj=>by rw[e2];exact h.l2 j hj
 wm:=λj hj=>by rw[e3];exact h.wm j hj
 d:=h.d
 t:=h.t
 x:=h.x
 k:=h.k
 dr:=λj hj=>by rw[e4];exact h.dr j hj
 a:=h.a
theorem WP.drop {p:Nat} {w:Wa} {F:Nat->Value} {rv av:Value} {pd pt px mk:Nat} {kv:List (List UInt8×Bool)} {gw gr gd gt gx gk ga gw':Heap} (h:WP p w F rv av pd pt px mk kv gw gr gd gt gx gk ga) (k:Nat) (hk:k<5) (n:Nat) (ho:Cp gw' p 45 (Dx F (39+k) (.int .i64 (n:Nat)))) :
  WP p { w with dr:=Ez w.dr k n } (Dx F (39+k) (.int .i64 (n:Nat))) rv av pd pt px mk kv gw' gr gd gt gx gk ga:=
 { h with ob:=ho,wf:=h.wf.drop k hk n }
theorem WO.of {g h H':Heap} {p:Nat} {w:Wa} {F:Nat->Value} {rv av:Value} {pd pt px mk:Nat} {kv:List (List UInt8×Bool)} {gw gr gd gt gx gk ga:Heap} (hg:Heap.le g h) (ps:Ps H' [rest g h,gw,gr,gd,gt,gx,gk,ga]) (wp:WP p w F rv av pd pt px mk kv gw gr gd gt gx gk ga) :
  ∃ g',Av g h g' H'/\WO g' p w:=⟨_,ps.toStep hg,F,rv,av,pd,pt,px,mk,kv,gw,gr,gd,gt,gx,gk,ga,(ps.drop 1).sub,wp⟩
def U3 (r:Rd):Value:=.agg #[.int .i64 r.ant,.int .i64 r.str,.int .i64 r.age,.string (str r.tag)]
def S278:Spec:=λargs h K=>∃ g p w fed rd,∃reader:Nat,args=[.pointer (U ⟨p,0,O⟩),.int .i64 (reader:Nat),U3 rd]/\WO g p w/\Heap.le g h/\w.Ok fed/\fed<=20000/\reader<4/\¬ rd.bad /\
 ∀ g' h',Av g h g' h'->WO g' p (w.read reader rd)->K (.tuple #[]) h'
theorem C8 {p o:Nat} (i j:Nat):((⟨p,o,O⟩:Addr).add i).add j=(⟨p,o,O⟩:Addr).add (i+j):=by
 rw[AU ⟨p,o,O⟩ rfl (i),AU ⟨p,o,O⟩ rfl,AU _ rfl,Zg]
section
variable {p:Nat} {w:Wa} {F:Nat->Value} {rv av:Value} {pd pt px mk:Nat} {kv:List (List UInt8×Bool)} {gw gr gd gt gx gk ga:Heap}
theorem WP.c39 (h:WP p w F rv av pd pt px mk kv gw gr gd gt gx gk ga) {H:Heap} (hl:Heap.le gw H) {k:Nat} (hk:k<5):H.cell (((⟨p,0,O⟩:Addr).add 39).add k)=U (.int .i64 (w.dr k:Nat)):=by
 have:=(h.ob.le hl).cell (j:=39+k) oM;rw[h.wf.dr k hk]at this;rw[<-this,C8]
theorem WP.cWh (h:WP p w F rv av pd pt px mk kv gw gr gd gt gx gk ga) {H:Heap} (hl:Heap.le gw H) {r a:Nat} (hr:r<4) (ha:a<4):H.cell (((((⟨p,0,O⟩:Addr).add 0).add 6).add (r*4)).add a)=U (.int .i64 (w.c (6+(4*r+a)))):=by
 have:=(h.ob.le hl).cell (j:=6+(4*r+a)) oM;rw[h.wf.c _ oM]at this;rw[<-this,show(((⟨p,0,O⟩:Addr).add 0).add 6)=(⟨p,0,O⟩:Addr).add 6 from rfl,C8,C8,show 6+r*4+a=6+(4*r+a) by omega]
theorem WP.c35 (h:WP p w F rv av pd pt px mk kv gw gr gd gt gx gk ga) {H:Heap} (hl:Heap.le gw H):H.cell ((⟨p,0,O⟩:Addr).add 35)=U (.pointer (U ⟨pd,0,O⟩)):=by
 rw[(h.ob.le hl).cell oM,h.wf.d]
theorem WP.c36 (h:WP p w F rv av pd pt px mk kv gw gr gd gt gx gk ga) {H:Heap} (hl:Heap.le gw H):H.cell ((⟨p,0,O⟩:Addr).add 36)=U (.pointer (U ⟨pt,0,O⟩)):=by
 rw[(h.ob.le hl).cell oM,h.wf.t]
theorem WP.c37 (h:WP p w F rv av pd pt px mk kv gw gr gd gt gx gk ga) {H:Heap} (hl:Heap.le gw H):H.cell ((⟨p,0,O⟩:Addr).add 37)=U (.pointer (U ⟨px,0,O⟩)):=by
 rw[(h.ob.le hl).cell oM,h.wf.x]
theorem WP.c38 (h:WP p w F rv av pd pt px mk kv gw gr gd gt gx gk ga) {H:Heap} (hl:Heap.le gw H):H.cell ((⟨p,0,O⟩:Addr).add 38)=U (.map (U mk)):=by
 rw[(h.ob.le hl).cell oM,h.wf.k]
theorem WP.c44 (h:WP p w F rv av pd pt px mk kv gw gr gd gt gx gk ga) {H:Heap} (hl:Heap.le gw H):H.cell ((⟨p,0,O⟩:Addr).add 44)=U av:=by
 rw[(h.ob.le hl).cell oM,h.wf.a]
theorem WP.c22 (h:WP p w F rv av pd pt px mk kv gw gr gd gt gx gk ga) {H:Heap} (hl:Heap.le gw H):H.cell ((⟨p,0,O⟩:Addr).add 22)=U rv:=by
 rw[(h.ob.le hl).cell oM,h.wf.r]
theorem Uc.lkp {H:Heap} {m:Nat} {kv:List (List UInt8×Bool)} {kn:List (List UInt8)} {bs:List Nat} {ck:Nat} (hk:Uc kv kn) (hm:Bn AF GS H m kv bs ck) (t:List UInt8):A8 H (.lkp .str (.bool false)) (.v (.map (U m))) (.v (.string (str t)))=U (.v (.bool (decide (t∈kn)))):=by
 have:=(hm.rules .str).1 (.bool false) t;rw[hk.1 t]at this;rw[show(Value.string (str t))=AF t from rfl,this];by_cases e:t∈kn<;>simp[e,GS]
theorem Uc.mlen {H:Heap} {m:Nat} {kv:List (List UInt8×Bool)} {kn:List (List UInt8)} {bs:List Nat} {ck:Nat} (hk:Uc kv kn) (hm:Bn AF GS H m kv bs ck) (N:Num) (env:At):Bw N env H .mlen (.v (.map (U m)))=U (.v (.int .i64 kn.length)):=by
 rw[(hm.rules .str).2.2,hk.2]
theorem Ml {N:Num} {Γ:Ctx} {g h H:Heap} (hg:Heap.le g h) (hps:Ps H [rest g h,gw,gr,gd,gt,gx,gk,ga]) (hw:WP p w F rv av pd pt px mk kv gw gr gd gt gx gk ga) (k:Nat) (hk:k<5) (n:Nat) {K:Value->Heap->Prop}
  (hK:∀ g' h',Av g h g' h'->WO g' p { w with dr:=Ez w.dr k n }->K undef h'):By N Γ (.st 1) [.pointer (U (((⟨p,0,O⟩:Addr).add 39).add k)),.int .i64 (n:Nat)] H K:=by
 rw[C8];refine BO (x:=.int .i64 (n:Nat)) hw.ob (hps.lt 1 rfl) (39+k) rfl rfl oM λg' h' st ho=>?_;have ps:=hps.step 1 rfl st;obtain⟨g2,q1,q2⟩:=WO.of hg ps (hw.drop k hk n ho);exact hK g2 h' q1 q2
end
theorem F278_ok {N:Num} {Γ:Ctx} [Ak Γ] (H81:Sat (S81 N) (Γ 81)) (H39:Sat S39 (Γ 39)) (H37:Sat (S37 N) (Γ 37)):Sat S278 (SF N Γ F278):=by
 rintro _ h K ⟨g,p,w,fed,rd,reader,rfl,⟨F,rv,av,pd,pt,px,mk,kv,gw,gr,gd,gt,gx,gk,ga,hps,hw⟩,hg,hok,hfed,hre,hrd,hK⟩;have hp:=hps.rest hg;unfold Rd.bad at hrd;obtain⟨hA9,hd1,hd2,hd3,hd4⟩:w.A.length<=1818/\w.dr 1<=1818/\w.dr 2<=1818/\w.dr 3<=1818/\w.dr 4<=1818:=by have:=hok.sum;omega
 refine An rfl ?_;simp only[F278,Ze,Nat.reduceSub,Nat.reduceAdd,U3];refine Ae ?_;refine Aa H81 ⟨rd.tag,rfl,λh1 hle1=>?_⟩;unfold SD Co;cases htg:BS rd.tag with
 |none=>
  simp only[Option.getD,Option.isSome,AP];have e1:w.read reader rd={ w with dr:=Ez w.dr 1 (w.dr 1+1) }:=by unfold Wa.read;rw[if_pos htg]
  rw[e1]at hK;have Q1:=hp.up hle1;have C1:=hw.c39 (Q1.lt 1 rfl) (k:=1) oM;have wi:IntKind.i64.wrap ((w.dr 1:Int)+1)=((w.dr 1+1:Nat):Int):=wN;refine CS @Aq @C1 @wi ?_;refine Ml hg Q1 hw 1 oM _ λg' h' st hw'=>?_;refine Ae ?_;exact hK g' h' st hw'
 |some t=>
  simp only[Option.getD,Option.isSome,if_true,AP];have Q1:=hp.up hle1;have hwh:=hok.wh (4*reader+rd.ant.toNat) oM;have CW:=hw.cWh (Q1.lt 1 rfl) (r:=reader) (a:=rd.ant.toNat) oM oM;unfold Wa.read at hK;rw[if_neg (by rw[htg];simp)]at hK;generalize hpl:w.c (6+(4*reader+rd.ant.toNat))=pl at *;refine Ap @CW ?_;refine Ad (λc1=>?_) (λc1=>?_)
  ·rw[if_pos c1]at hK;have C1:=hw.c39 (Q1.lt 1 rfl) (k:=2) oM;have wi:IntKind.i64.wrap ((w.dr 2:Int)+1)=((w.dr 2+1:Nat):Int):=wN;refine AH @C1 @wi ?_;refine Ml hg Q1 hw 2 oM _ λg' h' st hw'=>?_;refine Ae ?_;exact hK g' h' st hw'
  rw[if_neg c1]at hK;obtain⟨bs,ck,hmb⟩:=hw.km;have hml:=hmb.le (Q1.lt 6 rfl);have L1:=hw.kn.lkp hml rd.tag;have L2:=hw.kn.mlen hml;have C38:=hw.c38 (Q1.lt 1 rfl);refine CS @C38 @L1 @L2 ?_;refine Ad (λc2=>?_) (λc2=>?_)
  ·rw[if_pos (by exact⟨c2.1,by have:=c2.2;omega⟩)]at hK;have C1:=hw.c39 (Q1.lt 1 rfl) (k:=4) oM;have wi:IntKind.i64.wrap ((w.dr 4:Int)+1)=((w.dr 4+1:Nat):Int):=wN;refine AH @C1 @wi ?_;refine Ml hg Q1 hw 4 oM _ λg' h' st hw'=>?_;refine Ae ?_;exact hK g' h' st hw'
  rw[if_neg (λe=>c2 ⟨e.1,by have:=e.2;omega⟩)]at hK;have C35:=hw.c35 (Q1.lt 1 rfl);refine Ap @C35 ?_;refine Aa H39 ⟨gd,pd,_,_,_,_,rfl,hw.dk,Q1.lt 3 rfl,?_⟩;have C35':=hw.c35 (ZX gw);refine Np gw (Q1.lt 1 rfl) ?_ (AE (Q1.lt 1 rfl)) ?_
  ·intro l' hl';simp only[X5,AaL,or_false]at hl';rcases hl' with rfl|rfl|rfl|rfl
   ·exact⟨true,rfl,λ_=>⟨.v (.int .i64 rd.str),by try simp(disch:=first|omega|(simp only[PL];omega)) only[Zr,simprocAttr,-reduceIte]⟩⟩
   ·exact⟨true,rfl,λ_=>⟨.v (.int .i64 rd.age),by try simp(disch:=first|omega|(simp only[PL];omega)) only[Zr,simprocAttr,-reduceIte]⟩⟩
   ·exact⟨true,rfl,λ_=>⟨.v (.string (str rd.tag)),by try simp(disch:=first|omega|(simp only[PL];omega)) only[Zr,simprocAttr,-reduceIte]⟩⟩
   ·exact⟨true,rfl,λ_=>⟨.v (.pointer (U ⟨pd,0,O⟩)),by try simp(disch:=first|omega|(simp only[PL];omega)) only[Zr,simprocAttr,-reduceIte,C35']⟩⟩
  have wi:IntKind.i64.wrap ((w.now:Int)-rd.age)=(w.now:Int)-rd.age:=by have:=hok.now;rw[BC oM oM]
  refine AH @C35 @wi ?_;have hc0:=hok.c0;have hc1:=hok.c1;have hnow:=hok.now;refine Aa H37 ⟨gd,pd,_,_,_,_,⟨pl,rd.str,w.now-rd.age,rd.tag⟩,rfl,hw.dk,Q1.lt 3 rfl,oM,oM,oM,oM,oM,λhn=>?_,λhn gd' h2 st2 hP2=>?_⟩
  ·rw[if_pos hn]at hK;have C1:=hw.c39 (Q1.lt 1 rfl) (k:=3) oM;have wi:IntKind.i64.wrap ((w.dr 3:Int)+1)=((w.dr 3+1:Nat):Int):=wN;rw[Ip N hn];refine AH @C1 @wi ?_;refine Ml hg Q1 hw 3 oM _ λg' h' st hw'=>?_;refine Ae ?_;exact hK g' h' st hw'
  rw[if_neg (by simpa using hn)]at hK;have Q2:=Q1.step 3 rfl st2;have C38':=hw.c38 (Q2.lt 1 rfl);refine Ap @C38' ?_;refine BX (kb:=.str) (ek:=AF) (ev:=GS) hmb (Q2.lt 6 rfl) rd.tag true λo bs' ck' hmb' st3 _=>?_;have Q3:=Q2.step 6 rfl st3;refine Ae ?_;obtain⟨g4,q1,q2⟩:=WO.of (w:={ w with A:=w.A++[⟨pl,rd.str,w.now-rd.age,rd.tag⟩],kn:=if rd.tag∈w.kn then w.kn else w.kn++[rd.tag] }) hg Q3
   { ob:=hw.ob,wf:=hw.wf.same rfl rfl rfl rfl,rs:=hw.rs,dk:=hP2,tr:=hw.tr,ix:=hw.ix,km:=⟨bs',ck',hmb'⟩,kn:=hw.kn.add rd.tag,al:=hw.al }
  exact hK g4 _ q1 q2
theorem Wa.Ok.read {w:Wa} {fed reader:Nat} {rd:Rd} (h:w.Ok fed):(w.read reader rd).Ok (fed+11):=by
 obtain⟨a0,a1,a2,a3,a4,a5,a6,a7,a8,a9,a10,a11,a12,a13,a14,a15,a16,a17⟩:=h;unfold Wa.read;dsimp only;split
 ·exact⟨a0,a1,a2,a3,a4,a5,a6,a7,a8,a9,by simp only[Ez];simp;omega,by simp[Ez,a11],a12,a13,a14,a15,a16,a17⟩
 rename_i ht;split
 ·exact⟨a0,a1,a2,a3,a4,a5,a6,a7,a8,a9,by simp only[Ez];simp;omega,by simp[Ez,a11],a12,a13,a14,a15,a16,a17⟩
 split
 ·exact⟨a0,a1,a2,a3,a4,a5,a6,a7,a8,a9,by simp only[Ez];simp;omega,by simp[Ez,a11],a12,a13,a14,a15,a16,a17⟩
 rename_i hk;split
 ·exact⟨a0,a1,a2,a3,a4,a5,a6,a7,a8,a9,by simp only[Ez];simp;omega,by simp[Ez,a11],a12,a13,a14,a15,a16,a17⟩
 rename_i hf;have hsub:∀ t,t∈w.kn->t∈(if rd.tag∈w.kn then w.kn else w.kn++[rd.tag]):=by
  intro t ht;split;exact ht;exact Yx _ ht
 refine⟨a0,a1,a2,a3,a4,a5,a6,a7,a8,a9,by simp;omega,a11,?_,?_,?_,a15,?_,a17⟩
 ·dsimp only;split
  ·exact a12
  ·rename_i e;have:w.kn.length≠12:=λe2=>hk ⟨e,e2⟩;simp;omega
 ·dsimp only;split
  ·exact a13
  ·rename_i e;exact Yp.2 ⟨a13,by simp,λx hx y hy e3=>by simp at hy;subst hy;subst e3;exact e hx⟩
 ·intro s hs;rcases Yd.1 hs with hs|hs
  ·obtain⟨b1,b2,b3⟩:=a14 s hs;exact⟨b1,hsub _ b2,b3⟩
  ·rw[YA.1 hs];refine⟨?_,?_,?_⟩
   ·have hf':Sn (w.c 0).toNat (w.c 1).toNat w.now ⟨w.c (6+(4*reader+rd.ant.toNat)),rd.str,w.now-rd.age,rd.tag⟩=0:=by simpa using hf
    unfold Sn at hf';split at hf'
    ·cases hf'
    ·rename_i e;unfold Cs at e ⊢;omega
   ·dsimp only;split
    ·assumption
    ·simp
   ·rw[Ne,Di];exact ht
 ·intro l hl;obtain⟨b1,b2⟩:=a16 l hl;exact⟨b1,λs hs=>⟨(b2 s hs).1,hsub _ (b2 s hs).2.1,(b2 s hs).2.2⟩⟩
end Go.Cw
namespace Go.Cw
open Go
def Wa.frame (w:Wa) (reader:Nat) (f:Fr):Wa:=
 let w1:=f.reads.foldl (λw r=>w.read reader r) w
 if f.ty=3 then{ w1 with wm:=Ez w1.wm reader f.warm } else w1
def Wa.line (w:Wa) (reader:Nat) (s:List UInt8):Wa:={ w with ln:=Ez w.ln reader ((feed ((w.ln reader).1++s)).2.1,(w.ln reader).2+(feed ((w.ln reader).1++s)).2.2) }
def Wa.feed (w:Wa) (reader:Nat) (s:List UInt8):Wa:=(Cw.feed ((w.ln reader).1++s)).1.foldl (λw f=>w.frame reader f) (w.line reader s)
def Wa.feedN (w:Wa) (reader:Nat) (s:List UInt8):Nat:=(Cw.feed ((w.ln reader).1++s)).1.length
def Cr (reader:Int) (s:List UInt8):Nat:=if reader<0\/3<reader then 1 else if 2000<s.length then 2 else 0
theorem WO.warm {N:Num} {Γ:Ctx} {g h:Heap} {p:Nat} {w:Wa} (hw:WO g p w) (hg:Heap.le g h) {k:Nat} (hk:k<4) (n:Int) {K:Value->Heap->Prop}
  (hK:∀ g' h',Av g h g' h'->WO g' p { w with wm:=Ez w.wm k n }->K undef h'):By N Γ (.st 1) [.pointer (U (((⟨p,0,O⟩:Addr).add 31).add k)),.int .i64 n] h K:=by
 obtain⟨F,rv,av,pd,pt,px,mk,kv,gw,gr,gd,gt,gx,gk,ga,hps,hw⟩:=hw;have Q:=hps.rest hg;rw[C8];refine BO (x:=.int .i64 n) hw.ob (Q.lt 1 rfl) (31+k) rfl rfl oM λg' h' st ho=>?_;obtain⟨g2,q1,q2⟩:=WO.of hg (Q.step 1 rfl st) { hw with ob:=ho,wf:=hw.wf.warm k hk n };exact hK g2 h' q1 q2
theorem WO.lineAt {g h:Heap} {p:Nat} {w:Wa} (hw:WO g p w) (hg:Heap.le g h) {k:Nat} (hk:k<4):DA h ⟨p,23+2*k,O⟩ (w.ln k).1 (w.ln k).2:=by
 obtain⟨F,rv,av,pd,pt,px,mk,kv,gw,gr,gd,gt,gx,gk,ga,hps,hw⟩:=hw;have:=(hw.ob.le ((hps.lt 0 rfl).trans hg)).part2 (j:=23+2*k) oM;rw[hw.wf.l1 k hk,show 23+2*k+1=24+2*k by omega,hw.wf.l2 k hk]at this;exact this
theorem WO.line {g h h':Heap} {p:Nat} {w:Wa} (hw:WO g p w) (hg:Heap.le g h) {k:Nat} (hk:k<4) {a:List UInt8} {n:Nat} (hkp:keeps ⟨p,23+2*k,O⟩ 2 h h') (hl:DA h' ⟨p,23+2*k,O⟩ a n) :
  ∃ g',Av g h g' h'/\(∀b,g' b≠O->g b≠O)/\WO g' p { w with ln:=Ez w.ln k (a,n) }:=by
 obtain⟨F,rv,av,pd,pt,px,mk,kv,gw,gr,gd,gt,gx,gk,ga,hps,hw⟩:=hw;have Q:=hps.rest hg;obtain⟨gw',st,hd,ho⟩:=hw.ob.back2 (Q.lt 1 rfl) oM hkp hl;have Q2:=Q.step 1 rfl st;refine⟨_,Q2.toStep hg,λb hb=>?_,Dx (Dx F (23+2*k) (.string (str a))) (23+2*k+1) (.int .i64 (n:Nat)),rv,av,pd,pt,px,mk,kv,gw',gr,gd,gt,gx,gk,ga,(Q2.drop 1).sub,{ hw with ob:=ho,wf:=hw.wf.line k hk a n }⟩;obtain⟨x,hx,hxb⟩:=IW hb;have:∀ y∈[gw,gr,gd,gt,gx,gk,ga],y b≠O->g b≠O:=λy hy e=>by
  intro e2;exact e (AC (hps.1 y hy) b e2)
 simp only[List.set,X5,AaL,or_false]at hx;rcases hx with rfl|rfl|rfl|rfl|rfl|rfl|rfl
 ·exact this gw (by simp) (hd b hxb)
 all_goals exact this _ (by simp) hxb
theorem Ik:∀ (n:Nat) (s:List UInt8),s.length<=n->11*((feed s).1.map λf=>f.reads.length).sum+(feed s).2.1.length+(feed s).2.2<=s.length/\∀ f∈(feed s).1,f.fault=0:=by
 intro n;induction n with
 |zero=>
  intro s hs;have:s=[]:=Zs oM;subst this;rw[FSx];simp
 |succ n ih=>
  intro s hs;by_cases h0:s=[]
  ·subst h0;rw[FSx];simp
  have hl:0<s.length:=Zx.2 h0;rw[Hc h0];cases hf:HM s with
  |some q=>
   obtain⟨f,k⟩:=q;obtain⟨h1,h2,h3,h4,h5⟩:=Hd hf;obtain⟨i1,i2⟩:=ih (s.drop k) (by rw[ZO];omega);rw[ZO]at i1;have hr:11*f.reads.length<=k:=by
    have e:=congrArg ZT h5;rw[Zn]at e;have e2:11*f.reads.length<=f.bytes.length:=by
     unfold AbX at h4;by_cases h31:f.ty<1\/f.ty>3
     ·rw[if_pos h31]at h4;cases h4
     rw[if_neg h31]at h4;by_cases h32:f.ty≠1/\0<f.reads.length\/f.ty≠3/\f.warm≠0
     ·rw[if_pos h32]at h4;cases h4
     rw[if_neg h32]at h4;by_cases h33:f.warm<0\/f.warm>255
     ·rw[if_pos h33]at h4;cases h4
     rw[if_neg h33]at h4;by_cases h34:4<f.reads.length
     ·rw[if_pos h34]at h4;cases h4
     rw[if_neg h34]at h4;by_cases h35:∃ r∈f.reads,r.bad
     ·rw[if_pos h35]at h4;cases h4
     by_cases h36:f.ty=3
     ·omega
     ·have:=Hg f.reads λr hr=>Classical.byContradiction λe=>h35 ⟨r,hr,by unfold Rd.bad;omega⟩;unfold Fr.bytes Fr.front Fr.body;rw[if_neg h36];simp only[Zk,Y5,ZR,this];omega
    omega
   simp only[Yj,List.sum_cons];refine⟨oM,λg hg=>?_⟩;rcases X5.1 hg with rfl|hg
   ·exact h4
   ·exact i2 g hg
  |none=>
   dsimp only;split
   ·simp
   ·obtain⟨i1,i2⟩:=ih (s.drop 1) (by rw[ZO];omega);rw[ZO]at i1;dsimp only;exact⟨oM,i2⟩
theorem Jo {f:Fr} (h4:f.fault=0):(f.ty=1\/f.ty=2\/f.ty=3)/\(∀r∈f.reads,¬r.bad)/\(f.ty=1\/f.reads=[])/\f.reads.length<=4/\0<=f.warm/\f.warm<=255:=by
 unfold AbX at h4;by_cases h31:f.ty<1\/f.ty>3
 ·rw[if_pos h31]at h4;cases h4
 rw[if_neg h31]at h4;by_cases h32:f.ty≠1/\0<f.reads.length\/f.ty≠3/\f.warm≠0
 ·rw[if_pos h32]at h4;cases h4
 rw[if_neg h32]at h4;by_cases h33:f.warm<0\/f.warm>255
 ·rw[if_pos h33]at h4;cases h4
 rw[if_neg h33]at h4;by_cases h34:4<f.reads.length
 ·rw[if_pos h34]at h4;cases h4
 rw[if_neg h34]at h4;by_cases h35:∃ r∈f.reads,r.bad
 ·rw[if_pos h35]at h4;cases h4
 refine⟨oM,λr hr e=>h35 ⟨r,hr,e⟩,?_,oM,oM,oM⟩;by_cases e:f.ty=1
 ·exact .inl e
 ·exact .inr (Zs oM)
theorem Wa.Ok.mono {w:Wa} {a b:Nat} (h:w.Ok a) (hl:a<=b):w.Ok b:={ h with sum:=YU h.sum hl }
theorem Wa.Ok.reads {reader:Nat} (l:List Rd):∀ {w:Wa} {fed:Nat},w.Ok fed->(l.foldl (λw r=>w.read reader r) w).Ok (fed+11*l.length):=by
 induction l with
 |nil=>intro w fed h;exact h
 |cons r l ih=>intro w fed h;exact(ih (h.read (rd:=r))).mono (by simp;omega)
theorem Wa.Ok.frame {w:Wa} {fed reader:Nat} {f:Fr} (h:w.Ok fed):(w.frame reader f).Ok (fed+11*f.reads.length):=by
 unfold Wa.frame;have:=h.reads (w:=w) (reader:=reader) (fed:=fed) f.reads;dsimp only;split
 ·exact{ this with }
 ·exact this
theorem Wa.Ok.frames {reader:Nat} (l:List Fr):∀ {w:Wa} {fed:Nat},w.Ok fed->(l.foldl (λw f=>w.frame reader f) w).Ok (fed+11*(l.map λf=>f.reads.length).sum):=by
 induction l with
 |nil=>intro w fed h;exact h
 |cons r l ih=>intro w fed h;exact(ih (h.frame (f:=r))).mono (by simp;omega)
theorem Wa.Ok.line {w:Wa} {fed reader:Nat} {s:List UInt8} (hr:reader<4) (h:w.Ok fed):∃ k,(w.line reader s).Ok k/\k+11*((Cw.feed ((w.ln reader).1++s)).1.map λf=>f.reads.length).sum<=fed+s.length:=by
 have hs:=(Ik _ ((w.ln reader).1++s) (Yq _)).1;rw[Zk]at hs;have h2:=h.sum;refine⟨fed+s.length-11*((Cw.feed ((w.ln reader).1++s)).1.map λf=>f.reads.length).sum,{ h with sum:=?_ },?_⟩
 ·unfold Wa.line;rcases(by omega:reader=0\/reader=1\/reader=2\/reader=3)with rfl|rfl|rfl|rfl<;>simp only[Ez]<;>simp<;>omega
 ·rcases(by omega:reader=0\/reader=1\/reader=2\/reader=3)with rfl|rfl|rfl|rfl<;>omega
theorem Wa.Ok.feed {w:Wa} {fed reader:Nat} {s:List UInt8} (hr:reader<4) (h:w.Ok fed):(w.feed reader s).Ok (fed+s.length):=by
 obtain⟨k,h1,h2⟩:=h.line (s:=s) hr;exact(h1.frames _).mono h2
theorem Jb (l:List Nat) (n:Nat):(l.take n).sum<=l.sum:=by
 conv=>rhs;rw[<-List.take_append_drop n l]
 rw[AbK];omega
theorem Ps.step1 {g h g' H':Heap} {gs:List Heap} (hg:Heap.le g h) (p:Ps H' (Cw.rest g h::g'::gs)):Av g h g' H':=by
 have:=(p.take 2).toStep hg;have e:Gx ([g']:List Heap)=g':=by funext b;simp only[Gx,join];cases g' b<;>rfl
 simp only[List.take]at this
 rwa [e]at this
theorem Kp:∀ (n:Nat) (s:List UInt8),s.length<=n->(feed s).1.length<=s.length:=by
 intro n;induction n with
 |zero=>
  intro s hs;have:s=[]:=Zs oM;subst this;rw[FSx];simp
 |succ n ih=>
  intro s hs;by_cases h0:s=[]
  ·subst h0;rw[FSx];simp
  have hl:0<s.length:=Zx.2 h0;rw[Hc h0];cases hf:HM s with
  |some q=>
   obtain⟨f,k⟩:=q;obtain⟨h1,h2,h3,h4,h5⟩:=Hd hf;have i1:=ih (s.drop k) (by rw[ZO];omega);rw[ZO]at i1;simp;omega
  |none=>
   dsimp only;split
   ·simp
   ·have i1:=ih (s.drop 1) (by rw[ZO];omega);rw[ZO]at i1;dsimp only;omega
theorem TE {a:Addr} {n:Nat} {h h':Heap} (hk:keeps a n h h'):Heap.le (fr h h') h':=Au _ _
def S271 (N:Num):Spec:=λargs h K=>∃ g p w fed,∃reader:Int,∃s,args=[.pointer (U ⟨p,0,O⟩),.int .i64 reader,.string (str s)]/\WO g p w/\Heap.le g h/\w.Ok fed/\(Cr reader s=0->fed+s.length<=20000) /\
 (Cr reader s≠0->K (.tuple #[.int .i64 0,Cm N (Cr reader s)]) h) /\
 (Cr reader s=0->∀ g' h',Av g h g' h'->WO g' p (w.feed reader.toNat s)->K (.tuple #[.int .i64 (w.feedN reader.toNat s:Nat),.nilIface]) h')
theorem F271_ok {N:Num} {Γ:Ctx} [Ak Γ] (H24:Sat S24 (Γ 24)) (H278:Sat S278 (Γ 278)):Sat (S271 N) (SF N Γ F271):=by
 rintro _ h K ⟨g,p,w,fed,reader,s,rfl,hw,hg,hok,hfed,hK1,hK2⟩;refine An rfl ?_;simp only[F271,Ze,Nat.reduceSub,Nat.reduceAdd];unfold Cr at hK1 hK2 hfed;refine Ae ?_;refine Ad (λc1=>?_) (λc1=>?_)
 ·rw[if_pos oM]at hK1;refine Ae ?_;exact hK1 oM
 rw[if_neg oM]at hK1 hK2 hfed;obtain⟨rn,rfl⟩:∃ n:Nat,reader=n:=⟨reader.toNat,oM⟩
 rw[Aaa]at hK2;have hr4:rn<4:=oM;refine Ae ?_;refine Ad (λc2=>?_) (λc2=>?_)
 ·rw[if_pos oM]at hK1;refine Ae ?_;exact hK1 oM
 rw[if_neg oM]at hK2 hfed;have hfed:=hfed rfl;have hK:=hK2 rfl;clear hK1 hK2;have hla:=hw.lineAt hg hr4;obtain⟨hr1,hr2⟩:(w.ln rn).1.length<=20000/\(w.ln rn).2<=20000:=by
  have:=hok.sum;rcases(by omega:rn=0\/rn=1\/rn=2\/rn=3)with rfl|rfl|rfl|rfl<;>omega
 have hadr:((⟨p,0,O⟩:Addr).add 23).add (rn*2)=⟨p,23+2*rn,O⟩:=by rw[C8,AU _ rfl,Yn,Aao]
 refine Ap @hadr ?_;refine Aa H24 ⟨⟨p,23+2*rn,O⟩,_,_,s,rfl,hla,oM,oM,λv h1 hkp hl1 hfv=>?_⟩;obtain⟨g1,st1,hdm,hw1⟩:=hw.line hg hr4 hkp hl1;obtain⟨k1,hok1,hk1⟩:=hok.line (s:=s) hr4;have hfl:=(Ik _ ((w.ln rn).1++s) (Yq _)).2;have hfsl:=Kp _ ((w.ln rn).1++s) (Yq _);rw[Zk]at hfsl;unfold Wa.feed Wa.feedN at hK;unfold Wa.line at hK hok1;generalize ({ w with ln:=Ez w.ln rn ((feed ((w.ln rn).1++s)).2.1,(w.ln rn).2+(feed ((w.ln rn).1++s)).2.2) }:Wa)=w1 at *;generalize (feed ((w.ln rn).1++s)).1=fs at *;have hZ1:Heap.le (fr h h1) h1:=TE hkp;have Q0:Ps h1 [rest g h,g1,fr h h1]:=by
  have q1:Ps h [rest g h,g]:=⟨λx hx=>by simp at hx;rcases hx with rfl|rfl;exact Gn _ _;exact hg,by simp;exact λb hb=>by unfold rest at hb;split at hb;assumption;exact absurd rfl hb⟩
  refine(q1.step 1 rfl st1).add hZ1 λx hx b hb=>?_;have hx':x=rest g h\/x=g1:=by simpa[List.set]using hx
  have hhb:h b≠O:=by
   rcases hx' with rfl|rfl
   ·exact λe=>hb (AC (Gn _ _) b e)
   ·exact λe=>hdm b hb (AC hg b e)
  unfold fr;cases e:h b with
  |none=>exact absurd e hhb
  |some o=>rfl
 obtain⟨rs,hsl,hrl,hrk⟩:=hfv;have hone:=hsl.one;have R:=(hsl.le hZ1).rules 3 I9.enc_len default;rw[hrl]at R;refine Ap @R ?_;refine Aj (λi:Nat=>[U (.pointer (U ⟨p,0,O⟩)),U (.int .i64 (rn:Nat)),O,O,O,U v,O,O,O,O,O,U v,U (.int .i64 fs.length),U (.int .i64 (i:Nat)),O,O,O,O,O,O,O,O])
  (λi H=>i<=fs.length/\∃ gW,Ps H [rest g h,gW,fr h h1]/\WO gW p ((fs.take i).foldl (λw f=>w.frame rn f) w1)) (λi=>fs.length-i) 0 (by try simp only[Pf];rfl) ⟨oM,g1,Q0,hw1⟩ ?_
 rintro i H ⟨hi,gW,Q,hW⟩;have hi1:=wS i;have R:=(hsl.le (Q.lt 2 rfl)).rules 3 I9.enc_len default;rw[hrl]at R;refine Ae ?_;refine Ad (λc3=>?_) (λc3=>?_);rotate_left
 ·have:i=fs.length:=oM;subst this;rw[Z5]at hW;refine Ap @R ?_;exact hK _ _ (Q.step1 hg) hW
 have A5:i<fs.length:=oM;obtain⟨e1,e2,e3⟩:=hrk i A5;have hnx:fs.take (i+1)=fs.take i++[fs.getD i default]:=Ai default A5;have hft:=hfl _ (As default A5);obtain⟨t1,t2,t3,t4,t5,t6⟩:=Jo hft;have hokw:=hok1.frames (reader:=rn) (fs.take i);have hsumi:((fs.take i).map λf=>f.reads.length).sum+(fs.getD i default).reads.length<=(fs.map λf=>f.reads.length).sum:=by
  have:=Jb (fs.map λf=>f.reads.length) (i+1);rw[<-AbV,hnx,Aam,AbK]at this;simpa using this
 generalize hfe:fs.getD i default=f at *;generalize hre:rs.getD i default=r at *;have RR:=(e3.le (Q.lt 2 rfl)).rules 4 (λ_=>rfl) default;have hro:=e3.one;refine Vc @R @hre @I9.enc.eq_1 @RR hro.1 hro.2 ?_;generalize hw2:(fs.take i).foldl (λw f=>w.frame rn f) w1=w2 at *;refine AA (λenv H'=>∃ gW,Ps H' [rest g h,gW,fr h h1]/\WO gW p (f.reads.foldl (λw r=>w.read rn r) w2)/\env=[U (.pointer (U ⟨p,0,O⟩)),U (.int .i64 (rn:Nat)),O,O,O,U v,U (.agg #[.int .i64 f.ty,r.sv,.int .i64 f.warm]),O,O,O,O,U v,U (.int .i64 fs.length),U (.int .i64 (i:Nat)),O,O,O,O,O,O,O,O]) ?_ ?_;rotate_left
 ·refine Aj (λk:Nat=>[U (.pointer (U ⟨p,0,O⟩)),U (.int .i64 (rn:Nat)),O,O,O,U v,U (.agg #[.int .i64 f.ty,r.sv,.int .i64 f.warm]),O,O,O,O,U v,U (.int .i64 fs.length),U (.int .i64 (i:Nat)),O,O,U r.sv,U (.int .i64 f.reads.length),U (.int .i64 (k:Nat)),O,O,O])
   (λk H=>k<=f.reads.length/\∃ gW,Ps H [rest g h,gW,fr h h1]/\WO gW p ((f.reads.take k).foldl (λw r=>w.read rn r) w2)) (λk=>f.reads.length-k) 0 (by try simp only[Pf];rw[e1,e2];exact⟨rfl,rfl⟩) ⟨oM,gW,Q,hW⟩ ?_
  clear hW Q gW;rintro k H ⟨hk,gW,Q,hW⟩;have hk1:=wS k;have RR:=(e3.le (Q.lt 2 rfl)).rules 4 (λ_=>rfl) default;refine Ae ?_;refine Ad (λc4=>?_) (λc4=>?_);rotate_left
  ·have:k=f.reads.length:=oM;subst this;rw[Z5]at hW;refine Ae ?_;exact Ar _ sE ⟨gW,Q,hW,rfl⟩
  have hk2:k<f.reads.length:=oM;have hnr:f.reads.take (k+1)=f.reads.take k++[f.reads.getD k default]:=Ai default hk2;have hrb:=t2 _ (As default hk2);generalize hde:f.reads.getD k default=rd at *;refine CS @RR @hde @Rd.enc.eq_1 ?_;have hok3:=hokw.reads (reader:=rn) (f.reads.take k);refine Aa H278 ⟨gW,p,_,_,rd,rn,rfl,hW,Q.lt 1 rfl,hok3,by rw[Zn];omega,hr4,hrb,λg5 h5 st5 hW5=>?_⟩;have Q5:=Q.step 1 rfl st5;refine Ap @hk1 ?_;exact Ag (k+1) oM sE ⟨oM,g5,Q5,by rw[hnr,Aat];exact hW5⟩
 clear hW Q gW R RR hi1;rintro env H' ⟨gW,Q,hW,rfl⟩;have hi1:=wS i;have hfr:(fs.take (i+1)).foldl (λw f=>w.frame rn f) w1=if f.ty=3 then{ (f.reads.foldl (λw r=>w.read rn r) w2)with wm:=Ez (f.reads.foldl (λw r=>w.read rn r) w2).wm rn f.warm } else f.reads.foldl (λw r=>w.read rn r) w2:=by rw[hnx,Aat,hw2];rfl
 generalize f.reads.foldl (λw r=>w.read rn r) w2=w3 at *;refine Ae ?_;refine Ad (λc5=>?_) (λc5=>?_)
 ·rw[if_pos c5]at hfr;refine Ae ?_;refine hW.warm (Q.lt 1 rfl) hr4 f.warm λg6 h6 st6 hW6=>?_;have Q6:=Q.step 1 rfl st6;refine Ap @hi1 ?_;exact Ag (i+1) oM sE ⟨oM,g6,Q6,by rw[hfr];exact hW6⟩
 ·rw[if_neg c5]at hfr;refine Ap @hi1 ?_;exact Ag (i+1) oM sE ⟨oM,gW,Q,by rw[hfr];exact hW⟩
theorem S8:∀ {l m:List (List UInt8)},Jy l->Jy m->(∀t,t∈l↔t∈m)->l=m:=by
 intro l;induction l with
 |nil=>
  intro m _ _ h;cases m with
  |nil=>rfl
  |cons b m=>exact absurd ((h b).2 (by simp)) (by simp)
 |cons a l ih=>
  intro m hl hm h;cases m with
  |nil=>exact absurd ((h a).1 (by simp)) (by simp)
  |cons b m=>
   obtain⟨l1,l2⟩:=Aaq.1 hl;obtain⟨m1,m2⟩:=Aaq.1 hm;have hab:a=b:=by
    refine Classical.byContradiction λe=>?_;have h1:a∈m:=by
     rcases X5.1 ((h a).1 (by simp))with e2|e2
     ·exact absurd e2 e
     ·exact e2
    have h2:b∈l:=by
     rcases X5.1 ((h b).2 (by simp))with e2|e2
     ·exact absurd e2.symm e
     ·exact e2
    have:=GW (l1 b h2);rw[m1 a h1]at this;cases this
   subst hab;rw[ih l2 m2 λt=>?_];constructor
   ·intro ht;rcases X5.1 ((h t).1 (Yb _ ht))with e2|e2
    ·subst e2;have:=l1 t ht;rw[EE]at this;cases this
    ·exact e2
   ·intro ht;rcases X5.1 ((h t).2 (Yb _ ht))with e2|e2
    ·subst e2;have:=m1 t ht;rw[EE]at this;cases this
    ·exact e2
def Wa.lookR (w:Wa) (n i:Nat) (ts:List (List UInt8)):List Al:=(ts.filter λt=>EY (w.c 2).toNat (w.c 3).toNat w.E (w.rs.getD i default) t n).map λt=>⟨i,n,t⟩
def Wa.lookN (w:Wa) (n i:Nat):List Al:=(Yh i).flatMap λi=>w.lookR n i (AX w.E)
def Wa.look (w:Wa) (n:Nat):List Al:=w.lookN n w.rs.length
theorem Wa.lookR_len (w:Wa) (n i:Nat) (ts:List (List UInt8)):(w.lookR n i ts).length<=ts.length:=by unfold Wa.lookR;rw[Aaw];exact Abl _ _
theorem Wa.lookN_succ (w:Wa) (n i:Nat):w.lookN n (i+1)=w.lookN n i++w.lookR n i (AX w.E):=by simp[Wa.lookN,AaN]
theorem Wa.lookN_len (w:Wa) (n i:Nat):(w.lookN n i).length<=i*(AX w.E).length:=by
 induction i with
 |zero=>simp[Wa.lookN]
 |succ i ih=>rw[Wa.lookN_succ,Zk];have:=w.lookR_len n i (AX w.E);rw[Nat.succ_mul];omega
def Sm (wkv:List (List UInt8×Value)) (bs dn:List Nat) (l:List (List UInt8)):Prop:=
 l.Nodup/\l.length<=dn.length/\∀ t,t∈l↔∃ (j b:Nat) (u:Value),wkv[j]?=U (t,u)/\bs[j]?=U b/\b∈dn
theorem Sm.take {wkv:List (List UInt8×Value)} {bs dn:List Nat} {l:List (List UInt8)} (h:Sm wkv bs dn l) {j b:Nat} {key:List UInt8} {u:Value} (hj:wkv[j]?=U (key,u)) (hb:bs[j]?=U b) (hbs:bs.Nodup) (hnd:(wkv.map (·.1)).Nodup) (hnb:b∉dn):Sm wkv bs (dn++[b]) (l++[key]):=by
 obtain⟨h1,h2,h3⟩:=h;refine⟨?_,by simp;omega,λt=>?_⟩
 ·refine Yp.2 ⟨h1,by simp,λx hx y hy e=>?_⟩;simp at hy;subst hy;subst e;obtain⟨j2,b2,u2,q1,q2,q3⟩:=(h3 _).1 hx;have e1:j2=j:=by
   obtain⟨g1,g2⟩:=Yk.1 q1;obtain⟨g3,g4⟩:=Yk.1 hj;have hx1:(wkv.map (·.1))[j2]'(by simpa using g1)=(wkv.map (·.1))[j]'(by simpa using g3):=by simp[g2,g4]
   exact(AbS hnd).1 hx1
  subst e1;rw[hb]at q2;cases q2;exact hnb q3
 ·constructor
  ·intro ht;rcases Yd.1 ht with ht|ht
   ·obtain⟨j2,b2,u2,q1,q2,q3⟩:=(h3 t).1 ht;exact⟨j2,b2,u2,q1,q2,Yx _ q3⟩
   ·rw[YA.1 ht];exact⟨j,b,u,hj,hb,by simp⟩
  ·rintro⟨j2,b2,u2,q1,q2,q3⟩;rcases Yd.1 q3 with q3|q3
   ·exact Yx _ ((h3 t).2 ⟨j2,b2,u2,q1,q2,q3⟩)
   ·have e:=YA.1 q3;subst e;have e1:j2=j:=by
     obtain⟨g1,g2⟩:=Yk.1 q2;obtain⟨g3,g4⟩:=Yk.1 hb;exact(AbS hbs).1 (by rw[g2,g4])
    subst e1;rw[hj]at q1;cases q1;simp
def S277:Spec:=λargs h K=>∃ g p w,∃n:Nat,args=[.pointer (U ⟨p,0,O⟩),.int .i64 (n:Nat)]/\WO g p w/\Heap.le g h/\w.rs.length<=6/\(∀r∈w.rs,r.name.length<=1000)/\w.E.length<=1000/\(∀l∈w.E,l.length<=2000)/\(AX w.E).length<=12/\w.al.length<=200000/\n<=1000 /\
 ∀ g' h',Av g h g' h'->WO g' p { w with al:=w.al++w.look n }->K (.tuple #[]) h'
theorem F277_ok {N:Num} {Γ:Ctx} [Ak Γ] (H54:Sat (S54 N) (Γ 54)) (H67:Sat S67 (Γ 67)) (H174:Sat (S174 N) (Γ 174)):Sat S277 (SF N Γ F277):=by
 rintro _ h K ⟨g,p,w,n,rfl,hwo,hg,hrl,hrn,hEl,hEb,htl,hal,hn,hK⟩;obtain⟨F,rv,av,pd,pt,px,mk,kv,gw,gr,gd,gt,gx,gk,ga,hps,hw⟩:=hwo;have Q0:=hps.rest hg;refine An rfl ?_;simp only[F277,Ze,Nat.reduceSub,Nat.reduceAdd];refine Ae ?_;refine AO λb3 h1 hle1 hb3 ho3=>?_;have ho3':Ah h1 ⟨b3,0,O⟩ [.slice O 0 0]:=ho3.le (Au _ _);have C36:=hw.c36 ((Q0.up hle1).lt 1 rfl);refine Ap @C36 ?_;refine Aa H54 ⟨_,rfl,λb6 h2 hle2 ho6=>?_⟩;obtain⟨mw,wkv,bs,ck,hmw,hMB,hnd,hkeys⟩:=hw.tr.keys;have hgt':=Q0.lt 4 rfl;have hbsl:bs.length=wkv.length:=by obtain⟨_,_,_,h,_⟩:=hMB;exact h
 have hbsn:bs.Nodup:=by obtain⟨_,_,_,_,h,_⟩:=hMB;exact h
 have hwl:wkv.length=(AX w.E).length:=by
  have e:=Lp hnd (Fc w.E) λx=>(hkeys x).trans (CG w.E x).symm
  rwa [Aaw]at e
 have hle12:=hle1.trans hle2;refine Ae ?_;refine Vk (ek:=AF) (ev:=id) (c:=⟨b6,0,O⟩) (a:=⟨pt,0,O⟩) (kv:=wkv) (bs:=bs) (ck:=ck) (mp:=mw) rfl ((ho6.le (Au _ _)).rules.2.1 (by simp)) (hmw h2 (hgt'.trans hle12))
  (λdn G=>Heap.le h G/\∃ v l,Ah G ⟨b3,0,O⟩ [v]/\BE AB 1 G v l/\(∀b,Ao v=U b->h b=O/\b≠b3)/\Sm wkv bs dn l) ⟨hle12,.slice O 0 0,[],ho3'.le hle2,BE.nil,by simp[Ao],⟨by simp,by simp,by simp⟩⟩ (λdn G hJ=>hMB.le (hgt'.trans hJ.1)) ?_ ?_
 rotate_left
 ·rintro dn G j b key val ⟨hG,v,l,hob,hSl,hvb,hga⟩ hdn hds hj hb hnb;have hdl:dn.length<=bs.length:=Ib hdn hds;have hll:=hga.2.1;have B3:G.cell ⟨b3,0,O⟩=U v:=hob.rules.2.1 (by simp);have O1:=hSl.one;refine CS @GH @AF.eq_1 @B3 ?_;refine Bg AB 1 (λ_=>rfl) [key] rfl rfl (by simp[maxLen]) λx1 b1 G3 hle4 hb1 hx1 hS3=>?_;have O2:=hS3.one;refine Ek O2.1 O2.2 O1.1 O1.2 ?_;refine Cc (enc:=AB) (sz:=1) (g:=G3) (l:=l) (l':=[key]) (λ_=>rfl) (by simp[AB,one]) (hSl.le hle4) (ZX G3) (BE.sl (enc:=AB) (λ_=>rfl) (hS3.le (Au _ _))) (by simp;omega) λv4 h4 g4 hS4 St4 e1 e2 e3=>?_;have hob4:Ah h4 ⟨b3,0,O⟩ [v]:=(hob.le hle4).kept λo ho=>e3 _ _ ho λe=>(hvb _ e).2 rfl;have hb3G:G3 b3≠O:=by obtain⟨_,cc,tt,q,_⟩:=hob.le hle4;rw[q];simp
  have hvb4:∀ b,Ao v4=U b->h b=O/\b≠b3:=by
   intro b hb;rcases e2 b hb with h5|h5
   ·exact hvb b h5
   ·exact⟨AC (hG.trans hle4) b h5,λe=>hb3G (e▸h5)⟩
  have hG4:Heap.le h h4:=λb o hb=>e3 b o (hle4 b o (hG b o hb)) λe=>by rw[(hvb b e).1]at hb;cases hb
  have O4:=hS4.one;refine AH O4.1 O4.2 ?_;refine Br hob4 0 1 (by rw[O4.2];rfl) (by rw[O4.2];simp[O4.1]) oM (by simp) λo7 hob8 _=>?_;have hob9:Ah (h4.set b3 o7) ⟨b3,0,O⟩ [v4]:=by have:=hob8 h4 rfl;simpa[O4.2]using this
  refine Ap @GH ?_;have hb3h:h b3=O:=hb3;exact⟨IF.le (b:=b3) hG4 hb3h λx hx=>ZW hx,v4,l++[key],hob9,(hS4.le St4.le).same λb hb=>ZW (hvb4 b hb).2,hvb4,hga.take hj hb hbsn hnd hnb⟩
 rintro dn G ⟨hG,v,l,hob,hSl,hvb,hga⟩ hdn hds hall;have hdl:dn.length<=bs.length:=Ib hdn hds;have hll:l.length<=12:=by have:=hga.2.1;omega
 have hmem:∀ t,t∈l↔Bb w.E t:=by
  intro t;rw[hga.2.2 t,<-hkeys t];refine⟨λ⟨j,b,u,q1,q2,q3⟩=>Yu.2 ⟨_,List.mem_of_getElem? q1,rfl⟩,λht=>?_⟩;obtain⟨⟨k,u⟩,q1,rfl⟩:=Yu.1 ht;obtain⟨j,hj,q2⟩:=List.getElem_of_mem q1;have hj2:j<bs.length:=oM;exact⟨j,bs[j],u,by rw[Zj hj,q2],by rw[Zj hj2],hall _ (List.getElem_mem hj2)⟩
 have B3:G.cell ⟨b3,0,O⟩=U v:=hob.rules.2.1 (by simp);refine Ap @B3 ?_;refine Aa H67 ⟨v,l,rfl,hSl,oM,λH1 hS1 hk1=>?_⟩;have hsrt:MC l=AX w.E:=S8 (PO hga.1) (Eo _) λt=>Uo.trans ((hmem t).trans (CG w.E t).symm);rw[hsrt]at hS1;have hH1:Heap.le h H1:=λb o hb=>hk1 b o (hG b o hb) λe=>by rw[(hvb b e).1]at hb;cases hb
 have hob1:Ah H1 ⟨b3,0,O⟩ [v]:=hob.kept λo ho=>hk1 _ _ ho λe=>(hvb _ e).2 rfl;clear hk1 hSl hob B3 hga hmem hsrt;have hobZ:Ah (fr h H1) ⟨b3,0,O⟩ [v]:=hob1.kept λo hb=>by simp only[fr,hb3];exact hb
 have hSZ:BE AB 1 (fr h H1) v (AX w.E):=hS1.same λb hb=>by simp[fr,(hvb b hb).1]
 have Q1':=(Q0.up hH1)
 have QZ:Ps H1 [rest g h,gw,gr,gd,gt,gx,gk,ga,fr h H1]:=Q0.new hH1;have hlk:(w.lookN n 0)=[]:=rfl;have RV:=hw.rs.one;have Rr:=(hw.rs.le (QZ.lt 2 rfl)).rules 6 AbD default;have C22:=hw.c22 (QZ.lt 1 rfl);refine Ek @C22 RV.1 RV.2 @Rr ?_;refine Aj (λi:Nat=>[U (.pointer (U ⟨p,0,O⟩)),U (.int .i64 (n:Nat)),U (.pointer (U ⟨b3,0,O⟩)),O,O,O,O,O,O,O,O,O,U rv,U (.int .i64 w.rs.length),U (.int .i64 (i:Nat)),O,O,O,O,O,O,O,O,O,O,O,O])
  (λi H=>i<=w.rs.length/\∃ F av gw ga,Ps H [rest g h,gw,gr,gd,gt,gx,gk,ga,fr h H1]/\WP p { w with al:=w.al++w.lookN n i } F rv av pd pt px mk kv gw gr gd gt gx gk ga) (λi=>w.rs.length-i) 0 (by try simp only[Pf];rfl) ⟨oM,F,av,gw,ga,QZ,by rw[hlk,AaP];exact hw⟩ ?_
 clear Rr C22 QZ hlk Q1' Q0 hps;have hrs:=hw.rs;clear hw;rintro i H ⟨hi,F,av,gw,ga,Q,hw⟩;have hi1:=wS i;have Rr:=(hrs.le (Q.lt 2 rfl)).rules 6 AbD default;refine Ae ?_;refine Ad (λc1=>?_) (λc1=>?_);rotate_left
 ·have:i=w.rs.length:=oM;subst this;refine Ae ?_;obtain⟨g4,q1,q2⟩:=WO.of hg (Q.take 8) hw;exact hK g4 _ q1 q2
 have A5:i<w.rs.length:=oM;have hrnm:=hrn _ (As default A5);generalize hre:w.rs.getD i default=r at *;refine CS @Rr @hre @Rl.enc.eq_1 ?_;refine AO λb5 h5 hle5 hb5 ho5=>?_;have hob5:=ho5.le (Au _ _);refine Ae ?_;refine Br (cs:=[.string (str []),.int .i64 0,.int .i64 0,.int .i64 0,.int .i64 0,.int .i64 0]) hob5 0 6 rfl rfl oM (by simp) λo6 hob6 _=>?_;have hob6:Ah (h5.set b5 o6) ⟨b5,0,O⟩ (AbG r):=hob6 h5 rfl;have hle6:Heap.le H (h5.set b5 o6):=IF.le (b:=b5) hle5 hb5 λx hx=>ZW hx;generalize h5.set b5 o6=h6 at *;have Q6:=Q.new hle6;have hobY:Ah (fr H h6) ⟨b5,0,O⟩ (AbG r):=hob6.kept λo hb=>by simp only[fr,hb5];exact hb
 generalize fr H h6=Y at *;clear ho5 hob5 hob6;have B3:∀ H,Heap.le (fr h H1) H->H.cell ⟨b3,0,O⟩=U v:=λH hl=>(hobZ.le hl).rules.2.1 (by simp);have RL:∀ H,Heap.le (fr h H1) H->_:=λH hl=>(BE.sl (enc:=AB) (sz:=1) (λ_=>rfl) (hSZ.le hl)).rules1 (λt=>.string (str t)) (λ_=>rfl) default;have B36:=B3 h6 (Q6.lt 8 rfl);have RL6:=RL h6 (Q6.lt 8 rfl);have hlr0:w.lookR n i ((AX w.E).take 0)=[]:=rfl;have hlN:=w.lookN_len n i;have hlN6:i*(AX w.E).length<=6*12:=AbM oM htl;refine AH @B36 @RL6 ?_;refine Aj (λk:Nat=>[U (.pointer (U ⟨p,0,O⟩)),U (.int .i64 (n:Nat)),U (.pointer (U ⟨b3,0,O⟩)),O,U (.int .i64 (i:Nat)),U (.pointer (U ⟨b5,0,O⟩)),O,O,O,O,O,O,U rv,U (.int .i64 w.rs.length),U (.int .i64 (i:Nat)),O,O,O,U v,U (.int .i64 (AX w.E).length),U (.int .i64 (k:Nat)),O,O,O,O,O,O])
  (λk H=>k<=(AX w.E).length/\∃ F av gw ga,Ps H [rest g h,gw,gr,gd,gt,gx,gk,ga,fr h H1,Y]/\WP p { w with al:=w.al++w.lookN n i++w.lookR n i ((AX w.E).take k) } F rv av pd pt px mk kv gw gr gd gt gx gk ga) (λk=>(AX w.E).length-k) 0 (by try simp only[Pf];rfl) ⟨oM,F,av,gw,ga,Q6,by rw[hlr0,AaP];exact hw⟩ ?_
 clear hw Q6 RL6 B36 Q Rr hlr0 hle5 hle6;rintro k H' ⟨hk,F,av,gw,ga,Q,hw⟩;have hk1:=wS k;have RLk:=RL H' (Q.lt 8 rfl);refine Ae ?_;refine Ad (λc2=>?_) (λc2=>?_);rotate_left
 ·have:k=(AX w.E).length:=oM;subst this;rw[Z5,Zy,<-Wa.lookN_succ]at hw;refine Ap @hi1 ?_;exact Ag (i+1) oM sE ⟨oM,F,av,gw,ga,Q.take 9,hw⟩
 have hk2:k<(AX w.E).length:=oM;have hnr:(AX w.E).take (k+1)=(AX w.E).take k++[(AX w.E).getD k default]:=Ai default hk2;have hlR:=w.lookR_len n i ((AX w.E).take k);rw[Zn]at hlR;generalize hte:(AX w.E).getD k default=t at *;have C36:=hw.c36 (Q.lt 1 rfl);have RW:=(hobY.le (Q.lt 9 rfl)).rules.2.2;simp only[AbG,Y5,ZR,Nat.reduceAdd]at RW;refine Ek @RLk @hte @C36 @RW ?_;refine Aa H174 ⟨gt,pt,_,_,w.E,r,t,n,rfl,hw.tr,Q.lt 4 rfl,hEl,oM,oM,λh7 hle7=>?_⟩;have Q7:=Q.up hle7;have hlq:w.lookR n i ((AX w.E).take (k+1))=w.lookR n i ((AX w.E).take k)++if EY (w.c 2).toNat (w.c 3).toNat w.E r t n then[⟨i,n,t⟩]else[]:=by
  unfold Wa.lookR;rw[hnr,AaI,Aam,hre];congr 1;by_cases e:EY (w.c 2).toNat (w.c 3).toNat w.E r t n<;>simp[e]
 refine Ae ?_;cases c3:EY (w.c 2).toNat (w.c 3).toNat w.E r t n
 ·rw[c3,if_neg (by simp),AaP]at hlq;refine Ap @hk1 ?_;exact Ag (k+1) oM sE ⟨oM,F,av,gw,ga,Q7,by rw[hlq];exact hw⟩
 rw[c3,if_pos rfl]at hlq;have C44:=hw.c44 (Q7.lt 1 rfl);have OA:=hw.al.one;refine Ap @C44 ?_;refine Bg DL 3 Bu [⟨i,n,t⟩] (by simp[DL]) rfl (by simp[maxLen]) λx1 b1 h8 hle8 hb1 hx1 hS3=>?_;have Q8:=Q7.up hle8;have O2:=hS3.one;refine Ek O2.1 O2.2 OA.1 OA.2 ?_;refine Cc (enc:=DL) (sz:=3) (g:=ga) (l':=[⟨i,n,t⟩]) Bu (by simp[DL,one]) hw.al (Q8.lt 7 rfl) (BE.sl Bu (hS3.le (Au _ _))) (by simp;omega) λv9 h9 ga9 hS9 St9 e1 e2 e3=>?_;have Q9:=Q8.step 7 rfl St9;have O9:=hS9.one;refine AH O9.1 O9.2 ?_;refine BO (x:=v9) hw.ob (Q9.lt 1 rfl) 44 O9.2 O9.1 oM λg10 h10 st10 ho10=>?_;have Q10:=Q9.step 1 rfl st10;refine Ap @hk1 ?_;refine Ag (k+1) oM sE ⟨oM,Dx F 44 v9,v9,g10,ga9,Q10,?_⟩;have:=hw.wf.al (w.al++w.lookN n i++w.lookR n i ((AX w.E).take (k+1))) v9;rw[hlq,<-Zy]at this ⊢;exact{ hw with ob:=ho10,wf:=this,al:=hS9 }
def Wa.tell (w:Wa) (x:Nat×List Si):Wa:=
 let w1:Wa:={ w with E:=w.E++[x.2] }
 { w1 with al:=w1.al++w1.look x.1 }
def Wa.closed (w:Wa) (m:Nat):List (Nat×List Si):=Iu (w.c 0).toNat (w.c 1).toNat w.now (w.now+m) w.A
def Wa.tick (w:Wa) (m:Nat):Wa:=(w.closed m).foldl Wa.tell { w with now:=w.now+m }
structure Wa.Mid (w:Wa):Prop where
 rl:w.rs.length<=6
 rf:∀ r∈w.rs,AY r=0
 kn:w.kn.length<=12
 knn:w.kn.Nodup
 Eb:∀ l∈w.E,l.length<=2000/\∀ s∈l,¬Cs 1000 s/\s.tag∈w.kn/\AK s.tag≠0
 al:w.al.length<=100*w.E.length
theorem Wa.Ok.mid {w:Wa} {fed:Nat} (h:w.Ok fed) (n:Nat):({ w with now:=n }:Wa).Mid:=⟨h.rl,h.rf,h.kn,h.knn,h.Eb,h.al⟩
theorem Lq {l m:List (List UInt8)} (h:l.Nodup) (hs:∀ x∈l,x∈m):l.length<=m.length:=by
 induction l generalizing m with
 |nil=>simp
 |cons a l ih=>
  obtain⟨h1,h2⟩:=List.nodup_cons.1 h;have hm:=hs a (by simp);have:=ih (m:=m.erase a) h2 λx hx=>(List.mem_erase_of_ne (by rintro rfl;exact h1 hx)).2 (hs x (by simp[hx]));rw[List.length_erase_of_mem hm]at this;have:0<m.length:=List.length_pos_of_mem hm;simp;omega
theorem Wa.Mid.tags {w:Wa} (h:w.Mid):(AX w.E).length<=12:=by
 refine YU (Lq (Fc w.E) λt ht=>?_) h.kn;obtain⟨l,hl,s,hs,rfl⟩:=(CG w.E t).1 ht;exact((h.Eb l hl).2 s hs).2.1
theorem Wa.Mid.add {w:Wa} (h:w.Mid) {l:List Si} (hl:l.length<=2000/\∀ s∈l,¬Cs 1000 s/\s.tag∈w.kn/\AK s.tag≠0):({ w with E:=w.E++[l] }:Wa).Mid:=
 ⟨h.rl,h.rf,h.kn,h.knn,λl' hl'=>by
  rcases Yd.1 hl' with e|e
  ·exact h.Eb l' e
  ·rw[YA.1 e];exact hl,by have:=h.al;simp;omega⟩
theorem Wa.look_len {w:Wa} (h:w.Mid) (n:Nat):(w.look n).length<=72:=by
 have h1:=w.lookN_len n w.rs.length;have h2:w.rs.length*(AX w.E).length<=6*12:=AbM h.rl h.tags;unfold Wa.look;omega
theorem Wa.Mid.tell {w:Wa} (h:w.Mid) {x:Nat×List Si} (hl:x.2.length<=2000/\∀ s∈x.2,¬Cs 1000 s/\s.tag∈w.kn/\AK s.tag≠0):(w.tell x).Mid:=by
 have h1:=h.add hl;have h2:=Wa.look_len h1 x.1;have h3:=h.al;exact⟨h1.rl,h1.rf,h1.kn,h1.knn,h1.Eb,by unfold Wa.tell;simp only[Zk,Zo];omega⟩
theorem Wa.tells (L:List (Nat×List Si)):∀ (w:Wa),L.foldl Wa.tell w={ w with E:=w.E++L.map (·.2),al:=(L.foldl Wa.tell w).al }:=by
 induction L with
 |nil=>intro w;simp
 |cons x L ih=>intro w;rw[Aan,ih];simp[Wa.tell]
theorem Wa.Mid.tells {L:List (Nat×List Si)}:∀ {w:Wa},w.Mid->(∀x∈L,x.2.length<=2000/\∀ s∈x.2,¬Cs 1000 s/\s.tag∈w.kn/\AK s.tag≠0)->(L.foldl Wa.tell w).Mid:=by
 induction L with
 |nil=>intro w h _;exact h
 |cons x L ih=>intro w h hL;exact ih (h.tell (hL x (by simp))) λy hy=>hL y (Yb _ hy)
theorem UE {size:Nat} {A:List Si} {n:Nat} {s:Si}:s∈PZ size A n↔s∈A/\ep size s=n:=by
 unfold PZ;rw[(Ma _).2.mem_iff];simp
theorem Wa.Ok.closed {w:Wa} {fed:Nat} (h:w.Ok fed) (hf:fed<=20000) {m:Nat}:∀ x∈w.closed m,x.2.length<=2000/\∀ s∈x.2,¬Cs 1000 s/\s.tag∈w.kn/\AK s.tag≠0:=by
 intro x hx;unfold Wa.closed Iu at hx;obtain⟨k,hk,rfl⟩:=Yu.1 hx;refine⟨?_,λs hs=>h.Ab s (UE.1 hs).1⟩;unfold PZ;rw[PY];have h1:=Abl (λs=>decide (ep (w.c 0).toNat s=k)) w.A;have h2:=h.sum;omega
theorem I7 {size late a b:Nat} (h:a<=b):Cd size late a<=Cd size late b:=AbQ oM
theorem Wa.closed_len {w:Wa} {m:Nat}:(w.closed m).length=Cd (w.c 0).toNat (w.c 1).toNat (w.now+m)-Cd (w.c 0).toNat (w.c 1).toNat w.now:=by simp[Wa.closed,Iu]
theorem Wa.Ok.tick {w:Wa} {fed m:Nat} (h:w.Ok fed) (hf:fed<=20000) (hm:w.now+m<=1000):(w.tick m).Ok fed:=by
 have h1:=(h.mid (w.now+m)).tells (L:=w.closed m) (h.closed hf);have h2:=Wa.tells (w.closed m) { w with now:=w.now+m };unfold Wa.tick;rw[h2]at h1 ⊢;refine⟨h.c0,h.c1,h.c2,h.c3,h.c4,h.c5,h.wh,h.rl,h.rf,hm,h.sum,h.d0,h.kn,h.knn,h.Ab,?_,h1.Eb,h1.al⟩;have h3:=I7 (size:=(w.c 0).toNat) (late:=(w.c 1).toNat) (show w.now<=w.now+m by omega);simp only[Zk,Aaw,Wa.closed_len,h.El];omega
theorem DY {size late now:Nat} (hn:now<=1000):Cd size late now<=1000:=YU (Aax _ _) oM
theorem ST {g h:Heap} {b:Nat} (e:g b=O):rest g h b=h b:=by unfold rest;rw[if_pos e]
theorem VG {g h:Heap} {b:Nat} (e:g b≠O):rest g h b=O:=by unfold rest;rw[if_neg e]
theorem Ps.pack {H F Y:Heap} {gs:List Heap} (h:Ps H (F::(gs++[Y]))):Ps H [F,Gx gs,Y]:=by
 obtain⟨h1,h2⟩:=h;obtain⟨h3,h4⟩:=Aaq.1 h2;obtain⟨h5,h6,h7⟩:=Aa4.1 h4;refine⟨λx hx=>?_,?_⟩
 ·simp only[X5,AaL,or_false]at hx;rcases hx with rfl|rfl|rfl
  ·exact h1 _ (by simp)
  ·exact GO λy hy=>h1 y (by simp[hy])
  ·exact h1 _ (by simp)
 ·refine Aaq.2 ⟨λx hx=>?_,Aaq.2 ⟨λx hx=>?_,AbN _ _⟩⟩
  ·simp only[X5,AaL,or_false]at hx;rcases hx with rfl|rfl
   ·exact λb hb=>Gr λy hy=>h3 y (by simp[hy]) b hb
   ·exact h3 _ (by simp)
  ·rw[YA]at hx;subst hx;intro b hb;obtain⟨y,hy,hyb⟩:=IW hb;exact h7 y hy _ (by simp) b hyb
def S269 (N:Num):Spec:=λargs h K=>∃ g p w fed,∃n:Int,args=[.pointer (U ⟨p,0,O⟩),.int .i64 n]/\WO g p w/\Heap.le g h/\w.Ok fed/\fed<=20000 /\
 ((n<0\/1000-(w.now:Int)<n)->K (.tuple #[.int .i64 0,Cm N 1]) h) /\
 (∀m:Nat,n=m->w.now+m<=1000->∀ g' h',Av g h g' h'->WO g' p (w.tick m)->K (.tuple #[.int .i64 ((w.closed m).length:Nat),.nilIface]) h')
theorem Mw {s:Si} (h:¬ Cs 1000 s):¬ s.bad:=by
 unfold Cs at h;unfold Si.bad;omega
theorem F269_ok {N:Num} {Γ:Ctx} [Ak Γ] (H34:Sat (S34 N) (Γ 34)) (H29:Sat (S29 N) (Γ 29)) (H46:Sat S46 (Γ 46)) (H277:Sat S277 (Γ 277)):Sat (S269 N) (SF N Γ F269):=by
 rintro _ h K ⟨g,p,w,fed,n,rfl,hwo,hg,hok,hfed,hK1,hK2⟩;obtain⟨F,rv,av,pd,pt,px,mk,kv,gw,gr,gd,gt,gx,gk,ga,hps,hw⟩:=hwo;have Q0:=hps.rest hg;have hc0:=hok.c0;have hc1:=hok.c1;have hc2:=hok.c2;have hc3:=hok.c3;have hc4:=hok.c4;have hc5:=hok.c5;have hnow:=hok.now;have hA9:w.A.length<=1818:=by have:=hok.sum;omega
 refine An rfl ?_;simp only[F269,Ze,Nat.reduceSub,Nat.reduceAdd];have C35:=hw.c35 (Q0.lt 1 rfl);refine Ap @C35 ?_;refine Aa H34 ⟨gd,pd,n,_,_,_,_,rfl,hw.dk,Q0.lt 3 rfl,oM,oM,oM,oM,oM,λhbad=>?_,λm hm hmn gd' h1 v st1 hD1 hO1=>?_⟩
 ·have:=hK1 hbad;refine Ap @Aq ?_;exact this
 have hK:=hK2 m hm hmn;clear hK1 hK2;have Q1:=Q0.step 3 rfl st1;have hOY:=(hO1.step (Gf':=λ_=>O) (H':=rest (join (rest gd h) gd') h1) (λb o hb hn=>by rw[ST hn];exact hb) λ_ _ _=>rfl).epsR;have hYd:∀ x∈[rest g h,gw,gr,gd',gt,gx,gk,ga],CA x (rest (join (rest gd h) gd') h1):=by
  intro x hx b hb;have:join (rest gd h) gd' b≠O:=by
   by_cases e:x=gd'
   ·subst e;cases e2:rest gd h b with
    |some o=>simp[join,e2]
    |none=>simp[join,e2];simpa using hb
   ·have hx2:∃ j,j≠3/\[rest g h,gw,gr,gd,gt,gx,gk,ga][j]?=U x:=by
     simp only[X5,AaL,or_false]at hx;rcases hx with rfl|rfl|rfl|rfl|rfl|rfl|rfl|rfl
     ·exact⟨0,oM,rfl⟩
     ·exact⟨1,oM,rfl⟩
     ·exact⟨2,oM,rfl⟩
     ·exact absurd rfl e
     ·exact⟨4,oM,rfl⟩
     ·exact⟨5,oM,rfl⟩
     ·exact⟨6,oM,rfl⟩
     ·exact⟨7,oM,rfl⟩
    obtain⟨j,hj,hx3⟩:=hx2;have h3:=Q0.dj j 3 hx3 rfl hj b hb;have h4:h b≠O:=λe=>hb (AC (Q0.lt j hx3) b e);cases e2:h b with
    |none=>exact absurd e2 h4
    |some o=>simp[join,ST h3,e2]
  exact VG this
 have QY:=Q1.add (Gn _ _) hYd;have hOY':∃ Y,Y=rest (join (rest gd h) gd') h1:=⟨_,rfl⟩
 obtain⟨Y,hY⟩:=hOY';simp only[List.set]at QY;rw[<-hY]at hOY QY;obtain⟨g1,st1',hwo1⟩:∃ g1,Ps h1 [rest g h,g1,Y]/\WO g1 p { w with now:=w.now+m }:=by
  refine⟨Gx [gw,gr,gd',gt,gx,gk,ga],?_,F,rv,av,pd,pt,px,mk,kv,gw,gr,gd',gt,gx,gk,ga,(Q1.drop 1).sub,{ hw with wf:=hw.wf.same rfl rfl rfl rfl,dk:=hD1 }⟩;have Q2:Ps h1 [rest g h,gw,gr,gd',gt,gx,gk,ga,Y]:=QY;exact Q2.pack (gs:=[gw,gr,gd',gt,gx,gk,ga])
 obtain⟨es,hes,hel,hee⟩:=hOY;have hcl:=hok.closed hfed (m:=m);have hcn:=w.closed_len (m:=m);have hcm:=I7 (size:=(w.c 0).toNat) (late:=(w.c 1).toNat) (show w.now<=w.now+m by omega);have hc9:Cd (w.c 0).toNat (w.c 1).toNat (w.now+m)<=1000:=DY hmn;have hEl:=hok.El;have hmid:=hok.mid (w.now+m);change ∀i,i<(w.closed m).length->(es.getD i default).1=((w.closed m).getD i default).1/\Sl Aa6 Y (es.getD i default).2 ((w.closed m).getD i default).2 at hee;change es.length=(w.closed m).length at hel;unfold Wa.tick at hK;have hcd:∀ x∈w.closed m,x.1<=1000:=by
  intro x hx;unfold Wa.closed Iu at hx;obtain⟨k,hk,rfl⟩:=Yu.1 hx;rw[List.mem_range'_1]at hk;dsimp only;omega
 generalize w.closed m=L at *;have R:=(hes.le (st1'.lt 2 rfl)).rules 2 Ck default;have hvo:=hes.one;rw[hel]at R;clear QY hYd Q1 Q0 hps hw;refine Ap @R ?_;refine Aj (λi:Nat=>[U (.pointer (U ⟨p,0,O⟩)),O,O,O,U v,O,O,O,O,U v,U (.int .i64 L.length),U (.int .i64 (i:Nat)),O,O,O,O])
  (λi H=>i<=L.length/\∃ gW,Ps H [rest g h,gW,Y]/\WO gW p ((L.take i).foldl Wa.tell { w with now:=w.now+m })) (λi=>L.length-i) 0 (by try simp only[Pf];rfl) ⟨oM,g1,st1',hwo1⟩ ?_
 clear hwo1 st1' R;rintro i H ⟨hi,gW,Q,hW⟩;have hi1:=wS i;have R:=(hes.le (Q.lt 2 rfl)).rules 2 Ck default;rw[hel]at R;refine Ae ?_;refine Ad (λc1=>?_) (λc1=>?_);rotate_left
 ·have:i=L.length:=oM;subst this;rw[Z5]at hW;refine Ap @R ?_;exact hK _ _ (Q.step1 hg) hW
 have A5:i<L.length:=oM;obtain⟨e1,e2⟩:=hee i A5;have hnx:L.take (i+1)=L.take i++[L.getD i default]:=Ai default A5;have hcx:=hcl _ (As default A5);have hcx2:=hcd _ (As default A5);have hmi:=hmid.tells (L:=L.take i) λx hx=>hcl x (Z4 hx);have htf:=Wa.tells (L.take i) { w with now:=w.now+m };generalize hfe:L.getD i default=x at *;generalize hre:es.getD i default=y at *;have hyo:=e2.one;generalize hw2:(L.take i).foldl Wa.tell { w with now:=w.now+m }=w2 at *;have hE2:w2.E=w.E++(L.take i).map (·.2):=by rw[htf]
 have hE2l:w2.E.length<=999:=by rw[hE2,Zk,Aaw,Zn];omega
 have f0:w2.c=w.c:=by rw[htf]
 have f1:w2.kn=w.kn:=by rw[htf]
 clear htf;obtain⟨F,rv,av,pd,pt,px,mk,kv,gw,gr,gd,gt,gx,gk,ga,hps,hw⟩:=hW;have V0:=hps.rest (Q.lt 1 rfl);have C36:=hw.c36 (V0.lt 1 rfl);have C37:=hw.c37 (V0.lt 1 rfl);refine Vc @R @hre @Iq.eq_1 hyo.1 hyo.2 @C36 ?_;refine Aa H29 ⟨pt,y.2,x.2,gt,_,_,w2.E,rfl,e2.le (Q.lt 2 rfl),hw.tr,V0.lt 4 rfl,⟨by rw[f0];omega,by rw[f0];omega,oM,λl hl=>⟨λs hs=>Mw ((hmi.Eb l hl).2 s hs).1,by have:=(hmi.Eb l hl).1;omega⟩⟩,oM,oM,λhb=>?_,λhb h3 gt3 st3 hT3=>?_⟩
 ·obtain⟨s,hs,hsb⟩:=hb;exact absurd hsb (Mw (hcx.2 s hs).1)
 have V3:=V0.step 4 rfl st3;have C37':=hw.c37 (V3.lt 1 rfl);refine Ap @C37' ?_;refine Aa H46 ⟨gx,gt3,px,pt,_,_,w2.E++[x.2],_,_,w2.E.length,rfl,hw.ix.more,V3.lt 5 rfl,hT3,V3.lt 4 rfl,V3.dj 4 5 rfl rfl oM,by rw[f0];omega,by simp;omega,λl hl=>?_,by rw[f0];omega,by rw[f0];omega,by rw[f0];omega,by rw[f0];omega,λhn=>by simp at hn,λ_ gx4 h4 st4 hX4=>?_⟩
 ·rcases Yd.1 hl with e|e
  ·exact(hmi.Eb l e).1
  ·rw[YA.1 e];exact hcx.1
 have V4:=V3.step 5 rfl st4;obtain⟨g5,st5,hW5⟩:=WO.of (w:={ w2 with E:=w2.E++[x.2] }) (Q.lt 1 rfl) V4 { ob:=hw.ob,wf:=hw.wf.same rfl rfl rfl rfl,rs:=hw.rs,dk:=hw.dk,tr:=hT3,ix:=by simpa using hX4,km:=hw.km,kn:=hw.kn,al:=hw.al };have Q5:=Q.step 1 rfl st5;have hm5:=hmi.add (l:=x.2) (by rw[f1];exact hcx);refine Ae ?_;rw[e1];refine Aa H277 ⟨g5,p,_,x.1,rfl,hW5,Q5.lt 1 rfl,hm5.rl,λr hr=>?_,by simp;omega,λl hl=>(hm5.Eb l hl).1,hm5.tags,by have:=hmi.al;simp;omega,hcx2,λg6 h6 st6 hW6=>?_⟩
 ·have:=Be.1 (hm5.rf r hr);have:=this.1.2.1;omega
 have Q6:=Q5.step 1 rfl st6;refine Ap @hi1 ?_;exact Ag (i+1) oM sE ⟨oM,g6,Q6,by rw[hnx,Aat,hw2];exact hW6⟩
def KO (c:Nat->Int):Value:=.agg #[.int .i64 (c 0),.int .i64 (c 1),.int .i64 (c 2),.int .i64 (c 3),.int .i64 (c 4),.int .i64 (c 5),.int .i64 (c 6),.int .i64 (c 7),.int .i64 (c 8),.int .i64 (c 9),.int .i64 (c 10),.int .i64 (c 11),.int .i64 (c 12),.int .i64 (c 13),.int .i64 (c 14),.int .i64 (c 15),.int .i64 (c 16),.int .i64 (c 17),.int .i64 (c 18),.int .i64 (c 19),.int .i64 (c 20),.int .i64 (c 21)]
instance (c:Nat->Int):Decidable (CT c):=by unfold CT;infer_instance
def Ho (c:Nat->Int):Bool:=(Yh 16).any λk=>decide (c (6+k) < -1\/7<c (6+k))
def EP (AN:List (List UInt8)):List Rl->Nat
 |[]=>0
 |r::l=>if AY r≠0 then AY r else if r.name∈AN then 7 else EP (AN++[r.name]) l
theorem Fd (AN:List (List UInt8)) (r:Rl) (l:List Rl):EP AN (r::l)=if AY r≠0 then AY r else if r.name∈AN then 7 else EP (AN++[r.name]) l:=rfl
def CP (c:Nat->Int) (rs:List Rl):Nat:=if CT c then 1 else if Ho c then 1 else if 6<rs.length then 2 else EP [] rs
def newW (c:Nat->Int) (rs:List Rl):Wa:=⟨c,rs,λ_=>([],0),λ_=>-1,λ_=>0,[],0,[],[],[]⟩
def S266 (N:Num):Spec:=λargs h K=>∃ c rv rs,args=[KO c,rv]/\Sl AbG h rv rs/\rs.length<=100000/\(∀r∈rs,r.name.length<=10000000) /\
 (CP c rs≠0->∀ h',Heap.le h h'->K (.tuple #[.pointer O,Cm N (CP c rs)]) h') /\
 (CP c rs=0->∀ p g' h',Av (λ_=>O) h g' h'->WO g' p (newW c rs)->K (.tuple #[.pointer (U ⟨p,0,O⟩),.nilIface]) h')
def Xa (c:Nat->Int) (rv:Value) (mk:Nat):Nat->Value:=λj=>([Value.int .i64 (c 0),.int .i64 (c 1),.int .i64 (c 2),.int .i64 (c 3),.int .i64 (c 4),.int .i64 (c 5),.int .i64 (c 6),.int .i64 (c 7),.int .i64 (c 8),.int .i64 (c 9),.int .i64 (c 10),.int .i64 (c 11),.int .i64 (c 12),.int .i64 (c 13),.int .i64 (c 14),.int .i64 (c 15),.int .i64 (c 16),.int .i64 (c 17),.int .i64 (c 18),.int .i64 (c 19),.int .i64 (c 20),.int .i64 (c 21),rv,.string (str []),.int .i64 0,.string (str []),.int .i64 0,.string (str []),.int .i64 0,.string (str []),.int .i64 0,.int .i64 (-1),.int .i64 (-1),.int .i64 (-1),.int .i64 (-1),.pointer O,.pointer O,.pointer O,.map (U mk),.int .i64 0,.int .i64 0,.int .i64 0,.int .i64 0,.int .i64 0,.slice O 0 0]:List Value).getD j default
theorem Ui (c:Nat->Int) (H:Heap) {i:Nat} (hi:i<4):A8 H (.vidxn 4 4) (.v (.agg #[.int .i64 (c 6),.int .i64 (c 7),.int .i64 (c 8),.int .i64 (c 9),.int .i64 (c 10),.int .i64 (c 11),.int .i64 (c 12),.int .i64 (c 13),.int .i64 (c 14),.int .i64 (c 15),.int .i64 (c 16),.int .i64 (c 17),.int .i64 (c 18),.int .i64 (c 19),.int .i64 (c 20),.int .i64 (c 21)])) (.v (.int .i64 (i:Nat))) =
  U (.v (.agg #[.int .i64 (c (6+4*i)),.int .i64 (c (6+(4*i+1))),.int .i64 (c (6+(4*i+2))),.int .i64 (c (6+(4*i+3)))])):=by
 rcases(by omega:i=0\/i=1\/i=2\/i=3)with rfl|rfl|rfl|rfl<;>rfl
theorem Vz (x0 x1 x2 x3:Int) (f:Nat->Int) (h0:f 0=x0) (h1:f 1=x1) (h2:f 2=x2) (h3:f 3=x3) {j:Nat} (hj:j<4):(#[Value.int .i64 x0,.int .i64 x1,.int .i64 x2,.int .i64 x3]:Array Value)[j]?=U (.int .i64 (f j)):=by
 subst h0 h1 h2 h3;rcases(by omega:j=0\/j=1\/j=2\/j=3)with rfl|rfl|rfl|rfl<;>rfl
theorem WF.newW (c:Nat->Int) (rs:List Rl) (rv:Value) (mk pd pt px:Nat):WF (Dx (Dx (Dx (Xa c rv mk) 35 (.pointer (U ⟨pd,0,O⟩))) 36 (.pointer (U ⟨pt,0,O⟩))) 37 (.pointer (U ⟨px,0,O⟩))) (newW c rs) rv pd pt px mk (.slice O 0 0) where
 c:=λk hk=>by
  rw[Af oM,Af oM,Af oM];rcases(by omega:k=0\/k=1\/k=2\/k=3\/k=4\/k=5\/k=6\/k=7\/k=8\/k=9\/k=10\/k=11\/k=12\/k=13\/k=14\/k=15\/k=16\/k=17\/k=18\/k=19\/k=20\/k=21)with rfl|rfl|rfl|rfl|rfl|rfl|rfl|rfl|rfl|rfl|rfl|rfl|rfl|rfl|rfl|rfl|rfl|rfl|rfl|rfl|rfl|rfl<;>rfl
 r:=rfl
 l1:=λk hk=>by rcases(by omega:k=0\/k=1\/k=2\/k=3)with rfl|rfl|rfl|rfl<;>rfl
 l2:=λk hk=>by rcases(by omega:k=0\/k=1\/k=2\/k=3)with rfl|rfl|rfl|rfl<;>rfl
 wm:=λk hk=>by rcases(by omega:k=0\/k=1\/k=2\/k=3)with rfl|rfl|rfl|rfl<;>rfl
 d:=rfl
 t:=rfl
 x:=rfl
 k:=rfl
 dr:=λk hk=>by rcases(by omega:k=0\/k=1\/k=2\/k=3\/k=4)with rfl|rfl|rfl|rfl|rfl<;>rfl
 a:=rfl
theorem Ps.one (h:Heap):Ps h [h]:=⟨λg hg=>by rw[YA.1 hg];exact ZX h,AbN _ _⟩
theorem Ps.perm {H:Heap} {gs gs':List Heap} (h:Ps H gs) (hp:gs.Perm gs'):Ps H gs':=
 ⟨λg hg=>h.1 g (hp.mem_iff.2 hg),(hp.pairwise_iff λ{x y} (a:CA x y)=>a.symm).1 h.2⟩
theorem F266_ok {N:Num} {Γ:Ctx} [Ak Γ] (H33:Sat (S33 N) (Γ 33)) (H28:Sat (S28 N) (Γ 28)) (H44:Sat (S44 N) (Γ 44)) (H170:Sat (S170 N) (Γ 170)):Sat (S266 N) (SF N Γ F266):=by
 rintro _ h K ⟨c,rv,rs,rfl,hrs,hrl,hrn,hK1,hK2⟩;refine An rfl ?_;simp only[F266,Ze,Nat.reduceSub,Nat.reduceAdd,KO];refine Ae ?_;refine Kl (λenv H=>∃ p rv' mk gw gr gk,Ps H [h,gr,gk,gw]/\Cp gw p 45 (Xa c rv' mk)/\Sl AbG gr rv' rs/\Bn AF GS gk mk [] [] 0 /\
  env=[U (KO c),U rv,U (KO c),O,O,U (.pointer (U ⟨p,0,O⟩)),O,O,O,O,O,O,O,O,O,O,O,O,O,O,O,O,O,O,O,O,O,O,O,O,O,O,O,O,O,O,O,O,O,O,O,O,O,O,O,O,O]) ?_ ?_
 rotate_left
 ·refine Vl ?_ ?_
  ·refine Ae ?_;refine FO AbD (λ_=>rfl) (AQ.nil (ZX h)) hrs (by simp only[ZR];omega) λv1 h1 ho1=>?_;refine Ae ?_;refine Cb (AE ho1.1) ?_;refine Ae ?_;refine EX (ek:=AF) (ev:=GS) λm h2 hm hle2 hmb=>?_;refine Ae ?_;refine CX (AE (ho1.1.trans hle2)) ?_;have OV:=ho1.one;refine AH OV.1 OV.2 ?_;refine AO λp h3 hle3 hp hob=>?_;refine Ae ?_;exact Ar _ (by try simp only[Pf];rfl) ⟨p,v1,m,_,_,_,(((Ps.one h).new ho1.1).new hle2).new hle3,hob,ho1.slf AbD,hmb,rfl⟩
  ·refine Ae ?_;refine EX (ek:=AF) (ev:=GS) λm h1 hm hle1 hmb=>?_;refine Ae ?_;refine Cb (AE hle1) ?_;refine Ae ?_;refine FO AbD (λ_=>rfl) (AQ.nil (ZX h1)) (hrs.le hle1) (by simp only[ZR];omega) λv1 h2 ho1=>?_;have OV:=ho1.one;refine Ae ?_;refine CX (AE (hle1.trans ho1.1)) ?_;refine AH OV.1 OV.2 ?_;refine AO λp h3 hle3 hp hob=>?_;refine Ae ?_;exact Ar _ (by try simp only[Pf];rfl) ⟨p,v1,m,_,_,_,((((Ps.one h).new hle1).new ho1.1).new hle3).perm (List.Perm.cons _ (List.Perm.swap _ _ _)),hob,ho1.slf AbD,hmb,rfl⟩
 rintro env H0 ⟨p,rv',mk,gw,gr,gk,Q,hob,hr',hmb,rfl⟩;unfold CP at hK1 hK2;refine Ap @KO.eq_1 ?_;refine Aa H33 ⟨c 0,c 1,rfl,λhb=>?_,λhb pd h1 hpd hle1 hP=>?_⟩
 ·unfold NC at hb;rw[if_pos (show CT c by unfold CT;omega)]at hK1;refine Ae ?_;refine BO hob (Q.lt 3 rfl) 35 rfl rfl oM λg2 h2 st2 ho2=>?_;refine Ap @Aq ?_;exact hK1 oM h2 ((Q.step 3 rfl st2).lt 0 rfl)
 unfold NC at hb;have Q1:=Q.new hle1;refine Ae ?_;refine BO hob (Q1.lt 3 rfl) 35 rfl rfl oM λg2 h2 st2 ho2=>?_;have Q2:=Q1.step 3 rfl st2;refine Ae ?_;refine Aa H28 ⟨c 2,c 3,rfl,λhb2 h3 hle3=>?_,λhb2 pt h3 hpt hle3 hT=>?_⟩
 ·unfold GL at hb2;rw[if_pos (show CT c by unfold CT;omega)]at hK1;refine Ae ?_;refine BO ho2 ((Q2.up hle3).lt 3 rfl) 36 rfl rfl oM λg4 h4 st4 ho4=>?_;refine Ap @Aq ?_;exact hK1 oM h4 (((Q2.up hle3).step 3 rfl st4).lt 0 rfl)
 unfold GL at hb2;have Q3:=Q2.new hle3;refine Ae ?_;refine BO ho2 (Q3.lt 3 rfl) 36 rfl rfl oM λg4 h4 st4 ho4=>?_;have Q4:=Q3.step 3 rfl st4;have C36:=(ho4.le (Q4.lt 3 rfl)).cell (j:=36) oM;rw[Bv]at C36;refine Ap @C36 ?_;refine Aa H44 ⟨pt,(c 2).toNat,(c 3).toNat,c 4,c 5,rfl,λhb3=>?_,λhb3 px h5 hpx hle5 hX=>?_⟩
 ·unfold Nk at hb3;rw[if_pos (show CT c by unfold CT;omega)]at hK1;refine Ae ?_;refine BO ho4 (Q4.lt 3 rfl) 37 rfl rfl oM λg6 h6 st6 ho6=>?_;refine Ap @Aq ?_;exact hK1 oM h6 ((Q4.step 3 rfl st6).lt 0 rfl)
 unfold Nk at hb3;rw[if_neg (show ¬CT c by unfold CT;omega)]at hK1 hK2;have Q5:=Q4.new hle5;refine Ae ?_;refine BO ho4 (Q5.lt 3 rfl) 37 rfl rfl oM λg6 h6 st6 ho6=>?_;have Q6:=Q5.step 3 rfl st6;simp only[List.set,Y7,List.nil_append]at Q6;refine Ae ?_;clear Q5 Q4 Q3 Q2 Q1 Q;refine Aj (λi:Nat=>[O,U rv,O,O,O,U (.pointer (U ⟨p,0,O⟩)),O,O,O,O,O,O,O,O,O,O,O,O,O,O,O,O,O,O,O,O,O,O,O,U (.agg #[.int .i64 (c 6),.int .i64 (c 7),.int .i64 (c 8),.int .i64 (c 9),.int .i64 (c 10),.int .i64 (c 11),.int .i64 (c 12),.int .i64 (c 13),.int .i64 (c 14),.int .i64 (c 15),.int .i64 (c 16),.int .i64 (c 17),.int .i64 (c 18),.int .i64 (c 19),.int .i64 (c 20),.int .i64 (c 21)]),U (.int .i64 (i:Nat)),O,O,O,O,O,O,O,O,O,O,O,O,O,O,O,O])
  (λi H'=>i<=4/\H'=h6/\∀ k,k<4*i->¬ (c (6+k) < -1\/7<c (6+k))) (λi=>4-i) 0 (by try simp only[Pf];rfl) ⟨oM,rfl,λk hk=>by omega⟩ ?_
 rintro i H' ⟨hi,rfl,hwb⟩;have hi1:=wS i;refine Ae ?_;refine Ad (λc1=>?_) (λc1=>?_)
 ·have hv:=Ui c H' (i:=i) oM;refine Ap @hv ?_;refine Aj (λj:Nat=>[O,U rv,O,O,O,U (.pointer (U ⟨p,0,O⟩)),O,O,O,O,O,O,O,O,O,O,O,O,O,O,O,O,O,O,O,O,O,O,O,U (.agg #[.int .i64 (c 6),.int .i64 (c 7),.int .i64 (c 8),.int .i64 (c 9),.int .i64 (c 10),.int .i64 (c 11),.int .i64 (c 12),.int .i64 (c 13),.int .i64 (c 14),.int .i64 (c 15),.int .i64 (c 16),.int .i64 (c 17),.int .i64 (c 18),.int .i64 (c 19),.int .i64 (c 20),.int .i64 (c 21)]),U (.int .i64 (i:Nat)),O,O,U (.agg #[.int .i64 (c (6+4*i)),.int .i64 (c (6+(4*i+1))),.int .i64 (c (6+(4*i+2))),.int .i64 (c (6+(4*i+3)))]),U (.int .i64 (j:Nat)),O,O,O,O,O,O,O,O,O,O,O,O])
   (λj H2=>j<=4/\H2=H'/\∀ k,k<4*i+j->¬ (c (6+k) < -1\/7<c (6+k))) (λj=>4-j) 0 (by try simp only[Pf];rfl) ⟨oM,rfl,hwb⟩ ?_
  rintro j H2 ⟨hj,rfl,hwb2⟩;have hj1:=wS j;refine Ae ?_;refine Ad (λc2=>?_) (λc2=>?_)
  ·have hv2:(#[Value.int .i64 (c (6+4*i)),.int .i64 (c (6+(4*i+1))),.int .i64 (c (6+(4*i+2))),.int .i64 (c (6+(4*i+3)))]:Array Value)[j]?=U (.int .i64 (c (6+(4*i+j)))):=Vz _ _ _ _ (λj=>c (6+(4*i+j))) rfl rfl rfl rfl (j:=j) oM;refine Ap @hv2 ?_;refine Ad (λc3=>?_) (λc3=>?_)
   ·have:Ho c=true:=by
     unfold Ho;rw[Y8];exact⟨4*i+j,Zc.2 oM,by rw[decide_eq_true_eq];omega⟩
    rw[if_pos this]at hK1;refine Ap @Aq ?_;exact hK1 oM H2 (Q6.lt 0 rfl)
   ·refine Ap @hj1 ?_;refine Ag (j+1) oM sE ⟨oM,rfl,λk hk=>?_⟩;by_cases e:k<4*i+j
    ·exact hwb2 k e
    ·have:k=4*i+j:=oM;subst this;omega
  ·have:j=4:=oM;subst this;refine Ap @hi1 ?_;exact Ag (i+1) oM sE ⟨oM,rfl,λk hk=>hwb2 k oM⟩
 have hi4:i=4:=oM;subst hi4;have hwf:Ho c=false:=by
  unfold Ho;rw[AbR];intro k hk;have:=hwb k (by have:=Zc.1 hk;omega);simpa using this
 rw[if_neg (by rw[hwf];simp)]at hK1 hK2;have Rr:=(hrs.le (Q6.lt 0 rfl)).rules 6 AbD default;refine Ap @Rr ?_;refine Ad (λc4=>?_) (λc4=>?_)
 ·rw[if_pos oM]at hK1;refine Ap @Aq ?_;exact hK1 oM H' (Q6.lt 0 rfl)
 rw[if_neg oM]at hK1 hK2;refine Ae ?_;refine EX (ek:=AF) (ev:=GS) λm h7 hm7 hle7 hmb7=>?_;have Q7:=Q6.new hle7;have Rr:=(hrs.le (Q7.lt 0 rfl)).rules 6 AbD default;refine Ap @Rr ?_;refine Aj (λi:Nat=>[O,U rv,O,O,O,U (.pointer (U ⟨p,0,O⟩)),O,O,O,U (.map (U m)),O,O,O,O,O,O,O,O,O,O,O,O,O,O,O,O,O,O,O,O,O,O,O,O,O,O,O,O,O,U rv,U (.int .i64 rs.length),U (.int .i64 (i:Nat)),O,O,O,O,O])
  (λi H=>i<=rs.length/\EP [] rs=EP ((rs.take i).map (·.name)) (rs.drop i)/\∃ gn kv bs ck,Ps H [h,gr,gk,g6,fr H0 h1,fr h2 h3,fr h4 h5,gn]/\Bn AF GS gn m kv bs ck/\Uc kv ((rs.take i).map (·.name))) (λi=>rs.length-i) 0 (by try simp only[Pf];rfl) ⟨oM,rfl,_,[],[],0,Q7,hmb7,Uc.nil⟩ ?_
 clear Rr Q7 Q6 hmb7;rintro i H ⟨hi,hrf,gn,kv,bs,ck,Q,hmn,hkn⟩;have hi1:=wS i;have Rr:=(hrs.le (Q.lt 0 rfl)).rules 6 AbD default;refine Ae ?_;refine Ad (λc5=>?_) (λc5=>?_);rotate_left
 ·have:i=rs.length:=oM;subst this;rw[AbJ]at hrf;refine Ae ?_;have Qf:Ps H [h,g6,gr,fr H0 h1,fr h2 h3,fr h4 h5,gk,λ_=>O]:=by
   have q:=(Q.take 7).perm (gs':=[h,g6,gr,fr H0 h1,fr h2 h3,fr h4 h5,gk]) ?_
   ·exact q.add (λb o hb=>by cases hb) λx hx b hb=>rfl
   ·refine List.Perm.cons _ ?_;have e1:[gr,gk,g6,fr H0 h1,fr h2 h3,fr h4 h5].Perm [gr,g6,gk,fr H0 h1,fr h2 h3,fr h4 h5]:=List.Perm.cons _ (List.Perm.swap _ _ _);have e2:[gr,g6,gk,fr H0 h1,fr h2 h3,fr h4 h5].Perm [g6,gr,gk,fr H0 h1,fr h2 h3,fr h4 h5]:=List.Perm.swap _ _ _;have e3:[gk,fr H0 h1,fr h2 h3,fr h4 h5].Perm [fr H0 h1,fr h2 h3,fr h4 h5,gk]:=List.perm_append_comm (l₁:=[gk]) (l₂:=[fr H0 h1,fr h2 h3,fr h4 h5]);exact(e1.trans e2).trans ((List.Perm.cons _ (List.Perm.cons _ e3)))
  refine hK2 (by rw[hrf];rfl) p _ H ?_ ⟨_,rv',.slice O 0 0,pd,pt,px,mk,[],g6,gr,fr H0 h1,fr h2 h3,fr h4 h5,gk,λ_=>O,(Qf.drop 1).sub,{ ob:=ho6,wf:=WF.newW c rs rv' mk pd pt px,rs:=hr',dk:=hP,tr:=hT,ix:=hX [],km:=⟨[],0,hmb⟩,kn:=Uc.nil,al:=BE.nil }⟩;refine⟨GO λx hx=>Qf.1 x (Yb _ hx),λb o h1 _=>Qf.lt 0 rfl b o h1,λb h1 _=>Gr λx hx=>?_⟩;exact(Aaq.1 Qf.2).1 x hx b h1
 have A5:i<rs.length:=oM;have hnx:rs.take (i+1)=rs.take i++[rs.getD i default]:=Ai default A5;have hdr:rs.drop i=rs.getD i default::rs.drop (i+1):=by
  rw[Aaj A5];simp[AaO,Zj A5]
 have hrnm:=hrn _ (As default A5);generalize hre:rs.getD i default=r at *;rw[hdr,Fd]at hrf;refine CS @Rr @hre @Rl.enc.eq_1 ?_;refine Aa H170 ⟨r,rfl,hrnm,?_⟩;by_cases hf:AY r=0
 ·rw[hf,AP];rw[if_neg (by simpa using hf)]at hrf;have L1:=hkn.lkp (hmn.le (Q.lt 7 rfl)) r.name;refine Ap @L1 ?_;refine Ad (λc6=>?_) (λc6=>?_)
  ·rw[if_pos c6]at hrf;rw[hrf]at hK1;refine Ap @Aq ?_;exact hK1 oM H (Q.lt 0 rfl)
  ·rw[if_neg c6]at hrf;refine Ae ?_;refine BX (kb:=.str) (ek:=AF) (ev:=GS) hmn (Q.lt 7 rfl) r.name true λo bs' ck' hmb' st8 _=>?_;have Q8:=Q.step 7 rfl st8;refine Ap @hi1 ?_;refine Ag (i+1) oM sE ⟨oM,by rw[hnx,Aam];exact hrf,_,_,bs',ck',Q8,hmb',?_⟩;have:=hkn.add r.name;rw[if_neg c6]at this;rw[hnx,Aam];exact this
 ·rw[if_pos (by simpa using hf)]at hrf;rw[hrf]at hK1;rw[Ip N hf];have hK1':=hK1 hf;rw[Ip N hf]at hK1';refine Ae ?_;exact hK1' H (Q.lt 0 rfl)
structure MF (F:Nat->Value) (w:Wa) (rv av kv:Value) (bm:Nat):Prop where
 c:∀ k,k<22->F (k)=.int .i64 (w.c k)
 r:F 22=rv
 l1:∀ k,k<4->F (23+2*k)=.string (str (w.ln k).1)
 l2:∀ k,k<4->F (24+2*k)=.int .i64 ((w.ln k).2:Nat)
 wm:∀ k,k<4->F (31+k)=.int .i64 (w.wm k)
 sz:F 35=.int .i64 (w.c 0)
 la:F 36=.int .i64 (w.c 1)
 nw:F 37=.int .i64 (w.now:Nat)
 al:F 38=av
 t:F 39=.pointer (U ⟨bm,0,O⟩)
 kn:F 40=kv
 dr:∀ k,k<5->F (41+k)=.int .i64 (w.dr k:Nat)
theorem MF.drop {F:Nat->Value} {w:Wa} {rv av kv:Value} {bm:Nat} (h:MF F w rv av kv bm) (k:Nat) (hk:k<5) (n:Nat):MF (Dx F (41+k) (.int .i64 (n:Nat))) ({ w with dr:=Ez w.dr k n }) rv av kv bm where
 c:=λj hj=>by rw[Af oM];exact h.c j hj
 r:=by rw[Af oM];exact h.r
 l1:=λj hj=>by rw[Af oM];exact h.l1 j hj
 l2:=λj hj=>by rw[Af oM];exact h.l2 j hj
 wm:=λj hj=>by rw[Af oM];exact h.wm j hj
 sz:=by rw[Af oM];exact h.sz
 la:=by rw[Af oM];exact h.la
 nw:=by rw[Af oM];exact h.nw
 al:=by rw[Af oM];exact h.al
 t:=by rw[Af oM];exact h.t
 kn:=by rw[Af oM];exact h.kn
 dr:=λj hj=>by
  by_cases e:j=k
  ·subst e;rw[Bv];simp only[EH]
  ·rw[Af oM];simp only[EG e];exact h.dr j hj
theorem MF.warm {F:Nat->Value} {w:Wa} {rv av kv:Value} {bm:Nat} (h:MF F w rv av kv bm) (k:Nat) (hk:k<4) (n:Int):MF (Dx F (31+k) (.int .i64 n)) ({ w with wm:=Ez w.wm k n }) rv av kv bm where
 c:=λj hj=>by rw[Af oM];exact h.c j hj
 r:=by rw[Af oM];exact h.r
 l1:=λj hj=>by rw[Af oM];exact h.l1 j hj
 l2:=λj hj=>by rw[Af oM];exact h.l2 j hj
 wm:=λj hj=>by
  by_cases e:j=k
  ·subst e;rw[Bv];simp only[EH]
  ·rw[Af oM];simp only[EG e];exact h.wm j hj
 sz:=by rw[Af oM];exact h.sz
 la:=by rw[Af oM];exact h.la
 nw:=by rw[Af oM];exact h.nw
 al:=by rw[Af oM];exact h.al
 t:=by rw[Af oM];exact h.t
 kn:=by rw[Af oM];exact h.kn
 dr:=λj hj=>by rw[Af oM];exact h.dr j hj
theorem MF.line {F:Nat->Value} {w:Wa} {rv av kv:Value} {bm:Nat} (h:MF F w rv av kv bm) (k:Nat) (hk:k<4) (a:List UInt8) (n:Nat):MF (Dx (Dx F (23+2*k) (.string (str a))) (23+2*k+1) (.int .i64 (n:Nat))) ({ w with ln:=Ez w.ln k (a,n) }) rv av kv bm where
 c:=λj hj=>by rw[Af oM,Af oM];exact h.c j hj
 r:=by rw[Af oM,Af oM];exact h.r
 l1:=λj hj=>by
  rw[Af oM];by_cases e:j=k
  ·subst e;rw[Bv];simp only[EH]
  ·rw[Af oM];simp only[EG e];exact h.l1 j hj
 l2:=λj hj=>by
  by_cases e:j=k
  ·subst e;rw[show 24+2*j=23+2*j+1 by omega,Bv];simp only[EH]
  ·rw[Af oM,Af oM];simp only[EG e];exact h.l2 j hj
 wm:=λj hj=>by rw[Af oM,Af oM];exact h.wm j hj
 sz:=by rw[Af oM,Af oM];exact h.sz
 la:=by rw[Af oM,Af oM];exact h.la
 nw:=by rw[Af oM,Af oM];exact h.nw
 al:=by rw[Af oM,Af oM];exact h.al
 t:=by rw[Af oM,Af oM];exact h.t
 kn:=by rw[Af oM,Af oM];exact h.kn
 dr:=λj hj=>by rw[Af oM,Af oM];exact h.dr j hj
theorem MF.now {F:Nat->Value} {w:Wa} {rv av kv:Value} {bm:Nat} (h:MF F w rv av kv bm) (n:Nat):MF (Dx F 37 (.int .i64 (n:Nat))) ({ w with now:=n }) rv av kv bm where
 c:=λj hj=>by rw[Af oM];exact h.c j hj
 r:=by rw[Af oM];exact h.r
 l1:=λj hj=>by rw[Af oM];exact h.l1 j hj
 l2:=λj hj=>by rw[Af oM];exact h.l2 j hj
 wm:=λj hj=>by rw[Af oM];exact h.wm j hj
 sz:=by rw[Af oM];exact h.sz
 la:=by rw[Af oM];exact h.la
 nw:=by rw[Bv]
 al:=by rw[Af oM];exact h.al
 t:=by rw[Af oM];exact h.t
 kn:=by rw[Af oM];exact h.kn
 dr:=λj hj=>by rw[Af oM];exact h.dr j hj
theorem MF.all {F:Nat->Value} {w:Wa} {rv av kv:Value} {bm:Nat} (h:MF F w rv av kv bm) (l:List Si) (v:Value):MF (Dx F 38 v) ({ w with A:=l }) rv v kv bm where
 c:=λj hj=>by rw[Af oM];exact h.c j hj
 r:=by rw[Af oM];exact h.r
 l1:=λj hj=>by rw[Af oM];exact h.l1 j hj
 l2:=λj hj=>by rw[Af oM];exact h.l2 j hj
 wm:=λj hj=>by rw[Af oM];exact h.wm j hj
 sz:=by rw[Af oM];exact h.sz
 la:=by rw[Af oM];exact h.la
 nw:=by rw[Af oM];exact h.nw
 al:=by rw[Bv]
 t:=by rw[Af oM];exact h.t
 kn:=by rw[Af oM];exact h.kn
 dr:=λj hj=>by rw[Af oM];exact h.dr j hj
theorem MF.known {F:Nat->Value} {w:Wa} {rv av kv:Value} {bm:Nat} (h:MF F w rv av kv bm) (l:List (List UInt8)) (v:Value):MF (Dx F 40 v) ({ w with kn:=l }) rv av v bm where
 c:=λj hj=>by rw[Af oM];exact h.c j hj
 r:=by rw[Af oM];exact h.r
 l1:=λj hj=>by rw[Af oM];exact h.l1 j hj
 l2:=λj hj=>by rw[Af oM];exact h.l2 j hj
 wm:=λj hj=>by rw[Af oM];exact h.wm j hj
 sz:=by rw[Af oM];exact h.sz
 la:=by rw[Af oM];exact h.la
 nw:=by rw[Af oM];exact h.nw
 al:=by rw[Af oM];exact h.al
 t:=by rw[Af oM];exact h.t
 kn:=by rw[Bv]
 dr:=λj hj=>by rw[Af oM];exact h.dr j hj
theorem MF.same {F:Nat->Value} {w w':Wa} {rv av kv:Value} {bm:Nat} (h:MF F w rv av kv bm) (e1:w'.c=w.c) (e2:w'.ln=w.ln) (e3:w'.wm=w.wm) (e4:w'.dr=w.dr) (e5:w'.now=w.now):MF F w' rv av kv bm where
 c:=λj hj=>by rw[e1];exact h.c j hj
 r:=by exact h.r
 l1:=λj hj=>by rw[e2];exact h.l1 j hj
 l2:=λj hj=>by rw[e2];exact h.l2 j hj
 wm:=λj hj=>by rw[e3];exact h.wm j hj
 sz:=by rw[e1];exact h.sz
 la:=by rw[e1];exact h.la
 nw:=by rw[e5];exact h.nw
 al:=by exact h.al
 t:=by exact h.t
 kn:=by exact h.kn
 dr:=λj hj=>by rw[e4];exact h.dr j hj
structure MP (p:Nat) (w:Wa) (F:Nat->Value) (rv av kv:Value) (bm:Nat) (gw gr ga gt gk:Heap):Prop where
 ob:Cp gw p 46 F
 mf:MF F w rv av kv bm
 rs:Sl AbG gr rv w.rs
 all:BE (He (w.c 0).toNat) 5 ga av w.A
 tr:RT gt bm (w.c 2).toNat (w.c 3).toNat w.E
 kn:BE AB 1 gk kv w.kn
def MO (g:Heap) (p:Nat) (w:Wa):Prop:=∃ F rv av kv bm gw gr ga gt gk,Ps g [gw,gr,ga,gt,gk]/\MP p w F rv av kv bm gw gr ga gt gk
theorem MO.of {g h H':Heap} {p:Nat} {w:Wa} {F:Nat->Value} {rv av kv:Value} {bm:Nat} {gw gr ga gt gk:Heap} (hg:Heap.le g h) (ps:Ps H' [rest g h,gw,gr,ga,gt,gk]) (wp:MP p w F rv av kv bm gw gr ga gt gk) :
  ∃ g',Av g h g' H'/\MO g' p w:=⟨_,ps.toStep hg,F,rv,av,kv,bm,gw,gr,ga,gt,gk,(ps.drop 1).sub,wp⟩
theorem MO.read {g h:Heap} {p:Nat} {w:Wa} (hw:MO g p w) (hg:Heap.le g h):∃ F rv av kv bm gw gr ga gt gk,Ps h [gw,gr,ga,gt,gk]/\MP p w F rv av kv bm gw gr ga gt gk:=by
 obtain⟨F,rv,av,kv,bm,gw,gr,ga,gt,gk,hps,hp⟩:=hw;exact⟨F,rv,av,kv,bm,gw,gr,ga,gt,gk,hps.up hg,hp⟩
section
variable {p:Nat} {w:Wa} {F:Nat->Value} {rv av kv:Value} {bm:Nat} {gw gr ga gt gk:Heap}
theorem AI {p o:Nat} (i j:Nat):((⟨p,o,O⟩:Addr).add i).add j=(⟨p,o,O⟩:Addr).add (i+j):=by
 rw[AU ⟨p,o,O⟩ rfl (i),AU ⟨p,o,O⟩ rfl,AU _ rfl,Zg]
theorem MP.c41 (h:MP p w F rv av kv bm gw gr ga gt gk) {H:Heap} (hl:Heap.le gw H) {k:Nat} (hk:k<5):H.cell (((⟨p,0,O⟩:Addr).add 41).add k)=U (.int .i64 (w.dr k:Nat)):=by
 have:=(h.ob.le hl).cell (j:=41+k) oM;rw[h.mf.dr k hk]at this;rw[<-this,AI]
theorem MP.cWh (h:MP p w F rv av kv bm gw gr ga gt gk) {H:Heap} (hl:Heap.le gw H) {r a:Nat} (hr:r<4) (ha:a<4):H.cell (((((⟨p,0,O⟩:Addr).add 0).add 6).add (r*4)).add a)=U (.int .i64 (w.c (6+(4*r+a)))):=by
 have:=(h.ob.le hl).cell (j:=6+(4*r+a)) oM;rw[h.mf.c _ oM]at this;rw[<-this,show(((⟨p,0,O⟩:Addr).add 0).add 6)=(⟨p,0,O⟩:Addr).add 6 from rfl,AI,AI,show 6+r*4+a=6+(4*r+a) by omega]
theorem MP.cell (h:MP p w F rv av kv bm gw gr ga gt gk) {H:Heap} (hl:Heap.le gw H) {j:Nat} (hj:j<46):H.cell ((⟨p,0,O⟩:Addr).add j)=U (F j):=(h.ob.le hl).cell hj
theorem MP.c22 (h:MP p w F rv av kv bm gw gr ga gt gk) {H:Heap} (hl:Heap.le gw H):H.cell ((⟨p,0,O⟩:Addr).add 22)=U rv:=by rw[h.cell hl oM,h.mf.r]
theorem MP.c39 (h:MP p w F rv av kv bm gw gr ga gt gk) {H:Heap} (hl:Heap.le gw H):H.cell ((⟨p,0,O⟩:Addr).add 39)=U (.pointer (U ⟨bm,0,O⟩)):=by rw[h.cell hl oM,h.mf.t]
theorem MP.c40 (h:MP p w F rv av kv bm gw gr ga gt gk) {H:Heap} (hl:Heap.le gw H):H.cell ((⟨p,0,O⟩:Addr).add 40)=U kv:=by rw[h.cell hl oM,h.mf.kn]
end
theorem JG {N:Num} {Γ:Ctx} {p:Nat} {w:Wa} {F:Nat->Value} {rv av kv:Value} {bm:Nat} {gw gr ga gt gk g h H:Heap} (hg:Heap.le g h) (hps:Ps H [rest g h,gw,gr,ga,gt,gk]) (hw:MP p w F rv av kv bm gw gr ga gt gk) (k:Nat) (hk:k<5) (n:Nat) {K:Value->Heap->Prop}
  (hK:∀ g' h',Av g h g' h'->MO g' p { w with dr:=Ez w.dr k n }->K undef h'):By N Γ (.st 1) [.pointer (U (((⟨p,0,O⟩:Addr).add 41).add k)),.int .i64 (n:Nat)] H K:=by
 rw[AI];refine BO (x:=.int .i64 (n:Nat)) hw.ob (hps.lt 1 rfl) (41+k) rfl rfl oM λg' h' st ho=>?_;have ps:=hps.step 1 rfl st;obtain⟨g2,q1,q2⟩:=MO.of hg ps { hw with ob:=ho,mf:=hw.mf.drop k hk n };exact hK g2 h' q1 q2
end Go.Cw
namespace Go.Cw
open Go Go.Sort Go.Proofs
def S41m:Spec:=λargs h K=>∃ (a:Addr),∃size late now:Nat,args=[.pointer (U a)]/\h.cell (a.add 0)=U (.int .i64 size)/\h.cell (a.add 1)=U (.int .i64 late)/\h.cell (a.add 2)=U (.int .i64 now)/\0<size/\size<=1000/\late<=1000/\now<=1000/\K (.int .i64 (Cd size late now:Nat)) h
theorem F41m_ok {N:Num} {Γ:Ctx} [Ak Γ]:Sat S41m (SF N Γ F41):=by
 rintro _ h K ⟨a,size,late,now,rfl,h0,h1,h2,hs1,hs2,hl,hn,hK⟩;refine An rfl ?_;simp only[F41,Ze,Nat.reduceSub,Nat.reduceAdd];have hcl:=Ms (size:=size) (late:=late) (now:=now);refine Ae ?_;refine Aj (λk:Nat=>[U (.pointer (U a)),O,U (.int .i64 (k:Nat)),O]) (λk H=>H=h/\k<=Cd size late now) (λk=>Cd size late now-k) 0 (by try simp only[Pf];rfl) ⟨rfl,oM⟩ ?_;rintro k H ⟨rfl,hk⟩;have hw1:=wS k;have hb:(k+1)*size<=1001*1000:=AbM oM hs2;have hw2:IntKind.i64.wrap (((k+1:Nat):Int)*(size:Int))=(((k+1)*size:Nat):Int):=by rw[<-Int.natCast_mul,BC oM oM]
 have hw3:IntKind.i64.wrap ((((k+1)*size:Nat):Int)+late)=(((k+1)*size+late:Nat):Int):=wN;have hi:=NM (late:=late) (now:=now) (k:=k) hs1;refine Vc @h0 @h1 @h2 @hw1 @hw2 @hw3 ?_;refine Ad (λc=>?_) (λc=>?_)
 ·have:=hi.1 oM;refine Ap @hw1 ?_;exact Ag (k+1) oM sE ⟨rfl,oM⟩
 ·have h9:¬ k<Cd size late now:=λh=>c (by have:=hi.2 h;omega);have:k=Cd size late now:=oM;subst this;refine Ae ?_;exact hK
def S64m:Spec:=λargs h K=>∃ a:Addr,∃size av A,∃n:Nat,args=[.pointer (U a),.int .i64 n]/\h.cell (a.add 3)=U av/\Sl (He size) h av A/\A.length<=2000 /\
 ∀ v h',AQ Aa6 4 h h' v (PZ size A n)->K v h'
theorem F64m_ok {N:Num} {Γ:Ctx} [Ak Γ] (H78:Sat S78 (Γ 78)):Sat S64m (SF N Γ F64):=by
 rintro _ h K ⟨a,size,av,A,n,rfl,h3,hA,hlen,hK⟩;refine An rfl ?_;simp only[F64,Ze,Nat.reduceSub,Nat.reduceAdd];refine Ae ?_;refine Aj (λx:Nat×Value=>[U (.pointer (U a)),U (.int .i64 n),O,U x.2,U (.int .i64 (x.1:Nat)),O,O,O,O,O,O,O,O,O,O,O])
  (λx H=>x.1<=A.length/\AQ Aa6 4 h H x.2 (OS ((A.take x.1).filter λs=>decide (ep size s=n)))) (λx=>A.length-x.1) (0,.slice O 0 0) (by dsimp only;try simp only[Pf];rfl) ⟨dM,by simpa[OS]using AQ.nil (ZX h)⟩ ?_
 rintro⟨i,v⟩ H ⟨hi,ho⟩;dsimp only at hi ho ⊢;have A3:H.cell ((a:Addr).add 3)=U av:=Ce ho.1 h3;have R:=(hA.le ho.1).rules 5 (E2 size) default;have hw:=wS i;refine AH @A3 @R ?_;refine Ad (λc1=>?_) (λc1=>?_);rotate_left
 ·have:i=A.length:=oM;subst this;rw[Z5]at ho;refine Ae ?_;exact hK v H ho
 have A5:i<A.length:=oM;have hnx:=Td (size:=size) (n:=n) A5;generalize hs:A.getD i default=s at *;refine Ek @A3 @R @hs @He.eq_1 ?_;refine Ad (λc2=>?_) (λc2=>?_)
 ·rw[if_neg oM,AaP]at hnx;refine Ap @hw ?_;exact Ag (i+1,v) dM (by dsimp only;try simp only[Pf]) ⟨dM,by dsimp only;rw[hnx];exact ho⟩
 rw[if_pos oM]at hnx;have hll:(OS ((A.take i).filter λs=>decide (ep size s=n))).length<=i:=by
  rw[PY];exact YU (Abl _ _) (by rw[Zn];omega)
 generalize hfl:(A.take i).filter (λs=>decide (ep size s=n))=fl at *;have hsn:OS (fl++[s])=Mj (OS fl) s:=M6 fl s;generalize OS fl=l at *;have R4:=(hA.le ho.1).row4 A5;rw[hs]at R4;have hlen2:l.length<=2000:=oM;have O1:=ho.one;refine Ek @A3 @R @R4 ((ho.sl Aa7).rules 4 Aa7 default) ?_;refine Bg Aa6 4 Aa7 [s] rfl rfl (by simp[maxLen]) λx1 b1 H2 hle2 hb1 hx1 hS1=>?_;have O2:=hS1.one;refine AH O2.1 O2.2 ?_;refine FO Aa7 Si.enc_one (ho.le hle2) (BE.sl Aa7 (hS1.le (Au _ _))) (by simp;omega) λv2 H3 ho3=>?_;refine Ae ?_;have hsp:=PU l s l.length;refine AA (λenv H4=>∃ y,AQ Aa6 4 h H4 v2 (l.take (Dm l s l.length)++y::l.drop (Dm l s l.length))/\env=[U (.pointer (U a)),U (.int .i64 n),O,U v2,U (.int .i64 (i:Nat)),U (.agg #[.int .i64 s.place,.int .i64 s.strength,.int .i64 s.time,.string (str s.tag)]),U (.int .i64 (Dm l s l.length:Nat)),O,O,O,O,O,O,O,O,O]) ?_ ?_;rotate_left
 ·refine Aj (λk:Nat=>[U (.pointer (U a)),U (.int .i64 n),O,U v2,U (.int .i64 (i:Nat)),U (.agg #[.int .i64 s.place,.int .i64 s.strength,.int .i64 s.time,.string (str s.tag)]),U (.int .i64 (k:Nat)),O,O,O,O,O,O,O,O,O])
   (λk H4=>k<=l.length/\Dm l s k=Dm l s l.length/\∃ y,AQ Aa6 4 h H4 v2 (l.take k++y::l.drop k)) (λk=>k) l.length sE ⟨Yq _,rfl,s,by rw[Z5,AbJ];exact ho3⟩ ?_
  rintro k H4 ⟨hk,hpk,y,ho4⟩;have hLl:(l.take k++y::l.drop k).length=l.length+1:=by simp;omega
  have R5:=(ho4.sl Aa7).rules 4 Aa7 default;rw[hLl]at R5;by_cases hk0:k=0
  ·subst hk0;refine Ae ?_;rw[<-hpk];exact Ar _ (by try simp only[Pf];rfl) ⟨y,ho4,rfl⟩
  have hk0':((0:Int)<(k:Int))=True:=by rw[eq_iff_iff];simp;omega
  have hwk:IntKind.i64.wrap ((k:Int)-1)=((k-1:Nat):Int):=wN;have hgk:(l.take k++y::l.drop k).getD (k-1) default=l.getD (k-1) default:=by
   rw[Zp,Zl (by rw[Zn];omega),List.getElem?_take_of_lt oM,<-Zp]
  obtain⟨m,rfl⟩:∃ m,k=m+1:=⟨k-1,oM⟩
  have hm1:m+1-1=m:=oM;rw[hm1]at hwk hgk;refine Le @hk0' @hwk @R5 @hgk @Si.enc.eq_1 ?_;refine Aa H78 ⟨s,l.getD m default,rfl,?_⟩;cases hb:Dc s (l.getD m default)with
  |false=>
   have e:Dm l s (m+1)=m+1:=by simp only[Dm];rw[if_neg (by rw[hb];simp)]
   refine Ae ?_;exact Ar _ (by rw[<-hpk,e];try simp only[Pf]) ⟨y,by rw[<-hpk,e];exact ho4,rfl⟩
  |true=>
   have e:Dm l s (m+1)=Dm l s m:=by simp only[Dm];rw[if_pos hb]
   refine Ek @hwk @R5 @hgk @Si.enc.eq_1 ?_;refine Nl (enc:=Aa6) (sz:=4) Aa7 (l.getD m default) rfl ho4 (j:=m+1) (by rw[hLl];omega) rfl λH5 ho5=>?_;have hset:(l.take (m+1)++y::l.drop (m+1)).set (m+1) (l.getD m default)=l.take m++l.getD m default::l.drop m:=by
    have h1:(l.take (m+1)).length=m+1:=by rw[Zn];omega
    rw[AbP _ _ (by rw[h1];omega),h1,AbA,AbH,Ai default oM,Zy];congr 1;have h2:l.drop m=l.getD m default::l.drop (m+1):=by
     rw[Aaj oM,Zp,Zj oM];rfl
    rw[h2];rfl
   rw[hset]at ho5;refine Ap @hwk ?_;exact Ag m oM sE ⟨oM,by rw[<-hpk,e],_,ho5⟩
 rintro env H4 ⟨y,ho4,rfl⟩;have hLl:(l.take (Dm l s l.length)++y::l.drop (Dm l s l.length)).length=l.length+1:=by simp;omega
 have R5:=(ho4.sl Aa7).rules 4 Aa7 default;rw[hLl]at R5;generalize hpg:Dm l s l.length=p at *;refine Ap @R5 ?_;refine Nl (enc:=Aa6) (sz:=4) Aa7 s rfl ho4 (j:=p) (by rw[hLl];omega) rfl λH5 ho5=>?_;have hset:(l.take p++y::l.drop p).set p s=Mj l s:=by
  have h1:(l.take p).length=p:=by rw[Zn];omega
  unfold Mj;rw[hpg,AbP _ _ (by rw[h1];omega),h1,AbA,AbH]
 rw[hset]at ho5;refine Ap @hw ?_;exact Ag (i+1,v2) dM (by dsimp only;try simp only[Pf]) ⟨dM,by dsimp only;rw[hnx,hsn];exact ho5⟩
structure MD (F:Nat->Value) (size late now:Nat) (av:Value):Prop where
 c0:F 35=.int .i64 (size:Nat)
 c1:F 36=.int .i64 (late:Nat)
 c2:F 37=.int .i64 (now:Nat)
 c3:F 38=av
def S38m:Spec:=λargs h K=>∃ gw ga gs p F,∃size late now:Nat,∃A s av,args=[.pointer (U ((⟨p,0,O⟩:Addr).add 35)),N6 s]/\Ps h (gw::ga::gs)/\Cp gw p 46 F/\MD F size late now av/\BE (He size) 5 ga av A/\0<size/\size<=1000/\late<=1000/\now<=1000/\A.length<2000 /\
 (Sn size late now s≠0->K (.int .i64 (Sn size late now s:Nat)) h)/\(Sn size late now s=0->∀ gw' ga' h' v,Ps h' (gw'::ga'::gs)->Cp gw' p 46 (Dx F 38 v)->BE (He size) 5 ga' v (A++[s])->K (.int .i64 0) h')
theorem F38m_ok {N:Num} {Γ:Ctx} [Ak Γ] (H41:Sat S41m (Γ 41)):Sat S38m (SF N Γ F38):=by
 rintro _ h K ⟨gw,ga,gs,p,F,size,late,now,A,s,av,rfl,hps,hob,hD,hall,hs1,hs2,hl,hn,hA,hK1,hK2⟩;refine An rfl ?_;simp only[F38,Ze,Nat.reduceSub,Nat.reduceAdd,N6];have hcell:∀ i,i<4->h.cell (((⟨p,0,O⟩:Addr).add 35).add i)=U (F (35+i)):=λi hi=>by rw[AI];exact(hob.le (hps.lt 0 rfl)).cell oM
 have c0:h.cell (((⟨p,0,O⟩:Addr).add 35).add 0)=U (.int .i64 size):=by rw[hcell 0 oM];exact congrArg U hD.c0
 have c1:h.cell (((⟨p,0,O⟩:Addr).add 35).add 1)=U (.int .i64 late):=by rw[hcell 1 oM];exact congrArg U hD.c1
 have c2:h.cell (((⟨p,0,O⟩:Addr).add 35).add 2)=U (.int .i64 now):=by rw[hcell 2 oM];exact congrArg U hD.c2
 have c3:h.cell (((⟨p,0,O⟩:Addr).add 35).add 3)=U av:=by rw[hcell 3 oM];exact congrArg U hD.c3
 unfold Sn at hK1 hK2;refine Ap @c2 ?_;refine Ad (λcc=>?_) (λcc=>?_)
 ·have hb:Cs now s:=by unfold Cs;omega
  rw[if_pos hb]at hK1;refine Ae ?_;exact hK1 oM
 have hb:¬ Cs now s:=by unfold Cs;omega
 rw[if_neg hb]at hK1 hK2;unfold Cs at hb;obtain⟨tn,htn⟩:∃ tn:Nat,s.time=tn:=⟨s.time.toNat,oM⟩
 have hep:ep size s=tn/size:=by unfold ep;rw[htn,Aaa]
 have hq:Int.tdiv (tn:Int) (size:Int)=((tn/size:Nat):Int):=rfl;have htnl:tn/size<=tn:=Aax _ _;have hwq:IntKind.i64.wrap ((tn/size:Nat):Int)=((tn/size:Nat):Int):=BC oM oM;have hsz0:((size:Int)=0)=False:=by rw[eq_iff_iff];simp;omega
 rw[hep]at hK1 hK2;rw[htn];refine Ek @c0 @hq @hwq @hsz0 ?_;refine Aa H41 ⟨_,size,late,now,rfl,c0,c1,c2,hs1,hs2,hl,hn,?_⟩;refine Cb (AE (ZX _)) ?_;refine Ae ?_;refine Ad (λcc2=>?_) (λcc2=>?_)
 ·rw[if_pos oM]at hK1;refine Ae ?_;exact hK1 oM
 rw[if_neg oM]at hK2;refine Le @c3 @c0 @hq @hwq @hsz0 ?_;refine Bg (He size) 5 (E2 size) [s] (by simp[He,htn,hep]) rfl (by simp[maxLen]) λx1 b1 h1 hle1 hb1 hx1 hS1=>?_;have O2:=hS1.one;have OA:=hall.one;have P1':=hps.up hle1;refine Cb (AE hle1) ?_;refine Ek O2.1 O2.2 OA.1 OA.2 ?_;refine Cc (enc:=He size) (sz:=5) (g:=ga) (l:=A) (l':=[s]) (E2 size) (by simp[He,one]) hall (P1'.lt 1 rfl) (BE.sl (E2 size) (hS1.le (Au _ _))) (by simp;omega) λv2 h2 g2 hS2 St2 e1 e2 e3=>?_;have P2':=P1'.step 1 rfl St2;have O3:=hS2.one;refine AH O3.1 O3.2 ?_;rw[AI];refine BO hob (P2'.lt 0 rfl) 38 O3.2 O3.1 oM λgw' h3 st3 ho3=>?_;have P3':=P2'.step 0 rfl st3;refine Ae ?_;exact hK2 rfl _ _ _ _ P3' ho3 hS2
theorem Hk.fr {Gf H:Heap} {v:Value} {L:List (Nat×List Si)} (a:Hk Gf H v L):U6 (fr Gf H) v L:=by
 obtain⟨es,Z,h⟩:=a;have hZ:Heap.le Z (Cw.fr Gf H):=λb o hb=>by
  have h1:=h.le b o hb;have h2:=h.fz b (by rw[hb];simp);unfold Cw.fr;rw[h2];exact h1
 refine⟨es,BE.sl Ck (h.sl.same λb hb=>?_),h.len,λi hi=>⟨(h.el i hi).1,(h.el i hi).2.1.le hZ⟩⟩;unfold Cw.fr;rw[(h.own b hb).1]
def S35m:Spec:=λargs h K=>∃ gw ga gs p F n,∃size late now:Nat,∃A av,args=[.pointer (U ((⟨p,0,O⟩:Addr).add 35)),.int .i64 n]/\Ps h (gw::ga::gs)/\Cp gw p 46 F/\MD F size late now av/\BE (He size) 5 ga av A/\0<size/\size<=1000/\late<=1000/\now<=1000/\A.length<=2000 /\
 ((n<0\/1000-(now:Int)<n)->K (.tuple #[.slice O 0 0,.int .i64 1]) h) /\
 (∀m:Nat,n=m->now+m<=1000->∀ gw' h' v Y,Ps h' (gw'::ga::gs++[Y])->Cp gw' p 46 (Dx F 37 (.int .i64 (now+m:Nat)))->U6 Y v (Iu size late now (now+m) A)->K (.tuple #[v,.int .i64 0]) h')
theorem F35m_ok {N:Num} {Γ:Ctx} [Ak Γ] (H41:Sat S41m (Γ 41)) (H64:Sat S64m (Γ 64)):Sat S35m (SF N Γ F35):=by
 rintro _ h K ⟨gw,ga,gs,p,F,n,size,late,now,A,av,rfl,hps,hob,hD,hall,hs1,hs2,hl,hn,hA,hK1,hK2⟩;refine An rfl ?_;simp only[F35,Ze,Nat.reduceSub,Nat.reduceAdd];have hcell:∀ i,i<4->h.cell (((⟨p,0,O⟩:Addr).add 35).add i)=U (F (35+i)):=λi hi=>by rw[AI];exact(hob.le (hps.lt 0 rfl)).cell oM
 have c0:h.cell (((⟨p,0,O⟩:Addr).add 35).add 0)=U (.int .i64 size):=by rw[hcell 0 oM];exact congrArg U hD.c0
 have c1:h.cell (((⟨p,0,O⟩:Addr).add 35).add 1)=U (.int .i64 late):=by rw[hcell 1 oM];exact congrArg U hD.c1
 have c2:h.cell (((⟨p,0,O⟩:Addr).add 35).add 2)=U (.int .i64 now):=by rw[hcell 2 oM];exact congrArg U hD.c2
 have hw0:IntKind.i64.wrap (1000-(now:Int))=1000-(now:Int):=BC oM oM;refine AH @c2 @hw0 ?_;refine Ad (λcc=>?_) (λcc=>?_)
 ·refine Ae ?_;exact hK1 oM
 obtain⟨m,rfl⟩:∃ m:Nat,n=m:=⟨n.toNat,oM⟩
 have hm:now+m<=1000:=oM;have hK:=hK2 m rfl hm;clear hK1 hK2;have hw1:IntKind.i64.wrap ((now:Int)+m)=((now+m:Nat):Int):=wN;refine Ae ?_;refine Aa H41 ⟨_,size,late,now,rfl,c0,c1,c2,hs1,hs2,hl,hn,?_⟩;refine AH @c2 @hw1 ?_;rw[AI];refine BO (x:=.int .i64 ((now+m:Nat):Int)) hob (hps.lt 0 rfl) 37 rfl rfl oM λgw' h1 st1 ho1=>?_;have P1':=hps.step 0 rfl st1;simp only[AbH]at P1';clear hcell c0 c1 c2 hps hob;have hD2:MD (Dx F 37 (.int .i64 ((now+m:Nat):Int))) size late (now+m) av:=⟨by rw[Af oM];exact hD.c0,by rw[Af oM];exact hD.c1,by rw[Bv],by rw[Af oM];exact hD.c3⟩
 have hGf:Heap.le (Gx (gw'::ga::gs)) h1:=GO P1'.1;have hc01:Cd size late now<=Cd size late (now+m):=AbQ oM;have hcl:=Ms (size:=size) (late:=late) (now:=now+m);obtain⟨c0,hc0⟩:∃ c,c=Cd size late now:=⟨_,rfl⟩
 obtain⟨c1,hc1⟩:∃ c,c=Cd size late (now+m):=⟨_,rfl⟩
 unfold Iu at hK;rw[<-hc0,<-hc1]at hc01 hK;rw[<-hc1]at hcl;rw[<-hc0];refine Ae ?_;refine Aj (λx:Nat×Value=>[U (.pointer (U ((⟨p,0,O⟩:Addr).add 35))),U (.int .i64 m),O,O,O,U x.2,U (.int .i64 (x.1:Nat)),O,O,O,O,O,O,O,O,O,O])
  (λx H=>c0<=x.1/\x.1<=c1/\Heap.le h1 H/\Hk h1 H x.2 ((List.range' c0 (x.1-c0)).map λk=>(k,PZ size A k))) (λx=>c1-x.1) (c0,.slice O 0 0) (by dsimp only;try simp only[Pf]) ⟨Yq _,hc01,ZX h1,by rw[AbA];exact Hk.nil⟩ ?_
 rintro⟨e,v⟩ H ⟨he0,he1,hle,hO⟩;dsimp only at he0 he1 hO ⊢;have hcell:∀ i,i<4->H.cell (((⟨p,0,O⟩:Addr).add 35).add i)=U (Dx F 37 (.int .i64 ((now+m:Nat):Int)) (35+i)):=λi hi=>by rw[AI];exact(ho1.le ((P1'.lt 0 rfl).trans hle)).cell oM
 have d0:H.cell (((⟨p,0,O⟩:Addr).add 35).add 0)=U (.int .i64 size):=by rw[hcell 0 oM];exact congrArg U hD2.c0
 have d1:H.cell (((⟨p,0,O⟩:Addr).add 35).add 1)=U (.int .i64 late):=by rw[hcell 1 oM];exact congrArg U hD2.c1
 have d2:H.cell (((⟨p,0,O⟩:Addr).add 35).add 2)=U (.int .i64 (now+m:Nat)):=by rw[hcell 2 oM];exact congrArg U hD2.c2
 have d3:H.cell (((⟨p,0,O⟩:Addr).add 35).add 3)=U av:=by rw[hcell 3 oM];exact congrArg U hD2.c3
 have hwe:=wS e;refine Ae ?_;refine Aa H41 ⟨_,size,late,now+m,rfl,d0,d1,d2,hs1,hs2,hl,hm,?_⟩;rw[<-hc1];refine Ae ?_;refine Ad (λc=>?_) (λc=>?_);rotate_left
 ·have:e=c1:=oM;subst this;refine Ae ?_;exact hK gw' H v (fr h1 H) (P1'.new hle) ho1 hO.fr
 have he2:e<c1:=oM;refine Ae ?_;refine Aa H64 ⟨_,size,av,A,e,rfl,d3,BE.sl (E2 size) (hall.le ((P1'.lt 1 rfl).trans hle)),hA,λsv H2 ho2=>?_⟩;have O1:=ho2.one;refine AH O1.1 O1.2 ?_;refine Bg Iq 2 Ck [(e,sv)] rfl rfl (by simp[maxLen]) λx1 b1 H3 hle3 hb1 hx1 hS1=>?_;have O2:=hS1.one;have hGH:Heap.le h1 H:=hle;have hle23:=ho2.1.trans hle3;have hvm:∀ b,Ao v=U b->H b≠O:=λb hb=>by obtain⟨es,Z,hP⟩:=hO;exact hP.sl.mem hb
 refine AH O2.1 O2.2 ?_;refine Tu (Gf:=h1) (Z2:=fr H H2) (n:=e) (sv:=sv) (l:=PZ size A e) (hO.mono hle23) (BE.sl Ck (hS1.le (Au _ _))) (hGH.trans hle23) ((Au _ _).trans hle3) (λb hb=>?_) (λb hb=>?_) (ho2.slf2 Aa7) O1.1 (by simp;omega) λv' H4 hO4 hk4=>?_
 ·refine AC hGH b ?_;cases hh:H b with
  |none=>rfl
  |some o'=>exact absurd (Er hh) hb
 ·cases hh:H b with
  |none=>exact absurd hh (hvm b hb)
  |some o'=>exact Er hh
 ·have hle4:Heap.le h1 H4:=by
   intro b o' hb;refine hk4 b o' (hle23 b o' (hle b o' hb)) λe'=>?_;obtain⟨es,Z,hP⟩:=hO;have:=(hP.own b e').1;rw[hb]at this;cases this
  refine Ap @hwe ?_;refine Ag (e+1,v') dM (by dsimp only;try simp only[Pf]) ⟨dM,dM,hle4,?_⟩;dsimp only;rw[show e+1-c0=(e-c0)+1 by omega,Jg,Aam];rw[show c0+(e-c0)=e by omega];exact hO4
end Go.Cw
namespace Go.Cw
open Go
def S279:Spec:=λargs h K=>∃ g p w fed rd,∃reader:Nat,args=[.pointer (U ⟨p,0,O⟩),.int .i64 (reader:Nat),U3 rd]/\MO g p w/\Heap.le g h/\w.Ok fed/\fed<=20000/\reader<4/\¬ rd.bad /\
 ∀ g' h',Av g h g' h'->MO g' p (w.read reader rd)->K (.tuple #[]) h'
theorem F279_ok {N:Num} {Γ:Ctx} [Ak Γ] (H83:Sat S83 (Γ 83)) (H38:Sat S38m (Γ 38)):Sat S279 (SF N Γ F279):=by
 rintro _ h K ⟨g,p,w,fed,rd,reader,rfl,⟨F,rv,av,kv,bm,gw,gr,ga,gt,gk,hps,hw⟩,hg,hok,hfed,hre,hrd,hK⟩;have hp:=hps.rest hg;unfold Rd.bad at hrd;obtain⟨hA9,hd1,hd2,hd3,hd4⟩:w.A.length<=1818/\w.dr 1<=1818/\w.dr 2<=1818/\w.dr 3<=1818/\w.dr 4<=1818:=by have:=hok.sum;omega
 have hkn:=hok.kn;refine An rfl ?_;simp only[F279,Ze,Nat.reduceSub,Nat.reduceAdd,U3];have C40:=hw.c40 (hp.lt 1 rfl);have hks:Sl AB h kv w.kn:=BE.sl (enc:=AB) (sz:=1) (λ_=>rfl) (hw.kn.le (hp.lt 5 rfl));have RK:=hks.rules1 (λs=>.string (str s)) (λ_=>rfl) [];refine Ae ?_;refine Aj (λi:Nat=>[U (.pointer (U ⟨p,0,O⟩)),U (.int .i64 (reader:Nat)),O,U (.agg #[.int .i64 rd.ant,.int .i64 rd.str,.int .i64 rd.age,.string (str rd.tag)]),U (.bool (decide (rd.tag∈w.kn.take i))),U (.int .i64 (i:Nat)),O,O,O,O,O,O,O,O,O,O,O,O,O])
  (λi H=>H=h/\i<=w.kn.length) (λi=>w.kn.length-i) 0 (by try simp only[Pf];simp) ⟨rfl,oM⟩ ?_
 rintro i H ⟨rfl,hi⟩;have hi1:=wS i;refine AH @C40 @RK ?_;refine Ad (λc0=>?_) (λc0=>?_)
 ·have hv:decide (rd.tag∈w.kn.take (i+1))=decide (rd.tag∈w.kn.take i\/w.kn.getD i []=rd.tag):=by
   rw[Ai [] oM,decide_eq_decide,Yd,YA];exact⟨λq=>q.imp id Eq.symm,λq=>q.imp id Eq.symm⟩
  refine CS @C40 @RK @hi1 ?_;exact Ag (i+1) oM (by rw[hv];try simp only[Pf]) ⟨rfl,oM⟩
 have hie:i=w.kn.length:=oM;subst hie;rw[Z5];have hwh:=hok.wh (4*reader+rd.ant.toNat) oM;have CW:=hw.cWh (hp.lt 1 rfl) (r:=reader) (a:=rd.ant.toNat) oM oM;unfold Wa.read at hK;generalize hpl:w.c (6+(4*reader+rd.ant.toNat))=pl at *;refine Ap @CW ?_;refine Aa H83 ⟨rd.tag,rfl,λh1 hle1=>?_⟩;have Q1:=hp.up hle1;have C40:=hw.c40 (Q1.lt 1 rfl);clear RK;have hks1:=hks.le hle1;have RK:=hks1.rules1 (λs=>.string (str s)) (λ_=>rfl) [];refine Ae ?_;refine Ad (λc1=>?_) (λc1=>?_)
 ·rw[if_pos ((Di rd.tag).1 c1)]at hK;have C1:=hw.c41 (Q1.lt 1 rfl) (k:=1) oM;have wi:IntKind.i64.wrap ((w.dr 1:Int)+1)=((w.dr 1+1:Nat):Int):=wN;refine AH @C1 @wi ?_;refine JG hg Q1 hw 1 oM _ λg' h' st hw'=>?_;refine Ae ?_;exact hK g' h' st hw'
 rw[if_neg (λe=>c1 ((Di rd.tag).2 e))]at hK;refine Ae ?_;refine Ad (λc2=>?_) (λc2=>?_)
 ·rw[if_pos c2]at hK;have C1:=hw.c41 (Q1.lt 1 rfl) (k:=2) oM;have wi:IntKind.i64.wrap ((w.dr 2:Int)+1)=((w.dr 2+1:Nat):Int):=wN;refine AH @C1 @wi ?_;refine JG hg Q1 hw 2 oM _ λg' h' st hw'=>?_;refine Ae ?_;exact hK g' h' st hw'
 rw[if_neg c2]at hK;refine AH @C40 @RK ?_;refine Ad (λc3=>?_) (λc3=>?_)
 ·rw[if_pos (by exact⟨c3.1,by have:=c3.2;omega⟩)]at hK;have C1:=hw.c41 (Q1.lt 1 rfl) (k:=4) oM;have wi:IntKind.i64.wrap ((w.dr 4:Int)+1)=((w.dr 4+1:Nat):Int):=wN;refine AH @C1 @wi ?_;refine JG hg Q1 hw 4 oM _ λg' h' st hw'=>?_;refine Ae ?_;exact hK g' h' st hw'
 rw[if_neg (λe=>c3 ⟨e.1,by have:=e.2;omega⟩)]at hK;have hc0:=hok.c0;have hc1:=hok.c1;have hnow:=hok.now;have C37:h1.cell (((⟨p,0,O⟩:Addr).add 35).add 2)=U (.int .i64 (w.now:Nat)):=by rw[AI,(hw.ob.le (Q1.lt 1 rfl)).cell oM,hw.mf.nw]
 have wi:IntKind.i64.wrap ((w.now:Int)-rd.age)=(w.now:Int)-rd.age:=by rw[BC oM oM]
 refine AH @C37 @wi ?_;have hD:MD F (w.c 0).toNat (w.c 1).toNat w.now av:=⟨by rw[hw.mf.sz];congr 1;omega,by rw[hw.mf.la];congr 1;omega,hw.mf.nw,hw.mf.al⟩
 have Q1p:Ps h1 (gw::ga::[rest g H,gr,gt,gk]):=Q1.perm (by
  refine(List.Perm.swap _ _ _).trans (List.Perm.cons _ ?_);refine(List.Perm.cons _ (List.Perm.swap _ _ _)).trans (List.Perm.swap _ _ _))
 refine Aa H38 ⟨gw,ga,_,p,F,_,_,_,w.A,⟨pl,rd.str,w.now-rd.age,rd.tag⟩,av,rfl,Q1p,hw.ob,hD,hw.all,oM,oM,oM,oM,oM,λhn=>?_,λhn gw' ga' h2 v2 Q2p ho2 ha2=>?_⟩
 ·rw[if_pos hn]at hK;have C1:=hw.c41 (Q1.lt 1 rfl) (k:=3) oM;have wi:IntKind.i64.wrap ((w.dr 3:Int)+1)=((w.dr 3+1:Nat):Int):=wN;have hn0:(0:Int)<(Sn (w.c 0).toNat (w.c 1).toNat w.now ⟨pl,rd.str,w.now-rd.age,rd.tag⟩:Nat):=oM;refine CS @C1 @wi @hn0 ?_;refine JG hg Q1 hw 3 oM _ λg' h' st hw'=>?_;refine Ae ?_;exact hK g' h' st hw'
 rw[if_neg (by simpa using hn)]at hK;have Q2:Ps h2 [rest g H,gw',gr,ga',gt,gk]:=Q2p.perm (by
  refine List.Perm.symm ((List.Perm.swap _ _ _).trans (List.Perm.cons _ ?_));refine(List.Perm.cons _ (List.Perm.swap _ _ _)).trans (List.Perm.swap _ _ _))
 have hw2:MP p { w with A:=w.A++[⟨pl,rd.str,w.now-rd.age,rd.tag⟩] } (Dx F 38 v2) rv v2 kv bm gw' gr ga' gt gk:=⟨ho2,hw.mf.all _ v2,hw.rs,ha2,hw.tr,hw.kn⟩
 refine Ae ?_;by_cases hin:rd.tag∈w.kn
 ·rw[if_pos hin]at hK;have hT:(¬rd.tag∈w.kn)=False:=eq_false (λq=>q hin);refine Ap @hT ?_;obtain⟨g4,q1,q2⟩:=MO.of hg Q2 hw2;exact hK g4 _ q1 q2
 rw[if_neg hin]at hK;have hT:(¬rd.tag∈w.kn)=True:=eq_true hin;have C40:=hw2.c40 (Q2.lt 1 rfl);refine AH @hT @C40 ?_;refine Bg AB 1 (λ_=>rfl) [rd.tag] rfl rfl (by simp[maxLen]) λx1 b1 h3 hle3 hb1 hx1 hS1=>?_;have O2:=hS1.one;have OK:=hw.kn.one;have Q3:=Q2.up hle3;refine Cb (AE hle3) ?_;refine Ek O2.1 O2.2 OK.1 OK.2 ?_;refine Cc (enc:=AB) (sz:=1) (g:=gk) (l:=w.kn) (l':=[rd.tag]) (λ_=>rfl) (by simp[AB,one]) hw.kn (Q3.lt 5 rfl) (BE.sl (enc:=AB) (sz:=1) (λ_=>rfl) (hS1.le (Au _ _))) (by simp;omega) λv4 h4 gk' hS4 St4 e1 e2 e3=>?_;have Q4:=Q3.step 5 rfl St4;have O3:=hS4.one;refine AH O3.1 O3.2 ?_;refine BO hw2.ob (Q4.lt 1 rfl) 40 O3.2 O3.1 oM λgw2 h5 st5 ho5=>?_;have Q5:=Q4.step 1 rfl st5;refine Ae ?_;obtain⟨g4,q1,q2⟩:=MO.of (w:={ w with A:=w.A++[⟨pl,rd.str,w.now-rd.age,rd.tag⟩],kn:=w.kn++[rd.tag] }) hg Q5
  { ob:=ho5,mf:=hw2.mf.known _ v4,rs:=hw.rs,all:=ha2,tr:=hw.tr,kn:=hS4 }
 exact hK g4 _ q1 q2
theorem MO.warm {N:Num} {Γ:Ctx} {g h:Heap} {p:Nat} {w:Wa} (hw:MO g p w) (hg:Heap.le g h) {k:Nat} (hk:k<4) (n:Int) {K:Value->Heap->Prop}
  (hK:∀ g' h',Av g h g' h'->MO g' p { w with wm:=Ez w.wm k n }->K undef h'):By N Γ (.st 1) [.pointer (U (((⟨p,0,O⟩:Addr).add 31).add k)),.int .i64 n] h K:=by
 obtain⟨F,rv,av,kv,bm,gw,gr,ga,gt,gk,hps,hw⟩:=hw;have Q:=hps.rest hg;rw[C8];refine BO (x:=.int .i64 n) hw.ob (Q.lt 1 rfl) (31+k) rfl rfl oM λg' h' st ho=>?_;obtain⟨g2,q1,q2⟩:=MO.of hg (Q.step 1 rfl st) { hw with ob:=ho,mf:=hw.mf.warm k hk n };exact hK g2 h' q1 q2
theorem MO.lineAt {g h:Heap} {p:Nat} {w:Wa} (hw:MO g p w) (hg:Heap.le g h) {k:Nat} (hk:k<4):DA h ⟨p,23+2*k,O⟩ (w.ln k).1 (w.ln k).2:=by
 obtain⟨F,rv,av,kv,bm,gw,gr,ga,gt,gk,hps,hw⟩:=hw;have:=(hw.ob.le ((hps.lt 0 rfl).trans hg)).part2 (j:=23+2*k) oM;rw[hw.mf.l1 k hk,show 23+2*k+1=24+2*k by omega,hw.mf.l2 k hk]at this;exact this
theorem MO.line {g h h':Heap} {p:Nat} {w:Wa} (hw:MO g p w) (hg:Heap.le g h) {k:Nat} (hk:k<4) {a:List UInt8} {n:Nat} (hkp:keeps ⟨p,23+2*k,O⟩ 2 h h') (hl:DA h' ⟨p,23+2*k,O⟩ a n) :
  ∃ g',Av g h g' h'/\(∀b,g' b≠O->g b≠O)/\MO g' p { w with ln:=Ez w.ln k (a,n) }:=by
 obtain⟨F,rv,av,kv,bm,gw,gr,ga,gt,gk,hps,hw⟩:=hw;have Q:=hps.rest hg;obtain⟨gw',st,hd,ho⟩:=hw.ob.back2 (Q.lt 1 rfl) oM hkp hl;have Q2:=Q.step 1 rfl st;refine⟨_,Q2.toStep hg,λb hb=>?_,Dx (Dx F (23+2*k) (.string (str a))) (23+2*k+1) (.int .i64 (n:Nat)),rv,av,kv,bm,gw',gr,ga,gt,gk,(Q2.drop 1).sub,{ hw with ob:=ho,mf:=hw.mf.line k hk a n }⟩;obtain⟨x,hx,hxb⟩:=IW hb;have:∀ y∈[gw,gr,ga,gt,gk],y b≠O->g b≠O:=λy hy e=>by
  intro e2;exact e (AC (hps.1 y hy) b e2)
 simp only[List.set,X5,AaL,or_false]at hx;rcases hx with rfl|rfl|rfl|rfl|rfl
 ·exact this gw (by simp) (hd b hxb)
 all_goals exact this _ (by simp) hxb
def S272:Spec:=λargs h K=>∃ g p w fed,∃reader:Int,∃s,args=[.pointer (U ⟨p,0,O⟩),.int .i64 reader,.string (str s)]/\MO g p w/\Heap.le g h/\w.Ok fed/\(Cr reader s=0->fed+s.length<=20000) /\
 (Cr reader s≠0->K (.tuple #[.int .i64 0,.int .i64 (Cr reader s:Nat)]) h) /\
 (Cr reader s=0->∀ g' h',Av g h g' h'->MO g' p (w.feed reader.toNat s)->K (.tuple #[.int .i64 (w.feedN reader.toNat s:Nat),.int .i64 0]) h')
theorem F272_ok {N:Num} {Γ:Ctx} [Ak Γ] (H25:Sat S24 (Γ 25)) (H279:Sat S279 (Γ 279)):Sat S272 (SF N Γ F272):=by
 rintro _ h K ⟨g,p,w,fed,reader,s,rfl,hw,hg,hok,hfed,hK1,hK2⟩;refine An rfl ?_;simp only[F272,Ze,Nat.reduceSub,Nat.reduceAdd];unfold Cr at hK1 hK2 hfed;refine Ae ?_;refine Ad (λc1=>?_) (λc1=>?_)
 ·rw[if_pos oM]at hK1;refine Ae ?_;exact hK1 oM
 rw[if_neg oM]at hK1 hK2 hfed;obtain⟨rn,rfl⟩:∃ n:Nat,reader=n:=⟨reader.toNat,oM⟩
 rw[Aaa]at hK2;have hr4:rn<4:=oM;refine Ae ?_;refine Ad (λc2=>?_) (λc2=>?_)
 ·rw[if_pos oM]at hK1;refine Ae ?_;exact hK1 oM
 rw[if_neg oM]at hK2 hfed;have hfed:=hfed rfl;have hK:=hK2 rfl;clear hK1 hK2;have hla:=hw.lineAt hg hr4;obtain⟨hr1,hr2⟩:(w.ln rn).1.length<=20000/\(w.ln rn).2<=20000:=by
  have:=hok.sum;rcases(by omega:rn=0\/rn=1\/rn=2\/rn=3)with rfl|rfl|rfl|rfl<;>omega
 have hadr:((⟨p,0,O⟩:Addr).add 23).add (rn*2)=⟨p,23+2*rn,O⟩:=by rw[C8,AU _ rfl,Yn,Aao]
 refine Ap @hadr ?_;refine Aa H25 ⟨⟨p,23+2*rn,O⟩,_,_,s,rfl,hla,oM,oM,λv h1 hkp hl1 hfv=>?_⟩;obtain⟨g1,st1,hdm,hw1⟩:=hw.line hg hr4 hkp hl1;obtain⟨k1,hok1,hk1⟩:=hok.line (s:=s) hr4;have hfl:=(Ik _ ((w.ln rn).1++s) (Yq _)).2;have hfsl:=Kp _ ((w.ln rn).1++s) (Yq _);rw[Zk]at hfsl;unfold Wa.feed Wa.feedN at hK;unfold Wa.line at hK hok1;generalize ({ w with ln:=Ez w.ln rn ((feed ((w.ln rn).1++s)).2.1,(w.ln rn).2+(feed ((w.ln rn).1++s)).2.2) }:Wa)=w1 at *;generalize (feed ((w.ln rn).1++s)).1=fs at *;have hZ1:Heap.le (fr h h1) h1:=TE hkp;have Q0:Ps h1 [rest g h,g1,fr h h1]:=by
  have q1:Ps h [rest g h,g]:=⟨λx hx=>by simp at hx;rcases hx with rfl|rfl;exact Gn _ _;exact hg,by simp;exact λb hb=>by unfold rest at hb;split at hb;assumption;exact absurd rfl hb⟩
  refine(q1.step 1 rfl st1).add hZ1 λx hx b hb=>?_;have hx':x=rest g h\/x=g1:=by simpa[List.set]using hx
  have hhb:h b≠O:=by
   rcases hx' with rfl|rfl
   ·exact λe=>hb (AC (Gn _ _) b e)
   ·exact λe=>hdm b hb (AC hg b e)
  unfold fr;cases e:h b with
  |none=>exact absurd e hhb
  |some o=>rfl
 obtain⟨rs,hsl,hrl,hrk⟩:=hfv;have hone:=hsl.one;have R:=(hsl.le hZ1).rules 3 I9.enc_len default;rw[hrl]at R;refine Ap @R ?_;refine Aj (λi:Nat=>[U (.pointer (U ⟨p,0,O⟩)),U (.int .i64 (rn:Nat)),O,O,O,U v,U (.int .i64 (i:Nat)),O,O,O,O,O,O,O])
  (λi H=>i<=fs.length/\∃ gW,Ps H [rest g h,gW,fr h h1]/\MO gW p ((fs.take i).foldl (λw f=>w.frame rn f) w1)) (λi=>fs.length-i) 0 (by try simp only[Pf];rfl) ⟨oM,g1,Q0,hw1⟩ ?_
 rintro i H ⟨hi,gW,Q,hW⟩;have hi1:=wS i;have R:=(hsl.le (Q.lt 2 rfl)).rules 3 I9.enc_len default;rw[hrl]at R;refine Ap @R ?_;refine Ad (λc3=>?_) (λc3=>?_);rotate_left
 ·have:i=fs.length:=oM;subst this;rw[Z5]at hW;refine Ap @R ?_;exact hK _ _ (Q.step1 hg) hW
 have A5:i<fs.length:=oM;obtain⟨e1,e2,e3⟩:=hrk i A5;have hnx:fs.take (i+1)=fs.take i++[fs.getD i default]:=Ai default A5;have hft:=hfl _ (As default A5);obtain⟨t1,t2,t3,t4,t5,t6⟩:=Jo hft;have hokw:=hok1.frames (reader:=rn) (fs.take i);have hsumi:((fs.take i).map λf=>f.reads.length).sum+(fs.getD i default).reads.length<=(fs.map λf=>f.reads.length).sum:=by
  have:=Jb (fs.map λf=>f.reads.length) (i+1);rw[<-AbV,hnx,Aam,AbK]at this;simpa using this
 generalize hfe:fs.getD i default=f at *;generalize hre:rs.getD i default=r at *;have RR:=(e3.le (Q.lt 2 rfl)).rules 4 (λ_=>rfl) default;have hro:=e3.one;generalize hw2:(fs.take i).foldl (λw f=>w.frame rn f) w1=w2 at *;have hfr:(fs.take (i+1)).foldl (λw f=>w.frame rn f) w1=w2.frame rn f:=by rw[hnx,Aat,hw2];rfl
 refine Wx @R @hre @I9.enc.eq_1 @RR hro.1 hro.2 @e1 ?_;refine Ad (λc5=>?pos) (λc5=>?neg)
 case' pos=>
  have hre0:f.reads=[]:=t3.resolve_left oM;obtain⟨w3,hw3⟩:∃ w3:Wa,w3={ w2 with wm:=Ez w2.wm rn f.warm }:=⟨_,rfl⟩
  have hok3:w3.Ok (k1+11*((fs.take i).map λf=>f.reads.length).sum):=by rw[hw3];exact⟨hokw.c0,hokw.c1,hokw.c2,hokw.c3,hokw.c4,hokw.c5,hokw.wh,hokw.rl,hokw.rf,hokw.now,hokw.sum,hokw.d0,hokw.kn,hokw.knn,hokw.Ab,hokw.El,hokw.Eb,hokw.al⟩
  have hfw:w2.frame rn f=f.reads.foldl (λw r=>w.read rn r) w3:=by
   unfold Wa.frame;rw[hw3,hre0];dsimp only[List.foldl_nil];rw[if_pos c5]
  refine Ek @R @hre @I9.enc.eq_1 @e2 ?_;refine hW.warm (Q.lt 1 rfl) hr4 f.warm λg6 h6 st6 hW6=>?_;rw[<-hw3]at hW6
  replace Q:=Q.step 1 rfl st6
  replace hW:=hW6
  clear hW6 st6 hre0
  try simp(disch:=first|omega|(simp only[PL];omega)) only[Zr,simprocAttr,-reduceIte]
 case' neg=>
  obtain⟨w3,hw3⟩:∃ w3:Wa,w3=w2:=⟨_,rfl⟩
  have hok3:=hokw;rw[<-hw3]at hW hok3;have hfw:w2.frame rn f=f.reads.foldl (λw r=>w.read rn r) w3:=by
   unfold Wa.frame;dsimp only;rw[if_neg c5,hw3]
  try simp(disch:=first|omega|(simp only[PL];omega)) only[Zr,simprocAttr,-reduceIte]
 all_goals
  clear R RR hokw;refine Aj (λk:Nat=>[U (.pointer (U ⟨p,0,O⟩)),U (.int .i64 (rn:Nat)),O,O,O,U v,U (.int .i64 (i:Nat)),U (.int .i64 (k:Nat)),O,O,O,O,O,O])
   (λk H=>k<=f.reads.length/\∃ gW,Ps H [rest g h,gW,fr h h1]/\MO gW p ((f.reads.take k).foldl (λw r=>w.read rn r) w3)) (λk=>f.reads.length-k) 0 (by try simp only[Pf];rfl) ⟨oM,_,Q,hW⟩ ?_
  clear hW Q;rintro k H ⟨hk,gW,Q,hW⟩;have hk1:=wS k;have R:=(hsl.le (Q.lt 2 rfl)).rules 3 I9.enc_len default;rw[hrl]at R;have RR:=(e3.le (Q.lt 2 rfl)).rules 4 (λ_=>rfl) default;refine Ek @R @hre @I9.enc.eq_1 @RR ?_;refine Ad (λc4=>?_) (λc4=>?_);rotate_left
  ·have:k=f.reads.length:=oM;subst this;rw[Z5,<-hfw,<-hfr]at hW;refine Ap @hi1 ?_;exact Ag (i+1) oM sE ⟨oM,gW,Q,hW⟩
  have hk2:k<f.reads.length:=oM;have hnr:f.reads.take (k+1)=f.reads.take k++[f.reads.getD k default]:=Ai default hk2;have hrb:=t2 _ (As default hk2);generalize hde:f.reads.getD k default=rd at *;refine Vc @R @hre @I9.enc.eq_1 @RR @hde @Rd.enc.eq_1 ?_;have hok3:=hok3.reads (reader:=rn) (f.reads.take k);refine Aa H279 ⟨gW,p,_,_,rd,rn,rfl,hW,Q.lt 1 rfl,hok3,by rw[Zn];omega,hr4,hrb,λg5 h5 st5 hW5=>?_⟩;have Q5:=Q.step 1 rfl st5;refine Ap @hk1 ?_;exact Ag (k+1) oM sE ⟨oM,g5,Q5,by rw[hnr,Aat];exact hW5⟩
def S270:Spec:=λargs h K=>∃ g p w fed,∃n:Int,args=[.pointer (U ⟨p,0,O⟩),.int .i64 n]/\MO g p w/\Heap.le g h/\w.Ok fed/\fed<=20000 /\
 ((n<0\/1000-(w.now:Int)<n)->K (.tuple #[.int .i64 0,.int .i64 1]) h) /\
 (∀m:Nat,n=m->w.now+m<=1000->∀ g' h',Av g h g' h'->MO g' p (w.tick m)->K (.tuple #[.int .i64 ((w.closed m).length:Nat),.int .i64 0]) h')
theorem F270_ok {N:Num} {Γ:Ctx} [Ak Γ] (H35:Sat S35m (Γ 35)) (H45:Sat S45 (Γ 45)):Sat S270 (SF N Γ F270):=by
 rintro _ h K ⟨g,p,w,fed,n,rfl,⟨F,rv,av,kv,bm,gw,gr,ga,gt,gk,hps,hw⟩,hg,hok,hfed,hK1,hK2⟩;have Q0:=hps.rest hg;have hc0:=hok.c0;have hc1:=hok.c1;have hnow:=hok.now;have hA9:w.A.length<=1818:=by have:=hok.sum;omega
 refine An rfl ?_;simp only[F270,Ze,Nat.reduceSub,Nat.reduceAdd];have hD:MD F (w.c 0).toNat (w.c 1).toNat w.now av:=⟨by rw[hw.mf.sz];congr 1;omega,by rw[hw.mf.la];congr 1;omega,hw.mf.nw,hw.mf.al⟩
 have Q0p:Ps h (gw::ga::[rest g h,gr,gt,gk]):=Q0.perm (by
  refine(List.Perm.swap _ _ _).trans (List.Perm.cons _ ?_);refine(List.Perm.cons _ (List.Perm.swap _ _ _)).trans (List.Perm.swap _ _ _))
 refine Ae ?_;refine Aa H35 ⟨gw,ga,_,p,F,n,_,_,_,w.A,av,rfl,Q0p,hw.ob,hD,hw.all,oM,oM,oM,oM,oM,λhbad=>?_,λm hm hmn gw' h1 v Y Q1p ho1 hE=>?_⟩
 ·have:=hK1 hbad;refine Ae ?_;refine Aj (λi:Nat=>[U (.pointer (U ⟨p,0,O⟩)),O,O,O,U (.slice O 0 0),U (.int .i64 1),U (.int .i64 0),O,O]) (λi H=>H=h) (λi=>i) 0 sE rfl ?_;rintro i H rfl;refine Ae ?_;exact this
 have hK:=hK2 m hm hmn;clear hK1 hK2;have Q1:Ps h1 [rest g h,gw',gr,ga,gt,gk,Y]:=Q1p.perm (by
  refine List.Perm.symm ((List.Perm.swap _ _ _).trans (List.Perm.cons _ ?_));refine(List.Perm.cons _ (List.Perm.swap _ _ _)).trans (List.Perm.swap _ _ _))
 have hcl:=hok.closed hfed (m:=m);have hlen:=w.closed_len (m:=m);have hle:=DY (size:=(w.c 0).toNat) (late:=(w.c 1).toNat) (now:=w.now+m) hmn;have hEl:=hok.El;have hcm:=I7 (size:=(w.c 0).toNat) (late:=(w.c 1).toNat) (a:=w.now) (b:=w.now+m) oM;have hti:=Wa.tells (w.closed m) { w with now:=w.now+m };change Wa.tick w m=_ at hti;have hE2:U6 Y v (w.closed m):=hE;generalize hL:w.closed m=L at *;obtain⟨es,hes,hel,hek⟩:=hE2;have hw1:MP p { w with now:=w.now+m } (Dx F 37 (.int .i64 ((w.now+m:Nat):Int))) rv av kv bm gw' gr ga gt gk:=⟨ho1,hw.mf.now _,hw.rs,hw.all,hw.tr,hw.kn⟩
 have hv1:=hes.one;refine Ae ?_;refine Aj (λi:Nat=>[U (.pointer (U ⟨p,0,O⟩)),O,O,O,U v,U (.int .i64 0),U (.int .i64 (i:Nat)),O,O])
  (λi H=>i<=L.length/\∃ gx,Ps H [rest g h,gw',gr,ga,gx,gk,Y]/\RT gx bm (w.c 2).toNat (w.c 3).toNat (w.E++(L.take i).map (·.2))) (λi=>L.length-i) 0 (by try simp only[Pf];rfl) ⟨oM,gt,Q1,by simpa using hw.tr⟩ ?_
 clear Q1 Q1p Q0p Q0;rintro i H ⟨hi,gx,Q,hT⟩;have hi1:=wS i;have R:=(hes.le (Q.lt 6 rfl)).rules 2 Ck default;rw[hel]at R;refine Ap @R ?_;refine Ad (λc1=>?_) (λc1=>?_);rotate_left
 ·have:i=L.length:=oM;subst this;rw[Z5]at hT;refine Ap @R ?_;obtain⟨g4,q1,q2⟩:=MO.of (w:=w.tick m) hg (Q.take 6) (by rw[hti];exact{ hw1 with tr:=hT,mf:=hw1.mf.same rfl rfl rfl rfl rfl });exact hK g4 _ q1 q2
 have A5:i<L.length:=oM;obtain⟨k1,k2⟩:=hek i A5;obtain⟨m1,m2⟩:=hcl _ (As default A5);have hnx:(L.take (i+1)).map (·.2)=(L.take i).map (·.2)++[(L.getD i default).2]:=by rw[Ai default A5,Aam];rfl
 have C39:=hw1.c39 (Q.lt 1 rfl);generalize hle:L.getD i default=le at *;generalize hee:es.getD i default=ee at *;have ho2:=k2.one;refine Vc @R @hee @Iq.eq_1 @C39 ho2.1 ho2.2 ?_;refine Aa H45 ⟨gx,bm,ee.2,_,_,_,le.2,rfl,k2.le (Q.lt 6 rfl),hT,Q.lt 4 rfl,by simp;omega,m1,λhb=>?_,λ_ gx' h2 st2 hT2=>?_⟩
 ·obtain⟨s,hs1,hs2⟩:=hb;exact absurd hs2 (Mw (m2 s hs1).1)
 have Q2:=Q.step 4 rfl st2;rw[Zy,<-hnx]at hT2;refine Ap @hi1 ?_;exact Ag (i+1) oM sE ⟨oM,gx',Q2,hT2⟩
def Wa.whr (w:Wa) (s:List UInt8) (e:Int):Int×Nat:=Cw.whr (w.c 2).toNat (w.c 3).toNat w.E s e
noncomputable def Wa.par (w:Wa) (s:List UInt8) (e:Int):List UInt8×Nat:=if(w.whr s e).2≠0 then([],(w.whr s e).2)else(DF (w.c 2).toNat (w.c 3).toNat w.E (w.c 4).toNat (w.c 5).toNat s e.toNat,0)
def Wa.bytes (w:Wa):Nat:=w.dr 0+(w.ln 0).2+(w.ln 1).2+(w.ln 2).2+(w.ln 3).2
def Wa.bytesTo (w:Wa):Nat->Nat
 |0=>w.dr 0
 |i+1=>w.bytesTo i+(w.ln i).2
def S274 (N:Num):Spec:=λargs h K=>∃ g p w s e,args=[.pointer (U ⟨p,0,O⟩),.string (str s),.int .i64 e]/\WO g p w/\Heap.le g h/\K (.tuple #[.int .i64 (w.whr s e).1,Cm N (w.whr s e).2]) h
def Iz (a b c d e:Nat):Value:=.agg #[.int .i64 (a:Nat),.int .i64 (b:Nat),.int .i64 (c:Nat),.int .i64 (d:Nat),.int .i64 (e:Nat)]
def S280:Spec:=λargs h K=>∃ g p w fed,args=[.pointer (U ⟨p,0,O⟩)]/\WO g p w/\Heap.le g h/\w.Ok fed/\fed<=100000/\K (Iz w.bytes (w.dr 1) (w.dr 2) (w.dr 3) (w.dr 4)) h
def S283:Spec:=λargs h K=>∃ g p w,args=[.pointer (U ⟨p,0,O⟩)]/\WO g p w/\Heap.le g h/\w.al.length<=200000/\∀ v h',Heap.le h h'->Sl DL (fr h h') v w.al->K v h'
def S285 (N:Num):Spec:=λargs h K=>∃ g p w,∃r:Int,args=[.pointer (U ⟨p,0,O⟩),.int .i64 r]/\WO g p w/\Heap.le g h/\((r<0\/3<r)->K (.tuple #[.int .i64 0,Cm N 1]) h)/\(∀k:Nat,r=k->k<4->K (.tuple #[.int .i64 (w.wm k),.nilIface]) h)
def S286 (N:Num):Spec:=λargs h K=>∃ g p w s e,args=[.pointer (U ⟨p,0,O⟩),.string (str s),.int .i64 e]/\WO g p w/\Heap.le g h/\K (.tuple #[.string (str (w.par s e).1),Cm N (w.par s e).2]) h
theorem WO.read {g h:Heap} {p:Nat} {w:Wa} (hw:WO g p w) (hg:Heap.le g h):∃ F rv av pd pt px mk kv gw gr gd gt gx gk ga,Ps h [gw,gr,gd,gt,gx,gk,ga]/\WP p w F rv av pd pt px mk kv gw gr gd gt gx gk ga:=by
 obtain⟨F,rv,av,pd,pt,px,mk,kv,gw,gr,gd,gt,gx,gk,ga,hps,hw⟩:=hw;exact⟨F,rv,av,pd,pt,px,mk,kv,gw,gr,gd,gt,gx,gk,ga,hps.up hg,hw⟩
theorem F274_ok {N:Num} {Γ:Ctx} [Ak Γ] (H30:Sat (S30 N) (Γ 30)):Sat (S274 N) (SF N Γ F274):=by
 rintro _ h K ⟨g,p,w,s,e,rfl,hw,hg,hK⟩;obtain⟨F,rv,av,pd,pt,px,mk,kv,gw,gr,gd,gt,gx,gk,ga,Q,hw⟩:=hw.read hg;refine An rfl ?_;simp only[F274,Ze,Nat.reduceSub,Nat.reduceAdd];have C36:=hw.c36 (Q.lt 0 rfl);unfold Wa.whr Cw.whr at hK;refine Ap @C36 ?_;refine Aa H30 ⟨gt,pt,_,_,_,s,e,rfl,hw.tr,Q.lt 3 rfl,λhb=>?_,λh0 h1 h2=>?_,λh0 h1 h2=>?_⟩
 ·rw[if_pos hb]at hK;refine Ae ?_;exact hK
 ·rw[if_neg oM,if_neg h2]at hK;refine Ae ?_;exact hK
 ·rw[if_neg oM,if_pos h2]at hK;refine Ae ?_;exact hK
theorem F285_ok {N:Num} {Γ:Ctx} [Ak Γ]:Sat (S285 N) (SF N Γ F285):=by
 rintro _ h K ⟨g,p,w,r,rfl,hw,hg,hK1,hK2⟩;obtain⟨F,rv,av,pd,pt,px,mk,kv,gw,gr,gd,gt,gx,gk,ga,Q,hw⟩:=hw.read hg;refine An rfl ?_;simp only[F285,Ze,Nat.reduceSub,Nat.reduceAdd];refine Ae ?_;refine Ad (λc1=>?_) (λc1=>?_)
 ·refine Ae ?_;exact hK1 oM
 obtain⟨k,rfl⟩:∃ k:Nat,r=k:=⟨r.toNat,oM⟩
 have hk:k<4:=oM;have CK:h.cell (((⟨p,0,O⟩:Addr).add 31).add k)=U (.int .i64 (w.wm k)):=by
  rw[C8,(hw.ob.le (Q.lt 0 rfl)).cell oM,hw.wf.wm k hk]
 refine Ap @CK ?_;exact hK2 k rfl hk
theorem F286_ok {N:Num} {Γ:Ctx} [Ak Γ] (H30:Sat (S30 N) (Γ 30)) (H49:Sat (S49 N) (Γ 49)):Sat (S286 N) (SF N Γ F286):=by
 rintro _ h K ⟨g,p,w,s,e,rfl,hw,hg,hK⟩;obtain⟨F,rv,av,pd,pt,px,mk,kv,gw,gr,gd,gt,gx,gk,ga,Q,hw⟩:=hw.read hg;refine An rfl ?_;simp only[F286,Ze,Nat.reduceSub,Nat.reduceAdd];have C36:=hw.c36 (Q.lt 0 rfl);have C37:=hw.c37 (Q.lt 0 rfl);refine Ap @C36 ?_;refine Aa H30 ⟨gt,pt,_,_,_,s,e,rfl,hw.tr,Q.lt 3 rfl,λhb=>?_,λh0 h1 h2=>?_,λh0 h1 h2=>?_⟩
 ·have e1:w.whr s e=(0,1):=by unfold Wa.whr Cw.whr;rw[if_pos hb]
  unfold Wa.par at hK;rw[e1]at hK;refine Ap @Aq ?_;exact hK
 ·have e1:w.whr s e=(0,5):=by unfold Wa.whr Cw.whr;rw[if_neg oM,if_neg h2]
  unfold Wa.par at hK;rw[e1]at hK;refine Ap @Aq ?_;exact hK
 ·have e1:(w.whr s e).2=0:=by unfold Wa.whr Cw.whr;rw[if_neg oM,if_pos h2]
  unfold Wa.par at hK;rw[if_neg oM]at hK;obtain⟨k,rfl⟩:∃ k:Nat,e=k:=⟨e.toNat,oM⟩
  refine Ap @C37 ?_;refine Aa H49 ⟨gx,px,pt,_,_,_,_,_,_,s,k,rfl,hw.ix,Q.lt 4 rfl,λhb=>by omega,λi hi hl=>?_⟩;obtain rfl:k=i:=oM;refine Ae ?_;exact hK
theorem F283_ok {N:Num} {Γ:Ctx} [Ak Γ]:Sat S283 (SF N Γ F283):=by
 rintro _ h K ⟨g,p,w,rfl,hw,hg,hal,hK⟩;obtain⟨F,rv,av,pd,pt,px,mk,kv,gw,gr,gd,gt,gx,gk,ga,Q,hw⟩:=hw.read hg;refine An rfl ?_;simp only[F283,Ze,Nat.reduceSub,Nat.reduceAdd];have C44:=hw.c44 (Q.lt 0 rfl);refine Ap @C44 ?_;refine FO Bu (λ_=>rfl) (AQ.nil (ZX h)) (BE.sl Bu (hw.al.le (Q.lt 6 rfl))) (by simp only[ZR];omega) λv1 h1 ho1=>?_;have O1:=ho1.one;refine Ae ?_;exact hK v1 h1 ho1.1 (ho1.slf Bu)
theorem F280_ok {N:Num} {Γ:Ctx} [Ak Γ] (H26:Sat S26 (Γ 26)):Sat S280 (SF N Γ F280):=by
 rintro _ h K ⟨g,p,w,fed,rfl,hwo,hg,hok,hfed,hK⟩;obtain⟨F,rv,av,pd,pt,px,mk,kv,gw,gr,gd,gt,gx,gk,ga,Q,hw⟩:=hwo.read hg;refine An rfl ?_;simp only[F280,Ze,Nat.reduceSub,Nat.reduceAdd];have hrow:h.row ((⟨p,0,O⟩:Addr).add 39) 5=U #[.int .i64 (w.dr 0:Nat),.int .i64 (w.dr 1:Nat),.int .i64 (w.dr 2:Nat),.int .i64 (w.dr 3:Nat),.int .i64 (w.dr 4:Nat)]:=by
  have:=((Cp.le hw.ob (Q.lt 0 rfl)).row).row (i:=39) (n:=5) (by simp);rw[this,<-hw.wf.dr 0 oM,<-hw.wf.dr 1 oM,<-hw.wf.dr 2 oM,<-hw.wf.dr 3 oM,<-hw.wf.dr 4 oM];rfl
 have hb1:∀ k,k<4->(w.ln k).2<=100000:=by
  intro k hk;have:=hok.sum;rcases(by omega:k=0\/k=1\/k=2\/k=3)with rfl|rfl|rfl|rfl<;>omega
 have hb2:∀ i,i<=4->w.bytesTo i<=100000*i:=by
  intro i;induction i with
  |zero=>intro _;simp[Wa.bytesTo,hok.d0]
  |succ i ih=>intro hi;have:=ih oM;have:=hb1 i oM;simp only[Wa.bytesTo];omega
 refine Ap @hrow ?_;refine Aj (λi:Nat=>[U (.pointer (U ⟨p,0,O⟩)),U (.agg #[.int .i64 0,.int .i64 0,.int .i64 0,.int .i64 0,.int .i64 0]),U (Iz (w.bytesTo i) (w.dr 1) (w.dr 2) (w.dr 3) (w.dr 4)),O,O,U (.int .i64 (i:Nat)),O,O,O])
  (λi H=>i<=4/\H=h) (λi=>4-i) 0 (by unfold Iz;try simp only[Pf];exact⟨rfl,rfl⟩) ⟨oM,rfl⟩ ?_
 rintro i H ⟨hi,rfl⟩;have hi1:=wS i;refine Ap @Iz.eq_1 ?_;refine Ad (λc1=>?_) (λc1=>?_);rotate_left
 ·have:i=4:=oM;subst this;refine Ae ?_;exact hK
 have hi4:i<4:=oM;have hla:=hwo.lineAt hg hi4;have hadr:((⟨p,0,O⟩:Addr).add 23).add (i*2)=⟨p,23+2*i,O⟩:=by rw[C8,AU _ rfl,Yn,Aao]
 have hs1:=hb1 i hi4;have hs2:=hb2 i oM;have wi:IntKind.i64.wrap ((w.bytesTo i:Int)+((w.ln i).2:Nat))=((w.bytesTo (i+1):Nat):Int):=by rw[BC oM oM];simp only[Wa.bytesTo];omega
 refine Ap @hadr ?_;refine Aa H26 ⟨_,_,_,rfl,hla,?_⟩;refine Ae ?_;refine Cb (AE (ZX H)) ?_;refine AH @wi @hi1 ?_;exact Ag (i+1) oM sE ⟨oM,rfl⟩
def Tm (rs:List Rl):Prop:=rs.length<=9/\∀ r∈rs,r.name.length<=50
instance (rs:List Rl):Decidable (Tm rs):=by unfold Tm;infer_instance
def S267:Spec:=λargs h K=>∃ c rv rs,args=[KO c,rv]/\Sl AbG h rv rs/\∀ h',Heap.le h h'->K (.int .i64 (CP c rs:Nat)) h'
def Xv (c:Nat->Int):Nat->Value:=λk=>.int .i64 (c k)
theorem F267_ok {N:Num} {Γ:Ctx} [Ak Γ] (H168:Sat S168 (Γ 168)):Sat S267 (SF N Γ F267):=by
 rintro _ h K ⟨c,rv,rs,rfl,hrs,hK⟩;refine An rfl ?_;simp only[F267,Ze,Nat.reduceSub,Nat.reduceAdd,KO];refine Ae ?_;refine AO λp h1 hle1 hp hob=>?_;have hob1:Cp h1 p 22 (Xv c):=hob.le (Au _ _);have hC:∀ k,k<22->h1.cell ((⟨p,0,O⟩:Addr).add k)=U (.int .i64 (c k)):=λk hk=>hob1.cell hk;have hC0:=hC 0 oM;have hC1:=hC 1 oM;have hC2:=hC 2 oM;have hC3:=hC 3 oM;have hC4:=hC 4 oM;have hC5:=hC 5 oM;have hK:=hK h1 hle1;unfold CP at hK;refine Vc @hC0 @hC1 @hC2 @hC3 @hC4 @hC5 ?_;refine Ad (λc1=>?_) (λc1=>?_)
 ·rw[if_pos (show CT c by unfold CT;omega)]at hK;refine Ae ?_;exact hK
 rw[if_neg (show ¬CT c by unfold CT;omega)]at hK;refine Ae ?_;refine Aj (λi:Nat=>[O,U rv,U (.pointer (U ⟨p,0,O⟩)),O,U (.int .i64 (i:Nat)),O,O,O,O,O,O,O,O,O,O,O,O])
  (λi H=>i<=16/\H=h1/\∀ k,k<i->¬ (c (6+k) < -1\/7<c (6+k))) (λi=>16-i) 0 (by try simp only[Pf];rfl) ⟨oM,rfl,λk hk=>by omega⟩ ?_
 rintro i H ⟨hi,rfl,hwb⟩;have hi1:=wS i;refine Ae ?_;refine Ad (λc2=>?_) (λc2=>?_)
 ·have hq:Int.tdiv (i:Int) 4=((i/4:Nat):Int):=rfl;have hr:Int.tmod (i:Int) 4=((i%4:Nat):Int):=rfl;have hwq:IntKind.i64.wrap ((i/4:Nat):Int)=((i/4:Nat):Int):=BC oM oM;have hwr:IntKind.i64.wrap ((i%4:Nat):Int)=((i%4:Nat):Int):=BC oM oM;have hCi:H.cell (((((⟨p,0,O⟩:Addr).add 6).add (i/4*4))).add (i%4))=U (.int .i64 (c (6+i))):=by
   rw[C8,C8,show 6+i/4*4+i%4=6+i by omega];exact hC (6+i) oM
  refine Le @hq @hr @hwq @hwr @hCi ?_;refine Ad (λc3=>?_) (λc3=>?_)
  ·have:Ho c=true:=by
    unfold Ho;rw[Y8];exact⟨i,Zc.2 oM,by rw[decide_eq_true_eq];omega⟩
   rw[if_pos this]at hK;refine Ae ?_;exact hK
  ·refine Ap @hi1 ?_;refine Ag (i+1) oM sE ⟨oM,rfl,λk hk=>?_⟩;by_cases e:k<i
   ·exact hwb k e
   ·have:k=i:=oM;subst this;omega
 have hi4:i=16:=oM;subst hi4;have hwf:Ho c=false:=by
  unfold Ho;rw[AbR];intro k hk;have:=hwb k (by have:=Zc.1 hk;omega);simpa using this
 rw[if_neg (by rw[hwf];simp)]at hK;have Rr:=(hrs.le hle1).rules 6 AbD default;refine Ap @Rr ?_;refine Ad (λc4=>?_) (λc4=>?_)
 ·rw[if_pos oM]at hK;refine Ae ?_;exact hK
 rw[if_neg oM]at hK;refine Ae ?_;refine Aj (λi:Nat=>[O,U rv,O,O,O,U (.int .i64 (i:Nat)),O,O,O,O,O,O,O,O,O,O,O])
  (λi H'=>i<=rs.length/\H'=H/\EP [] rs=EP ((rs.take i).map (·.name)) (rs.drop i)) (λi=>rs.length-i) 0 (by try simp only[Pf];rfl) ⟨oM,rfl,rfl⟩ ?_
 rintro i H' ⟨hi,rfl,hrf⟩;have hi1:=wS i;refine Ap @Rr ?_;refine Ad (λc5=>?_) (λc5=>?_);rotate_left
 ·have:i=rs.length:=oM;subst this;rw[AbJ]at hrf;rw[hrf]at hK;refine Ae ?_;exact hK
 have A5:i<rs.length:=oM;have hnx:rs.take (i+1)=rs.take i++[rs.getD i default]:=Ai default A5;have hdr:rs.drop i=rs.getD i default::rs.drop (i+1):=by
  rw[Aaj A5];simp[AaO,Zj A5]
 generalize hre:rs.getD i default=r at *;rw[hdr,Fd]at hrf;refine CS @Rr @hre @Rl.enc.eq_1 ?_;refine Aa H168 ⟨r,rfl,?_⟩;by_cases hf:AY r=0;rotate_left
 ·rw[if_pos (by simpa using hf)]at hrf;rw[hrf]at hK;have h0:(0:Int)<(AY r:Nat):=oM;refine Ap @h0 ?_;exact hK
 rw[if_neg (by simpa using hf)]at hrf;rw[hf];refine Ae ?_;refine Aj (λk:Nat=>[O,U rv,O,O,O,U (.int .i64 (i:Nat)),O,U (.int .i64 (k:Nat)),O,O,O,O,O,O,O,O,O])
  (λk H2=>k<=i/\H2=H'/\r.name∉(rs.take k).map (·.name)) (λk=>i-k) 0 (by try simp only[Pf];rfl) ⟨oM,rfl,by simp⟩ ?_
 rintro k H2 ⟨hk,rfl,hkn⟩;have hk1:=wS k;refine Ae ?_;refine Ad (λc6=>?_) (λc6=>?_);rotate_left
 ·have:k=i:=oM;subst this;rw[if_neg hkn]at hrf;refine Ap @hi1 ?_;exact Ag (k+1) oM sE ⟨oM,rfl,by rw[hnx,Aam];exact hrf⟩
 have hk2:k<rs.length:=oM;have hnk:rs.take (k+1)=rs.take k++[rs.getD k default]:=Ai default hk2;have hks:(rs.getD k default).name∈(rs.take i).map (·.name):=by
  refine Yu.2 ⟨_,?_,rfl⟩;rw[Zp,Zj hk2];exact List.mem_take_iff_getElem.2 ⟨k,oM,rfl⟩
 generalize hqe:rs.getD k default=q at *;refine Ek @Rr @hre @hqe @Rl.enc.eq_1 ?_;refine Ad (λc7=>?_) (λc7=>?_)
 ·rw[if_pos (by rw[<-c7];exact hks)]at hrf;rw[hrf]at hK;refine Ae ?_;exact hK
 ·refine Ap @hk1 ?_;refine Ag (k+1) oM sE ⟨oM,rfl,?_⟩;rw[hnk,Aam,Yd,Yj,List.map_nil,YA];rintro(e|e)
  ·exact hkn e
  ·exact c7 e.symm
theorem JM {c:Nat->Int} {rs:List Rl} (h:CP c rs=0):(newW c rs).Ok 0:=by
 unfold CP at h;split at h
 ·cases h
 rename_i h1;split at h
 ·cases h
 rename_i h2;split at h
 ·cases h
 rename_i h3;unfold CT at h1;have hrf:∀ (l:List Rl) AN,EP AN l=0->∀ r∈l,AY r=0:=by
  intro l;induction l with
  |nil=>intro _ _ r hr;cases hr
  |cons a l ih=>
   intro AN h r hr;rw[Fd]at h;split at h
   ·rename_i e;exact absurd h e
   ·rename_i e;split at h
    ·cases h
    ·rcases X5.1 hr with rfl|hr
     ·simpa using e
     ·exact ih _ h r hr
 refine⟨by simp only[newW];omega,by simp only[newW];omega,by simp only[newW];omega,by simp only[newW];omega,by simp only[newW];omega,by simp only[newW];omega,λk hk=>?_,by simp only[newW];omega,hrf _ _ h,by simp[newW],by simp[newW],rfl,by simp[newW],List.Pairwise.nil,by simp[newW],by simp[newW,Cd],by simp[newW],by simp[newW]⟩;have:¬ (c (6+k) < -1\/7<c (6+k)):=by
  intro e;apply h2;unfold Ho;rw[Y8];exact⟨k,Zc.2 hk,by rw[decide_eq_true_eq];exact e⟩
 simp only[newW];omega
theorem OJ (F:Nat->Value) (n j:Nat) (x0 x1 x2 x3:Value) (hj:j+4<=n):((Yh n).map F).take j++[x0,x1,x2,x3]++((Yh n).map F).drop (j+4)=(Yh n).map (Dx (Dx (Dx (Dx F j x0) (j+1) x1) (j+2) x2) (j+3) x3):=by
 apply List.ext_getElem?;intro i;simp only[Zy,List.getElem?_append,Zn,Aaw,List.length_range,List.getElem?_take,List.getElem?_drop,List.getElem?_map,Y5,ZR];have hmin:min j n=j:=oM;rw[hmin];by_cases e:i<j
 ·rw[if_pos e,if_pos e,Aa3 oM];simp only[YH];rw[Af oM,Af oM,Af oM,Af oM]
 ·rw[if_neg e];by_cases e2:i<j+4
  ·rw[if_pos oM,Aa3 oM];simp only[YH];rcases(by omega:i=j\/i=j+1\/i=j+2\/i=j+3)with rfl|rfl|rfl|rfl
   ·rw[Af oM,Af oM,Af oM,Bv,AbA];rfl
   ·rw[Af oM,Af oM,Bv,show j+1-j=1 by omega];rfl
   ·rw[Af oM,Bv,show j+2-j=2 by omega];rfl
   ·rw[Bv,show j+3-j=3 by omega];rfl
  ·rw[if_neg oM,show j+4+(i-j-(0+1+1+1+1))=i by omega];by_cases e3:i<n
   ·rw[Aa3 e3];simp only[YH];rw[Af oM,Af oM,Af oM,Af oM]
   ·rw[List.getElem?_eq_none (by simp;omega)];rfl
theorem V8 {N:Num} {Γ:Ctx} {g h:Heap} {p n:Nat} {F:Nat->Value} (ho:Cp g p n F) (hg:Heap.le g h) (j:Nat) {x0 x1 x2 x3:Value} (h1:[x0,x1,x2,x3].all one=true) (hj:j+4<=n) {K:Value->Heap->Prop}
  (hK:∀ g' h',Av g h g' h'->Cp g' p n (Dx (Dx (Dx (Dx F j x0) (j+1) x1) (j+2) x2) (j+3) x3)->K undef h'):By N Γ (.st 4) [.pointer (U ((⟨p,0,O⟩:Addr).add j)),.agg #[x0,x1,x2,x3]] h K:=by
 have hb:g p≠O:=by obtain⟨_,c,t,q,_⟩:=ho;rw[q];simp
 have he:g p=h p:=by
  cases e:g p with
  |none=>exact absurd e hb
  |some o=>exact(hg p o e).symm
 refine Br (x:=.agg #[x0,x1,x2,x3]) (Ah.le ho hg) j 4 rfl h1 oM (by simp;omega) λo q1 _=>?_;refine hK (g.set p o) _ (Av.set hg hb o) ?_;have:=q1 g he;unfold Cp;rw[<-OJ F n j x0 x1 x2 x3 hj];exact this
def VT (c:Nat->Int):Nat->Value:=λj=>([Value.int .i64 (c 0),.int .i64 (c 1),.int .i64 (c 2),.int .i64 (c 3),.int .i64 (c 4),.int .i64 (c 5),.int .i64 (c 6),.int .i64 (c 7),.int .i64 (c 8),.int .i64 (c 9),.int .i64 (c 10),.int .i64 (c 11),.int .i64 (c 12),.int .i64 (c 13),.int .i64 (c 14),.int .i64 (c 15),.int .i64 (c 16),.int .i64 (c 17),.int .i64 (c 18),.int .i64 (c 19),.int .i64 (c 20),.int .i64 (c 21),.slice O 0 0,.string (str []),.int .i64 0,.string (str []),.int .i64 0,.string (str []),.int .i64 0,.string (str []),.int .i64 0,.int .i64 (-1),.int .i64 (-1),.int .i64 (-1),.int .i64 (-1),.int .i64 0,.int .i64 0,.int .i64 0,.slice O 0 0,.pointer O,.slice O 0 0,.int .i64 0,.int .i64 0,.int .i64 0,.int .i64 0,.int .i64 0]:List Value).getD j default
def S268:Spec:=λargs h K=>∃ c rv rs,args=[KO c,rv]/\Sl AbG h rv rs/\rs.length<=100000/\CP c rs=0 /\
 ∀ p g' h',Av (λ_=>O) h g' h'->MO g' p (newW c rs)->K (.pointer (U ⟨p,0,O⟩)) h'
theorem F268_ok {N:Num} {Γ:Ctx} [Ak Γ] (H51:Sat S51 (Γ 51)):Sat S268 (SF N Γ F268):=by
 rintro _ h K ⟨c,rv,rs,rfl,hrs,hrl,hwf,hK⟩;have hok:=JM hwf;have hc0:1<=c 0/\c 0<=50:=hok.c0;have hc1:0<=c 1/\c 1<=50:=hok.c1;have hc2:1<=c 2/\c 2<=8:=hok.c2;have hc3:1<=c 3/\c 3<=c 2:=hok.c3;refine An rfl ?_;simp only[F268,Ze,Nat.reduceSub,Nat.reduceAdd,KO];refine Ae ?_;refine AO λp h1 hle1 hp hob=>?_;have ho1:Cp (fr h h1) p 46 (VT c):=hob;have Q1:Ps h1 [h,fr h h1]:=(Ps.one h).new hle1;have C22:h1.cell ((⟨p,0,O⟩:Addr).add 22)=U (.slice O 0 0):=(ho1.le (Q1.lt 1 rfl)).cell (j:=22) oM;refine Ap @C22 ?_;refine FO AbD (λ_=>rfl) (AQ.nil (ZX h1)) (hrs.le hle1) (by simp only[ZR];omega) λv1 h2 hv1=>?_;have OV:=hv1.one;have Q2:Ps h2 [h,fr h h1,fr h1 h2]:=Q1.new hv1.1;refine AH OV.1 OV.2 ?_;refine BO ho1 (Q2.lt 1 rfl) 22 OV.2 OV.1 oM λgw3 h3 st3 ho3=>?_;have Q3:=Q2.step 1 rfl st3;refine Ae ?_;refine V8 ho3 (Q3.lt 1 rfl) 35 rfl oM λgw4 h4 st4 ho4=>?_;have Q4:=Q3.step 1 rfl st4;refine Ae ?_;refine Aa H51 ⟨(c 2).toNat,(c 3).toNat,by rw[AbE oM,AbE oM],λbm h5 hbn hle5 hT=>?_⟩;have Q5:=Q4.new hle5;refine Ae ?_;refine BO (x:=.pointer (U ⟨bm,0,O⟩)) ho4 (Q5.lt 1 rfl) 39 rfl rfl oM λgw6 h6 st6 ho6=>?_;have Q6:=Q5.step 1 rfl st6;refine Ae ?_;have hmf:MF (Dx (Dx (Dx (Dx (Dx (Dx (VT c) 22 v1) 35 (.int .i64 (c 0))) 36 (.int .i64 (c 1))) 37 (.int .i64 0)) 38 (.slice O 0 0)) 39 (.pointer (U ⟨bm,0,O⟩))) (newW c rs) v1 (.slice O 0 0) (.slice O 0 0) bm:=by
  refine⟨λk hk=>?_,rfl,λk hk=>?_,λk hk=>?_,λk hk=>?_,rfl,rfl,rfl,rfl,rfl,rfl,λk hk=>?_⟩
  ·rw[Af oM,Af oM,Af oM,Af oM,Af oM,Af oM];have:∀ k,k<22->VT c k=.int .i64 (c k):=λk hk=>by
    rcases(by omega:k=0\/k=1\/k=2\/k=3\/k=4\/k=5\/k=6\/k=7\/k=8\/k=9\/k=10\/k=11\/k=12\/k=13\/k=14\/k=15\/k=16\/k=17\/k=18\/k=19\/k=20\/k=21)with rfl|rfl|rfl|rfl|rfl|rfl|rfl|rfl|rfl|rfl|rfl|rfl|rfl|rfl|rfl|rfl|rfl|rfl|rfl|rfl|rfl|rfl<;>rfl
   exact this k hk
  all_goals rcases(by omega:k=0\/k=1\/k=2\/k=3\/k=4)with rfl|rfl|rfl|rfl|rfl<;>first|rfl|omega
 have hg0:Heap.le (λ_=>O) h:=λb o hb=>by cases hb
 have hr0:rest (λ_=>O) h=h:=by funext b;unfold rest;rw[if_pos rfl]
 have Qf:Ps h6 [rest (λ_=>O) h,gw6,fr h1 h2,λ_=>O,fr h4 h5,λ_=>O]:=by
  rw[hr0];have q:=(Q6.add (f:=λ_=>O) (λb o hb=>by cases hb) (λx _ b _=>rfl)).add (f:=λ_=>O) (λb o hb=>by cases hb) (λx _ b _=>rfl);refine q.perm ?_;refine List.Perm.cons _ (List.Perm.cons _ (List.Perm.cons _ (List.Perm.swap _ _ _)))
 obtain⟨g7,q1,q2⟩:=MO.of (w:=newW c rs) hg0 Qf { ob:=ho6,mf:=hmf,rs:=hv1.slf AbD,all:=BE.nil,tr:=hT,kn:=BE.nil };exact hK p g7 h6 q1 q2
def PN:List UInt8:=[116,105,99,107]
def Wa.act (w:Wa) (a:Ac):Wa:=
 if a.kind≠PN then(if Cr a.n a.s=0 then w.feed a.n.toNat a.s else w)
 else if a.n<0\/1000-(w.now:Int)<a.n then w else w.tick a.n.toNat
def IA (a:Ac):Nat:=if Cr a.n a.s=0 then a.s.length else 0
theorem Im {n:Int} {s:List UInt8} (h:Cr n s=0):0<=n/\n<=3/\s.length<=2000:=by
 unfold Cr at h;split at h
 ·cases h
 ·split at h
  ·cases h
  ·omega
theorem Wa.Ok.act {w:Wa} {fed:Nat} {a:Ac} (h:w.Ok fed) (hf:fed+IA a<=20000):(w.act a).Ok (fed+IA a):=by
 unfold Wa.act;split
 ·split
  ·rename_i e1 e2;obtain⟨r1,r2,r3⟩:=Im e2;have:=h.feed (reader:=a.n.toNat) (s:=a.s) oM;unfold IA;rw[if_pos e2];exact this
  ·exact h.mono oM
 ·split
  ·exact h.mono oM
  ·exact(h.tick oM oM).mono oM
def Vu (a:Ac):Prop:=a.kind≠PN/\Cr a.n a.s=0
instance (a:Ac):Decidable (Vu a):=by unfold Vu;infer_instance
def Vb (fs:List Fr):List (List UInt8):=fs.flatMap λf=>f.reads.map (·.tag)
structure TP (l D:List (List UInt8)):Prop where
 nd:l.Nodup
 le:l.length<=40
 sub:∀ t∈l,t∈D
 all:l.length<40->∀ t∈D,t∈l
structure LF (F:Nat->Value) (ln:Nat->List UInt8×Nat):Prop where
 l1:∀ k,k<4->F (2*k)=.string (str (ln k).1)
 l2:∀ k,k<4->F (2*k+1)=.int .i64 ((ln k).2:Nat)
end Go.Cw
namespace Go.Cw
open Go
theorem Wa.read_ln (w:Wa) (r:Nat) (d:Rd) (X:Nat->List UInt8×Nat):({ w with ln:=X }:Wa).read r d={ w.read r d with ln:=X }:=by
 unfold Wa.read;dsimp only;split
 ·rfl
 split
 ·rfl
 split
 ·rfl
 split<;>rfl
theorem Wa.reads_ln (l:List Rd):∀ (w:Wa) (r:Nat) (X:Nat->List UInt8×Nat),l.foldl (λw d=>w.read r d) { w with ln:=X }={ l.foldl (λw d=>w.read r d) w with ln:=X }:=by
 induction l with
 |nil=>intro w r X;rfl
 |cons d l ih=>intro w r X;rw[Aan,Aan,Wa.read_ln,ih]
theorem Wa.frame_ln (w:Wa) (r:Nat) (f:Fr) (X:Nat->List UInt8×Nat):({ w with ln:=X }:Wa).frame r f={ w.frame r f with ln:=X }:=by
 unfold Wa.frame;rw[Wa.reads_ln];dsimp only;split<;>rfl
theorem Wa.frames_ln (l:List Fr):∀ (w:Wa) (r:Nat) (X:Nat->List UInt8×Nat),l.foldl (λw f=>w.frame r f) { w with ln:=X }={ l.foldl (λw f=>w.frame r f) w with ln:=X }:=by
 induction l with
 |nil=>intro w r X;rfl
 |cons d l ih=>intro w r X;rw[Aan,Aan,Wa.frame_ln,ih]
theorem Wa.feed_eq (w:Wa) (r:Nat) (s:List UInt8):w.feed r s={ (Cw.feed ((w.ln r).1++s)).1.foldl (λw f=>w.frame r f) w with ln:=Ez w.ln r ((Cw.feed ((w.ln r).1++s)).2.1,(w.ln r).2+(Cw.feed ((w.ln r).1++s)).2.2) }:=by
 unfold Wa.feed Wa.line;rw[Wa.frames_ln]
structure K3 (h H gt gm gx F:Heap):Prop where
 k:K2 h H gt gm F
 lx:Heap.le gx H
 dxt:CA gx gt
 dxm:CA gx gm
 dxF:CA gx F
section
variable {h H gt gm gx F H' g':Heap}
end
end Go.Cw
namespace Go.Cw
open Go Go.Sort Go.Proofs
end Go.Cw
namespace Go.Cw
open Go
inductive Op where
 |ln (r:Nat) (v:List UInt8×Nat)
 |wm (r:Nat) (n:Int)
 |rd (r:Nat) (d:Rd)
structure Wa.In (T:List (List UInt8)) (w:Wa):Prop where
 nd:w.kn.Nodup
 sub:∀ t∈w.kn,t∈T
structure Wa.Sim (a b:Wa):Prop where
 c:a.c=b.c
 rs:a.rs=b.rs
 ln:a.ln=b.ln
 wm:a.wm=b.wm
 dr:a.dr=b.dr
 now:a.now=b.now
 E:a.E=b.E
 al:a.al=b.al
 A:a.A.Perm b.A
 kn:a.kn.Perm b.kn
theorem Ol (L:List (Nat×List Si)):∀ (w:Wa),(L.foldl Wa.tell w).kn=w.kn/\(L.foldl Wa.tell w).ln=w.ln:=by
 induction L with
 |nil=>intro w;exact⟨rfl,rfl⟩
 |cons o L ih=>intro w;obtain⟨h1,h2⟩:=ih (w.tell o);exact⟨h1,h2⟩
theorem Wa.read_kn (w:Wa) (r:Nat) (d:Rd):∀ t∈(w.read r d).kn,t∈w.kn\/t=d.tag:=by
 intro t ht;unfold Wa.read at ht;dsimp only at ht;split at ht
 ·exact .inl ht
 split at ht
 ·exact .inl ht
 split at ht
 ·exact .inl ht
 split at ht
 ·exact .inl ht
 dsimp only at ht;split at ht
 ·exact .inl ht
 ·rcases Yd.1 ht with h|h
  ·exact .inl h
  ·exact .inr (YA.1 h)
structure Wa.Keep (a b:Wa):Prop where
 c:a.c=b.c
 rs:a.rs=b.rs
 E:a.E=b.E
 al:a.al=b.al
theorem Wa.Keep.trans {a b c:Wa} (h:a.Keep b) (k:b.Keep c):a.Keep c:=⟨h.c.trans k.c,h.rs.trans k.rs,h.E.trans k.E,h.al.trans k.al⟩
theorem Wa.read_keep (w:Wa) (r:Nat) (d:Rd):(w.read r d).Keep w:=by
 unfold Wa.read;dsimp only;split
 ·exact⟨rfl,rfl,rfl,rfl⟩
 split
 ·exact⟨rfl,rfl,rfl,rfl⟩
 split
 ·exact⟨rfl,rfl,rfl,rfl⟩
 split<;>exact⟨rfl,rfl,rfl,rfl⟩
theorem Wa.reads_kn (r:Nat) (l:List Rd):∀ w:Wa,(l.foldl (λw d=>w.read r d) w).Keep w/\∀ t∈(l.foldl (λw d=>w.read r d) w).kn,t∈w.kn\/t∈l.map (·.tag):=by
 induction l with
 |nil=>intro w;exact⟨⟨rfl,rfl,rfl,rfl⟩,λt h=>.inl h⟩
 |cons d l ih=>
  intro w;obtain⟨h1,h2⟩:=ih (w.read r d);refine⟨h1.trans (w.read_keep r d),λt ht=>?_⟩;rcases h2 t ht with h|h
  ·rcases w.read_kn r d t h with h|h
   ·exact .inl h
   ·exact .inr (by simp[h])
  ·exact .inr (Yb _ h)
theorem Wa.frame_kn (r:Nat) (f:Fr) (w:Wa):(w.frame r f).Keep w/\∀ t∈(w.frame r f).kn,t∈w.kn\/t∈f.reads.map (·.tag):=by
 obtain⟨h1,h2⟩:=Wa.reads_kn r f.reads w;unfold Wa.frame;dsimp only;split
 ·exact⟨⟨h1.c,h1.rs,h1.E,h1.al⟩,h2⟩
 ·exact⟨h1,h2⟩
theorem Wa.frames_kn (r:Nat) (l:List Fr):∀ w:Wa,(l.foldl (λw f=>w.frame r f) w).Keep w/\∀ t∈(l.foldl (λw f=>w.frame r f) w).kn,t∈w.kn\/t∈Vb l:=by
 induction l with
 |nil=>intro w;exact⟨⟨rfl,rfl,rfl,rfl⟩,λt h=>.inl h⟩
 |cons f l ih=>
  intro w;obtain⟨h1,h2⟩:=ih (w.frame r f);obtain⟨k1,k2⟩:=Wa.frame_kn r f w;refine⟨h1.trans k1,λt ht=>?_⟩;unfold Vb;rw[List.flatMap_cons,Yd];rcases h2 t ht with h|h
  ·rcases k2 t h with h|h
   ·exact .inl h
   ·exact .inr (.inl h)
  ·exact .inr (.inr h)
theorem Wa.tells_c (L:List (Nat×List Si)):∀ (w:Wa),(L.foldl Wa.tell w).c=w.c/\(L.foldl Wa.tell w).rs=w.rs:=by
 induction L with
 |nil=>intro w;exact⟨rfl,rfl⟩
 |cons o L ih=>intro w;obtain⟨h1,h2⟩:=ih (w.tell o);exact⟨h1,h2⟩
theorem Wa.act_c (w:Wa) (a:Ac):(w.act a).c=w.c/\(w.act a).rs=w.rs:=by
 unfold Wa.act;split
 ·split
  ·rw[Wa.feed_eq];obtain⟨h1,_⟩:=Wa.frames_kn a.n.toNat (Cw.feed ((w.ln a.n.toNat).1++a.s)).1 w;exact⟨h1.c,h1.rs⟩
  ·exact⟨rfl,rfl⟩
 ·split
  ·exact⟨rfl,rfl⟩
  ·exact Wa.tells_c _ _
theorem Pt {window need:Nat} {E:List (List Si)} {s:List UInt8} {p:Int} {m:Nat} (hn:1<=need) (hm:m<E.length) :
  I6 window need E s p m=true↔0<=p/\IE window need E m s=p/\(m=0\/IE window need E (m-1) s≠p):=by
 unfold I6;have e1:((m:Int)-1).toNat=m-1:=oM;rcases JL (window:=window) (t:=s) hn hm with⟨ea,_⟩|⟨ea,la⟩
 ·rw[ea,e1];by_cases h:(IE window need E m s,(0:Nat)).2≠0\/p<0\/(IE window need E m s,(0:Nat)).1≠p
  ·rw[if_pos h];refine⟨(λx=>by cases x),λx=>?_⟩;rcases h with h|h|h
   ·exact absurd rfl h
   ·omega
   ·exact absurd x.2.1 h
  ·rw[if_neg h,decide_eq_true_iff];have h2:0<=p:=by refine Int.not_lt.1 λx=>h (.inr (.inl x))
   have h3:IE window need E m s=p:=by refine Classical.byContradiction λx=>h (.inr (.inr x))
   unfold IE at h3 ⊢;refine⟨λx=>⟨h2,h3,?_⟩,λx=>?_⟩
   ·rcases x with x|x
    ·exact .inl oM
    ·exact .inr x
   ·rcases x.2.2 with x|x
    ·exact .inl oM
    ·exact .inr x
 ·rw[ea,if_pos (.inl (by simp))];refine⟨λx=>(by cases x),λx=>?_⟩;have:=x.2.1;omega
theorem Fm {window need:Nat} {E:List (List Si)} {l:List Si} {s:List UInt8} {m:Nat} (hm:m<E.length):IE window need (E++[l]) m s=IE window need E m s:=by
 unfold IE;rw[AbI oM]
def HT (window need:Nat) (E:List (List Si)) (r:Rl) (s:List UInt8) (e:Nat):Prop:=
 (AY r=0/\AK s≠0/\(r.kind=0\/AK s=r.kind))/\(IE window need E e s=r.thn/\(e=0\/IE window need E (e-1) s≠r.thn)) /\
  ∃ k:Nat,((e:Int)-r.wthn).toNat<=k/\k<e/\(IE window need E k s=r.first/\(k=0\/IE window need E (k-1) s≠r.first))/\∀ x:Nat,k<x->x<e->¬ (0<=r.wout/\IE window need E x s=r.wout)
theorem Nq {window need:Nat} {E:List (List Si)} {r:Rl} {s:List UInt8} {e:Nat} (hn:1<=need) (he:e<E.length):EY window need E r s e=true↔HT window need E r s e:=by
 unfold EY HT;rw[X6,X6,X6,X6,decide_eq_true_iff,decide_eq_true_iff,decide_eq_true_iff,Lg,Pt hn he,Aaa];constructor
 ·rintro⟨⟨⟨⟨h1,h2⟩,h3⟩,h4⟩,k,h5,h6,h7,h8⟩;refine⟨⟨h1,h2,h3⟩,h4.2,k,h5,h6,((Pt hn oM).1 h7).2,λx hx1 hx2 hc=>?_⟩;have:=h8 x hx1 hx2;unfold Fy at this;exact of_decide_eq_false this hc
 ·rintro⟨⟨h1,h2,h3⟩,h4,k,h5,h6,h7,h8⟩;have hb:=(Be.1 h1).2.1;unfold Rl.bound at hb;refine⟨⟨⟨⟨h1,h2⟩,h3⟩,oM,h4⟩,k,h5,h6,(Pt hn oM).2 ⟨oM,h7⟩,λx hx1 hx2=>?_⟩;unfold Fy;exact decide_eq_false (h8 x hx1 hx2)
theorem HT.add {window need:Nat} {E:List (List Si)} {l:List Si} {r:Rl} {s:List UInt8} {e:Nat} (he:e<E.length):HT window need (E++[l]) r s e↔HT window need E r s e:=by
 unfold HT;rw[Fm he,Fm (m:=e-1) oM];constructor
 ·rintro⟨h0,h1,k,h5,h6,h7,h8⟩;rw[Fm oM,Fm (m:=k-1) oM]at h7;exact⟨h0,h1,k,h5,h6,h7,λx hx1 hx2 hc=>h8 x hx1 hx2 (by rw[Fm oM];exact hc)⟩
 ·rintro⟨h0,h1,k,h5,h6,h7,h8⟩;refine⟨h0,h1,k,h5,h6,?_,λx hx1 hx2 hc=>h8 x hx1 hx2 (by rw[Fm oM]at hc;exact hc)⟩;rw[Fm oM,Fm (m:=k-1) oM];exact h7
structure AlI (w:Wa):Prop where
 n:1<=(w.c 3).toNat
 mem:∀ (k e:Nat) (s:List UInt8),(⟨k,e,s⟩:Al)∈w.al↔k<w.rs.length/\e<w.E.length/\HT (w.c 2).toNat (w.c 3).toNat w.E (w.rs.getD k default) s e
 fm:∀ x∈w.al,∃(k e:Nat) (s:List UInt8),x=⟨k,e,s⟩
 nd:w.al.Nodup
def S175:Spec:=λargs h K=>∃ gm bm window need E r s e,args=[.pointer (U ⟨bm,0,O⟩),FW r,.string (str s),.int .i64 e]/\RT gm bm window need E/\Heap.le gm h/\N9 window need E/\s.length<=1000000/\E.length<=1000/\r.name.length<=10000000/\(-1000000<=e/\e<=1000000) /\
 ∀ gm' h',Av gm h gm' h'->RT gm' bm window need E->K (.bool (EY window need E r s e)) h'
theorem F175_ok {N:Num} {Γ:Ctx} [Ak Γ] (H83:Sat S83 (Γ 83)) (H168:Sat S168 (Γ 168)) (H53:Sat S53 (Γ 53)) (H70:Sat S70 (Γ 70)):Sat S175 (SF N Γ F175):=by
 rintro _ h K ⟨gm,bm,window,need,E,r,s,e,rfl,hM,hgm,hok,hsl,hEl,hnl,he,hK⟩;refine An rfl ?_;simp only[F175,Ze,Nat.reduceSub,Nat.reduceAdd,FW];unfold EY at hK;refine Ae ?_;refine Aa H83 ⟨s,rfl,λh1 hle1=>?_⟩;have hst1:=Av.more hgm hle1;refine Ae ?_;refine Aa H168 ⟨r,rfl,?_⟩;by_cases hf:AY r=0;rotate_left
 ·obtain⟨f,hf'⟩:=Aa2 hf;rw[decide_eq_false hf]at hK;simp only[Aa8]at hK;rw[hf'];have hpos:((0:Int)<((f+1:Nat):Int))=True:=by rw[eq_iff_iff];exact⟨λ_=>trivial,λ_=>by omega⟩
  refine Ap @hpos ?_;exact hK _ h1 hst1 hM
 rw[decide_eq_true hf]at hK;rw[hf];have hb:=(Be.1 hf).2.1;unfold Rl.bound at hb;have hpos0:((0:Int)<((0:Nat):Int))=False:=by rw[eq_iff_iff];exact⟨λh=>by omega,λh=>h.elim⟩
 refine Ap @hpos0 ?_;refine Ad (λc1=>?_) (λc1=>?_)
 ·refine Ae ?_;have:(decide (AK s≠0)&&decide (r.kind=0\/AK s=r.kind))=false:=by
   rw[<-AbT,decide_eq_false_iff_not];omega
  simp only[Abk,this,Aa8]at hK;exact hK _ h1 hst1 hM
 have:(decide (AK s≠0)&&decide (r.kind=0\/AK s=r.kind))=true:=by
  rw[<-AbT,decide_eq_true_iff];omega
 simp only[Abk,this]at hK;clear this;refine Ae ?_;refine Aa H53 ⟨gm,bm,window,need,E,s,r.thn,e,rfl,hM,hst1.le,hok,hsl,λgm2 h2 hS2 hM2=>?_⟩;have hst2:=hst1.trans hS2;cases hc:I6 window need E s r.thn e with
 |false=>
  rw[hc]at hK;simp only[Aa8]at hK;refine Ae ?_;exact hK _ h2 hst2 hM2
 |true=>
 obtain⟨he0,hel,htd⟩:=NL hc;rw[hc]at hK;simp only[Abk]at hK;have hww:IntKind.i64.wrap (e-r.wthn)=e-r.wthn:=BC oM oM;obtain⟨en,rfl⟩:∃ n:Nat,e=n:=⟨e.toNat,oM⟩
 obtain⟨lo,hlo⟩:∃ lo,lo=((en:Int)-r.wthn).toNat:=⟨_,rfl⟩
 have hmx:max (0:Int) ((en:Int)-r.wthn)=(lo:Nat):=oM;rw[<-hlo,Aaa]at hK;have hiff:=Lg (λx=>I6 window need E s r.first (x:Nat)) (Fy window need E r s) lo en;refine AH @hww @hmx ?_;refine Aj (λn:Nat=>[U (.pointer (U ⟨bm,0,O⟩)),O,U (.string (str s)),U (.int .i64 (en:Nat)),U (.agg #[.string (str r.name),.int .i64 r.kind,.int .i64 r.first,.int .i64 r.thn,.int .i64 r.wout,.int .i64 r.wthn]),O,O,O,U (.int .i64 (n:Nat)),O,O,O,O,O,O,O,O,O,O,O,O,O,O,O])
  (λn H=>lo<=n/\n<=en/\(∀e0,lo<=e0->e0<n->¬ ((λx=>I6 window need E s r.first (x:Nat)) e0=true/\∀ x,e0<x->x<en->(Fy window need E r s) x=false))/\∃ gm',Av gm h gm' H/\RT gm' bm window need E) (λn=>en-n) lo sE ⟨Yq _,oM,λe0 h1 h2=>by omega,gm2,hst2,hM2⟩ ?_
 clear hst2 hM2 hS2 hst1;rintro n H ⟨hln,hnn,hno,gm3,hst3,hM3⟩;have hwn:=wS n;refine Ae ?_;refine Ad (λc2=>?_) (λc2=>?_);rotate_left
 ·have hs:EM (λx=>I6 window need E s r.first (x:Nat)) (Fy window need E r s) lo en=false:=by
   cases hh:EM (λx=>I6 window need E s r.first (x:Nat)) (Fy window need E r s) lo en with
   |false=>rfl
   |true=>
    obtain⟨e0,q1,q2,q3,q4⟩:=hiff.1 hh;exact absurd ⟨q3,q4⟩ (hno e0 q1 oM)
  rw[hs]at hK;refine Ae ?_;exact hK _ H hst3 hM3
 refine Ae ?_;refine Aa H53 ⟨gm3,bm,window,need,E,s,r.first,(n:Nat),rfl,hM3,hst3.le,hok,hsl,λgm4 h4 hS4 hM4=>?_⟩;have hst4:=hst3.trans hS4;refine Ap @hwn ?_;refine AA (λenv H=>(∃gm',Av gm h gm' H/\RT gm' bm window need E)/\∃ cm:Bool,(cm=true↔(λx=>I6 window need E s r.first (x:Nat)) n=true/\∀ x,n<x->x<en->(Fy window need E r s) x=false)/\env=[U (.pointer (U ⟨bm,0,O⟩)),O,U (.string (str s)),U (.int .i64 (en:Nat)),U (.agg #[.string (str r.name),.int .i64 r.kind,.int .i64 r.first,.int .i64 r.thn,.int .i64 r.wout,.int .i64 r.wthn]),O,O,O,U (.int .i64 (n:Nat)),U (.bool cm),O,O,O,O,O,O,O,O,O,O,O,O,O,O]) ?_ ?_;rotate_left
 ·refine Aj (λx:Nat×Bool=>[U (.pointer (U ⟨bm,0,O⟩)),O,U (.string (str s)),U (.int .i64 (en:Nat)),U (.agg #[.string (str r.name),.int .i64 r.kind,.int .i64 r.first,.int .i64 r.thn,.int .i64 r.wout,.int .i64 r.wthn]),O,O,O,U (.int .i64 (n:Nat)),U (.bool x.2),U (.int .i64 (x.1:Nat)),O,O,O,O,O,O,O,O,O,O,O,O,O])
   (λx H=>n<x.1/\x.1<=en+1/\(x.2=true↔(λx=>I6 window need E s r.first (x:Nat)) n=true/\∀ y,n<y->y<x.1->y<en->(Fy window need E r s) y=false)/\∃ gm',Av gm h gm' H/\RT gm' bm window need E) (λx=>en+1-x.1) (n+1,I6 window need E s r.first (n:Nat)) (by dsimp only;try simp only[Pf]) ⟨dM,dM,⟨λh=>⟨h,λy h1 h2=>by dsimp only at h2;omega⟩,λh=>h.1⟩,gm4,hst4,hM4⟩ ?_
  clear hst4 hM4 hS4 hst3 hM3;rintro⟨x,cm⟩ H2 ⟨hx1,hx2,hcm,gm5,hst5,hM5⟩;dsimp only at hx1 hx2 hcm ⊢;have hwx:=wS x;by_cases hxe:x<en;rotate_left
  ·have q1:((x:Int)<(en:Nat))=False:=by rw[eq_iff_iff];exact⟨λh=>by omega,λh=>h.elim⟩
   refine Ap @q1 ?_;exact Ar _ sE ⟨⟨gm5,hst5,hM5⟩,cm,hcm.trans ⟨λ⟨h1,h2⟩=>⟨h1,λy h3 h4=>h2 y h3 oM h4⟩,λ⟨h1,h2⟩=>⟨h1,λy h3 _ h4=>h2 y h3 h4⟩⟩,rfl⟩
  have q1:((x:Int)<(en:Nat))=True:=by rw[eq_iff_iff];exact⟨λh=>trivial,λh=>by omega⟩
  cases cm with
  |false=>
   refine Ap @q1 ?_;refine Ar _ sE ⟨⟨gm5,hst5,hM5⟩,false,⟨λh=>(by cases h),λ⟨h1,h2⟩=>hcm.2 ⟨h1,λy h3 h4 h5=>h2 y h3 h5⟩⟩,rfl⟩
  |true=>
  have hcm':=hcm.1 rfl;by_cases hwo:0<=r.wout;rotate_left
  ·have q2:(0<=r.wout)=False:=by rw[eq_iff_iff];exact⟨λh=>hwo h,λh=>h.elim⟩
   refine AH @q1 @q2 ?_;refine Cb (AE (ZX _)) ?_;refine Ap @hwx ?_;refine Ag (x+1,true) dM (by dsimp only;try simp only[Pf]) ⟨dM,dM,⟨λ_=>⟨hcm'.1,λy h3 h4 h5=>?_⟩,λ_=>rfl⟩,gm5,hst5,hM5⟩;exact decide_eq_false λh=>hwo h.1
  have q2:(0<=r.wout)=True:=by rw[eq_iff_iff];exact⟨λh=>trivial,λh=>hwo⟩
  refine AH @q1 @q2 ?_;refine Aa H70 ⟨gm5,bm,window,need,E,s,x,rfl,hM5,hst5.le,hok,hsl,oM,λgm6 h6 hS6 hM6=>?_⟩;have hst6:=hst5.trans hS6;refine Np (λ_=>O) (λx o hx=>by cases hx) ?_ (AE λx o hx=>by cases hx) ?_
  ·intro l' hl';simp only[YA]at hl';subst hl';exact⟨true,by try simp(disch:=first|omega|(simp only[PL];omega)) only[Zr,simprocAttr,-reduceIte,q2],λ_=>⟨.v (.int .i64 r.wout),by try simp(disch:=first|omega|(simp only[PL];omega)) only[Zr,simprocAttr,-reduceIte]⟩⟩
  refine Ae ?_;refine Ad (λc3=>?_) (λc3=>?_)
  ·have hbd:(Fy window need E r s) x=true:=decide_eq_true ⟨hwo,c3⟩;refine Ap @hwx ?_;refine Ag (x+1,false) dM (by dsimp only;try simp only[Pf]) ⟨dM,dM,⟨λh=>(by cases h),λ⟨h1,h2⟩=>?_⟩,gm6,hst6,hM6⟩;have:=h2 x oM dM hxe;rw[hbd]at this;cases this
  ·have hbd:(Fy window need E r s) x=false:=decide_eq_false λh=>c3 h.2;refine Ap @hwx ?_;refine Ag (x+1,true) dM (by dsimp only;try simp only[Pf]) ⟨dM,dM,⟨λ_=>⟨hcm'.1,λy h3 h4 h5=>?_⟩,λ_=>rfl⟩,gm6,hst6,hM6⟩;by_cases ey:y=x
   ·rw[ey];exact hbd
   ·exact hcm'.2 y h3 (by dsimp only at h4;omega) h5
 clear hst4 hM4 hS4 hst3 hM3;rintro env H2 ⟨⟨gm5,hst5,hM5⟩,cm,hcm,rfl⟩;refine Ae ?_;cases cm with
 |true=>
  have hs:EM (λx=>I6 window need E s r.first (x:Nat)) (Fy window need E r s) lo en=true:=hiff.2 ⟨n,hln,oM,(hcm.1 rfl).1,(hcm.1 rfl).2⟩;rw[hs]at hK;refine Ae ?_;exact hK _ H2 hst5 hM5
 |false=>
  refine Ap @hwn ?_;refine Ag (n+1) oM sE ⟨oM,oM,λe0 h1 h2 h3=>?_,gm5,hst5,hM5⟩;by_cases ee:e0=n
  ·subst ee;have:=hcm.2 h3;cases this
  ·exact hno e0 h1 oM h3
theorem Wa.Ok.mokE {w:Wa} {fed:Nat} (h:w.Ok fed):N9 (w.c 2).toNat (w.c 3).toNat w.E:=
 ⟨by have:=h.c2;omega,by have:=h.c2;omega,by have:=h.c3;omega,λl hl s hs=>Mw ((h.Eb l hl).2 s hs).1⟩
theorem Wa.Ok.tagLen {w:Wa} {fed:Nat} (h:w.Ok fed) {t:List UInt8} (ht:Bb w.E t):t.length=8:=by
 obtain⟨l,hl,s,hs,rfl⟩:=ht;have:=((h.Eb l hl).2 s hs).1;unfold Cs at this;omega
def Wa.alE (w:Wa) (e:Nat):List Al:=(Yh w.rs.length).flatMap λi=>w.lookR e i (AX (w.E.take (e+1)))
def Wa.alN (w:Wa) (n:Nat):List Al:=(Yh n).flatMap w.alE
def Wa.AlJ (w:Wa):Prop:=w.al=w.alN w.E.length
theorem RF {window need:Nat} {E:List (List Si)} {l:List Si} {r:Rl} {s:List UInt8} {e:Nat} (hn:1<=need) (he:e<E.length):EY window need (E++[l]) r s e=EY window need E r s e:=by
 rw[Bool.eq_iff_iff,Nq hn (by simp;omega),Nq hn he,HT.add he]
theorem Wa.alE_add {w:Wa} (hn:1<=(w.c 3).toNat) (l:List Si) {e:Nat} (he:e<w.E.length) (al:List Al):({ w with E:=w.E++[l],al:=al }:Wa).alE e=w.alE e:=by
 unfold Wa.alE Wa.lookR;dsimp only;rw[AbI oM];refine congrArg (λf=>List.flatMap f (Yh w.rs.length)) (funext λi=>?_);congr 1;exact List.filter_congr λt _=>RF hn he
theorem Wa.alN_add {w:Wa} (hn:1<=(w.c 3).toNat) (l:List Si) (al:List Al):∀ n,n<=w.E.length->({ w with E:=w.E++[l],al:=al }:Wa).alN n=w.alN n:=by
 intro n;induction n with
 |zero=>intro _;rfl
 |succ n ih=>
  intro h;have:=ih oM;unfold Wa.alN at this ⊢;rw[AaN,Z0,Z0,this,AbF,AbF,Wa.alE_add hn l oM]
theorem Wa.AlJ.tell {w:Wa} (h:w.AlJ) (hn:1<=(w.c 3).toNat) (l:List Si):(w.tell (w.E.length,l)).AlJ:=by
 unfold Wa.AlJ Wa.tell;dsimp only;rw[Zk,Zo];unfold Wa.AlJ at h;have h1:=Wa.alN_add hn l (w.al++({ w with E:=w.E++[l] }:Wa).look w.E.length) w.E.length (Yq _);rw[show ∀x:Wa,x.alN (w.E.length+1)=x.alN w.E.length++x.alE w.E.length from λx=>by unfold Wa.alN;rw[AaN,Z0,AbF],h1,<-h];congr 1;unfold Wa.look Wa.lookN Wa.alE Wa.lookR;dsimp only;rw[ZB (by simp)]
theorem Wa.AlJ.tells {f:Nat->List Si}:∀ (n:Nat) {w:Wa},w.AlJ->1<=(w.c 3).toNat->(((List.range' w.E.length n).map λk=>(k,f k)).foldl Wa.tell w).AlJ:=by
 intro n;induction n with
 |zero=>intro w h _;exact h
 |succ n ih=>
  intro w h hn;rw[List.range'_succ,Yj,Aan];have:=ih (h.tell hn (f w.E.length)) hn;have e:(w.tell (w.E.length,f w.E.length)).E.length=w.E.length+1:=by simp[Wa.tell]
  rw[e]at this;exact this
theorem Wa.AlJ.keep {a b:Wa} (h:b.AlJ) (k:a.Keep b):a.AlJ:=by
 have e:a.alE=b.alE:=by funext e;unfold Wa.alE Wa.lookR;rw[k.c,k.rs,k.E]
 unfold Wa.AlJ Wa.alN at *;rw[k.al,k.E,e];exact h
theorem Wa.AlJ.act {w:Wa} {fed:Nat} (h:w.AlJ) (hok:w.Ok fed) (a:Ac):(w.act a).AlJ:=by
 unfold Wa.act;split
 ·split
  ·rw[Wa.feed_eq];have h1:=(Wa.frames_kn a.n.toNat (Cw.feed ((w.ln a.n.toNat).1++a.s)).1 w).1;exact h.keep ⟨h1.c,h1.rs,h1.E,h1.al⟩
  ·exact h
 ·split
  ·exact h
  ·unfold Wa.tick Wa.closed Iu;rw[<-hok.El];have hk:({ w with now:=w.now+a.n.toNat }:Wa).AlJ:=h.keep ⟨rfl,rfl,rfl,rfl⟩;exact hk.tells (f:=λk=>PZ (w.c 0).toNat w.A k) _ (by have:=hok.c3;show 1<=(w.c 3).toNat;omega)
theorem Wa.AlJ.new {c:Nat->Int} {rs:List Rl}:(newW c rs).AlJ:=rfl
section
variable {p:Nat} {w:Wa} {F:Nat->Value} {rv av kv:Value} {bm:Nat} {gw gr ga gt gk:Heap}
theorem MP.cLost (h:MP p w F rv av kv bm gw gr ga gt gk) {H:Heap} (hl:Heap.le gw H) {k:Nat} (hk:k<4):H.cell ((((⟨p,0,O⟩:Addr).add 23).add (k*2)).add 1)=U (.int .i64 ((w.ln k).2:Nat)):=by
 have:=h.cell hl (j:=24+2*k) oM;rw[h.mf.l2 k hk]at this;rw[<-this,AI,AI,show 23+k*2+1=24+2*k by omega]
theorem MP.cWarm (h:MP p w F rv av kv bm gw gr ga gt gk) {H:Heap} (hl:Heap.le gw H) {k:Nat} (hk:k<4):H.cell (((⟨p,0,O⟩:Addr).add 31).add k)=U (.int .i64 (w.wm k)):=by
 have:=h.cell hl (j:=31+k) oM;rw[h.mf.wm k hk]at this;rw[<-this,AI]
end
def S281:Spec:=λargs h K=>∃ g p w fed,args=[.pointer (U ⟨p,0,O⟩)]/\MO g p w/\Heap.le g h/\w.Ok fed/\fed<=100000/\K (Iz w.bytes (w.dr 1) (w.dr 2) (w.dr 3) (w.dr 4)) h
theorem F281_ok {N:Num} {Γ:Ctx} [Ak Γ]:Sat S281 (SF N Γ F281):=by
 rintro _ h K ⟨g,p,w,fed,rfl,hwo,hg,hok,hfed,hK⟩;obtain⟨F,rv,av,kv,bm,gw,gr,ga,gt,gk,Q,hw⟩:=hwo.read hg;refine An rfl ?_;simp only[F281,Ze,Nat.reduceSub,Nat.reduceAdd];have hrow:h.row ((⟨p,0,O⟩:Addr).add 41) 5=U #[.int .i64 (w.dr 0:Nat),.int .i64 (w.dr 1:Nat),.int .i64 (w.dr 2:Nat),.int .i64 (w.dr 3:Nat),.int .i64 (w.dr 4:Nat)]:=by
  have:=((Cp.le hw.ob (Q.lt 0 rfl)).row).row (i:=41) (n:=5) (by simp);rw[this,<-hw.mf.dr 0 oM,<-hw.mf.dr 1 oM,<-hw.mf.dr 2 oM,<-hw.mf.dr 3 oM,<-hw.mf.dr 4 oM];rfl
 have hb1:∀ k,k<4->(w.ln k).2<=100000:=by
  intro k hk;have:=hok.sum;rcases(by omega:k=0\/k=1\/k=2\/k=3)with rfl|rfl|rfl|rfl<;>omega
 have hb2:∀ i,i<=4->w.bytesTo i<=100000*i:=by
  intro i;induction i with
  |zero=>intro _;simp[Wa.bytesTo,hok.d0]
  |succ i ih=>intro hi;have:=ih oM;have:=hb1 i oM;simp only[Wa.bytesTo];omega
 refine Ap @hrow ?_;refine Aj (λi:Nat=>[U (.pointer (U ⟨p,0,O⟩)),U (.agg #[.int .i64 0,.int .i64 0,.int .i64 0,.int .i64 0,.int .i64 0]),U (Iz (w.bytesTo i) (w.dr 1) (w.dr 2) (w.dr 3) (w.dr 4)),U (.int .i64 (i:Nat)),O,O])
  (λi H=>i<=4/\H=h) (λi=>4-i) 0 (by unfold Iz;try simp only[Pf];exact⟨rfl,rfl⟩) ⟨oM,rfl⟩ ?_
 rintro i H ⟨hi,rfl⟩;have hi1:=wS i;refine Ap @Iz.eq_1 ?_;refine Ad (λc1=>?_) (λc1=>?_);rotate_left
 ·have:i=4:=oM;subst this;refine Ae ?_;exact hK
 have hi4:i<4:=oM;have CL:=hw.cLost (Q.lt 0 rfl) hi4;have hs1:=hb1 i hi4;have hs2:=hb2 i oM;have wi:IntKind.i64.wrap ((w.bytesTo i:Int)+((w.ln i).2:Nat))=((w.bytesTo (i+1):Nat):Int):=by rw[BC oM oM];simp only[Wa.bytesTo];omega
 refine CS @CL @wi @hi1 ?_;exact Ag (i+1) oM sE ⟨oM,rfl⟩
def S287:Spec:=λargs h K=>∃ g p w fed s e,args=[.pointer (U ⟨p,0,O⟩),.string (str s),.int .i64 e]/\MO g p w/\Heap.le g h/\w.Ok fed/\s.length<=1000000 /\
 ∀ g' h',Av g h g' h'->MO g' p w->K (.tuple #[.string (str (w.par s e).1),.int .i64 ((w.par s e).2:Nat)]) h'
theorem F287_ok {N:Num} {Γ:Ctx} [Ak Γ] (H52:Sat S52 (Γ 52)) (H48:Sat S48 (Γ 48)):Sat S287 (SF N Γ F287):=by
 rintro _ h K ⟨g,p,w,fed,s,e,rfl,hwo,hg,hok,hsl,hK⟩;obtain⟨F,rv,av,kv,bm,gw,gr,ga,gt,gk,hps,hw⟩:=hwo;have Q:=hps.rest hg;refine An rfl ?_;simp only[F287,Ze,Nat.reduceSub,Nat.reduceAdd];have C39:=hw.c39 (Q.lt 1 rfl);refine Ap @C39 ?_;refine Aa H52 ⟨gt,bm,_,_,_,s,e,rfl,hw.tr,Q.lt 4 rfl,hok.mokE,hsl,λgt1 h1 st1 hT1=>?_⟩;have Q1:=Q.step 4 rfl st1;have hw1:MP p w F rv av kv bm gw gr ga gt1 gk:={ hw with tr:=hT1 }
 obtain⟨g1,s1,hM1⟩:=MO.of hg Q1 hw1;have hd:Cw.whr (w.c 2).toNat (w.c 3).toNat w.E s e=w.whr s e:=rfl;rw[hd];unfold Wa.par at hK;refine Ae ?_;refine Ad (λc1=>?_) (λc1=>?_)
 ·rw[if_pos oM]at hK;refine Ae ?_;exact hK g1 h1 s1 hM1
 rw[if_neg oM]at hK;have he:0<=e/\e<(w.E.length:Int):=by
  unfold Wa.whr Cw.whr at c1;by_cases hb:e<0\/(w.E.length:Int)<=e
  ·rw[if_pos hb]at c1;dsimp only at c1;omega
  ·omega
 obtain⟨n,rfl⟩:∃ n:Nat,e=n:=⟨e.toNat,oM⟩
 rw[Aaa]at hK;have hEl:w.E.length<=1000:=(hT1.read (Q1.lt 4 rfl)).choose_spec.choose_spec.2.2.1;have wi:=wS n;have hc4:=hok.c4;have hc5:=hok.c5;have C39:=hw1.c39 (Q1.lt 1 rfl);have C4:h1.cell ((((⟨p,0,O⟩:Addr).add 0)).add 4)=U (.int .i64 (w.c 4)):=by
  have:=hw1.cell (Q1.lt 1 rfl) (j:=4) oM;rw[hw1.mf.c 4 oM]at this;exact this
 have C5:h1.cell ((((⟨p,0,O⟩:Addr).add 0)).add 5)=U (.int .i64 (w.c 5)):=by
  have:=hw1.cell (Q1.lt 1 rfl) (j:=5) oM;rw[hw1.mf.c 5 oM]at this;exact this
 refine Ek @C39 @C4 @C5 @wi ?_;refine Aa H48 ⟨gt1,bm,_,_,w.E,s,n+1,(w.c 4).toNat,(w.c 5).toNat,by rw[AbE oM,AbE oM],hT1,Q1.lt 4 rfl,hok.mokE,hsl,λt ht=>by rw[hok.tagLen ht];omega,oM,oM,oM,oM,oM,λgt2 h2 v2 st2 hT2 hS2 hb2=>?_⟩;have Q2:=Q1.step 4 rfl st2;have hw2:MP p w F rv av kv bm gw gr ga gt2 gk:={ hw with tr:=hT2 }
 obtain⟨g2,s2,hM2⟩:=MO.of hg Q2 hw2;have RK:=(BE.sl (enc:=AB) (sz:=1) (λ_=>rfl) hS2).rules1 (λs=>.string (str s)) (λ_=>rfl) default;rw[M5]at RK;have hgt:=S5 (w:=(w.c 2).toNat) (n:=(w.c 3).toNat) (E:=w.E) (span:=(w.c 4).toNat) (score:=(w.c 5).toNat) (s:=s) (k:=n+1) (i:=n) oM;refine AH @RK @hgt ?_;exact hK g2 h2 s2 hM2
end Go.Cw
namespace Go.Cw
open Go
def Wa.alM (w:Wa) (e i:Nat):List Al:=(Yh i).flatMap λi=>w.lookR e i (AX (w.E.take (e+1)))
theorem Wa.alM_succ (w:Wa) (e i:Nat):w.alM e (i+1)=w.alM e i++w.lookR e i (AX (w.E.take (e+1))):=by simp[Wa.alM,AaN]
theorem Wa.alN_succ (w:Wa) (n:Nat):w.alN (n+1)=w.alN n++w.alM n w.rs.length:=by simp[Wa.alN,AaN,Wa.alE,Wa.alM]
theorem Wa.Ok.tags {w:Wa} {fed:Nat} (h:w.Ok fed) (n:Nat):(AX (w.E.take n)).length<=12:=by
 refine YU (Lq (Fc _) λt ht=>?_) h.kn;obtain⟨l,hl,s,hs,rfl⟩:=(CG _ t).1 ht;exact((h.Eb l (Z4 hl)).2 s hs).2.1
theorem Wa.Ok.alM {w:Wa} {fed:Nat} (h:w.Ok fed) (e:Nat):∀ i,(w.alM e i).length<=12*i:=by
 intro i;induction i with
 |zero=>simp[Wa.alM]
 |succ i ih=>rw[Wa.alM_succ,Zk];have:=w.lookR_len e i (AX (w.E.take (e+1)));have:=h.tags (e+1);omega
theorem Wa.Ok.alN {w:Wa} {fed:Nat} (h:w.Ok fed):∀ n,(w.alN n).length<=72*n:=by
 intro n;induction n with
 |zero=>simp[Wa.alN]
 |succ n ih=>rw[Wa.alN_succ,Zk];have:=h.alM n w.rs.length;have:=h.rl;omega
theorem Wa.Ok.Elen {w:Wa} {fed:Nat} (h:w.Ok fed):w.E.length<=1000:=by
 rw[h.El];exact DY h.now
def S284:Spec:=λargs h K=>∃ g p w fed,args=[.pointer (U ⟨p,0,O⟩)]/\MO g p w/\Heap.le g h/\w.Ok fed /\
 ∀ g' h' v,Av g h g' h'->MO g' p w->Sl DL h' v (w.alN w.E.length)->K v h'
theorem F284_ok {N:Num} {Γ:Ctx} [Ak Γ] (H14:Sat S14 (Γ 14)) (H175:Sat S175 (Γ 175)):Sat S284 (SF N Γ F284):=by
 rintro _ h K ⟨g,p,w,fed,rfl,⟨F,rv,av,kv,bm,gw,gr,ga,gt,gk,hps,hw⟩,hg,hok,hK⟩;have Q0:=hps.rest hg;have hEl:=hok.Elen;have hrl:=hok.rl;refine An rfl ?_;simp only[F284,Ze,Nat.reduceSub,Nat.reduceAdd];refine Ae ?_;refine Aj (λx:Nat×Value=>[U (.pointer (U ⟨p,0,O⟩)),O,U x.2,U (.int .i64 (x.1:Nat)),O,O,O,O,O,O,O,O,O,O,O,O,O])
  (λx H=>x.1<=w.E.length/\∃ gt gA,Ps H [rest g h,gw,gr,ga,gt,gk,gA]/\RT gt bm (w.c 2).toNat (w.c 3).toNat w.E/\BE DL 3 gA x.2 (w.alN x.1)) (λx=>w.E.length-x.1) (0,.slice O 0 0) (by dsimp only;try simp only[Pf];rfl)
  ⟨dM,gt,λ_=>O,Q0.add (f:=λ_=>O) (λb o hb=>by cases hb) (λx _ b _=>rfl),hw.tr,BE.nil⟩ ?_
 clear Q0 hps;have hw0:=hw;obtain⟨hob,hmf,hrs,hall,htr,hkn⟩:=hw;clear htr;rintro⟨e,v⟩ H ⟨he,gt,gA,Q,hT,hA⟩;dsimp only at he hA ⊢;have he1:=wS e;have C39:=hw0.c39 (Q.lt 1 rfl);have hR:=hT.read (Q.lt 4 rfl);obtain⟨ev,fv,hoa,⟨vs,hv,hvl,hr⟩,_,_⟩:=hT.read (Q.lt 4 rfl);have A2:H.cell ((⟨bm,0,O⟩:Addr).add 2)=U ev:=hoa.rules.1 2 (by simp);have R:=hv.rules1 id (λ_=>rfl) undef;rw[hvl]at R;refine CS @C39 @A2 @R ?_;refine Ad (λc1=>?_) (λc1=>?_);rotate_left
 ·have:e=w.E.length:=oM;subst this;refine Ae ?_;obtain⟨g4,q1,q2⟩:=MO.of (w:=w) hg (Q.take 6) { hw0 with tr:=hT };exact hK g4 H v q1 q2 (BE.sl Bu (hA.le (Q.lt 6 rfl)))
 have he2:e<w.E.length:=oM;clear R A2 hr hv hvl hoa;refine Ap @C39 ?_;refine Aa H14 ⟨⟨bm,0,O⟩,_,_,_,(e:Int),rfl,hR,λv1 h1 ho1=>?_⟩;have e1:((e:Int)+1).toNat=e+1:=oM;rw[e1]at ho1;have Q1:=Q.new ho1.1;have hS1:Sl AB (fr H h1) v1 (AX (w.E.take (e+1))):=ho1.slf (enc:=AB) (sz:=1) (λ_=>rfl);have hTl:=hok.tags (e+1);have hTm:∀ t∈AX (w.E.take (e+1)),t.length=8:=λt ht=>by
  obtain⟨l,hl,q⟩:=(CG _ t).1 ht;exact hok.tagLen ⟨l,Z4 hl,q⟩
 generalize hTT:AX (w.E.take (e+1))=T at *;have OV:=ho1.one;generalize fr H h1=Z at *;clear ho1 hR;have hlenN:=hok.alN e;have hm0:w.alM e 0=[]:=rfl;refine Ae ?_;refine Aj (λx:Nat×Value=>[U (.pointer (U ⟨p,0,O⟩)),O,U x.2,U (.int .i64 (e:Nat)),U v1,U (.int .i64 (x.1:Nat)),O,O,O,O,O,O,O,O,O,O,O])
  (λx H=>x.1<=w.rs.length/\∃ gt gA,Ps H [rest g h,gw,gr,ga,gt,gk,gA,Z]/\RT gt bm (w.c 2).toNat (w.c 3).toNat w.E/\BE DL 3 gA x.2 (w.alN e++w.alM e x.1)) (λx=>w.rs.length-x.1) (0,v) (by dsimp only;try simp only[Pf];rfl)
  ⟨dM,gt,gA,Q1,hT,by dsimp only;rw[hm0,AaP];exact hA⟩ ?_
 clear Q1 Q hT hA C39;rintro⟨i,v⟩ H2 ⟨hi,gt,gA,Q,hT,hA⟩;dsimp only at hi hA ⊢;have hi1:=wS i;have C22:=hw0.c22 (Q.lt 1 rfl);have Rr:=(hrs.le (Q.lt 2 rfl)).rules 6 AbD default;refine AH @C22 @Rr ?_;refine Ad (λc2=>?_) (λc2=>?_);rotate_left
 ·have:i=w.rs.length:=oM;subst this;rw[<-Wa.alN_succ]at hA;refine Ap @he1 ?_;exact Ag (e+1,v) dM (by dsimp only;try simp only[Pf]) ⟨dM,gt,gA,Q.take 7,hT,hA⟩
 have A5:i<w.rs.length:=oM;have hlenM:=hok.alM e i;have hrn:(w.rs.getD i default).name.length<=12:=by
  exact(Be.1 (hok.rf _ (As default A5))).1.2.1
 have hz0:w.lookR e i (T.take 0)=[]:=rfl;have hsucc:=w.alM_succ e i;rw[hTT]at hsucc;refine Ae ?_;refine Aj (λx:Nat×Value=>[U (.pointer (U ⟨p,0,O⟩)),O,U x.2,U (.int .i64 (e:Nat)),U v1,U (.int .i64 (i:Nat)),U (.int .i64 (x.1:Nat)),O,O,O,O,O,O,O,O,O,O])
  (λx H=>x.1<=T.length/\∃ gt gA,Ps H [rest g h,gw,gr,ga,gt,gk,gA,Z]/\RT gt bm (w.c 2).toNat (w.c 3).toNat w.E/\BE DL 3 gA x.2 (w.alN e++w.alM e i++w.lookR e i (T.take x.1))) (λx=>T.length-x.1) (0,v) (by dsimp only;try simp only[Pf];rfl)
  ⟨dM,gt,gA,Q,hT,by dsimp only;rw[hz0,AaP];exact hA⟩ ?_
 clear Q hT hA C22 Rr;rintro⟨k,v⟩ H3 ⟨hk,gt,gA,Q,hT,hA⟩;dsimp only at hk hA ⊢;have hk1:=wS k;have RT1:=(hS1.le (Q.lt 7 rfl)).rules1 (λs=>.string (str s)) (λ_=>rfl) default;refine Ap @RT1 ?_;refine Ad (λc3=>?_) (λc3=>?_);rotate_left
 ·have:k=T.length:=oM;subst this;rw[Z5,Zy,<-hsucc]at hA;refine Ap @hi1 ?_;exact Ag (i+1,v) dM (by dsimp only;try simp only[Pf]) ⟨dM,gt,gA,Q,hT,hA⟩
 have hk2:k<T.length:=oM;have hnr:T.take (k+1)=T.take k++[T.getD k default]:=Ai default hk2;have hlR:=w.lookR_len e i (T.take k);rw[Zn]at hlR;have ht8:=hTm _ (As default hk2);generalize hte:T.getD k default=t at *;have C22:=hw0.c22 (Q.lt 1 rfl);have C39:=hw0.c39 (Q.lt 1 rfl);have Rr:=(hrs.le (Q.lt 2 rfl)).rules 6 AbD default;generalize hre:w.rs.getD i default=r at *;refine Wx @C22 @C39 @Rr @RT1 @hre @hte @Rl.enc.eq_1 ?_;refine Aa H175 ⟨gt,bm,_,_,w.E,r,t,e,rfl,hT,Q.lt 4 rfl,hok.mokE,oM,hEl,oM,oM,λgt4 h4 st4 hT4=>?_⟩;have Q4:=Q.step 4 rfl st4;have hlq:w.lookR e i (T.take (k+1))=w.lookR e i (T.take k)++if EY (w.c 2).toNat (w.c 3).toNat w.E r t e then[⟨i,e,t⟩]else[]:=by
  unfold Wa.lookR;rw[hnr,AaI,Aam,hre];congr 1;by_cases q:EY (w.c 2).toNat (w.c 3).toNat w.E r t e<;>simp[q]
 refine Ae ?_;cases c4:EY (w.c 2).toNat (w.c 3).toNat w.E r t e
 ·rw[c4,if_neg (by simp),AaP]at hlq;refine Ap @hk1 ?_;exact Ag (k+1,v) dM (by dsimp only;try simp only[Pf]) ⟨dM,gt4,gA,Q4,hT4,by dsimp only;rw[hlq];exact hA⟩
 rw[c4,if_pos rfl]at hlq;have RT4:=(hS1.le (Q4.lt 7 rfl)).rules1 (λs=>.string (str s)) (λ_=>rfl) default;have OA:=hA.one;refine AH @RT4 @hte ?_;refine Bg DL 3 Bu [⟨i,e,t⟩] (by simp[DL]) rfl (by simp[maxLen]) λx1 b1 h8 hle8 hb1 hx1 hS3=>?_;have Q8:=Q4.up hle8;have O2:=hS3.one;refine Ek O2.1 O2.2 OA.1 OA.2 ?_;refine Cc (enc:=DL) (sz:=3) (g:=gA) (l':=[⟨i,e,t⟩]) Bu (by simp[DL,one]) hA (Q8.lt 6 rfl) (BE.sl Bu (hS3.le (Au _ _))) (by simp;omega) λv9 h9 ga9 hS9 St9 e1 e2 e3=>?_;have Q9:=Q8.step 6 rfl St9;have O9:=hS9.one;refine CS O9.1 O9.2 @hk1 ?_;refine Ag (k+1,v9) dM (by dsimp only;try simp only[Pf]) ⟨dM,gt4,ga9,Q9,hT4,?_⟩;dsimp only;rw[hlq,<-Zy];exact hS9
def Wa.KnL (w:Wa):Prop:=∀ t∈w.kn,t.length=8
theorem QG {t:List UInt8} (h:BS t≠O):t.length=8:=by
 refine Classical.byContradiction λe=>h ?_;unfold BS;rw[if_pos e]
theorem Wa.KnL.read {w:Wa} (h:w.KnL) (r:Nat) (d:Rd):(w.read r d).KnL:=by
 unfold Wa.read;dsimp only;split
 ·exact h
 split
 ·exact h
 split
 ·exact h
 split
 ·exact h
 intro t ht;dsimp only at ht;split at ht
 ·exact h t ht
 ·rcases Yd.1 ht with q|q
  ·exact h t q
  ·rw[YA.1 q];rename_i h0 _ _ _ _;exact QG h0
theorem Wa.KnL.reads (r:Nat) (l:List Rd):∀ {w:Wa},w.KnL->(l.foldl (λw d=>w.read r d) w).KnL:=by
 induction l with
 |nil=>intro w h;exact h
 |cons d l ih=>intro w h;exact ih (h.read r d)
theorem Wa.KnL.frame {w:Wa} (h:w.KnL) (r:Nat) (f:Fr):(w.frame r f).KnL:=by
 have:=h.reads r f.reads;unfold Wa.frame;dsimp only;split<;>exact this
theorem Wa.KnL.frames (r:Nat) (l:List Fr):∀ {w:Wa},w.KnL->(l.foldl (λw f=>w.frame r f) w).KnL:=by
 induction l with
 |nil=>intro w h;exact h
 |cons d l ih=>intro w h;exact ih (h.frame r d)
theorem Wa.KnL.act {w:Wa} (h:w.KnL) (a:Ac):(w.act a).KnL:=by
 unfold Wa.act;split
 ·split
  ·rw[Wa.feed_eq];exact h.frames a.n.toNat (Cw.feed ((w.ln a.n.toNat).1++a.s)).1
  ·exact h
 ·split
  ·exact h
  ·obtain⟨h1,_⟩:=Ol (w.closed a.n.toNat) { w with now:=w.now+a.n.toNat };unfold Wa.tick Wa.KnL;rw[h1];exact h
theorem Wa.KnL.new {c:Nat->Int} {rs:List Rl}:(newW c rs).KnL:=λt ht=>by cases ht
theorem It {g h h' g':Heap} (st:Av (λ_=>O) h g' h') (hg:Heap.le g h):CA g g':=by
 intro b hb;exact st.fresh b (λe=>hb (AC hg b e)) rfl
theorem Av.le0 {h g' h':Heap} (st:Av (λ_=>O) h g' h'):Heap.le h h':=λb o hb=>st.frame b o hb rfl
def XI:List UInt8:=[101,114,114,111,114,32]
def Dj (f:Nat):List UInt8:=XI++Bo f
def K5 (z:Int):List UInt8:=if z<0 then 45::Bo z.natAbs else Bo z.toNat
theorem Bi (n:Nat):K5 (n:Int)=Bo n:=by unfold K5;rw[if_neg oM,Aaa]
theorem RX:K5 (-1)=[45,49]:=by decide +kernel
def D9 (z:Int) (f:Nat):List UInt8:=if f=0 then K5 z else Dj f
def Jv (s:List UInt8):List UInt8:=match BS s with
 |none=>[45]
 |some t=>Bc t
def S176i (T:Heap):Spec:=λargs h K=>∃ z:Int,args=[.int .i64 z]/\-9223372036854775808<=z/\z<=9223372036854775807/\Heap.le T h/\∀ h',Heap.le h h'->K (.string (str (K5 z))) h'
def S85i:Spec:=λargs h K=>∃ z:Int,args=[.int .i64 z]/\-1<=z/\z<=9223372036854775807/\∀ h',Heap.le h h'->K (.string (str (K5 z))) h'
theorem S176n_of {T:Heap} {G:Spec} (h:Sat (S176i T) G):Sat (S176n T) G:=by
 rintro args h' K ⟨n,rfl,hn,hT,hK⟩;exact h _ _ _ ⟨n,rfl,oM,oM,hT,λh2 hl=>by rw[Bi];exact hK h2 hl⟩
theorem S85_of {G:Spec} (h:Sat S85i G):Sat S85 G:=by
 rintro args h' K ⟨n,rfl,hn,hK⟩;exact h _ _ _ ⟨n,rfl,oM,oM,λh2 hl=>by rw[Bi];exact hK h2 hl⟩
theorem F85i_ok {N:Num} {Γ:Ctx} [Ak Γ]:Sat S85i (SF N Γ F85):=by
 rintro _ h K ⟨z,rfl,hz1,hz2,hK⟩;by_cases hz:0<=z
 ·obtain⟨n,rfl⟩:∃ n:Nat,z=n:=⟨z.toNat,oM⟩
  rw[Bi]at hK;exact Wt _ _ _ ⟨n,rfl,oM,hK⟩
 obtain rfl:z=-1:=oM;rw[RX]at hK;refine An rfl ?_;simp only[F85,Ze,Nat.reduceSub,Nat.reduceAdd];refine Ae ?_;refine Aj (λk:Nat=>[U (.int .i64 (-1)),U (.string (str [])),U (.string (str [])),U (.string (str [45])),O,O,O,O,O])
  (λs h1=>h1=h) (λs=>s) 0 sE rfl ?_
 rintro k h1 rfl;have hrem:∀ h,A8 h (.bin .rem) (.v (.int .i64 (-1))) (.v (.int .i64 10))=U (.v (.int .i64 (-1))):=λh=>rfl;have hquo:∀ h,A8 h (.bin .quo) (.v (.int .i64 (-1))) (.v (.int .i64 10))=U (.v (.int .i64 0)):=λh=>rfl;have w1:IntKind.i64.wrap 1=1:=rfl;have w2:IntKind.i64.wrap 49=49:=rfl;have w3:IntKind.u8.wrap 49=((49:UInt8).toNat:Int):=rfl;refine Ek @hrem @w1 @w2 @w3 ?_;refine BQ BF 1 Ax [49] rfl rfl (by simp[maxLen]) λv h2 hle2 ho=>?_;have hv:=ho.sl Ax;have hb2:=hv.b2s;refine AH @hb2 @hquo ?_;exact hK _ hle2
def S307 (T:Heap) (N:Num):Spec:=λargs h K=>∃ f:Nat,args=[Cm N f]/\1<=f/\f<=1000/\Heap.le T h/\∀ h',Heap.le h h'->K (.string (str (Dj f))) h'
theorem F307_ok {N:Num} {Γ:Ctx} [Ak Γ] {T:Heap} (H176:Sat (S176i T) (Γ 176)):Sat (S307 T N) (SF N Γ F307):=by
 rintro _ h K ⟨f,rfl,hf1,hf2,hT,hK⟩;obtain⟨n,rfl⟩:∃ n,f=n+1:=⟨f-1,oM⟩
 rw[Aq];have l1:=AG 4 (n:=n+1) oM oM;refine An rfl ?_;simp only[F307,Ze,Nat.reduceSub,Nat.reduceAdd];refine Ae ?_;refine Aa H176 ⟨((n+1:Nat):Int),rfl,oM,oM,hT,λh1 hle1=>?_⟩;rw[Bi];refine Ae ?_;exact hK h1 hle1
def S308:Spec:=λargs h K=>∃ f:Nat,args=[.int .i64 (f:Nat)]/\f<=1000/\∀ h',Heap.le h h'->K (.string (str (Dj f))) h'
theorem F308_ok {N:Num} {Γ:Ctx} [Ak Γ] (H85:Sat S85i (Γ 85)):Sat S308 (SF N Γ F308):=by
 rintro _ h K ⟨f,rfl,hf2,hK⟩;have l1:=AG 4 (n:=f) oM oM;refine An rfl ?_;simp only[F308,Ze,Nat.reduceSub,Nat.reduceAdd];refine Ae ?_;refine Aa H85 ⟨(f:Int),rfl,oM,oM,λh1 hle1=>?_⟩;rw[Bi];refine Ae ?_;exact hK h1 hle1
def S316 (T:Heap) (N:Num):Spec:=λargs h K=>∃ z:Int,∃f:Nat,args=[.int .i64 z,Cm N f]/\-1<=z/\z<=1000000/\f<=1000/\Heap.le T h/\∀ h',Heap.le h h'->K (.string (str (D9 z f))) h'
theorem F316_ok {N:Num} {Γ:Ctx} [Ak Γ] {T:Heap} (H307:Sat (S307 T N) (Γ 307)) (H176:Sat (S176i T) (Γ 176)):Sat (S316 T N) (SF N Γ F316):=by
 rintro _ h K ⟨z,f,rfl,hz1,hz2,hf,hT,hK⟩;refine An rfl ?_;simp only[F316,Ze,Nat.reduceSub,Nat.reduceAdd];unfold D9 at hK;cases f with
 |zero=>
  rw[if_pos rfl]at hK;rw[AP];refine Ae ?_;refine Aa H176 ⟨z,rfl,oM,oM,hT,λh1 hle1=>?_⟩;refine Ae ?_;exact hK h1 hle1
 |succ f=>
  rw[if_neg oM]at hK;rw[Aq];refine Ae ?_;refine Aa H307 ⟨f+1,by rw[Aq],oM,oM,hT,λh1 hle1=>?_⟩;refine Ae ?_;exact hK h1 hle1
def S321:Spec:=λargs h K=>∃ z:Int,∃f:Nat,args=[.int .i64 z,.int .i64 (f:Nat)]/\-1<=z/\z<=1000000/\f<=1000/\∀ h',Heap.le h h'->K (.string (str (D9 z f))) h'
theorem F321_ok {N:Num} {Γ:Ctx} [Ak Γ] (H308:Sat S308 (Γ 308)) (H85:Sat S85i (Γ 85)):Sat S321 (SF N Γ F321):=by
 rintro _ h K ⟨z,f,rfl,hz1,hz2,hf,hK⟩;refine An rfl ?_;simp only[F321,Ze,Nat.reduceSub,Nat.reduceAdd];unfold D9 at hK;refine Ae ?_;refine Ad (λc=>?_) (λc=>?_)
 ·rw[if_neg oM]at hK;refine Ae ?_;refine Aa H308 ⟨f,rfl,hf,λh1 hle1=>?_⟩;refine Ae ?_;exact hK h1 hle1
 ·rw[if_pos oM]at hK;refine Ae ?_;refine Aa H85 ⟨z,rfl,hz1,oM,λh1 hle1=>?_⟩;refine Ae ?_;exact hK h1 hle1
theorem Gd {s:List UInt8} {t:Tg} (h:BS s=U t):¬ t.bad:=by
 unfold BS at h;split at h
 ·cases h
 ·split at h
  ·cases h
  ·split at h
   ·cases h
   ·rename_i hb;cases h;exact hb
def S325 (T:Heap):Spec:=λargs h K=>∃ s,args=[.string (str s)]/\Heap.le T h/\∀ h',Heap.le h h'->K (.string (str (Jv s))) h'
theorem F325_ok {N:Num} {Γ:Ctx} [Ak Γ] {T:Heap} (H81:Sat (S81 N) (Γ 81)) (H163:Sat (S163 T N) (Γ 163)):Sat (S325 T) (SF N Γ F325):=by
 rintro _ h K ⟨s,rfl,hT,hK⟩;refine An rfl ?_;simp only[F325,Ze,Nat.reduceSub,Nat.reduceAdd];unfold Jv at hK;refine Ae ?_;refine Aa H81 ⟨s,rfl,λh1 hle1=>?_⟩;unfold SD;cases ht:BS s with
 |none=>
  rw[ht]at hK;refine AH @Co.eq_1 @Aq ?_;exact hK h1 hle1
 |some t=>
  rw[ht]at hK;refine AH @Co.eq_1 @AP ?_;refine Aa H163 ⟨t,rfl,hT.trans hle1,λhb=>absurd hb (Gd ht),λ_ h2 hle2=>?_⟩;refine Ae ?_;exact hK h2 (hle1.trans hle2)
def Cq (w:List UInt8):Option (Nat×Nat):=
 if w=[115,101,116]then U (6,0)else if w=[97,116]then U (3,0)
 else if(w=[115,116,97,114,116]\/w=[97,108,101,114,116,115])\/w=[100,114,111,112,115]then U (0,0)
 else if w=[116,105,99,107]\/w=[119,97,114,109]then U (1,0)
 else if(w=[102,101,101,100]\/w=[119,104,101,114,101])\/w=[105,110]then U (1,1)
 else if w=[114,101,97,100]then U (4,1)else O
theorem Nd {w:List UInt8} {a b:Nat} (h:Cq w=U (a,b)):a<=6/\b<=1:=by
 unfold Cq at h
 repeat' split at h
 all_goals first|(cases h;omega)|cases h
def Kc (w:List UInt8):Int×Int:=match Cq w with
 |some (a,b)=>((a:Nat),(b:Nat))
 |none=>(-1,0)
def S309:Spec:=λargs h K=>∃ w,args=[.string (str w)]/\K (.tuple #[.int .i64 (Kc w).1,.int .i64 (Kc w).2]) h
theorem F309_ok {N:Num} {Γ:Ctx} [Ak Γ]:Sat S309 (SF N Γ F309):=by
 rintro _ h K ⟨w,rfl,hK⟩;refine An rfl ?_;simp only[F309,Ze,Nat.reduceSub,Nat.reduceAdd];unfold Kc Cq at hK;refine Ae ?_;refine Ad (λc1=>?_) (λc1=>?_)
 ·rw[if_pos c1]at hK;refine Ae ?_;exact hK
 rw[if_neg c1]at hK;refine Ae ?_;refine Ad (λc2=>?_) (λc2=>?_)
 ·rw[if_pos c2]at hK;refine Ae ?_;exact hK
 rw[if_neg c2]at hK;refine Ae ?_;refine AT (λenv h'=>h'=h/\env=[U (.string (str w)),U (.int .i64 0),U (.int .i64 0),U (.string (str w)),O,O,U (.bool (decide ((w=[115,116,97,114,116]\/w=[97,108,101,114,116,115])\/w=[100,114,111,112,115]))),O,O,O]) ?_ ?_;rotate_left
 ·refine Ad (λc3=>?_) (λc3=>?_)
  ·refine Ae ?_;exact Ar _ (by try simp only[Pf];simp[c3]) ⟨rfl,rfl⟩
  ·refine Ae ?_;refine Ad (λc4=>?_) (λc4=>?_)
   ·refine Ae ?_;exact Ar _ (by try simp only[Pf];simp[c4]) ⟨rfl,rfl⟩
   ·refine Ae ?_;exact Ar _ (by try simp only[Pf];simp[c3,c4]) ⟨rfl,rfl⟩
 rintro env h' ⟨rfl,rfl⟩;refine Ae ?_;refine Ad (λc3=>?_) (λc3=>?_)
 ·rw[if_pos c3]at hK;refine Ae ?_;exact hK
 rw[if_neg c3]at hK;refine Ae ?_;refine AT (λenv h2=>h2=h'/\env=[U (.string (str w)),U (.int .i64 0),U (.int .i64 0),U (.string (str w)),O,O,O,U (.bool (decide (w=[116,105,99,107]\/w=[119,97,114,109]))),O,O]) ?_ ?_;rotate_left
 ·refine Ad (λc3=>?_) (λc3=>?_)
  ·refine Ae ?_;exact Ar _ (by try simp only[Pf];simp[c3]) ⟨rfl,rfl⟩
  ·refine Ae ?_;exact Ar _ (by try simp only[Pf];simp[c3]) ⟨rfl,rfl⟩
 rintro env h2 ⟨rfl,rfl⟩;refine Ae ?_;refine Ad (λc4=>?_) (λc4=>?_)
 ·rw[if_pos c4]at hK;refine Ae ?_;exact hK
 rw[if_neg c4]at hK;refine Ae ?_;refine AT (λenv h3=>h3=h2/\env=[U (.string (str w)),U (.int .i64 0),U (.int .i64 0),U (.string (str w)),O,O,O,O,U (.bool (decide ((w=[102,101,101,100]\/w=[119,104,101,114,101])\/w=[105,110]))),O]) ?_ ?_;rotate_left
 ·refine Ad (λc3=>?_) (λc3=>?_)
  ·refine Ae ?_;exact Ar _ (by try simp only[Pf];simp[c3]) ⟨rfl,rfl⟩
  ·refine Ae ?_;refine Ad (λc4=>?_) (λc4=>?_)
   ·refine Ae ?_;exact Ar _ (by try simp only[Pf];simp[c4]) ⟨rfl,rfl⟩
   ·refine Ae ?_;exact Ar _ (by try simp only[Pf];simp[c3,c4]) ⟨rfl,rfl⟩
 rintro env h3 ⟨rfl,rfl⟩;refine Ae ?_;refine Ad (λc5=>?_) (λc5=>?_)
 ·rw[if_pos c5]at hK;refine Ae ?_;exact hK
 rw[if_neg c5]at hK;refine Ae ?_;refine Ad (λc6=>?_) (λc6=>?_)
 ·rw[if_pos c6]at hK;refine Ae ?_;exact hK
 rw[if_neg c6]at hK;refine Ae ?_;exact hK
theorem V6 {h g H:Heap} (hg:Heap.le g H) (hd:CA h g):Heap.le g (fr h H):=by
 intro b o hb;unfold fr;cases e:h b with
 |none=>exact hg b o hb
 |some x=>rw[hd b (by rw[e];simp)]at hb;cases hb
def Fi (p:Nat×Nat):Value:=.agg #[.int .i64 (p.1:Nat),.int .i64 (p.2:Nat)]
def S313:Spec:=λargs h K=>args=[]/\∀ m kv bs ck h',Heap.le h h'->Bn AF Fi (fr h h') m kv bs ck->(∀w,look kv w=Cq w)->K (.map (U m)) h'
theorem F313_ok {N:Num} {Γ:Ctx} [Ak Γ]:Sat S313 (SF N Γ F313):=by
 rintro _ h K ⟨rfl,hK⟩;refine An rfl ?_;simp only[F313,Ze,Nat.reduceSub,Nat.reduceAdd];refine Ae ?_;refine EX (ek:=AF) (ev:=Fi) λm h0 hm hle0 hM=>?_;have Q0:Ps h0 [h,fr h h0]:=(Ps.one h).new hle0;refine Ae ?_;refine BX (ek:=AF) (ev:=Fi) hM (Q0.lt 1 rfl) [115,101,116] (6,0) λo1 b1 c1 hM1 st1 _=>?_;have Q1:=Q0.step 1 rfl st1;refine Ae ?_;refine BX (ek:=AF) (ev:=Fi) hM1 (Q1.lt 1 rfl) [97,116] (3,0) λo2 b2 c2 hM2 st2 _=>?_;have Q2:=Q1.step 1 rfl st2;refine Ae ?_;refine BX (ek:=AF) (ev:=Fi) hM2 (Q2.lt 1 rfl) [115,116,97,114,116] (0,0) λo3 b3 c3 hM3 st3 _=>?_;have Q3:=Q2.step 1 rfl st3;refine Ae ?_;refine BX (ek:=AF) (ev:=Fi) hM3 (Q3.lt 1 rfl) [116,105,99,107] (1,0) λo4 b4 c4 hM4 st4 _=>?_;have Q4:=Q3.step 1 rfl st4;refine Ae ?_;refine BX (ek:=AF) (ev:=Fi) hM4 (Q4.lt 1 rfl) [102,101,101,100] (1,1) λo5 b5 c5 hM5 st5 _=>?_;have Q5:=Q4.step 1 rfl st5;refine Ae ?_;refine BX (ek:=AF) (ev:=Fi) hM5 (Q5.lt 1 rfl) [114,101,97,100] (4,1) λo6 b6 c6 hM6 st6 _=>?_;have Q6:=Q5.step 1 rfl st6;refine Ae ?_;refine BX (ek:=AF) (ev:=Fi) hM6 (Q6.lt 1 rfl) [119,104,101,114,101] (1,1) λo7 b7 c7 hM7 st7 _=>?_;have Q7:=Q6.step 1 rfl st7;refine Ae ?_;refine BX (ek:=AF) (ev:=Fi) hM7 (Q7.lt 1 rfl) [105,110] (1,1) λo8 b8 c8 hM8 st8 _=>?_;have Q8:=Q7.step 1 rfl st8;refine Ae ?_;refine BX (ek:=AF) (ev:=Fi) hM8 (Q8.lt 1 rfl) [119,97,114,109] (1,0) λo9 b9 c9 hM9 st9 _=>?_;have Q9:=Q8.step 1 rfl st9;refine Ae ?_;refine BX (ek:=AF) (ev:=Fi) hM9 (Q9.lt 1 rfl) [97,108,101,114,116,115] (0,0) λo10 b10 c10 hM10 st10 _=>?_;have Q10:=Q9.step 1 rfl st10;refine Ae ?_;refine BX (ek:=AF) (ev:=Fi) hM10 (Q10.lt 1 rfl) [100,114,111,112,115] (0,0) λo11 b11 c11 hM11 st11 _=>?_;have Q11:=Q10.step 1 rfl st11;refine Ae ?_;refine hK m _ _ _ _ (Q11.lt 0 rfl) (hM11.le (V6 (Q11.lt 1 rfl) (Q11.dj 0 1 rfl rfl oM))) λw=>?_;simp only[A6,Bd];unfold Cq;by_cases e1:w=[115,101,116]
 ·subst e1;decide
 by_cases e2:w=[97,116]
 ·subst e2;decide
 by_cases e3:w=[115,116,97,114,116]
 ·subst e3;decide
 by_cases e4:w=[116,105,99,107]
 ·subst e4;decide
 by_cases e5:w=[102,101,101,100]
 ·subst e5;decide
 by_cases e6:w=[114,101,97,100]
 ·subst e6;decide
 by_cases e7:w=[119,104,101,114,101]
 ·subst e7;decide
 by_cases e8:w=[105,110]
 ·subst e8;decide
 by_cases e9:w=[119,97,114,109]
 ·subst e9;decide
 by_cases e10:w=[97,108,101,114,116,115]
 ·subst e10;decide
 by_cases e11:w=[100,114,111,112,115]
 ·subst e11;decide
 simp only[e1,e2,e3,e4,e5,e6,e7,e8,e9,e10,e11,if_false,or_self]
def Ft (c:UInt8):Option Nat:=if 48<=c.toNat/\c.toNat<=57 then U (c.toNat-48)else if 97<=c.toNat/\c.toNat<=102 then U (c.toNat-87)else O
def hv (c:UInt8):Nat:=(Ft c).getD 0
def IZ (c:UInt8):Int:=match Ft c with
 |some d=>(d:Nat)
 |none=>-1
theorem JH {c:UInt8} {d:Nat} (h:Ft c=U d):d<16:=by
 unfold Ft at h;split at h
 ·cases h;omega
 ·split at h
  ·cases h;omega
  ·cases h
theorem Vm (c:UInt8):hv c<16:=by
 unfold hv;cases h:Ft c with
 |none=>simp
 |some d=>exact JH h
def FP:List UInt8->List UInt8
 |[]=>[]
 |[a]=>[UInt8.ofNat (16*hv a)]
 |a::b::r=>UInt8.ofNat (16*hv a+hv b)::FP r
def Dk (s:List UInt8):Option (List UInt8):=if s.length%2=0/\∀ c∈s,(Ft c).isSome then U (FP s)else O
theorem EZ:∀ (l:List UInt8),(FP l).length=(l.length+1)/2
 |[]=>rfl
 |[a]=>by simp[FP]
 |a::b::r=>by
  have:=EZ r;simp only[FP,Y5];omega
theorem IY:∀ (l:List UInt8) (c:UInt8),l.length%2=0->FP (l++[c])=FP l++[UInt8.ofNat (16*hv c)]
 |[],c,_=>rfl
 |[a],c,h=>by simp at h
 |a::b::r,c,h=>by
  have:=IY r c (by simp only[Y5]at h;omega);simp only[FP,Y7,this]
theorem Km:∀ (l:List UInt8) (c:UInt8),l.length%2=1->∃ a,a<16/\((FP l).getD (l.length/2) 0).toNat=16*a/\FP (l++[c])=(FP l).set (l.length/2) (UInt8.ofNat (16*a+hv c))
 |[],c,h=>by simp at h
 |[a],c,_=>⟨hv a,Vm a,by have:=Vm a;simp[FP];omega,by simp[FP]⟩
 |a::b::r,c,h=>by
  obtain⟨x,h1,h2,h3⟩:=Km r c (by simp only[Y5]at h;omega);refine⟨x,h1,?_,?_⟩
  ·simp only[FP,Y5];rw[show(r.length+1+1)/2=r.length/2+1 by omega,Z8];exact h2
  ·simp only[FP,Y7,Y5,h3];rw[show(r.length+1+1)/2=r.length/2+1 by omega,List.set_cons_succ]
def Qg:List UInt8:=[48,49,50,51,52,53,54,55,56,57,97,98,99,100,101,102]
theorem W6 (x y:Nat) (hx:x<2^8) (hy:y<2^8):Bj .or (.int .u8 (x:Int)) (.int .u8 (y:Int))=U (.int .u8 ((x|||y:Nat):Int)):=by
 have hb:(BitVec.ofInt IntKind.u8.bits (x:Int)|||BitVec.ofInt IntKind.u8.bits (y:Int)).toNat=x|||y:=by rw[BitVec.toNat_or,Ci IntKind.u8.bits x hx,Ci IntKind.u8.bits y hy]
 simp only[Bj,Gt,if_true];have:x|||y<2^8:=Nat.or_lt_two_pow hx hy;rw[hb,Uh,show((x|||y:Nat):Int)%256=((x|||y:Nat):Int)from by omega]
theorem W9 {a d:Nat} (ha:a<16) (hd:d<16):Bj .or (.int .u8 ((16*a:Nat):Int)) (.int .u8 (d:Int))=U (.int .u8 ((16*a+d:Nat):Int)):=by
 rw[W6 (16*a) d oM oM];have:=Nat.two_pow_add_eq_or_of_lt (i:=4) (b:=d) oM a;rw[show 2^4*a=16*a from rfl]at this;rw[this]
theorem WT {d:Nat} (hd:d<16):Bj .shl (.int .i64 (d:Int)) (.int .u64 4)=U (.int .i64 ((16*d:Nat):Int)):=by
 rcases(by omega:d=0\/d=1\/d=2\/d=3\/d=4\/d=5\/d=6\/d=7\/d=8\/d=9\/d=10\/d=11\/d=12\/d=13\/d=14\/d=15)with rfl|rfl|rfl|rfl|rfl|rfl|rfl|rfl|rfl|rfl|rfl|rfl|rfl|rfl|rfl|rfl<;>rfl
theorem PX {n:Nat} (h:n<256):IntKind.u8.wrap ((n:Nat):Int)=(((UInt8.ofNat n).toNat:Nat):Int):=by
 rw[Uh,show(UInt8.ofNat n).toNat=n%256 from by simp];omega
theorem MM {n:Nat} (h:n<256):(UInt8.ofNat n).toNat=n:=by
 rw[show(UInt8.ofNat n).toNat=n%256 from by simp];omega
def S324:Spec:=λargs h K=>∃ c:UInt8,args=[.string (str Qg),.int .u8 (c.toNat:Nat)]/\K (.int .i64 (IZ c)) h
def S317:Spec:=λargs h K=>∃ s,args=[.string (str s)]/\s.length<=1000000/\∀ x h',Heap.le h h'->(∀l,Dk s=U l->x=l)->K (.tuple #[.string (str x),.bool (Dk s).isSome]) h'
theorem Uu (i:Nat) (h:Heap):A8 h (.bin .rem) (.v (.int .i64 (i:Int))) (.v (.int .i64 2))=U (.v (.int .i64 ((i%2:Nat):Int))):=by
 simp only[A8,Bj,Gt,if_true,YH];rw[if_neg (by decide),show(i:Int).tmod 2=((i%2:Nat):Int)from by rw[Int.tmod_eq_emod_of_nonneg oM];omega];rfl
theorem Ns {s:List UInt8} {i:Nat} (hi:i<s.length) (h:∀ c∈s.take i,(Ft c).isSome) {d:Nat} (hd:Ft (s.getD i 0)=U d):∀ c∈s.take (i+1),(Ft c).isSome:=by
 rw[Ai 0 hi];intro c hc;rcases Yd.1 hc with e|e
 ·exact h c e
 ·rw[YA.1 e,hd];rfl
theorem F317_ok {N:Num} {Γ:Ctx} [Ak Γ] (H324:Sat S324 (Γ 324)):Sat S317 (SF N Γ F317):=by
 rintro _ h K ⟨s,rfl,hsl,hK⟩;refine An rfl ?_;simp only[F317,Ze,Nat.reduceSub,Nat.reduceAdd];refine Ae ?_;refine Aj (λx:Nat×Value=>[U (.string (str s)),O,O,U x.2,O,O,U (.int .i64 (s.length:Nat)),U (.int .i64 (x.1:Nat)),O,O,O,O,O,O,O])
  (λx H=>x.1<=s.length/\AQ BF 1 h H x.2 (FP (s.take x.1))/\∀ c∈s.take x.1,(Ft c).isSome) (λx=>s.length-x.1) (0,.slice O 0 0) (by dsimp only;try simp only[Pf];rfl) ⟨dM,AQ.nil (ZX h),by intro c hc;simp at hc⟩ ?_
 rintro⟨i,v⟩ H ⟨hi,ho,hx⟩;dsimp only at hi ho hx ⊢;have hwi:=wS i;have hb2:=(ho.sl Ax).b2s;have hrs:=Uu s.length;have hri:=Uu i;refine Ae ?_;refine Ad (λc2=>?_) (λc2=>?_);rotate_left
 ·have:i=s.length:=oM;subst this;rw[Z5]at ho hx hb2;have e:(Dk s).isSome=decide (((s.length%2:Nat):Int)=0):=by
   unfold Dk;by_cases q:s.length%2=0
   ·rw[if_pos ⟨q,hx⟩,decide_eq_true oM];rfl
   ·rw[if_neg (λx=>q x.1),decide_eq_false oM];rfl
  have:=hK (FP s) H ho.1 (λl hl=>by
   unfold Dk at hl;split at hl
   ·cases hl;rfl
   ·cases hl)
  rw[e]at this;refine AH @hb2 @hrs ?_;exact this
 have A5:i<s.length:=oM;refine Ae ?_;refine Aa H324 ⟨s.getD i 0,rfl,?_⟩;have hnx:=Ai 0 A5;have htl:(s.take i).length=i:=by rw[Zn];omega
 cases hd:Ft (s.getD i 0)with
 |none=>
  have e:Dk s=O:=by
   unfold Dk;rw[if_neg];rintro⟨_,q⟩;have:=q _ (As 0 A5);rw[hd]at this;cases this
  have hI:IZ (s.getD i 0)=-1:=by unfold IZ;rw[hd]
  have:=hK [] H ho.1 (λl hl=>by rw[e]at hl;cases hl);rw[e]at this;rw[hI];refine Ae ?_;exact this
 |some d=>
 have hdl:=JH hd;have hI:IZ (s.getD i 0)=(d:Nat):=by unfold IZ;rw[hd]
 have hhv:hv (s.getD i 0)=d:=by unfold hv;rw[hd];rfl
 have hxn:=Ns A5 hx hd;rw[hI];have hneg:((d:Int)<0)=False:=eq_false oM;have O1:=ho.one;refine AH @hneg @hri ?_;refine Ad (λc3=>?_) (λc3=>?_)
 ·have hs4:=WT hdl;have hw:=PX (n:=16*d) oM;refine AH @hs4 @hw ?_;refine BQ BF 1 Ax [UInt8.ofNat (16*d)] rfl rfl (by simp[maxLen]) λv1 h1 hle1 ho1=>?_;have O2:=ho1.one;have hll:=EZ (s.take i);refine Ek O2.1 O2.2 O1.1 O1.2 ?_;refine D7 Ax (λx _=>GT x) (ho.le hle1) (ho1.sl Ax) (by simp only[Zo];omega) λv2 h2 ho2=>?_;refine Ap @hwi ?_;refine Ag (i+1,v2) dM (by dsimp only;try simp only[Pf]) ⟨dM,?_,hxn⟩;dsimp only;rw[hnx,IY _ _ oM,hhv];exact ho2
 ·obtain⟨a,ha,hg,hset⟩:=Km (s.take i) (s.getD i 0) oM;rw[hhv,htl]at hset;rw[htl]at hg;have hll:=EZ (s.take i);rw[htl]at hll;have hquo:IntKind.i64.wrap ((i:Int).tdiv 2)=((i/2:Nat):Int):=by
   rw[show(i:Int).tdiv 2=((i/2:Nat):Int)from by rw[AbL oM];omega,BC oM oM]
  have R:=(ho.sl Ax).rules1 (λb:UInt8=>.int .u8 (b.toNat:Nat)) (λ_=>rfl) 0;have hw:=PX (n:=d) oM;have hw2:((UInt8.ofNat d).toNat:Int)=(d:Nat):=by simp;omega
  rw[hw2]at hw;have ho16:=W9 ha hdl;refine Le @hquo @R @hg @hw @ho16 ?_;have hst:=λK hK=>Nl (N:=N) (Γ:=Γ) (enc:=BF) (sz:=1) Ax (UInt8.ofNat (16*a+d)) rfl ho (x:=.int .u8 ((16*a+d:Nat):Int)) (j:=i/2) oM (by unfold BF;rw[MM oM];rfl) (K:=K) hK;rw[ZV]at hst;refine hst _ λh7 ho7=>?_;refine Ap @hwi ?_;refine Ag (i+1,v) dM (by dsimp only;try simp only[Pf]) ⟨dM,?_,hxn⟩;dsimp only;rw[hnx,hset];exact ho7
def S322:Spec:=S317
theorem Wg:∀ (c:UInt8) (k:Nat),k<16->((((Qg.getD k 0).toNat:Int)=(c.toNat:Int))↔Ft c=U k):=by
 intro c k hk;have hc:=c.toNat_lt;have e:∀ n:Nat,(((n:Nat):Int)=(c.toNat:Int))↔n=c.toNat:=λn=>by omega
 rw[e];unfold Ft;rcases(by omega:k=0\/k=1\/k=2\/k=3\/k=4\/k=5\/k=6\/k=7\/k=8\/k=9\/k=10\/k=11\/k=12\/k=13\/k=14\/k=15)with rfl|rfl|rfl|rfl|rfl|rfl|rfl|rfl|rfl|rfl|rfl|rfl|rfl|rfl|rfl|rfl
 all_goals
  simp only[Qg,Z6,Z8];constructor
  ·intro h;have h2:c.toNat=_:=h.symm;rw[h2];rfl
  ·intro h;split at h
   ·simp only[Option.some.injEq]at h;show _=c.toNat;simp only[UInt8.reduceToNat]at *;omega
   ·split at h
    ·simp only[Option.some.injEq]at h;simp only[UInt8.reduceToNat]at *;omega
    ·cases h
def Hw (c:UInt8) (k:Nat):Int:=match Ft c with
 |some d=>if d<k then(d:Nat)else -1
 |none=>-1
theorem TC (c:UInt8):Hw c 16=IZ c:=by
 unfold Hw IZ;cases h:Ft c with
 |none=>rfl
 |some d=>dsimp only;rw[if_pos (JH h)]
theorem RI {c:UInt8} {k:Nat} (h:Ft c=U k):Hw c (k+1)=(k:Nat):=by
 unfold Hw;rw[h];dsimp only;rw[if_pos oM]
theorem Pd {c:UInt8} {k:Nat} (h:Ft c≠U k):Hw c (k+1)=Hw c k:=by
 unfold Hw;cases hc:Ft c with
 |none=>rfl
 |some d=>
  have:d≠k:=λe=>h (by rw[hc,e]);dsimp only;by_cases q:d<k
  ·rw[if_pos q,if_pos oM]
  ·rw[if_neg q,if_neg oM]
theorem F322_ok {N:Num} {Γ:Ctx} [Ak Γ]:Sat S322 (SF N Γ F322):=by
 rintro _ h K ⟨s,rfl,hsl,hK⟩;refine An rfl ?_;simp only[F322,Ze,Nat.reduceSub,Nat.reduceAdd];have hrs:=Uu s.length;refine Ap @hrs ?_;refine Ad (λc0=>?_) (λc0=>?_)
 ·have e:Dk s=O:=by
   unfold Dk;rw[if_neg];rintro⟨q,_⟩;omega
  have:=hK [] h (ZX h) (λl hl=>by rw[e]at hl;cases hl);rw[e]at this;refine Ae ?_;exact this
 have hev:s.length%2=0:=oM;refine Ae ?_;refine Aj (λx:Nat×Value=>[U (.string (str s)),O,O,U x.2,U (.int .i64 (x.1:Nat)),O,O,O,O,O,O,O,O,O,O,O])
  (λx H=>x.1<=s.length/\AQ BF 1 h H x.2 (FP (s.take x.1))/\∀ c∈s.take x.1,(Ft c).isSome) (λx=>s.length-x.1) (0,.slice O 0 0) (by dsimp only;try simp only[Pf];rfl) ⟨dM,AQ.nil (ZX h),by intro c hc;simp at hc⟩ ?_
 rintro⟨i,v⟩ H ⟨hi,ho,hx⟩;dsimp only at hi ho hx ⊢;have hwi:=wS i;have hb2:=(ho.sl Ax).b2s;have hri:=Uu i;refine Ae ?_;refine Ad (λc2=>?_) (λc2=>?_);rotate_left
 ·have:i=s.length:=oM;subst this;rw[Z5]at ho hx hb2;have e:Dk s=U (FP s):=by unfold Dk;rw[if_pos ⟨hev,hx⟩]
  have:=hK (FP s) H ho.1 (λl hl=>by rw[e]at hl;cases hl;rfl);rw[e]at this;refine Ap @hb2 ?_;exact this
 have A5:i<s.length:=oM;obtain⟨c,hc⟩:∃ c,c=s.getD i 0:=⟨_,rfl⟩
 have hc2:=hc.symm;refine Ae ?_;refine Aj (λk:Nat=>[U (.string (str s)),O,O,U v,U (.int .i64 (i:Nat)),U (.int .i64 (Hw c k)),U (.int .i64 (k:Nat)),O,O,O,O,O,O,O,O,O])
  (λk H2=>k<=16/\H2=H) (λk=>16-k) 0 (by rw[show Hw c 0=-1 from by unfold Hw;cases Ft c<;>rfl];try simp only[Pf];rfl) ⟨oM,rfl⟩ ?_
 rintro k H2 ⟨hk,rfl⟩;have hwk:=wS k;refine Ae ?_;refine Ad (λc3=>?_) (λc3=>?_)
 ·have hk2:k<16:=oM;have hat:=Wg c k hk2;have hln:Qg.length=16:=rfl;have hsx:∀ h,A8 h .sidx (.v (.string (str [48,49,50,51,52,53,54,55,56,57,97,98,99,100,101,102]))) (.v (.int .i64 (k:Int)))=U (.v (.int .u8 ((Qg.getD k 0).toNat:Nat))):=λh=>by
   rcases(by omega:k=0\/k=1\/k=2\/k=3\/k=4\/k=5\/k=6\/k=7\/k=8\/k=9\/k=10\/k=11\/k=12\/k=13\/k=14\/k=15)with rfl|rfl|rfl|rfl|rfl|rfl|rfl|rfl|rfl|rfl|rfl|rfl|rfl|rfl|rfl|rfl<;>rfl
  refine AH @hsx @hc2 ?_;refine Ad (λc4=>?_) (λc4=>?_)
  ·have hh:=RI (hat.1 c4);refine Ap @hwk ?_;exact Ag (k+1) oM (by rw[hh];try simp only[Pf]) ⟨oM,rfl⟩
  ·have hh:=Pd (λe=>c4 (hat.2 e));refine Ap @hwk ?_;exact Ag (k+1) oM (by rw[hh];try simp only[Pf]) ⟨oM,rfl⟩
 have hk16:k=16:=oM;subst hk16;rw[TC];have hnx:=Ai 0 A5;have htl:(s.take i).length=i:=by rw[Zn];omega
 cases hd:Ft c with
 |none=>
  have e:Dk s=O:=by
   unfold Dk;rw[if_neg];rintro⟨_,q⟩;have:=q _ (As 0 A5);rw[<-hc,hd]at this;cases this
  have hI:IZ c=-1:=by unfold IZ;rw[hd]
  have:=hK [] H2 ho.1 (λl hl=>by rw[e]at hl;cases hl);rw[e]at this;rw[hI];refine Ae ?_;exact this
 |some d=>
 have hdl:=JH hd;have hI:IZ c=(d:Nat):=by unfold IZ;rw[hd]
 have hhv:hv c=d:=by unfold hv;rw[hd];rfl
 have hxn:=Ns A5 hx (hc▸hd);rw[hI];have hneg:((d:Int)<0)=False:=eq_false oM;have O1:=ho.one;refine AH @hneg @hri ?_;refine Ad (λc3=>?_) (λc3=>?_)
 ·have hs4:IntKind.i64.wrap (16*(d:Int))=((16*d:Nat):Int):=wN;have hw:=PX (n:=16*d) oM;refine AH @hs4 @hw ?_;refine BQ BF 1 Ax [UInt8.ofNat (16*d)] rfl rfl (by simp[maxLen]) λv1 h1 hle1 ho1=>?_;have O2:=ho1.one;have hll:=EZ (s.take i);refine Ek O2.1 O2.2 O1.1 O1.2 ?_;refine D7 Ax (λx _=>GT x) (ho.le hle1) (ho1.sl Ax) (by simp only[Zo];omega) λv2 h2 ho2=>?_;refine Ap @hwi ?_;refine Ag (i+1,v2) dM (by dsimp only;try simp only[Pf]) ⟨dM,?_,hxn⟩;dsimp only;rw[hnx,IY _ _ oM,<-hc,hhv];exact ho2
 ·obtain⟨a,ha,hg,hset⟩:=Km (s.take i) c oM;rw[hhv,htl]at hset;rw[htl]at hg;have hll:=EZ (s.take i);rw[htl]at hll;have hquo:IntKind.i64.wrap ((i:Int).tdiv 2)=((i/2:Nat):Int):=by
   rw[show(i:Int).tdiv 2=((i/2:Nat):Int)from by rw[AbL oM];omega,BC oM oM]
  have R:=(ho.sl Ax).rules1 (λb:UInt8=>.int .u8 (b.toNat:Nat)) (λ_=>rfl) 0;have hw:=PX (n:=d) oM;have hw2:((UInt8.ofNat d).toNat:Int)=(d:Nat):=by simp;omega
  rw[hw2]at hw;have ho16:IntKind.u8.wrap (((16*a:Nat):Int)+(d:Int))=((16*a+d:Nat):Int):=by rw[Uh];omega
  refine Le @hquo @R @hg @hw @ho16 ?_;have hst:=λK hK=>Nl (N:=N) (Γ:=Γ) (enc:=BF) (sz:=1) Ax (UInt8.ofNat (16*a+d)) rfl ho (x:=.int .u8 ((16*a+d:Nat):Int)) (j:=i/2) oM (by unfold BF;rw[MM oM];rfl) (K:=K) hK;rw[ZV]at hst;refine hst _ λh7 ho7=>?_;refine Ap @hwi ?_;refine Ag (i+1,v) dM (by dsimp only;try simp only[Pf]) ⟨dM,?_,hxn⟩;dsimp only;rw[hnx,<-hc,hset];exact ho7
def E8 (s:List UInt8):Option Int:=
 if s=[45,49]then U (-1)
 else if s≠[]/\s.length<=5/\¬ ((s.getD 0 0).toNat=48/\1<s.length)/\Fx s then U (Az s:Nat)else O
theorem TO {b:UInt8} (h1:48<=b.toNat) (h2:b.toNat<=57) (n:Nat):NG (10*n+(b.toNat-48))=b:=by
 apply UInt8.toNat.inj;rw[DT];omega
theorem TQ:∀ (n:Nat) (s:List UInt8),s.length=n+1->Fx s->((s.getD 0 0).toNat≠48\/n=0)->Bo (Az s)=s:=by
 intro n;induction n with
 |zero=>
  intro s hs hd _
  match s,hs with
  |[b],_=>
   obtain⟨h1,h2⟩:=hd b (by simp);have e:Az [b]=b.toNat-48:=by simp[Az]
   have e2:=TO h1 h2 0;rw[e,Cn oM];rw[Nat.mul_zero,Yn]at e2;rw[e2]
 |succ n ih=>
  intro s hs hd h0;rcases List.eq_nil_or_concat s with rfl|⟨l,b,rfl⟩
  ·simp at hs
  rw[List.concat_eq_append]at *;rw[Zk,Zo]at hs;obtain⟨h1,h2⟩:=hd b (by simp);have hl0:((l++[b]).getD 0 0)=l.getD 0 0:=by
   cases l with
   |nil=>simp at hs
   |cons x l=>rfl
  rw[hl0]at h0;have hdl:Fx l:=λx hx=>hd x (Yx _ hx);have h48:(l.getD 0 0).toNat≠48:=h0.resolve_right oM;have hi:=ih l oM hdl (.inl h48);have hne:1<=Az l:=by
   refine Classical.byContradiction λe=>?_;have e0:Az l=0:=oM;rw[e0,show Bo 0=[NG 0]from Cn oM]at hi;rw[<-hi]at h48;exact h48 (by simp[DT])
  rw[G7,DJ oM,TO h1 h2,show(10*Az l+(b.toNat-48))/10=Az l by omega,hi]
theorem TR:∀ (n:Nat),10<=n->((Bo n).getD 0 0).toNat≠48:=by
 intro n;induction n using Nat.strongRecOn with
 |_ n ih=>
  intro hn;rw[DJ hn];have hne:=DI (n/10);have e:(Bo (n/10)++[NG n]).getD 0 0=(Bo (n/10)).getD 0 0:=by
   cases h:Bo (n/10)with
   |nil=>exact absurd h hne
   |cons x l=>rfl
  rw[e];by_cases h10:10<=n/10
  ·exact ih _ oM h10
  ·rw[Cn oM];simp only[Z6];rw[DT];omega
theorem Th {s:List UInt8} (hd:Fx s) (hs:s≠[]):Bo (Az s)=s↔¬ ((s.getD 0 0).toNat=48/\1<s.length):=by
 have hl:0<s.length:=Zx.2 hs;constructor
 ·rintro h ⟨h1,h2⟩;by_cases h10:10<=Az s
  ·have:=TR _ h10;rw[h]at this;exact this h1
  ·rw[Cn oM]at h;rw[<-h]at h2;simp at h2
 ·intro h;refine TQ (s.length-1) s oM hd ?_;by_cases e:(s.getD 0 0).toNat=48
  ·exact .inr (by have:¬ 1<s.length:=λx=>h ⟨e,x⟩;omega)
  ·exact .inl e
def S314:Spec:=λargs h K=>∃ s,args=[.string (str s)]/\s.length<=1000000/\K (.tuple #[.int .i64 ((E8 s).getD 0),.bool (E8 s).isSome]) h
theorem F314_ok {N:Num} {Γ:Ctx} [Ak Γ]:Sat S314 (SF N Γ F314):=by
 rintro _ h K ⟨s,rfl,hsl,hK⟩;refine An rfl ?_;simp only[F314,Ze,Nat.reduceSub,Nat.reduceAdd];have hno:E8 s=O->K (.tuple #[.int .i64 0,.bool false]) h:=λhn=>by rw[hn]at hK;exact hK
 refine Ae ?_;refine Ad (λc0=>?_) (λc0=>?_)
 ·have e:E8 s=U (-1):=by unfold E8;rw[if_pos c0]
  rw[e]at hK;refine Ae ?_;exact hK
 have hnp:E8 s=if s≠[]/\s.length<=5/\¬ ((s.getD 0 0).toNat=48/\1<s.length)/\Fx s then U ((Az s:Nat):Int)else O:=by unfold E8;rw[if_neg c0]
 by_cases hs:s=[]
 ·have hT:(s=[])=True:=eq_true hs;refine Ap @hT ?_;refine hno ?_;rw[hnp,if_neg (λx=>x.1 hs)]
 have hT:(s=[])=False:=eq_false hs;have hl0:0<s.length:=Zx.2 hs;refine Ap @hT ?_;refine Ad (λc1=>?_) (λc1=>?_)
 ·refine Ae ?_;refine hno ?_;rw[hnp,if_neg];rintro⟨_,h2,h3,_⟩;rcases c1 with c1|c1
  ·omega
  ·exact h3 ⟨oM,oM⟩
 have h5:s.length<=5:=oM;have h48:¬ ((s.getD 0 0).toNat=48/\1<s.length):=λx=>c1 (.inr ⟨oM,oM⟩);refine Ae ?_;refine Aj (λi:Nat=>[U (.string (str s)),O,O,U (.int .i64 (Az (s.take i):Nat)),O,O,O,U (.int .i64 (s.length:Nat)),U (.int .i64 (i:Nat)),O,O]) (λi H=>H=h/\i<=s.length/\Fx (s.take i)) (λi=>s.length-i) 0 (by try simp only[Pf];exact⟨rfl,rfl⟩) ⟨rfl,oM,by intro b hb;simp at hb⟩ ?_;rintro i H ⟨rfl,hi,hd⟩;have hwi:=wS i;refine Ae ?_;refine Ad (λc2=>?_) (λc2=>?_);rotate_left
 ·have:i=s.length:=oM;subst this;rw[Z5]at hd ⊢;rw[hnp,if_pos ⟨hs,h5,h48,hd⟩]at hK;refine Ae ?_;exact hK
 have A5:i<s.length:=oM;have hlt:=G8 hd;have hpw:10^(s.take i).length<=10^5:=ZZ oM (by rw[Zn];omega);have hb:=(s.getD i 0).toNat_lt;refine Ae ?_;refine Ad (λc3=>?_) (λc3=>?_)
 ·refine Ae ?_;refine hno ?_;rw[hnp,if_neg];rintro⟨_,_,_,hn⟩;have:=Mr hn A5;have:=this.1;omega
 have hb1:48<=(s.getD i 0).toNat:=oM;have hb2:(s.getD i 0).toNat<=57:=oM;have hws:=Sy hb1;have hwc:IntKind.i64.wrap (((s.getD i 0).toNat-48:Nat):Int)=(((s.getD i 0).toNat-48:Nat):Int):=BC oM oM;have hwm:IntKind.i64.wrap (10*((Az (s.take i):Nat):Int))=((10*Az (s.take i):Nat):Int):=wN;have hwa:IntKind.i64.wrap (((10*Az (s.take i):Nat):Int)+(((s.getD i 0).toNat-48:Nat):Int))=((Az (s.take (i+1)):Nat):Int):=by rw[IP A5,BC oM oM];omega
 refine Le @hws @hwc @hwm @hwa @hwi ?_;exact Ag (i+1) oM sE ⟨rfl,oM,I5 hd A5 hb1 hb2⟩
def S310:Spec:=λargs h K=>∃ s,args=[.string (str s)]/\s.length<=1000000/\∀ h' (z:Int),Heap.le h h'->(∀n,E8 s=U n->z=n)->K (.tuple #[.int .i64 z,.bool (E8 s).isSome]) h'
theorem F310_ok {N:Num} {Γ:Ctx} [Ak Γ] (H184:Sat S184 (Γ 184)) (H85:Sat S85i (Γ 85)):Sat S310 (SF N Γ F310):=by
 rintro _ h K ⟨s,rfl,hsl,hK⟩;refine An rfl ?_;simp only[F310,Ze,Nat.reduceSub,Nat.reduceAdd];refine Ae ?_;refine Ad (λc0=>?_) (λc0=>?_)
 ·have e:E8 s=U (-1):=by unfold E8;rw[if_pos c0]
  have:=hK h (-1) (ZX h) (λn hn=>by rw[e]at hn;cases hn;rfl);rw[e]at this;refine Ae ?_;exact this
 have hnp:E8 s=if s≠[]/\s.length<=5/\¬ ((s.getD 0 0).toNat=48/\1<s.length)/\Fx s then U ((Az s:Nat):Int)else O:=by unfold E8;rw[if_neg c0]
 refine Ae ?_;refine Aa H184 ⟨s,rfl,oM,?_⟩;by_cases hf:CJ s/\s≠[];rotate_left
 ·rw[decide_eq_false hf];have e:E8 s=O:=by
   rw[hnp,if_neg];rintro⟨h1,h2,h3,h4⟩;exact hf ⟨⟨oM,h4⟩,h1⟩
  have:=hK h (if CJ s then Az s else 0:Nat) (ZX h) (λn hn=>by rw[e]at hn;cases hn);rw[e]at this;refine Ae ?_;exact this
 rw[decide_eq_true hf,if_pos hf.1];by_cases h6:s.length<6;rotate_left
 ·have hT:((s.length:Int)<6)=False:=eq_false oM;have e:E8 s=O:=by
   rw[hnp,if_neg];rintro⟨h1,h2,h3,h4⟩;omega
  have:=hK h (Az s:Nat) (ZX h) (λn hn=>by rw[e]at hn;cases hn);rw[e]at this;refine Ap @hT ?_;exact this
 have hT:((s.length:Int)<6)=True:=eq_true oM;have hlt:=G8 hf.1.2;have hpw:10^s.length<=10^6:=ZZ oM oM;have hiff:=Th hf.1.2 hf.2;refine Ap @hT ?_;refine Aa H85 ⟨((Az s:Nat):Int),rfl,oM,oM,λh1 hle1=>?_⟩;rw[Bi];have e:(E8 s).isSome=decide (Bo (Az s)=s):=by
  rw[hnp];by_cases q:Bo (Az s)=s
  ·rw[if_pos ⟨hf.2,oM,hiff.1 q,hf.1.2⟩,decide_eq_true q];rfl
  ·rw[if_neg (λx=>q (hiff.2 x.2.2.1)),decide_eq_false q];rfl
 have:=hK h1 (Az s:Nat) hle1 (λn hn=>by
  rw[hnp]at hn;split at hn
  ·cases hn;rfl
  ·cases hn)
 rw[e]at this;refine Ae ?_;exact this
structure Se where
 c:Nat->Int
 rs:List Rl
 w:Option Wa
def UC:List UInt8:=[111,107]
noncomputable def FG (s:List UInt8):Option Tg:=open Classical in if h:∃ t:Tg,¬t.bad/\Bc t=s then U h.choose else O
theorem Gb {s:List UInt8} {t:Tg} (h:FG s=U t):¬ t.bad/\Bc t=s:=by
 unfold FG at h;split at h
 ·rename_i q;cases h;exact q.choose_spec
 ·cases h
theorem Gc {s:List UInt8} (h:FG s=O):∀ t:Tg,¬t.bad->Bc t≠s:=by
 unfold FG at h;split at h
 ·cases h
 ·rename_i q;exact λt h1 h2=>q ⟨t,h1,h2⟩
theorem SI {s:List UInt8} {t:Tg} (h1:¬ t.bad) (h2:Bc t=s):FG s=U t:=by
 cases h:FG s with
 |none=>exact absurd h2 (Gc h t h1)
 |some u=>
  obtain⟨h3,h4⟩:=Gb h;rw[FZ h3 h1 (h4.trans h2.symm)]
noncomputable def HD (s:List UInt8):Option Rl:=open Classical in if h:∃ r:Rl,AY r=0/\Ba r=s then U h.choose else O
theorem GG {s:List UInt8} {r:Rl} (h:HD s=U r):AY r=0/\Ba r=s:=by
 unfold HD at h;split at h
 ·rename_i q;cases h;exact q.choose_spec
 ·cases h
theorem Jd {s:List UInt8} (h:HD s=O):∀ r:Rl,AY r=0->Ba r≠s:=by
 unfold HD at h;split at h
 ·cases h
 ·rename_i q;exact λt h1 h2=>q ⟨t,h1,h2⟩
structure Se.Ok (s:Se) (n:Nat):Prop where
 rl:s.rs.length<=n
 rf:∀ r∈s.rs,AY r=0
 w:∀ w,s.w=U w->w.Ok (150*n)/\w.AlJ/\w.KnL/\(∀k,k<4->-1<=w.wm k/\w.wm k<=255)/\∃ t,s.rs=w.rs++t
theorem Se.Ok.nm {s:Se} {n:Nat} (h:s.Ok n):∀ r∈s.rs,r.name.length<=12:=λr hr=>(Be.1 (h.rf r hr)).1.2.1
structure SP (X:Heap->Nat->Wa->Prop) (p:Nat) (s:Se) (F:Nat->Value) (rv:Value) (gs gr gw:Heap):Prop where
 ob:Cp gs p 24 F
 c:∀ k,k<22->F k=.int .i64 (s.c k)
 r:F 22=rv
 rs:BE AbG 6 gr rv s.rs
 w:match s.w with
  |none=>F 23=.pointer O
  |some w=>∃ pw,F 23=.pointer (U ⟨pw,0,O⟩)/\X gw pw w
def SO (X:Heap->Nat->Wa->Prop) (g:Heap) (p:Nat) (s:Se):Prop:=∃ F rv gs gr gw,Ps g [gs,gr,gw]/\SP X p s F rv gs gr gw
theorem SO.of {X:Heap->Nat->Wa->Prop} {g h H':Heap} {p:Nat} {s:Se} {F:Nat->Value} {rv:Value} {gs gr gw:Heap} (hg:Heap.le g h) (ps:Ps H' [rest g h,gs,gr,gw]) (sp:SP X p s F rv gs gr gw) :
  ∃ g',Av g h g' H'/\SO X g' p s:=⟨_,ps.toStep hg,F,rv,gs,gr,gw,(ps.drop 1).sub,sp⟩
theorem CA.step {T g h g' h':Heap} (hd:CA T g) (hT:Heap.le T h) (st:Av g h g' h'):Heap.le T h'/\CA T g':=by
 refine⟨λb o hb=>st.frame b o (hT b o hb) (hd b (by rw[hb];simp)),λb hb=>?_⟩;refine st.fresh b (λe=>hb (AC hT b e)) (hd b hb)
section
variable {X:Heap->Nat->Wa->Prop} {p:Nat} {s:Se} {F:Nat->Value} {rv:Value} {gs gr gw:Heap}
theorem SP.cell (h:SP X p s F rv gs gr gw) {H:Heap} (hl:Heap.le gs H) {j:Nat} (hj:j<24):H.cell ((⟨p,0,O⟩:Addr).add j)=U (F j):=(h.ob.le hl).cell hj
theorem SP.c22 (h:SP X p s F rv gs gr gw) {H:Heap} (hl:Heap.le gs H):H.cell ((⟨p,0,O⟩:Addr).add 22)=U rv:=by rw[h.cell hl oM,h.r]
theorem SP.row (h:SP X p s F rv gs gr gw) {H:Heap} (hl:Heap.le gs H):H.row ((⟨p,0,O⟩:Addr).add 0) 22=U #[.int .i64 (s.c 0),.int .i64 (s.c 1),.int .i64 (s.c 2),.int .i64 (s.c 3),.int .i64 (s.c 4),.int .i64 (s.c 5),.int .i64 (s.c 6),.int .i64 (s.c 7),.int .i64 (s.c 8),.int .i64 (s.c 9),.int .i64 (s.c 10),.int .i64 (s.c 11),.int .i64 (s.c 12),.int .i64 (s.c 13),.int .i64 (s.c 14),.int .i64 (s.c 15),.int .i64 (s.c 16),.int .i64 (s.c 17),.int .i64 (s.c 18),.int .i64 (s.c 19),.int .i64 (s.c 20),.int .i64 (s.c 21)]:=by
 have:=((Cp.le h.ob hl).row).row (i:=0) (n:=22) (by simp);rw[this,<-h.c 0 oM,<-h.c 1 oM,<-h.c 2 oM,<-h.c 3 oM,<-h.c 4 oM,<-h.c 5 oM,<-h.c 6 oM,<-h.c 7 oM,<-h.c 8 oM,<-h.c 9 oM,<-h.c 10 oM,<-h.c 11 oM,<-h.c 12 oM,<-h.c 13 oM,<-h.c 14 oM,<-h.c 15 oM,<-h.c 16 oM,<-h.c 17 oM,<-h.c 18 oM,<-h.c 19 oM,<-h.c 20 oM,<-h.c 21 oM];rfl
theorem SP.conf (h:SP X p s F rv gs gr gw) {gs':Heap} (k:Nat) (hk:k<22) (z:Int) (ho:Cp gs' p 24 (Dx F k (.int .i64 z))):SP X p { s with c:=Ez s.c k z } (Dx F k (.int .i64 z)) rv gs' gr gw where
 ob:=ho
 c:=λj hj=>by
  by_cases e:j=k
  ·subst e;rw[Bv];simp only[EH]
  ·rw[Af oM];simp only[EG e];exact h.c j hj
 r:=by rw[Af oM];exact h.r
 rs:=h.rs
 w:=by
  have:=h.w;cases e:s.w with
  |none=>rw[e]at this;dsimp only at this ⊢;rw[Af oM];exact this
  |some w=>rw[e]at this;dsimp only at this ⊢;rw[Af oM];exact this
end
noncomputable def Se.rule (s:Se) (l:List UInt8):Se×List UInt8:=match HD l with
 |none=>(s,Dj 4)
 |some r=>({ s with rs:=s.rs++[r] },UC)
def S312 (T:Heap):Spec:=λargs h K=>∃ g p s n l,args=[.pointer (U ⟨p,0,O⟩),.string (str l)]/\SO WO g p s/\Heap.le g h/\Heap.le T h/\CA T g/\s.Ok n/\n<=1000/\l.length<=1000000 /\
 ∀ g' h',Av g h g' h'->SO WO g' p (s.rule l).1->K (.string (str (s.rule l).2)) h'
theorem F312_ok {N:Num} {Γ:Ctx} [Ak Γ] {T:Heap} (H172:Sat (S172 T N) (Γ 172)) (H307:Sat (S307 T N) (Γ 307)):Sat (S312 T) (SF N Γ F312):=by
 rintro _ h K ⟨g,p,s,n,l,rfl,hS,hg,hT,hdT,hok,hn,hll,hK⟩;have hrl:=hok.rl;refine An rfl ?_;simp only[F312,Ze,Nat.reduceSub,Nat.reduceAdd];unfold Se.rule at hK;refine Ae ?_;cases hr:HD l with
 |none=>
  rw[hr]at hK;refine Aa H172 ⟨l,rfl,hll,hT,λr h1 h2=>absurd h2 (Jd hr r h1),λ_ h1 hle1=>?_⟩;refine AH @FW.eq_1 @Aq ?_;refine Aa H307 ⟨4,by rw[Aq];rfl,oM,oM,hT.trans hle1,λh2 hle2=>?_⟩;refine Ae ?_;exact hK g h2 (Av.more hg (hle1.trans hle2)) hS
 |some r=>
  rw[hr]at hK;obtain⟨q1,q2⟩:=GG hr;refine Aa H172 ⟨l,rfl,hll,hT,λr' h1 h2 h3 hle1=>?_,λe=>absurd q2 (e r q1)⟩;obtain rfl:r'=r:=HZ h1 q1 (h2.trans q2.symm);have hnm:r'.name.length<=12:=(Be.1 q1).1.2.1;obtain⟨F,rv,gs,gr,gw,hps,hw⟩:=hS;have Q1:=(hps.rest hg).up hle1;have C22:=hw.c22 (Q1.lt 1 rfl);have O1:=hw.rs.one;refine AH @FW.eq_1 @C22 ?_;refine Bg AbG 6 AbD [r'] rfl rfl (by simp[maxLen]) λx1 b1 h2 hle2 hb1 hx1 hS1=>?_;have Q2:=Q1.up hle2;have O2:=hS1.one;refine Cb (AE hle2) ?_;refine Ek O2.1 O2.2 O1.1 O1.2 ?_;refine Cc (enc:=AbG) (sz:=6) (g:=gr) (l:=s.rs) (l':=[r']) AbD (by simp[AbG,one]) hw.rs (Q2.lt 2 rfl) (BE.sl AbD (hS1.le (Au _ _))) (by simp;omega) λv4 h4 gr' hS4 St4 e1 e2 e3=>?_;have Q4:=Q2.step 2 rfl St4;have O3:=hS4.one;refine AH O3.1 O3.2 ?_;refine BO hw.ob (Q4.lt 1 rfl) 22 O3.2 O3.1 oM λgs' h5 st5 ho5=>?_;have Q5:=Q4.step 1 rfl st5;refine Ae ?_;have hsp:SP WO p { s with rs:=s.rs++[r'] } (Dx F 22 v4) v4 gs' gr' gw:=by
   refine⟨ho5,λk hk=>by rw[Af oM];exact hw.c k hk,Bv,hS4,?_⟩;have:=hw.w;cases e:s.w with
   |none=>rw[e]at this;dsimp only at this ⊢;rw[Af oM];exact this
   |some w=>rw[e]at this;dsimp only at this ⊢;rw[Af oM];exact this
  obtain⟨g6,q6,q7⟩:=SO.of hg Q5 hsp;exact hK g6 _ q6 q7
def Se.start (s:Se):Se×List UInt8:=if CP s.c s.rs=0 then({ s with w:=U (newW s.c s.rs) },UC)else(s,Dj (CP s.c s.rs))
theorem QL:∀ (l:List Rl) (AN:List (List UInt8)),EP AN l<=7:=by
 intro l;induction l with
 |nil=>intro AN;simp[EP]
 |cons r l ih=>
  intro AN;rw[Fd];split
  ·unfold AY;repeat' split
   all_goals omega
  ·split
   ·omega
   ·exact ih _
theorem La (c:Nat->Int) (rs:List Rl):CP c rs<=7:=by
 unfold CP
 repeat' split
 all_goals first|omega|exact QL _ _
theorem SP.watch {X:Heap->Nat->Wa->Prop} {p:Nat} {s:Se} {F:Nat->Value} {rv:Value} {gs gr gw gs' gw':Heap} (h:SP X p s F rv gs gr gw) {w:Wa} {pw:Nat} (ho:Cp gs' p 24 (Dx F 23 (.pointer (U ⟨pw,0,O⟩)))) (hx:X gw' pw w):SP X p { s with w:=U w } (Dx F 23 (.pointer (U ⟨pw,0,O⟩))) rv gs' gr gw' where
 ob:=ho
 c:=λj hj=>by rw[Af oM];exact h.c j hj
 r:=by rw[Af oM];exact h.r
 rs:=h.rs
 w:=⟨pw,Bv,hx⟩
def S323 (T:Heap) (N:Num):Spec:=λargs h K=>∃ g p s n,args=[.pointer (U ⟨p,0,O⟩)]/\SO WO g p s/\Heap.le g h/\Heap.le T h/\CA T g/\s.Ok n/\n<=1000 /\
 ∀ g' h',Av g h g' h'->SO WO g' p s.start.1->K (.string (str s.start.2)) h'
theorem F323_ok {N:Num} {Γ:Ctx} [Ak Γ] {T:Heap} (H266:Sat (S266 N) (Γ 266)) (H307:Sat (S307 T N) (Γ 307)):Sat (S323 T N) (SF N Γ F323):=by
 rintro _ h K ⟨g,p,s,n,rfl,hS,hg,hT,hdT,hok,hn,hK⟩;have hrl:=hok.rl;refine An rfl ?_;simp only[F323,Ze,Nat.reduceSub,Nat.reduceAdd];obtain⟨F,rv,gs,gr,gw,hps,hw⟩:=id hS;have Q0:=hps.rest hg;have C22:=hw.c22 (Q0.lt 1 rfl);have CR:=hw.row (Q0.lt 1 rfl);unfold Se.start at hK;have hwl:=La s.c s.rs;refine AH @C22 @CR ?_;by_cases hf:CP s.c s.rs=0
 ·rw[if_pos hf]at hK;refine Aa H266 ⟨s.c,rv,s.rs,rfl,BE.sl AbD (hw.rs.le (Q0.lt 2 rfl)),oM,λr hr=>by have:=hok.nm r hr;omega,λe=>absurd hf e,λ_ pw gw' h1 st1 hW=>?_⟩;have Q1:Ps h1 [rest g h,gs,gr,gw']:=by
   have q:=Q0.take 3;exact(q.up st1.le0).add st1.le λx hx=>It st1 (q.1 x hx)
  refine Ae ?_;refine BO (x:=.pointer (U ⟨pw,0,O⟩)) hw.ob (Q1.lt 1 rfl) 23 rfl rfl oM λgs' h2 st2 ho2=>?_;have Q2:=Q1.step 1 rfl st2;refine Ae ?_;obtain⟨g6,q6,q7⟩:=SO.of hg Q2 (hw.watch ho2 hW);exact hK g6 _ q6 q7
 ·rw[if_neg hf]at hK;refine Aa H266 ⟨s.c,rv,s.rs,rfl,BE.sl AbD (hw.rs.le (Q0.lt 2 rfl)),oM,λr hr=>by have:=hok.nm r hr;omega,λ_ h1 hle1=>?_,λe=>absurd e hf⟩;obtain⟨f,hff⟩:=Aa2 hf;rw[hff]at hK hwl ⊢;refine Ap @Aq ?_;refine Aa H307 ⟨f+1,by rw[Aq],oM,oM,hT.trans hle1,λh2 hle2=>?_⟩;refine Ae ?_;exact hK g h2 (Av.more hg (hle1.trans hle2)) hS
end Go.Cw
namespace Go.Cw
open Go
def FV (n:List Int):Prop:=n.getD 0 0<0\/3<n.getD 0 0\/n.getD 1 0<0\/3<n.getD 1 0
instance (n:List Int):Decidable (FV n):=by unfold FV;infer_instance
def Se.set (s:Se) (n:List Int):Se:={ s with c:=Ez (Ez (Ez (Ez (Ez (Ez s.c 0 (n.getD 0 0)) 1 (n.getD 1 0)) 2 (n.getD 2 0)) 3 (n.getD 3 0)) 4 (n.getD 4 0)) 5 (n.getD 5 0) }
def Se.at_ (s:Se) (n:List Int):Se:={ s with c:=Ez s.c (6+(4*(n.getD 0 0).toNat+(n.getD 1 0).toNat)) (n.getD 2 0) }
def Se.ahead (s:Se) (w:List UInt8) (n:List Int):Option (Se×List UInt8):=
 if w=[115,101,116]then U (s.set n,UC)
 else if w=[97,116]then(if FV n then U (s,Dj 1)else U (s.at_ n,UC))
 else if w=[115,116,97,114,116]then U s.start else O
def S315 (T:Heap) (N:Num):Spec:=λargs h K=>∃ g p s k w nv n,args=[.pointer (U ⟨p,0,O⟩),.string (str w),nv]/\SO WO g p s/\Heap.le g h/\Heap.le T h/\CA T g/\s.Ok k/\k<=1000/\Sl DB h nv n/\(w=[115,101,116]->n.length=6)/\(w=[97,116]->n.length=3) /\
 (∀s' x,s.ahead w n=U (s',x)->∀ g' h',Av g h g' h'->SO WO g' p s'->K (.tuple #[.string (str x),.bool true]) h')/\(s.ahead w n=O->K (.tuple #[.string (str []),.bool false]) h)
theorem F315_ok {N:Num} {Γ:Ctx} [Ak Γ] {T:Heap} (H307:Sat (S307 T N) (Γ 307)) (H323:Sat (S323 T N) (Γ 323)):Sat (S315 T N) (SF N Γ F315):=by
 rintro _ h K ⟨g,p,s,k,w,nv,n,rfl,hS,hg,hT,hdT,hok,hk,hn,hn6,hn3,hK1,hK2⟩;refine An rfl ?_;simp only[F315,Ze,Nat.reduceSub,Nat.reduceAdd];have R:=hn.rules1 (λz=>.int .i64 z) (λ_=>rfl) 0;unfold Se.ahead at hK1 hK2;refine Ae ?_;refine Ad (λc1=>?_) (λc1=>?_)
 ·have h6:=hn6 c1;have hK:=hK1 _ _ (if_pos c1);obtain⟨F,rv,gs,gr,gw,hps,hw⟩:=hS;have Q0:=hps.rest hg;rw[h6]at R;refine Ap @R ?_;rw[AI];refine BO (x:=.int .i64 (n.getD 0 0)) hw.ob (Q0.lt 1 rfl) 0 rfl rfl oM λg1 h1 st1 ho1=>?_;have Q1:=Q0.step 1 rfl st1;refine Ae ?_;rw[AI];refine BO (x:=.int .i64 (n.getD 1 0)) ho1 (Q1.lt 1 rfl) 1 rfl rfl oM λg2 h2 st2 ho2=>?_;have Q2:=Q1.step 1 rfl st2;refine Ae ?_;rw[AI];refine BO (x:=.int .i64 (n.getD 2 0)) ho2 (Q2.lt 1 rfl) 2 rfl rfl oM λg3 h3 st3 ho3=>?_;have Q3:=Q2.step 1 rfl st3;refine Ae ?_;rw[AI];refine BO (x:=.int .i64 (n.getD 3 0)) ho3 (Q3.lt 1 rfl) 3 rfl rfl oM λg4 h4 st4 ho4=>?_;have Q4:=Q3.step 1 rfl st4;refine Ae ?_;rw[AI];refine BO (x:=.int .i64 (n.getD 4 0)) ho4 (Q4.lt 1 rfl) 4 rfl rfl oM λg5 h5 st5 ho5=>?_;have Q5:=Q4.step 1 rfl st5;refine Ae ?_;rw[AI];refine BO (x:=.int .i64 (n.getD 5 0)) ho5 (Q5.lt 1 rfl) 5 rfl rfl oM λg6 h6 st6 ho6=>?_;have Q6:=Q5.step 1 rfl st6;refine Ae ?_;obtain⟨g7,q6,q7⟩:=SO.of hg Q6 ((((((hw.conf 0 oM _ ho1).conf 1 oM _ ho2).conf 2 oM _ ho3).conf 3 oM _ ho4).conf 4 oM _ ho5).conf 5 oM _ ho6);exact hK g7 _ q6 q7
 rw[if_neg c1]at hK1 hK2;refine Ae ?_;refine Ad (λc2=>?_) (λc2=>?_)
 ·have h3:=hn3 c2;rw[if_pos c2]at hK1;rw[h3]at R;refine Ap @R ?_;refine Ad (λc3=>?_) (λc3=>?_)
  ·have hb:FV n:=by unfold FV;omega
   have hK:=hK1 _ _ (if_pos hb);refine Ae ?_;refine Aa H307 ⟨1,by rw[Aq];rfl,oM,oM,hT,λh2 hle2=>?_⟩;refine Ae ?_;exact hK g h2 (Av.more hg hle2) hS
  ·have hb:¬ FV n:=by unfold FV;omega
   have hK:=hK1 _ _ (if_neg hb);unfold FV at hb;obtain⟨F,rv,gs,gr,gw,hps,hw⟩:=hS;have Q0:=hps.rest hg;obtain⟨a,ha⟩:∃ a:Nat,n.getD 0 0=a:=⟨(n.getD 0 0).toNat,oM⟩
   obtain⟨b,hb2⟩:∃ b:Nat,n.getD 1 0=b:=⟨(n.getD 1 0).toNat,oM⟩
   unfold Se.at_ at hK;rw[ha,hb2]at hb;rw[ha,hb2,Aaa,Aaa]at hK;refine CS @R @ha @hb2 ?_;rw[AI,AI,AI,show 0+6+a*4+b=6+(4*a+b) by omega];refine BO (x:=.int .i64 (n.getD 2 0)) hw.ob (Q0.lt 1 rfl) (6+(4*a+b)) rfl rfl oM λg1 h1 st1 ho1=>?_;have Q1:=Q0.step 1 rfl st1;refine Ae ?_;obtain⟨g7,q6,q7⟩:=SO.of hg Q1 (hw.conf _ oM _ ho1);exact hK g7 _ q6 q7
 rw[if_neg c2]at hK1 hK2;refine Ae ?_;refine Ad (λc3=>?_) (λc3=>?_)
 ·have hK:=hK1 s.start.1 s.start.2 (if_pos c3);refine Ae ?_;refine Aa H323 ⟨g,p,s,k,rfl,hS,hg,hT,hdT,hok,hk,λg1 h1 st1 hS1=>?_⟩;refine Ae ?_;exact hK g1 h1 st1 hS1
 ·have hK:=hK2 (if_neg c3);refine Ae ?_;exact hK
theorem Se.same {s:Se} {w:Wa} (h:s.w=U w):({ s with w:=U w }:Se)=s:=by cases s;dsimp only at h;subst h;rfl
theorem SP.upw {X:Heap->Nat->Wa->Prop} {p:Nat} {s:Se} {F:Nat->Value} {rv:Value} {gs gr gw gw':Heap} (h:SP X p s F rv gs gr gw) {w':Wa} {pw:Nat} (e:F 23=.pointer (U ⟨pw,0,O⟩)) (hx:X gw' pw w'):SP X p { s with w:=U w' } F rv gs gr gw':=
 ⟨h.ob,h.c,h.r,h.rs,pw,e,hx⟩
theorem SP.ptr {X:Heap->Nat->Wa->Prop} {p:Nat} {s:Se} {F:Nat->Value} {rv:Value} {gs gr gw:Heap} (h:SP X p s F rv gs gr gw) {w:Wa} (e:s.w=U w):∃ pw,F 23=.pointer (U ⟨pw,0,O⟩)/\X gw pw w:=by
 have:=h.w;rw[e]at this;exact this
def Wa.feedT (w:Wa) (r:Int) (b:List UInt8):Wa×List UInt8:=if Cr r b=0 then(w.feed r.toNat b,Bo (w.feedN r.toNat b))else(w,Dj (Cr r b))
def Jw (n:List Int) (b:List UInt8):Fr:=⟨1,[⟨n.getD 1 0,n.getD 2 0,n.getD 3 0,b⟩],0⟩
noncomputable def Wa.readT (w:Wa) (n:List Int) (t:List UInt8):Wa×List UInt8:=match FG t with
 |none=>(w,Dj 4)
 |some tg=>if(Jw n (AD tg)).fault=0 then w.feedT (n.getD 0 0) (Jw n (AD tg)).bytes else(w,Dj (Jw n (AD tg)).fault)
theorem Io (r:Int) (b:List UInt8):Cr r b<=2:=by
 unfold Cr
 repeat' split
 all_goals omega
theorem Fr.fault_le (f:Fr):f.fault<=3:=by
 unfold AbX
 repeat' split
 all_goals omega
theorem Il (w:Wa) (r:Nat) (b:List UInt8):w.feedN r b<=(w.ln r).1.length+b.length:=by
 have:=Kp _ ((w.ln r).1++b) (Yq _);rw[Zk]at this;exact this
theorem Wa.Ok.ln_le {w:Wa} {fed:Nat} (h:w.Ok fed) {r:Nat} (hr:r<4):(w.ln r).1.length<=fed:=by
 have:=h.sum;rcases(by omega:r=0\/r=1\/r=2\/r=3)with rfl|rfl|rfl|rfl<;>omega
theorem J0 {n:List Int} {b:List UInt8} (h:(Jw n b).fault=0):(Jw n b).bytes.length<=48:=by
 have:=Fr.body_len h;unfold Fr.bytes Fr.front;simp only[Zk,Y5,ZR];omega
def S318 (T:Heap) (N:Num):Spec:=λargs h K=>∃ g p s k w nv n t,args=[.pointer (U ⟨p,0,O⟩),nv,.string (str t)]/\SO WO g p s/\s.w=U w/\Heap.le g h/\Heap.le T h/\CA T g/\s.Ok k/\k<=110/\Sl DB h nv n/\n.length=4/\t.length<=1000000 /\
 ∀ g' h',Av g h g' h'->SO WO g' p { s with w:=U (w.readT n t).1 }->K (.string (str (w.readT n t).2)) h'
theorem F318_ok {N:Num} {Γ:Ctx} [Ak Γ] {T:Heap} (H165:Sat (S165 T N) (Γ 165)) (H307:Sat (S307 T N) (Γ 307)) (H162:Sat (S162 N) (Γ 162)) (H18:Sat (S18 N) (Γ 18)) (H271:Sat (S271 N) (Γ 271)) (H316:Sat (S316 T N) (Γ 316)):Sat (S318 T N) (SF N Γ F318):=by
 rintro _ h K ⟨g,p,s,k,w,nv,n,t,rfl,hS,hsw,hg,hT,hdT,hok,hk,hn,hn4,htl,hK⟩;obtain⟨hwok,hwA,hwK,hwm,hwr⟩:=hok.w w hsw;refine An rfl ?_;simp only[F318,Ze,Nat.reduceSub,Nat.reduceAdd];unfold Wa.readT at hK;refine Ae ?_;cases ht:FG t with
 |none=>
  rw[ht]at hK;dsimp only at hK;rw[Se.same hsw]at hK;refine Aa H165 ⟨t,rfl,htl,hT,λu h1 h2=>absurd h2 (Gc ht u h1),λ_ h1 hle1=>?_⟩;refine CS @Co.eq_1 @Tg.zero.eq_1 @Aq ?_;refine Aa H307 ⟨4,by rw[Aq];rfl,oM,oM,hT.trans hle1,λh2 hle2=>?_⟩;refine Ae ?_;exact hK g h2 (Av.more hg (hle1.trans hle2)) hS
 |some tg=>
 rw[ht]at hK;dsimp only at hK;obtain⟨q1,q2⟩:=Gb ht;refine Aa H165 ⟨t,rfl,htl,hT,λu h1 h2 h3 hle3=>?_,λe=>absurd q2 (e tg q1)⟩;obtain rfl:u=tg:=FZ h1 q1 (h2.trans q2.symm);refine Ap @Co.eq_1 ?_;refine Aa H162 ⟨u,rfl,λe=>absurd e q1,λ_ h4 hle4=>?_⟩;have hle04:=hle3.trans hle4;have R:=(hn.le hle04).rules1 (λz=>.int .i64 z) (λ_=>rfl) 0;rw[hn4]at R;refine Ap @R ?_;refine Bg AbB 4 (λ_=>rfl) [⟨n.getD 1 0,n.getD 2 0,n.getD 3 0,AD u⟩] rfl rfl (by simp[maxLen]) λx5 b5 h5 hle5 hb5 hx5 hS5=>?_;have O5:=hS5.one;have hle05:=hle04.trans hle5;refine AH O5.1 O5.2 ?_;refine Aa H18 ⟨_,Jw n (AD u),rfl,⟨_,rfl,BE.sl (λ_=>rfl) (hS5.le (Au _ _))⟩,λh6 hle6=>?_⟩;have hle06:=hle05.trans hle6;have hfl:=Fr.fault_le (Jw n (AD u));have hbl:=λe=>J0 (n:=n) (b:=AD u) e;generalize Jw n (AD u)=f at *;by_cases hf:f.fault=0;rotate_left
 ·rw[if_neg hf]at hK;dsimp only at hK;rw[Se.same hsw]at hK;obtain⟨fe,hfe⟩:=Aa2 hf;rw[hfe]at hK hfl ⊢;refine Ap @Aq ?_;refine Aa H307 ⟨fe+1,by rw[Aq],oM,oM,hT.trans hle06,λh7 hle7=>?_⟩;refine Ae ?_;exact hK g h7 (Av.more hg (hle06.trans hle7)) hS
 rw[if_pos hf]at hK;rw[hf,if_pos rfl,AP];have hb48:=hbl hf;obtain⟨F,rv,gs,gr,gw,hps,hw⟩:=hS;have Q:=(hps.rest hg).up hle06;obtain⟨pw,e23,hW⟩:=hw.ptr hsw;have C23:=hw.cell (Q.lt 1 rfl) (j:=23) oM;rw[e23]at C23;have R6:=(hn.le hle06).rules1 (λz=>.int .i64 z) (λ_=>rfl) 0;rw[hn4]at R6;unfold Wa.feedT at hK;have hff:=Io (n.getD 0 0) f.bytes;refine AH @C23 @R6 ?_;by_cases hF:Cr (n.getD 0 0) f.bytes=0;rotate_left
 ·rw[if_neg hF]at hK;dsimp only at hK;obtain⟨g7,q6,q7⟩:=SO.of hg Q hw;rw[Se.same hsw]at hK;refine Aa H271 ⟨gw,pw,w,_,n.getD 0 0,f.bytes,rfl,hW,Q.lt 3 rfl,hwok,λe=>absurd e hF,λ_=>?_,λe=>absurd e hF⟩;refine Ae ?_;refine Aa H316 ⟨0,_,rfl,oM,oM,oM,hT.trans hle06,λh8 hle8=>?_⟩;unfold D9;rw[if_neg hF];refine Ae ?_;exact hK g7 h8 (q6.trans (Av.more q6.le hle8)) q7
 rw[if_pos hF]at hK;dsimp only at hK;obtain⟨r1,r2,r3⟩:=Im hF;have hfn:=Il w (n.getD 0 0).toNat f.bytes;have hln:=hwok.ln_le (r:=(n.getD 0 0).toNat) oM;refine Aa H271 ⟨gw,pw,w,_,n.getD 0 0,f.bytes,rfl,hW,Q.lt 3 rfl,hwok,λ_=>by omega,λe=>absurd hF e,λ_ gw' h7 st7 hW7=>?_⟩;have Q7:=Q.step 3 rfl st7;obtain⟨g8,q6,q7⟩:=SO.of hg Q7 (hw.upw e23 hW7);refine Ae ?_;refine Aa H316 ⟨_,0,by rw[AP],oM,oM,oM,(hdT.step hT q6).1,λh8 hle8=>?_⟩;unfold D9;rw[if_pos rfl,Bi];refine Ae ?_;exact hK g8 h8 (q6.trans (Av.more q6.le hle8)) q7
theorem UO (T:List UInt8->Nat) (score:Nat) (s was:List UInt8) (hs:1<=score) (l:List (List UInt8)):Jy l->∃ best most,E7 T score s was l best most:=by
 induction l using BG with
 |h0=>intro _;exact⟨_,_,E7.nil⟩
 |hs l p ih=>
  intro ho;obtain⟨h1,_,h2⟩:=Aa4.1 ho;obtain⟨best,most,hf⟩:=ih h1;have hord:∀ q∈l,Op.bytesLess q p=true:=λq hq=>h2 q hq p (by simp);by_cases hc:Cf s p
  ·by_cases hx:most<(T p:Int)\/((T p:Int)=most/\(score:Int)<=T p/\p=was)
   ·exact⟨_,_,hf.take hc hord hs hx⟩
   ·exact⟨_,_,hf.leave hc hord hx⟩
  ·exact⟨_,_,hf.skip hc⟩
theorem S3 {w n:Nat} {E:List (List Si)} (hn:1<=n) {span score:Nat} (hs:1<=score) {s:List UInt8} (e:Nat):Dw w n E span score e s (MH w n E span score s e) (DF w n E span score s e):=by
 obtain⟨best,most,hf⟩:=UO (λp=>B9 w n E span s p e) score s (MH w n E span score s e) hs (AX E) (Eo _);have hp:=hf.par hs λp _ h0=>by
  obtain⟨l,hl,hs⟩:=(GY hn h0).2;exact(CG E p).2 ⟨l,Z4 hl,hs⟩
 rw[L8 hp];exact hp
theorem S4 {w:Wa} {fed:Nat} (h:w.Ok fed) (s:List UInt8) (e:Nat):DF (w.c 2).toNat (w.c 3).toNat w.E (w.c 4).toNat (w.c 5).toNat s e=[]\/BS (DF (w.c 2).toNat (w.c 3).toNat w.E (w.c 4).toNat (w.c 5).toNat s e)≠O:=by
 have h3:=h.c3;have h5:=h.c5;rcases S3 (w:=(w.c 2).toNat) (E:=w.E) (span:=(w.c 4).toNat) (s:=s) (show 1<=(w.c 3).toNat by omega) (show 1<=(w.c 5).toNat by omega) e with⟨q,_⟩|⟨M,h1,h2,_⟩
 ·exact .inl q
 ·refine .inr λe0=>?_;have:=(Di _).2 e0;have hh:=h2.2;have hh1:=h2.1;omega
theorem LM (need:Nat) (cnt:Int->Nat) (st:Int->Int) (n:Nat):-1<=Bf need cnt st n/\Bf need cnt st n<=n:=by
 rcases NT need cnt st n with⟨h,_⟩|⟨h1,h2,_⟩<;>omega
theorem Sv (w:Wa) (s:List UInt8) (e:Int):-1<=(w.whr s e).1/\(w.whr s e).1<=8/\(w.whr s e).2<=5:=by
 unfold Wa.whr Cw.whr;split
 ·dsimp only;omega
 ·split
  ·dsimp only;unfold Iy Xi;exact⟨(LM _ _ _ 8).1,(LM _ _ _ 8).2,oM⟩
  ·dsimp only;omega
noncomputable def Wa.findT (w:Wa) (word t:List UInt8) (z:Int):List UInt8:=match FG t with
 |none=>Dj 4
 |some tg=>if word=[105,110]then(if(w.par (AD tg) z).2=0 then Jv (w.par (AD tg) z).1 else Dj (w.par (AD tg) z).2)
  else if(w.whr (AD tg) z).2=0 then(if(w.whr (AD tg) z).1<0 then[45]else K5 (w.whr (AD tg) z).1)else Dj (w.whr (AD tg) z).2
theorem Vg (w:Wa) (s:List UInt8) (e:Int):(w.par s e).2=(w.whr s e).2:=by
 unfold Wa.par;split
 ·rfl
 ·dsimp only;omega
def S320 (T:Heap) (N:Num):Spec:=λargs h K=>∃ g p s k w word t z,args=[.pointer (U ⟨p,0,O⟩),.string (str word),.string (str t),.int .i64 z]/\SO WO g p s/\s.w=U w/\Heap.le g h/\Heap.le T h/\s.Ok k/\t.length<=1000000 /\
 ∀ h',Heap.le h h'->K (.string (str (w.findT word t z))) h'
theorem F320_ok {N:Num} {Γ:Ctx} [Ak Γ] {T:Heap} (H165:Sat (S165 T N) (Γ 165)) (H307:Sat (S307 T N) (Γ 307)) (H162:Sat (S162 N) (Γ 162)) (H286:Sat (S286 N) (Γ 286)) (H325:Sat (S325 T) (Γ 325)) (H274:Sat (S274 N) (Γ 274)) (H176:Sat (S176i T) (Γ 176)):Sat (S320 T N) (SF N Γ F320):=by
 rintro _ h K ⟨g,p,s,k,w,word,t,z,rfl,hS,hsw,hg,hT,hok,htl,hK⟩;refine An rfl ?_;simp only[F320,Ze,Nat.reduceSub,Nat.reduceAdd];unfold Wa.findT at hK;refine Ae ?_;cases ht:FG t with
 |none=>
  rw[ht]at hK;dsimp only at hK;refine Aa H165 ⟨t,rfl,htl,hT,λu h1 h2=>absurd h2 (Gc ht u h1),λ_ h1 hle1=>?_⟩;refine CS @Co.eq_1 @Tg.zero.eq_1 @Aq ?_;refine Aa H307 ⟨4,by rw[Aq];rfl,oM,oM,hT.trans hle1,λh2 hle2=>?_⟩;refine Ae ?_;exact hK h2 (hle1.trans hle2)
 |some tg=>
 rw[ht]at hK;dsimp only at hK;obtain⟨q1,q2⟩:=Gb ht;refine Aa H165 ⟨t,rfl,htl,hT,λu h1 h2 h3 hle3=>?_,λe=>absurd q2 (e tg q1)⟩;obtain rfl:u=tg:=FZ h1 q1 (h2.trans q2.symm);refine Ap @Co.eq_1 ?_;refine Aa H162 ⟨u,rfl,λe=>absurd e q1,λ_ h4 hle4=>?_⟩;have hle04:=hle3.trans hle4;obtain⟨F,rv,gs,gr,gw,hps,hw⟩:=hS;have Q:=(hps.rest hg).up hle04;obtain⟨pw,e23,hW⟩:=hw.ptr hsw;have C23:=hw.cell (Q.lt 1 rfl) (j:=23) oM;rw[e23]at C23;obtain⟨w1,w2,w3⟩:=Sv w (AD u) z;have hp2:=Vg w (AD u) z;refine Ae ?_;refine Ad (λc1=>?_) (λc1=>?_)
 ·rw[if_pos c1]at hK;refine Ap @C23 ?_;refine Aa H286 ⟨gw,pw,w,AD u,z,rfl,hW,Q.lt 3 rfl,?_⟩;by_cases hf:(w.par (AD u) z).2=0
  ·rw[if_pos hf]at hK;rw[hf,AP];refine Ae ?_;refine Aa H325 ⟨_,rfl,hT.trans hle04,λh5 hle5=>?_⟩;refine Ae ?_;exact hK h5 (hle04.trans hle5)
  ·rw[if_neg hf]at hK;obtain⟨fe,hfe⟩:=Aa2 hf;rw[hfe]at hK ⊢;refine Ap @Aq ?_;refine Aa H307 ⟨fe+1,by rw[Aq],oM,oM,hT.trans hle04,λh7 hle7=>?_⟩;refine Ae ?_;exact hK h7 (hle04.trans hle7)
 rw[if_neg c1]at hK;refine Ap @C23 ?_;refine Aa H274 ⟨gw,pw,w,AD u,z,rfl,hW,Q.lt 3 rfl,?_⟩;by_cases hf:(w.whr (AD u) z).2=0
 ·rw[if_pos hf]at hK;rw[hf,AP];refine Ae ?_;refine Ad (λc2=>?_) (λc2=>?_)
  ·rw[if_pos c2]at hK;refine Ae ?_;exact hK h4 hle04
  ·rw[if_neg c2]at hK;refine Ae ?_;refine Aa H176 ⟨_,rfl,oM,oM,hT.trans hle04,λh5 hle5=>?_⟩;refine Ae ?_;exact hK h5 (hle04.trans hle5)
 ·rw[if_neg hf]at hK;obtain⟨fe,hfe⟩:=Aa2 hf;rw[hfe]at hK w3 ⊢;refine Ap @Aq ?_;refine Aa H307 ⟨fe+1,by rw[Aq],oM,oM,hT.trans hle04,λh7 hle7=>?_⟩;refine Ae ?_;exact hK h7 (hle04.trans hle7)
theorem HW (s:List UInt8):(Jv s).length<=100:=by
 unfold Jv;cases h:BS s with
 |none=>simp
 |some t=>
  obtain⟨a,ha,k1,k2,f1,f2,s1,s2,c1,c2,r1,r2⟩:=Tg.good (Gd h);obtain⟨_,p1,p2,p3,p4,_⟩:=AW ha;dsimp only;unfold Bc Ld EJ;rw[ha];have l1:(Dh t.kind).length<=6:=by
   unfold Dh
   repeat' split
   all_goals simp
  have l2:=AG 19 (n:=t.filter.toNat) oM oM;have l3:=H9 (n:=t.company.toNat) (w:=a.cd) oM oM;have l4:=H9 (n:=t.ref.toNat) (w:=a.rd) oM oM;have l5:=AG 19 (n:=t.serial.toNat) oM oM;simp only[Option.getD_some,Zk,Y5];omega
theorem Wa.al_mem {w:Wa} (h:w.AlJ):∀ a∈w.al,∃(i e:Nat) (t:List UInt8),a=⟨i,e,t⟩/\i<w.rs.length/\e<w.E.length:=by
 intro a ha;rw[h]at ha;unfold Wa.alN Wa.alE Wa.lookR at ha;simp only[List.mem_flatMap,Zc,Yu,List.mem_filter]at ha;obtain⟨e,he,i,hi,t,_,rfl⟩:=ha;exact⟨i,e,t,rfl,hi,he⟩
def B7:List (List UInt8)->List UInt8
 |[]=>[]
 |[a]=>a
 |a::b::r=>a++[44,32]++B7 (b::r)
theorem IV:∀ (l:List (List UInt8)),(∀x∈l,x.length<=200)->(B7 l).length<=202*l.length
 |[],_=>by simp[B7]
 |[a],h=>by have:=h a (by simp);simp[B7];omega
 |a::b::r,h=>by
  have h1:=h a (by simp);have h2:=IV (b::r) λx hx=>h x (Yb _ hx);simp only[B7,Zk,Y5,ZR]at h2 ⊢;omega
theorem Ki:∀ (l:List (List UInt8)) (x:List UInt8),l≠[]->B7 (l++[x])=B7 l++[44,32]++x
 |[],_,h=>absurd rfl h
 |[a],x,_=>by simp[B7]
 |a::b::r,x,_=>by
  have:=Ki (b::r) x (by simp);simp only[Y7,B7]at this ⊢;rw[this];simp
def E5 (rs:List Rl) (a:Al):List UInt8:=(rs.getD a.rule.toNat default).name++[32]++Bo a.epoch.toNat++[32]++Jv a.tag
def Xq (rs:List Rl) (l:List Al):List UInt8:=if l=[]then[45]else B7 (l.map (E5 rs))
def S326:Spec:=λargs h K=>∃ v l,args=[v,.string (str [44,32])]/\Sl AB h v l/\l≠[]/\(B7 l).length<=100000000/\l.length<=1000000/\∀ h',Heap.le h h'->K (.string (str (B7 l))) h'
def S319 (T:Heap):Spec:=λargs h K=>∃ g p s k w,args=[.pointer (U ⟨p,0,O⟩)]/\SO WO g p s/\s.w=U w/\Heap.le g h/\Heap.le T h/\s.Ok k /\
 ∀ h',Heap.le h h'->K (.string (str (Xq s.rs w.al))) h'
theorem F319_ok {N:Num} {Γ:Ctx} [Ak Γ] {T:Heap} (H283:Sat S283 (Γ 283)) (H176:Sat (S176i T) (Γ 176)) (H325:Sat (S325 T) (Γ 325)) (H326:Sat S326 (Γ 326)):Sat (S319 T) (SF N Γ F319):=by
 rintro _ h K ⟨g,p,s,k,w,rfl,hS,hsw,hg,hT,hok,hK⟩;obtain⟨hwok,hwA,hwK,hwm,tl,hwr⟩:=hok.w w hsw;have hnm:=hok.nm;have hEl:=hwok.Elen;have hal:=hwok.al;have hmem:=Wa.al_mem hwA;have hrl:w.rs.length<=s.rs.length:=by rw[hwr];simp
 obtain⟨F,rv,gs,gr,gw,hps,hw⟩:=hS;have Q:=hps.rest hg;obtain⟨pw,e23,hW⟩:=hw.ptr hsw;have C23:=hw.cell (Q.lt 1 rfl) (j:=23) oM;rw[e23]at C23;refine An rfl ?_;simp only[F319,Ze,Nat.reduceSub,Nat.reduceAdd];unfold Xq at hK;refine Ap @C23 ?_;refine Aa H283 ⟨gw,pw,w,rfl,hW,Q.lt 3 rfl,oM,λv1 h1 hle1 hs1=>?_⟩;have hA:Sl DL h1 v1 w.al:=hs1.le (Au _ _);generalize w.al=AL at *;have R:=hA.rules 3 Bu default;refine Ap @R ?_;refine Aj (λx:Nat×Value=>[U (.pointer (U ⟨p,0,O⟩)),O,U x.2,O,U v1,U (.int .i64 (AL.length:Nat)),U (.int .i64 (x.1:Nat)),O,O,O,O,O,O,O,O,O,O,O,O])
  (λx H=>x.1<=AL.length/\AQ AB 1 h1 H x.2 ((AL.take x.1).map (E5 s.rs))) (λx=>AL.length-x.1) (0,.slice O 0 0) (by dsimp only;try simp only[Pf];rfl) ⟨dM,AQ.nil (ZX h1)⟩ ?_
 rintro⟨i,v⟩ H ⟨hi,ho⟩;dsimp only at hi ho ⊢;have hwi:=wS i;have R:=(hA.le ho.1).rules 3 Bu default;have RO:=(ho.sl (enc:=AB) (sz:=1) (λ_=>rfl)).rules1 (λs=>.string (str s)) (λ_=>rfl) [];refine Ae ?_;refine Ad (λc1=>?_) (λc1=>?_);rotate_left
 ·have:i=AL.length:=oM;subst this;rw[Z5]at ho RO;rw[Aaw]at RO;refine Ap @RO ?_;refine Ad (λc2=>?_) (λc2=>?_)
  ·have e:AL=[]:=List.length_eq_zero_iff.1 oM;rw[if_pos e]at hK;refine Ae ?_;exact hK H (hle1.trans ho.1)
  ·have e:AL≠[]:=λe=>c2 (by rw[e];rfl);rw[if_neg e]at hK;have hjl:=IV (AL.map (E5 s.rs)) λx hx=>by
    obtain⟨a,ha,rfl⟩:=Yu.1 hx;obtain⟨i,e,t,rfl,hi,he⟩:=hmem a ha;unfold E5;have l1:=hnm _ (As (default:Rl) (show i<s.rs.length by omega));have l2:=AG 4 (n:=e) oM oM;have l3:=HW t;simp only[Aaa,Zk,Y5,ZR];omega
   rw[Aaw]at hjl;refine Ae ?_;refine Aa H326 ⟨v,_,rfl,ho.sl (enc:=AB) (sz:=1) (λ_=>rfl),by simpa using e,oM,by rw[Aaw];omega,λh5 hle5=>?_⟩;refine Ae ?_;exact hK h5 (hle1.trans (ho.1.trans hle5))
 have A5:i<AL.length:=oM;have hnx:AL.take (i+1)=AL.take i++[AL.getD i default]:=Ai default A5;obtain⟨ri,e,t,hae,hri,he⟩:=hmem _ (As (default:Al) A5);rw[hae]at hnx;have Qh:=(Q.up hle1).up ho.1;have C22:=hw.c22 (Qh.lt 1 rfl);have hri2:ri<s.rs.length:=oM;have RR:=(BE.sl AbD (hw.rs.le (Qh.lt 2 rfl))).rules 6 AbD default;have l1:=hnm _ (As (default:Rl) hri2);have l2:=AG 4 (n:=e) oM oM;have l3:=HW t;have hit:E5 s.rs ⟨ri,e,t⟩=(s.rs.getD ri default).name++[32]++Bo e++[32]++Jv t:=by unfold E5;simp only[Aaa]
 generalize hre:s.rs.getD ri default=r at *;have hTH:Heap.le T H:=(hT.trans hle1).trans ho.1;have O1:=ho.one;refine Wx @R @hae @DL.eq_1 @C22 @RR @hre @Rl.enc.eq_1 ?_;refine Aa H176 ⟨((e:Nat):Int),rfl,oM,oM,hTH,λh2 hle2=>?_⟩;rw[Bi];refine Cb (AE hle2) ?_;refine Ae ?_;refine Aa H325 ⟨t,rfl,hTH.trans hle2,λh3 hle3=>?_⟩;refine Ae ?_;refine CX (AE (hle2.trans hle3)) ?_;refine Ae ?_;refine BQ AB 1 (λ_=>rfl) [E5 s.rs ⟨ri,e,t⟩] (by rw[hit];rfl) rfl (by simp[maxLen]) λv4 h4 hle4 ho4=>?_;have O4:=ho4.one;refine Ek O4.1 O4.2 O1.1 O1.2 ?_;refine D7 (enc:=AB) (λ_=>rfl) (λx _=>rfl) (ho.le ((hle2.trans hle3).trans hle4)) (ho4.sl (enc:=AB) (sz:=1) (λ_=>rfl)) (by simp only[Aaw,Zn,Zo];omega) λv5 h5 ho5=>?_;refine Ap @hwi ?_;refine Ag (i+1,v5) dM (by dsimp only;try simp only[Pf]) ⟨dM,?_⟩;dsimp only;rw[hnx,Aam];exact ho5
def DX:List (List UInt8)->Option (List Int)
 |[]=>U []
 |x::r=>match E8 x,DX r with
  |some z,U l=>U (z::l)
  |_,_=>O
theorem IQ:∀ {l:List (List UInt8)} {n:List Int},DX l=U n->n.length=l.length
 |[],n,h=>by cases h;rfl
 |x::r,n,h=>by
  unfold DX at h;split at h
  ·rename_i z l h1 h2;cases h;have:=IQ h2;simp[this]
  ·cases h
theorem HF:∀ (l:List (List UInt8)) (x:List UInt8) (n:List Int) (z:Int),DX l=U n->E8 x=U z->DX (l++[x])=U (n++[z])
 |[],x,n,z,h1,h2=>by cases h1;simp[DX,h2]
 |y::r,x,n,z,h1,h2=>by
  unfold DX at h1;split at h1
  ·rename_i a m h3 h4;cases h1;have:=HF r x m z h4 h2;simp only[Y7,DX,h3,this]
  ·cases h1
theorem IR:∀ {l:List (List UInt8)} {x:List UInt8},x∈l->E8 x=O->DX l=O
 |y::r,x,h,hx=>by
  unfold DX;rcases X5.1 h with rfl|h
  ·rw[hx]
  ·rw[IR h hx];cases E8 y<;>rfl
def I3 (w:Wa):List UInt8:=Bo w.bytes++[32]++Bo (w.dr 1)++[32]++Bo (w.dr 2)++[32]++Bo (w.dr 3)++[32]++Bo (w.dr 4)
noncomputable def Se.on (s:Se) (w:Wa) (w0:List UInt8) (z:Int) (n:List Int) (last:List UInt8):Option (Wa×List UInt8):=
 if w0=[116,105,99,107]then(if z<0\/1000-(w.now:Int)<z then U (w,Dj 1)else U (w.tick z.toNat,Bo (w.closed z.toNat).length))
 else if w0=[102,101,101,100]then(match Dk last with
  |none=>O
  |some b=>U (w.feedT z b))
 else if w0=[114,101,97,100]then U (w.readT n last)
 else if w0=[119,97,114,109]then U (w,if z<0\/3<z then Dj 1 else K5 (w.wm z.toNat))
 else if w0=[97,108,101,114,116,115]then U (w,Xq s.rs w.al)
 else if w0=[100,114,111,112,115]then U (w,I3 w)
 else U (w,w.findT w0 last z)
noncomputable def Se.words (s:Se) (W:List (List UInt8)):Se×Option (List UInt8):=match Cq (W.getD 0 [])with
 |none=>(s,O)
 |some (a,b)=>if W.length≠1+a+b then(s,O)else match DX ((W.take (1+a)).drop 1)with
  |none=>(s,O)
  |some n=>match s.ahead (W.getD 0 []) n with
   |some q=>(q.1,U q.2)
   |none=>match s.w with
    |none=>(s,U (Dj 5))
    |some w=>match s.on w (W.getD 0 []) (n.getD 0 0) n (W.getD (W.length-1) [])with
     |none=>(s,O)
     |some q=>({ s with w:=U q.1 },U q.2)
noncomputable def Se.say (s:Se) (l:List UInt8):Se×Option (List UInt8):=
 if 300<l.length then(s,O)
 else if l.take 5=[114,117,108,101,32]then((s.rule (l.drop 5)).1,U (s.rule (l.drop 5)).2)
 else s.words (CI 32 l)
def Wl (w:Wa):List Nat:=[w.dr 1,w.dr 2,w.dr 3,w.dr 4]
def N7 (w:Wa):Nat->List UInt8
 |0=>Bo w.bytes
 |j+1=>N7 w j++([32]++Bo ((Wl w).getD j 0))
theorem T5 (w:Wa):N7 w 4=I3 w:=by
 show(((Bo w.bytes++([32]++Bo (w.dr 1)))++([32]++Bo (w.dr 2)))++([32]++Bo (w.dr 3)))++([32]++Bo (w.dr 4))=I3 w;unfold I3;simp only[Zy]
theorem T4 {w:Wa} (b0:w.bytes<=20000) (b1:w.dr 1<=20000) (b2:w.dr 2<=20000) (b3:w.dr 3<=20000) (b4:w.dr 4<=20000):∀ j,j<=4->(N7 w j).length<=6*(j+1):=by
 intro j;induction j with
 |zero=>intro _;have:=AG 5 (n:=w.bytes) oM oM;unfold N7;omega
 |succ j ih=>
  intro h;have h1:=ih oM;have h2:(Bo ((Wl w).getD j 0)).length<=5:=by
   refine AG 5 ?_ oM;rcases(by omega:j=0\/j=1\/j=2\/j=3)with rfl|rfl|rfl|rfl<;>simp only[Wl,Z6,Z8]<;>omega
  unfold N7;simp only[Zk,Y5,ZR];omega
def S201:Spec:=λargs h K=>∃ s pf,args=[.string (str s),.string (str pf)]/\s.length<=1000000/\K (.bool (decide (s.take pf.length=pf))) h
def S306 (T:Heap) (N:Num):Spec:=λargs h K=>∃ g p s k l,args=[.pointer (U ⟨p,0,O⟩),.string (str l)]/\SO WO g p s/\Heap.le g h/\Heap.le T h/\CA T g/\s.Ok k/\k<=110/\l.length<=1000000 /\
 ∀ g' h' x,Av g h g' h'->SO WO g' p (s.say l).1->(∀t,(s.say l).2=U t->x=t)->K (.tuple #[.string (str x),.bool (s.say l).2.isSome]) h'
set_option maxHeartbeats 2000000 in
theorem F306_ok {N:Num} {Γ:Ctx} [Ak Γ] {T:Heap} (H201:Sat S201 (Γ 201)) (H312:Sat (S312 T) (Γ 312)) (H181:Sat (S181 T) (Γ 181)) (H313:Sat S313 (Γ 313)) (H314:Sat S314 (Γ 314)) (H315:Sat (S315 T N) (Γ 315)) (H307:Sat (S307 T N) (Γ 307)) (H269:Sat (S269 N) (Γ 269)) (H316:Sat (S316 T N) (Γ 316)) (H317:Sat S317 (Γ 317)) (H271:Sat (S271 N) (Γ 271)) (H318:Sat (S318 T N) (Γ 318)) (H285:Sat (S285 N) (Γ 285)) (H319:Sat (S319 T) (Γ 319)) (H280:Sat S280 (Γ 280)) (H176:Sat (S176i T) (Γ 176)) (H320:Sat (S320 T N) (Γ 320)):Sat (S306 T N) (SF N Γ F306):=by
 rintro _ h K ⟨g,p,s,k,l,rfl,hS,hg,hT,hdT,hok,hk,hll,hK⟩;refine An rfl ?_;simp only[F306,Ze,Nat.reduceSub,Nat.reduceAdd];unfold Se.say at hK;refine Ae ?_;refine Ad (λc1=>?_) (λc1=>?_)
 ·rw[if_pos oM]at hK;refine Ae ?_;exact hK g h [] (Av.refl hg) hS (λt e=>by cases e)
 rw[if_neg oM]at hK;refine Ae ?_;refine Aa H201 ⟨l,_,rfl,hll,?_⟩;simp only[Y5,ZR,Yn,Nat.reduceAdd];refine Ae ?_;refine Ad (λc2=>?_) (λc2=>?_)
 ·rw[if_pos c2]at hK;have h5:5<=l.length:=by
   have:=congrArg ZT c2;rw[Zn]at this;simp only[Y5,ZR]at this;omega
  have htk:l.take l.length=l:=Z5;refine Ap @htk ?_;refine Aa H312 ⟨g,p,s,k,l.drop 5,rfl,hS,hg,hT,hdT,hok,oM,by rw[ZO];omega,λg1 h1 st1 hS1=>?_⟩;refine Ae ?_;exact hK g1 h1 _ st1 hS1 (λt e=>by cases e;rfl)
 rw[if_neg c2]at hK;refine Ae ?_;refine Aa H181 ⟨l,32,rfl,hll,hT,λv4 h4 ho4=>?_⟩;have hle4:=ho4.1;have hWl:∀ x∈CI 32 l,x.length<=l.length:=B6;have hWn:=J2 32 l;have hWc:=JC 32 l;have O4:=ho4.one;have hZ:Sl AB (fr h h4) v4 (CI 32 l):=ho4.slf (enc:=AB) (sz:=1) (λ_=>rfl);generalize CI 32 l=W at *;have hW0:0<W.length:=Zx.2 hWn;clear ho4;have Q4:Ps h4 [rest g h,g,fr h h4]:=by
  have q1:Ps h [rest g h,g]:=⟨λx hx=>by simp at hx;rcases hx with rfl|rfl;exact Gn _ _;exact hg,by simp;exact λb hb=>by unfold rest at hb;split at hb;assumption;exact absurd rfl hb⟩
  exact q1.new hle4
 generalize hw0:W.getD 0 []=w0 at *;unfold Se.words at hK;rw[hw0]at hK;have R4:=(hZ.le (Q4.lt 2 rfl)).rules1 (λs=>.string (str s)) (λ_=>rfl) [];obtain⟨k0,k1,is,his,hks,hlk⟩:∃ k0 k1:Nat,∃is:Bool,is=(Cq w0).isSome/\(∀a b,Cq w0=U (a,b)->k0=a/\k1=b) /\
   ∀ kv m bs ck H,Bn AF Fi H m kv bs ck->(∀w,look kv w=Cq w)->A8 H (.lkpo .str (.agg #[.int .i64 0,.int .i64 0])) (.v (.map (U m))) (.v (.string (str w0)))=U (.v (.tuple #[.agg #[.int .i64 (k0:Nat),.int .i64 (k1:Nat)],.bool is])):=by
  cases hm:Cq w0 with
  |none=>
   refine⟨0,0,false,rfl,(λa b e=>by cases e),λkv m bs ck H hM hkv=>?_⟩;have:=(hM.rules .str).2.1 (.agg #[.int .i64 0,.int .i64 0]) w0;rw[hkv,hm]at this;exact this
  |some q=>
   refine⟨q.1,q.2,true,rfl,(λa b e=>by cases e;exact⟨rfl,rfl⟩),λkv m bs ck H hM hkv=>?_⟩;have:=(hM.rules .str).2.1 (.agg #[.int .i64 0,.int .i64 0]) w0;rw[hkv,hm]at this;exact this
 refine AH @R4 @hw0 ?_;refine Kl (λenv H=>∃ b5,Heap.le h4 H/\Ah (fr h4 H) ⟨b5,0,O⟩ [.int .i64 (k0:Nat),.int .i64 (k1:Nat)] /\
  env=[U (.pointer (U ⟨p,0,O⟩)),U (.string (str l)),O,O,U v4,U (.pointer (U ⟨b5,0,O⟩)),U (.bool is),O,O,O,O,O,O,O,O,O,O,O,O,O,O,O,O,O,O,O,O,O,O,O,O,O,O,O,O,O,O,O,O,O,O,O,O,O,O,O,O,O,O,O,O,O,O,O,O,O,O,O,O,O,O,O,O,O,O,O,O]) ?_ ?_
 rotate_left
 ·refine Vl ?_ ?_
  ·refine AH @R4 @hw0 ?_;refine Aa H313 ⟨rfl,λm kv bs ck h5 hle5 hM hkv=>?_⟩;refine Cb (AE hle5) ?_;have hL5:=hlk kv m bs ck h5 (hM.le (Au _ _)) hkv;refine Ap @hL5 ?_;refine AO λb6 h6 hle6 hb6 ho6=>?_;have hL6:=hlk kv m bs ck h6 (hM.le ((Au _ _).trans hle6)) hkv;refine Cb (GM hle6 (hle5.trans hle6)) ?_;refine AH @hL5 @hL6 ?_;refine Br (cs:=[.int .i64 0,.int .i64 0]) (ho6.le (Au _ _)) 0 2 rfl rfl oM (by simp) λo7 ho7 _=>?_;have hob7:Ah (h6.set b6 o7) ⟨b6,0,O⟩ [.int .i64 (k0:Nat),.int .i64 (k1:Nat)]:=ho7 h6 rfl;have hle7:Heap.le h5 (h6.set b6 o7):=IF.le (b:=b6) hle6 hb6 λx hx=>ZW hx;generalize h6.set b6 o7=h7 at *;refine Ae ?_;refine Ar _ sE ⟨b6,hle5.trans hle7,hob7.kept λo hb=>?_,rfl⟩;have:h4 b6=O:=AC hle5 b6 hb6;simp only[fr,this];exact hb
  ·refine AH @R4 @hw0 ?_;refine AO λb5 h5 hle5 hb5 ho5=>?_;refine Cb (AE hle5) ?_;refine Ae ?_;refine Aa H313 ⟨rfl,λm kv bs ck h6 hle6 hM hkv=>?_⟩;have hL6:=hlk kv m bs ck h6 (hM.le (Au _ _)) hkv;refine Ae ?_;refine CX (AE (hle5.trans hle6)) ?_;refine Ap @hL6 ?_;refine Br (cs:=[.int .i64 0,.int .i64 0]) (ho5.le ((Au _ _).trans hle6)) 0 2 rfl rfl oM (by simp) λo7 ho7 _=>?_;have hob7:Ah (h6.set b5 o7) ⟨b5,0,O⟩ [.int .i64 (k0:Nat),.int .i64 (k1:Nat)]:=ho7 h6 rfl;have hle7:Heap.le h4 (h6.set b5 o7):=IF.le (b:=b5) (hle5.trans hle6) hb5 λx hx=>ZW hx;generalize h6.set b5 o7=h7 at *;refine Ae ?_;refine Ar _ sE ⟨b5,hle7,hob7.kept λo hb=>?_,rfl⟩;simp only[fr,hb5];exact hb
 rintro env H ⟨b5,hleH,hob,rfl⟩;clear R4 hlk;have QH:Ps H [rest g h,g,fr h h4,fr h4 H]:=Q4.new hleH;have hleh:Heap.le h H:=hle4.trans hleH;have hSt:Av g h g H:=Av.more hg hleh;generalize fr h h4=Z at *;generalize fr h4 H=Y at *;have hTH:Heap.le T H:=hT.trans hleh;clear hle4 Q4 hleH;have R4:=(hZ.le (QH.lt 2 rfl)).rules1 (λs=>.string (str s)) (λ_=>rfl) [];have OB:=(hob.le (QH.lt 3 rfl)).rules.1;have B0:H.cell ((⟨b5,0,O⟩:Addr).add 0)=U (.int .i64 (k0:Nat)):=OB 0 (by simp);have B1:H.cell ((⟨b5,0,O⟩:Addr).add 1)=U (.int .i64 (k1:Nat)):=OB 1 (by simp);cases hm:Cq w0 with
 |none=>
  rw[hm]at hK his;dsimp only at hK;rw[his];refine Ae ?_;exact hK g H [] hSt hS (λt e=>by cases e)
 |some ab=>
 obtain⟨a,b⟩:=ab;obtain⟨rfl,rfl⟩:=hks a b hm;obtain⟨ha6,hb1⟩:=Nd hm;rw[hm]at hK his;dsimp only at hK;rw[his];have w1:IntKind.i64.wrap (1+(k0:Int))=((1+k0:Nat):Int):=wN;have w2:IntKind.i64.wrap (((1+k0:Nat):Int)+(k1:Int))=((1+k0+k1:Nat):Int):=wN;refine Le @B0 @B1 @R4 @w1 @w2 ?_;refine Ad (λc3=>?_) (λc3=>?_)
 ·rw[if_pos oM]at hK;refine Ae ?_;exact hK g H [] hSt hS (λt e=>by cases e)
 rw[if_neg oM]at hK;have hWL:W.length=1+k0+k1:=oM;clear c3;obtain⟨v28,e28,hs28⟩:=(hZ.le (QH.lt 2 rfl)).lsl (sz:=1) (λ_=>rfl) (lo:=1) (hi:=1+k0) oM oM;have hs28Z:Sl AB Z v28 ((W.take (1+k0)).drop 1):=by
  obtain⟨v28',e28',hs'⟩:=hZ.lsl (sz:=1) (λ_=>rfl) (lo:=1) (hi:=1+k0) oM oM;have e9:=e28 .i64 .i64;rw[e28' .i64 .i64]at e9;cases e9;exact hs'
 have hVl:((W.take (1+k0)).drop 1).length=k0:=by rw[ZO,Zn];omega
 have hVm:∀ x∈(W.take (1+k0)).drop 1,x.length<=1000000:=λx hx=>by have:=hWl x (Z4 (List.mem_of_mem_drop hx));omega
 generalize (W.take (1+k0)).drop 1=V at *;have R8:=(hs28Z.le (QH.lt 2 rfl)).rules1 (λs=>.string (str s)) (λ_=>rfl) [];rw[hVl]at R8;have e28b:∀ k k',JE (.lsl 1) (.v v4) (.v (.int k 1)) (.v (.int k' ((1+k0:Nat):Int)))=U (.v v28):=λk k'=>e28 k k';refine Ek @B0 @w1 @e28b @R8 ?_;refine Aj (λx:Nat×Value×List Int=>[U (.pointer (U ⟨p,0,O⟩)),U (.string (str l)),O,O,U v4,O,O,U x.2.1,O,O,O,O,O,O,O,O,O,O,O,O,O,O,O,O,O,O,O,O,U v28,U (.int .i64 (k0:Nat)),U (.int .i64 (x.1:Nat)),O,O,O,O,O,O,O,O,O,O,O,O,O,O,O,O,O,O,O,O,O,O,O,O,O,O,O,O,O,O,O,O,O,O,O,O])
  (λx H2=>x.1<=k0/\AQ DB 1 H H2 x.2.1 x.2.2/\DX (V.take x.1)=U x.2.2) (λx=>k0-x.1) (0,.slice O 0 0,[]) (by dsimp only;try simp only[Pf];rfl) ⟨dM,AQ.nil (ZX H),rfl⟩ ?_
 clear R4 R8 B0 B1 OB;rintro⟨i,v7,n⟩ H2 ⟨hi,ho,hnp⟩;dsimp only at hi ho hnp ⊢;have hwi:=wS i;have R8:=(hs28Z.le ((QH.lt 2 rfl).trans ho.1)).rules1 (λs=>.string (str s)) (λ_=>rfl) [];rw[hVl]at R8;have hnl:=IQ hnp;rw[Zn]at hnl;refine Ae ?_;refine Ad (λc4=>?_) (λc4=>?_)
 ·have A5:i<V.length:=oM;have hnx:=Ai [] A5;have hxl:=hVm _ (As [] A5);have hxm:V.getD i []∈V:=As [] A5;obtain⟨x,hx0⟩:∃ x,x=V.getD i []:=⟨_,rfl⟩
  rw[<-hx0]at hnx hxl hxm;have hx1:=hx0.symm;have O1:=ho.one;refine AH @R8 @hx1 ?_;refine Aa H314 ⟨x,rfl,hxl,?_⟩;cases hx:E8 x with
  |none=>
   have e:DX V=O:=IR hxm hx;rw[e]at hK;dsimp only at hK;refine Ae ?_;exact hK g H2 [] (hSt.trans (Av.more hSt.le ho.1)) hS (λt e=>by cases e)
  |some z=>
   refine Ae ?_;refine BQ DB 1 (λ_=>rfl) [z] rfl rfl (by simp[maxLen]) λv9 h9 hle9 ho9=>?_;have O9:=ho9.one;refine Ek O9.1 O9.2 O1.1 O1.2 ?_;refine D7 (enc:=DB) (λ_=>rfl) (λx _=>rfl) (ho.le hle9) (ho9.sl (enc:=DB) (sz:=1) (λ_=>rfl)) (by simp only[Zo];omega) λv10 h10 ho10=>?_;refine Ap @hwi ?_;refine Ag (i+1,v10,n++[z]) dM (by dsimp only;try simp only[Pf]) ⟨dM,ho10,?_⟩;dsimp only;rw[hnx];exact HF _ _ _ _ hnp hx
 have hik:i=k0:=oM;subst hik;rw[ZB oM]at hnp;rw[hnp]at hK;dsimp only at hK;have hnl2:n.length=i:=oM;have Q2:Ps H2 [rest g h,g,Z,Y,fr H H2]:=QH.new ho.1;have hSt2:Av g h g H2:=hSt.trans (Av.more hSt.le ho.1);have hT2:Heap.le T H2:=hTH.trans ho.1;have hnZ:Sl DB (fr H H2) v7 n:=ho.slf (enc:=DB) (sz:=1) (λ_=>rfl);generalize fr H H2=X7 at *;clear hSt QH hTH R8 hs28Z hs28 e28 e28b ho hob;have R4:=(hZ.le (Q2.lt 2 rfl)).rules1 (λs=>.string (str s)) (λ_=>rfl) [];refine AH @R4 @hw0 ?_;have hn6:w0=[115,101,116]->n.length=6:=λe=>by
  subst e;have:Cq [115,101,116]=U (6,0):=by decide
  rw[this]at hm;cases hm;exact hnl2
 have hn3:w0=[97,116]->n.length=3:=λe=>by
  subst e;have:Cq [97,116]=U (3,0):=by decide
  rw[this]at hm;cases hm;exact hnl2
 refine Aa H315 ⟨g,p,s,k,w0,v7,n,rfl,hS,Q2.lt 1 rfl,hT2,hdT,hok,oM,hnZ.le (Q2.lt 4 rfl),hn6,hn3,λs' x hax g3 h3 st3 hS3=>?_,λhax=>?_⟩
 ·rw[hax]at hK;dsimp only at hK;refine Ae ?_;exact hK g3 h3 x (hSt2.trans st3) hS3 (λt e=>by cases e;rfl)
 rw[hax]at hK;dsimp only at hK;have hnst:w0≠[115,101,116]/\w0≠[97,116]/\w0≠[115,116,97,114,116]:=by
  unfold Se.ahead at hax;by_cases e1:w0=[115,101,116]
  ·rw[if_pos e1]at hax;cases hax
  ·rw[if_neg e1]at hax;by_cases e2:w0=[97,116]
   ·rw[if_pos e2]at hax;split at hax<;>cases hax
   ·rw[if_neg e2]at hax;by_cases e3:w0=[115,116,97,114,116]
    ·rw[if_pos e3]at hax;cases hax
    ·exact⟨e1,e2,e3⟩
 clear hn6 hn3 hax;obtain⟨F,rv,gs,gr,gw,hps,hw⟩:=id hS;have Qs:=hps.up (Q2.lt 1 rfl);have C23:=hw.cell (Qs.lt 0 rfl) (j:=23) oM;cases hsw:s.w with
 |none=>
  rw[hsw]at hK;dsimp only at hK;have e23:F 23=.pointer O:=by have:=hw.w;rw[hsw]at this;exact this
  rw[e23]at C23;refine Ap @C23 ?_;refine Aa H307 ⟨5,by rw[Aq];rfl,oM,oM,hT2,λh4 hle4=>?_⟩;refine Ae ?_;exact hK g h4 (Dj 5) (hSt2.trans (Av.more hSt2.le hle4)) hS (λt e=>by cases e;rfl)
 |some w=>
 rw[hsw]at hK;dsimp only at hK;obtain⟨pw,e23,hW⟩:=hw.ptr hsw;rw[e23]at C23;obtain⟨hwok,hwA,hwK,hwm,hwr⟩:=hok.w w hsw;have hWL2:IntKind.i64.wrap ((W.length:Int)-1)=((W.length-1:Nat):Int):=wN;have hlast:(W.getD (W.length-1) []).length<=1000000:=by have:=hWl _ (As [] (show W.length-1<W.length by omega));omega
 generalize hL:W.getD (W.length-1) []=last at *;have RN:=(hnZ.le (Q2.lt 4 rfl)).rules1 (λz=>.int .i64 z) (λ_=>rfl) 0;unfold Se.on at hK;have hsm:=Se.same hsw;have hQg:Ps H2 [rest g H2,gs,gr,gw]:=hps.rest (Q2.lt 1 rfl);have hg2:Heap.le g H2:=Q2.lt 1 rfl;have hgwH:Heap.le gw H2:=Qs.lt 2 rfl;have hb300:last.length<=300:=by
  have:=hWl (W.getD (W.length-1) []) (As [] (show W.length-1<W.length by omega));rw[hL]at this;omega
 have hTst:∀ g' H3,Av g H2 g' H3->Heap.le T H3:=λg' H3 st=>(hdT.step hT2 st).1;refine Le @C23 @R4 @hWL2 @hL @hw0 ?_;refine Ad (λd1=>?_) (λd1=>?_)
 ·have hi1:i=1:=by
   rw[d1,show Cq [116,105,99,107]=U (1,0) by decide]at hm;simp at hm;omega
  rw[if_pos d1]at hK;refine AH @C23 @RN ?_;refine Aa H269 ⟨gw,pw,w,_,n.getD 0 0,rfl,hW,hgwH,hwok,oM,λhb=>?_,λm hmm hmn g3 h3 st3 hW3=>?_⟩
  ·rw[if_pos hb]at hK;dsimp only at hK;rw[hsm]at hK;refine Ae ?_;refine Aa H316 ⟨0,1,by rw[Aq],oM,oM,oM,hT2,λh8 hle8=>?_⟩;refine Ae ?_;exact hK g h8 _ (hSt2.trans (Av.more hSt2.le hle8)) hS (λt e=>by cases e;rfl)
  ·have hz0:=hwok.now;have hcl:(w.closed m).length<=1000:=by rw[Wa.closed_len];have:=DY (size:=(w.c 0).toNat) (late:=(w.c 1).toNat) hmn;omega
   rw[if_neg oM,show(n.getD 0 0).toNat=m by omega]at hK;dsimp only at hK;have Q3:=hQg.step 3 rfl st3;obtain⟨g5,q6,q7⟩:=SO.of hg2 Q3 (hw.upw e23 hW3);refine Ae ?_;refine Aa H316 ⟨(((w.closed m).length:Nat):Int),0,by rw[AP],oM,oM,oM,hTst g5 h3 q6,λh8 hle8=>?_⟩;refine Ae ?_;exact hK g5 h8 _ ((hSt2.trans q6).trans (Av.more q6.le hle8)) q7 (λt e=>by cases e;unfold D9;rw[if_pos rfl,Bi])
 rw[if_neg d1]at hK;refine Ae ?_;refine Ad (λd2=>?_) (λd2=>?_)
 ·have hi1:i=1:=by
   rw[d2,show Cq [102,101,101,100]=U (1,1) by decide]at hm;simp at hm;omega
  rw[if_pos d2]at hK;refine Ae ?_;refine Aa H317 ⟨last,rfl,hlast,λx h3 hle3 hx=>?_⟩;cases hu:Dk last with
  |none=>
   rw[hu]at hK;dsimp only at hK;refine Ae ?_;exact hK g h3 [] (hSt2.trans (Av.more hSt2.le hle3)) hS (λt e=>by cases e)
  |some b=>
   obtain rfl:x=b:=hx b hu;have hbl:x.length<=150:=by
    unfold Dk at hu;split at hu
    ·cases hu;have:=EZ last;omega
    ·cases hu
   rw[hu]at hK;dsimp only at hK;unfold Wa.feedT at hK;have Q3:=hQg.up hle3;have C23b:=hw.cell (Q3.lt 1 rfl) (j:=23) oM;rw[e23]at C23b;have RNb:=(hnZ.le ((Q2.lt 4 rfl).trans hle3)).rules1 (λz=>.int .i64 z) (λ_=>rfl) 0;have hff:=Io (n.getD 0 0) x;refine AH @C23b @RNb ?_;by_cases hF:Cr (n.getD 0 0) x=0;rotate_left
   ·rw[if_neg hF]at hK;dsimp only at hK;rw[hsm]at hK;refine Aa H271 ⟨gw,pw,w,_,n.getD 0 0,x,rfl,hW,Q3.lt 3 rfl,hwok,λe=>absurd e hF,λ_=>?_,λe=>absurd e hF⟩;refine Ae ?_;refine Aa H316 ⟨0,_,rfl,oM,oM,oM,hT2.trans hle3,λh8 hle8=>?_⟩;refine Ae ?_;exact hK g h8 _ (hSt2.trans (Av.more hSt2.le (hle3.trans hle8))) hS (λt e=>by cases e;unfold D9;rw[if_neg hF])
   rw[if_pos hF]at hK;dsimp only at hK;obtain⟨r1,r2,r3⟩:=Im hF;have hfn:=Il w (n.getD 0 0).toNat x;have hln:=hwok.ln_le (r:=(n.getD 0 0).toNat) oM;refine Aa H271 ⟨gw,pw,w,_,n.getD 0 0,x,rfl,hW,Q3.lt 3 rfl,hwok,λ_=>by omega,λe=>absurd hF e,λ_ gw' h7 st7 hW7=>?_⟩;have Q7:=Q3.step 3 rfl st7;obtain⟨g8,q6,q7⟩:=SO.of hg2 Q7 (hw.upw e23 hW7);refine Ae ?_;refine Aa H316 ⟨_,0,by rw[AP],oM,oM,oM,hTst g8 h7 q6,λh8 hle8=>?_⟩;refine Ae ?_;exact hK g8 h8 _ ((hSt2.trans q6).trans (Av.more q6.le hle8)) q7 (λt e=>by cases e;unfold D9;rw[if_pos rfl,Bi])
 rw[if_neg d2]at hK;refine Ae ?_;refine Ad (λd3=>?_) (λd3=>?_)
 ·have hi1:i=4:=by
   rw[d3,show Cq [114,101,97,100]=U (4,1) by decide]at hm;simp at hm;omega
  rw[if_pos d3]at hK;dsimp only at hK;refine Ae ?_;refine Aa H318 ⟨g,p,s,k,w,v7,n,last,rfl,hS,hsw,hg2,hT2,hdT,hok,oM,hnZ.le (Q2.lt 4 rfl),oM,hlast,λg3 h3 st3 hS3=>?_⟩;refine Ae ?_;exact hK g3 h3 _ (hSt2.trans st3) hS3 (λt e=>by cases e;rfl)
 rw[if_neg d3]at hK;refine Ae ?_;refine Ad (λd4=>?_) (λd4=>?_)
 ·have hi1:i=1:=by
   rw[d4,show Cq [119,97,114,109]=U (1,0) by decide]at hm;simp at hm;omega
  rw[if_pos d4]at hK;dsimp only at hK;rw[hsm]at hK;refine AH @C23 @RN ?_;refine Aa H285 ⟨gw,pw,w,n.getD 0 0,rfl,hW,hgwH,λhb=>?_,λj hj hj4=>?_⟩
  ·rw[if_pos hb]at hK;refine Ae ?_;refine Aa H316 ⟨0,1,by rw[Aq],oM,oM,oM,hT2,λh8 hle8=>?_⟩;refine Ae ?_;exact hK g h8 _ (hSt2.trans (Av.more hSt2.le hle8)) hS (λt e=>by cases e;rfl)
  ·have hwj:=hwm j hj4;rw[if_neg oM,show(n.getD 0 0).toNat=j by omega]at hK;refine Ae ?_;refine Aa H316 ⟨w.wm j,0,by rw[AP],oM,oM,oM,hT2,λh8 hle8=>?_⟩;refine Ae ?_;exact hK g h8 _ (hSt2.trans (Av.more hSt2.le hle8)) hS (λt e=>by cases e;rfl)
 rw[if_neg d4]at hK;refine Ae ?_;refine Ad (λd5=>?_) (λd5=>?_)
 ·rw[if_pos d5]at hK;dsimp only at hK;rw[hsm]at hK;refine Ae ?_;refine Aa H319 ⟨g,p,s,k,w,rfl,hS,hsw,hg2,hT2,hok,λh3 hle3=>?_⟩;refine Ae ?_;exact hK g h3 _ (hSt2.trans (Av.more hSt2.le hle3)) hS (λt e=>by cases e;rfl)
 rw[if_neg d5]at hK;refine Ae ?_;refine Ad (λd6=>?_) (λd6=>?_);rotate_left
 ·rw[if_neg d6]at hK;dsimp only at hK;rw[hsm]at hK;have hi1:1<=i:=by
   unfold Cq at hm
   repeat' split at hm
   all_goals first|(simp at hm;omega)|(exfalso;simp_all;done)
  refine CS @R4 @RN @hw0 ?_;refine Aa H320 ⟨g,p,s,k,w,w0,last,n.getD 0 0,rfl,hS,hsw,hg2,hT2,hok,hlast,λh3 hle3=>?_⟩;refine Ae ?_;exact hK g h3 _ (hSt2.trans (Av.more hSt2.le hle3)) hS (λt e=>by cases e;rfl)
 rw[if_pos d6]at hK;dsimp only at hK;rw[hsm]at hK;obtain⟨b0,b1,b2,b3,b4⟩:w.bytes<=20000/\w.dr 1<=20000/\w.dr 2<=20000/\w.dr 3<=20000/\w.dr 4<=20000:=by
  have h1:=hwok.sum;have h2:=hwok.d0;unfold Wa.bytes;omega
 refine Ap @C23 ?_;refine Aa H280 ⟨gw,pw,w,_,rfl,hW,hgwH,hwok,oM,?_⟩;unfold Iz;refine Ae ?_;refine Aa H176 ⟨((w.bytes:Nat):Int),rfl,oM,oM,hT2,λh3 hle3=>?_⟩;rw[Bi];refine Ae ?_;refine Bg DB 1 (λ_=>rfl) [((w.dr 1:Nat):Int),((w.dr 2:Nat):Int),((w.dr 3:Nat):Int),((w.dr 4:Nat):Int)] rfl rfl (by simp[maxLen]) λv60 b60 h6 hle6 hb6 hx6 hS6=>?_;have hL6:Sl DB (fr h3 h6) v60 ((Wl w).map λ(n:Nat)=>(n:Int)):=BE.sl (enc:=DB) (sz:=1) (λ_=>rfl) hS6;have O6:=hS6.one;have hle36:=hle3.trans hle6;have R60:=(hL6.le (Au _ _)).rules1 (λz=>.int .i64 z) (λ_=>rfl) 0;rw[Aaw,show(Wl w).length=4 from rfl]at R60;refine CS @R60 O6.1 O6.2 ?_;refine Aj (λj:Nat=>[O,O,O,O,O,O,O,O,O,O,O,O,O,O,O,O,O,U (.string (str (N7 w j))),O,O,O,O,O,O,O,O,O,O,O,O,O,O,O,O,O,O,O,O,O,O,O,O,O,O,O,O,O,O,O,O,O,O,O,O,O,O,O,O,O,O,U v60,U (.int .i64 4),U (.int .i64 (j:Nat)),O,O,O,O])
  (λj H3=>j<=4/\Heap.le h6 H3) (λj=>4-j) 0 (by dsimp only;try simp only[Pf];first|rfl|exact⟨rfl,rfl⟩|exact⟨rfl,rfl,rfl⟩) ⟨oM,ZX h6⟩ ?_
 rintro j H3 ⟨hj,hle7⟩;have hwj:=wS j;have R61:=(hL6.le ((Au _ _).trans hle7)).rules1 (λz=>.int .i64 z) (λ_=>rfl) 0;rw[Aaw,show(Wl w).length=4 from rfl]at R61;refine Ae ?_;refine Ad (λc7=>?_) (λc7=>?_);rotate_left
 ·have:j=4:=oM;subst this;refine Ae ?_;exact hK g H3 _ (hSt2.trans (Av.more hSt2.le (hle36.trans hle7))) hS (λt e=>by cases e;exact T5 w)
 obtain⟨dj,hdj,hdl⟩:∃ dj:Nat,((Wl w).map λ(n:Nat)=>(n:Int)).getD j 0=(dj:Int)/\dj<=20000/\N7 w (j+1)=N7 w j++([32]++Bo dj):=by
  rcases(by omega:j=0\/j=1\/j=2\/j=3)with rfl|rfl|rfl|rfl
  ·exact⟨w.dr 1,rfl,b1,rfl⟩
  ·exact⟨w.dr 2,rfl,b2,rfl⟩
  ·exact⟨w.dr 3,rfl,b3,rfl⟩
  ·exact⟨w.dr 4,rfl,b4,rfl⟩
 have hal:=T4 (w:=w) b0 b1 b2 b3 b4 j oM;have hdd:=AG 5 (n:=dj) oM oM;refine AH @R61 @hdj ?_;refine Aa H176 ⟨(dj:Int),rfl,oM,oM,(hT2.trans hle36).trans hle7,λh8 hle8=>?_⟩;rw[Bi];refine Ap @hwj ?_;exact Ag (j+1) oM (by rw[hdl.2];try simp only[Pf]) ⟨oM,hle7.trans hle8⟩
end Go.Cw
