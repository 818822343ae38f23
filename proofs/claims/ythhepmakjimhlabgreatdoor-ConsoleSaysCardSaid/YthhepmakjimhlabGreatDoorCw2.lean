/- Part 2 of the proof of ConsoleSays: a small language for the program's functions, its soundness, and what the functions do. No conditions beyond the theorems' own. -/
import Derived.Test.YthhepmakjimhlabGreatDoorCw1
set_option linter.unusedSimpArgs false
set_option linter.unusedVariables false
set_option maxRecDepth 20000
open List renaming getD_eq_getElem?_getD -> Zp, length_append -> Zk, mem_singleton -> YA, mem_append -> Yd, length_take -> Zn, mem_of_getElem? -> ZY, take_of_length_le -> ZB, take_append_drop -> ZD, getElem?_append_left -> Zl, getElem?_eq_getElem -> Zj, flatMap_append -> Z0, mem_cons -> X5, length_singleton -> Zo, length_drop -> ZO, getElem_of_mem -> Z3, mem_of_mem_take -> Z4, take_length -> Z5, getD_cons_zero -> Z6, append_assoc -> Zy, replicate -> Z7, getD_cons_succ -> Z8, getElem?_append_right -> YN, mem_map -> Yu, mem_of_mem_drop -> Aac, cons_append -> Y7, drop_eq_nil_of_le -> ZC, getElem?_map -> Aae, length_replicate -> Aag, getElem_mem -> Aah, drop_append_of_le_length -> Aai, length_nil -> ZR, getElem?_eq_some_iff -> Yk, drop_eq_getElem_cons -> Aaj, length_cons -> Y5, filter_eq_nil_iff -> Aal, nil_append -> YI, map_append -> Aam, foldl_cons -> Aan, length_zipWith -> Aap, pairwise_cons -> Aaq, map_cons -> Yj, getElem?_drop -> Aar, nodup_append -> Yp, getElem?_inj -> Y4, foldl_append -> Aat, eq_nil_of_length_eq_zero -> Zs, nodup_cons -> Yr, length_map -> Aaw, foldl_nil -> Aay, getElem_append_left -> AaA, zipWith_cons_cons -> AaB, eq_nil_or_concat -> AaC, concat_eq_append -> AaD, takeWhile_cons -> AaF, map_congr_left -> AaG, dropWhile_cons -> AaH, filter_append -> AaI, range -> Yh, not_mem_nil -> AaL, flatMap_nil -> AaM, range_succ -> AaN, getD -> AaO, append_nil -> AaP, mem_range -> Zc
open Go.Cw.Heap renaming set_ne -> ZW, le.refl -> ZX, set_eq -> Aab
open Nat renaming pow_le_pow_right -> ZZ, le_refl -> Yq, div_div_eq_div_mul -> Z1, mod_eq_of_lt -> ZQ, pow_succ -> ZE, lt_of_lt_of_le -> Z9, lt_of_le_of_lt -> Aad, pow_add -> Aaf, mod_lt -> Zi, pow_pos -> Aak, mul_comm -> Aao, mul_le_mul_right -> Zm, and_two_pow_sub_one_eq_mod -> Aav, div_le_self -> Aax, add_assoc -> Zg, add_mul -> Zq, and_one_is_mod -> AaK, min_eq_left -> AaQ, and_le_left -> AaR, mul_assoc -> AaS, sub_zero -> AaT, le_of_eq -> AaU, add_comm -> AaV, zero_le -> ZU, mod_one -> AaX, mod_mul -> AaY, sub_le -> AaZ
open Int renaming toNat_natCast -> Aaa, tmod_eq_emod_of_nonneg -> Aaz, le_refl -> AaJ, add_zero -> AaW
open Bool renaming false_eq_true -> Ym, and_eq_true -> X6, or_eq_true -> Yy, eq_iff_iff -> Zu
open Option renaming none -> O, some -> U, map_some -> YH, getD_some -> Y1, getD_none -> Aas, isSome_none -> Zw, bind_some -> YE
open Array renaming length_toList -> Zv, mem_toList_iff -> AaE, toList_append -> YW, toList_inj -> YF
open BitVec renaming toNat_and -> Aau
namespace Go.Cw
open Go
def CA (f g:Heap):Prop:=∀ b,f b≠O->g b=O
theorem CA.symm {f g:Heap} (h:CA f g):CA g f:=by
 intro b hb;cases hf:f b with
 |none=>rfl
 |some o=>exact absurd (h b (by rw[hf];simp)) hb
structure Av (g h g' h':Heap):Prop where
 le:Heap.le g' h'
 frame:∀ b o,h b=U o->g b=O->h' b=U o
 fresh:∀ b,h b≠O->g b=O->g' b=O
theorem Av.refl {g h:Heap} (hl:Heap.le g h):Av g h g h:=⟨hl,λ_ _ h _=>h,λ_ _ h=>h⟩
theorem Av.trans {g h g' h' g'' h'':Heap} (a:Av g h g' h') (b:Av g' h' g'' h''):Av g h g'' h'':=by
 refine⟨b.le,λx o h1 h2=>?_,λx h1 h2=>?_⟩
 ·exact b.frame x o (a.frame x o h1 h2) (a.fresh x (by rw[h1];simp) h2)
 ·refine b.fresh x ?_ (a.fresh x h1 h2);cases hx:h x with
  |none=>exact absurd hx h1
  |some o=>rw[a.frame x o hx h2];simp
theorem Av.keep {g h g' h' f:Heap} (a:Av g h g' h') (hf:Heap.le f h) (hd:CA f g):Heap.le f h'/\CA f g':=by
 refine⟨λb o hb=>a.frame b o (hf b o hb) (hd b (by rw[hb];simp)),λb hb=>?_⟩;cases hfb:f b with
 |none=>exact absurd hfb hb
 |some o=>exact a.fresh b (by rw[hf b o hfb];simp) (hd b hb)
theorem Av.alloc {g h h':Heap} (hg:Heap.le g h) (hl:Heap.le h h'):Av g h (join g (fr h h')) h':=by
 refine⟨Gq (hg.trans hl) (Au _ _),λb o h1 _=>hl b o h1,λb h1 h2=>?_⟩;cases hb:h b with
 |none=>exact absurd hb h1
 |some o=>exact Bs h2 (Er hb)
theorem Av.more {g h h':Heap} (hg:Heap.le g h) (hl:Heap.le h h'):Av g h g h':=⟨hg.trans hl,λb o h1 _=>hl b o h1,λ_ _ h=>h⟩
theorem Av.set {g h:Heap} (hg:Heap.le g h) {b:Nat} (hb:g b≠O) (o:Obj):Av g h (g.set b o) (h.set b o):=by
 refine⟨?_,λx y h1 h2=>?_,λx h1 h2=>?_⟩
 ·intro x y hx;by_cases e:x=b
  ·subst e;rw[Aab]at hx ⊢;exact hx
  ·rw[ZW e]at hx ⊢;exact hg x y hx
 ·have e:x≠b:=by intro e;subst e;exact hb h2
  rw[ZW e];exact h1
 ·have e:x≠b:=by intro e;subst e;exact hb h2
  rw[ZW e];exact h2
theorem Av.part {g h g' h' f:Heap} (a:Av g h g' h') (hf:Heap.le f h) (hd:CA f g):Av (join f g) h (join f g') h':=by
 obtain⟨k1,k2⟩:=a.keep hf hd;refine⟨Gq k1 a.le,λb o h1 h2=>?_,λb h1 h2=>?_⟩
 ·have hg:g b=O:=by
   simp only[join]at h2;cases hfb:f b with
   |none=>rw[hfb]at h2;simpa using h2
   |some x=>rw[hfb]at h2;simp at h2
  exact a.frame b o h1 hg
 ·have hfb:f b=O:=by
   cases hfb:f b with
   |none=>rfl
   |some x=>simp only[join,hfb]at h2;simp at h2
  have hg:g b=O:=by simp only[join,hfb]at h2;simpa using h2
  exact Bs hfb (a.fresh b h1 hg)
section
variable {κ ν:Type} [DecidableEq κ]
class LP (kb:Bk) (ek:κ->Value):Prop where
 eq:∀ a b,Dv kb (ek a) (ek b)=U (decide (a=b))
def AF (s:List UInt8):Value:=.string (str s)
def Bm (n:Int):Value:=.int .i64 n
instance:LP .str AF where
 eq:=by intro a b;simp[Dv,AF,Un]
instance:LP .int Bm where
 eq:=by
  intro a b;simp only[Dv,Bm,if_true];rfl
def CV:List (κ×ν)->κ->Nat->Option (Nat×ν)
 |[],_,_=>O
 |p::r,k,i=>if k=p.1 then U (i,p.2)else CV r k (i+1)
def look (kv:List (κ×ν)) (k:κ):Option ν:=(CV kv k 0).map (·.2)
def upd:List (κ×ν)->κ->ν->List (κ×ν)
 |[],k,v=>[(k,v)]
 |p::r,k,v=>if k=p.1 then(k,v)::r else p::upd r k v
theorem Nf (kv:List (κ×ν)) (k:κ):∀ (i j:Nat),CV kv k (i+j)=(CV kv k i).map λp=>(p.1+j,p.2):=by
 induction kv with
 |nil=>intro i j;rfl
 |cons p r ih=>
  intro i j;simp only[CV];split
  ·rfl
  ·rw[show i+j+1=(i+1)+j by omega,ih]
theorem Bd (k:κ):look ([]:List (κ×ν)) k=O:=rfl
theorem Bx (p:κ×ν) (r:List (κ×ν)) (k:κ):look (p::r) k=if k=p.1 then U p.2 else look r k:=by
 unfold look;simp only[CV];split
 ·rfl
 ·have:=Nf r k 0 1;rw[this];cases CV r k 0<;>rfl
theorem A6 (kv:List (κ×ν)) (k k':κ) (v:ν):look (upd kv k v) k'=if k'=k then U v else look kv k':=by
 induction kv with
 |nil=>simp only[upd,Bx,Bd]
 |cons p r ih=>
  simp only[upd];split
  ·rename_i e;subst e;simp only[Bx];split
   ·rfl
   ·rfl
  ·rename_i e;simp only[Bx,ih];by_cases e1:k'=p.1
   ·have e2:k'≠k:=by intro e3;exact e (e3.symm.trans e1)
    rw[if_pos e1,if_neg e2,if_pos e1]
   ·rw[if_neg e1,if_neg e1]
theorem Cz {kv:List (κ×ν)} {k:κ} {v:ν} (h:look kv k=U v):(k,v)∈kv:=by
 induction kv with
 |nil=>simp[Bd]at h
 |cons p r ih=>
  rw[Bx]at h;split at h
  ·rename_i e;cases h;subst e;simp
  ·exact List.mem_cons_of_mem _ (ih h)
theorem FM {kv:List (κ×ν)} {k:κ} (h:look kv k=O):k∉kv.map (·.1):=by
 induction kv with
 |nil=>simp
 |cons p r ih=>
  rw[Bx]at h;split at h
  ·cases h
  ·rename_i e;have:=ih h;simp only[Yj,X5,not_or];exact⟨e,this⟩
theorem Dg {kv:List (κ×ν)} (hn:(kv.map (·.1)).Nodup) {k:κ} {v:ν} (h:(k,v)∈kv):look kv k=U v:=by
 induction kv with
 |nil=>simp at h
 |cons p r ih=>
  rw[Bx];simp only[Yj,Yr]at hn;simp only[X5]at h;rcases h with rfl|h
  ·simp
  ·have:k≠p.1:=by rintro rfl;exact hn.1 (Yu.2 ⟨_,h,rfl⟩)
   rw[if_neg this];exact ih hn.2 h
theorem JP (kv:List (κ×ν)) (k:κ) (v:ν):(upd kv k v).map (·.1)=if k∈kv.map (·.1)then kv.map (·.1)else kv.map (·.1)++[k]:=by
 induction kv with
 |nil=>simp[upd]
 |cons p r ih=>
  simp only[upd];split
  ·rename_i e;subst e;simp
  ·rename_i e;simp only[Yj,ih,X5];by_cases h:k∈r.map (·.1)
   ·simp[h]
   ·simp[h,e]
theorem GX {kv:List (κ×ν)} (hn:(kv.map (·.1)).Nodup) (k:κ) (v:ν):((upd kv k v).map (·.1)).Nodup:=by
 rw[JP];split
 ·exact hn
 ·rename_i h;rw[Yp];refine⟨hn,by simp,?_⟩;intro a ha b hb e;simp at hb;subst hb;subst e;exact h ha
def Jl (ek:κ->Value) (ev:ν->Value) (p:κ×ν) (b:Nat):MapEntry:={ key:=ek p.1,val:=ev p.2,born:=b }
def Bn (ek:κ->Value) (ev:ν->Value) (g:Heap) (m:Nat) (kv:List (κ×ν)) (bs:List Nat) (ck:Nat):Prop:=
 ∃ es:Array MapEntry,g m=U (.map es ck)/\es.toList=List.zipWith (Jl ek ev) kv bs/\bs.length=kv.length/\bs.Nodup/\(∀b∈bs,b<ck)/\(kv.map (·.1)).Nodup
omit[DecidableEq κ] in
theorem Bn.le {ek:κ->Value} {ev:ν->Value} {g h:Heap} {m:Nat} {kv:List (κ×ν)} {bs:List Nat} {ck:Nat} (hm:Bn ek ev g m kv bs ck) (hl:Heap.le g h):Bn ek ev h m kv bs ck:=by
 obtain⟨es,h1,h2⟩:=hm;exact⟨es,hl _ _ h1,h2⟩
theorem Ii {kb:Bk} {ek:κ->Value} [hk:LP kb ek] {ev:ν->Value} (k:κ):∀ (kv:List (κ×ν)) (bs:List Nat) (i:Nat),bs.length=kv.length ->
  Ec kb (ek k) (List.zipWith (Jl ek ev) kv bs) i=U ((CV kv k i).map λp=>(p.1,ev p.2)):=by
 intro kv;induction kv with
 |nil=>intro bs i h;cases bs<;>rfl
 |cons p r ih=>
  intro bs i h;cases bs with
  |nil=>simp at h
  |cons b bs=>
   simp only[AaB,Ec,Jl,hk.eq,CV];by_cases e:k=p.1
   ·simp[e]
   ·simp only[e,decide_false,if_false];exact ih bs (i+1) (by simpa using h)
theorem Bn.rules (kb:Bk) {ek:κ->Value} [LP kb ek] {ev:ν->Value} {h:Heap} {m:Nat} {kv:List (κ×ν)} {bs:List Nat} {ck:Nat} (hm:Bn ek ev h m kv bs ck) :
  (∀z k,A8 h (.lkp kb z) (.v (.map (U m))) (.v (ek k))=U (.v (match look kv k with|some x=>ev x|none=>z))) /\
  (∀z k,A8 h (.lkpo kb z) (.v (.map (U m))) (.v (ek k))=U (.v (match look kv k with|some x=>.tuple #[ev x,.bool true]|none=>.tuple #[z,.bool false]))) /\
  (∀N env,Bw N env h .mlen (.v (.map (U m)))=U (.v (.int .i64 kv.length))):=by
 obtain⟨es,h1,h2,h3,h4,h5,h6⟩:=hm;have he:BL h (.map (U m))=U (List.zipWith (Jl ek ev) kv bs):=by simp[BL,h1,h2]
 refine⟨λz k=>?_,λz k=>?_,λN env=>?_⟩
 ·simp only[A8,he,YE,Ii k kv bs 0 h3,YH,look];cases CV kv k 0<;>rfl
 ·simp only[A8,he,YE,Ii k kv bs 0 h3,YH,look];cases CV kv k 0<;>rfl
 ·simp only[Bw,he,YH,Aap,h3,Nat.min_self]
theorem OX:∀ (kv:List (κ×ν)) (k:κ) (i j:Nat) (v:ν),CV kv k i=U (j,v)->i<=j/\kv[j-i]?=U (k,v)/\∀ w,upd kv k w=kv.set (j-i) (k,w):=by
 intro kv;induction kv with
 |nil=>intro k i j v h;simp[CV]at h
 |cons p r ih=>
  intro k i j v h;simp only[CV]at h;split at h
  ·rename_i e;cases h;subst e;refine⟨Yq _,by simp,λw=>by simp[upd]⟩
  ·rename_i e;obtain⟨h1,h2,h3⟩:=ih _ _ _ _ h;have e2:j-i=(j-(i+1))+1:=oM;refine⟨oM,by rw[e2];simpa using h2,λw=>?_⟩;rw[e2];simp[upd,e,h3 w]
theorem OY {kv:List (κ×ν)} {k:κ} {i:Nat} (h:CV kv k i=O):k∉kv.map (·.1)/\∀ w,upd kv k w=kv++[(k,w)]:=by
 induction kv generalizing i with
 |nil=>simp[upd]
 |cons p r ih=>
  simp only[CV]at h;split at h
  ·cases h
  ·rename_i e;obtain⟨h1,h2⟩:=ih h;refine⟨?_,λw=>by simp[upd,e,h2 w]⟩;simp only[Yj,X5,not_or];exact⟨e,h1⟩
omit[DecidableEq κ] in
theorem Oe {ek:κ->Value} {ev:ν->Value}:∀ (kv:List (κ×ν)) (bs:List Nat) (j:Nat) (k:κ) (v w:ν),bs.length=kv.length->kv[j]?=U (k,v) ->
  (List.zipWith (Jl ek ev) kv bs).modify j (λe=>{ e with key:=ek k,val:=ev w })=List.zipWith (Jl ek ev) (kv.set j (k,w)) bs:=by
 intro kv;induction kv with
 |nil=>intro bs j k v w h hj;simp at hj
 |cons p r ih=>
  intro bs j k v w h hj;cases bs with
  |nil=>simp at h
  |cons b bs=>
   cases j with
   |zero=>simp[Jl]
   |succ j=>simpa using ih bs j k v w (by simpa using h) (by simpa using hj)
theorem BX {kb:Bk} {ek:κ->Value} [LP kb ek] {ev:ν->Value} {N:Num} {Γ:Ctx} {g h:Heap} {m:Nat} {kv:List (κ×ν)} {bs:List Nat} {ck:Nat} (hm:Bn ek ev g m kv bs ck) (hg:Heap.le g h) (k:κ) (v:ν) {K:Value->Heap->Prop}
  (hK:∀ o bs' ck',Bn ek ev (g.set m o) m (upd kv k v) bs' ck'->Av g h (g.set m o) (h.set m o)->(k∈kv.map (·.1)->bs'=bs/\ck'=ck)->K undef (h.set m o)):By N Γ (.mupd kb) [.map (U m),ek k,ev v] h K:=by
 obtain⟨es,h1,h2,h3,h4,h5,h6⟩:=hm;have hgm:g m≠O:=by rw[h1];simp
 refine⟨es,ck,hg _ _ h1,_,by rw[h2];exact Ii k kv bs 0 h3,?_⟩;cases hl:CV kv k 0 with
 |none=>
  obtain⟨n1,n2⟩:=OY hl;simp only[Option.map_none];refine hK _ (bs++[ck]) (ck+1) ⟨_,Aab,?_,?_,?_,?_,?_⟩ (Av.set hg hgm _) (λhk=>absurd hk n1)
  ·rw[n2 v];simp only[Array.toList_push,h2];rw[List.zipWith_append (by simpa using h3.symm)];simp[Jl]
  ·rw[n2 v];simp[h3]
  ·rw[Yp];refine⟨h4,by simp,?_⟩;intro a ha b hb e;simp at hb;subst hb;subst e;exact Nat.lt_irrefl _ (h5 a ha)
  ·intro b hb;simp at hb;rcases hb with hb|rfl
   ·have:=h5 b hb;omega
   ·omega
  ·exact GX h6 k v
 |some p=>
  obtain⟨j,x⟩:=p;obtain⟨_,a2,a3⟩:=OX kv k 0 j x hl;simp only[YH];rw[AaT]at a2;have a3':=a3 v;rw[AaT]at a3';refine hK _ bs ck ⟨_,Aab,?_,?_,h4,h5,?_⟩ (Av.set hg hgm _) (λ_=>⟨rfl,rfl⟩)
  ·rw[a3',<-Oe kv bs j k x v h3 a2,<-h2];simp
  ·rw[a3'];simpa using h3
  ·exact GX h6 k v
omit[DecidableEq κ] in
theorem EX {ek:κ->Value} {ev:ν->Value} {N:Num} {Γ:Ctx} {h:Heap} {K:Value->Heap->Prop}
  (hK:∀ m h',h m=O->Heap.le h h'->Bn ek ev (fr h h') m ([]:List (κ×ν)) [] 0->K (.map (U m)) h'):By N Γ .mnew [] h K:=by
 intro m hm;refine hK m _ hm ((ZX h).new hm _) ⟨#[],?_,by simp,by simp,by simp,by simp,by simp⟩;simp[fr,hm,Heap.set]
def IC (h:Heap) (r m:Nat) (ck:Nat) (dn:List Nat):Prop:=h r=U (.mapIter (U m) ck dn.toArray ck)
theorem Tt {N:Num} {Γ:Ctx} {h:Heap} {m:Nat} {es:Array MapEntry} {ck:Nat} (hm:h m=U (.map es ck)) {K:Value->Heap->Prop}
  (hK:∀ r h',h r=O->Heap.le h h'->IC (fr h h') r m ck []->K (.pointer (U ⟨r,0,O⟩)) h'):By N Γ .rng [.map (U m)] h K:=by
 refine⟨es,ck,hm,λr hr=>hK r _ hr ((ZX h).new hr _) ?_⟩;simp[IC,fr,hr,Heap.set]
theorem Wc {N:Num} {Γ:Ctx} {h:Heap} {K:Value->Heap->Prop}
  (hK:∀ r h',h r=O->Heap.le h h'->fr h h' r=U (.mapIter O 0 #[] 0)->K (.pointer (U ⟨r,0,O⟩)) h'):By N Γ .rng [.map O] h K:=by
 intro r hr;exact hK r _ hr ((ZX h).new hr _) (by simp[fr,hr,Heap.set])
theorem Wd {N:Num} {Γ:Ctx} {h:Heap} {r a b:Nat} {s:Array Nat} (hr:h r=U (.mapIter O a s b)) {K:Value->Heap->Prop} (hK:K (.tuple #[.bool false]) h):By N Γ .nxt [.pointer (U ⟨r,0,O⟩)] h K:=
 .inl ⟨_,_,_,hr,hK⟩
omit[DecidableEq κ] in
theorem Tv {ek:κ->Value} {ev:ν->Value} {N:Num} {Γ:Ctx} {h:Heap} {r m:Nat} {kv:List (κ×ν)} {bs:List Nat} {ck:Nat} (hm:Bn ek ev h m kv bs ck) {dn:List Nat} (hr:IC h r m ck dn) (hsub:∀ b∈dn,b∈bs) {K:Value->Heap->Prop}
  (hend:(∀b∈bs,b∈dn)->K (.tuple #[.bool false]) h)
  (hnext:∀ (i b:Nat) k v,kv[i]?=U (k,v)->bs[i]?=U b->b∉dn->K (.tuple #[.bool true,ek k,ev v]) (h.set r (.mapIter (U m) ck (dn++[b]).toArray ck))):By N Γ .nxt [.pointer (U ⟨r,0,O⟩)] h K:=by
 obtain⟨es,h1,h2,h3,h4,h5,h6⟩:=hm;have hmem:∀ e∈es.toList,∃(i:Nat) (k:κ) (v:ν) (b:Nat),kv[i]?=U (k,v)/\bs[i]?=U b/\e=Jl ek ev (k,v) b:=by
  intro e he;rw[h2]at he;obtain⟨i,hi,rfl⟩:=Z3 he;simp only[Aap]at hi;have hi1:i<kv.length:=oM;have A5:i<bs.length:=oM;exact⟨i,kv[i].1,kv[i].2,bs[i],by simp[hi1],by simp[A5],by simp⟩
 have hborn:∀ e∈es.toList,e.born∈bs/\e.born<ck:=by
  intro e he;obtain⟨i,k,v,b,a1,a2,rfl⟩:=hmem e he;have:=ZY a2;exact⟨this,h5 _ this⟩
 have hnew:(es.filter λe=>!dn.toArray.contains e.born).filter (λe=>decide (e.born≥ck))=#[]:=by
  apply YF.1;simp only[Array.toList_filter];rw[Aal];intro e he;have:=(hborn e (List.mem_filter.1 he).1).2;simp;omega
 have hold:∀ e,e∈((es.filter λe=>!dn.toArray.contains e.born).filter (λe=>decide (e.born<ck)))↔e∈es.toList/\e.born∉dn:=by
  intro e;simp only[Array.mem_filter,AaE];constructor
  ·rintro⟨⟨a,b⟩,_⟩;exact⟨a,by simpa using b⟩
  ·rintro⟨a,b⟩;exact⟨⟨a,by simpa using b⟩,by simpa using(hborn e (by simpa using a)).2⟩
 refine .inr ⟨m,ck,dn.toArray,ck,es,ck,hr,h1,?_,?_,?_⟩
 ·by_cases he:es.isEmpty
  ·simp[he]
  ·have:∃ e,e∈es.toList:=by
    cases hl:es.toList with
    |nil=>exfalso;apply he;simp[Array.isEmpty,<-Zv,hl]
    |cons e l=>exact⟨e,by simp⟩
   obtain⟨e,hme⟩:=this;have hlt:=(hborn e hme).2;have:es.all (λx=>decide (x.born≥ck))=false:=by
    rw[<-Array.all_toList,List.all_eq_false];exact⟨e,hme,by simp;omega⟩
   simp[this]
 ·unfold CN;simp only[hnew];intro h0;simp only[Array.size_append,Array.size_map]at h0;split at h0
  ·simp at h0
  ·rename_i hne;apply hne;simpa using h0
 ·intro c hc;unfold CN at hc;simp only[hnew]at hc;cases c with
  |none=>
   apply hend;simp only[YW,Yd]at hc;rcases hc with hc|hc
   ·split at hc
    ·rename_i hemp;intro b hb;apply Classical.byContradiction;intro hnb;obtain⟨i,hi,rfl⟩:=Z3 hb;have hi1:i<kv.length:=oM;have:Jl ek ev kv[i] bs[i]∈es.toList:=by
      rw[h2];have hlen:i<(List.zipWith (Jl ek ev) kv bs).length:=by simp;omega
      have e:(List.zipWith (Jl ek ev) kv bs)[i]=Jl ek ev kv[i] bs[i]:=by simp
      rw[<-e];exact Aah hlen
     have h7:=(hold _).2 ⟨this,by simpa[Jl]using hnb⟩;simp only[Array.isEmpty_iff]at hemp;rw[hemp]at h7;simp at h7
    ·simp at hc
   ·simp at hc
  |some e=>
   simp only[YW,Yd]at hc;rcases hc with hc|hc
   ·split at hc<;>simp at hc
   ·simp only[Array.append_empty,Array.toList_map,Yu,Option.some.injEq,exists_eq_right,AaE]at hc;obtain⟨a1,a2⟩:=(hold e).1 hc;obtain⟨i,k,v,b,b1,b2,rfl⟩:=hmem e a1;have:=hnext i b k v b1 b2 a2;simpa[Jl]using this
omit[DecidableEq κ] in
theorem Tw {ek:κ->Value} {ev:ν->Value} {N:Num} {Γ:Ctx} {h:Heap} {r m:Nat} {kv:List (κ×ν)} {bs:List Nat} {ck:Nat} (hm:Bn ek ev h m kv bs ck) {dn:List Nat} {b:Nat} (hr:IC h r m ck (dn++[b])) {i:Nat} {k:κ} {v:ν}
  (h1:kv[i]?=U (k,v)) (h2:bs[i]?=U b) {K:Value->Heap->Prop} (hK:K (.tuple #[ek k,ev v]) h):By N Γ .ent [.pointer (U ⟨r,0,O⟩)] h K:=by
 obtain⟨es,a1,a2,a3,a4,a5,a6⟩:=hm;have hfind:∀ (kv:List (κ×ν)) (bs:List Nat) (i:Nat),bs.length=kv.length->bs.Nodup->kv[i]?=U (k,v)->bs[i]?=U b->(List.zipWith (Jl ek ev) kv bs).find? (λe=>e.born==b)=U (Jl ek ev (k,v) b):=by
  intro kv;induction kv with
  |nil=>intro bs i _ _ h;simp at h
  |cons p kr ih=>
   intro bs i hl hn hk hb;cases bs with
   |nil=>simp at hl
   |cons b' bs=>
    cases i with
    |zero=>simp at hk hb;subst hk;subst hb;simp[Jl]
    |succ i=>
     simp only[List.getElem?_cons_succ]at hk hb;simp only[Yr]at hn;have:b'≠b:=by rintro rfl;exact hn.1 (ZY hb)
     simp only[AaB,List.find?_cons];have hf:((Jl ek ev p b').born==b)=false:=by simp[Jl,this]
     rw[hf];exact ih bs i (by simpa using hl) hn.2 hk hb
 refine⟨m,ck,(dn++[b]).toArray,ck,b,es,hr,by simp,a1,Jl ek ev (k,v) b,?_,hK⟩;rw[<-Array.find?_toList,a2];exact hfind kv bs i a3 a4 h1 h2
end
end Go.Cw
namespace Go.Cw
open Go
def Ao:Value->Option Nat
 |.slice (U a) _ _=>U a.block
 |_=>O
def BE {α:Type} (enc:α->List Value) (sz:Nat) (g:Heap) (v:Value) (l:List α):Prop:=
 ∃ a cap,v=.slice a l.length cap/\l.length<=cap/\cap<=maxLen /\
  ((a=O/\l=[]/\cap=0)\/∃ b c t,a=U ⟨b,0,O⟩/\g b=U (.cells c t (0,0))/\c.size=cap*sz/\∀ i,i<(l.flatMap enc).length->c[i]?=(l.flatMap enc)[i]?)
theorem BE.own {α:Type} {enc:α->List Value} {sz:Nat} {g h0:Heap} {v:Value} {l:List α} (hs:BE enc sz g v l) (hl:Heap.le h0 g) (hb:∀ b,Ao v=U b->h0 b=O):AQ enc sz h0 g v l:=by
 obtain⟨a,cap,rfl,h1,h2,h3⟩:=hs;refine⟨hl,a,cap,rfl,h1,h2,h3.imp id ?_⟩;rintro⟨b,c,t,rfl,h4,h5,h6⟩;exact⟨b,c,t,rfl,hb b rfl,h4,h5,h6⟩
theorem AQ.slb {α:Type} {enc:α->List Value} {sz:Nat} {g h0:Heap} {v:Value} {l:List α} (hs:AQ enc sz h0 g v l):BE enc sz g v l/\∀ b,Ao v=U b->h0 b=O:=by
 obtain⟨_,a,cap,rfl,h1,h2,h3⟩:=hs;refine⟨⟨a,cap,rfl,h1,h2,h3.imp id ?_⟩,?_⟩
 ·rintro⟨b,c,t,rfl,_,h4,h5,h6⟩;exact⟨b,c,t,rfl,h4,h5,h6⟩
 ·intro b hb;rcases h3 with⟨rfl,_⟩|⟨b',c,t,rfl,h3,_⟩
  ·simp[Ao]at hb
  ·simp only[Ao,Option.some.injEq]at hb;subst hb;exact h3
theorem BE.nil {α:Type} {enc:α->List Value} {sz:Nat} {g:Heap}:BE enc sz g (.slice O 0 0) ([]:List α):=⟨O,0,rfl,by simp,by simp[maxLen],.inl ⟨rfl,rfl,rfl⟩⟩
theorem BE.mem {α:Type} {enc:α->List Value} {sz:Nat} {g:Heap} {v:Value} {l:List α} (hs:BE enc sz g v l) {b:Nat} (hb:Ao v=U b):g b≠O:=by
 obtain⟨a,cap,rfl,h1,h2,h3⟩:=hs;rcases h3 with⟨rfl,_⟩|⟨b',c,t,rfl,h3,_⟩
 ·simp[Ao]at hb
 ·simp only[Ao,Option.some.injEq]at hb;subst hb;rw[h3];simp
theorem BE.same {α:Type} {enc:α->List Value} {sz:Nat} {g g':Heap} {v:Value} {l:List α} (hs:BE enc sz g v l) (hb:∀ b,Ao v=U b->g' b=g b):BE enc sz g' v l:=by
 obtain⟨a,cap,rfl,h1,h2,h3⟩:=hs;refine⟨a,cap,rfl,h1,h2,h3.imp id ?_⟩;rintro⟨b,c,t,rfl,h4,h5,h6⟩;exact⟨b,c,t,rfl,by rw[hb b rfl];exact h4,h5,h6⟩
theorem BE.le {α:Type} {enc:α->List Value} {sz:Nat} {g g':Heap} {v:Value} {l:List α} (hs:BE enc sz g v l) (hl:Heap.le g g'):BE enc sz g' v l:=by
 refine hs.same λb hb=>?_;cases hg:g b with
 |none=>exact absurd hg (hs.mem hb)
 |some o=>exact hl b o hg
theorem BE.sl {α:Type} {enc:α->List Value} {sz:Nat} (he:∀ x,(enc x).length=sz) {g:Heap} {v:Value} {l:List α} (hs:BE enc sz g v l):Sl enc g v l:=by
 have:=hs.own (h0:=λ_=>O) (λb o h=>by cases h) (λ_ _=>rfl);exact this.sl he
theorem BE.one {α:Type} {enc:α->List Value} {sz:Nat} {g:Heap} {v:Value} {l:List α} (hs:BE enc sz g v l):Cw.one v=true/\v.cells=#[v]:=by
 obtain⟨a,cap,rfl,_⟩:=hs;exact⟨rfl,rfl⟩
theorem Bg {α:Type} (enc:α->List Value) (sz:Nat) (he:∀ x,(enc x).length=sz) (l:List α) {N:Num} {Γ:Ctx} {h:Heap} {t n:Nat} {c:Array Value} {K:Value->Heap->Prop} (hc:c.toList=l.flatMap enc) (hn:n=l.length) (hm:l.length<=maxLen)
  (hx:∀ v b h',Heap.le h h'->h b=O->Ao v=U b->BE enc sz (fr h h') v l->K v h'):By N Γ (.bsl t n) [.agg c] h K:=by
 subst hn;intro b hb;refine hx _ b _ ((ZX h).new hb _) hb rfl ⟨_,_,rfl,Yq _,hm,.inr ⟨b,c,N.tid t,rfl,by simp[fr,hb,Heap.set],?_,?_⟩⟩
 ·rw[<-Zv,hc,AZ he]
 ·intro i hi;rw[<-Array.getElem?_toList,hc]
theorem Cc {α:Type} {enc:α->List Value} {sz:Nat} (he:∀ x,(enc x).length=sz) {N:Num} {Γ:Ctx} {g h:Heap} {t bytes:Nat} {v x:Value} {l l':List α} (hone:∀ x∈l',(enc x).all Cw.one=true)
  (hs:BE enc sz g v l) (hg:Heap.le g h) (hx:Sl enc h x l') (hlen:(l.length+l'.length)*(bytes+1)<=1073741824) {K:Value->Heap->Prop}
  (hK:∀ v' h' g',BE enc sz g' v' (l++l')->Av g h g' h'->(∀b,Ao v≠U b->Ao v'≠U b->g' b=g b)->(∀b,Ao v'=U b->Ao v=U b\/h b=O) ->
   (∀b o,h b=U o->Ao v≠U b->h' b=U o)->K v' h'):By N Γ (.app t sz bytes) [v,x] h K:=by
 have hown:AQ enc sz (λb=>if Ao v=U b then O else h b) h v l:=by
  refine(hs.le hg).own ?_ ?_
  ·intro b o hb;dsimp only at hb;split at hb
   ·cases hb
   ·exact hb
  ·intro b hb;simp[hb]
 refine D7 he hone hown hx hlen λv' h' ho=>?_;obtain⟨h1,h2⟩:=ho.slb;have hle:=ho.1;refine hK v' h' (λb=>if Ao v'=U b then h' b else if Ao v=U b then O else g b) ?_ ⟨?_,?_,?_⟩ ?_ ?_ ?_
 ·exact h1.same λb hb=>by simp[hb]
 ·intro b o hb;dsimp only at hb;split at hb
  ·exact hb
  ·split at hb
   ·cases hb
   ·rename_i hv;exact hle b o (by simp[hv];exact hg b o hb)
 ·intro b o hb hgb;have hv:Ao v≠U b:=λe=>hs.mem e hgb;exact hle b o (by simp[hv];exact hb)
 ·intro b hb hgb;have hv:Ao v≠U b:=λe=>hs.mem e hgb;have hv':Ao v'≠U b:=by
   intro e;have:=h2 b e;simp only[hv,if_false]at this;exact hb this
  simp[hv,hv',hgb]
 ·intro b hv hv';simp[hv,hv']
 ·intro b hb;have:=h2 b hb;by_cases e:Ao v=U b
  ·exact .inl e
  ·simp only[e,if_false]at this;exact .inr this
 ·intro b o hb hv;exact hle b o (by simp[hv];exact hb)
theorem AQ.slf2 {α:Type} {enc:α->List Value} {sz:Nat} (he:∀ x,(enc x).length=sz) {h0 h:Heap} {v:Value} {l:List α} (ho:AQ enc sz h0 h v l):Sl enc (fr h0 h) v l:=
 BE.sl he (ho.slb.1.same λb hb=>by simp[fr,ho.slb.2 b hb])
structure Si where
 place:Int
 strength:Int
 time:Int
 tag:List UInt8
 deriving DecidableEq,Inhabited
def Si.enc (s:Si):List Value:=[.int .i64 s.place,.int .i64 s.strength,.int .i64 s.time,.string (str s.tag)]
theorem Si.enc_len (s:Si):s.enc.length=4:=rfl
theorem Si.enc_one (s:Si):s.enc.all one=true:=rfl
def Si.bad (s:Si):Prop:=s.place<0\/7<s.place\/s.strength<0\/255<s.strength
instance Si.decBad (s:Si):Decidable s.bad:=by unfold Si.bad;infer_instance
def AN (l:List Si) (tag:List UInt8) (p:Int):Prop:=∃ s∈l,s.tag=tag/\s.place=p
instance (l:List Si) (tag:List UInt8) (p:Int):Decidable (AN l tag p):=by unfold AN;infer_instance
def Gg (l:List Si) (tag:List UInt8) (p:Int):Int:=((l.filter λs=>decide (s.tag=tag/\s.place=p)).map (·.strength)).sum
def C9 (l:List Si) (tag:List UInt8):Prop:=∃ s∈l,s.tag=tag
instance (l:List Si) (tag:List UInt8):Decidable (C9 l tag):=by unfold C9;infer_instance
abbrev Ep:=List (List UInt8×List (Int×Int))
def T3 (E:Ep) (s:Si):Ep:=upd E s.tag (upd ((look E s.tag).getD []) s.place ((look ((look E s.tag).getD []) s.place).getD 0+s.strength))
def BV (l:List Si):Ep:=l.foldl T3 []
theorem JR (l:List Si) (s:Si):BV (l++[s])=T3 (BV l) s:=by simp[BV]
theorem BG {α:Type} {P:List α->Prop} (h0:P []) (hs:∀ l a,P l->P (l++[a])) (l:List α):P l:=by
 have:∀ n (l:List α),l.length=n->P l:=by
  intro n;induction n with
  |zero=>intro l h;rw[Zs h];exact h0
  |succ n ih=>
   intro l h;rcases AaC l with rfl|⟨l',a,rfl⟩
   ·exact h0
   ·rw[AaD]at h ⊢;exact hs l' a (ih l' (by simpa using h))
 exact this _ l rfl
theorem G4 (l:List Si) (s:Si) (tag:List UInt8) (p:Int):AN (l++[s]) tag p↔AN l tag p\/(s.tag=tag/\s.place=p):=by
 simp only[AN,Yd,YA];constructor
 ·rintro⟨x,hx|rfl,h⟩
  ·exact .inl ⟨x,hx,h⟩
  ·exact .inr h
 ·rintro(⟨x,hx,h⟩|h)
  ·exact⟨x,.inl hx,h⟩
  ·exact⟨s,.inr rfl,h⟩
theorem ML (l:List Si) (s:Si) (tag:List UInt8):C9 (l++[s]) tag↔C9 l tag\/s.tag=tag:=by
 simp only[C9,Yd,YA];constructor
 ·rintro⟨x,hx|rfl,h⟩
  ·exact .inl ⟨x,hx,h⟩
  ·exact .inr h
 ·rintro(⟨x,hx,h⟩|h)
  ·exact⟨x,.inl hx,h⟩
  ·exact⟨s,.inr rfl,h⟩
theorem FH (l:List Si) (s:Si) (tag:List UInt8) (p:Int):Gg (l++[s]) tag p=Gg l tag p+(if s.tag=tag/\s.place=p then s.strength else 0):=by
 unfold Gg;rw[AaI,Aam,List.sum_append];by_cases h:s.tag=tag/\s.place=p<;>simp[h]
theorem Lf {l:List Si} {tag:List UInt8} {p:Int} (h:¬ AN l tag p):Gg l tag p=0:=by
 unfold Gg;have:l.filter (λs=>decide (s.tag=tag/\s.place=p))=[]:=by
  rw[Aal];intro s hs hd;exact h ⟨s,hs,by simpa using hd⟩
 rw[this];rfl
theorem Ga (l:List Si):(∀tag,look (BV l) tag=O↔¬ C9 l tag)/\((BV l).map (·.1)).Nodup /\
  ∀ tag pl,look (BV l) tag=U pl->(pl.map (·.1)).Nodup/\∀ p,look pl p=if AN l tag p then U (Gg l tag p)else O:=by
 induction l using BG with
 |h0=>
  refine⟨λtag=>?_,by simp[BV],λtag pl h=>by simp[BV,Bd]at h⟩;simp[BV,Bd,C9]
 |hs l s ih=>
  obtain⟨i1,i2,i3⟩:=ih;rw[JR];refine⟨λtag=>?_,GX i2 _ _,λtag pl h=>?_⟩
  ·rw[T3,A6,ML];by_cases e:tag=s.tag
   ·rw[if_pos e];simp[e]
   ·rw[if_neg e,i1 tag];have:¬ s.tag=tag:=λh=>e h.symm;simp[this]
  ·rw[T3,A6]at h;by_cases e:tag=s.tag
   ·rw[if_pos e]at h;cases h;have hpl:(((look (BV l) s.tag).getD []).map (·.1)).Nodup/\∀ p,look ((look (BV l) s.tag).getD []) p=if AN l s.tag p then U (Gg l s.tag p)else O:=by
     cases hh:look (BV l) s.tag with
     |none=>
      have h1:=(i1 s.tag).1 hh;refine⟨by simp,λp=>?_⟩;have:¬ AN l s.tag p:=by rintro⟨x,hx,h2,_⟩;exact h1 ⟨x,hx,h2⟩
      simp[this,Bd]
     |some pl=>exact i3 s.tag pl hh
    subst e;refine⟨GX hpl.1 _ _,λp=>?_⟩;rw[A6];by_cases e2:p=s.place
    ·subst e2;have h1:AN (l++[s]) s.tag s.place:=(G4 ..).2 (.inr ⟨rfl,rfl⟩);rw[if_pos rfl,if_pos h1,FH,if_pos ⟨rfl,rfl⟩,hpl.2 s.place];by_cases h2:AN l s.tag s.place
     ·rw[if_pos h2];rfl
     ·rw[if_neg h2,Lf h2];rfl
    ·have h1:AN (l++[s]) s.tag p↔AN l s.tag p:=by
      rw[G4];constructor
      ·rintro(h|⟨_,h⟩)
       ·exact h
       ·exact absurd h.symm e2
      ·exact .inl
     rw[if_neg e2,FH,if_neg (show ¬(s.tag=s.tag/\s.place=p)from λh=>e2 h.2.symm),hpl.2 p];by_cases h2:AN l s.tag p
     ·rw[if_pos h2,if_pos (h1.2 h2)];simp
     ·rw[if_neg h2,if_neg (λh=>h2 (h1.1 h))]
   ·rw[if_neg e]at h;obtain⟨a,b⟩:=i3 tag pl h;refine⟨a,λp=>?_⟩;have hne:¬ (s.tag=tag):=λh=>e h.symm;have h1:AN (l++[s]) tag p↔AN l tag p:=by
     rw[G4];constructor
     ·rintro(h|⟨h,_⟩)
      ·exact h
      ·exact absurd h hne
     ·exact .inl
    rw[b p,FH,if_neg (show ¬(s.tag=tag/\s.place=p)from λh=>hne h.1)];by_cases h2:AN l tag p
    ·rw[if_pos h2,if_pos (h1.2 h2)];simp
    ·rw[if_neg h2,if_neg (λh=>h2 (h1.1 h))]
theorem Ge {l:List Si} (hb:∀ s∈l,¬s.bad) (tag:List UInt8) (p:Int):0<=Gg l tag p/\Gg l tag p<=255*l.length:=by
 induction l using BG with
 |h0=>simp[Gg]
 |hs l s ih=>
  have h1:=ih λx hx=>hb x (by simp[hx]);have h2:=hb s (by simp);simp only[Si.bad]at h2;rw[FH];simp only[Zk,Y5,ZR];split<;>omega
theorem Oy {l:List Si} (hb:∀ s∈l,¬s.bad) {tag:List UInt8} {p:Int} (h:AN l tag p):0<=p/\p<=7:=by
 obtain⟨s,hs,_,rfl⟩:=h;have:=hb s hs;simp only[Si.bad]at this;omega
def BJ (W:List (List Si)) (tag:List UInt8) (p:Int):Nat:=(W.filter λl=>decide (AN l tag p)).length
def BW (W:List (List Si)) (tag:List UInt8) (p:Int):Int:=(W.map λl=>Gg l tag p).sum
def Bf (need:Nat) (cnt:Int->Nat) (st:Int->Int):Nat->Int
 |0=>-1
 |p+1=>if cnt p<need then Bf need cnt st p else if Bf need cnt st p<0\/cnt (Bf need cnt st p)<cnt p\/(cnt p=cnt (Bf need cnt st p)/\st (Bf need cnt st p)<st p)then p else Bf need cnt st p
def Xi (need:Nat) (W:List (List Si)) (tag:List UInt8):Int:=Bf need (BJ W tag) (BW W tag) 8
def Iy (window need:Nat) (EL:List (List Si)) (tag:List UInt8):Int:=Xi need (EL.drop (EL.length-window)) tag
theorem Mv (need:Nat) (cnt:Int->Nat) (st:Int->Int):∀ n,-1<=Bf need cnt st n/\Bf need cnt st n<n:=by
 intro n;induction n with
 |zero=>simp[Bf]
 |succ n ih=>simp only[Bf];split<;>(try split)<;>omega
theorem LH (W:List (List Si)) (l:List Si) (tag:List UInt8) (p:Int):BJ (W++[l]) tag p=BJ W tag p+if AN l tag p then 1 else 0:=by
 unfold BJ;rw[AaI,Zk];by_cases h:AN l tag p<;>simp[h]
theorem IJ (W:List (List Si)) (l:List Si) (tag:List UInt8) (p:Int):BW (W++[l]) tag p=BW W tag p+Gg l tag p:=by
 unfold BW;simp
theorem Qq (W:List (List Si)) (tag:List UInt8) (p:Int):BJ W tag p<=W.length:=List.length_filter_le _ _
theorem JT {W:List (List Si)} (hb:∀ l∈W,(∀s∈l,¬s.bad)/\l.length<=1000000) (tag:List UInt8) (p:Int):0<=BW W tag p/\BW W tag p<=255000000*W.length:=by
 induction W using BG with
 |h0=>simp[BW]
 |hs W l ih=>
  have h1:=ih λx hx=>hb x (by simp[hx]);obtain⟨h2,h3⟩:=hb l (by simp);have h4:=Ge h2 tag p;rw[IJ];simp only[Zk,Y5,ZR];omega
structure Tg where
 kind:Int
 filter:Int
 part:Int
 company:Int
 ref:Int
 serial:Int
 deriving DecidableEq,Inhabited
def Tg.zero:Tg:=⟨0,0,0,0,0,0⟩
structure Pa where
 cb:Nat
 cd:Nat
 rb:Nat
 rd:Nat
 deriving DecidableEq,Inhabited
def Pa.enc (p:Pa):List Value:=[.int .i64 p.cb,.int .i64 p.cd,.int .i64 p.rb,.int .i64 p.rd]
def A4 (p:Int):Option Pa:=
 if p=0 then U ⟨20,6,6,1⟩else if p=1 then U ⟨17,5,9,2⟩else if p=2 then U ⟨14,4,12,3⟩else if p=3 then U ⟨10,3,16,4⟩else if p=4 then U ⟨7,2,19,5⟩else if p=5 then U ⟨4,1,22,6⟩else O
theorem Em {p:Int}:A4 p=O↔p<0\/6<=p:=by
 unfold A4
 repeat' split
 all_goals simp
 all_goals omega
theorem AW {p:Int} {a:Pa} (h:A4 p=U a):a.cb+a.rb=26/\1<=a.cd/\a.cd<=6/\1<=a.rd/\a.rd<=6/\4<=a.cb/\a.cb<=20/\6<=a.rb/\a.rb<=22:=by
 unfold A4 at h
 repeat' split at h
 all_goals first|(cases h;done)|(cases h;simp)
def Tg.bad (t:Tg):Prop:=match A4 t.part with
 |none=>True
 |some a=>t.kind<1\/3<t.kind\/t.filter<0\/7<t.filter\/t.serial<0\/16777215<t.serial\/t.company<0\/(10^a.cd:Nat)<=t.company\/t.ref<0\/(10^a.rd:Nat)<=t.ref
instance Tg.decBad (t:Tg):Decidable t.bad:=by unfold Tg.bad;split<;>infer_instance
def FL (b:List UInt8):Nat:=b.foldl (λa x=>a*256+x.toNat) 0
theorem M8 (b:List UInt8) (x:UInt8):FL (b++[x])=FL b*256+x.toNat:=by simp[FL]
theorem OT (b:List UInt8):FL b<256^b.length:=by
 induction b using BG with
 |h0=>simp[FL]
 |hs b x ih=>
  have:=x.toNat_lt;rw[M8,Zk,Zo,ZE];omega
def LL (b:List UInt8) (i:Nat):Nat:=(b.getD (i/8) 0).toNat/2^(7-i%8)%2
theorem OU (y:Nat) {s:Nat} (hs:s<=7):(y%256)/2^s%2=y/2^s%2:=by
 have:s=0\/s=1\/s=2\/s=3\/s=4\/s=5\/s=6\/s=7:=oM;rcases this with rfl|rfl|rfl|rfl|rfl|rfl|rfl|rfl<;>simp only[Nat.reducePow]<;>omega
theorem TY {b:List UInt8} (hb:b.length=8) {j:Nat} (hj:j<8):(b.getD j 0).toNat=FL b/2^(56-8*j)%256:=by
 match b,hb with
 |[b0,b1,b2,b3,b4,b5,b6,b7],_=>
  have h0:=b0.toNat_lt;have h1:=b1.toNat_lt;have h2:=b2.toNat_lt;have h3:=b3.toNat_lt;have h4:=b4.toNat_lt;have h5:=b5.toNat_lt;have h6:=b6.toNat_lt;have h7:=b7.toNat_lt;unfold FL;simp only[Aan,Aay];have:j=0\/j=1\/j=2\/j=3\/j=4\/j=5\/j=6\/j=7:=oM;rcases this with rfl|rfl|rfl|rfl|rfl|rfl|rfl|rfl<;>simp only[Z6,Z8,Nat.reduceMul,Nat.reduceSub,Nat.reducePow]<;>omega
theorem Sb {b:List UInt8} (hb:b.length=8) {i:Nat} (hi:i<64):LL b i=FL b/2^(63-i)%2:=by
 unfold LL;rw[TY hb (show i/8<8 by omega),OU _ oM,Z1,<-Aaf];congr 3;omega
def Cx (b:List UInt8) (at_:Nat):Nat->Nat
 |0=>0
 |k+1=>2*Cx b at_ k+LL b (at_+k)
theorem OI {b:List UInt8} (hb:b.length=8) (at_:Nat):∀ k,at_+k<=64->Cx b at_ k=FL b/2^(64-at_-k)%2^k:=by
 intro k;induction k with
 |zero=>intro _;simp[Cx,AaX]
 |succ k ih=>
  intro h;rw[Cx,ih oM,Sb hb oM];have e1:64-at_-k=(64-at_-(k+1))+1:=oM;have e2:63-(at_+k)=64-at_-(k+1):=oM;rw[e1,e2,ZE,ZE,<-Z1,Aao (2^k) 2,AaY];omega
def Hp (n:Nat) (a:Pa):Tg:=⟨((n/2^56:Nat):Int)-47,(n/2^53%8:Nat),(n/2^50%8:Nat),(n/2^(24+a.rb)%2^a.cb:Nat),(n/2^24%2^a.rb:Nat),(n%2^24:Nat)⟩
def BS (b:List UInt8):Option Tg:=
 if b.length≠8 then O else match A4 (FL b/2^50%8:Nat)with
  |none=>O
  |some a=>if(Hp (FL b) a).bad then O else U (Hp (FL b) a)
def AK (b:List UInt8):Int:=match BS b with
 |none=>0
 |some t=>t.kind
def CI (c:UInt8):List UInt8->List (List UInt8)
 |[]=>[[]]
 |x::r=>if x=c then[]::CI c r else match CI c r with
  |[]=>[[x]]
  |p::q=>(x::p)::q
theorem J2 (c:UInt8) (s:List UInt8):CI c s≠[]:=by
 cases s with
 |nil=>simp[CI]
 |cons x r=>
  unfold CI;split
  ·simp
  ·split<;>simp
theorem IM {c:UInt8}:∀ {s:List UInt8},c∉s->CI c s=[s]:=by
 intro s;induction s with
 |nil=>intro _;rfl
 |cons x r ih=>
  intro h;rw[X5,not_or]at h;unfold CI;rw[if_neg (Ne.symm h.1),ih h.2]
theorem FJ {c:UInt8}:∀ {a b:List UInt8},c∉a->CI c (a++c::b)=a::CI c b:=by
 intro a b;induction a with
 |nil=>intro _;simp[CI]
 |cons x r ih=>
  intro h;rw[X5,not_or]at h;rw[Y7,CI,if_neg (Ne.symm h.1),ih h.2]
def B5 (c:UInt8) (s:List UInt8):List UInt8:=s.takeWhile λx=>x≠c
def Ct (c:UInt8) (s:List UInt8):List UInt8:=(s.dropWhile λx=>x≠c).drop 1
theorem RY {c:UInt8}:∀ {a b:List UInt8},c∉a->B5 c (a++c::b)=a/\Ct c (a++c::b)=b:=by
 intro a b;induction a with
 |nil=>intro _;simp[B5,Ct]
 |cons x r ih=>
  intro h;rw[X5,not_or]at h;obtain⟨h1,h2⟩:=ih h.2;unfold B5 Ct at *;have hx:(decide (x≠c))=true:=by simpa using Ne.symm h.1
  rw[Y7,AaF,if_pos hx,AaH,if_pos hx];exact⟨by rw[h1],h2⟩
theorem Uw {c:UInt8}:∀ {s:List UInt8},c∈s->CI c s=B5 c s::CI c (Ct c s):=by
 intro s;induction s with
 |nil=>intro h;simp at h
 |cons x r ih=>
  intro h;by_cases hx:x=c
  ·subst hx;simp[CI,B5,Ct]
  ·rw[CI,if_neg hx];have h2:c∈r:=by
    rw[X5]at h;rcases h with e|h
    ·exact absurd e.symm hx
    ·exact h
   have hd:(decide (x≠c))=true:=by simpa using hx
   have e1:B5 c (x::r)=x::B5 c r:=by unfold B5;rw[AaF,if_pos hd]
   have e2:Ct c (x::r)=Ct c r:=by unfold Ct;rw[AaH,if_pos hd]
   rw[ih h2,e1,e2]
def Fx (s:List UInt8):Prop:=∀ b∈s,48<=b.toNat/\b.toNat<=57
instance (s:List UInt8):Decidable (Fx s):=by unfold Fx;infer_instance
def Az (s:List UInt8):Nat:=s.foldl (λa b=>10*a+(b.toNat-48)) 0
theorem G7 (s:List UInt8) (b:UInt8):Az (s++[b])=10*Az s+(b.toNat-48):=by simp[Az]
theorem DW (n:Nat):Az (Bo n)=n:=by
 induction n using Nat.strongRecOn with
 |_ n ih=>
  by_cases h:n<10
  ·rw[Cn h];simp[Az,DT];omega
  ·rw[DJ oM,G7,ih _ oM,DT];omega
theorem Ph:∀ (k a:Nat),(Z7 k (48:UInt8)).foldl (λa b=>10*a+(b.toNat-48)) 0=0:=by
 intro k _;induction k with
 |zero=>rfl
 |succ k ih=>rw[List.replicate_succ,Aan];exact ih
def D0 (n w:Nat):List UInt8:=Z7 (w-(Bo n).length) 48++Bo n
theorem M7 (n w:Nat):Az (D0 n w)=n:=by
 unfold D0 Az;rw[Aat,Ph _ 0];exact DW n
theorem CB (n:Nat):Fx (Bo n):=KD n
theorem E3 (n w:Nat):Fx (D0 n w):=by
 intro b hb;unfold D0 at hb;rw[Yd]at hb;rcases hb with hb|hb
 ·rw[List.mem_replicate]at hb;rw[hb.2];decide
 ·exact CB n b hb
theorem H9 {n w:Nat} (h:n<10^w) (hw:0<w):(D0 n w).length=w:=by
 unfold D0;have:=AG w h hw;rw[Zk,Aag];omega
theorem L9 (n w:Nat):D0 n w≠[]:=by
 unfold D0;intro h;exact DI n (List.append_eq_nil_iff.1 h).2
theorem Du {s:List UInt8} (h:Fx s) {c:UInt8} (hc:c.toNat<48\/57<c.toNat):c∉s:=by
 intro hm;have:=h c hm;omega
theorem G8 {s:List UInt8} (h:Fx s):Az s<10^s.length:=by
 induction s using BG with
 |h0=>simp[Az]
 |hs s x ih=>
  have h1:=ih (λb hb=>h b (by simp[hb]));have h2:=h x (by simp);rw[G7,Zk,Zo,ZE];omega
def Dh (k:Int):List UInt8:=if k=2 then[99,97,115,101]else if k=3 then[112,97,108,108,101,116]else[105,116,101,109]
def EJ (t:Tg) (a:Pa):List UInt8:=Bo t.filter.toNat++46::(D0 t.company.toNat a.cd++46::(D0 t.ref.toNat a.rd++46::Bo t.serial.toNat))
def Ld (t:Tg) (a:Pa):List UInt8:=Dh t.kind++58::EJ t a
def Bc (t:Tg):List UInt8:=Ld t ((A4 t.part).getD ⟨0,0,0,0⟩)
theorem Nh (k:Int):(58:UInt8)∉Dh k:=by
 unfold Dh;split
 ·decide
 ·split<;>decide
theorem Rx {k k':Int} (h1:1<=k) (h2:k<=3) (h3:1<=k') (h4:k'<=3) (h:Dh k=Dh k'):k=k':=by
 unfold Dh at h
 repeat' split at h
 all_goals first|omega|(simp at h;done)
theorem QF (t:Tg) (a:Pa):CI 46 (EJ t a)=[Bo t.filter.toNat,D0 t.company.toNat a.cd,D0 t.ref.toNat a.rd,Bo t.serial.toNat]:=by
 have h:(46:UInt8).toNat<48\/57<(46:UInt8).toNat:=.inl (by decide);unfold EJ;rw[FJ (Du (CB _) h),FJ (Du (E3 _ _) h),FJ (Du (E3 _ _) h),IM (Du (CB _) h)]
theorem SH (t:Tg) (a:Pa):(58:UInt8)∉EJ t a:=by
 have h:(58:UInt8).toNat<48\/57<(58:UInt8).toNat:=.inr (by decide);unfold EJ;have h1:=Du (CB t.filter.toNat) h;have h2:=Du (E3 t.company.toNat a.cd) h;have h3:=Du (E3 t.ref.toNat a.rd) h;have h4:=Du (CB t.serial.toNat) h;have h5:(58:UInt8)≠46:=by decide
 simp only[Yd,X5,not_or];exact⟨h1,h5,h2,h5,h3,h5,h4⟩
theorem Tg.good {t:Tg} (h:¬ t.bad):∃ a,A4 t.part=U a/\1<=t.kind/\t.kind<=3/\0<=t.filter/\t.filter<=7/\0<=t.serial/\t.serial<=16777215/\0<=t.company/\t.company<(10^a.cd:Nat)/\0<=t.ref/\t.ref<(10^a.rd:Nat):=by
 unfold Tg.bad at h;split at h
 ·exact absurd trivial h
 ·rename_i a ha;exact⟨a,ha,oM⟩
theorem OO {p:Int} {a:Pa} (h:A4 p=U a):p=6-(a.cd:Int):=by
 unfold A4 at h
 repeat' split at h
 all_goals first|(cases h;done)|(cases h;simp;omega)
theorem GZ {t:Tg} (h:¬ t.bad):∃ a,A4 t.part=U a/\B5 58 (Bc t)=Dh t.kind/\Ct 58 (Bc t)=EJ t a/\CI 58 (Bc t)=[Dh t.kind,EJ t a] /\
  CI 46 (EJ t a)=[Bo t.filter.toNat,D0 t.company.toNat a.cd,D0 t.ref.toNat a.rd,Bo t.serial.toNat] /\
  (Bo t.filter.toNat).length<=8/\(D0 t.company.toNat a.cd).length=a.cd/\(D0 t.ref.toNat a.rd).length=a.rd/\(Bo t.serial.toNat).length<=8/\t.part=6-(a.cd:Int)/\a.cd<=6/\a.rd<=6 /\
  (Az (Bo t.filter.toNat):Int)=t.filter/\(Az (D0 t.company.toNat a.cd):Int)=t.company/\(Az (D0 t.ref.toNat a.rd):Int)=t.ref/\(Az (Bo t.serial.toNat):Int)=t.serial/\1<=t.kind/\t.kind<=3:=by
 obtain⟨a,ha,k1,k2,f1,f2,s1,s2,c1,c2,r1,r2⟩:=Tg.good h;have hp:=AW ha;have e:Bc t=Dh t.kind++58::EJ t a:=by unfold Bc;rw[ha];rfl
 obtain⟨q1,q2⟩:=RY (b:=EJ t a) (Nh t.kind);refine⟨a,ha,by rw[e];exact q1,by rw[e];exact q2,?_,QF t a,AG 8 oM oM,H9 oM oM,H9 oM oM,AG 8 oM oM,OO ha,hp.2.2.1,hp.2.2.2.2.1,?_,?_,?_,?_,k1,k2⟩
 ·rw[e,FJ (Nh t.kind),IM (SH t a)]
 ·rw[DW];omega
 ·rw[M7];omega
 ·rw[M7];omega
 ·rw[DW];omega
theorem FZ {t u:Tg} (h1:¬ t.bad) (h2:¬ u.bad) (h:Bc t=Bc u):t=u:=by
 obtain⟨a,ha,p1,p2,_,p3,_,p4,p5,_,p6,_,_,n1,n2,n3,n4,k1,k2⟩:=GZ h1;obtain⟨b,hb,q1,q2,_,q3,_,q4,q5,_,q6,_,_,m1,m2,m3,m4,l1,l2⟩:=GZ h2;rw[h]at p1 p2;have e1:=Rx k1 k2 l1 l2 (p1.symm.trans q1);have e2:EJ t a=EJ u b:=p2.symm.trans q2;rw[e2,q3]at p3;simp only[List.cons.injEq,and_true]at p3;obtain⟨x1,x2,x3,x4⟩:=p3;rw[<-x1,m1]at n1;rw[<-x2,m2]at n2;rw[<-x3,m3]at n3;rw[<-x4,m4]at n4;have e3:a.cd=b.cd:=by rw[<-p4,<-q4,x2]
 cases t;cases u;simp only[Tg.mk.injEq];dsimp only at *;exact⟨e1,n1.symm,oM,n2.symm,n3.symm,n4.symm⟩
def E6 (b:Nat):Value:=.map (U b)
def Fw (b:Nat):List Value:=[E6 b]
def Vy (g:Heap) (m:Nat) (E:Ep):Prop:=∃ kv bs ck,Bn AF E6 g m kv bs ck/\(∀tag,look kv tag=O↔look E tag=O) /\
 ∀ tag b,look kv tag=U b->∃ pl bs ck,look E tag=U pl/\Bn Bm Bm g b pl bs ck
theorem Vy.le {g h:Heap} {m:Nat} {E:Ep} (he:Vy g m E) (hl:Heap.le g h):Vy h m E:=by
 obtain⟨kv,bs,ck,h1,h2,h3⟩:=he;exact⟨kv,bs,ck,h1.le hl,h2,λtag b hb=>let ⟨pl,bs,ck,a,c⟩:=h3 tag b hb;⟨pl,bs,ck,a,c.le hl⟩⟩
structure XR (h:Heap) (a:Addr) (window need:Nat) (EL:List (List Si)):Prop where
 ex:∃ ev wv ems,Ah h a [.int .i64 window,.int .i64 need,ev,wv]/\Sl Fw h ev ems/\ems.length=EL.length/\∀ i,i<EL.length->Vy h (ems.getD i 0) (BV (EL.getD i []))
structure Ws (window need:Nat) (EL:List (List Si)):Prop where
 w:1<=window/\window<=8
 n:1<=need/\need<=window
 len:EL.length<=100000
 ok:∀ l∈EL,(∀s∈l,¬s.bad)/\l.length<=1000000
theorem Sl.lsl {α:Type} {enc:α->List Value} {sz:Nat} (he:∀ x,(enc x).length=sz) {h:Heap} {v:Value} {l:List α} (hs:Sl enc h v l) {lo hi:Nat} (h1:lo<=hi) (h2:hi<=l.length) :
  ∃ v',(∀k k',JE (.lsl sz) (.v v) (.v (.int k lo)) (.v (.int k' hi))=U (.v v'))/\Sl enc h v' ((l.take hi).drop lo):=by
 obtain⟨a,cap,rfl,hcap,hr⟩:=hs;refine⟨.slice (if cap=lo then a else a.map (·.add (lo*sz))) (hi-lo) (cap-lo),?_,?_⟩
 ·intro k k';simp only[JE];rw[if_pos ⟨oM,oM,oM⟩];simp
 ·have hlen:((l.take hi).drop lo).length=hi-lo:=by rw[ZO,Zn];omega
  refine⟨_,cap-lo,by rw[hlen],by rw[hlen];omega,?_⟩;by_cases hz:hi=lo
  ·exact .inl (Zs oM)
  ·have hne:l≠[]:=by intro e;subst e;simp at h2;omega
   obtain⟨g,rfl,hrow⟩:=hr.resolve_left hne;have hc:cap≠lo:=oM;refine .inr ⟨g.add (lo*sz),by simp[hc],?_⟩;obtain⟨r1,c,t,fz,r2,r3,r4⟩:=hrow;have e1:(l.take hi).drop lo=(l.drop lo).take (hi-lo):=by rw[List.drop_take]
   have hsplit:l.flatMap enc=(l.take lo).flatMap enc++(((l.drop lo).take (hi-lo)).flatMap enc++((l.drop lo).drop (hi-lo)).flatMap enc):=by
    rw[<-Z0,<-Z0,ZD,ZD]
   have hl1:((l.take lo).flatMap enc).length=lo*sz:=by rw[AZ he,Zn];congr 1;omega
   have hl2:=congrArg List.length hsplit;simp only[Zk]at hl2;rw[e1,AU g r1];refine⟨rfl,c,t,fz,r2,dM,λi hi'=>?_⟩;have:=r4 (lo*sz+i) oM;dsimp only;rw[show g.off+lo*sz+i=g.off+(lo*sz+i) by omega,this,hsplit,YN oM,Zl oM];congr 1;omega
def GB (f:Int->Int):List Value:=[.int .i64 (f 0),.int .i64 (f 1),.int .i64 (f 2),.int .i64 (f 3),.int .i64 (f 4),.int .i64 (f 5),.int .i64 (f 6),.int .i64 (f 7)]
theorem Gu (f:Int->Int) {p:Nat} (h:p<8):(GB f)[p]?=U (.int .i64 (f p)):=by
 match p,h with
 |0,_|1,_|2,_|3,_|4,_|5,_|6,_|7,_=>rfl
theorem Qw (f:Int->Int) {p:Nat} (h:p<8) (v:Int):(GB f).take p++[.int .i64 v]++(GB f).drop (p+1)=GB λq=>if q=p then v else f q:=by
 match p,h with
 |0,_|1,_|2,_|3,_|4,_|5,_|6,_|7,_=>simp[GB]
theorem Ev (f:Int->Int):(GB f).length=8:=rfl
theorem EF {f f':Int->Int} (h:∀ p:Nat,p<8->f p=f' p):GB f=GB f':=by
 have h0:f 0=f' 0:=h 0 oM;have h1:f 1=f' 1:=h 1 oM;have h2:f 2=f' 2:=h 2 oM;have h3:f 3=f' 3:=h 3 oM;have h4:f 4=f' 4:=h 4 oM;have h5:f 5=f' 5:=h 5 oM;have h6:f 6=f' 6:=h 6 oM;have h7:f 7=f' 7:=h 7 oM;simp only[GB,h0,h1,h2,h3,h4,h5,h6,h7]
theorem R0 {l:List Nat} {p q:Nat->Bool} (hpq:∀ x,p x=true->q x=true) {b:Nat} (hb:b∈l) (h1:q b=true) (h2:p b=false):l.countP p<l.countP q:=by
 induction l with
 |nil=>simp at hb
 |cons x l ih=>
  simp only[List.countP_cons];have hle:l.countP p<=l.countP q:=List.countP_mono_left λx _ h=>hpq x h;simp only[X5]at hb;rcases hb with rfl|hb
  ·simp[h1,h2];omega
  ·have:=ih hb;have hx:(if p x=true then 1 else 0)<=(if q x=true then 1 else 0):=by
    by_cases hp:p x=true
    ·rw[if_pos hp,if_pos (hpq x hp)];exact Yq _
    ·rw[if_neg hp];exact ZU _
   omega
def Oj (bs dn:List Nat):Nat:=bs.countP λb=>!dn.contains b
theorem LV {bs dn:List Nat} {b:Nat} (h1:b∈bs) (h2:b∉dn):Oj bs (dn++[b])<Oj bs dn:=by
 refine R0 (b:=b) (λx hx=>?_) h1 (by simpa using h2) (by simp);simp only[List.contains_eq_mem,Yd,Bool.not_eq_true',decide_eq_false_iff_not,not_or]at hx ⊢;exact hx.1
structure Xm (h0:Heap) (tag:List UInt8) (W:List (List Si)) (l:List Si) (pl:List (Int×Int)) (bs:List Nat) (m ck r bc bt:Nat) (dn:List Nat) (dl:List (Int×Int)) (h:Heap):Prop where
 le:Heap.le h0 h
 it:IC h r m ck dn
 sub:∀ b∈dn,b∈bs
 mem:∀ (i:Nat) p x b,pl[i]?=U (p,x)->bs[i]?=U b->(b∈dn↔(p,x)∈dl)
 dsub:∀ e∈dl,e∈pl
 cnt:Ah h ⟨bc,0,O⟩ (GB λp=>(BJ W tag p:Int)+if(look dl p).isSome then 1 else 0)
 str:Ah h ⟨bt,0,O⟩ (GB λp=>BW W tag p+(look dl p).getD 0)
theorem Lt {kv:List (Int×Int)} {p x:Int} (hn:look kv p=O) (q:Int):look (kv++[(p,x)]) q=if q=p then U x else look kv q:=by
 induction kv with
 |nil=>simp[Bx,Bd]
 |cons e r ih=>
  rw[Bx]at hn;split at hn
  ·cases hn
  ·rename_i hne;rw[Y7,Bx,Bx,ih hn];by_cases e1:q=p
   ·subst e1;rw[if_neg hne,if_pos rfl,if_pos rfl]
   ·rw[if_neg e1,if_neg e1]
def S60:Spec:=λargs h K=>∃ a tag window need EL,args=[.pointer (U a),.string (Cw.str tag)]/\XR h a window need EL/\Ws window need EL/\∀ h',Heap.le h h'->K (.int .i64 (Iy window need EL tag)) h'
theorem F60_ok {N:Num} {Γ:Ctx} [Ak Γ]:Sat S60 (SF N Γ F60):=by
 rintro _ h K ⟨a,tag,window,need,EL,rfl,⟨ev,wv,ems,ha,hev,hel,hE⟩,hok,hK⟩;obtain⟨⟨w1,w2⟩,⟨n1,n2⟩,hlen,hEok⟩:=hok;refine An rfl ?_;simp only[F60,Ze,Nat.reduceSub,Nat.reduceAdd];refine Ae ?_;refine AO λbc h1 hle1 hb1 hc1=>?_;refine Ae ?_;refine AO λbt h2 hle2 hb2 ht2=>?_;have hle02:=hle1.trans hle2;have Ra:=(ha.le hle02).rules;have A0:h2.cell a=U (.int .i64 window):=Ra.2.1 (by simp);have A0':h2.cell (a.add 0)=U (.int .i64 window):=Ra.1 0 (by simp);have A1:h2.cell (a.add 1)=U (.int .i64 need):=Ra.1 1 (by simp);have A2:h2.cell (a.add 2)=U ev:=Ra.1 2 (by simp);have Rev:=(hev.le hle02).rules1 E6 (λ_=>rfl) 0;rw[hel]at Rev;have hlo:max 0 (IntKind.i64.wrap ((EL.length:Int)-window))=((EL.length-window:Nat):Int):=by
  rw[BC oM oM];omega
 obtain⟨v12,e12,hs12⟩:=(hev.le hle02).lsl (sz:=1) (λ_=>rfl) (lo:=EL.length-window) (hi:=EL.length) (AaZ _ _) (AaU hel.symm);have R12:=hs12.rules1 E6 (λ_=>rfl) 0;have hW:((ems.take EL.length).drop (EL.length-window)).length=(EL.drop (EL.length-window)).length:=by simp only[ZO,Zn];omega
 rw[hW]at R12;refine Wx @A0 @A0' @A2 @Rev @hlo @e12 @R12 ?_;obtain⟨v12',e12',hs12'⟩:=hev.lsl (sz:=1) (λ_=>rfl) (lo:=EL.length-window) (hi:=EL.length) (AaZ _ _) (AaU hel.symm);have e12e:v12=v12':=by have h1:=e12 .i64 .i64;have h2:=e12' .i64 .i64;rw[h1]at h2;cases h2;rfl
 subst e12e;have hbcn:bc≠bt:=by
  obtain⟨_,c,t,h3,_⟩:=Ah.le hc1 (Au h h1);rintro rfl;dsimp only at h3;rw[hb2]at h3;cases h3
 have hbt0:h bt=O:=AC hle1 bt hb2;have hwl:∀ i,i<(EL.drop (EL.length-window)).length->Vy h (((ems.take EL.length).drop (EL.length-window)).getD i 0) (BV ((EL.drop (EL.length-window)).getD i []))/\(EL.drop (EL.length-window)).getD i []∈EL:=by
  intro i hi;rw[ZO]at hi;have h1:=hE (EL.length-window+i) oM;have e1:((ems.take EL.length).drop (EL.length-window)).getD i 0=ems.getD (EL.length-window+i) 0:=by
   simp only[Zp,Aar];rw[List.getElem?_take_of_lt oM]
  have e2:(EL.drop (EL.length-window)).getD i []=EL.getD (EL.length-window+i) []:=by
   simp only[Zp,Aar]
  rw[e1,e2];exact⟨h1,As [] oM⟩
 have hWlen:(EL.drop (EL.length-window)).length<=8:=by rw[ZO];omega
 have hWok:∀ l∈EL.drop (EL.length-window),(∀s∈l,¬s.bad)/\l.length<=1000000:=λl hl=>hEok l (Aac hl);have hatE:Iy window need EL tag=Xi need (EL.drop (EL.length-window)) tag:=rfl;generalize hWW:EL.drop (EL.length-window)=W at *;refine AA (λenv h3=>Heap.le h h3/\Ah h3 ⟨bc,0,O⟩ (GB λp=>(BJ W tag p:Int))/\Ah h3 ⟨bt,0,O⟩ (GB (BW W tag))/\env=[U (.pointer (U a)),U (.string (Cw.str tag)),O,U (.pointer (U ⟨bc,0,O⟩)),U (.pointer (U ⟨bt,0,O⟩)),O,O,O,O,O,O,O,O,O,O,O,O,O,O,O,O,O,O,O,O]) ?_ ?_;rotate_left
 ·refine Aj (λi:Nat=>[U (.pointer (U a)),U (.string (Cw.str tag)),O,U (.pointer (U ⟨bc,0,O⟩)),U (.pointer (U ⟨bt,0,O⟩)),O,O,O,O,O,O,O,U v12,U (.int .i64 W.length),U (.int .i64 i),O,O,O,O,O,O,O,O,O,O])
   (λi h3=>i<=W.length/\Heap.le h h3/\Ah h3 ⟨bc,0,O⟩ (GB λp=>(BJ (W.take i) tag p:Int))/\Ah h3 ⟨bt,0,O⟩ (GB (BW (W.take i) tag)))
   (λi=>W.length-i) 0 (by try simp only[Pf];rfl) ⟨oM,hle02,Ah.le (Ah.le hc1 (Au h h1)) hle2,Ah.le ht2 (Au h1 h2)⟩ ?_
  rintro i h3 ⟨hi,hle3,hc3,ht3⟩;have R3:=(hs12'.le hle3).rules1 E6 (λ_=>rfl) 0;rw[hW]at R3;refine Ap @R3 ?_;refine Ad (λc1=>?_) (λc1=>?_);rotate_left
  ·refine Ae ?_;have hie:i=W.length:=oM;subst hie;rw[Z5]at hc3 ht3;exact Ar _ sE ⟨hle3,hc3,ht3,rfl⟩
  have A5:i<W.length:=oM;obtain⟨hEp,hmem⟩:=hwl i A5;obtain⟨lb,ll⟩:=hEok _ hmem;obtain⟨kv,kbs,kck,hkm,hk1,hk2⟩:=hEp;have Rk:=(hkm.le hle3).rules .str;have htake:W.take (i+1)=W.take i++[W.getD i []]:=Ai [] A5;have hspec:=Ga (W.getD i []);generalize hl:W.getD i []=l at *;have hnext:∀ h4,Heap.le h h4->Ah h4 ⟨bc,0,O⟩ (GB λp=>(BJ (W.take i) tag p:Int)+if AN l tag p then 1 else 0)->Ah h4 ⟨bt,0,O⟩ (GB λp=>BW (W.take i) tag p+if AN l tag p then Gg l tag p else 0) ->
    Ah h4 ⟨bc,0,O⟩ (GB λp=>(BJ (W.take (i+1)) tag p:Int))/\Ah h4 ⟨bt,0,O⟩ (GB (BW (W.take (i+1)) tag)):=by
   intro h4 _ h5 h6;constructor
   ·have:GB (λp=>(BJ (W.take (i+1)) tag p:Int))=GB (λp=>(BJ (W.take i) tag p:Int)+if AN l tag p then 1 else 0):=by
     apply EF;intro p hp;rw[htake,LH];split<;>simp
    rw[this];exact h5
   ·have:GB (BW (W.take (i+1)) tag)=GB (λp=>BW (W.take i) tag p+if AN l tag p then Gg l tag p else 0):=by
     apply EF;intro p hp;rw[htake,IJ];by_cases hs:AN l tag p
     ·rw[if_pos hs]
     ·rw[if_neg hs,Lf hs]
    rw[this];exact h6
  cases hlk:look kv tag with
  |none=>
   have hnt:∀ p,¬AN l tag p:=by
    rintro p ⟨s,hs,h1,_⟩;exact((hspec.1 tag).1 ((hk1 tag).1 hlk)) ⟨s,hs,h1⟩
   refine AH @R3 @E6.eq_1 ?_;have Rk2:=Rk.1 (.map O) tag;rw[hlk]at Rk2;simp only[AF]at Rk2;refine CS @R3 @E6.eq_1 @Rk2 ?_;refine Wc λr h4 hr hle4 hfr=>?_;refine Ae ?_;refine Aj (λ_:Unit=>[U (.pointer (U a)),U (.string (Cw.str tag)),O,U (.pointer (U ⟨bc,0,O⟩)),U (.pointer (U ⟨bt,0,O⟩)),O,O,O,O,O,O,O,U v12,U (.int .i64 W.length),U (.int .i64 i),O,U (.pointer (U ⟨r,0,O⟩)),O,O,O,O,O,O,O,O]) (λ_ h5=>h5=h4) (λ_=>0) () sE rfl ?_;rintro _ h5 rfl;refine Ae ?_;refine Wd (Au _ _ _ _ hfr) ?_;refine Ae ?_;obtain⟨n1,n2⟩:=hnext h5 (hle3.trans hle4) (by simpa[hnt]using Ah.le hc3 hle4) (by simpa[hnt]using Ah.le ht3 hle4);exact Ag (i+1) oM sE ⟨oM,hle3.trans hle4,n1,n2⟩
  |some b=>
   obtain⟨pl,bs,ck,hpl,hbm⟩:=hk2 tag b hlk;obtain⟨hpn,hplk⟩:=hspec.2.2 tag pl hpl;have Rk2:=Rk.1 (.map O) tag;rw[hlk]at Rk2;simp only[AF,E6]at Rk2;refine CS @R3 @E6.eq_1 @Rk2 ?_;obtain⟨es,hes,hes2⟩:=hbm;have hbm:Bn Bm Bm h b pl bs ck:=⟨es,hes,hes2⟩
   refine Tt (hle3 _ _ hes) λr h4 hr hle4 hit=>?_;have hr0:h r=O:=AC hle3 r hr;have hle04:=hle3.trans hle4;have hrc:r≠bc:=by obtain⟨_,c,t,h5,_⟩:=hc3;rintro rfl;dsimp only at h5;rw[hr]at h5;cases h5
   have hrt:r≠bt:=by obtain⟨_,c,t,h5,_⟩:=ht3;rintro rfl;dsimp only at h5;rw[hr]at h5;cases h5
   refine Ae ?_;refine Aj (λ_:List Nat×List (Int×Int)=>[U (.pointer (U a)),U (.string (Cw.str tag)),O,U (.pointer (U ⟨bc,0,O⟩)),U (.pointer (U ⟨bt,0,O⟩)),O,O,O,O,O,O,O,U v12,U (.int .i64 W.length),U (.int .i64 i),O,U (.pointer (U ⟨r,0,O⟩)),O,O,O,O,O,O,O,O]) (λs h5=>Xm h tag (W.take i) l pl bs b ck r bc bt s.1 s.2 h5) (λs=>Oj bs s.1) ([],[]) sE
    ⟨hle04,Au _ _ _ _ hit,by simp,by intro i p x b _ _;simp,by simp,by simpa[Bd]using Ah.le hc3 hle4,by simpa[Bd]using Ah.le ht3 hle4⟩ ?_
   rintro⟨dn,dl⟩ h5 ⟨g1,g2,g3,g4,g5,g6,g7⟩;dsimp only at g1 g2 g3 g4 g5 g6 g7;have hbsl:bs.length=pl.length:=hes2.2.1;refine Ae ?_;refine Tv (hbm.le g1) g2 g3 ?_ ?_
   ·intro hall;have hlook:∀ p,look dl p=look pl p:=by
     intro p;cases hp:look pl p with
     |some x=>
      have h1:=Cz hp;obtain⟨j,hj,he⟩:=Z3 h1;have h2:=(g4 j p x (bs[j]'oM) (by rw[Zj hj,he]) (by simp[hbsl,hj])).1 (hall _ (Aah _));cases hd:look dl p with
      |none=>exact absurd (Yu.2 ⟨_,h2,rfl⟩) (FM hd)
      |some y=>
       have h3:=g5 _ (Cz hd);have h4:=Dg hpn h3;rw[hp]at h4;cases h4;rfl
     |none=>
      cases hd:look dl p with
      |none=>rfl
      |some y=>
       have h4:=Dg hpn (g5 _ (Cz hd));rw[hp]at h4;cases h4
    refine Ae ?_;obtain⟨m1,m2⟩:=hnext h5 g1 (by
     have:GB (λp=>(BJ (W.take i) tag p:Int)+if AN l tag p then 1 else 0)=GB (λp=>(BJ (W.take i) tag p:Int)+if(look dl p).isSome then 1 else 0):=by
      apply EF;intro p _;rw[hlook,hplk];by_cases hs:AN l tag p<;>simp[hs]
     rw[this];exact g6) (by
     have:GB (λp=>BW (W.take i) tag p+if AN l tag p then Gg l tag p else 0)=GB (λp=>BW (W.take i) tag p+(look dl p).getD 0):=by
      apply EF;intro p _;rw[hlook,hplk];by_cases hs:AN l tag p<;>simp[hs]
     rw[this];exact g7)
    exact Ag (i+1) oM sE ⟨oM,g1,m1,m2⟩
   ·intro j b' p x hj hbj hnd;have hpx:(p,x)∈pl:=ZY hj;have hpl2:=Dg hpn hpx;rw[hplk]at hpl2;have hseen:AN l tag p:=by
     by_cases hs:AN l tag p
     ·exact hs
     ·rw[if_neg hs]at hpl2;cases hpl2
    rw[if_pos hseen]at hpl2;have hx:x=Gg l tag p:=by cases hpl2;rfl
    obtain⟨p0,p7⟩:=Oy lb hseen;obtain⟨pn,rfl⟩:∃ pn:Nat,p=(pn:Int):=⟨p.toNat,oM⟩
    have hpn8:pn<8:=oM;have hxb:=Ge lb tag (pn:Int);have hdl:look dl (pn:Int)=O:=by
     cases hd:look dl (pn:Int)with
     |none=>rfl
     |some y=>
      have h3:=g5 _ (Cz hd);have h4:=Dg hpn h3;rw[Dg hpn hpx]at h4;cases h4;exact absurd ((g4 j _ _ _ hj hbj).2 (Cz hd)) hnd
    have hle5:Heap.le h (h5.set r (.mapIter (U b) ck (dn++[b']).toArray ck)):=by
     intro y o hy;have e:y≠r:=by rintro rfl;rw[hr0]at hy;cases hy
     rw[ZW e];exact g1 y o hy
    have hc5:Ah (h5.set r (.mapIter (U b) ck (dn++[b']).toArray ck)) ⟨bc,0,O⟩ (GB λp=>(BJ (W.take i) tag p:Int)+if(look dl p).isSome then 1 else 0):=by
     obtain⟨x1,c,t,x2,x3⟩:=g6;exact⟨x1,c,t,by rw[ZW (Ne.symm hrc)];exact x2,x3⟩
    have ht5:Ah (h5.set r (.mapIter (U b) ck (dn++[b']).toArray ck)) ⟨bt,0,O⟩ (GB λp=>BW (W.take i) tag p+(look dl p).getD 0):=by
     obtain⟨x1,c,t,x2,x3⟩:=g7;exact⟨x1,c,t,by rw[ZW (Ne.symm hrt)];exact x2,x3⟩
    have hi5:IC (h5.set r (.mapIter (U b) ck (dn++[b']).toArray ck)) r b ck (dn++[b']):=Aab;generalize h5.set r (.mapIter (U b) ck (dn++[b']).toArray ck)=h6 at *;refine Ae ?_;refine Tw (hbm.le hle5) hi5 hj hbj ?_;have Rc:=hc5.rules.1 pn (by rw[Ev];exact hpn8);rw[Gu _ hpn8,hdl]at Rc;have Rt:=ht5.rules.1 pn (by rw[Ev];exact hpn8);rw[Gu _ hpn8,hdl]at Rt;simp only[Zw,Ym,if_false,AaW,Aas]at Rc Rt;have hcl:=Qq (W.take i) tag (pn:Int);have hcl2:=List.length_take_le i W;refine AH @Bm.eq_1 @Rc ?_;refine Br hc5 pn 1 rfl rfl oM (by rw[Ev];omega) λo q1 q2=>?_;have hc7:=q1 h6 rfl;simp only[P8]at hc7;rw[Qw _ hpn8]at hc7;have ht7:Ah (h6.set bc o) ⟨bt,0,O⟩ (GB λp=>BW (W.take i) tag p+(look dl p).getD 0):=by
     obtain⟨x1,c,t,x2,x3⟩:=ht5;exact⟨x1,c,t,by rw[ZW (Ne.symm hbcn)];exact x2,x3⟩
    have hi7:IC (h6.set bc o) r b ck (dn++[b']):=by unfold IC at hi5 ⊢;rw[ZW hrc];exact hi5
    have hle7:Heap.le h (h6.set bc o):=by
     intro y oo hy;have e:y≠bc:=by rintro rfl;rw[hb1]at hy;cases hy
     rw[ZW e];exact hle5 y oo hy
    have Rt7:=ht7.rules.1 pn (by rw[Ev];exact hpn8);rw[Gu _ hpn8,hdl]at Rt7;simp only[AaW,Aas]at Rt7;generalize h6.set bc o=h7 at *;have hsb:=JT (W:=W.take i) (λl' hl'=>hWok l' (Z4 hl')) tag (pn:Int);have hw7:IntKind.i64.wrap (BW (W.take i) tag (pn:Int)+x)=BW (W.take i) tag (pn:Int)+x:=BC oM oM;refine AH @Rt7 @hw7 ?_;refine Br ht7 pn 1 rfl rfl oM (by rw[Ev];omega) λo2 q3 q4=>?_;have ht8:=q3 h7 rfl;simp only[P8]at ht8;rw[Qw _ hpn8]at ht8;refine Ae ?_;refine Ag (dn++[b'],dl++[((pn:Int),x)]) (LV (ZY hbj) hnd) sE ⟨?_,?_,?_,?_,?_,?_,?_⟩
    ·intro y oo hy;have e:y≠bt:=by rintro rfl;rw[hbt0]at hy;cases hy
     rw[ZW e];exact hle7 y oo hy
    ·unfold IC at hi7 ⊢;rw[ZW hrt];exact hi7
    ·intro y hy;simp only[Yd,YA]at hy;rcases hy with hy|rfl
     ·exact g3 y hy
     ·exact ZY hbj
    ·intro j2 p2 x2 b2 e1 e2;simp only[Yd,YA];rw[g4 j2 p2 x2 b2 e1 e2];have:b2=b'↔(p2,x2)=((pn:Int),x):=by
      constructor
      ·rintro rfl;have:j2=j:=((Y4 (Yk.1 e2).1 hes2.2.2.1).1 (e2.trans hbj.symm))
       subst this;rw[e1]at hj;cases hj;rfl
      ·intro e;have h1:(pl.map (·.1))[j2]?=U (pn:Int):=by rw[Aae,e1];cases e;rfl
       have h2:(pl.map (·.1))[j]?=U (pn:Int):=by rw[Aae,hj];rfl
       have:j2=j:=((Y4 (Yk.1 h1).1 hpn).1 (h1.trans h2.symm))
       subst this;rw[e2]at hbj;cases hbj;rfl
     rw[this]
    ·intro e he;simp only[Yd,YA]at he;rcases he with he|rfl
     ·exact g5 e he
     ·exact hpx
    ·have:GB (λp=>(BJ (W.take i) tag p:Int)+if(look (dl++[((pn:Int),x)]) p).isSome then 1 else 0)=GB (λq=>if q=(pn:Int)then(((BJ (W.take i) tag (pn:Int))+1:Nat):Int)else(BJ (W.take i) tag q:Int)+if(look dl q).isSome then 1 else 0):=by
      apply EF;intro q _;rw[Lt hdl];by_cases e:(q:Int)=pn
      ·simp[e]
      ·simp[e]
     rw[this];obtain⟨x1,c,t,x2,x3⟩:=hc7;exact⟨x1,c,t,by rw[ZW hbcn];exact x2,x3⟩
    ·have:GB (λp=>BW (W.take i) tag p+(look (dl++[((pn:Int),x)]) p).getD 0)=GB (λq=>if q=(pn:Int)then BW (W.take i) tag (pn:Int)+x else BW (W.take i) tag q+(look dl q).getD 0):=by
      apply EF;intro q _;rw[Lt hdl];by_cases e:(q:Int)=pn
      ·simp[e]
      ·simp[e]
     rw[this];exact ht8
 rintro env h3 ⟨hle3,hc3,ht3,rfl⟩;have Ra3:=(ha.le hle3).rules;have A1':h3.cell (a.add 1)=U (.int .i64 need):=Ra3.1 1 (by simp);have Rc8:=hc3.rules.2.2;rw[Ev]at Rc8;refine Ap @Rc8 ?_;refine Aj (λp:Nat=>[U (.pointer (U a)),U (.string (Cw.str tag)),O,U (.pointer (U ⟨bc,0,O⟩)),U (.pointer (U ⟨bt,0,O⟩)),O,O,O,O,U (.int .i64 (Bf need (BJ W tag) (BW W tag) p)),O,O,O,O,O,O,O,O,O,O,U (.agg (GB λp=>(BJ W tag p:Int)).toArray),U (.int .i64 p),O,O,O]) (λp h4=>p<=8/\h4=h3) (λp=>8-p) 0 (by try simp only[Pf];simp[Bf]) ⟨oM,rfl⟩ ?_;rintro p h4 ⟨hp,rfl⟩;refine Ae ?_;refine Ad (λc1=>?_) (λc1=>?_);rotate_left
 ·refine Ae ?_;have:p=8:=oM;subst this;have:=hK h4 hle3;rw[hatE]at this;exact this
 have hp8:p<8:=oM;have hbr:=Mv need (BJ W tag) (BW W tag) p;have hvx:(GB λp=>(BJ W tag p:Int)).toArray[p]?=U (.int .i64 (BJ W tag p)):=by
  rw[List.getElem?_toArray];exact Gu _ hp8
 refine AH @hvx @A1' ?_;have hbe:Bf need (BJ W tag) (BW W tag) (p+1)=if BJ W tag p<need then Bf need (BJ W tag) (BW W tag) p else if Bf need (BJ W tag) (BW W tag) p<0\/BJ W tag (Bf need (BJ W tag) (BW W tag) p)<BJ W tag p\/(BJ W tag p=BJ W tag (Bf need (BJ W tag) (BW W tag) p)/\BW W tag (Bf need (BJ W tag) (BW W tag) p)<BW W tag p)then p else Bf need (BJ W tag) (BW W tag) p:=rfl
 generalize hbg:Bf need (BJ W tag) (BW W tag) p=bb at *;refine Ad (λc2=>?_) (λc2=>?_)
 ·refine Ae ?_;refine Ag (p+1) oM ?_ ⟨oM,rfl⟩
  try simp only[Pf];rw[hbe,if_pos oM]
 by_cases hb0:bb<0
 ·refine Ap @hb0 ?_;refine Ag (p+1) oM ?_ ⟨oM,rfl⟩
  try simp only[Pf];rw[hbe,if_neg oM,if_pos (.inl hb0)]
 obtain⟨bn,rfl⟩:∃ bn:Nat,bb=(bn:Int):=⟨bb.toNat,oM⟩
 have hbn:bn<8:=oM;have Rcb:=hc3.rules.1 bn (by rw[Ev];exact hbn);rw[Gu _ hbn]at Rcb;have Rtb:=ht3.rules.1 bn (by rw[Ev];exact hbn);rw[Gu _ hbn]at Rtb;have Rtp:=ht3.rules.1 p (by rw[Ev];exact hp8);rw[Gu _ hp8]at Rtp;refine Ek @hb0 @Rcb @Rtb @Rtp ?_;refine Ad (λc3=>?_) (λc3=>?_)
 ·refine Ae ?_;refine Ag (p+1) oM ?_ ⟨oM,rfl⟩
  try simp only[Pf];rw[hbe,if_neg oM,if_pos oM]
 ·refine Ae ?_;refine Ag (p+1) oM ?_ ⟨oM,rfl⟩
  try simp only[Pf];rw[hbe,if_neg oM,if_neg oM]
def U9 (g:Heap) (m:Nat) (E:Ep):Prop:=∃ kv bs ck,Bn AF E6 g m kv bs ck/\(∀tag,look kv tag=O↔look E tag=O) /\
 (∀tag b,look kv tag=U b->b≠m/\∃ pl bs ck,look E tag=U pl/\Bn Bm Bm g b pl bs ck)/\∀ tag tag' b,look kv tag=U b->look kv tag'=U b->tag=tag'
theorem U9.r {g:Heap} {m:Nat} {E:Ep} (h:U9 g m E):Vy g m E:=by
 obtain⟨kv,bs,ck,h1,h2,h3,_⟩:=h;exact⟨kv,bs,ck,h1,h2,λtag b hb=>(h3 tag b hb).2⟩
theorem Bn.set_ne {κ ν:Type} {ek:κ->Value} {ev:ν->Value} {g:Heap} {m b:Nat} {o:Obj} {kv:List (κ×ν)} {bs:List Nat} {ck:Nat} (h:Bn ek ev g m kv bs ck) (e:m≠b):Bn ek ev (g.set b o) m kv bs ck:=by
 obtain⟨es,h1,h2⟩:=h;exact⟨es,by rw[ZW e];exact h1,h2⟩
theorem Bn.mem {κ ν:Type} {ek:κ->Value} {ev:ν->Value} {g:Heap} {m:Nat} {kv:List (κ×ν)} {bs:List Nat} {ck:Nat} (h:Bn ek ev g m kv bs ck):g m≠O:=by
 obtain⟨es,h1,_⟩:=h;rw[h1];simp
theorem Ah.set_ne {g:Heap} {a:Addr} {b:Nat} {o:Obj} {cs:List Value} (h:Ah g a cs) (e:a.block≠b):Ah (g.set b o) a cs:=by
 obtain⟨x1,c,t,x2,x3⟩:=h;exact⟨x1,c,t,by rw[ZW e];exact x2,x3⟩
theorem Ah.mem {g:Heap} {a:Addr} {cs:List Value} (h:Ah g a cs):g a.block≠O:=by
 obtain⟨x1,c,t,x2,x3⟩:=h;rw[x2];simp
theorem Kn {h0 h:Heap} {b:Nat} {o:Obj} (hb:h0 b=O):fr h0 (h.set b o)=(fr h0 h).set b o:=by
 funext x;simp only[fr,Heap.set];by_cases e:x=b
 ·subst e;simp[hb]
 ·simp[e]
theorem Ql {h0 h1 h2:Heap} (hl:Heap.le h0 h1):Heap.le (fr h1 h2) (fr h0 h2):=Qn (AC hl)
theorem Kg {h0 h:Heap} {b:Nat} {o:Obj} (hl:Heap.le h0 h) (hb:h0 b=O):Heap.le h0 (h.set b o):=by
 intro y oo hy;have e:y≠b:=by rintro rfl;rw[hb]at hy;cases hy
 rw[ZW e];exact hl y oo hy
theorem Sx {κ ν:Type} [DecidableEq κ] {kv:List (κ×ν)} {k:κ} {v:ν} (h:look kv k=U v):upd kv k v=kv:=by
 induction kv with
 |nil=>simp[Bd]at h
 |cons p r ih=>
  rw[Bx]at h;simp only[upd];split
  ·rename_i e;rw[if_pos e]at h;cases h;subst e;rfl
  ·rename_i e;rw[if_neg e]at h;rw[ih h]
theorem Uj {κ ν:Type} [DecidableEq κ] (kv:List (κ×ν)) (k:κ) (v w:ν):upd (upd kv k v) k w=upd kv k w:=by
 induction kv with
 |nil=>simp[upd]
 |cons p r ih=>
  simp only[upd];by_cases e:k=p.1
  ·simp[e,upd]
  ·simp[e,upd,ih]
theorem U9.ins {g:Heap} {m b:Nat} {E:Ep} {o:Obj} {kv:List (List UInt8×Nat)} {bs bs':List Nat} {ck ck':Nat} {tag:List UInt8} (hm:Bn AF E6 g m kv bs ck) (hk:∀ tag,look kv tag=O↔look E tag=O)
  (h3:∀ tag b,look kv tag=U b->b≠m/\∃ pl bs ck,look E tag=U pl/\Bn Bm Bm g b pl bs ck) (h4:∀ tag tag' b,look kv tag=U b->look kv tag'=U b->tag=tag')
  (hb:Bn Bm Bm g b ([]:List (Int×Int)) [] 0) (hbm:b≠m) (hfresh:∀ tag x,look kv tag=U x->x≠b) (hn:Bn AF E6 (g.set m o) m (upd kv tag b) bs' ck'):U9 (g.set m o) m (upd E tag []):=by
 refine⟨upd kv tag b,bs',ck',hn,λt=>?_,λt x hx=>?_,λt t' x h1 h2=>?_⟩
 ·rw[A6,A6];split<;>simp[hk]
 ·rw[A6]at hx;split at hx
  ·rename_i e;cases hx;subst e;exact⟨hbm,[],[],0,by rw[A6,if_pos rfl],hb.set_ne hbm⟩
  ·rename_i e;obtain⟨n,pl,bs,ck,a,c⟩:=h3 t x hx;exact⟨n,pl,bs,ck,by rw[A6,if_neg e];exact a,c.set_ne n⟩
 ·rw[A6]at h1 h2;split at h1<;>split at h2
  ·rename_i e1 e2;rw[e1,e2]
  ·rename_i e1 e2;cases h1;exact absurd rfl (hfresh t' _ h2)
  ·rename_i e1 e2;cases h2;exact absurd rfl (hfresh t _ h1)
  ·exact h4 t t' x h1 h2
theorem U9.put {g:Heap} {m b:Nat} {E:Ep} {o:Obj} {kv:List (List UInt8×Nat)} {bs bs':List Nat} {ck ck':Nat} {tag:List UInt8} {pl:List (Int×Int)} (hm:Bn AF E6 g m kv bs ck) (hk:∀ tag,look kv tag=O↔look E tag=O)
  (h3:∀ tag b,look kv tag=U b->b≠m/\∃ pl bs ck,look E tag=U pl/\Bn Bm Bm g b pl bs ck) (h4:∀ tag tag' b,look kv tag=U b->look kv tag'=U b->tag=tag')
  (hb:look kv tag=U b) (hn:Bn Bm Bm (g.set b o) b pl bs' ck'):U9 (g.set b o) m (upd E tag pl):=by
 have hbm:=(h3 tag b hb).1;refine⟨kv,bs,ck,hm.set_ne (Ne.symm hbm),λt=>?_,λt x hx=>?_,h4⟩
 ·rw[A6];split
  ·rename_i e;subst e;rw[hb];simp
  ·exact hk t
 ·obtain⟨n,pl',bs2,ck2,a,c⟩:=h3 t x hx;refine⟨n,?_⟩;by_cases e:t=tag
  ·subst e;rw[hb]at hx;cases hx;exact⟨pl,bs',ck',by rw[A6,if_pos rfl],hn⟩
  ·have hne:x≠b:=by rintro rfl;exact e (h4 t tag x hx hb)
   exact⟨pl',bs2,ck2,by rw[A6,if_neg e];exact a,c.set_ne hne⟩
def Bb (EL:List (List Si)) (tag:List UInt8):Prop:=∃ l∈EL,C9 l tag
instance (EL:List (List Si)) (tag:List UInt8):Decidable (Bb EL tag):=by unfold Bb;infer_instance
structure KP (g:Heap) (b:Nat) (window need:Nat) (EL:List (List Si)) (W:List UInt8->Option (List Int)) (hole:Option (List UInt8)) (ev:Value) (mw:Nat) (wkv:List (List UInt8×Value)) (bs:List Nat) (ck:Nat) (gi:Heap) (ems:List Nat):Prop where
 obj:Ah g ⟨b,0,O⟩ [.int .i64 window,.int .i64 need,ev,.map (U mw)]
 evs:BE Fw 1 g ev ems
 wm:Bn AF id g mw wkv bs ck
 wnone:∀ tag,look wkv tag=O->W tag=O
 wsome:∀ tag v,look wkv tag=U v->U tag≠hole->∃ l x,W tag=U l/\BE DB 1 g v l/\Ao v=U x/\x≠b/\x≠mw/\Ao ev≠U x/\gi x=O
 inj:∀ tag tag' v v',look wkv tag=U v->look wkv tag'=U v'->U tag≠hole->U tag'≠hole->Ao v=Ao v'->tag=tag'
 d1:b≠mw
 d2:Ao ev≠U b/\Ao ev≠U mw
 elen:ems.length=EL.length
 eps:∀ i,i<EL.length->Vy gi (ems.getD i 0) (BV (EL.getD i []))
 gile:Heap.le gi g
 gib:gi b=O
 gim:gi mw=O
 gie:∀ x,Ao ev=U x->gi x=O
theorem KP.le {g g':Heap} {b window need:Nat} {EL:List (List Si)} {W:List UInt8->Option (List Int)} {hole:Option (List UInt8)} {ev:Value} {mw:Nat} {wkv:List (List UInt8×Value)} {bs:List Nat} {ck:Nat} {gi:Heap} {ems:List Nat}
  (h:KP g b window need EL W hole ev mw wkv bs ck gi ems) (hl:Heap.le g g'):KP g' b window need EL W hole ev mw wkv bs ck gi ems:=
 ⟨Ah.le h.obj hl,h.evs.le hl,h.wm.le hl,h.wnone,λt v hv hh=>let ⟨l,x,a1,a2,a3⟩:=h.wsome t v hv hh;⟨l,x,a1,a2.le hl,a3⟩,h.inj,h.d1,h.d2,h.elen,h.eps,h.gile.trans hl,h.gib,h.gim,h.gie⟩
theorem KP.r {g:Heap} {b window need:Nat} {EL:List (List Si)} {W:List UInt8->Option (List Int)} {hole:Option (List UInt8)} {ev:Value} {mw:Nat} {wkv:List (List UInt8×Value)} {bs:List Nat} {ck:Nat} {gi:Heap} {ems:List Nat}
  (h:KP g b window need EL W hole ev mw wkv bs ck gi ems) {hh:Heap} (hl:Heap.le g hh):XR hh ⟨b,0,O⟩ window need EL:=
 ⟨ev,_,ems,Ah.le h.obj hl,(BE.sl (enc:=Fw) (sz:=1) (λ_=>rfl) h.evs).le hl,h.elen,λi hi=>(h.eps i hi).le (h.gile.trans hl)⟩
theorem KP.put {g:Heap} {b window need:Nat} {EL:List (List Si)} {W:List UInt8->Option (List Int)} {hole:Option (List UInt8)} {ev:Value} {mw:Nat} {wkv:List (List UInt8×Value)} {bs bs':List Nat} {ck ck':Nat} {gi:Heap} {ems:List Nat}
  (h:KP g b window need EL W hole ev mw wkv bs ck gi ems) {tag:List UInt8} (hh:hole=O\/hole=U tag) {v:Value} {l:List Int} {x:Nat} (hv:BE DB 1 g v l) (hx:Ao v=U x) (x1:x≠b) (x2:x≠mw) (x3:Ao ev≠U x) (x4:gi x=O)
  (x5:∀ t w,look wkv t=U w->t≠tag->Ao w≠U x) {o:Obj} (hm:Bn AF id (g.set mw o) mw (upd wkv tag v) bs' ck') :
  KP (g.set mw o) b window need EL (λt=>if t=tag then U l else W t) O ev mw (upd wkv tag v) bs' ck' gi ems:=by
 have hne:∀ t,t≠tag->U t≠hole:=by
  intro t ht e;rcases hh with h0|h0
  ·rw[h0]at e;cases e
  ·rw[h0]at e;cases e;exact ht rfl
 refine⟨h.obj.set_ne h.d1,h.evs.same (λy hy=>ZW (λe=>h.d2.2 (by rw[<-e];exact hy))),hm,λt ht=>?_,λt w hw _=>?_,λt t' w w' h1 h2 _ _ h3=>?_,h.d1,h.d2,h.elen,h.eps,?_,h.gib,h.gim,h.gie⟩
 ·rw[A6]at ht;split at ht
  ·cases ht
  ·rename_i e;simp only[e,if_false];exact h.wnone t ht
 ·rw[A6]at hw;split at hw
  ·rename_i e;cases hw;exact⟨l,x,by simp[e],hv.same (λy hy=>ZW (λe=>x2 (by rw[hx]at hy;cases hy;exact e))),hx,x1,x2,x3,x4⟩
  ·rename_i e;obtain⟨l',y,a1,a2,a3,a4,a5,a6⟩:=h.wsome t w hw (hne t e);exact⟨l',y,by simp only[e,if_false];exact a1,a2.same (λz hz=>ZW (λe2=>a5 (by rw[a3]at hz;cases hz;exact e2))),a3,a4,a5,a6⟩
 ·rw[A6]at h1 h2;split at h1<;>split at h2
  ·rename_i e1 e2;rw[e1,e2]
  ·rename_i e1 e2;cases h1;rw[hx]at h3;exact absurd h3.symm (x5 t' w' h2 e2)
  ·rename_i e1 e2;cases h2;rw[hx]at h3;exact absurd h3 (x5 t w h1 e1)
  ·rename_i e1 e2;exact h.inj t t' w w' h1 h2 (hne t e1) (hne t' e2) h3
 ·intro y oo hy;have e:y≠mw:=by rintro rfl;rw[h.gim]at hy;cases hy
  rw[ZW e];exact h.gile y oo hy
def B8 (r:Nat) (o:Obj):Heap:=λx=>if x=r then U o else O
theorem Cj (r:Nat) (o:Obj) (G:Heap):(∀x,x≠r->join (B8 r o) G x=G x)/\join (B8 r o) G r=U o:=by
 refine⟨λx hx=>by simp[join,B8,hx],by simp[join,B8]⟩
theorem Av.cnew {g h G H H':Heap} {r:Nat} {o:Obj} (a:Av g h G H) (hr:H r=O) (hle:Heap.le H H') (hi:H' r=U o):Av g h (join (B8 r o) G) H'/\G r=O:=by
 refine⟨⟨λx y hx=>?_,λx y h1 h2=>hle _ _ (a.frame x y h1 h2),λx h1 h2=>?_⟩,AC a.le r hr⟩
 ·by_cases e:x=r
  ·subst e;rw[(Cj _ o G).2]at hx;rw[hi];exact hx
  ·rw[(Cj _ o G).1 x e]at hx;exact hle _ _ (a.le x y hx)
 ·have e:x≠r:=by
   rintro rfl;cases hx:h x with
   |none=>exact h1 hx
   |some y=>have:=a.frame x y hx h2;rw[hr]at this;cases this
  rw[(Cj _ o G).1 x e];exact a.fresh x h1 h2
theorem Av.cr {g h G H:Heap} {r:Nat} {o:Obj} (a:Av g h (join (B8 r o) G) H) (hd:G r=O):H r=U o/\Heap.le G H:=by
 refine⟨a.le _ _ (Cj r o G).2,λx y hx=>?_⟩;have e:x≠r:=by rintro rfl;rw[hd]at hx;cases hx
 exact a.le x y (by rw[(Cj r o G).1 x e];exact hx)
theorem Av.cdrop {g h G H:Heap} {r:Nat} {o:Obj} (a:Av g h (join (B8 r o) G) H) (hd:G r=O):Av g h G H:=by
 refine⟨(a.cr hd).2,a.frame,λx h1 h2=>?_⟩;have:=a.fresh x h1 h2;by_cases e:x=r
 ·rw[e];exact hd
 ·rwa [(Cj r o G).1 x e]at this
theorem Av.cpart {g h G H G' H':Heap} {r:Nat} {o:Obj} (a:Av g h (join (B8 r o) G) H) (hd:G r=O) (s:Av G H G' H'):Av g h (join (B8 r o) G') H'/\G' r=O:=by
 have hc:=(a.cr hd).1;have hf:Heap.le (B8 r o) H:=by
  intro x y hx;simp only[B8]at hx;split at hx
  ·rename_i e;cases hx;subst e;exact hc
  ·cases hx
 have hdj:CA (B8 r o) G:=by
  intro x hx;simp only[B8]at hx;split at hx
  ·rename_i e;subst e;exact hd
  ·exact absurd rfl hx
 exact⟨a.trans (s.part hf hdj),s.fresh r (by rw[hc];simp) hd⟩
theorem Av.cset {g h G H:Heap} {r:Nat} {o:Obj} (a:Av g h (join (B8 r o) G) H) (hd:G r=O) (o':Obj):Av g h (join (B8 r o') G) (H.set r o'):=by
 have:=a.trans (Av.set a.le (b:=r) (by rw[(Cj r o G).2];simp) o');have e:(join (B8 r o) G).set r o'=join (B8 r o') G:=by
  funext x;by_cases ex:x=r
  ·subst ex;rw[Aab,(Cj _ o' G).2]
  ·rw[ZW ex,(Cj r o G).1 x ex,(Cj r o' G).1 x ex]
 rwa [e]at this
variable {g g' h:Heap} {b window need:Nat} {EL:List (List Si)} {W:List UInt8->Option (List Int)} {hole:Option (List UInt8)} {ev:Value} {mw:Nat} {wkv:List (List UInt8×Value)} {bs:List Nat} {ck:Nat} {gi gi':Heap} {ems:List Nat}
theorem KP.more (hT:KP g b window need EL W hole ev mw wkv bs ck gi ems) (hl:Heap.le g g') (h1:Heap.le gi gi') (h2:Heap.le gi' g') (h3:∀ x,g x≠O->gi x=O->gi' x=O) :
  KP g' b window need EL W hole ev mw wkv bs ck gi' ems:=by
 have hT':=hT.le hl;refine⟨hT'.obj,hT'.evs,hT'.wm,hT.wnone,λt v hv hh=>?_,hT.inj,hT.d1,hT.d2,hT.elen,λi hi=>(hT.eps i hi).le h1,h2,h3 _ hT.obj.mem hT.gib,h3 _ hT.wm.mem hT.gim,λx hx=>h3 _ (hT.evs.mem hx) (hT.gie x hx)⟩;obtain⟨l,x,a1,a2,a3,a4,a5,a6,a7⟩:=hT.wsome t v hv hh;exact⟨l,x,a1,a2.le hl,a3,a4,a5,a6,h3 _ (a2.mem a3) a7⟩
theorem KP.appEv (hT:KP g b window need EL W O ev mw wkv bs ck gi ems) (hg:Heap.le g h) {ev':Value} {m:Nat} {l:List Si} (h1:BE Fw 1 g' ev' (ems++[m]))
  (h2:∀ x,Ao ev≠U x->Ao ev'≠U x->g' x=g x) (h3:∀ x,Ao ev'=U x->Ao ev=U x\/h x=O) (hE:Vy gi m (BV l)) {o:Obj}
  (ho:Ah (g'.set b o) ⟨b,0,O⟩ [.int .i64 window,.int .i64 need,ev',.map (U mw)]):KP (g'.set b o) b window need (EL++[l]) W O ev' mw wkv bs ck gi (ems++[m]):=by
 have hh:∀ x,g x≠O->Ao ev≠U x->Ao ev'≠U x:=by
  intro x hx hn e;rcases h3 x e with e2|e2
  ·exact hn e2
  ·cases hgx:g x with
   |none=>exact hx hgx
   |some o=>rw[hg x o hgx]at e2;cases e2
 have hsm:∀ x,g x≠O->Ao ev≠U x->g' x=g x:=λx hx hn=>h2 x hn (hh x hx hn);have hgb:=hT.obj.mem;have hgm:=hT.wm.mem;have hb':=hh b hgb hT.d2.1;have hm':=hh mw hgm hT.d2.2;refine⟨ho,h1.same λx hx=>ZW (λe=>hb' (by rw[<-e];exact hx)),?_,hT.wnone,λt v hv hh2=>?_,hT.inj,hT.d1,⟨hb',hm'⟩,by simp[hT.elen],λi hi=>?_,?_,hT.gib,hT.gim,λx hx=>?_⟩
 ·obtain⟨es,q1,q2⟩:=hT.wm;exact⟨es,by rw[ZW (Ne.symm hT.d1),hsm mw hgm hT.d2.2];exact q1,q2⟩
 ·obtain⟨l',x,a1,a2,a3,a4,a5,a6,a7⟩:=hT.wsome t v hv hh2;have hgx:=a2.mem a3;refine⟨l',x,a1,a2.same λy hy=>?_,a3,a4,a5,hh x hgx a6,a7⟩;rw[a3]at hy;cases hy;rw[ZW a4];exact hsm _ hgx a6
 ·by_cases e:i<EL.length
  ·have h5:i<ems.length:=by rw[hT.elen];exact e
   have e1:(ems++[m]).getD i 0=ems.getD i 0:=by simp[Zp,Zl h5]
   have e2:(EL++[l]).getD i []=EL.getD i []:=by simp[Zp,Zl e]
   rw[e1,e2];exact hT.eps i e
  ·have:i=EL.length:=by simp at hi;omega
   subst this;have e1:(ems++[m]).getD EL.length 0=m:=by simp[Zp,<-hT.elen]
   have e2:(EL++[l]).getD EL.length []=l:=by simp[Zp]
   rw[e1,e2];exact hE
 ·intro x y hx;have hne:x≠b:=by rintro rfl;rw[hT.gib]at hx;cases hx
  have hgx:=hT.gile x y hx;have hev:Ao ev≠U x:=by intro e;rw[hT.gie x e]at hx;cases hx
  rw[ZW hne,hsm x (by rw[hgx];simp) hev];exact hgx
 ·rcases h3 x hx with e|e
  ·exact hT.gie x e
  ·cases hgx:gi x with
   |none=>rfl
   |some o=>rw[hg x o (hT.gile x o hgx)]at e;cases e
def Mz (g:Heap) (b mw:Nat) (wkv:List (List UInt8×Value)) (ev:Value) (gi:Heap) (tag:List UInt8) (v:Value) (l:List Int):Prop:=
 BE DB 1 g v l/\∃ x,Ao v=U x/\x≠b/\x≠mw/\Ao ev≠U x/\gi x=O/\∀ t w,look wkv t=U w->t≠tag->Ao w≠U x
theorem KP.hole_of (hT:KP g b window need EL W O ev mw wkv bs ck gi ems) {tag:List UInt8} {v:Value} (hv:look wkv tag=U v) :
  KP g b window need EL W (U tag) ev mw wkv bs ck gi ems/\∃ l,W tag=U l/\Mz g b mw wkv ev gi tag v l:=by
 refine⟨⟨hT.obj,hT.evs,hT.wm,hT.wnone,λt v hv _=>hT.wsome t v hv (by simp),λt t' v v' h1 h2 _ _ h3=>hT.inj t t' v v' h1 h2 (by simp) (by simp) h3,hT.d1,hT.d2,hT.elen,hT.eps,hT.gile,hT.gib,hT.gim,hT.gie⟩,?_⟩;obtain⟨l,x,a1,a2,a3,a4,a5,a6,a7⟩:=hT.wsome tag v hv (by simp);exact⟨l,a1,a2,x,a3,a4,a5,a6,a7,λt w hw hne e=>hne (hT.inj t tag w v hw hv (by simp) (by simp) (by rw[e,a3]))⟩
theorem Mz.app {tag:List UInt8} {v v':Value} {l l2:List Int} (hT:KP g b window need EL W (U tag) ev mw wkv bs ck gi ems) (hH:Mz g b mw wkv ev gi tag v l) (hg:Heap.le g h) (hne:l2≠[])
  (h1:BE DB 1 g' v' l2) (h2:∀ x,Ao v≠U x->Ao v'≠U x->g' x=g x) (h3:∀ x,Ao v'=U x->Ao v=U x\/h x=O) :
  KP g' b window need EL W (U tag) ev mw wkv bs ck gi ems/\Mz g' b mw wkv ev gi tag v' l2:=by
 obtain⟨k1,x,k2,k3,k4,k5,k6,k7⟩:=hH;have hno:∀ y,h y=O->g y=O:=AC hg;have hh:∀ y,g y≠O->x≠y->Ao v'≠U y:=by
  intro y hy hn e;rcases h3 y e with e2|e2
  ·rw[k2]at e2;cases e2;exact hn rfl
  ·exact hy (hno y e2)
 have hsm:∀ y,g y≠O->x≠y->g' y=g y:=λy hy hn=>h2 y (by rw[k2];intro e;cases e;exact hn rfl) (hh y hy hn);have hgb:=hT.obj.mem;have hgm:=hT.wm.mem;refine⟨⟨?_,hT.evs.same λy hy=>hsm y (hT.evs.mem hy) (by rintro rfl;exact k5 hy),?_,hT.wnone,λt w hw hn=>?_,hT.inj,hT.d1,hT.d2,hT.elen,hT.eps,?_,hT.gib,hT.gim,hT.gie⟩,h1,?_⟩
 ·obtain⟨q1,c,t,q2,q3⟩:=hT.obj;exact⟨q1,c,t,by rw[hsm b hgb k3];exact q2,q3⟩
 ·obtain⟨es,q1,q2⟩:=hT.wm;exact⟨es,by rw[hsm mw hgm k4];exact q1,q2⟩
 ·obtain⟨l',y,a1,a2,a3,a4⟩:=hT.wsome t w hw hn;exact⟨l',y,a1,a2.same λz hz=>hsm z (a2.mem hz) (by rintro rfl;exact k7 t w hw (by rintro rfl;exact hn rfl) hz),a3,a4⟩
 ·intro y o hy;have hgy:=hT.gile y o hy;rw[hsm y (by rw[hgy];simp) (by rintro rfl;rw[k6]at hy;cases hy)];exact hgy
 ·have hx':∃ x',Ao v'=U x':=by
   obtain⟨a,cap,rfl,_,_,h5⟩:=h1;rcases h5 with⟨_,h6,_⟩|⟨y,c,t,rfl,_⟩
   ·exact absurd h6 hne
   ·exact⟨y,rfl⟩
  obtain⟨x',hx'⟩:=hx';refine⟨x',hx',?_⟩;rcases h3 x' hx' with e|e
  ·rw[k2]at e;cases e;exact⟨k3,k4,k5,k6,k7⟩
  ·have e':=hno x' e;refine⟨by rintro rfl;exact hgb e',by rintro rfl;exact hgm e',λe2=>hT.evs.mem e2 e',?_,λt w hw hn e2=>?_⟩
   ·cases hgx:gi x' with
    |none=>rfl
    |some o=>rw[hT.gile x' o hgx]at e';cases e'
   ·obtain⟨l',y,a1,a2,a3,a4⟩:=hT.wsome t w hw (by intro e3;cases e3;exact hn rfl);exact a2.mem e2 e'
end Go.Cw
namespace Go.Cw
open Go
def wl (window need:Nat) (EL:List (List Si)) (tag:List UInt8):List Int:=(Yh EL.length).map λe=>Iy window need (EL.take (e+1)) tag
theorem Uf (window need:Nat) (EL:List (List Si)) (l:List Si) (tag:List UInt8):wl window need EL tag++[Iy window need (EL++[l]) tag]=wl window need (EL++[l]) tag:=by
 unfold wl;rw[Zk,Zo,AaN,Aam];congr 1
 ·refine AaG λe he=>?_;rw[Zc]at he;rw[List.take_append_of_le_length oM]
 ·simp[ZB]
theorem Jt {need:Nat} {cnt:Int->Nat} {st:Int->Int} (h:∀ p,cnt p<need) (n:Nat):Bf need cnt st n=-1:=by
 induction n with
 |zero=>rfl
 |succ n ih=>simp only[Bf];rw[if_pos (h _)];exact ih
theorem Ug {window need:Nat} {EL:List (List Si)} {tag:List UInt8} (hn:1<=need) (h:¬ Bb EL tag):wl window need EL tag=Z7 EL.length (-1):=by
 refine List.eq_replicate_iff.2 ⟨by simp[wl],λx hx=>?_⟩;obtain⟨e,_,rfl⟩:=Yu.1 hx;refine Jt (λp=>?_) 8;have:(((EL.take (e+1)).drop ((EL.take (e+1)).length-window)).filter λl=>decide (AN l tag p))=[]:=by
  rw[Aal];rintro l hl hd;obtain⟨s,hs,h1,_⟩:=of_decide_eq_true hd;exact h ⟨l,Z4 (Aac hl),s,hs,h1⟩
 unfold BJ;rw[this];exact hn
def Sk (g:Heap) (b window need:Nat) (EL:List (List Si)):Prop:=∃ W ev mw wkv bs ck gi ems,KP g b window need EL W O ev mw wkv bs ck gi ems/\∀ tag,W tag=if Bb EL tag then U (wl window need EL tag)else O
theorem EC {α:Type} {l:List α} (hl:l.Nodup) {i j:Nat} {x:α} (h1:l[i]?=U x) (h2:l[j]?=U x):i=j:=by
 obtain⟨a1,a2⟩:=Yk.1 h1;exact(Y4 a1 hl).1 (h1.trans h2.symm)
def S29 (N:Num):Spec:=λargs h K=>∃ b v l g window need EL,args=[.pointer (U ⟨b,0,O⟩),v]/\Sl Si.enc h v l/\Sk g b window need EL/\Heap.le g h/\Ws window need EL/\EL.length<100000/\l.length<=1000000 /\
 ((∃s∈l,s.bad)->∀ h',Heap.le h h'->K (Cm N 1) h')/\((∀s∈l,¬s.bad)->∀ h' g',Av g h g' h'->Sk g' b window need (EL++[l])->K .nilIface h')
def VY (o:Option Nat):Value:=.map o
theorem TI (h:Heap) (o:Option Nat):A8 h (.eqv .map false) (.v (VY o)) (.v (.map O))=U (.v (.bool (decide (o=O)))):=by
 cases o<;>rfl
theorem Bn.lkpm {h:Heap} {m:Nat} {kv:List (List UInt8×Nat)} {bs:List Nat} {ck:Nat} (hm:Bn AF E6 h m kv bs ck) (k:List UInt8):A8 h (.lkp .str (.map O)) (.v (.map (U m))) (.v (.string (str k)))=U (.v (VY (look kv k))):=by
 have:=(hm.rules .str).1 (.map O) k;rw[show(Value.string (str k))=AF k from rfl,this];cases look kv k<;>rfl
theorem Bn.lkpi {h:Heap} {m:Nat} {kv:List (Int×Int)} {bs:List Nat} {ck:Nat} (hm:Bn Bm Bm h m kv bs ck) (k:Int):A8 h (.lkp .int (.int .i64 0)) (.v (.map (U m))) (.v (.int .i64 k))=U (.v (.int .i64 ((look kv k).getD 0))):=by
 have:=(hm.rules .int).1 (.int .i64 0) k;rw[show(Value.int .i64 k)=Bm k from rfl,this];cases look kv k<;>rfl
theorem Bn.lkps {h:Heap} {m:Nat} {kv:List (List UInt8×Value)} {bs:List Nat} {ck:Nat} (hm:Bn AF id h m kv bs ck) (k:List UInt8):A8 h (.lkp .str (.slice O 0 0)) (.v (.map (U m))) (.v (.string (str k)))=U (.v ((look kv k).getD (.slice O 0 0))):=by
 have:=(hm.rules .str).1 (.slice O 0 0) k;rw[show(Value.string (str k))=AF k from rfl,this];cases look kv k<;>rfl
theorem UT {h:Heap} {v:Value} {l:List Int} {g:Heap} (hs:BE DB 1 g v l) {x:Nat} (hx:Ao v=U x):A8 h (.eqv .slice false) (.v v) (.v (.slice O 0 0))=U (.v (.bool false)):=by
 obtain⟨a,cap,rfl,_⟩:=hs;cases a with
 |none=>cases hx
 |some a=>rfl
theorem UU {h:Heap}:A8 h (.eqv .slice false) (.v (.slice O 0 0)) (.v (.slice O 0 0))=U (.v (.bool true)):=rfl
theorem U4 (E:Ep) (s:Si):T3 E s=upd (upd E s.tag ((look E s.tag).getD [])) s.tag (upd ((look E s.tag).getD []) s.place ((look ((look E s.tag).getD []) s.place).getD 0+s.strength)):=by rw[Uj];rfl
theorem F29_ok {N:Num} {Γ:Ctx} [Ak Γ] (H60:Sat S60 (Γ 60)):Sat (S29 N) (SF N Γ F29):=by
 rintro _ h K ⟨b,v,l,g,window,need,EL,rfl,hs,hT,hg,hok,hlen,hll,hK1,hK2⟩;refine An rfl ?_;simp only[F29,Ze,Nat.reduceSub,Nat.reduceAdd];refine Ae ?_;refine EX (ek:=AF) (ev:=E6) λm h1 hm0 hle1 hmE=>?_;have R1:=(hs.le hle1).rules 4 Si.enc_len default;refine Ap @R1 ?_;refine AA (λenv h2=>Heap.le h h2/\U9 (fr h h2) m (BV l)/\(∀s∈l,¬s.bad)/\env=[U (.pointer (U ⟨b,0,O⟩)),O,O,U (.map (U m)),O,O,O,O,O,O,O,O,O,O,O,O,O,O,O,O,O,O,O,O,O,O,O,O,O,O,O,O,O,O,O,O,O,O,O,O,O,O,O,O,O]) ?_ ?_;rotate_left
 ·refine Aj (λi:Nat=>[U (.pointer (U ⟨b,0,O⟩)),O,O,U (.map (U m)),O,O,O,O,O,U v,U (.int .i64 l.length),U (.int .i64 i),O,O,O,O,O,O,O,O,O,O,O,O,O,O,O,O,O,O,O,O,O,O,O,O,O,O,O,O,O,O,O,O,O]) (λi h2=>i<=l.length/\Heap.le h h2/\U9 (fr h h2) m (BV (l.take i))/\∀ s∈l.take i,¬s.bad) (λi=>l.length-i) 0 (by try simp only[Pf];rfl)
   ⟨oM,hle1,⟨[],[],0,hmE,by simp[Bd,BV],by simp[Bd],by simp[Bd]⟩,by simp⟩ ?_
  rintro i h2 ⟨hi,hle2,hE,hgood⟩;have R2:=(hs.le hle2).rules 4 Si.enc_len default;refine Ae ?_;refine Ad (λc1=>?_) (λc1=>?_);rotate_left
  ·refine Ae ?_;have:i=l.length:=oM;subst this;rw[Z5]at hE hgood;exact Ar _ sE ⟨hle2,hE,hgood,rfl⟩
  have A5:i<l.length:=oM;have htk:=Ai default A5 (l:=l);refine AH @R2 @Si.enc.eq_1 ?_;refine Ad (λc2=>?_) (λc2=>?_)
  ·refine Ae ?_;exact hK1 ⟨_,As default A5,by simp only[Si.bad];omega⟩ h2 hle2
  have hsg:¬ (l.getD i default).bad:=by simp only[Si.bad];omega
  have hgood':∀ s∈l.take (i+1),¬s.bad:=by
   intro s hs;rw[htk,Yd,YA]at hs;rcases hs with hs|rfl
   ·exact hgood s hs
   ·exact hsg
  have hsp:=Ga (l.take i);have hsum:=λp=>Ge hgood (l.getD i default).tag p;have hti:(l.take i).length<=1000000:=by rw[Zn];omega
  have hE1:BV (l.take (i+1))=upd (upd (BV (l.take i)) (l.getD i default).tag ((look (BV (l.take i)) (l.getD i default).tag).getD [])) (l.getD i default).tag (upd ((look (BV (l.take i)) (l.getD i default).tag).getD []) (l.getD i default).place ((look ((look (BV (l.take i)) (l.getD i default).tag).getD []) (l.getD i default).place).getD 0+(l.getD i default).strength)):=by
   rw[htk,JR,U4]
  generalize hx:l.getD i default=x at *;generalize hEg:BV (l.take i)=E at *;obtain⟨kv,kbs,kck,e1,e2,e3,e4⟩:=hE;have Rk1:=(e1.le (Au h h2)).lkpm x.tag;refine AH @Rk1 @TI ?_;refine AT (λenv h3=>Heap.le h h3/\U9 (fr h h3) m (upd E x.tag ((look E x.tag).getD []))/\env=[U (.pointer (U ⟨b,0,O⟩)),O,O,U (.map (U m)),U (.agg x.enc.toArray),O,O,O,O,U v,U (.int .i64 l.length),U (.int .i64 i),O,O,O,O,O,O,O,O,O,O,O,O,O,O,O,O,O,O,O,O,O,O,O,O,O,O,O,O,O,O,O,O,O]) ?_ ?_
  ·rintro env h3 ⟨hle3,hE3,rfl⟩;obtain⟨kv3,kbs3,kck3,f1,f2,f3,f4⟩:=hE3;have hlk:∃ bb,look kv3 x.tag=U bb:=by
    cases hh:look kv3 x.tag with
    |some bb=>exact⟨bb,rfl⟩
    |none=>have:=(f2 x.tag).1 hh;rw[A6,if_pos rfl]at this;cases this
   obtain⟨bb,hbb⟩:=hlk;obtain⟨hbm,pl,pbs,pck,p1,p2⟩:=f3 x.tag bb hbb;rw[A6,if_pos rfl]at p1;have hpl:pl=(look E x.tag).getD []:=by cases p1;rfl
   have Rk3:=(f1.le (Au h h3)).lkpm x.tag;rw[hbb]at Rk3;simp only[VY]at Rk3;have Rp3:=(p2.le (Au h h3)).lkpi x.place;have hbd:0<=(look pl x.place).getD 0/\(look pl x.place).getD 0<=255000000:=by
    rw[hpl];cases hh:look E x.tag with
    |none=>simp[Bd]
    |some pl'=>
     simp only[Y1];have:=(hsp.2.2 x.tag pl' hh).2 x.place;rw[this];have:=hsum x.place;split<;>simp<;>omega
   have hxs:0<=x.strength/\x.strength<=255:=by simp only[Si.bad]at hsg;omega
   have hw:IntKind.i64.wrap ((look pl x.place).getD 0+x.strength)=(look pl x.place).getD 0+x.strength:=BC oM oM;refine Ek @Rk3 @Rp3 @hw @Si.enc.eq_1 ?_;have hbb0:h bb=O:=by
    cases hh:h bb with
    |none=>rfl
    |some o=>exact absurd (by simp[fr,hh]) p2.mem
   refine BX (kb:=.int) (ek:=Bm) (ev:=Bm) (p2.le (Au h h3)) (ZX h3) x.place ((look pl x.place).getD 0+x.strength) λo bs' ck' q1 q2 _=>?_;refine Ae ?_;refine Ag (i+1) oM sE ⟨oM,Kg hle3 hbb0,?_,hgood'⟩;rw[Kn hbb0,hE1,<-hpl];rw[<-hpl]at f2 f3;have q1':Bn Bm Bm ((fr h h3).set bb o) bb (upd pl x.place ((look pl x.place).getD 0+x.strength)) bs' ck':=by
    obtain⟨es,a1,a2⟩:=q1;rw[Aab]at a1;exact⟨es,by rw[Aab];exact a1,a2⟩
   exact U9.put f1 f2 f3 f4 hbb q1'
  ·refine Ad (λc3=>?_) (λc3=>?_)
   ·refine Ap @Si.enc.eq_1 ?_;refine EX (ek:=Bm) (ev:=Bm) λmb h3 hb0 hle3 hbM=>?_;refine Ae ?_;have hm0':h m=O:=hm0;have e1':Bn AF E6 (fr h h3) m kv kbs kck:=e1.le (Fg hle3);have hbM':Bn Bm Bm (fr h h3) mb ([]:List (Int×Int)) [] 0:=hbM.le (Ql hle2);have hmbm:mb≠m:=by rintro rfl;exact(e1.le (Au h h2)).mem hb0
    refine BX (kb:=.str) (ek:=AF) (ev:=E6) (e1'.le (Au h h3)) (ZX h3) x.tag mb λo bs' ck' q1 q2 _=>?_;refine Ae ?_;refine Ar _ sE ⟨Kg (hle2.trans hle3) hm0,?_,rfl⟩;rw[Kn hm0,((e2 x.tag).1 c3)];have q1':Bn AF E6 ((fr h h3).set m o) m (upd kv x.tag mb) bs' ck':=by
     obtain⟨es,a1,a2⟩:=q1;rw[Aab]at a1;exact⟨es,by rw[Aab];exact a1,a2⟩
    refine U9.ins e1' e2 (λt y hy=>?_) e4 hbM' hmbm (λt y hy=>?_) q1'
    ·obtain⟨n,pl,bs,ck,a,c⟩:=e3 t y hy;exact⟨n,pl,bs,ck,a,c.le (Fg hle3)⟩
    ·rintro rfl;obtain⟨n,pl,bs,ck,a,c⟩:=e3 t y hy;exact(c.le (Au h h2)).mem hb0
   ·refine Ae ?_;refine Ar _ (by try simp only[Pf];rfl) ⟨hle2,?_,rfl⟩;cases hh:look E x.tag with
    |none=>exact absurd ((e2 x.tag).2 hh) c3
    |some pl=>
     simp only[Y1];rw[Sx hh];exact⟨kv,kbs,kck,e1,e2,e3,e4⟩
 ·rintro env h2 ⟨hle2,hE,hgood,rfl⟩;obtain⟨W,ev,mw,wkv,bs,ck,gi,ems,hT,hW⟩:=hT;have Ro:=(Ah.le hT.obj (hg.trans hle2)).rules;have A2:h2.cell ((⟨b,0,O⟩:Addr).add 2)=U ev:=Ro.1 2 (by simp);have Sev:BE Fw 1 h2 ev ems:=hT.evs.le (hg.trans hle2);have O1:=Sev.one;refine CS @A2 O1.1 O1.2 ?_;refine Bg Fw 1 (λ_=>rfl) [m] rfl rfl (by simp[maxLen]) λx1 b1 h3 hle3 hb1 hx1 hS1=>?_;have O2:=hS1.one;refine AH O2.1 O2.2 ?_;have hfr:∀ x,g x≠O->gi x=O->join gi (fr h h2) x=O:=by
   intro x hx hgx;cases hg2:g x with
   |none=>exact absurd hg2 hx
   |some o=>exact Bs hgx (Er (hg x o hg2))
  have St1:=Av.alloc hg hle2;have hT1:KP (join g (fr h h2)) b window need EL W O ev mw wkv bs ck (join gi (fr h h2)) ems:=by
   refine hT.more (Db _ _) (Db _ _) (λx o hx=>?_) hfr;cases hgx:gi x with
   |some o2=>rw[Db gi _ x o2 hgx]at hx;rw[Db g _ x o2 (hT.gile x o2 hgx)];exact hx
   |none=>
    cases hg2:g x with
    |some o2=>rw[hfr x (by rw[hg2];simp) hgx]at hx;cases hx
    |none=>simp only[join,hgx,hg2]at hx ⊢;exact hx
  have hg3:=St1.le.trans hle3;refine Cc (enc:=Fw) (sz:=1) (g:=join g (fr h h2)) (l:=ems) (l':=[m]) (λ_=>rfl) (by simp[Fw,E6,one]) hT1.evs hg3 (BE.sl (enc:=Fw) (sz:=1) (λ_=>rfl) (hS1.le (Au _ _))) (by have:=hT.elen;simp;omega) λev' h4 g4 hS4 St2 e1 e2 e3=>?_;have hob4:Ah g4 ⟨b,0,O⟩ [.int .i64 window,.int .i64 need,ev,.map (U mw)]:=by
   obtain⟨q1,c,t,q2,q3⟩:=hT1.obj;refine⟨q1,c,t,?_,q3⟩;have hb':Ao ev'≠U b:=by
    intro e;rcases e2 b e with h6|h6
    ·exact hT1.d2.1 h6
    ·exact hT1.obj.mem (AC hg3 b h6)
   rw[show(⟨b,0,O⟩:Addr).block=b from rfl,e1 b hT1.d2.1 hb'];exact q2
  have O4:=hS4.one;refine Ae ?_;refine Br (Ah.le hob4 St2.le) 2 1 (by rw[O4.2];rfl) (by rw[O4.2];simp[O4.1]) oM (by simp) λo k1 k2=>?_;have hT5:=hT1.appEv hg3 hS4 e1 e2 (hE.r.le (HI (hT.gile.trans (hg.trans hle2)) (Au _ _))) (o:=o) (by
   obtain⟨q1,c,t,q2,q3⟩:=hob4;have:=k1 g4 (by rw[q2];exact(St2.le _ _ q2).symm);rw[O4.2]at this;simpa using this)
  have St5:Av g h (g4.set b o) (h4.set b o):=(St1.trans ((Av.more St1.le hle3).trans St2)).trans (Av.set St2.le hob4.mem o);obtain⟨ekv,ebs,eck,n1,n2,n3⟩:=hE.r;have n1:=n1.le (HI (hT.gile.trans (hg.trans hle2)) (Au h h2));have nb:ebs.length=ekv.length:=by obtain⟨_,_,q⟩:=n1;exact q.2.1
  have nd:ebs.Nodup:=by obtain⟨_,_,q⟩:=n1;exact q.2.2.1
  generalize join gi (fr h h2)=gi5 at *;generalize ems++[m]=ems5 at *;generalize hg5:g4.set b o=g5 at *;generalize hh5:h4.set b o=h5 at *;clear k1 k2 hob4 e1 e2 e3 hS4 hg3 St2 hT1 hfr St1 hS1 O1 O2 O4 A2 Ro Sev hE hle3 hg5 hh5 hx1 hb1;refine Ae ?_;have hm5:∃ es,h5 m=U (.map es eck):=by obtain⟨es,q,_⟩:=n1;exact⟨es,(hT5.gile.trans St5.le) _ _ q⟩
  obtain⟨es5,hes5⟩:=hm5;refine Tt hes5 λr h6 hr hle6 hit=>?_;obtain⟨St6,hgr⟩:=St5.cnew hr hle6 (Au _ _ _ _ hit);refine Ae ?_;refine AA (λenv h7=>(∃g7 W7 wkv7 bs7 ck7,Av g h g7 h7/\KP g7 b window need (EL++[l]) W7 O ev' mw wkv7 bs7 ck7 gi5 ems5/\∀ tag,W7 tag=if Bb EL tag then U (wl window need EL tag)else if C9 l tag then U []else O)/\env=[U (.pointer (U ⟨b,0,O⟩)),O,O,O,O,O,O,O,O,O,O,O,O,O,O,O,O,O,O,O,O,O,O,O,O,O,O,O,O,O,O,O,O,O,O,O,O,O,O,O,O,O,O,O,O]) ?_ ?_;rotate_left
  ·refine Aj (λ_:List Nat=>[U (.pointer (U ⟨b,0,O⟩)),O,O,O,O,O,O,O,O,O,O,O,O,O,O,O,O,O,O,O,O,O,O,U (.pointer (U ⟨r,0,O⟩)),O,O,O,O,O,O,O,O,O,O,O,O,O,O,O,O,O,O,O,O,O])
    (λdn h7=>∃ g7 W7 wkv7 bs7 ck7,Av g h (join (B8 r (.mapIter (U m) eck dn.toArray eck)) g7) h7/\g7 r=O/\KP g7 b window need (EL++[l]) W7 O ev' mw wkv7 bs7 ck7 gi5 ems5/\(∀x∈dn,x∈ebs)/\(∀tag,W7 tag=W tag\/(W tag=O/\W7 tag=U []/\C9 l tag))/\(∀(i:Nat) k v x,ekv[i]?=U (k,v)->ebs[i]?=U x->x∈dn->W7 k≠O))
    (λdn=>Oj ebs dn) [] sE ⟨g5,W,wkv,bs,ck,St6,hgr,hT5,by simp,λtag=>.inl rfl,by intro i k v x _ _ h;simp at h⟩ ?_
   rintro dn h7 ⟨g7,W7,wkv7,bs7,ck7,St7,hg7,hT7,d1,d2,d3⟩;obtain⟨it7,hle7⟩:=St7.cr hg7;have n7:=n1.le (hT7.gile.trans hle7);refine Ae ?_;refine Tv n7 it7 d1 ?_ ?_
   ·intro hall;refine Ae ?_;refine Ar _ sE ⟨⟨g7,W7,wkv7,bs7,ck7,St7.cdrop hg7,hT7,λtag=>?_⟩,rfl⟩;have hWt:=hW tag;rcases d2 tag with h1|⟨h1,h2,h3⟩
    ·rw[h1,hWt];by_cases e:Bb EL tag
     ·rw[if_pos e,if_pos e]
     ·rw[if_neg e,if_neg e];by_cases e2:C9 l tag
      ·have h3:look (BV l) tag≠O:=λh4=>((Ga l).1 tag).1 h4 e2;have h4:look ekv tag≠O:=λh5=>h3 ((n2 tag).1 h5);cases h5:look ekv tag with
       |none=>exact absurd h5 h4
       |some v=>
        obtain⟨j,hj,he⟩:=Z3 (Cz h5);exact absurd (h1.trans (hWt.trans (if_neg e))) (d3 j tag v (ebs[j]'oM) (by rw[Zj hj,he]) (by rw[Zj]) (hall _ (Aah _)))
      ·rw[if_neg e2]
    ·have e:¬ Bb EL tag:=by intro e;rw[hWt,if_pos e]at h1;cases h1
     rw[h2,if_neg e,if_pos h3]
   ·intro i x k v hi hx hnd;have St8:=St7.cset hg7 (.mapIter (U m) eck (dn++[x]).toArray eck);obtain⟨it8,hle8⟩:=St8.cr hg7;generalize h7.set r (.mapIter (U m) eck (dn++[x]).toArray eck)=h8 at *;refine Ae ?_;refine Tw (n1.le (hT7.gile.trans hle8)) it8 hi hx ?_;have Ro:=(Ah.le hT7.obj hle8).rules;have A3:h8.cell ((⟨b,0,O⟩:Addr).add 3)=U (.map (U mw)):=Ro.1 3 (by simp);have Rk:=(hT7.wm.le hle8).lkps k;have hd8:∀ y∈dn++[x],y∈ebs:=by
     intro y hy;rw[Yd,YA]at hy;rcases hy with hy|rfl
     ·exact d1 y hy
     ·exact ZY hx
    have hkt:C9 l k:=by
     have h1:look ekv k≠O:=λe=>FM e (Yu.2 ⟨_,ZY hi,rfl⟩);have h2:look (BV l) k≠O:=λe=>h1 ((n2 k).2 e);exact Classical.byContradiction λh3=>h2 (((Ga l).1 k).2 h3)
    have hmeas:Oj ebs (dn++[x])<Oj ebs dn:=LV (ZY hx) hnd;have hkey:∀ (j:Nat) k' v' x',ekv[j]?=U (k',v')->ebs[j]?=U x'->x'∈dn++[x]->x'∈dn\/k'=k:=by
     intro j k' v' x' a1 a2 a3;rw[Yd,YA]at a3;refine a3.imp id ?_;rintro rfl;have:=EC nd a2 hx;subst this;rw[hi]at a1;cases a1;rfl
    cases hlk:look wkv7 k with
    |some w=>
     obtain⟨l',x',q1,q2,q3,q4⟩:=hT7.wsome k w hlk (by simp);rw[hlk,Y1]at Rk;have Re:=UT (h:=h8) q2 q3;refine Ek @A3 @AF.eq_1 @Rk @Re ?_;refine Ag (dn++[x]) hmeas sE ⟨g7,W7,wkv7,bs7,ck7,St8,hg7,hT7,hd8,d2,λj k' v' x' a1 a2 a3=>?_⟩;rcases hkey j k' v' x' a1 a2 a3 with h1|rfl
     ·exact d3 j k' v' x' a1 a2 h1
     ·rw[q1];simp
    |none=>
     have hWn:=hT7.wnone k hlk;rw[hlk,Aas]at Rk
     try simp(disch:=first|omega|(simp only[PL];omega)) only[Zr,simprocAttr,-reduceIte,A3,AF,Rk,UU,Option.isNone_none]
     refine Bg DB 1 (λ_=>rfl) [] rfl rfl (by simp[maxLen]) λx1 b1 h9 hle9 hb1 hx1 hS1=>?_;have O1:=hS1.one;have St9:=Av.alloc (hle8) hle9;have hgj:Heap.le (join g7 (fr h8 h9)) h9:=St9.le;have hT9:=hT7.le (Db g7 (fr h8 h9));refine AH O1.1 O1.2 ?_;refine BX (kb:=.str) (ek:=AF) (ev:=id) hT9.wm hgj k x1 λo bs' ck' p1 p2 _=>?_;have hno:∀ y,g7 y≠O->y≠b1:=by
      rintro y hy rfl;exact hy (AC hle8 _ hb1)
     have hT10:=hT9.put (.inl rfl) (hS1.le (HI (hle8.trans hle9) (Au _ _))) hx1 (Ne.symm (hno b hT7.obj.mem)) (Ne.symm (hno mw hT7.wm.mem)) (λe=>hno b1 (hT7.evs.mem e) rfl) (by
      cases hgx:gi5 b1 with
      |none=>rfl
      |some o=>exact absurd rfl (hno b1 (by rw[hT7.gile _ _ hgx];simp))) (λt w hw ht e=>by
      obtain⟨l',y,a1,a2,a3,_⟩:=hT7.wsome t w hw (by simp);exact hno b1 (a2.mem e) rfl) p1
     obtain⟨St10,hg10⟩:=St8.cpart hg7 (St9.trans p2);refine Ae ?_;refine Ag (dn++[x]) hmeas sE ⟨_,_,_,_,_,St10,hg10,hT10,hd8,λtag=>?_,λj k' v' x' a1 a2 a3=>?_⟩
     ·by_cases e:tag=k
      ·subst e;refine .inr ⟨?_,by simp,hkt⟩;rcases d2 tag with h1|h1
       ·rw[<-h1];exact hWn
       ·exact h1.1
      ·simp only[e,if_false];exact d2 tag
     ·by_cases e:k'=k
      ·subst e;simp
      ·simp only[e,if_false];exact(hkey j k' v' x' a1 a2 a3).elim (λh1=>d3 j k' v' x' a1 a2 h1) (λh1=>absurd h1 e)
  ·rintro env h7 ⟨⟨g7,W7,wkv7,bs7,ck7,St7,hT7,hW7⟩,rfl⟩;clear n1 n2 n3 nb nd hes5 hit St6 hgr St5 hT5 hW hle6;have Ro:=(Ah.le hT7.obj St7.le).rules;have A3:h7.cell ((⟨b,0,O⟩:Addr).add 3)=U (.map (U mw)):=Ro.1 3 (by simp);refine Ap @A3 ?_;have hm7:∃ es,h7 mw=U (.map es ck7):=by obtain⟨es,q,_⟩:=hT7.wm;exact⟨es,St7.le _ _ q⟩
   obtain⟨es7,hes7⟩:=hm7;refine Tt hes7 λr h8 hr hle8 hit=>?_;obtain⟨St8,hgr⟩:=St7.cnew hr hle8 (Au _ _ _ _ hit);refine Ae ?_;refine Aj (λ_:List Nat=>[U (.pointer (U ⟨b,0,O⟩)),O,O,O,O,O,O,O,O,O,O,O,O,O,O,O,O,O,O,O,O,O,O,O,O,O,O,O,O,O,O,U (.pointer (U ⟨r,0,O⟩)),O,O,O,O,O,O,O,O,O,O,O,O,O])
    (λdn h8=>∃ g8 W8 wkv8,Av g h (join (B8 r (.mapIter (U mw) ck7 dn.toArray ck7)) g8) h8/\g8 r=O/\KP g8 b window need (EL++[l]) W8 O ev' mw wkv8 bs7 ck7 gi5 ems5/\wkv8.map (·.1)=wkv7.map (·.1)/\(∀x∈dn,x∈bs7)/\(∀(i:Nat) k x,(wkv7.map (·.1))[i]?=U k->bs7[i]?=U x->W8 k=if x∈dn then U (wl window need (EL++[l]) k)else W7 k))
    (λdn=>Oj bs7 dn) [] sE ⟨g7,W7,wkv7,St8,hgr,hT7,rfl,by simp,by simp⟩ ?_
   rintro dn h8 ⟨g8,W8,wkv8,St8,hg8,hT8,hks,d1,d2⟩;obtain⟨it8,hle8⟩:=St8.cr hg8;refine Ae ?_;refine Tv (hT8.wm.le hle8) it8 d1 ?_ ?_
   ·intro hall;refine Ae ?_;refine hK2 hgood h8 g8 (St8.cdrop hg8) ⟨W8,ev',mw,wkv8,bs7,ck7,gi5,ems5,hT8,λtag=>?_⟩;obtain⟨_,_,_,w3,w4,_,w6⟩:=hT8.wm;have h1:Bb (EL++[l]) tag↔Bb EL tag\/C9 l tag:=by
     simp only[Bb,Yd,YA];constructor
     ·rintro⟨x,hx|rfl,h⟩
      ·exact .inl ⟨x,hx,h⟩
      ·exact .inr h
     ·rintro(⟨x,hx,h⟩|h)
      ·exact⟨x,.inl hx,h⟩
      ·exact⟨l,.inr rfl,h⟩
    have hw7:=hW7 tag;by_cases hin:tag∈wkv7.map (·.1)
    ·obtain⟨j,hj,he⟩:=Z3 hin;have hjb:j<bs7.length:=by rw[w3,<-Aaw (f:=(·.1)),hks];exact hj
     have h2:=d2 j tag (bs7[j]) (by rw[Zj hj,he]) (by rw[Zj]);rw[h2,if_pos (hall _ (Aah _)),if_pos];rw[h1];refine Classical.byContradiction λh3=>?_;rw[not_or]at h3;rw[if_neg h3.1,if_neg h3.2]at hw7;cases h5:look wkv7 tag with
     |none=>exact FM h5 hin
     |some v=>
      obtain⟨l',_,q,_⟩:=hT7.wsome tag v h5 (by simp);rw[hw7]at q;cases q
    ·have hn8:look wkv8 tag=O:=by
      cases h5:look wkv8 tag with
      |none=>rfl
      |some v=>exact absurd (by rw[<-hks];exact Yu.2 ⟨_,Cz h5,rfl⟩) hin
     have hn7:look wkv7 tag=O:=by
      cases h5:look wkv7 tag with
      |none=>rfl
      |some v=>exact absurd (Yu.2 ⟨_,Cz h5,rfl⟩) hin
     rw[hT8.wnone tag hn8,if_neg];rw[h1];rw[hT7.wnone tag hn7]at hw7;rintro(e|e)
     ·rw[if_pos e]at hw7;cases hw7
     ·rw[if_pos e]at hw7;split at hw7<;>cases hw7
   ·intro i x k v hi hx hnd;have St9:=St8.cset hg8 (.mapIter (U mw) ck7 (dn++[x]).toArray ck7);obtain⟨it9,hle9⟩:=St9.cr hg8;generalize h8.set r (.mapIter (U mw) ck7 (dn++[x]).toArray ck7)=h9 at *;refine Ae ?_;refine Tw (hT8.wm.le hle9) it9 hi hx ?_;refine AH @AF.eq_1 (@id_eq Value) ?_;obtain⟨_,_,_,_,w4,_,w6⟩:=hT8.wm;have hlk:look wkv8 k=U v:=Dg w6 (ZY hi);have hki:(wkv7.map (·.1))[i]?=U k:=by rw[<-hks,Aae,hi];rfl
    rw[hks]at w6;obtain⟨hT9,l0,hl0,hH9⟩:=hT8.hole_of hlk;refine Aj (λs:Value×List Int=>[U (.pointer (U ⟨b,0,O⟩)),O,O,O,O,O,U (.string (str k)),U s.1,O,O,O,O,O,O,O,O,O,O,O,O,O,O,O,O,O,O,O,O,O,O,O,U (.pointer (U ⟨r,0,O⟩)),O,O,O,O,O,O,O,O,O,O,O,O,O])
     (λs h10=>∃ g10,Av g h (join (B8 r (.mapIter (U mw) ck7 (dn++[x]).toArray ck7)) g10) h10/\g10 r=O/\KP g10 b window need (EL++[l]) W8 (U k) ev' mw wkv8 bs7 ck7 gi5 ems5/\Mz g10 b mw wkv8 ev' gi5 k s.1 s.2/\s.2.length<=EL.length/\(s.2=wl window need EL k\/(¬Bb EL k/\s.2=Z7 s.2.length (-1))))
     (λs=>EL.length-s.2.length) (v,l0) sE ⟨g8,St9,hg8,hT9,hH9,?_⟩ ?_
    ·have h1:=d2 i k x hki hx;rw[if_neg hnd,hW7 k,hl0]at h1;by_cases e:Bb EL k
     ·rw[if_pos e]at h1;cases h1;exact⟨by simp[wl],.inl rfl⟩
     ·rw[if_neg e]at h1;by_cases e2:C9 l k
      ·rw[if_pos e2]at h1;cases h1;exact⟨by simp,.inr ⟨e,rfl⟩⟩
      ·rw[if_neg e2]at h1;cases h1
    rintro⟨v1,l1⟩ h10 ⟨g10,St10,hg10,hT10,hH10,hl1,hl2⟩;dsimp only at hH10 hl1 hl2;obtain⟨_,hle10⟩:=St10.cr hg10;have Ro:=(Ah.le hT10.obj hle10).rules;have A2:h10.cell ((⟨b,0,O⟩:Addr).add 2)=U ev':=Ro.1 2 (by simp);have Rl:=((BE.sl (enc:=DB) (sz:=1) (λ_=>rfl) (hH10.1.le hle10)).rules 1 (λ_=>rfl) default)
    have Re:=((BE.sl (enc:=Fw) (sz:=1) (λ_=>rfl) (hT10.evs.le hle10)).rules 1 (λ_=>rfl) default)
    have hel:=hT10.elen;have hw:IntKind.i64.wrap ((ems5.length:Int)-1)=(EL.length:Int):=by rw[hel];simp only[Zk,Y5,ZR];rw[BC oM oM];omega
    have O1:=hH10.1.one;refine Ek @A2 @Rl @Re @hw ?_;refine Ad (λc4=>?_) (λc4=>?_)
    ·refine AH O1.1 O1.2 ?_;refine Bg DB 1 (λ_=>rfl) [-1] rfl rfl (by simp[maxLen]) λx1 b1 h11 hle11 hb1 hx1 hS1=>?_;have O2:=hS1.one;have hg11:=hle10.trans hle11;refine AH O2.1 O2.2 ?_;refine Cc (enc:=DB) (sz:=1) (g:=g10) (l:=l1) (l':=[-1]) (λ_=>rfl) (by simp[DB,one]) hH10.1 hg11 (BE.sl (enc:=DB) (sz:=1) (λ_=>rfl) (hS1.le (Au _ _))) (by simp;omega) λv2 h12 g12 hS12 St12 e1 e2 e3=>?_;obtain⟨hT12,hH12⟩:=Mz.app hT10 hH10 hg11 (by simp) hS12 e1 e2;obtain⟨St13,hg13⟩:=St10.cpart hg10 ((Av.more hle10 hle11).trans St12);have O3:=hS12.one;refine AH O3.1 O3.2 ?_;refine Ag (v2,l1++[-1]) (by simp;omega) sE ⟨g12,St13,hg13,hT12,hH12,by simp;omega,?_⟩;rcases hl2 with h1|⟨h1,h2⟩
     ·have:l1.length=EL.length:=by rw[h1];simp[wl]
      omega
     ·refine .inr ⟨h1,?_⟩;rw[Zk,Zo,List.replicate_succ',<-h2]
    ·have A3:h10.cell ((⟨b,0,O⟩:Addr).add 3)=U (.map (U mw)):=Ro.1 3 (by simp);have hok':Ws window need (EL++[l]):=⟨hok.w,hok.n,by simp;omega,λl' hl'=>by
      rw[Yd,YA]at hl';rcases hl' with hl'|rfl
      ·exact hok.ok l' hl'
      ·exact⟨hgood,hll⟩⟩
     refine Ap @A3 ?_;refine Aa H60 ⟨⟨b,0,O⟩,k,window,need,EL++[l],rfl,hT10.r hle10,hok',λh11 hle11=>?_⟩;refine Ae ?_;obtain⟨o1,ho1,hx1⟩:∃ o1,g10 b=U o1/\Ah (B8 b o1) ⟨b,0,O⟩ [.int .i64 window,.int .i64 need,ev',.map (U mw)]:=by
      obtain⟨q1,c,t,q2,q3⟩:=hT10.obj;exact⟨_,q2,q1,c,t,by simp[B8],q3⟩
     have hxle:∀ {H:Heap},H b=U o1->Heap.le (B8 b o1) H:=by
      intro H hH y z hy;simp only[B8]at hy;split at hy
      ·rename_i e;cases hy;rw[e];exact hH
      ·cases hy
     have A3x:(B8 b o1).cell ((⟨b,0,O⟩:Addr).add 3)=U (.map (U mw)):=hx1.rules.1 3 (by simp);have hb10:=hle10 _ _ ho1;refine Np (B8 b o1) (hxle hb10) ?_ (AE (hxle (hle11 _ _ hb10))) ?_
     ·intro l' hl';simp only[YA]at hl';subst hl';exact⟨true,rfl,λ_=>⟨.v (.map (U mw)),by try simp(disch:=first|omega|(simp only[PL];omega)) only[Zr,simprocAttr,-reduceIte,A3x]⟩⟩
     refine Ae ?_;refine Bg DB 1 (λ_=>rfl) [Iy window need (EL++[l]) k] rfl rfl (by simp[maxLen]) λx1 b1 h12 hle12 hb1 hx1 hS1=>?_;have O2:=hS1.one;have hle1012:=hle11.trans hle12;have hg12:=hle10.trans hle1012;refine Ae ?_;refine CX (AE (hxle (hle1012 _ _ hb10))) ?_;have hvb:Ao v1≠U b:=by
      obtain⟨_,x,q1,q2,_⟩:=hH10.2
      all_goals (intro e;simp_all)
     refine Ek O1.1 O1.2 O2.1 O2.2 ?_;refine Cc (enc:=DB) (sz:=1) (g:=g10) (l:=l1) (l':=[Iy window need (EL++[l]) k]) (λ_=>rfl) (by simp[DB,one]) hH10.1 hg12 (BE.sl (enc:=DB) (sz:=1) (λ_=>rfl) (hS1.le (Au _ _))) (by simp;omega) λv2 h13 g13 hS13 St13 e1 e2 e3=>?_;obtain⟨hT13,hH13⟩:=Mz.app hT10 hH10 hg12 (by simp) hS13 e1 e2;have O3:=hS13.one;refine Ae ?_;refine CX (AE (hxle (e3 _ _ (hle1012 _ _ hb10) hvb))) ?_;refine AH O3.1 O3.2 ?_;obtain⟨hs13,y,y1,y2,y3,y4,y5,y6⟩:=hH13;refine BX (kb:=.str) (ek:=AF) (ev:=id) hT13.wm St13.le k v2 λo bs' ck' p1 p2 p3=>?_;have hkin:k∈wkv8.map (·.1):=Yu.2 ⟨_,ZY hi,rfl⟩;obtain⟨rfl,rfl⟩:=p3 hkin;have hT14:=hT13.put (.inr rfl) hs13 y1 y2 y3 y4 y5 (λt w hw hne=>y6 t w hw hne) p1;obtain⟨St14,hg14⟩:=St10.cpart hg10 ((Av.more hle10 hle1012).trans (St13.trans p2));refine Ae ?_;refine Ag (dn++[x]) (LV (ZY hx) hnd) sE ⟨_,_,_,St14,hg14,hT14,?_,?_,?_⟩
     ·rw[JP,if_pos hkin,hks]
     ·intro z hz;rw[Yd,YA]at hz;rcases hz with hz|rfl
      ·exact d1 z hz
      ·exact ZY hx
     ·intro j k' x' a1 a2;by_cases e:k'=k
      ·subst e;have hj:=EC w6 a1 hki;subst hj;rw[hx]at a2;cases a2;rw[if_pos rfl,if_pos (by simp),<-Uf];rcases hl2 with h1|⟨h1,h2⟩
       ·rw[h1]
       ·rw[Ug hok.n.1 h1,h2,show l1.length=EL.length by omega]
      ·simp only[e,if_false];rw[d2 j k' x' a1 a2];have hxx:x'≠x:=by
        rintro rfl;have hj:=EC w4 a2 hx;subst hj;rw[hki]at a1;cases a1;exact e rfl
       simp[hxx]
def GL (w n:Int):Prop:=w<1\/8<w\/n<1\/w<n
instance (w n:Int):Decidable (GL w n):=by unfold GL;infer_instance
def S28 (N:Num):Spec:=λargs h K=>∃ w n,args=[.int .i64 w,.int .i64 n] /\
 (GL w n->∀ h',Heap.le h h'->K (.tuple #[.pointer O,Cm N 1]) h') /\
 (¬GL w n->∀ b h',h b=O->Heap.le h h'->Sk (fr h h') b w.toNat n.toNat []->K (.tuple #[.pointer (U ⟨b,0,O⟩),.nilIface]) h')
theorem F28_ok {N:Num} {Γ:Ctx} [Ak Γ]:Sat (S28 N) (SF N Γ F28):=by
 rintro _ h K ⟨w,n,rfl,hK1,hK2⟩;refine An rfl ?_;simp only[F28,Ze,Nat.reduceSub,Nat.reduceAdd];refine Ae ?_;refine Ad (λc1=>?_) (λc1=>?_)
 ·refine Ae ?_;exact hK1 (by unfold GL;omega) h (ZX h)
 ·refine Ae ?_;refine EX (ek:=AF) (ev:=(id:Value->Value)) λm h1 hm0 hle1 hmE=>?_;refine Ae ?_;refine AO λb h2 hle2 hb ho=>?_;refine Ae ?_;simp only[GL]at hK2;have hbm:b≠m:=by
   rintro rfl;exact(hmE.le (Au _ _)).mem hb
  refine hK2 oM b h2 (AC hle1 b hb) (hle1.trans hle2) ⟨λ_=>O,.slice O 0 0,m,[],[],0,λ_=>O,[],⟨?_,BE.nil,hmE.le (Fg hle2),λ_ _=>rfl,λt v h=>by simp[Bd]at h,λt t' v v' h=>by simp[Bd]at h,hbm,⟨by simp[Ao],by simp[Ao]⟩,rfl,λi hi=>by simp at hi,λy o hy=>(by cases hy),rfl,rfl,λ_ _=>rfl⟩,λtag=>by simp[Bb]⟩;have h3:=ho.le (Ql hle1);have e1:((w.toNat:Nat):Int)=w:=oM;have e2:((n.toNat:Nat):Int)=n:=oM;rw[e1,e2];exact h3
def S31:Spec:=λargs h K=>∃ g b window need EL,args=[.pointer (U ⟨b,0,O⟩)]/\Sk g b window need EL/\Heap.le g h/\K (.int .i64 EL.length) h
theorem F31_ok {N:Num} {Γ:Ctx} [Ak Γ]:Sat S31 (SF N Γ F31):=by
 rintro _ h K ⟨g,b,window,need,EL,rfl,⟨W,ev,mw,wkv,bs,ck,gi,ems,hT,hW⟩,hg,hK⟩;refine An rfl ?_;simp only[F31,Ze,Nat.reduceSub,Nat.reduceAdd];have A2:h.cell ((⟨b,0,O⟩:Addr).add 2)=U ev:=(Ah.le hT.obj hg).rules.1 2 (by simp);have Re:=((BE.sl (enc:=Fw) (sz:=1) (λ_=>rfl) (hT.evs.le hg)).rules 1 (λ_=>rfl) default)
 have hel:=hT.elen;refine CS @A2 @Re @hel ?_;exact hK
def S30 (N:Num):Spec:=λargs h K=>∃ g b window need EL tag e,args=[.pointer (U ⟨b,0,O⟩),.string (str tag),.int .i64 e]/\Sk g b window need EL/\Heap.le g h /\
 ((e<0\/(EL.length:Int)<=e)->K (.tuple #[.int .i64 0,Cm N 1]) h) /\
 (0<=e->e<EL.length->¬ Bb EL tag->K (.tuple #[.int .i64 0,Cm N 5]) h) /\
 (0<=e->e<EL.length->Bb EL tag->K (.tuple #[.int .i64 (Iy window need (EL.take (e.toNat+1)) tag),.nilIface]) h)
theorem Bn.lkpos {h:Heap} {m:Nat} {kv:List (List UInt8×Value)} {bs:List Nat} {ck:Nat} (hm:Bn AF id h m kv bs ck) (k:List UInt8):A8 h (.lkpo .str (.slice O 0 0)) (.v (.map (U m))) (.v (.string (str k)))=U (.v (.tuple #[(look kv k).getD (.slice O 0 0),.bool (look kv k).isSome])):=by
 have:=(hm.rules .str).2.1 (.slice O 0 0) k;rw[show(Value.string (str k))=AF k from rfl,this];cases look kv k<;>rfl
theorem F30_ok {N:Num} {Γ:Ctx} [Ak Γ]:Sat (S30 N) (SF N Γ F30):=by
 rintro _ h K ⟨g,b,window,need,EL,tag,e,rfl,⟨W,ev,mw,wkv,bs,ck,gi,ems,hT,hW⟩,hg,hK1,hK2,hK3⟩;refine An rfl ?_;simp only[F30,Ze,Nat.reduceSub,Nat.reduceAdd];have A2:h.cell ((⟨b,0,O⟩:Addr).add 2)=U ev:=(Ah.le hT.obj hg).rules.1 2 (by simp);have A3:h.cell ((⟨b,0,O⟩:Addr).add 3)=U (.map (U mw)):=(Ah.le hT.obj hg).rules.1 3 (by simp);have Re:=((BE.sl (enc:=Fw) (sz:=1) (λ_=>rfl) (hT.evs.le hg)).rules 1 (λ_=>rfl) default)
 have hel:=hT.elen;have Rk:=(hT.wm.le hg).lkpos tag;have hWt:=hW tag;refine CS @A2 @Re @hel ?_;refine Ad (λc1=>?_) (λc1=>?_)
 ·refine Ae ?_;exact hK1 oM
 ·cases hlk:look wkv tag with
  |none=>
   rw[hlk]at Rk;refine AH @A3 @Rk ?_;refine hK2 oM oM λe=>?_;rw[hT.wnone tag hlk,if_pos e]at hWt;cases hWt
  |some v=>
   rw[hlk]at Rk;obtain⟨l,x,q1,q2,q3,_⟩:=hT.wsome tag v hlk (by simp);have Rv:=((BE.sl (enc:=DB) (sz:=1) (λ_=>rfl) (q2.le hg)).rules1 (λn=>.int .i64 n) (λ_=>rfl) default)
   have ht:Bb EL tag:=by
    refine Classical.byContradiction λh3=>?_;rw[if_neg h3,q1]at hWt;cases hWt
   rw[if_pos ht,q1]at hWt;cases hWt;obtain⟨i,rfl⟩:∃ i:Nat,e=i:=⟨e.toNat,oM⟩
   have hwl:(wl window need EL tag).length=EL.length:=by simp[wl]
   have hge:(wl window need EL tag).getD i default=Iy window need (EL.take (i+1)) tag:=by
    rw[Zp,Zj oM];simp[wl]
   rw[hwl]at Rv;have hi:i<EL.length:=oM;refine Le @A3 @Rk @Rv @hge @DB.eq_1 ?_;exact hK3 oM oM ht
def Mq (v:Value):List Value:=[v]
def SS (h:Heap) (v:Value) (L:List (List Si)):Prop:=∃ vs:List Value,Sl Mq h v vs/\vs.length=L.length/\∀ i,i<L.length->Sl Si.enc h (vs.getD i undef) (L.getD i [])
def WL (h:Heap) (a:Addr) (window need:Nat) (E:List (List Si)):Prop:=∃ ev fv,Ah h a [.int .i64 window,.int .i64 need,ev,fv]/\SS h ev E/\E.length<=1000/\∀ l∈E,l.length<=2000
def S55:Spec:=λargs h K=>∃ a tag window need E u,args=[.pointer (U a),.string (str tag),.int .i64 u]/\WL h a window need E/\K (.bool (decide (Bb (E.take (u+1).toNat) tag))) h
theorem F55_ok {N:Num} {Γ:Ctx} [Ak Γ]:Sat S55 (SF N Γ F55):=by
 rintro _ h K ⟨a,tag,window,need,E,u,rfl,⟨ev,fv,ha,⟨vs,hv,hvl,hr⟩,hE,hEl⟩,hK⟩;refine An rfl ?_;simp only[F55,Ze,Nat.reduceSub,Nat.reduceAdd];have A2:h.cell (a.add 2)=U ev:=ha.rules.1 2 (by simp);have R:=hv.rules1 id (λ_=>rfl) undef;rw[hvl]at R;refine Ae ?_;refine Aj (λe:Nat=>[U (.pointer (U a)),U (.string (str tag)),U (.int .i64 u),O,U (.int .i64 e),O,O,O,O]) (λe h1=>h1=h/\e<=E.length/\(e:Int)<=max 0 (u+1)/\¬ Bb (E.take e) tag) (λe=>E.length-e) 0 (by try simp only[Pf];rfl) ⟨rfl,oM,oM,by simp[Bb]⟩ ?_;rintro e h1 ⟨rfl,he,heu,hn⟩;refine AH @A2 @R ?_;refine Ad (λc1=>?_) (λc1=>?_)
 ·have he2:e<E.length:=oM;have Re:=(hr e he2).rules 4 Si.enc_len default;have hle:=hEl _ (As [] he2);refine Ae ?_;refine Aj (λi:Nat=>[U (.pointer (U a)),U (.string (str tag)),U (.int .i64 u),O,U (.int .i64 e),U (.int .i64 i),O,O,O]) (λi h2=>h2=h1/\i<=(E.getD e []).length/\∀ s∈(E.getD e []).take i,s.tag≠tag) (λi=>(E.getD e []).length-i) 0 (by try simp only[Pf];rfl) ⟨rfl,oM,by simp⟩ ?_;rintro i h2 ⟨rfl,hi,hni⟩;refine Ek @A2 @R (@id_eq Value) @Re ?_;refine Ad (λc2=>?_) (λc2=>?_)
  ·have A5:i<(E.getD e []).length:=oM;refine Le @A2 @R (@id_eq Value) @Re @Si.enc.eq_1 ?_;refine Ad (λc3=>?_) (λc3=>?_)
   ·refine Ae ?_;have ht:Bb (E.take (u+1).toNat) tag:=⟨E.getD e [],by
     rw[List.mem_take_iff_getElem];exact⟨e,oM,by simp[Zp,he2]⟩,_,As default A5,c3⟩
    rw[decide_eq_true ht]at hK;exact hK
   ·refine Ae ?_;refine Ag (i+1) oM sE ⟨rfl,oM,λs hs=>?_⟩;rw[Ai default A5,Yd,YA]at hs;rcases hs with hs|rfl
    ·exact hni s hs
    ·exact c3
  ·refine Ae ?_;refine Ag (e+1) oM sE ⟨rfl,oM,oM,?_⟩;rw[Ai [] he2];rintro⟨l,hl,s,hs,h3⟩;rw[Yd,YA]at hl;rcases hl with hl|rfl
   ·exact hn ⟨l,hl,s,hs,h3⟩
   ·exact hni s (by rw[ZB oM];exact hs) h3
 ·refine Ae ?_;have ht:¬ Bb (E.take (u+1).toNat) tag:=by
   have:E.take (u+1).toNat=E.take e:=by
    by_cases c:e<E.length
    ·have:(u+1).toNat=e:=oM;rw[this]
    ·rw[ZB oM,ZB oM]
   rw[this];exact hn
  rw[decide_eq_false ht]at hK;exact hK
theorem AQ.put {α:Type} {enc:α->List Value} {sz:Nat} (he:∀ x,(enc x).length=sz) {h0 h:Heap} {v:Value} {L M:List α} (hone:∀ x∈M,(enc x).all Cw.one=true) (ho:AQ enc sz h0 h v L) {j:Nat} (hj:j+M.length<=L.length) (hL:L≠[]) :
  ∃ h',putRow h (K0 v (j*sz)) (M.flatMap enc)=U h'/\AQ enc sz h0 h' v (L.take j++M++L.drop (j+M.length)):=by
 obtain⟨h1,a,cap,rfl,h2,h3,h4⟩:=ho;rcases h4 with⟨_,e,_⟩|⟨b,c,t,rfl,hb0,hb,hcs,hc⟩
 ·exact absurd e hL
 have fl:=AZ he L;have flM:=AZ he M;have hle:j*sz+M.length*sz<=L.length*sz:=by rw[<-Zq];exact Zm sz hj
 have hcap:L.length*sz<=cap*sz:=Zm sz h2;have hlen:(L.take j++M++L.drop (j+M.length)).length=L.length:=by simp only[Zk,Zn,ZO];omega
 have hall:(M.flatMap enc).all Cw.one=true:=by
  rw[List.all_flatMap,List.all_eq_true];intro y hy;exact hone y hy
 refine⟨h.set b (.cells (Dy c (j*sz) (M.flatMap enc)) t (0,0)),?_,?_⟩
 ·simp only[K0];rw[AU _ rfl];cases hf:M.flatMap enc with
  |nil=>
   simp only[putRow,Dy,Option.some.injEq];funext y;simp only[Heap.set];split
   ·rename_i e;subst e;exact hb
   ·rfl
  |cons y ys=>
   have q1:0+j*sz+(y::ys).length<=c.size:=by rw[<-hf,flM,hcs];omega
   have q2:(y::ys).all Cw.one=true:=by rw[<-hf];exact hall
   simp only[putRow,Zw,Ym,if_false,hb];rw[if_pos ⟨q1,q2⟩];simp
 ·refine⟨h1.over hb0 _,U ⟨b,0,O⟩,cap,by rw[hlen],by rw[hlen];exact h2,h3,.inr ⟨b,_,t,rfl,hb0,Aab,?_,?_⟩⟩
  ·rw[(GJ c (M.flatMap enc) (j*sz) 0 (by rw[flM,hcs];omega)).1,hcs]
  ·intro i hi;rw[(GJ c (M.flatMap enc) (j*sz) i (by rw[flM,hcs];omega)).2,flM];have f1:((L.take j).flatMap enc).length=j*sz:=by rw[AZ he,Zn];congr 1;omega
   have hsplit:L.flatMap enc=(L.take j).flatMap enc++(((L.drop j).take M.length).flatMap enc++(L.drop (j+M.length)).flatMap enc):=by
    rw[<-Z0,<-Z0,<-List.drop_drop,ZD,ZD]
   have f2:(((L.drop j).take M.length).flatMap enc).length=M.length*sz:=by
    rw[AZ he,Zn,ZO];congr 1;omega
   rw[Z0,Z0,Zy];rw[AZ he,hlen]at hi;have hci:=hc i (by rw[fl];exact hi);by_cases e1:i<j*sz
   ·rw[if_neg oM,hci,hsplit,Zl (by rw[f1];exact e1),Zl (by rw[f1];exact e1)]
   ·rw[YN (by rw[f1];omega),f1];by_cases e2:i<j*sz+M.length*sz
    ·rw[if_pos ⟨oM,e2⟩,Zl (by rw[flM];omega)]
    ·rw[if_neg oM,hci,hsplit,YN (by rw[f1];omega),f1,YN (by rw[f2];omega),YN (by rw[flM];omega),f2,flM]
theorem Nl {N:Num} {Γ:Ctx} {α:Type} {enc:α->List Value} {sz:Nat} (he:∀ x,(enc x).length=sz) {h0 h:Heap} {v x:Value} {L:List α} (y:α) (hone:(enc y).all Cw.one=true) (ho:AQ enc sz h0 h v L) {j:Nat} (hj:j<L.length) (hx:x.cells.toList=enc y) {K:Value->Heap->Prop}
  (hK:∀ h',AQ enc sz h0 h' v (L.set j y)->K undef h'):By N Γ (.st sz) [.pointer (U (K0 v (j*sz))),x] h K:=by
 obtain⟨h',h1,h2⟩:=ho.put he (M:=[y]) (by simpa using hone) (j:=j) (by simp;omega) (by intro e;subst e;simp at hj);refine⟨by rw[<-Zv,hx,he],h',by rw[hx];simpa using h1,hK h' ?_⟩;have:L.set j y=L.take j++[y]++L.drop (j+1):=by
  rw[List.set_eq_take_append_cons_drop,if_pos hj];simp
 rw[this];exact h2
theorem Wf {N:Num} {Γ:Ctx} {α:Type} {enc:α->List Value} (he:∀ x,(enc x).length=1) {h0 h:Heap} {v:Value} {l:List α} {z:α} (hone:∀ x∈l,(enc x).all Cw.one=true) (ho:AQ enc 1 h0 h v (l++[z])) {k:Nat} (hk:k<=l.length) :
  ∃ d s,(∀k1 k2,JE (.lsl 1) (.v v) (.v (.int k1 ((k+1:Nat):Int))) (.v (.int k2 ((l.length+1:Nat):Int)))=U (.v d))/\(∀k1 k2,JE (.lsl 1) (.v v) (.v (.int k1 (k:Int))) (.v (.int k2 ((l.length+1:Nat):Int)))=U (.v s)) /\
   ∀ K:Value->Heap->Prop,(∀u h',AQ enc 1 h0 h' v ((l++[z]).take (k+1)++l.drop k)->K u h')->By N Γ (.cpy 1) [d,s] h K:=by
 have hput:=ho.put he (M:=l.drop k) (λx hx=>hone x (Aac hx)) (j:=k+1) (by simp;omega) (by simp);obtain⟨h',p1,p2⟩:=hput;have hsl:=ho.sl he;have hfull:=p2;obtain⟨h1,a,cap,rfl,h2,h3,h4⟩:=ho;rcases h4 with⟨_,e,_⟩|⟨b,c,t,rfl,hb0,hb,hcs,hc⟩
 ·simp at e
 simp only[Zk,Zo]at h2;refine⟨.slice (if cap=k+1 then U ⟨b,0,O⟩else U ((⟨b,0,O⟩:Addr).add ((k+1)*1))) (l.length+1-(k+1)) (cap-(k+1)),.slice (U ((⟨b,0,O⟩:Addr).add (k*1))) (l.length+1-k) (cap-k),?_,?_,?_⟩
 ·intro k1 k2;simp only[JE];rw[if_pos ⟨oM,oM,oM⟩];simp
 ·intro k1 k2;simp only[JE];rw[if_pos ⟨oM,oM,oM⟩];rw[if_neg oM];simp
 ·intro K hK;have hmin:min (l.length+1-k) (l.length+1-(k+1))*1=l.length-k:=oM;have hflen:((l++[z]).flatMap enc).length=l.length+1:=by rw[AZ he];simp
  have hdl:((l.drop k).flatMap enc).length=l.length-k:=by rw[AZ he];simp
  have hrow:h.row ((⟨b,0,O⟩:Addr).add (k*1)) (l.length-k)=U ((l.drop k).flatMap enc).toArray:=by
   have hr:Ew h ⟨b,0,O⟩ ((l++[z]).flatMap enc):=by
    refine⟨rfl,c,t,_,hb,?_,λi hi=>by simpa using hc i hi⟩;rw[hflen,hcs];dsimp only;omega
   rw[hr.row (by rw[hflen];omega)];have e1:l.flatMap enc=(l.take k).flatMap enc++(l.drop k).flatMap enc:=by rw[<-Z0,ZD]
   have e2:((l.take k).flatMap enc).length=k*1:=by rw[AZ he,Zn];congr 1;omega
   rw[Z0,e1,Zy,<-e2,List.drop_left',<-hdl,List.take_left']
   ·rfl
   ·rfl
  have hlist:(l++[z]).take (k+1)++l.drop k++(l++[z]).drop (k+1+(l.drop k).length)=(l++[z]).take (k+1)++l.drop k:=by
   have:(l++[z]).drop (k+1+(l.drop k).length)=[]:=by apply ZC;simp;omega
   rw[this,AaP]
  rw[hlist]at p2;by_cases hc1:cap=k+1
  ·have hkl:k=l.length:=oM;subst hkl;simp only[List.drop_length,AaM,putRow,Option.some.injEq]at p1;subst p1;simp only[if_pos hc1,By];refine⟨#[],by simp[Heap.row],h,by simp[putRow],oM,hK _ _ p2⟩
  ·simp only[if_neg hc1,By];rw[hmin];refine⟨_,hrow,h',?_,oM,hK _ _ p2⟩;simpa[K0]using p1
def AB (s:List UInt8):List Value:=[.string (str s)]
def EV:List (List UInt8)->List UInt8->List (List UInt8)
 |[],s=>[s]
 |x::l,s=>if Op.bytesLess x s then x::EV l s else if x=s then x::l else s::x::l
theorem Tr (s:List UInt8) (rest:List (List UInt8)):∀ pre:List (List UInt8),(∀x∈pre,Op.bytesLess x s=true)->EV (pre++rest) s=pre++EV rest s:=by
 intro pre;induction pre with
 |nil=>intro _;rfl
 |cons x pre ih=>
  intro h;simp only[Y7,EV];rw[if_pos (h x (by simp)),ih λy hy=>h y (by simp[hy])]
theorem Ts (s:List UInt8):∀ l:List (List UInt8),(EV l s).length<=l.length+1:=by
 intro l;induction l with
 |nil=>simp[EV]
 |cons x l ih=>
  simp only[EV];split
  ·simp;omega
  ·split<;>simp
theorem Nc (s t:List UInt8):∀ l:List (List UInt8),t∈EV l s↔t=s\/t∈l:=by
 intro l;induction l with
 |nil=>simp[EV]
 |cons x l ih=>
  simp only[EV];split
  ·simp only[X5,ih];constructor
   ·rintro(h|h|h)<;>simp[h]
   ·rintro(h|h|h)<;>simp[h]
  ·split
   ·rename_i e;subst e;simp
   ·simp
def BI (l:List (List UInt8)):List (List UInt8):=l.foldl EV []
theorem Ej (l:List (List UInt8)) (s:List UInt8):BI (l++[s])=EV (BI l) s:=by simp[BI]
theorem GE (l:List (List UInt8)):(BI l).length<=l.length:=by
 induction l using BG with
 |h0=>simp[BI]
 |hs l s ih=>rw[Ej];have:=Ts s (BI l);simp;omega
theorem Nb (l:List (List UInt8)) (t:List UInt8):t∈BI l↔t∈l:=by
 induction l using BG with
 |h0=>simp[BI]
 |hs l s ih=>rw[Ej,Nc,ih,Yd,YA];exact or_comm
def FQ (E:List (List Si)):List (List UInt8):=(E.flatMap id).map (·.tag)
def AX (E:List (List Si)):List (List UInt8):=BI (FQ E)
theorem Ko (E:List (List Si)) (l:List Si):FQ (E++[l])=FQ E++l.map (·.tag):=by simp[FQ]
theorem I1 (E:List (List Si)) (h:∀ l∈E,l.length<=2000):(FQ E).length<=2000*E.length:=by
 induction E using BG with
 |h0=>simp[FQ]
 |hs E l ih=>
  have h1:=ih λx hx=>h x (by simp[hx]);have h2:=h l (by simp);rw[Ko];simp only[Zk,Aaw,Zo];omega
theorem Rp (E:List (List Si)) (t:List UInt8):t∈FQ E↔Bb E t:=by
 simp only[FQ,Yu,List.mem_flatMap,id,Bb,C9];constructor
 ·rintro⟨s,⟨l,hl,hs⟩,rfl⟩;exact⟨l,hl,s,hs,rfl⟩
 ·rintro⟨l,hl,s,hs,rfl⟩;exact⟨s,⟨l,hl,hs⟩,rfl⟩
theorem CG (E:List (List Si)) (t:List UInt8):t∈AX E↔Bb E t:=by rw[AX,Nb,Rp]
def S14:Spec:=λargs h K=>∃ a window need E u,args=[.pointer (U a),.int .i64 u]/\WL h a window need E/\∀ v h',AQ AB 1 h h' v (AX (E.take (u+1).toNat))->K v h'
theorem F14_ok {N:Num} {Γ:Ctx} [Ak Γ]:Sat S14 (SF N Γ F14):=by
 rintro _ h K ⟨a,window,need,E,u,rfl,⟨ev,fv,ha,⟨vs,hv,hvl,hr⟩,hE,hEl⟩,hK⟩;refine An rfl ?_;simp only[F14,Ze,Nat.reduceSub,Nat.reduceAdd];refine Ae ?_;refine Aj (λs:Nat×Value=>[U (.pointer (U a)),U (.int .i64 u),O,U s.2,U (.int .i64 s.1),O,O,O,O,O,O,O,O,O,O])
  (λs h1=>s.1<=E.length/\(s.1:Int)<=max 0 (u+1)/\AQ AB 1 h h1 s.2 (AX (E.take s.1))) (λs=>E.length-s.1) (0,.slice O 0 0) (by try simp only[Pf];rfl) ⟨dM,dM,by simp[AX,FQ,BI];exact AQ.nil (ZX h)⟩ ?_
 rintro⟨e,v⟩ h1 ⟨he,heu,ho⟩;dsimp only at he heu ho;have A2:=λh' (hl:Heap.le h h')=>((ha.le hl).rules.1 2 (by simp):h'.cell (a.add 2)=U ev)
 have RR:=λh' (hl:Heap.le h h')=>(hv.le hl).rules1 id (λ_=>rfl) undef;rw[hvl]at RR;have A21:=A2 h1 ho.1;have R1:=RR h1 ho.1;have O1:=ho.one;refine AH @A21 @R1 ?_;refine Ad (λc1=>?_) (λc1=>?_);rotate_left
 ·have:E.take (u+1).toNat=E.take e:=by
   by_cases c:e<E.length
   ·have:(u+1).toNat=e:=oM;rw[this]
   ·rw[ZB oM,ZB oM]
  rw[this]at hK;refine Ae ?_;exact hK _ _ ho
 have he2:e<E.length:=oM;have hle:=hEl _ (As [] he2);have hfl:=I1 (E.take e) λl hl=>hEl l (Z4 hl);have htl:(E.take e).length<=1000:=by rw[Zn];omega
 have hsnoc:AX (E.take (e+1))=BI (FQ (E.take e)++(E.getD e []).map (·.tag)):=by rw[AX,Ai [] he2,Ko]
 have hrow:=hr e he2;generalize hrw:E.getD e []=row at *;generalize hft:FQ (E.take e)=fT at *;have htE:AX (E.take e)=BI fT:=by rw[AX,hft]
 rw[htE]at ho;refine Ae ?_;refine Aj (λs:Nat×Value=>[U (.pointer (U a)),U (.int .i64 u),O,U s.2,U (.int .i64 e),U (.int .i64 s.1),O,O,O,O,O,O,O,O,O])
  (λs h2=>s.1<=row.length/\AQ AB 1 h h2 s.2 (BI (fT++(row.take s.1).map (·.tag)))) (λs=>row.length-s.1) (0,v) (by try simp only[Pf];rfl) ⟨dM,by simpa using ho⟩ ?_
 rintro⟨i,v2⟩ h2 ⟨hi,ho2⟩;dsimp only at hi ho2;have A22:=A2 h2 ho2.1;have R2:=RR h2 ho2.1;have Re2:=(hrow.le ho2.1).rules 4 Si.enc_len default;have O2:=ho2.one;refine Ek @A22 @R2 (@id_eq Value) @Re2 ?_;refine Ad (λc2=>?_) (λc2=>?_);rotate_left
 ·have:i=row.length:=oM;subst this;rw[Z5,<-hsnoc]at ho2;refine Ae ?_;exact Ag (e+1,v2) dM sE ⟨dM,dM,ho2⟩
 have A5:i<row.length:=oM;have hsn2:BI (fT++(row.take (i+1)).map (·.tag))=EV (BI (fT++(row.take i).map (·.tag))) (row.getD i default).tag:=by
  rw[Ai default A5,Aam,<-Zy];exact Ej _ _
 have hLl:=GE (fT++(row.take i).map (·.tag));simp only[Zk,Aaw,Zn]at hLl;refine Le @A22 @R2 (@id_eq Value) @Re2 @Si.enc.eq_1 ?_;generalize hL:BI (fT++(row.take i).map (·.tag))=L at *;generalize hs:(row.getD i default).tag=s at *;have hLb:L.length<=3000000:=oM;have RL:=(ho2.sl (enc:=AB) (λ_=>rfl)).rules1 (λt=>.string (str t)) (λ_=>rfl) default;refine AA (λenv h3=>h3=h2/\∃ k,k<=L.length/\(∀x∈L.take k,Op.bytesLess x s=true)/\(k<L.length->Op.bytesLess (L.getD k default) s=false)/\env=[U (.pointer (U a)),U (.int .i64 u),O,U v2,U (.int .i64 e),U (.int .i64 i),U (.string (str s)),U (.int .i64 k),O,O,O,O,O,O,O]) ?_ ?_;rotate_left
 ·refine Aj (λk:Nat=>[U (.pointer (U a)),U (.int .i64 u),O,U v2,U (.int .i64 e),U (.int .i64 i),U (.string (str s)),U (.int .i64 k),O,O,O,O,O,O,O])
   (λk h3=>h3=h2/\k<=L.length/\∀ x∈L.take k,Op.bytesLess x s=true) (λk=>L.length-k) 0 (by try simp only[Pf];rfl) ⟨rfl,oM,by simp⟩ ?_
  rintro k h3 ⟨rfl,hk,hkl⟩;by_cases hk2:k<L.length
  ·have hk3:((k:Int)<(L.length:Int))=True:=by simp;omega
   cases hb:Op.bytesLess (L.getD k default) s with
   |true=>
    refine CS @RL @hk3 @hb ?_;refine Ag (k+1) oM sE ⟨rfl,oM,λx hx=>?_⟩;rw[Ai default hk2,Yd,YA]at hx;rcases hx with hx|rfl
    ·exact hkl x hx
    ·exact hb
   |false=>
    refine CS @RL @hk3 @hb ?_;exact Ar _ sE ⟨rfl,k,hk,hkl,λ_=>hb,rfl⟩
  ·have hk3:((k:Int)<(L.length:Int))=False:=by simp;omega
   refine AH @RL @hk3 ?_;exact Ar _ sE ⟨rfl,k,hk,hkl,λh=>absurd h hk2,rfl⟩
 rintro env h3 ⟨rfl,k,hk,hkl,hkn,rfl⟩;have hins:EV L s=L.take k++EV (L.drop k) s:=by
  conv=>lhs;rw[<-ZD k L]
  exact Tr s _ _ hkl
 by_cases hin:k<L.length/\L.getD k default=s
 ·obtain⟨hk2,hks⟩:=hin;have hk3:((k:Int)<(L.length:Int))=True:=by simp;omega
  have hL2:EV L s=L:=by
   rw[hins];have h1:L.drop k=L.getD k default::L.drop (k+1):=by
    rw[Aaj hk2];simp[Zp,hk2]
   rw[h1];simp only[EV];rw[hkn hk2,if_neg (by simp),if_pos hks,<-h1,ZD]
  rw[hL2]at hsn2;refine CS @RL @hk3 @hks ?_;refine Ag (i+1,v2) dM sE ⟨dM,?_⟩;dsimp only;rw[hsn2];exact ho2
 ·have hL2:EV L s=L.take k++[s]++L.drop k:=by
   rw[hins];by_cases hk2:k<L.length
   ·have h1:L.drop k=L.getD k default::L.drop (k+1):=by
     rw[Aaj hk2];simp[Zp,hk2]
    rw[h1];simp only[EV];rw[hkn hk2,if_neg (by simp),if_neg (λe=>hin ⟨hk2,e⟩)];simp
   ·rw[ZC oM];simp[EV]
  rw[hL2]at hsn2;have O3:=ho2.one;by_cases hk2:k<L.length;rotate_left;have hk3:((k:Int)<(L.length:Int))=False:=by simp;omega
  refine AH @RL @hk3 ?_;rotate_left;have hk3:((k:Int)<(L.length:Int))=True:=by simp;omega
  have hk4:(L.getD k default=s)=False:=by simpa using λe=>hin ⟨hk2,e⟩
  refine CS @RL @hk3 @hk4 ?_
  all_goals
   refine Bg AB 1 (λ_=>rfl) [[]] rfl rfl (by simp[maxLen]) λx1 b1 h4 hle4 hb1 hx1 hS1=>?_;have O2':=hS1.one;refine Ae ?_;refine D7 (enc:=AB) (λ_=>rfl) (l':=[[]]) (by simp[AB,one]) (ho2.le hle4) (BE.sl (enc:=AB) (λ_=>rfl) (hS1.le (Au _ _))) (by simp;omega) λv5 h5 ho5=>?_;obtain⟨d,sv,c1,c2,c3⟩:=Wf (N:=N) (Γ:=Γ) (enc:=AB) (λ_=>rfl) (z:=[]) (λ_ _=>rfl) ho5 hk;have O5:=ho5.one;have R5:=ho5.sl (enc:=AB) (λ_=>rfl);have Rl5:=(R5.rules1 (λt=>.string (str t)) (λ_=>rfl) default).1;have e51:(L++[([]:List UInt8)]).length=L.length+1:=by simp
   rw[e51]at Rl5;refine CS @Rl5 @c1 @c2 ?_;refine c3 _ λuu h6 ho6=>?_;have hlen6:((L++[([]:List UInt8)]).take (k+1)++L.drop k).length=L.length+1:=by simp;omega
   have Rl6:=((ho6.sl (enc:=AB) (λ_=>rfl)).rules1 (λt=>.string (str t)) (λ_=>rfl) default)
   rw[hlen6]at Rl6;refine Ap @Rl6 ?_;have hst:=λK hK=>Nl (N:=N) (Γ:=Γ) (enc:=AB) (sz:=1) (λ_=>rfl) s rfl ho6 (x:=.string (str s)) (j:=k) oM rfl (K:=K) hK;rw[Nat.mul_one]at hst;refine hst _ λh7 ho7=>?_;refine Ae ?_;refine Ag (i+1,v5) dM sE ⟨dM,?_⟩;dsimp only;rw[hsn2];have:((L++[([]:List UInt8)]).take (k+1)++L.drop k).set k s=L.take k++[s]++L.drop k:=by
    have hkt:((L++[([]:List UInt8)]).take (k+1)).length=k+1:=by simp;omega
    rw[List.set_append_left _ _ oM];congr 1;apply List.ext_getElem
    ·simp
    ·intro j h1 h2;rw[List.getElem_set];by_cases e:k=j
     ·subst e;rw[if_pos rfl,List.getElem_append_right (by simp;omega)];simp
     ·have hj:j<k:=by simp at h2;omega
      rw[if_neg e,AaA (by simp;omega)];simp only[List.getElem_take];rw[AaA oM]
   rw[this]at ho7;exact ho7
def Iw (l:List UInt8):Nat:=l.foldl (λa b=>(a+b.toNat)%256) 0
theorem R7 {l:List UInt8} {i:Nat} (hi:i<l.length):Iw (l.take (i+1))=(Iw (l.take i)+(l.getD i 0).toNat)%256:=by
 unfold Iw;rw[List.take_succ_eq_append_getElem hi,Aat];simp[Zp,hi]
theorem Qt (l:List UInt8):Iw l<256:=by
 rcases AaC l with rfl|⟨l',x,rfl⟩
 ·decide
 ·unfold Iw;simp only[AaD,Aat,Aan,Aay];omega
theorem w8 (n:Int):IntKind.u8.wrap n=n%256:=by simp[IntKind.wrap,IntKind.bits,IntKind.signed]
theorem Xd (n:Nat) (h:n<256):IntKind.u8.wrap ((BitVec.ofNat 8 255 ^^^ BitVec.ofNat 8 n).toNat:Nat)=255-(n:Int):=by
 have h1:BitVec.ofNat 8 255=BitVec.allOnes 8:=by decide
 rw[h1,BitVec.allOnes_xor,BitVec.toNat_not,BitVec.toNat_ofNat,w8];omega
theorem Xx {n:Nat} (h:n<256):IntKind.u8.wrap ((BitVec.ofInt IntKind.u8.bits (if IntKind.u8.signed=true then -1 else IntKind.u8.max) ^^^ BitVec.ofInt IntKind.u8.bits (n:Int)).toNat)=255-(n:Int):=Xd n h
def S56:Spec:=λargs h K=>∃ l:List UInt8,args=[.string (str l)]/\l.length<2^62/\K (.int .u8 (255-(Iw l:Int))) h
theorem F56_ok {N:Num} {Γ:Ctx} [Ak Γ]:Sat S56 (SF N Γ F56):=by
 rintro _ h K ⟨l,rfl,hsz,hK⟩;refine An rfl ?_;simp only[F56,Ze,Nat.reduceSub,Nat.reduceAdd];refine Ae ?_;refine Aj (λi:Nat=>[U (.string (str l)),U (.int .u8 0),U (.int .u8 (Iw (l.take i))),O,U (.int .i64 l.length),U (.int .i64 i),O]) (λi h'=>i<=l.length/\h'=h) (λi=>l.length-i) 0 ?_ ⟨oM,rfl⟩ ?_
 ·try simp only[Pf];exact⟨rfl,rfl⟩
 ·rintro i h' ⟨hi,rfl⟩;refine Ae ?_;refine Ad (λc1=>?_) (λc1=>?_)
  ·skip
   refine Ae ?_;refine Ag (i+1) oM ?_ ⟨oM,rfl⟩
   try simp only[Pf]
   rw[R7 oM,w8];rfl
  ·refine Ae ?_;have:i=l.length:=oM;rw[this,Z5,Xx (Qt _)];exact hK
structure Rd where
 ant:Int
 str:Int
 age:Int
 tag:List UInt8
 deriving DecidableEq,Inhabited
def Rd.enc (r:Rd):List Value:=[.int .i64 r.ant,.int .i64 r.str,.int .i64 r.age,.string (Cw.str r.tag)]
structure Fr where
 ty:Int
 reads:List Rd
 warm:Int
 deriving DecidableEq,Inhabited
def PH (h:Heap) (v:Value) (f:Fr):Prop:=∃ s,v=.agg #[.int .i64 f.ty,s,.int .i64 f.warm]/\Sl Rd.enc h s f.reads
def Rd.bad (r:Rd):Prop:=r.ant<0\/3<r.ant\/r.str<0\/255<r.str\/r.age<0\/255<r.age\/r.tag.length≠8
instance (r:Rd):Decidable r.bad:=by unfold Rd.bad;infer_instance
def Fr.fault (f:Fr):Nat:=
 if f.ty<1\/f.ty>3 then 1
 else if(f.ty≠1/\0<f.reads.length)\/(f.ty≠3/\f.warm≠0)then 3
 else if f.warm<0\/f.warm>255 then 1
 else if 4<f.reads.length then 2
 else if ∃r∈f.reads,r.bad then 1
 else 0
def S17:Spec:=λargs h K=>∃ v f,args=[v]/\PH h v f/\K (.int .i64 f.fault) h
theorem F17_ok {N:Num} {Γ:Ctx} [Ak Γ]:Sat S17 (SF N Γ F17):=by
 rintro _ h K ⟨_,f,rfl,⟨s,rfl,hs⟩,hK⟩;have R:=hs.rules 4 (λ_=>rfl) default;unfold Fr.fault at hK;refine An rfl ?_;simp only[F17,Ze,Nat.reduceSub,Nat.reduceAdd];refine Ap @R ?_;refine Ad (λc1=>?_) (λc1=>?_)
 ·try simp(disch:=first|omega|(simp only[PL];omega)) only[Zr,simprocAttr,-reduceIte];simpa[show f.ty<1\/f.ty>3 by omega]using hK
 refine Ap @R ?_;refine Ad (λc2=>?_) (λc2=>?_)
 ·try simp(disch:=first|omega|(simp only[PL];omega)) only[Zr,simprocAttr,-reduceIte];rw[if_neg oM,if_pos oM]at hK;exact hK
 refine Ae ?_;refine Ad (λc3=>?_) (λc3=>?_)
 ·try simp(disch:=first|omega|(simp only[PL];omega)) only[Zr,simprocAttr,-reduceIte];rw[if_neg oM,if_neg oM,if_pos oM]at hK;exact hK
 refine Ap @R ?_;refine Ad (λc4=>?_) (λc4=>?_)
 ·try simp(disch:=first|omega|(simp only[PL];omega)) only[Zr,simprocAttr,-reduceIte];rw[if_neg oM,if_neg oM,if_neg oM,if_pos oM]at hK;exact hK
 rw[if_neg oM,if_neg oM,if_neg oM,if_neg oM]at hK;refine Ap @R ?_;refine Aj (λi:Nat=>[O,U (.agg #[.int .i64 f.ty,s,.int .i64 f.warm]),O,U (.int .i64 i),O,O,O,O,O,O,O,O])
  (λi h'=>i<=f.reads.length/\h'=h/\∀ j,j<i->¬ (f.reads.getD j default).bad) (λi=>f.reads.length-i) 0 ?_ ⟨oM,rfl,by intro j hj;omega⟩ ?_
 ·try simp only[Pf];rfl
 ·rintro i h' ⟨hi,rfl,hg⟩;refine Ap @R ?_;refine Ad (λc5=>?_) (λc5=>?_)
  ·refine AH @R @Rd.enc.eq_1 ?_;refine Ad (λc6=>?_) (λc6=>?_)
   ·refine Ae ?_;rw[if_pos ⟨_,As default (i:=i) oM,by simp only[Rd.bad];omega⟩]at hK;exact hK
   ·refine Ae ?_;refine Ag (i+1) oM sE ⟨oM,rfl,?_⟩;intro j hj;by_cases e:j=i
    ·subst e;simp only[Rd.bad];omega
    ·exact hg j oM
  ·refine Ae ?_;rw[if_neg]at hK
   ·exact hK
   ·rintro⟨r,hr,hb⟩;obtain⟨j,hj,rfl⟩:=Z3 hr;refine hg j oM ?_;simpa[Zp,hj]using hb
def S19 (N:Num):Spec:=λargs h K=>∃ e f:Nat,args=[Cm N e,.int .i64 f]/\K (.bool (decide (e=f))) h
theorem F19_ok {N:Num} {Γ:Ctx} [Ak Γ]:Sat (S19 N) (SF N Γ F19):=by
 rintro _ h K ⟨e,f,rfl,hK⟩;refine An rfl ?_;simp only[F19,Ze,Nat.reduceSub,Nat.reduceAdd];refine Ap @Mo ?_;refine Ad (λc1=>?_) (λc1=>?_)
 ·refine Ae ?_;subst c1;simpa[eq_comm]using hK
 ·refine Ap (Ip N c1) ?_;have:((f:Int)>0/\(e:Int)=f)↔e=f:=oM;refine Ae ?_;rw[<-decide_eq_decide.2 this]at hK;exact hK
def S20 (N:Num):Spec:=λargs h K=>∃ v f,args=[v]/\PH h v f/\K (Cm N f.fault) h
theorem F20_ok {N:Num} {Γ:Ctx} [Ak Γ]:Sat (S20 N) (SF N Γ F20):=by
 rintro _ h K ⟨_,f,rfl,⟨s,rfl,hs⟩,hK⟩;have R:=hs.rules 4 (λ_=>rfl) default;unfold Fr.fault at hK;refine An rfl ?_;simp only[F20,Ze,Nat.reduceSub,Nat.reduceAdd];refine Ap @R ?_;refine Ad (λc1=>?_) (λc1=>?_)
 ·try simp(disch:=first|omega|(simp only[PL];omega)) only[Zr,simprocAttr,-reduceIte];rw[if_pos oM]at hK;exact hK
 refine Ap @R ?_;refine Ad (λc2=>?_) (λc2=>?_)
 ·try simp(disch:=first|omega|(simp only[PL];omega)) only[Zr,simprocAttr,-reduceIte];rw[if_neg oM,if_pos oM]at hK;exact hK
 refine Ae ?_;refine Ad (λc3=>?_) (λc3=>?_)
 ·try simp(disch:=first|omega|(simp only[PL];omega)) only[Zr,simprocAttr,-reduceIte];rw[if_neg oM,if_neg oM,if_pos oM]at hK;exact hK
 refine Ap @R ?_;refine Ad (λc4=>?_) (λc4=>?_)
 ·try simp(disch:=first|omega|(simp only[PL];omega)) only[Zr,simprocAttr,-reduceIte];rw[if_neg oM,if_neg oM,if_neg oM,if_pos oM]at hK;exact hK
 rw[if_neg oM,if_neg oM,if_neg oM,if_neg oM]at hK;refine Ap @R ?_;refine Aj (λi:Nat=>[O,O,O,O,O,O,O,O,U s,U (.int .i64 f.reads.length),U (.int .i64 i),O,O,O])
  (λi h'=>i<=f.reads.length/\h'=h/\∀ j,j<i->¬ (f.reads.getD j default).bad) (λi=>f.reads.length-i) 0 ?_ ⟨oM,rfl,by intro j hj;omega⟩ ?_
 ·try simp only[Pf];rfl
 ·rintro i h' ⟨hi,rfl,hg⟩;refine Ap @R ?_;refine Ad (λc5=>?_) (λc5=>?_)
  ·refine AH @R @Rd.enc.eq_1 ?_;refine Ad (λc6=>?_) (λc6=>?_)
   ·refine Ae ?_;rw[if_pos ⟨_,As default (i:=i) oM,by simp only[Rd.bad];omega⟩]at hK;exact hK
   ·refine Ae ?_;refine Ag (i+1) oM sE ⟨oM,rfl,?_⟩;intro j hj;by_cases e:j=i
    ·subst e;simp only[Rd.bad];omega
    ·exact hg j oM
  ·refine Ae ?_;rw[if_neg]at hK
   ·exact hK
   ·rintro⟨r,hr,hb⟩;obtain⟨j,hj,rfl⟩:=Z3 hr;refine hg j oM ?_;simpa[Zp,hj]using hb
theorem Ea {N:Num} {Γ:Ctx} {S:Spec} {k:Nat} {us:List Value} {caps:Array Value} {h:Heap} {K:Value->Heap->Prop} (hs:Sat S (Γ k)) (hx:S (us++caps.toList) h K):By N Γ .cal (.func (.func (N.fid k)) #[] caps::us) h K:=⟨k,rfl,rfl,hs _ _ _ hx⟩
def Oc (p:Int):Value:=.agg ((A4 p).elim [.int .i64 0,.int .i64 0,.int .i64 0,.int .i64 0] Pa.enc).toArray
def S79:Spec:=λargs h K=>∃ p,args=[.int .i64 p]/\K (.tuple #[Oc p,.bool (A4 p).isSome]) h
theorem F79_ok {N:Num} {Γ:Ctx} [Ak Γ]:Sat S79 (SF N Γ F79):=by
 rintro _ h K ⟨p,rfl,hK⟩;refine An rfl ?_;simp only[F79,Ze,Nat.reduceSub,Nat.reduceAdd];unfold Oc A4 at hK;refine Ae ?_;refine Ad (λc=>?_) (λc=>?_)
 ·rw[if_pos oM]at hK;refine Ae ?_;exact hK
 rw[if_neg oM]at hK;refine Ae ?_;refine Ad (λc=>?_) (λc=>?_)
 ·rw[if_pos oM]at hK;refine Ae ?_;exact hK
 rw[if_neg oM]at hK;refine Ae ?_;refine Ad (λc=>?_) (λc=>?_)
 ·rw[if_pos oM]at hK;refine Ae ?_;exact hK
 rw[if_neg oM]at hK;refine Ae ?_;refine Ad (λc=>?_) (λc=>?_)
 ·rw[if_pos oM]at hK;refine Ae ?_;exact hK
 rw[if_neg oM]at hK;refine Ae ?_;refine Ad (λc=>?_) (λc=>?_)
 ·rw[if_pos oM]at hK;refine Ae ?_;exact hK
 rw[if_neg oM]at hK;refine Ae ?_;refine Ad (λc=>?_) (λc=>?_)
 ·rw[if_pos oM]at hK;refine Ae ?_;exact hK
 rw[if_neg oM]at hK;refine Ae ?_;exact hK
def S117:Spec:=λargs h K=>∃ n:Nat,args=[.int .i64 n]/\n<=18/\K (.int .i64 (10^n:Nat)) h
theorem F117_ok {N:Num} {Γ:Ctx} [Ak Γ]:Sat S117 (SF N Γ F117):=by
 rintro _ h K ⟨n,rfl,hn,hK⟩;refine An rfl ?_;simp only[F117,Ze,Nat.reduceSub,Nat.reduceAdd];refine Ae ?_;refine Aj (λi:Nat=>[U (.int .i64 n),U (.int .i64 0),U (.int .i64 (10^i:Nat)),U (.int .i64 n),U (.int .i64 i),O]) (λi h1=>h1=h/\i<=n) (λi=>n-i) 0 (by rw[Nat.pow_zero];try simp only[Pf];exact⟨rfl,rfl⟩) ⟨rfl,oM⟩ ?_;rintro i h1 ⟨rfl,hi⟩;refine Ae ?_;refine Ad (λc=>?_) (λc=>?_)
 ·have hp:10^i*10<=10^18:=by rw[<-ZE];exact ZZ oM oM
  have hp2:IntKind.i64.wrap (((10^i:Nat):Int)*10)=((10^(i+1):Nat):Int):=by
   rw[BC oM oM,ZE];omega
  refine Ap @hp2 ?_;exact Ag (i+1) oM sE ⟨rfl,oM⟩
 ·have:i=n:=oM;subst this;refine Ae ?_;exact hK
def S107:Spec:=λargs h K=>∃ p,args=[.int .i64 p]/\∀ h',Heap.le h h'->K (.tuple #[Oc p,.bool (A4 p).isSome]) h'
theorem F107_ok {N:Num} {Γ:Ctx} [Ak Γ]:Sat S107 (SF N Γ F107):=by
 rintro _ h K ⟨p,rfl,hK⟩;refine An rfl ?_;simp only[F107,Ze,Nat.reduceSub,Nat.reduceAdd];refine Ae ?_;refine AO λb h1 hle1 hb ho=>?_;refine Ae ?_;have ho1:=ho.le (Au h h1);refine Br ho1 0 24 rfl rfl oM (Yq 24) λo hob _=>?_;have hob2:Ah (h1.set b o) ⟨b,0,O⟩ [.int .i64 20,.int .i64 6,.int .i64 6,.int .i64 1,.int .i64 17,.int .i64 5,.int .i64 9,.int .i64 2,.int .i64 14,.int .i64 4,.int .i64 12,.int .i64 3,.int .i64 10,.int .i64 3,.int .i64 16,.int .i64 4,.int .i64 7,.int .i64 2,.int .i64 19,.int .i64 5,.int .i64 4,.int .i64 1,.int .i64 22,.int .i64 6]:=hob h1 rfl;have hle2:Heap.le h (h1.set b o):=by
  intro x ob hx;have:x≠b:=by intro e;subst e;rw[hb]at hx;cases hx
  rw[ZW this];exact hle1 x ob hx
 generalize h1.set b o=h2 at *;have hrow:=hob2.row;have hK2:=hK h2 hle2;clear hK;refine Ae ?_;refine Ad (λc=>?_) (λc=>?_)
 ·have hn:=Em.2 (show p<0\/6<=p by omega);unfold Oc at hK2;rw[hn]at hK2;refine Ae ?_;exact hK2
 ·have hp:p=0\/p=1\/p=2\/p=3\/p=4\/p=5:=oM;have r0:=hrow.row (i:=0) (n:=4) (by simp);have r1:=hrow.row (i:=4) (n:=4) (by simp);have r2:=hrow.row (i:=8) (n:=4) (by simp);have r3:=hrow.row (i:=12) (n:=4) (by simp);have r4:=hrow.row (i:=16) (n:=4) (by simp);have r5:=hrow.row (i:=20) (n:=4) (by simp);have haa:∀ (k:IntKind) (n:Nat),n<6->A8 h2 (.aadr 6 4) (.v (.pointer (U ⟨b,0,O⟩))) (.v (.int k (n:Int)))=U (.v (.pointer (U ((⟨b,0,O⟩:Addr).add (n*4))))):=by
   intro k n hn;have hb:BA (n:Int) 6=true:=by simp[BA];omega
   simp only[A8,hb,if_true,Aaa]
  rcases hp with rfl|rfl|rfl|rfl|rfl|rfl
  ·have:=haa .i64 0 oM;refine AH @this @r0 ?_;exact hK2
  ·have:=haa .i64 1 oM;refine AH @this @r1 ?_;exact hK2
  ·have:=haa .i64 2 oM;refine AH @this @r2 ?_;exact hK2
  ·have:=haa .i64 3 oM;refine AH @this @r3 ?_;exact hK2
  ·have:=haa .i64 4 oM;refine AH @this @r4 ?_;exact hK2
  ·have:=haa .i64 5 oM;refine AH @this @r5 ?_;exact hK2
def Gv (s:List UInt8):Prop:=s≠[]/\s.length<=8/\Fx s
instance (s:List UInt8):Decidable (Gv s):=by unfold Gv;infer_instance
def CJ (s:List UInt8):Prop:=s.length<=9/\Fx s
instance (s:List UInt8):Decidable (CJ s):=by unfold CJ;infer_instance
theorem Sy {b:UInt8} (h1:48<=b.toNat):IntKind.u8.wrap ((b.toNat:Int)-48)=((b.toNat-48:Nat):Int):=by
 have:=b.toNat_lt;rw[Uh];omega
theorem IP {s:List UInt8} {i:Nat} (hi:i<s.length):Az (s.take (i+1))=10*Az (s.take i)+((s.getD i 0).toNat-48):=by
 rw[Ai 0 hi,G7]
theorem I5 {s:List UInt8} {i:Nat} (h:Fx (s.take i)) (hi:i<s.length) (h1:48<=(s.getD i 0).toNat) (h2:(s.getD i 0).toNat<=57):Fx (s.take (i+1)):=by
 intro b hb;rw[Ai 0 hi,Yd,YA]at hb;rcases hb with hb|rfl
 ·exact h b hb
 ·exact⟨h1,h2⟩
theorem Mr {s:List UInt8} (h:Fx s) {i:Nat} (hi:i<s.length):48<=(s.getD i 0).toNat/\(s.getD i 0).toNat<=57:=h _ (As 0 hi)
def S182:Spec:=λargs h K=>∃ s,args=[.string (str s)]/\s.length<=10000000/\K (.tuple #[.int .i64 ((if Gv s then Az s else 0:Nat):Int),.bool (decide (Gv s))]) h
theorem F182_ok {N:Num} {Γ:Ctx} [Ak Γ]:Sat S182 (SF N Γ F182):=by
 rintro _ h K ⟨s,rfl,hsl,hK⟩;refine An rfl ?_;simp only[F182,Ze,Nat.reduceSub,Nat.reduceAdd];have hno:¬ Gv s->K (.tuple #[.int .i64 0,.bool false]) h:=λhn=>by
  have:=hK;rw[if_neg hn,decide_eq_false hn]at this;exact this
 refine Ae ?_;refine Ad (λc=>?_) (λc=>?_)
 ·refine Ae ?_;refine hno λhn=>?_;obtain⟨h1,h2,h3⟩:=hn;rcases c with c|c
  ·exact h1 c
  ·omega
 have hs1:s≠[]:=λe=>c (.inl e);have hs2:s.length<=8:=oM;refine Ae ?_;refine Aj (λi:Nat=>[U (.string (str s)),O,O,U (.int .i64 (Az (s.take i):Nat)),O,O,U (.int .i64 (s.length:Nat)),U (.int .i64 (i:Nat)),O,O]) (λi H=>H=h/\i<=s.length/\Fx (s.take i)) (λi=>s.length-i) 0 (by try simp only[Pf];exact⟨rfl,rfl⟩) ⟨rfl,oM,by intro b hb;simp at hb⟩ ?_;rintro i H ⟨rfl,hi,hd⟩;have hwi:=wS i;refine Ae ?_;refine Ad (λc2=>?_) (λc2=>?_);rotate_left
 ·have:i=s.length:=oM;subst this;rw[Z5]at hd ⊢;have hok:Gv s:=⟨hs1,hs2,hd⟩
  rw[if_pos hok,decide_eq_true hok]at hK;refine Ae ?_;exact hK
 have A5:i<s.length:=oM;have hlt:=G8 hd;have hpw:10^(s.take i).length<=10^8:=ZZ oM (by rw[Zn];omega);have hb:=(s.getD i 0).toNat_lt;refine Ae ?_;refine Ad (λc3=>?_) (λc3=>?_)
 ·refine Ae ?_;refine hno λhn=>?_;have:=Mr hn.2.2 A5;omega
 have hb1:48<=(s.getD i 0).toNat:=oM;have hb2:(s.getD i 0).toNat<=57:=oM;have hws:=Sy hb1;have hwc:IntKind.i64.wrap (((s.getD i 0).toNat-48:Nat):Int)=(((s.getD i 0).toNat-48:Nat):Int):=BC oM oM;have hwm:IntKind.i64.wrap (10*((Az (s.take i):Nat):Int))=((10*Az (s.take i):Nat):Int):=wN;have hwa:IntKind.i64.wrap (((10*Az (s.take i):Nat):Int)+(((s.getD i 0).toNat-48:Nat):Int))=((Az (s.take (i+1)):Nat):Int):=by rw[IP A5,BC oM oM];omega
 refine Le @hws @hwc @hwm @hwa @hwi ?_;exact Ag (i+1) oM sE ⟨rfl,oM,I5 hd A5 hb1 hb2⟩
def S184:Spec:=λargs h K=>∃ s,args=[.string (str s)]/\s.length<=10000000/\K (.tuple #[.int .i64 ((if CJ s then Az s else 0:Nat):Int),.bool (decide (CJ s/\s≠[]))]) h
theorem F184_ok {N:Num} {Γ:Ctx} [Ak Γ]:Sat S184 (SF N Γ F184):=by
 rintro _ h K ⟨s,rfl,hsl,hK⟩;refine An rfl ?_;simp only[F184,Ze,Nat.reduceSub,Nat.reduceAdd];have hno:¬ CJ s->K (.tuple #[.int .i64 0,.bool false]) h:=λhn=>by
  have:=hK;rw[if_neg hn,decide_eq_false (λh=>hn h.1)]at this;exact this
 refine Ae ?_;refine Aj (λi:Nat=>[U (.string (str s)),O,O,U (.int .i64 (Az (s.take i):Nat)),U (.int .i64 (i:Nat)),O,O]) (λi H=>H=h/\i<=s.length/\i<=9/\Fx (s.take i)) (λi=>s.length-i) 0 (by try simp only[Pf];exact⟨rfl,rfl⟩) ⟨rfl,oM,oM,by intro b hb;simp at hb⟩ ?_;rintro i H ⟨rfl,hi,hi9,hd⟩;have hwi:=wS i;refine Ae ?_;refine Ad (λc2=>?_) (λc2=>?_);rotate_left
 ·have:i=s.length:=oM;subst this;rw[Z5]at hd ⊢;have hok:CJ s:=⟨hi9,hd⟩
  rw[if_pos hok]at hK;have e:decide (CJ s/\s≠[])=decide (s≠[]):=by simp[hok]
  rw[e]at hK;refine Ae ?_;exact hK
 have A5:i<s.length:=oM;have hlt:=G8 hd;have hpw:10^(s.take i).length<=10^9:=ZZ oM (by rw[Zn];omega);have hb:=(s.getD i 0).toNat_lt;refine Ae ?_;refine Ad (λc3=>?_) (λc3=>?_)
 ·refine Ae ?_;refine hno λhn=>?_;have:=Mr hn.2 A5;have:=hn.1;omega
 have hb1:48<=(s.getD i 0).toNat:=oM;have hb2:(s.getD i 0).toNat<=57:=oM;have hws:=Sy hb1;have hwc:IntKind.i64.wrap (((s.getD i 0).toNat-48:Nat):Int)=(((s.getD i 0).toNat-48:Nat):Int):=BC oM oM;have hwm:IntKind.i64.wrap (10*((Az (s.take i):Nat):Int))=((10*Az (s.take i):Nat):Int):=wN;have hwa:IntKind.i64.wrap (((10*Az (s.take i):Nat):Int)+(((s.getD i 0).toNat-48:Nat):Int))=((Az (s.take (i+1)):Nat):Int):=by rw[IP A5,BC oM oM];omega
 refine Le @hws @hwc @hwm @hwa @hwi ?_;exact Ag (i+1) oM sE ⟨rfl,oM,oM,I5 hd A5 hb1 hb2⟩
def S177:Spec:=λargs h K=>∃ k:Int,args=[.int .i64 k]/\1<=k/\k<=3/\K (.string (str (Dh k))) h
theorem F177_ok {N:Num} {Γ:Ctx} [Ak Γ]:Sat S177 (SF N Γ F177):=by
 rintro _ h K ⟨k,rfl,h1,h2,hK⟩;refine An rfl ?_;simp only[F177,Ze,Nat.reduceSub,Nat.reduceAdd];have hk:k=1\/k=2\/k=3:=oM;rcases hk with rfl|rfl|rfl
 ·refine Ap (show IntKind.i64.wrap 0=0 from rfl) ?_;exact hK
 ·refine Ap (show IntKind.i64.wrap 1=1 from rfl) ?_;exact hK
 ·refine Ap (show IntKind.i64.wrap 2=2 from rfl) ?_;exact hK
theorem S1 {c:UInt8} {s:List UInt8} {f i:Nat} (hi:i<s.length) (hf:f<=i) (hc:s.getD i 0=c) (hn:c∉(s.take i).drop f):CI c (s.drop f)=(s.take i).drop f::CI c (s.drop (i+1)):=by
 have e:s.drop f=(s.take i).drop f++c::s.drop (i+1):=by
  have e1:s=s.take i++c::s.drop (i+1):=by
   conv=>lhs;rw[<-ZD i s,Aaj hi]
   rw[<-hc,Zp,Zj hi];rfl
  conv=>lhs;rw[e1]
  rw[Aai (by rw[Zn];omega)]
 rw[e,FJ hn]
def XP (s:List UInt8) (c:UInt8) (h:Heap) (i f:Nat) (v:Value) (H:Heap):Prop:=∃ L,AQ AB 1 h H v L/\L.length<=i/\(i<=s.length->f<=i/\CI c s=L++CI c (s.drop f)/\c∉(s.take i).drop f)/\(i=s.length+1->L=CI c s)
def S183:Spec:=λargs h K=>∃ s,∃c:UInt8,args=[.string (str s),.int .u8 (c.toNat:Nat)]/\s.length<=1000000/\∀ v h',AQ AB 1 h h' v (CI c s)->K v h'
theorem F183_ok {N:Num} {Γ:Ctx} [Ak Γ]:Sat S183 (SF N Γ F183):=by
 rintro _ h K ⟨s,c,rfl,hsl,hK⟩;refine An rfl ?_;simp only[F183,Ze,Nat.reduceSub,Nat.reduceAdd];refine Ae ?_;refine Aj (λx:Nat×Nat×Value=>[U (.string (str s)),U (.int .u8 (c.toNat:Nat)),O,U x.2.2,U (.int .i64 (x.2.1:Nat)),U (.int .i64 (x.1:Nat)),O,O,O,O,O])
  (λx H=>x.1<=s.length+1/\XP s c h x.1 x.2.1 x.2.2 H) (λx=>s.length+1-x.1) (0,0,.slice O 0 0) (by dsimp only;try simp only[Pf];simp) ⟨dM,[],AQ.nil (ZX h),by simp,λ_=>⟨Yq _,by simp,by simp⟩,λh=>by dsimp only at h;omega⟩ ?_
 rintro⟨i,f,v⟩ H ⟨hi,L,hO,hL,h1,h2⟩;dsimp only at hi hO hL h1 h2 ⊢;have hwi:=wS i;refine Ae ?_;refine Ad (λc2=>?_) (λc2=>?_);rotate_left
 ·have e:=h2 oM;rw[e]at hO;refine Ae ?_;exact hK v H hO
 have A5:i<=s.length:=oM;obtain⟨hf,hp,hnc⟩:=h1 A5;have O1:=hO.slb.1.one;by_cases hci:i<s.length/\s.getD i 0≠c
 ·obtain⟨hi3,hcn⟩:=hci;have q1:((i:Int)=(s.length:Nat))=False:=by rw[eq_iff_iff];simp;omega
  have q2:(((s.getD i 0).toNat:Int)=(c.toNat:Nat))=False:=by
   rw[eq_iff_iff,iff_false];intro e;exact hcn (UInt8.toNat_inj.1 oM)
  refine CS @q1 @q2 @hwi ?_;refine Ag (i+1,f,v) dM (by dsimp only;try simp only[Pf]) ⟨dM,L,hO,dM,λ_=>⟨dM,hp,?_⟩,λh=>by dsimp only at h;omega⟩;dsimp only;rw[Ai 0 hi3,Aai (by rw[Zn];omega),Yd,YA,not_or];exact⟨hnc,Ne.symm hcn⟩
 have hpp:CI c (s.drop f)=(s.take i).drop f::(if i=s.length then[]else CI c (s.drop (i+1))):=by
  by_cases he:i=s.length
  ·rw[if_pos he];subst he;rw[Z5]at hnc ⊢;rw[IM hnc]
  ·rw[if_neg he];refine S1 oM hf ?_ hnc;exact Decidable.byContradiction λhc=>hci ⟨oM,hc⟩
 by_cases he:i=s.length
 ·have q1:((i:Int)=(s.length:Nat))=True:=by rw[eq_iff_iff];simp;omega
  refine CS @q1 O1.1 O1.2 ?_;refine BQ AB 1 (λ_=>rfl) [(s.take i).drop f] (by simp[AB]) rfl (by simp[maxLen]) λx1 H2 hle2 ho2=>?_;have O2:=ho2.slb.1.one;refine AH O2.1 O2.2 ?_;refine FO (enc:=AB) (sz:=1) (l:=L) (l':=[(s.take i).drop f]) (λ_=>rfl) (λ_=>rfl) (AQ.base (hO.grow hle2) (Db _ _)) (ho2.sl (λ_=>rfl)) (by simp;omega) λv' H3 hO3=>?_;refine Ap @hwi ?_;refine Ag (i+1,i+1,v') dM (by dsimp only;try simp only[Pf]) ⟨dM,_,hO3,by dsimp only;simp;omega,λh=>by dsimp only at h;omega,λ_=>?_⟩;rw[hp,hpp,if_pos he]
 ·have q1:((i:Int)=(s.length:Nat))=False:=by rw[eq_iff_iff];simp;omega
  have hc:s.getD i 0=c:=Decidable.byContradiction λhc=>hci ⟨oM,hc⟩;have q2:(((s.getD i 0).toNat:Int)=(c.toNat:Nat))=True:=by rw[hc];simp
  refine Ek @q1 @q2 O1.1 O1.2 ?_;refine BQ AB 1 (λ_=>rfl) [(s.take i).drop f] (by simp[AB]) rfl (by simp[maxLen]) λx1 H2 hle2 ho2=>?_;have O2:=ho2.slb.1.one;refine AH O2.1 O2.2 ?_;refine FO (enc:=AB) (sz:=1) (l:=L) (l':=[(s.take i).drop f]) (λ_=>rfl) (λ_=>rfl) (AQ.base (hO.grow hle2) (Db _ _)) (ho2.sl (λ_=>rfl)) (by simp;omega) λv' H3 hO3=>?_;refine Ap @hwi ?_;refine Ag (i+1,i+1,v') dM (by dsimp only;try simp only[Pf]) ⟨dM,_,hO3,by dsimp only;simp;omega,λ_=>⟨Yq _,?_,?_⟩,λh=>by dsimp only at h;omega⟩
  ·dsimp only;rw[hp,hpp,if_neg he,Zy];rfl
  ·dsimp only;simp
def S179:Spec:=λargs h K=>∃ n w:Nat,args=[.int .i64 n,.int .i64 w]/\n<=9223372036854775807/\w<=100/\∀ h',Heap.le h h'->K (.string (str (D0 n w))) h'
theorem F179_ok {N:Num} {Γ:Ctx} [Ak Γ] (H85:Sat S85 (Γ 85)):Sat S179 (SF N Γ F179):=by
 rintro _ h K ⟨n,w,rfl,hn,hw,hK⟩;refine An rfl ?_;simp only[F179,Ze,Nat.reduceSub,Nat.reduceAdd];have hdl:=AG 19 (n:=n) oM oM;refine Ae ?_;refine Aa H85 ⟨n,rfl,hn,λh1 hle=>?_⟩;refine Ae ?_;refine Aj (λk:Nat=>[U (.int .i64 n),U (.int .i64 w),O,U (.string (str (Z7 k 48++Bo n))),O,O]) (λk H=>H=h1/\k<=w-(Bo n).length) (λk=>w-(Bo n).length-k) 0 (by try simp only[Pf];rfl) ⟨rfl,oM⟩ ?_;rintro k H ⟨rfl,hk⟩;have hl:(Z7 k (48:UInt8)).length=k:=by simp
 refine Ae ?_;refine Ad (λc=>?_) (λc=>?_)
 ·refine Ae ?_;simp only[Zk,Aag]at c;refine Ag (k+1) oM (by try simp only[Pf];rfl) ⟨rfl,oM⟩
 ·refine Ae ?_;simp only[Zk,Aag]at c;have e:k=w-(Bo n).length:=oM;subst e;exact hK _ hle
def Co (t:Tg):Value:=.agg #[.int .i64 t.kind,.int .i64 t.filter,.int .i64 t.part,.int .i64 t.company,.int .i64 t.ref,.int .i64 t.serial]
def Mm (t:Tg):Nat:=if t.bad then 1 else 0
theorem Tg.bad_none {t:Tg} (h:A4 t.part=O):t.bad:=by unfold Tg.bad;rw[h];trivial
theorem Tg.bad_some {t:Tg} {a:Pa} (h:A4 t.part=U a):t.bad↔(t.kind<1\/3<t.kind\/t.filter<0\/7<t.filter\/t.serial<0\/16777215<t.serial\/t.company<0\/(10^a.cd:Nat)<=t.company\/t.ref<0\/(10^a.rd:Nat)<=t.ref):=by unfold Tg.bad;rw[h]
theorem BY {t:Tg} (h:t.bad):Mm t=1:=if_pos h
theorem E0 {t:Tg} (h:¬ t.bad):Mm t=0:=if_neg h
def S128:Spec:=λargs h K=>∃ t:Tg,args=[Co t]/\t.company<=9223372036854775807/\t.ref<=9223372036854775807/\∀ h',Heap.le h h'->K (.int .i64 (Mm t:Nat)) h'
theorem F128_ok {N:Num} {Γ:Ctx} [Ak Γ] (H79:Sat S79 (Γ 79)) (H85:Sat S85 (Γ 85)):Sat S128 (SF N Γ F128):=by
 rintro _ h K ⟨t,rfl,hc,hr,hK⟩;refine An rfl ?_;simp only[F128,Ze,Nat.reduceSub,Nat.reduceAdd,Co];refine Ae ?_;refine Aa H79 ⟨t.part,rfl,?_⟩;cases hp:A4 t.part with
 |none=>
  rw[BY (Tg.bad_none hp)]at hK;simp only[Oc,hp,Option.elim];refine Ae ?_;refine AO λb h1 hle1 hb ho=>?_;refine Ae ?_;refine Br (ho.le (Au h h1)) 0 4 rfl rfl oM (Yq 4) λo hob _=>?_;have hle2:Heap.le h (h1.set b o):=by
   intro x ob hx;have:x≠b:=by intro e;subst e;rw[hb]at hx;cases hx
   rw[ZW this];exact hle1 x ob hx
  refine Ae ?_;exact hK _ hle2
 |some a=>
  have hbad:=Tg.bad_some hp;simp only[Oc,hp,Option.elim,Pa.enc];refine Ae ?_;refine AO λb h1 hle1 hb ho=>?_;refine Ae ?_;refine Br (ho.le (Au h h1)) 0 4 rfl rfl oM (Yq 4) λo hob _=>?_;have hob2:Ah (h1.set b o) ⟨b,0,O⟩ [.int .i64 a.cb,.int .i64 a.cd,.int .i64 a.rb,.int .i64 a.rd]:=hob h1 rfl;have hle2:Heap.le h (h1.set b o):=by
   intro x ob hx;have:x≠b:=by intro e;subst e;rw[hb]at hx;cases hx
   rw[ZW this];exact hle1 x ob hx
  generalize h1.set b o=h2 at *;have B1:h2.cell ((⟨b,0,O⟩:Addr).add 1)=U (.int .i64 a.cd):=hob2.rules.1 1 (by simp);have B3:=λh3 (hl:Heap.le h2 h3)=>((hob2.le hl).rules.1 3 (by simp):h3.cell ((⟨b,0,O⟩:Addr).add 3)=U (.int .i64 a.rd))
  have hpa:=AW hp;refine Ae ?_;refine Ad (λc1=>?_) (λc1=>?_)
  ·have:=hK h2 hle2;rw[BY (hbad.2 oM)]at this;refine Ae ?_;exact this
  have hbad2:t.bad↔(t.company<0\/(10^a.cd:Nat)<=t.company\/t.ref<0\/(10^a.rd:Nat)<=t.ref):=by rw[hbad];omega
  clear hbad;refine Ap @B1 ?_;by_cases hc0:t.company<0
  ·have hc1:(t.company<0)=True:=by simpa using hc0
   refine Ap @hc1 ?_;refine Cb (AE (ZX _)) ?_;refine Ae ?_;refine Cb (GM (ZX _) (ZX _)) ?_;have:=hK h2 hle2;rw[BY (hbad2.2 oM)]at this;refine Ae ?_;exact this
  ·have hc1:(t.company<0)=False:=by simpa using hc0
   obtain⟨nc,hnc⟩:∃ n:Nat,t.company=n:=⟨t.company.toNat,oM⟩
   rw[hnc]at hc hc1 hbad2 ⊢;have hdc:=KC (n:=nc) (show 0<a.cd by omega);have haa:∀ h (k:IntKind),A8 h (.aadr 4 1) (.v (.pointer (U ⟨b,0,O⟩))) (.v (.int k 1))=U (.v (.pointer (U ((⟨b,0,O⟩:Addr).add 1)))):=λh k=>rfl;have haa3:∀ h (k:IntKind),A8 h (.aadr 4 1) (.v (.pointer (U ⟨b,0,O⟩))) (.v (.int k 3))=U (.v (.pointer (U ((⟨b,0,O⟩:Addr).add 3)))):=λh k=>rfl;refine CS @hc1 @haa @B1 ?_;refine Aa H85 ⟨nc,rfl,oM,λh3 hle3=>?_⟩;have B3':=B3 h3 hle3;refine Cb (AE hle3) ?_;by_cases hbad3:10^a.cd<=nc\/t.ref<0
   ·have hcond:(((a.cd:Int)<((Bo nc).length:Int))\/t.ref<0)=True:=by
     rw[eq_iff_iff];simp only[iff_true];rcases hbad3 with h|h
     ·exact .inl (by have:=mt hdc.1 oM;omega)
     ·exact .inr h
    refine Ap @hcond ?_;refine Cb (GM (ZX _) hle3) ?_;have:=hK h3 (hle2.trans hle3);rw[BY (hbad2.2 oM)]at this;refine Ae ?_;exact this
   ·have hcond:(((a.cd:Int)<((Bo nc).length:Int))\/t.ref<0)=False:=by
     rw[eq_iff_iff];simp only[iff_false];rintro(h|h)
     ·exact absurd (hdc.2 oM) oM
     ·omega
    obtain⟨nr,hnr⟩:∃ n:Nat,t.ref=n:=⟨t.ref.toNat,oM⟩
    rw[hnr]at hr hcond hbad2 ⊢;have hdr:=KC (n:=nr) (show 0<a.rd by omega);refine CS @hcond @haa3 @B3' ?_;refine Aa H85 ⟨nr,rfl,oM,λh4 hle4=>?_⟩;refine Cb (GM hle4 (hle3.trans hle4)) ?_;refine Ae ?_;refine Ad (λc2=>?_) (λc2=>?_)
    ·have:=hK h4 (hle2.trans (hle3.trans hle4));rw[BY (hbad2.2 (by have:=mt hdr.2 oM;omega))]at this;refine Ae ?_;exact this
    ·have:=hK h4 (hle2.trans (hle3.trans hle4));rw[E0 (λh=>by have:=hbad2.1 h;have:=hdr.1 oM;omega)]at this;refine Ae ?_;exact this
def S108 (N:Num):Spec:=λargs h K=>∃ t:Tg,args=[Co t]/\∀ h',Heap.le h h'->K (Cm N (Mm t)) h'
theorem F108_ok {N:Num} {Γ:Ctx} [Ak Γ] (H107:Sat S107 (Γ 107)) (H117:Sat S117 (Γ 117)):Sat (S108 N) (SF N Γ F108):=by
 rintro _ h K ⟨t,rfl,hK⟩;have hK1:t.bad->∀ h',Heap.le h h'->K (.iface (N.tid 111) (.int .i64 1)) h':=λhb h' hl=>by have:=hK h' hl;rw[BY hb,Aq]at this;exact this
 have hK0:¬ t.bad->∀ h',Heap.le h h'->K .nilIface h':=λhb h' hl=>by have:=hK h' hl;rw[E0 hb]at this;exact this
 clear hK;refine An rfl ?_;simp only[F108,Ze,Nat.reduceSub,Nat.reduceAdd,Co];have hsome:=λa=>Tg.bad_some (t:=t) (a:=a);refine Ae ?_;refine Ad (λc1=>?_) (λc1=>?_)
 ·refine Ae ?_;refine hK1 ?_ h (ZX h);cases hp:A4 t.part with
  |none=>exact Tg.bad_none hp
  |some a=>exact(hsome a hp).2 oM
 refine Ae ?_;refine Aa H107 ⟨t.part,rfl,λh1 hle1=>?_⟩;cases hp:A4 t.part with
 |none=>
  simp only[Oc,hp,Option.elim];refine Ae ?_;refine Cb (AE (ZX _)) ?_;refine Ae ?_;refine Cb (GM (ZX _) (ZX _)) ?_;refine Ae ?_;exact hK1 (Tg.bad_none hp) h1 hle1
 |some a=>
  have hbad:=hsome a hp;have hpa:=AW hp;have hp18:a.cd<=18/\a.rd<=18:=oM;simp only[Oc,hp,Option.elim,Pa.enc];by_cases hc0:t.company<0
  ·have hc1:(t.company<0)=True:=by simpa using hc0
   refine Ap @hc1 ?_;refine Cb (AE (ZX _)) ?_;refine Ae ?_;refine Cb (GM (ZX _) (ZX _)) ?_;refine Ae ?_;exact hK1 (hbad.2 oM) h1 hle1
  ·have hc1:(t.company<0)=False:=by simpa using hc0
   refine Ap @hc1 ?_;refine Aa H117 ⟨a.cd,rfl,hp18.1,?_⟩;refine Cb (AE (ZX _)) ?_;by_cases hb3:((10^a.cd:Nat):Int)<=t.company\/t.ref<0
   ·have hcond:(((10^a.cd:Nat):Int)<=t.company\/t.ref<0)=True:=by simpa using hb3
    refine Ap @hcond ?_;refine Cb (GM (ZX _) (ZX _)) ?_;refine Ae ?_;exact hK1 (hbad.2 oM) h1 hle1
   ·have hcond:(((10^a.cd:Nat):Int)<=t.company\/t.ref<0)=False:=by simpa using hb3
    refine Ap @hcond ?_;refine Aa H117 ⟨a.rd,rfl,hp18.2,?_⟩;refine Cb (GM (ZX _) (ZX _)) ?_;refine Ae ?_;refine Ad (λc2=>?_) (λc2=>?_)
    ·refine Ae ?_;exact hK1 (hbad.2 oM) h1 hle1
    ·refine Ae ?_;exact hK0 (λh=>by have:=hbad.1 h;omega) h1 hle1
theorem G0 (k k':IntKind) (x s:Nat) (hs:s<=k.bits):Bj .shr (.int k (x:Int)) (.int k' (s:Int))=U (.int k ((x/2^s:Nat):Int)):=by
 simp only[Bj,HA];rw[if_neg oM,Aaa,show Nat.min s k.bits=s from AaQ hs];have h1:(x:Int).fdiv (2^s)=((x/2^s:Nat):Int):=by
  rw[Int.fdiv_eq_ediv_of_nonneg _ (Int.le_of_lt (Int.pow_pos oM))];simp
 rw[h1]
theorem Cg (n:Nat) (h:n<2^64):IntKind.u64.wrap (n:Int)=(n:Int):=by
 simp only[IntKind.wrap,IntKind.bits,IntKind.signed];simp;omega
theorem JB (k':IntKind) (x s:Nat) (hs:s<=64) (hx:x*2^s<2^64):Bj .shl (.int .u64 (x:Int)) (.int k' (s:Int))=U (.int .u64 ((x*2^s:Nat):Int)):=by
 simp only[Bj,HA];rw[if_neg oM,Aaa,show Nat.min s IntKind.u64.bits=s from AaQ hs];have h1:(x:Int)*2^s=((x*2^s:Nat):Int):=by simp
 rw[h1,Cg _ hx]
theorem Ci (n x:Nat) (h:x<2^n):(BitVec.ofInt n (x:Int)).toNat=x:=by
 simp[ZQ h]
theorem My (x y:Nat) (hx:x<2^64) (hy:y<2^64):Bj .and (.int .u64 (x:Int)) (.int .u64 (y:Int))=U (.int .u64 ((x &&& y:Nat):Int)):=by
 have hb:(BitVec.ofInt IntKind.u64.bits (x:Int) &&& BitVec.ofInt IntKind.u64.bits (y:Int)).toNat=x &&& y:=by rw[Aau,Ci IntKind.u64.bits x hx,Ci IntKind.u64.bits y hy]
 simp only[Bj,Gt,if_true];rw[hb,Cg _ (Aad AaR hx)]
theorem Ta (x y:Nat) (hx:x<2^64) (hy:y<2^64):Bj .or (.int .u64 (x:Int)) (.int .u64 (y:Int))=U (.int .u64 ((x|||y:Nat):Int)):=by
 have hb:(BitVec.ofInt IntKind.u64.bits (x:Int)|||BitVec.ofInt IntKind.u64.bits (y:Int)).toNat=x|||y:=by rw[BitVec.toNat_or,Ci IntKind.u64.bits x hx,Ci IntKind.u64.bits y hy]
 simp only[Bj,Gt,if_true];rw[hb,Cg _ (Nat.or_lt_two_pow hx hy)]
theorem Wr (x y:Nat) (hx:x<2^8) (hy:y<2^8):Bj .and (.int .u8 (x:Int)) (.int .u8 (y:Int))=U (.int .u8 ((x &&& y:Nat):Int)):=by
 have hb:(BitVec.ofInt IntKind.u8.bits (x:Int) &&& BitVec.ofInt IntKind.u8.bits (y:Int)).toNat=x &&& y:=by rw[Aau,Ci IntKind.u8.bits x hx,Ci IntKind.u8.bits y hy]
 simp only[Bj,Gt,if_true];have:x &&& y<2^8:=Aad AaR hx;rw[hb,Uh,show((x &&& y:Nat):Int)%256=((x &&& y:Nat):Int)from by omega]
def IF (b:Nat) (h h':Heap):Prop:=∀ x,x≠b->h' x=h x
theorem IF.le {b:Nat} {h0 h h':Heap} (hl:Heap.le h0 h) (hn:h0 b=O) (hb:IF b h h'):Heap.le h0 h':=by
 intro x o hx;have:x≠b:=by intro e;subst e;rw[hn]at hx;cases hx
 rw[hb x this];exact hl x o hx
theorem IF.cell {b:Nat} {h h':Heap} (hb:IF b h h') {a:Addr} (ha:a.block≠b):h'.cell a=h.cell a:=by
 simp only[Heap.cell,Heap.cells,hb _ ha]
def S127:Spec:=λargs h K=>∃ bb ba b,∃at_ many:Nat,args=[.int .i64 many,.pointer (U ⟨bb,0,O⟩),.pointer (U ⟨ba,0,O⟩)]/\h.cell ⟨bb,0,O⟩=U (.string (str b))/\Ah h ⟨ba,0,O⟩ [.int .i64 at_]/\bb≠ba/\b.length=8/\at_+many<=64/\many<=30 /\
 ∀ h',IF ba h h'->Ah h' ⟨ba,0,O⟩ [.int .i64 (at_+many:Nat)]->K (.int .i64 (Cx b at_ many:Nat)) h'
theorem QP (b:List UInt8) (at_:Nat):∀ k,Cx b at_ k<2^k:=by
 intro k;induction k with
 |zero=>simp[Cx]
 |succ k ih=>rw[Cx,ZE];have:LL b (at_+k)<2:=Zi _ oM;omega
theorem F127_ok {N:Num} {Γ:Ctx} [Ak Γ]:Sat S127 (SF N Γ F127):=by
 rintro _ h K ⟨bb,ba,b,at_,many,rfl,hb,hat,hne,hlen,hm,hm30,hK⟩;refine An rfl ?_;simp only[F127,Ze,Nat.reduceSub,Nat.reduceAdd];refine Ae ?_;refine Aj (λi:Nat=>[U (.int .i64 many),U (.pointer (U ⟨bb,0,O⟩)),U (.pointer (U ⟨ba,0,O⟩)),U (.int .i64 0),U (.int .i64 (Cx b at_ i:Nat)),U (.int .i64 i),O])
  (λi h1=>i<=many/\IF ba h h1/\Ah h1 ⟨ba,0,O⟩ [.int .i64 (at_+i:Nat)]) (λi=>many-i) 0 (by try simp only[Pf];exact⟨rfl,rfl⟩) ⟨oM,λ_ _=>rfl,hat⟩ ?_
 rintro i h1 ⟨hi,hbut,ho⟩;have hb1:h1.cell ⟨bb,0,O⟩=U (.string (str b)):=(hbut.cell hne).trans hb;have ha1:h1.cell ⟨ba,0,O⟩=U (.int .i64 (at_+i:Nat)):=ho.rules.2.1 (by simp);refine Ae ?_;refine Ad (λc1=>?_) (λc1=>?_);rotate_left
 ·have:i=many:=oM;subst this;refine Ae ?_;exact hK h1 hbut ho
 have hq:IntKind.i64.wrap (((at_+i:Nat):Int).tdiv 8)=(((at_+i)/8:Nat):Int):=by
  rw[show((at_+i:Nat):Int).tdiv 8=(((at_+i)/8:Nat):Int)from by rw[Int.tdiv_eq_ediv_of_nonneg oM];omega,BC oM oM]
 have hr:IntKind.i64.wrap (((at_+i:Nat):Int).tmod 8)=(((at_+i)%8:Nat):Int):=by
  rw[show((at_+i:Nat):Int).tmod 8=(((at_+i)%8:Nat):Int)from by rw[Aaz oM];omega,BC oM oM]
 have hr':((at_+i:Nat):Int).tmod 8=(((at_+i)%8:Nat):Int):=by rw[Aaz oM];omega
 have hw7:IntKind.i64.wrap (7-(((at_+i)%8:Nat):Int))=((7-(at_+i)%8:Nat):Int):=wN;have hbyte:=(b.getD ((at_+i)/8) 0).toNat_lt;have hsh:=G0 .u8 .i64 (b.getD ((at_+i)/8) 0).toNat (7-(at_+i)%8) (by simp[IntKind.bits];omega);have hdl:(b.getD ((at_+i)/8) 0).toNat/2^(7-(at_+i)%8)<256:=Aad (Aax _ _) oM;have han:=Wr ((b.getD ((at_+i)/8) 0).toNat/2^(7-(at_+i)%8)) 1 oM oM;rw[AaK]at han;have hand:Bj .and (.int .u8 (((b.getD ((at_+i)/8) 0).toNat/2^(7-(at_+i)%8):Nat):Int)) (.int .u8 1)=U (.int .u8 ((LL b (at_+i):Nat):Int)):=han;have hbl:LL b (at_+i)<2:=Zi _ oM;have hrl:Cx b at_ i<1073741824:=Z9 (QP b at_ i) (ZZ (n:=2) oM (show i<=30 by omega));refine Xs @hb1 @ha1 @hq @hr @hr' @hw7 @hsh @hand ?_;refine Br ho 0 1 rfl rfl oM (by simp) λo hob _=>?_;have hob2:Ah (h1.set ba o) ⟨ba,0,O⟩ [.int .i64 (at_+i+1:Nat)]:=hob h1 rfl;refine Ae ?_;refine Ag (i+1) oM (by try simp only[Pf];rfl) ⟨oM,λx hx=>?_,hob2⟩;rw[ZW hx];exact hbut x hx
def SD (b:List UInt8):Value:=Co ((BS b).getD Tg.zero)
def S110:Spec:=λargs h K=>∃ b,args=[.string (str b)]/\∀ h',Heap.le h h'->K (.tuple #[SD b,.bool (BS b).isSome]) h'
theorem IF.obj {b:Nat} {h h':Heap} (hb:IF b h h') {a:Addr} {cs:List Value} (ha:a.block≠b) (ho:Ah h a cs):Ah h' a cs:=by
 obtain⟨h1,c,t,h2,h3⟩:=ho;exact⟨h1,c,t,by rw[hb _ ha];exact h2,h3⟩
theorem Ah.nn {g:Heap} {a:Addr} {cs:List Value} (h:Ah g a cs):g a.block≠O:=by
 obtain⟨_,c,t,h1,_⟩:=h;rw[h1];simp
theorem F110_ok {N:Num} {Γ:Ctx} [Ak Γ] (H127:Sat S127 (Γ 127)) (H79:Sat S79 (Γ 79)) (H128:Sat S128 (Γ 128)):Sat S110 (SF N Γ F110):=by
 rintro _ h K ⟨b,rfl,hK⟩;refine An rfl ?_;simp only[F110,Ze,Nat.reduceSub,Nat.reduceAdd];refine Ae ?_;refine AO λb1 h1 hle1 hb1 ho1'=>?_;have ho1:Ah (fr h h1) ⟨b1,0,O⟩ [.string (str b)]:=ho1';have B1:h1.cell ⟨b1,0,O⟩=U (.string (str b)):=(ho1.le (Au _ _)).rules.2.1 (by simp);unfold SD BS at hK;refine Ap @B1 ?_;by_cases hlen:b.length=8;rotate_left
 ·have hl:((b.length:Int)≠8)=True:=by rw[eq_iff_iff];simp;omega
  rw[if_pos hlen]at hK;simp only[Option.getD,Option.isSome,Tg.zero,Co]at hK;refine Ap @hl ?_;exact hK h1 hle1
 have hl:((b.length:Int)≠8)=False:=by rw[eq_iff_iff];simp;omega
 rw[if_neg oM]at hK;refine Ap @hl ?_;refine AO λb4 h2 hle2 hb4 ho4=>?_;refine Ae ?_;refine Br (ho4.le (Au _ _)) 0 1 rfl rfl oM (Yq 1) λo hob _=>?_;have hob4:Ah (h2.set b4 o) ⟨b4,0,O⟩ [.int .i64 (0:Nat)]:=hob h2 rfl;have hne:b1≠b4:=by
  rintro rfl;exact Ah.nn ((ho1.le (Au h h1)).le (ZX h1)) hb4
 have hb4h:h b4=O:=AC hle1 b4 hb4;have hle3:Heap.le h (h2.set b4 o):=IF.le (b:=b4) (hle1.trans hle2) hb4h λx hx=>ZW hx;have hob1:Ah (h2.set b4 o) ⟨b1,0,O⟩ [.string (str b)]:=IF.obj (b:=b4) (λx hx=>ZW hx) hne ((ho1.le (Au _ _)).le hle2);generalize h2.set b4 o=h3 at *;have hnum:∀ at_ k,at_+k<=64->Cx b at_ k=FL b/2^(64-at_-k)%2^k:=λat_ k hk=>OI hlen at_ k hk;have hnlt:=OT b;rw[hlen]at hnlt;refine Ae ?_;refine Ea H127 ⟨b1,b4,b,0,8,rfl,hob1.rules.2.1 (by simp),hob4,hne,hlen,oM,oM,λh4 hbut4 hob4'=>?_⟩;have hle4:=hbut4.le hle3 hb4h;have hob1':=hbut4.obj hne hob1;have e1:Cx b 0 8=FL b/2^56:=by rw[hnum 0 8 oM];exact ZQ oM
 have hk47:IntKind.i64.wrap (((FL b/2^56:Nat):Int)-47)=((FL b/2^56:Nat):Int)-47:=by rw[BC oM oM]
 rw[e1];refine Ap @hk47 ?_;refine Ea H127 ⟨b1,b4,b,8,3,rfl,hob1'.rules.2.1 (by simp),hob4',hne,hlen,oM,oM,λh5 hbut5 hob5=>?_⟩;have hle5:=hbut5.le hle4 hb4h;have hob15:=hbut5.obj hne hob1';have e2:Cx b 8 3=FL b/2^53%8:=hnum 8 3 oM;rw[e2];refine Ae ?_;refine Ea H127 ⟨b1,b4,b,11,3,rfl,hob15.rules.2.1 (by simp),hob5,hne,hlen,oM,oM,λh6 hbut6 hob6=>?_⟩;have hle6:=hbut6.le hle5 hb4h;have hob16:=hbut6.obj hne hob15;have e3:Cx b 11 3=FL b/2^50%8:=hnum 11 3 oM;rw[e3];refine Ae ?_;refine Aa H79 ⟨_,rfl,?_⟩;cases hp:A4 ((FL b/2^50%8:Nat):Int)with
 |none=>
  rw[hp]at hK;simp only[Option.getD,Option.isSome,Tg.zero,Co]at hK;simp only[Oc,hp,Option.elim];refine Ae ?_;refine AO λb7 h7 hle7 hb7 ho7=>?_;refine Ae ?_;refine Br (ho7.le (Au _ _)) 0 4 rfl rfl oM (Yq 4) λo7 hob7 _=>?_;refine Ae ?_;exact hK _ (IF.le (b:=b7) (hle6.trans hle7) (AC hle6 b7 hb7) λx hx=>ZW hx)
 |some a=>
  rw[hp]at hK;have hpa:=AW hp;simp only[Oc,hp,Option.elim,Pa.enc];refine Ae ?_;refine AO λb7 h7 hle7 hb7 ho7=>?_;refine Ae ?_;refine Br (ho7.le (Au _ _)) 0 4 rfl rfl oM (Yq 4) λo7 hob7 _=>?_;have hob72:Ah (h7.set b7 o7) ⟨b7,0,O⟩ [.int .i64 a.cb,.int .i64 a.cd,.int .i64 a.rb,.int .i64 a.rd]:=hob7 h7 rfl;have hb7h:h b7=O:=AC hle6 b7 hb7;have hne17:b1≠b7:=by rintro rfl;exact Ah.nn hob16 hb7
  have hne47:b4≠b7:=by rintro rfl;exact Ah.nn hob6 hb7
  have hle8:Heap.le h (h7.set b7 o7):=IF.le (b:=b7) (hle6.trans hle7) hb7h λx hx=>ZW hx;have hob18:Ah (h7.set b7 o7) ⟨b1,0,O⟩ [.string (str b)]:=IF.obj (b:=b7) (λx hx=>ZW hx) hne17 (hob16.le hle7);have hob48:Ah (h7.set b7 o7) ⟨b4,0,O⟩ [.int .i64 (11+3:Nat)]:=IF.obj (b:=b7) (λx hx=>ZW hx) hne47 (hob6.le hle7);generalize h7.set b7 o7=h8 at *;have haa0:∀ h (k:IntKind),A8 h (.aadr 4 1) (.v (.pointer (U ⟨b7,0,O⟩))) (.v (.int k 0))=U (.v (.pointer (U ⟨b7,0,O⟩))):=λh k=>rfl;have haa2:∀ h (k:IntKind),A8 h (.aadr 4 1) (.v (.pointer (U ⟨b7,0,O⟩))) (.v (.int k 2))=U (.v (.pointer (U ((⟨b7,0,O⟩:Addr).add 2)))):=λh k=>rfl;have C0:h8.cell ⟨b7,0,O⟩=U (.int .i64 a.cb):=hob72.rules.2.1 (by simp);refine AH @haa0 @C0 ?_;refine Ea H127 ⟨b1,b4,b,14,a.cb,rfl,hob18.rules.2.1 (by simp),hob48,hne,hlen,oM,oM,λh9 hbut9 hob9=>?_⟩;have hle9:=hbut9.le hle8 hb4h;have hob19:=hbut9.obj hne hob18;have hob79:=hbut9.obj (a:=⟨b7,0,O⟩) (Ne.symm hne47) hob72;have C2:h9.cell ((⟨b7,0,O⟩:Addr).add 2)=U (.int .i64 a.rb):=hob79.rules.1 2 (by simp);have e4:Cx b 14 a.cb=FL b/2^(24+a.rb)%2^a.cb:=by rw[hnum 14 a.cb oM];congr 3;omega
  rw[e4];refine AH @haa2 @C2 ?_;refine Ea H127 ⟨b1,b4,b,14+a.cb,a.rb,rfl,hob19.rules.2.1 (by simp),hob9,hne,hlen,oM,oM,λh10 hbut10 hob10=>?_⟩;have hle10:=hbut10.le hle9 hb4h;have hob110:=hbut10.obj hne hob19;have e5:Cx b (14+a.cb) a.rb=FL b/2^24%2^a.rb:=by rw[hnum _ _ oM];congr 3;omega
  rw[e5];refine Ae ?_;refine Ea H127 ⟨b1,b4,b,14+a.cb+a.rb,24,rfl,hob110.rules.2.1 (by simp),hob10,hne,hlen,oM,oM,λh11 hbut11 hob11=>?_⟩;have hle11:=hbut11.le hle10 hb4h;have e6:Cx b (14+a.cb+a.rb) 24=FL b%2^24:=by rw[hnum _ _ oM];congr 1;rw[show 64-(14+a.cb+a.rb)-24=0 by omega];simp
  rw[e6];refine Ae ?_;have hcl:FL b/2^(24+a.rb)%2^a.cb<2^30:=Z9 (Zi _ (Aak oM)) (ZZ oM oM);have hrl:FL b/2^24%2^a.rb<2^30:=Z9 (Zi _ (Aak oM)) (ZZ oM oM);refine Aa H128 ⟨Hp (FL b) a,rfl,by simp only[Hp];omega,by simp only[Hp];omega,λh12 hle12=>?_⟩;dsimp only at hK;by_cases hbad:(Hp (FL b) a).bad
  ·rw[if_pos hbad]at hK;rw[BY hbad];simp only[Option.getD,Option.isSome,Tg.zero,Co]at hK;refine Ae ?_;exact hK h12 (hle11.trans hle12)
  ·rw[if_neg hbad]at hK;rw[E0 hbad];simp only[Option.getD,Option.isSome,Co,Hp]at hK;refine Ae ?_;exact hK h12 (hle11.trans hle12)
def S106:Spec:=λargs h K=>∃ bn,∃n k:Nat,args=[.int .i64 k,.pointer (U ⟨bn,0,O⟩)]/\Ah h ⟨bn,0,O⟩ [.int .u64 n]/\n<2^64/\k<=30/\∀ h',IF bn h h'->Ah h' ⟨bn,0,O⟩ [.int .u64 (n/2^k:Nat)]->K (.int .i64 (n%2^k:Nat)) h'
theorem F106_ok {N:Num} {Γ:Ctx} [Ak Γ]:Sat S106 (SF N Γ F106):=by
 rintro _ h K ⟨bn,n,k,rfl,ho,hn,hk,hK⟩;refine An rfl ?_;simp only[F106,Ze,Nat.reduceSub,Nat.reduceAdd];have hc:h.cell ⟨bn,0,O⟩=U (.int .u64 n):=ho.rules.2.1 (by simp);have h2k:2^k<=2^30:=ZZ oM hk;have h2p:0<2^k:=Aak oM;have hsl:Bj .shl (.int .u64 1) (.int .i64 (k:Int))=U (.int .u64 ((2^k:Nat):Int)):=by
  have:=JB .i64 1 k oM oM;rw[Nat.one_mul]at this;exact this
 have hsub:IntKind.u64.wrap (((2^k:Nat):Int)-1)=((2^k-1:Nat):Int):=by
  rw[show((2^k:Nat):Int)-1=((2^k-1:Nat):Int) by omega,Cg _ oM]
 have han:=My n (2^k-1) hn oM;rw[Aav]at han;have hml:n%2^k<2^30:=Z9 (Zi _ h2p) h2k;have hsr:=G0 .u64 .i64 n k (by simp[IntKind.bits];omega);refine Le @hc @hsl @hsub @han @hsr ?_;refine Br ho 0 1 rfl rfl oM (Yq 1) λo hob _=>?_;have hob2:Ah (h.set bn o) ⟨bn,0,O⟩ [.int .u64 (n/2^k:Nat)]:=hob h rfl;refine Ae ?_;exact hK _ (λx hx=>ZW hx) hob2
def S81 (N:Num):Spec:=λargs h K=>∃ b,args=[.string (str b)]/\∀ h',Heap.le h h'->K (.tuple #[SD b,Cm N (if(BS b).isSome then 0 else 3)]) h'
theorem Ti {b:List UInt8} {i:Nat} (hi:i<b.length):FL (b.take (i+1))=FL (b.take i)*256+(b.getD i 0).toNat:=by rw[Ai 0 hi,M8]
theorem F81_ok {N:Num} {Γ:Ctx} [Ak Γ] (H106:Sat S106 (Γ 106)) (H107:Sat S107 (Γ 107)) (H108:Sat (S108 N) (Γ 108)):Sat (S81 N) (SF N Γ F81):=by
 rintro _ h K ⟨b,rfl,hK⟩;refine An rfl ?_;simp only[F81,Ze,Nat.reduceSub,Nat.reduceAdd];unfold SD BS at hK;by_cases hlen:b.length=8;rotate_left
 ·have hl:((b.length:Int)≠8)=True:=by rw[eq_iff_iff];simp;omega
  rw[if_pos hlen]at hK;simp only[Option.getD,Option.isSome,Tg.zero,Co,Ym,if_false,Aq]at hK;refine Ap @hl ?_;exact hK h (ZX h)
 have hl:((b.length:Int)≠8)=False:=by rw[eq_iff_iff];simp;omega
 rw[if_neg oM]at hK;refine Ap @hl ?_;refine AO λb3 h1 hle1 hb3 ho3=>?_;refine Ae ?_;refine Br (ho3.le (Au _ _)) 0 1 rfl rfl oM (Yq 1) λo hob _=>?_;have hob3:Ah (h1.set b3 o) ⟨b3,0,O⟩ [.int .u64 (FL (b.take 0):Nat)]:=hob h1 rfl;have hle2:Heap.le h (h1.set b3 o):=IF.le (b:=b3) hle1 hb3 λx hx=>ZW hx;generalize h1.set b3 o=h2 at *;refine Ae ?_;refine AA (λenv H=>Heap.le h H/\Ah H ⟨b3,0,O⟩ [.int .u64 (FL b:Nat)]/\env=[U (.string (str b)),U (.agg #[.int .i64 0,.int .i64 0,.int .i64 0,.int .i64 0,.int .i64 0,.int .i64 0]),U .nilIface,U (.pointer (U ⟨b3,0,O⟩)),O,O,O,O,O,O,O,O,O,O,O,O,O,O,O,O,O,O,O,O,O,O,O,O,O,O,O,O,O,O,O]) ?_ ?_;rotate_left
 ·refine Aj (λi:Nat=>[U (.string (str b)),U (.agg #[.int .i64 0,.int .i64 0,.int .i64 0,.int .i64 0,.int .i64 0,.int .i64 0]),U .nilIface,U (.pointer (U ⟨b3,0,O⟩)),O,O,O,O,O,O,O,U (.int .i64 b.length),U (.int .i64 i),O,O,O,O,O,O,O,O,O,O,O,O,O,O,O,O,O,O,O,O,O,O])
   (λi H=>i<=8/\Heap.le h H/\Ah H ⟨b3,0,O⟩ [.int .u64 (FL (b.take i):Nat)]) (λi=>8-i) 0 (by try simp only[Pf];rfl) ⟨oM,hle2,hob3⟩ ?_
  rintro i H ⟨hi,hle,ho⟩;have hc:H.cell ⟨b3,0,O⟩=U (.int .u64 (FL (b.take i):Nat)):=ho.rules.2.1 (by simp);refine Ae ?_;refine Ad (λc1=>?_) (λc1=>?_);rotate_left
  ·have:i=b.length:=oM;subst this;rw[Z5]at ho;refine Ae ?_;exact Ar _ sE ⟨hle,ho,rfl⟩
  have A5:i<b.length:=oM;have hnl:=OT (b.take i);have hnl2:FL (b.take i)<256^7:=Z9 hnl (ZZ oM (by rw[Zn];omega));have hbyte:=(b.getD i 0).toNat_lt;have hsl:=JB .u64 (FL (b.take i)) 8 oM oM;have hcv:IntKind.u64.wrap (((b.getD i 0).toNat:Nat):Int)=(((b.getD i 0).toNat:Nat):Int):=Cg _ oM;have hor:=Ta (FL (b.take i)*2^8) (b.getD i 0).toNat oM oM;have hor2:FL (b.take i)*2^8|||(b.getD i 0).toNat=FL (b.take (i+1)):=by
   rw[Ti A5,Aao _ (2^8),<-Nat.two_pow_add_eq_or_of_lt oM]
  rw[hor2]at hor;have hsl':Bj .shl (.int .u64 (FL (b.take i):Nat)) (.int .u64 8)=U (.int .u64 ((FL (b.take i)*2^8:Nat):Int)):=hsl;refine Ek @hc @hsl' @hcv @hor ?_;refine Br ho 0 1 rfl rfl oM (Yq 1) λo2 hob' _=>?_;have hob4:Ah (H.set b3 o2) ⟨b3,0,O⟩ [.int .u64 (FL (b.take (i+1)):Nat)]:=hob' H rfl;refine Ae ?_;exact Ag (i+1) oM sE ⟨oM,IF.le (b:=b3) hle hb3 λx hx=>ZW hx,hob4⟩
 rintro env H ⟨hle,ho,rfl⟩;have hnlt:=OT b;rw[hlen]at hnlt;generalize FL b=n at *;refine Ae ?_;refine AO λb6 h3 hle3 hb6 ho6=>?_;have hne:b3≠b6:=by rintro rfl;exact Ah.nn ho hb6
 have ho6':Ah h3 ⟨b6,0,O⟩ [.int .i64 0,.int .i64 0,.int .i64 0,.int .i64 0,.int .i64 0,.int .i64 0]:=ho6.le (Au _ _);have hb6h:h b6=O:=AC hle b6 hb6;refine Ae ?_;refine Ea H106 ⟨b3,n,24,rfl,ho.le hle3,oM,oM,λh4 hbut4 hob4=>?_⟩;have hle4:=hbut4.le (hle.trans hle3) hb3;have ho64:=hbut4.obj (a:=⟨b6,0,O⟩) (Ne.symm hne) ho6';refine Ae ?_;refine Br ho64 5 1 rfl rfl oM (by simp) λo5 hob5 _=>?_;have ho65:Ah (h4.set b6 o5) ⟨b6,0,O⟩ [.int .i64 0,.int .i64 0,.int .i64 0,.int .i64 0,.int .i64 0,.int .i64 (n%2^24:Nat)]:=hob5 h4 rfl;have ho35:Ah (h4.set b6 o5) ⟨b3,0,O⟩ [.int .u64 (n/2^24:Nat)]:=IF.obj (b:=b6) (λx hx=>ZW hx) hne hob4;have hle5:Heap.le h (h4.set b6 o5):=IF.le (b:=b6) hle4 hb6h λx hx=>ZW hx;generalize h4.set b6 o5=h5 at *;have hc3:h5.cell ⟨b3,0,O⟩=U (.int .u64 (n/2^24:Nat)):=ho35.rules.2.1 (by simp);have hsr:=G0 .u64 .u64 (n/2^24) 26 (by simp[IntKind.bits]);have e50:n/2^24/2^26=n/2^50:=by rw[Z1,<-Aaf]
 rw[e50]at hsr;have hsr':Bj .shr (.int .u64 ((n/2^24:Nat):Int)) (.int .u64 26)=U (.int .u64 ((n/2^50:Nat):Int)):=hsr;have han:=My (n/2^50) 7 oM oM;rw[show(7:Nat)=2^3-1 from rfl,Aav]at han;have han':Bj .and (.int .u64 ((n/2^50:Nat):Int)) (.int .u64 7)=U (.int .u64 ((n/2^50%8:Nat):Int)):=han;have hw:IntKind.i64.wrap ((n/2^50%8:Nat):Int)=((n/2^50%8:Nat):Int):=BC oM oM;refine Ek @hc3 @hsr' @han' @hw ?_;refine Aa H107 ⟨_,rfl,λh6 hle6=>?_⟩;cases hp:A4 ((n/2^50%8:Nat):Int)with
 |none=>
  rw[hp]at hK;simp only[Option.getD,Option.isSome,Tg.zero,Co,Ym,if_false,Aq]at hK;simp only[Oc,hp,Option.elim];refine Ae ?_;exact hK h6 (hle5.trans hle6)
 |some a=>
  rw[hp]at hK;have hpa:=AW hp;simp only[Oc,hp,Option.elim,Pa.enc];refine Ae ?_;have ho36:=ho35.le hle6;have ho66:=ho65.le hle6;have hle6':=hle5.trans hle6;have hemp:∀ H,Heap.le (λ_=>O) H:=λH x o hx=>by cases hx
  refine Ea H106 ⟨b3,n/2^24,a.rb,rfl,ho36,oM,oM,λh7 hbut7 hob7=>?_⟩;have hle7:=hbut7.le hle6' hb3;have ho67:=hbut7.obj (a:=⟨b6,0,O⟩) (Ne.symm hne) ho66;refine Np (λ_=>O) (hemp _) ?_ (AE (hemp _)) ?_
  ·intro l' hl';simp only[YA]at hl';subst hl';exact⟨true,rfl,λ_=>⟨.v (.int .i64 a.cb),by try simp(disch:=first|omega|(simp only[PL];omega)) only[Zr,simprocAttr,-reduceIte]⟩⟩
  have en:n/2^24/2^a.rb=n/2^(24+a.rb):=by rw[Z1,<-Aaf]
  rw[en]at hob7;have hnl2:n/2^(24+a.rb)<2^64:=Aad (Aax _ _) oM;refine Ae ?_;refine Ea H106 ⟨b3,n/2^(24+a.rb),a.cb,rfl,hob7,hnl2,oM,λh8 hbut8 hob8=>?_⟩;have hle8:=hbut8.le hle7 hb3;have ho68:=hbut8.obj (a:=⟨b6,0,O⟩) (Ne.symm hne) ho67;have en2:n/2^(24+a.rb)/2^a.cb=n/2^50:=by
   rw[Z1,<-Aaf];congr 2;omega
  rw[en2]at hob8;refine Ae ?_;have hcl:=Zi (n/2^(24+a.rb)) (Aak (n:=a.cb) (show 0<2 by omega));have hcl2:2^a.cb<=2^30:=ZZ oM oM;have hrl:=Zi (n/2^24) (Aak (n:=a.rb) (show 0<2 by omega));have hrl2:2^a.rb<=2^30:=ZZ oM oM;refine Ea H106 ⟨b3,n/2^50,3,rfl,hob8,oM,oM,λh9 hbut9 hob9=>?_⟩;have hle9:=hbut9.le hle8 hb3;have ho69:=hbut9.obj (a:=⟨b6,0,O⟩) (Ne.symm hne) ho68;have en3:n/2^50/2^3=n/2^53:=by rw[Z1,<-Aaf]
  rw[en3]at hob9;refine Ae ?_;refine Ea H106 ⟨b3,n/2^53,3,rfl,hob9,oM,oM,λh10 hbut10 hob10=>?_⟩;have hle10:=hbut10.le hle9 hb3;have ho610:=hbut10.obj (a:=⟨b6,0,O⟩) (Ne.symm hne) ho69;have en4:n/2^53/2^3=n/2^56:=by rw[Z1,<-Aaf]
  rw[en4]at hob10;refine Ae ?_;refine Ea H106 ⟨b3,n/2^56,8,rfl,hob10,oM,oM,λh11 hbut11 hob11=>?_⟩;have hle11:=hbut11.le hle10 hb3;have ho611:=hbut11.obj (a:=⟨b6,0,O⟩) (Ne.symm hne) ho610;have en5:n/2^56%2^8=n/2^56:=ZQ oM;rw[en5];have hk47:IntKind.i64.wrap (((n/2^56:Nat):Int)-47)=((n/2^56:Nat):Int)-47:=by rw[BC oM oM]
  refine Ap @hk47 ?_;refine Br ho611 4 1 rfl rfl oM (by simp) λo12 hob12 _=>?_;have hobA:Ah (h11.set b6 o12) ⟨b6,0,O⟩ [.int .i64 0,.int .i64 0,.int .i64 0,.int .i64 0,.int .i64 (n/2^24%2^a.rb:Nat),.int .i64 (n%2^24:Nat)]:=hob12 h11 rfl;have hle12:Heap.le h (h11.set b6 o12):=IF.le (b:=b6) hle11 hb6h λx hx=>ZW hx;generalize h11.set b6 o12=h12 at *;refine Ae ?_;refine Br hobA 3 1 rfl rfl oM (by simp) λo13 hob13 _=>?_;have hobB:Ah (h12.set b6 o13) ⟨b6,0,O⟩ [.int .i64 0,.int .i64 0,.int .i64 0,.int .i64 (n/2^(24+a.rb)%2^a.cb:Nat),.int .i64 (n/2^24%2^a.rb:Nat),.int .i64 (n%2^24:Nat)]:=hob13 h12 rfl;have hle13:Heap.le h (h12.set b6 o13):=IF.le (b:=b6) hle12 hb6h λx hx=>ZW hx;generalize h12.set b6 o13=h13 at *;refine Ae ?_;refine Br hobB 2 1 rfl rfl oM (by simp) λo14 hob14 _=>?_;have hobC:Ah (h13.set b6 o14) ⟨b6,0,O⟩ [.int .i64 0,.int .i64 0,.int .i64 (n/2^50%2^3:Nat),.int .i64 (n/2^(24+a.rb)%2^a.cb:Nat),.int .i64 (n/2^24%2^a.rb:Nat),.int .i64 (n%2^24:Nat)]:=hob14 h13 rfl;have hle14:Heap.le h (h13.set b6 o14):=IF.le (b:=b6) hle13 hb6h λx hx=>ZW hx;generalize h13.set b6 o14=h14 at *;refine Ae ?_;refine Br hobC 1 1 rfl rfl oM (by simp) λo15 hob15 _=>?_;have hobD:Ah (h14.set b6 o15) ⟨b6,0,O⟩ [.int .i64 0,.int .i64 (n/2^53%2^3:Nat),.int .i64 (n/2^50%2^3:Nat),.int .i64 (n/2^(24+a.rb)%2^a.cb:Nat),.int .i64 (n/2^24%2^a.rb:Nat),.int .i64 (n%2^24:Nat)]:=hob15 h14 rfl;have hle15:Heap.le h (h14.set b6 o15):=IF.le (b:=b6) hle14 hb6h λx hx=>ZW hx;generalize h14.set b6 o15=h15 at *;refine Ae ?_;refine Br hobD 0 1 rfl rfl oM (by simp) λo16 hob16 _=>?_;have hobE:Ah (h15.set b6 o16) ⟨b6,0,O⟩ [.int .i64 (((n/2^56:Nat):Int)-47),.int .i64 (n/2^53%2^3:Nat),.int .i64 (n/2^50%2^3:Nat),.int .i64 (n/2^(24+a.rb)%2^a.cb:Nat),.int .i64 (n/2^24%2^a.rb:Nat),.int .i64 (n%2^24:Nat)]:=hob16 h15 rfl;have hle16:Heap.le h (h15.set b6 o16):=IF.le (b:=b6) hle15 hb6h λx hx=>ZW hx;generalize h15.set b6 o16=h16 at *;have hrowG:∀ H,Heap.le h16 H->H.row ⟨b6,0,O⟩ 6=U #[.int .i64 (((n/2^56:Nat):Int)-47),.int .i64 (n/2^53%2^3:Nat),.int .i64 (n/2^50%2^3:Nat),.int .i64 (n/2^(24+a.rb)%2^a.cb:Nat),.int .i64 (n/2^24%2^a.rb:Nat),.int .i64 (n%2^24:Nat)]:=λH hl=>(hobE.le hl).rules.2.2;have hrow:=hrowG h16 (ZX h16);refine Ap @hrow ?_;refine Aa H108 ⟨Hp n a,rfl,λh17 hle17=>?_⟩;have hrow2:=hrowG h17 hle17;dsimp only at hK;by_cases hbad:(Hp n a).bad
  ·rw[BY hbad];simp only[if_pos hbad,Option.getD,Option.isSome,Tg.zero,Co,Ym,if_false,Aq]at hK ⊢;refine Ae ?_;exact hK h17 (hle16.trans hle17)
  ·rw[E0 hbad];simp only[if_neg hbad]at hK;simp only[Option.getD,Option.isSome,Co,Hp,if_true,AP]at hK ⊢;refine Ap @hrow2 ?_;exact hK h17 (hle16.trans hle17)
theorem GN (b:List UInt8):AK b=((BS b).getD Tg.zero).kind:=by unfold AK;cases BS b<;>rfl
def S83:Spec:=λargs h K=>∃ b,args=[.string (str b)]/\∀ h',Heap.le h h'->K (.int .i64 (AK b)) h'
theorem F83_ok {N:Num} {Γ:Ctx} [Ak Γ] (H110:Sat S110 (Γ 110)):Sat S83 (SF N Γ F83):=by
 rintro _ h K ⟨b,rfl,hK⟩;refine An rfl ?_;simp only[F83,Ze,Nat.reduceSub,Nat.reduceAdd];refine Ae ?_;refine Aa H110 ⟨b,rfl,λh1 hle1=>?_⟩;have:=hK h1 hle1;rw[GN]at this;unfold SD Co;cases ht:BS b with
 |none=>
  rw[ht]at this;simp only[Option.getD,Option.isSome,Tg.zero]at this ⊢;refine Ae ?_;exact this
 |some t=>
  rw[ht]at this;simp only[Option.getD,Option.isSome]at this ⊢;refine Ae ?_;exact this
def S66:Spec:=S83
theorem F66_ok {N:Num} {Γ:Ctx} [Ak Γ] (H81:Sat (S81 N) (Γ 81)):Sat S66 (SF N Γ F66):=by
 rintro _ h K ⟨b,rfl,hK⟩;refine An rfl ?_;simp only[F66,Ze,Nat.reduceSub,Nat.reduceAdd];refine Ae ?_;refine Aa H81 ⟨b,rfl,λh1 hle1=>?_⟩;have:=hK h1 hle1;rw[GN]at this;unfold SD Co;cases ht:BS b with
 |none=>
  rw[ht]at this;simp only[Option.getD,Option.isSome,Tg.zero,Ym,if_false,Aq]at this ⊢;refine Ae ?_;exact this
 |some t=>
  rw[ht]at this;simp only[Option.getD,Option.isSome,if_true,AP]at this ⊢;refine Ae ?_;exact this
def Ir (b:Bool):List Value:=[.bool b]
def CC (n k:Nat):List Bool:=(Yh k).map λi=>decide (n/2^(k-1-i)%2=1)
theorem Cl (n k:Nat):(CC n k).length=k:=by simp[CC]
theorem Sa (n k i:Nat) (hi:i<k):(CC n k).getD i false=decide (n/2^(k-1-i)%2=1):=by
 simp[CC,AaO,hi]
theorem NZ (x:Nat) (hx:x<2^63):Bj .and (.int .i64 (x:Int)) (.int .i64 1)=U (.int .i64 ((x%2:Nat):Int)):=by
 have hb:(BitVec.ofInt IntKind.i64.bits (x:Int) &&& BitVec.ofInt IntKind.i64.bits (1:Int)).toNat=x%2:=by
  rw[Aau,Ci IntKind.i64.bits x (by simp[IntKind.bits];omega),show(1:Int)=((1:Nat):Int)from rfl,Ci IntKind.i64.bits 1 (by simp[IntKind.bits]),AaK]
 simp only[Bj,Gt,if_true];rw[hb,BC oM oM]
def S80:Spec:=λargs h K=>∃ h0 v l,∃n many:Nat,args=[v,.int .i64 n,.int .i64 many]/\AQ Ir 1 h0 h v l/\n<2^63/\many<=60/\l.length<=1000 /\
 ∀ v' h',AQ Ir 1 h0 h' v' (l++CC n many)->K v' h'
theorem F80_ok {N:Num} {Γ:Ctx} [Ak Γ]:Sat S80 (SF N Γ F80):=by
 rintro _ h K ⟨h0,v,l,n,many,rfl,hv,hn,hm,hl,hK⟩;refine An rfl ?_;simp only[F80,Ze,Nat.reduceSub,Nat.reduceAdd];refine Ae ?_;refine Aj (λs:Nat×Value=>[U s.2,U (.int .i64 n),U (.int .i64 many),O,U (.int .i64 ((many:Int)-1-s.1)),O,O,O,O])
  (λs h1=>s.1<=many/\AQ Ir 1 h0 h1 s.2 (l++(CC n many).take s.1)) (λs=>many-s.1) (0,v) (by try simp only[Pf];simp;rw[BC oM oM]) ⟨dM,by simpa using hv⟩ ?_
 rintro⟨j,v1⟩ h1 ⟨hj,ho⟩;dsimp only at hj ho ⊢;refine Ae ?_;refine Ad (λc=>?_) (λc=>?_)
 ·have hj2:j<many:=oM;have hi:((many:Int)-1-j)=((many-1-j:Nat):Int):=oM;have hsr:=G0 .i64 .i64 n (many-1-j) (by simp[IntKind.bits];omega);have han:=NZ (n/2^(many-1-j)) (Aad (Aax _ _) hn);rw[<-hi]at hsr;refine AH @hsr @han ?_;refine Bg Ir 1 (λ_=>rfl) [decide (n/2^(many-1-j)%2=1)] ?_ rfl (by simp[maxLen]) λx1 b1 h2 hle2 hb1 hx1 hS1=>?_
  ·simp only[Ir,List.flatMap_cons,AaM,AaP];have:(((n/2^(many-1-j)%2:Nat):Int)=1)=(n/2^(many-1-j)%2=1):=by rw[eq_iff_iff];omega
   simp only[this]
  have O2:=hS1.one;refine AH O2.1 O2.2 ?_;refine D7 (enc:=Ir) (λ_=>rfl) (l':=[decide (n/2^(many-1-j)%2=1)]) (by simp[Ir,one]) (ho.le hle2) (BE.sl (enc:=Ir) (λ_=>rfl) (hS1.le (Au _ _))) (by simp[Cl];omega) λv2 h3 ho3=>?_;have hw:IntKind.i64.wrap ((many:Int)-1-j-1)=(many:Int)-1-((j+1:Nat):Int):=wN;refine Ap @hw ?_;refine Ag (j+1,v2) dM (by dsimp only;try simp only[Pf]) ⟨dM,?_⟩;rw[Ai false (by rw[Cl];exact hj2),Sa _ _ _ hj2,<-Zy];exact ho3
 ·have:j=many:=oM;subst this;rw[ZB (by rw[Cl];omega)]at ho;refine Ae ?_;exact hK _ _ ho
def Ch (l:List Bool):Nat:=l.foldl (λa x=>2*a+x.toNat) 0
theorem FD (l:List Bool) (x:Bool):Ch (l++[x])=2*Ch l+x.toNat:=by simp[Ch]
theorem JA (l:List Bool):Ch l<2^l.length:=by
 induction l using BG with
 |h0=>simp[Ch]
 |hs l x ih=>rw[FD,Zk,Zo,ZE];have:=Bool.toNat_lt x;omega
def DN (t:Tg) (a:Pa):List Bool:=CC (47+t.kind).toNat 8++CC t.filter.toNat 3++CC t.part.toNat 3++CC t.company.toNat a.cb++CC t.ref.toNat a.rb++CC t.serial.toNat 24
theorem Ja (t:Tg) {a:Pa} (h:A4 t.part=U a):(DN t a).length=64:=by
 have:=AW h;simp only[DN,Zk,Cl];omega
def Hs (B:List Bool):List UInt8:=(Yh 8).map λi=>UInt8.ofNat (Ch ((B.drop (8*i)).take 8))
theorem DG (B:List Bool):(Hs B).length=8:=by simp[Hs]
theorem Ln (B:List Bool) {i:Nat} (hi:i<8):(Hs B).getD i 0=UInt8.ofNat (Ch ((B.drop (8*i)).take 8)):=by simp[Hs,AaO,hi]
def AD (t:Tg):List UInt8:=Hs (DN t ((A4 t.part).getD default))
def S65:Spec:=λargs h K=>∃ t a,args=[Co t]/\A4 t.part=U a/\0<=47+t.kind/\t.kind<2^62/\0<=t.filter/\t.filter<2^62/\0<=t.company/\t.company<2^62/\0<=t.ref/\t.ref<2^62/\0<=t.serial/\t.serial<2^62/\∀ h',Heap.le h h'->K (.string (str (AD t))) h'
theorem F65_ok {N:Num} {Γ:Ctx} [Ak Γ] (H79:Sat S79 (Γ 79)) (H80:Sat S80 (Γ 80)):Sat S65 (SF N Γ F65):=by
 rintro _ h K ⟨t,a,rfl,hp,k1,k2,f1,f2,c1,c2,r1,r2,s1,s2,hK⟩;have hpa:=AW hp;have hp6:0<=t.part/\t.part<6:=by
  refine Classical.byContradiction λhc=>?_;rw[Em.2 oM]at hp;cases hp
 unfold AD at hK;rw[hp]at hK;have hBl:=Ja t hp;simp only[Option.getD]at hK;refine An rfl ?_;simp only[F65,Ze,Nat.reduceSub,Nat.reduceAdd,Co];refine Ae ?_;refine Aa H79 ⟨t.part,rfl,?_⟩;simp only[Oc,hp,Option.elim,Pa.enc];refine Ae ?_;refine AO λb3 h1 hle1 hb3 ho3=>?_;refine Ae ?_;refine Br (ho3.le (Au h h1)) 0 4 rfl rfl oM (Yq 4) λo hob _=>?_;have hob2:Ah (h1.set b3 o) ⟨b3,0,O⟩ [.int .i64 a.cb,.int .i64 a.cd,.int .i64 a.rb,.int .i64 a.rd]:=hob h1 rfl;have hle2:Heap.le h (h1.set b3 o):=IF.le (b:=b3) hle1 hb3 λx hx=>ZW hx;generalize h1.set b3 o=h2 at *;have B0:=λH (hl:Heap.le h2 H)=>((hob2.le hl).rules.2.1 (by simp):H.cell ⟨b3,0,O⟩=U (.int .i64 a.cb))
 have B2:=λH (hl:Heap.le h2 H)=>((hob2.le hl).rules.1 2 (by simp):H.cell ((⟨b3,0,O⟩:Addr).add 2)=U (.int .i64 a.rb))
 have haa0:∀ h (k:IntKind),A8 h (.aadr 4 1) (.v (.pointer (U ⟨b3,0,O⟩))) (.v (.int k 0))=U (.v (.pointer (U ⟨b3,0,O⟩))):=λh k=>rfl;have haa2:∀ h (k:IntKind),A8 h (.aadr 4 1) (.v (.pointer (U ⟨b3,0,O⟩))) (.v (.int k 2))=U (.v (.pointer (U ((⟨b3,0,O⟩:Addr).add 2)))):=λh k=>rfl;obtain⟨kn,hkn⟩:∃ n:Nat,47+t.kind=n:=⟨(47+t.kind).toNat,oM⟩
 obtain⟨fn,hfn⟩:∃ n:Nat,t.filter=n:=⟨t.filter.toNat,oM⟩
 obtain⟨pn,hpn⟩:∃ n:Nat,t.part=n:=⟨t.part.toNat,oM⟩
 obtain⟨cn,hcn⟩:∃ n:Nat,t.company=n:=⟨t.company.toNat,oM⟩
 obtain⟨rn,hrn⟩:∃ n:Nat,t.ref=n:=⟨t.ref.toNat,oM⟩
 obtain⟨sn,hsn⟩:∃ n:Nat,t.serial=n:=⟨t.serial.toNat,oM⟩
 have hB:DN t a=CC kn 8++CC fn 3++CC pn 3++CC cn a.cb++CC rn a.rb++CC sn 24:=by
  simp only[DN,hkn,hfn,hpn,hcn,hrn,hsn,Aaa]
 have hkw:IntKind.i64.wrap (47+t.kind)=(kn:Int):=by rw[BC oM oM,hkn]
 generalize hBg:DN t a=B at *;rw[hfn,hpn,hcn,hrn,hsn];refine Ap @hkw ?_;refine Aa H80 ⟨h2,.slice O 0 0,[],kn,8,rfl,AQ.nil (ZX h2),oM,oM,by simp,λv4 h4 ho4=>?_⟩;rw[YI]at ho4;refine Ae ?_;refine Aa H80 ⟨h2,v4,_,fn,3,rfl,ho4,oM,oM,by simp[Cl],λv5 h5 ho5=>?_⟩;refine Ae ?_;refine Aa H80 ⟨h2,v5,_,pn,3,rfl,ho5,oM,oM,by simp[Cl],λv6 h6 ho6=>?_⟩;have B06:=B0 h6 ho6.1;refine AH @haa0 @B06 ?_;refine Aa H80 ⟨h2,v6,_,cn,a.cb,rfl,ho6,oM,oM,by simp[Cl],λv7 h7 ho7=>?_⟩;have B27:=B2 h7 ho7.1;refine AH @haa2 @B27 ?_;refine Aa H80 ⟨h2,v7,_,rn,a.rb,rfl,ho7,oM,oM,by simp[Cl];omega,λv8 h8 ho8=>?_⟩;refine Ae ?_;refine Aa H80 ⟨h2,v8,_,sn,24,rfl,ho8,oM,oM,by simp[Cl];omega,λv9 h9 ho9=>?_⟩;rw[<-hB]at ho9;have hS9:=ho9.sl (enc:=Ir) (λ_=>rfl);have hle9:=hle2.trans ho9.1;clear ho4 ho5 ho6 ho7 ho8 ho9 B06 B27 hB;refine Ae ?_;refine Aj (λs:Nat×Value=>[U (.agg #[.int .i64 t.kind,.int .i64 fn,.int .i64 pn,.int .i64 cn,.int .i64 rn,.int .i64 sn]),O,U (.string (str [])),U (.pointer (U ⟨b3,0,O⟩)),U v9,U s.2,U (.int .i64 s.1),O,O,O,O,O,O,O,O,O,O,O,O,O,O,O,O,O])
  (λs H=>s.1<=8/\AQ BF 1 h9 H s.2 ((Hs B).take s.1)) (λs=>8-s.1) (0,.slice O 0 0) (by try simp only[Pf];rfl) ⟨dM,AQ.nil (ZX h9)⟩ ?_
 rintro⟨i,v⟩ H ⟨hi,ho⟩;dsimp only at hi ho ⊢;have R9:=(hS9.le ho.1).rules1 (λb=>.bool b) (λ_=>rfl) false;rw[hBl]at R9;refine Ae ?_;refine Ad (λc=>?_) (λc=>?_);rotate_left
 ·have:i=8:=oM;subst this;rw[ZB (by rw[DG];omega)]at ho;refine Ap ((ho.sl Ax).b2s) ?_;exact hK H (hle9.trans ho.1)
 have A5:i<8:=oM;refine Ae ?_;refine Aj (λk:Nat=>[U (.agg #[.int .i64 t.kind,.int .i64 fn,.int .i64 pn,.int .i64 cn,.int .i64 rn,.int .i64 sn]),O,U (.string (str [])),U (.pointer (U ⟨b3,0,O⟩)),U v9,U v,U (.int .i64 i),U (.int .i64 (Ch ((B.drop (8*i)).take k):Nat)),U (.int .i64 k),O,O,O,O,O,O,O,O,O,O,O,O,O,O,O])
  (λk H2=>H2=H/\k<=8) (λk=>8-k) 0 (by try simp only[Pf];exact⟨rfl,rfl⟩) ⟨rfl,oM⟩ ?_
 rintro k H2 ⟨rfl,hk⟩;have hvl:=JA ((B.drop (8*i)).take k);have hvl2:Ch ((B.drop (8*i)).take k)<2^8:=Z9 hvl (ZZ oM (by rw[Zn];omega));refine Ae ?_;refine Ad (λc2=>?_) (λc2=>?_)
 ·have hk2:k<8:=oM;have hidx:IntKind.i64.wrap (IntKind.i64.wrap (8*(i:Int))+(k:Int))=((8*i+k:Nat):Int):=by rw[BC (n:=8*(i:Int)) oM oM,BC oM oM];omega
  have hnx:Ch ((B.drop (8*i)).take (k+1))=2*Ch ((B.drop (8*i)).take k)+(B.getD (8*i+k) false).toNat:=by
   rw[Ai false (by rw[ZO];omega),FD];simp[AaO,Aar]
  have hw2:IntKind.i64.wrap (2*(Ch ((B.drop (8*i)).take k):Int))=((2*Ch ((B.drop (8*i)).take k):Nat):Int):=wN;refine CS @hidx @R9 @hw2 ?_;cases hbit:B.getD (8*i+k) false with
  |true=>
   rw[hbit]at hnx;have hw3:IntKind.i64.wrap (((2*Ch ((B.drop (8*i)).take k):Nat):Int)+1)=((Ch ((B.drop (8*i)).take (k+1)):Nat):Int):=by rw[hnx,BC oM oM];simp
   refine Ap @hw3 ?_;exact Ag (k+1) oM sE ⟨rfl,oM⟩
  |false=>
   rw[hbit]at hnx;have hw3:((2*Ch ((B.drop (8*i)).take k):Nat):Int)=((Ch ((B.drop (8*i)).take (k+1)):Nat):Int):=by rw[hnx];simp
   rw[hw3];refine Ae ?_;exact Ag (k+1) oM sE ⟨rfl,oM⟩
 ·have:k=8:=oM;subst this;generalize hx:Ch ((B.drop (8*i)).take 8)=x at *;have hb8:(UInt8.ofNat x).toNat=x:=by simp;omega
  have hcv:IntKind.u8.wrap ((x:Nat):Int)=(((UInt8.ofNat x).toNat:Nat):Int):=by rw[hb8,Uh];omega
  refine Ap @hcv ?_;refine Bg BF 1 Ax [UInt8.ofNat x] rfl rfl (by simp[maxLen]) λx1 b1 h2' hle2' hb1 hx1 hS1=>?_;have O2:=hS1.one;refine AH O2.1 O2.2 ?_;refine D7 (enc:=BF) Ax (l':=[UInt8.ofNat x]) (by simp[BF,one]) (ho.le hle2') (BE.sl Ax (hS1.le (Au _ _))) (by simp[DG];omega) λv2 h3 ho3=>?_;refine Ae ?_;refine Ag (i+1,v2) dM (by dsimp only;try simp only[Pf]) ⟨dM,?_⟩;dsimp only;rw[Ai 0 (by rw[DG];omega),Ln _ A5,hx];exact ho3
theorem GD (l m:List Bool):Ch (l++m)=Ch l*2^m.length+Ch m:=by
 induction m using BG with
 |h0=>simp[Ch]
 |hs m x ih=>rw[<-Zy,FD,ih,FD,Zk,Zo,ZE,Nat.mul_add,Zg];congr 1;rw[Aao 2,AaS]
theorem Py (n k:Nat):CC n (k+1)=CC (n/2) k++[decide (n%2=1)]:=by
 unfold CC;rw[AaN,Aam];congr 1
 ·refine AaG λi hi=>?_;have:=Zc.1 hi;congr 2;rw[show k+1-1-i=(k-1-i)+1 by omega,ZE,Aao,<-Z1]
 ·simp
theorem Og:∀ (k n:Nat),Ch (CC n k)=n%2^k:=by
 intro k;induction k with
 |zero=>intro n;simp[CC,Ch,AaX]
 |succ k ih=>
  intro n;rw[Py,FD,ih,ZE,Aao (2^k) 2,AaY];have:(decide (n%2=1)).toNat=n%2:=by
   rcases Nat.mod_two_eq_zero_or_one n with h|h<;>rw[h]<;>rfl
  rw[this];omega
theorem QB (B:List Bool) {s k:Nat} (h:s+k<=B.length):Ch ((B.drop s).take k)=Ch B/2^(B.length-s-k)%2^k:=by
 have e:B=B.take s++((B.drop s).take k++(B.drop s).drop k):=by rw[ZD,ZD]
 generalize hm:(B.drop s).take k=m at *;generalize hr:(B.drop s).drop k=r at *;have hml:m.length=k:=by rw[<-hm,Zn,ZO];omega
 have hrl:r.length=B.length-s-k:=by rw[<-hr,ZO,ZO]
 rw[<-hrl]
 conv=>rhs;rw[e]
 rw[GD,GD,Zk,hml,Aaf];have h1:=JA r;have h2:=JA m;rw[hml]at h2;have e3:Ch (B.take s)*(2^k*2^r.length)+(Ch m*2^r.length+Ch r)=(Ch (B.take s)*2^k+Ch m)*2^r.length+Ch r:=by
  rw[Zq,AaS];omega
 rw[e3,AaV,Nat.add_mul_div_right _ _ (Aak oM),Nat.div_eq_of_lt h1,Nat.zero_add,AaV,Nat.add_mul_mod_self_right,ZQ h2]
def HS (n:Nat) (l:List (Nat×Nat)):Nat:=l.foldl (λn q=>n*2^q.1+q.2) n
theorem I8 (n:Nat) (l:List (Nat×Nat)) (q:Nat×Nat):HS n (l++[q])=HS n l*2^q.1+q.2:=by simp[HS]
def DC (l:List (Nat×Nat)):Nat:=l.foldl (λn q=>n+q.1) 0
theorem Fa (l:List (Nat×Nat)) (q:Nat×Nat):DC (l++[q])=DC l+q.1:=by simp[DC]
theorem Qx {n:Nat} (hn:n<2^8):∀ {l:List (Nat×Nat)},(∀q∈l,q.2<2^q.1)->HS n l<2^(8+DC l):=by
 intro l;induction l using BG with
 |h0=>intro _;simpa[HS,DC]using hn
 |hs l q ih=>
  intro h;have h1:=ih λx hx=>h x (by simp[hx]);have h2:=h q (by simp);rw[I8,Fa,<-Zg,Aaf];have:(HS n l+1)*2^q.1<=2^(8+DC l)*2^q.1:=Zm _ h1;rw[Zq]at this;omega
def AJ (t:Tg) (a:Pa):List (Nat×Nat):=[(3,t.filter.toNat),(3,t.part.toNat),(a.cb,t.company.toNat),(a.rb,t.ref.toNat),(24,t.serial.toNat)]
theorem WW {p:Int} {a:Pa} (h:A4 p=U a):10^a.cd<=2^a.cb/\10^a.rd<=2^a.rb:=by
 unfold A4 at h
 repeat' split at h
 all_goals first|(cases h;done)|(cases h;decide)
theorem LE {t:Tg} {a:Pa} (h:¬ t.bad) (ha:A4 t.part=U a):∀ q∈AJ t a,q.2<2^q.1:=by
 obtain⟨a',ha',k1,k2,f1,f2,s1,s2,c1,c2,r1,r2⟩:=Tg.good h;rw[ha]at ha';cases ha';obtain⟨p1,p2⟩:=WW ha;have hp:0<=t.part/\t.part<6:=by
  refine Classical.byContradiction λhc=>?_;rw[Em.2 oM]at ha;cases ha
 intro q hq;simp only[AJ,X5,AaL,or_false]at hq;rcases hq with rfl|rfl|rfl|rfl|rfl<;>dsimp only<;>omega
theorem MJ {t:Tg} {a:Pa} (h:¬ t.bad) (ha:A4 t.part=U a):Ch (DN t a)=HS (47+t.kind).toNat (AJ t a):=by
 have hl:=LE h ha;obtain⟨a',ha',k1,k2,_⟩:=Tg.good h;simp only[AJ,X5,AaL,or_false,forall_eq_or_imp,forall_eq]at hl;obtain⟨l1,l2,l3,l4,l5⟩:=hl;unfold DN AJ HS;simp only[GD,Cl,Og,Aan,Aay];rw[ZQ l1,ZQ l2,ZQ l3,ZQ l4,ZQ l5,ZQ (show(47+t.kind).toNat<2^8 by omega)]
theorem QX {B:List Bool} (hB:B.length=64) {i:Nat} (hi:i<8):(Hs B).getD i 0=UInt8.ofNat (Ch B/2^(56-8*i)%256):=by
 rw[Ln B hi,QB B oM,hB,show 64-8*i-8=56-8*i by omega]
theorem VP {x y k:Nat} (hy:y<2^k):x*2^k|||y=x*2^k+y:=by
 rw[<-Nat.shiftLeft_eq,Nat.shiftLeft_add_eq_or_of_lt hy]
def Ud (q:Nat×Nat):List Value:=[.int .i64 (q.1:Nat),.int .i64 (q.2:Nat)]
def S162 (N:Num):Spec:=λargs h K=>∃ t:Tg,args=[Co t]/\(t.bad->∀ h',Heap.le h h'->K (.tuple #[.string (str []),Cm N 1]) h')/\(¬t.bad->∀ h',Heap.le h h'->K (.tuple #[.string (str (AD t)),.nilIface]) h')
theorem F162_ok {N:Num} {Γ:Ctx} [Ak Γ] (H108:Sat (S108 N) (Γ 108)) (H107:Sat S107 (Γ 107)):Sat (S162 N) (SF N Γ F162):=by
 rintro _ h K ⟨t,rfl,hK1,hK2⟩;refine An rfl ?_;simp only[F162,Ze,Nat.reduceSub,Nat.reduceAdd,Co];refine Ae ?_;refine Aa H108 ⟨t,rfl,λh1 hle1=>?_⟩;by_cases hb:t.bad
 ·rw[BY hb];refine Ap @Aq ?_;exact hK1 hb h1 hle1
 rw[E0 hb];have hK:=hK2 hb;clear hK1 hK2;obtain⟨a,ha,k1,k2,f1,f2,s1,s2,c1,c2,r1,r2⟩:=Tg.good hb;have hpa:=AW ha;have hfl:=LE hb ha;have hvb:=MJ hb ha;have hBl:=Ja t ha;have hp:0<=t.part/\t.part<6:=by
  refine Classical.byContradiction λhc=>?_;rw[Em.2 oM]at ha;cases ha
 have ebytes:AD t=Hs (DN t a):=by unfold AD;rw[ha];rfl
 rw[ebytes]at hK;refine Ap @AP ?_;refine Aa H107 ⟨t.part,rfl,λh2 hle2=>?_⟩;simp only[Oc,ha,Option.elim,Pa.enc];obtain⟨kn,hkn⟩:∃ n:Nat,47+t.kind=n:=⟨(47+t.kind).toNat,oM⟩
 obtain⟨fn,hfn⟩:∃ n:Nat,t.filter=n:=⟨t.filter.toNat,oM⟩
 obtain⟨pn,hpn⟩:∃ n:Nat,t.part=n:=⟨t.part.toNat,oM⟩
 obtain⟨cn,hcn⟩:∃ n:Nat,t.company=n:=⟨t.company.toNat,oM⟩
 obtain⟨rn,hrn⟩:∃ n:Nat,t.ref=n:=⟨t.ref.toNat,oM⟩
 obtain⟨sn,hsn⟩:∃ n:Nat,t.serial=n:=⟨t.serial.toNat,oM⟩
 have hF:AJ t a=[(3,fn),(3,pn),(a.cb,cn),(a.rb,rn),(24,sn)]:=by simp[AJ,hfn,hpn,hcn,hrn,hsn]
 have hkw:IntKind.i64.wrap (47+t.kind)=(kn:Int):=by rw[BC oM oM,hkn]
 have hku:IntKind.u64.wrap (kn:Int)=(kn:Int):=Cg kn oM;have hk256:kn<2^8:=oM;rw[hkn,Aaa]at hvb;have hwid:DC (AJ t a)=56:=by rw[hF];simp[DC];omega
 rw[hfn,hpn,hcn,hrn,hsn];refine AH @hkw @hku ?_;refine BQ Ud 2 (λ_=>rfl) (AJ t a) (by rw[hF];rfl) (by rw[hF];rfl) (by rw[hF];simp[maxLen]) λv5 h5 hle5 ho5=>?_;have hS5:=ho5.sl (enc:=Ud) (λ_=>rfl);have O5:=ho5.slb.1.one;have R5:=hS5.rules 2 (λ_=>rfl) (0,0);have h5l:(AJ t a).length=5:=by rw[hF];rfl
 have hle05:Heap.le h h5:=hle1.trans (hle2.trans hle5);rw[h5l]at R5;refine CS O5.1 O5.2 @R5 ?_;refine AA (λenv H=>Heap.le h H/\env=[O,O,O,O,O,O,U (.int .u64 (HS kn (AJ t a):Nat)),O,O,O,O,O,O,O,O,O,O,O,O,O,O,O,O,O]) ?_ ?_;rotate_left
 ·refine Aj (λi:Nat=>[O,O,O,O,O,O,U (.int .u64 (HS kn ((AJ t a).take i):Nat)),O,O,O,O,O,O,O,O,U (v5),U (.int .i64 5),U (.int .i64 (i:Nat)),O,O,O,O,O,O]) (λi H=>Heap.le h5 H/\i<=5) (λi=>5-i) 0 (by try simp only[Pf];simp[HS]) ⟨ZX h5,oM⟩ ?_;rintro i H ⟨hle,hi⟩;have RH:=(hS5.le hle).rules 2 (λ_=>rfl) (0,0);rw[h5l]at RH;refine Ae ?_;refine Ad (λc=>?_) (λc=>?_);rotate_left
  ·have:i=5:=oM;subst this;rw[ZB oM];refine Ae ?_;exact Ar _ sE ⟨hle05.trans hle,rfl⟩
  have A5:i<5:=oM;have hwi:=wS i;have hq:=hfl _ (As (0,0) (show i<(AJ t a).length by omega));have hsn:=Ai (0,0) (show i<(AJ t a).length by omega);have hacc:=Qx hk256 (l:=(AJ t a).take i) λq hq=>hfl q (Z4 hq);have hacc2:=Qx hk256 (l:=(AJ t a).take (i+1)) λq hq=>hfl q (Z4 hq);have hwt:DC ((AJ t a).take (i+1))<=56:=by
   have e:DC (AJ t a)=DC ((AJ t a).take (i+1))+DC ((AJ t a).drop (i+1)):=by
    conv=>lhs;rw[<-ZD (i+1) (AJ t a)]
    generalize (AJ t a).take (i+1)=x;generalize (AJ t a).drop (i+1)=y;induction y using BG with
    |h0=>simp[DC]
    |hs y q ih=>rw[<-Zy,Fa,ih,Fa,Zg]
   omega
  have hb64:HS kn ((AJ t a).take (i+1))<2^64:=Z9 hacc2 (ZZ oM oM);rw[hsn,I8]at hb64;rw[hsn,Fa]at hwt;have hacs:HS kn ((AJ t a).take (i+1))=HS kn ((AJ t a).take i)*2^((AJ t a).getD i (0,0)).1+((AJ t a).getD i (0,0)).2:=by rw[hsn,I8]
  generalize hqe:(AJ t a).getD i (0,0)=q at *;generalize hac:HS kn ((AJ t a).take i)=ac at *;have hshl:=λk'=>JB k' ac q.1 oM oM;have hq2:q.2<2^64:=oM;have hcv:IntKind.u64.wrap ((q.2:Nat):Int)=(q.2:Nat):=Cg _ hq2;have hor:=Ta (ac*2^q.1) q.2 oM hq2;rw[VP hq]at hor;refine CS @RH @hqe @Ud.eq_1 ?_;refine AO λb H1 hle1 hb ho=>?_;refine Ae ?_;refine Br (ho.le (Au H H1)) 0 2 rfl rfl oM (Yq 2) λo hob _=>?_;have hob2:Ah (H1.set b o) ⟨b,0,O⟩ [.int .i64 (q.1:Nat),.int .i64 (q.2:Nat)]:=hob H1 rfl;have hle2:Heap.le H (H1.set b o):=IF.le (b:=b) hle1 hb λx hx=>ZW hx;generalize H1.set b o=H2 at *;have B0:H2.cell ⟨b,0,O⟩=U (.int .i64 (q.1:Nat)):=hob2.rules.2.1 (by simp);have B1:H2.cell ((⟨b,0,O⟩:Addr).add 1)=U (.int .i64 (q.2:Nat)):=hob2.rules.1 1 (by simp);have haa0:∀ h (k:IntKind),A8 h (.aadr 2 1) (.v (.pointer (U ⟨b,0,O⟩))) (.v (.int k 0))=U (.v (.pointer (U ⟨b,0,O⟩))):=λh k=>rfl;have haa1:∀ h (k:IntKind),A8 h (.aadr 2 1) (.v (.pointer (U ⟨b,0,O⟩))) (.v (.int k 1))=U (.v (.pointer (U ((⟨b,0,O⟩:Addr).add 1)))):=λh k=>rfl;refine Xs @haa0 @haa1 @B0 @B1 @hshl @hcv @hor @hwi ?_;exact Ag (i+1) oM (by rw[hacs];try simp only[Pf]) ⟨hle.trans hle2,oM⟩
 rintro env H ⟨hle,rfl⟩;rw[<-hvb];generalize hBe:DN t a=B at *;have hvl:=JA B;rw[hBl]at hvl;refine Ae ?_;refine Aj (λx:Nat×Value=>[O,O,O,O,O,O,U (.int .u64 (Ch B:Nat)),O,U (x.2),U (.int .i64 (56-8*(x.1:Nat))),O,O,O,O,O,O,O,O,O,O,O,O,O,O]) (λx H2=>x.1<=8/\AQ BF 1 H H2 x.2 ((Hs B).take x.1)) (λx=>8-x.1) (0,.slice O 0 0) (by dsimp only;try simp only[Pf];simp) ⟨dM,by simpa using AQ.nil (ZX H)⟩ ?_;rintro⟨j,v⟩ H2 ⟨hj,ho⟩;dsimp only at hj ho ⊢;refine Ae ?_;refine Ad (λc=>?_) (λc=>?_);rotate_left
 ·have:j=8:=oM;subst this;rw[ZB (by rw[DG];omega)]at ho;refine Ap ((ho.sl Ax).b2s) ?_;exact hK H2 (hle.trans ho.1)
 have hj2:j<8:=oM;have hwj:IntKind.i64.wrap (56-8*(j:Int)-8)=56-8*((j+1:Nat):Int):=wN;have hjn:(56:Int)-8*(j:Int)=((56-8*j:Nat):Int):=oM;have hshr:=λk'=>G0 .u64 k' (Ch B) (56-8*j) (by simp[IntKind.bits];omega);obtain⟨y,hy⟩:∃ y:UInt8,y=UInt8.ofNat (Ch B/2^(56-8*j)%256):=⟨_,rfl⟩
 have hcv:IntKind.u8.wrap ((Ch B/2^(56-8*j):Nat):Int)=((y.toNat:Nat):Int):=by rw[hy,Uh];simp
 have O1:=ho.slb.1.one;rw[hjn]at hwj ⊢;refine Ek @hshr @hcv O1.1 O1.2 ?_;refine Bg BF 1 Ax [y] rfl rfl (by simp[maxLen]) λx1 b1 H3 hle3 hb1 hx1 hS1=>?_;have O2:=hS1.one;refine AH O2.1 O2.2 ?_;refine D7 (enc:=BF) (sz:=1) (l:=(Hs B).take j) (l':=[y]) Ax (by simp[BF,one]) (ho.le hle3) (BE.sl Ax (hS1.le (Au _ _))) (by simp[DG];omega) λv2 H4 ho4=>?_;have O3:=ho4.slb.1.one;refine Ap @hwj ?_;refine Ag (j+1,v2) dM (by dsimp only;try simp only[Pf]) ⟨dM,?_⟩;dsimp only;rw[Ai 0 (by rw[DG];omega),QX hBl hj2,<-hy];exact ho4
def S176n (T:Heap):Spec:=λargs h K=>∃ n:Nat,args=[.int .i64 (n:Nat)]/\n<=9223372036854775807/\Heap.le T h/\∀ h',Heap.le h h'->K (.string (str (Bo n))) h'
def S193:Spec:=λargs h K=>∃ k:Nat,args=[.string (str [48]),.int .i64 (k:Nat)]/\k<=100/\∀ h',Heap.le h h'->K (.string (str (Z7 k 48))) h'
def S178 (T:Heap):Spec:=λargs h K=>∃ n w:Nat,args=[.int .i64 (n:Nat),.int .i64 (w:Nat)]/\n<=9223372036854775807/\w<=100/\Heap.le T h/\∀ h',Heap.le h h'->K (.string (str (D0 n w))) h'
theorem F178_ok {N:Num} {Γ:Ctx} [Ak Γ] {T:Heap} (H176:Sat (S176n T) (Γ 176)) (H193:Sat S193 (Γ 193)):Sat (S178 T) (SF N Γ F178):=by
 rintro _ h K ⟨n,w,rfl,hn,hw,hT,hK⟩;refine An rfl ?_;simp only[F178,Ze,Nat.reduceSub,Nat.reduceAdd];have hdl:=AG 19 (n:=n) oM oM;refine Ae ?_;refine Aa H176 ⟨n,rfl,hn,hT,λh1 hle1=>?_⟩;have hw1:IntKind.i64.wrap ((w:Int)-((Bo n).length:Nat))=(w:Int)-((Bo n).length:Nat):=BC oM oM;have hmx:max (0:Int) ((w:Int)-((Bo n).length:Nat))=((w-(Bo n).length:Nat):Int):=oM;refine AH @hw1 @hmx ?_;refine Aa H193 ⟨w-(Bo n).length,rfl,oM,λh2 hle2=>?_⟩;have hr:(Z7 (w-(Bo n).length) (48:UInt8)).length=w-(Bo n).length:=by simp
 have:=hK h2 (hle1.trans hle2);unfold D0 at this;generalize Z7 (w-(Bo n).length) (48:UInt8)=r at *;refine Ae ?_;exact this
theorem Lv (k:Int):(Dh k).length<=6:=by
 unfold Dh;split
 ·decide
 ·split<;>decide
theorem G6 (n w:Nat):(D0 n w).length<=w+(Bo n).length:=by
 unfold D0;rw[Zk,Aag];omega
def S163 (T:Heap) (N:Num):Spec:=λargs h K=>∃ t:Tg,args=[Co t]/\Heap.le T h/\(t.bad->∀ h',Heap.le h h'->K (.tuple #[.string (str []),Cm N 1]) h')/\(¬t.bad->∀ h',Heap.le h h'->K (.tuple #[.string (str (Bc t)),.nilIface]) h')
theorem F163_ok {N:Num} {Γ:Ctx} [Ak Γ] {T:Heap} (H108:Sat (S108 N) (Γ 108)) (H107:Sat S107 (Γ 107)) (H177:Sat S177 (Γ 177)) (H176:Sat (S176n T) (Γ 176)) (H178:Sat (S178 T) (Γ 178)):Sat (S163 T N) (SF N Γ F163):=by
 rintro _ h K ⟨t,rfl,hT,hK1,hK2⟩;refine An rfl ?_;simp only[F163,Ze,Nat.reduceSub,Nat.reduceAdd,Co];refine Ae ?_;refine Aa H108 ⟨t,rfl,λh1 hle1=>?_⟩;by_cases hb:t.bad
 ·rw[BY hb];refine Ap @Aq ?_;exact hK1 hb h1 hle1
 rw[E0 hb];have hK:=hK2 hb;clear hK1 hK2;obtain⟨a,ha,k1,k2,f1,f2,s1,s2,c1,c2,r1,r2⟩:=Tg.good hb;have hpa:=AW ha;have e:Bc t=Ld t a:=by unfold Bc;rw[ha];rfl
 rw[e]at hK;unfold Ld EJ at hK;refine Ap @AP ?_;refine Aa H107 ⟨t.part,rfl,λh2 hle2=>?_⟩;simp only[Oc,ha,Option.elim,Pa.enc];obtain⟨fn,hfn⟩:∃ n:Nat,t.filter=n:=⟨t.filter.toNat,oM⟩
 obtain⟨cn,hcn⟩:∃ n:Nat,t.company=n:=⟨t.company.toNat,oM⟩
 obtain⟨rn,hrn⟩:∃ n:Nat,t.ref=n:=⟨t.ref.toNat,oM⟩
 obtain⟨sn,hsn⟩:∃ n:Nat,t.serial=n:=⟨t.serial.toNat,oM⟩
 have p10:∀ k,k<=6->10^k<=10^6:=λk hk=>ZZ oM hk;have p10c:=p10 a.cd oM;have p10r:=p10 a.rd oM;rw[hfn,hcn,hrn,hsn];simp only[hfn,hcn,hrn,hsn,Aaa]at hK;have l1:=Lv t.kind;have l2:=AG 19 (n:=fn) oM oM;have l3:=G6 cn a.cd;have l3':=AG 19 (n:=cn) oM oM;have l4:=G6 rn a.rd;have l4':=AG 19 (n:=rn) oM oM;have l5:=AG 19 (n:=sn) oM oM;refine Ae ?_;refine Aa H177 ⟨t.kind,rfl,k1,k2,?_⟩;refine Cb (AE (ZX _)) ?_;have hT2:=hT.trans (hle1.trans hle2);refine Ae ?_;refine Aa H176 ⟨fn,rfl,oM,hT2,λh3 hle3=>?_⟩;refine Ae ?_;refine CX (AE hle3) ?_;refine Ae ?_;refine Aa H178 ⟨cn,a.cd,rfl,oM,oM,hT2.trans hle3,λh4 hle4=>?_⟩;refine Ae ?_;refine CX (AE (hle3.trans hle4)) ?_;refine Ae ?_;refine Aa H178 ⟨rn,a.rd,rfl,oM,oM,hT2.trans (hle3.trans hle4),λh5 hle5=>?_⟩;refine Ae ?_;refine CX (AE (hle3.trans (hle4.trans hle5))) ?_;refine Ae ?_;refine Aa H176 ⟨sn,rfl,oM,hT2.trans (hle3.trans (hle4.trans hle5)),λh6 hle6=>?_⟩;have:=hK h6 (hle1.trans (hle2.trans (hle3.trans (hle4.trans (hle5.trans hle6)))));refine Ae ?_;simp only[Zy,Y7,YI];exact this
def S164:Spec:=λargs h K=>∃ t a,args=[Co t]/\A4 t.part=U a/\(0<=t.filter/\t.filter<=9223372036854775807)/\(0<=t.company/\t.company<=9223372036854775807)/\(0<=t.ref/\t.ref<=9223372036854775807)/\(0<=t.serial/\t.serial<=9223372036854775807)/\∀ h',Heap.le h h'->K (.string (str (Bc t))) h'
theorem F164_ok {N:Num} {Γ:Ctx} [Ak Γ] (H79:Sat S79 (Γ 79)) (H85:Sat S85 (Γ 85)) (H179:Sat S179 (Γ 179)):Sat S164 (SF N Γ F164):=by
 rintro _ h K ⟨t,a,rfl,ha,hf,hc,hr,hs,hK⟩;refine An rfl ?_;simp only[F164,Ze,Nat.reduceSub,Nat.reduceAdd,Co];have hpa:=AW ha;have e:Bc t=Ld t a:=by unfold Bc;rw[ha];rfl
 rw[e]at hK;unfold Ld EJ at hK;refine Ae ?_;refine Aa H79 ⟨t.part,rfl,?_⟩;simp only[Oc,ha,Option.elim,Pa.enc];refine Ae ?_;refine AO λb h1 hle1 hb ho=>?_;refine Ae ?_;refine Br (ho.le (Au h h1)) 0 4 rfl rfl oM (Yq 4) λo hob _=>?_;have hob2:Ah (h1.set b o) ⟨b,0,O⟩ [.int .i64 a.cb,.int .i64 a.cd,.int .i64 a.rb,.int .i64 a.rd]:=hob h1 rfl;have hle2:Heap.le h (h1.set b o):=IF.le (b:=b) hle1 hb λx hx=>ZW hx;generalize h1.set b o=h2 at *;have B1:h2.cell ((⟨b,0,O⟩:Addr).add 1)=U (.int .i64 a.cd):=hob2.rules.1 1 (by simp);have B3:h2.cell ((⟨b,0,O⟩:Addr).add 3)=U (.int .i64 a.rd):=hob2.rules.1 3 (by simp);have haa1:∀ h (k:IntKind),A8 h (.aadr 4 1) (.v (.pointer (U ⟨b,0,O⟩))) (.v (.int k 1))=U (.v (.pointer (U ((⟨b,0,O⟩:Addr).add 1)))):=λh k=>rfl;have haa3:∀ h (k:IntKind),A8 h (.aadr 4 1) (.v (.pointer (U ⟨b,0,O⟩))) (.v (.int k 3))=U (.v (.pointer (U ((⟨b,0,O⟩:Addr).add 3)))):=λh k=>rfl;obtain⟨fn,hfn⟩:∃ n:Nat,t.filter=n:=⟨t.filter.toNat,oM⟩
 obtain⟨cn,hcn⟩:∃ n:Nat,t.company=n:=⟨t.company.toNat,oM⟩
 obtain⟨rn,hrn⟩:∃ n:Nat,t.ref=n:=⟨t.ref.toNat,oM⟩
 obtain⟨sn,hsn⟩:∃ n:Nat,t.serial=n:=⟨t.serial.toNat,oM⟩
 rw[hfn]at hf;rw[hcn]at hc;rw[hrn]at hr;rw[hsn]at hs;rw[hfn,hcn,hrn,hsn];simp only[hfn,hcn,hrn,hsn,Aaa]at hK;have l1:=Lv t.kind;have l2:=AG 19 (n:=fn) oM oM;have l3:=G6 cn a.cd;have l3':=AG 19 (n:=cn) oM oM;have l4:=G6 rn a.rd;have l4':=AG 19 (n:=rn) oM oM;have l5:=AG 19 (n:=sn) oM oM;have hkn:(if t.kind=3 then[112,97,108,108,101,116]else if t.kind=2 then[99,97,115,101]else[105,116,101,109]:List UInt8)=Dh t.kind:=by
  unfold Dh;by_cases h2:t.kind=2
  ·rw[if_neg oM,if_pos h2,if_pos h2]
  ·by_cases h3:t.kind=3
   ·rw[if_pos h3,if_neg h2,if_pos h3]
   ·rw[if_neg h3,if_neg h2,if_neg h2,if_neg h3]
 refine Ae ?_;refine AT (λenv H=>H=h2/\env=[U (.agg #[.int .i64 t.kind,.int .i64 fn,.int .i64 t.part,.int .i64 cn,.int .i64 rn,.int .i64 sn]),U (.agg #[.int .i64 t.kind,.int .i64 fn,.int .i64 t.part,.int .i64 cn,.int .i64 rn,.int .i64 sn]),O,U (.pointer (U ⟨b,0,O⟩)),U (.string (str (if t.kind=2 then[99,97,115,101]else[105,116,101,109]))),O,O,O,O,O,O,O,O,O,O,O,O,O,O,O,O,O,O]) ?_ ?_;rotate_left
 ·refine Ad (λc=>?_) (λc=>?_)
  ·rw[if_pos c];refine Ae ?_;exact Ar _ sE ⟨rfl,rfl⟩
  ·rw[if_neg c];refine Ae ?_;exact Ar _ sE ⟨rfl,rfl⟩
 rintro env H ⟨rfl,rfl⟩;refine Ae ?_;refine AT (λenv H2=>H2=H/\env=[O,U (.agg #[.int .i64 t.kind,.int .i64 fn,.int .i64 t.part,.int .i64 cn,.int .i64 rn,.int .i64 sn]),O,U (.pointer (U ⟨b,0,O⟩)),U (.string (str (Dh t.kind))),O,O,O,O,O,O,O,O,O,O,O,O,O,O,O,O,O,O]) ?_ ?_;rotate_left
 ·rw[<-hkn];refine Ad (λc=>?_) (λc=>?_)
  ·rw[if_pos c];refine Ae ?_;exact Ar _ sE ⟨rfl,rfl⟩
  ·rw[if_neg c];refine Ae ?_;exact Ar _ sE ⟨rfl,rfl⟩
 rintro env H ⟨rfl,rfl⟩;refine Ek @haa1 @haa3 @B1 @B3 ?_;refine Aa H85 ⟨fn,rfl,oM,λh3 hle3=>?_⟩;refine Cb (AE hle3) ?_;refine Ae ?_;refine Aa H179 ⟨cn,a.cd,rfl,oM,oM,λh4 hle4=>?_⟩;refine Ae ?_;refine CX (AE (hle3.trans hle4)) ?_;refine Ae ?_;refine Aa H179 ⟨rn,a.rd,rfl,oM,oM,λh5 hle5=>?_⟩;refine Ae ?_;refine CX (AE (hle3.trans (hle4.trans hle5))) ?_;refine Ae ?_;refine Aa H85 ⟨sn,rfl,oM,λh6 hle6=>?_⟩;have:=hK h6 (hle2.trans (hle3.trans (hle4.trans (hle5.trans hle6))));refine Ae ?_;simp only[Zy,Y7,YI];exact this
def S180 (T:Heap):Spec:=λargs h K=>∃ s,∃c:UInt8,args=[.string (str s),.string (str [c])]/\s.length<=1000000/\Heap.le T h/\∀ h',Heap.le h h'->K (.tuple #[.string (str (B5 c s)),.string (str (Ct c s)),.bool (decide (c∈s))]) h'
def S181 (T:Heap):Spec:=λargs h K=>∃ s,∃c:UInt8,args=[.string (str s),.string (str [c])]/\s.length<=1000000/\Heap.le T h/\∀ v h',AQ AB 1 h h' v (CI c s)->K v h'
theorem TT (c:UInt8) (s:List UInt8):(Ct c s).length<=s.length:=by
 unfold Ct;rw[ZO];have:=(List.dropWhile_sublist (λx=>decide (x≠c)) (l:=s)).length_le;omega
theorem B6 {c:UInt8}:∀ {s:List UInt8},∀w∈CI c s,w.length<=s.length:=by
 intro s;induction s with
 |nil=>intro w hw;simp[CI]at hw;subst hw;simp
 |cons x r ih=>
  intro w hw;unfold CI at hw;split at hw
  ·rw[X5]at hw;rcases hw with rfl|hw
   ·simp
   ·have:=ih w hw;simp;omega
  ·split at hw
   ·rename_i hp;exact absurd hp (J2 c r)
   ·rename_i p q hp;rw[hp]at ih;rw[X5]at hw;rcases hw with rfl|hw
    ·have:=ih p (by simp);simp;omega
    ·have:=ih w (by simp[hw]);simp;omega
theorem JC (c:UInt8):∀ (s:List UInt8),(CI c s).length<=s.length+1:=by
 intro s;induction s with
 |nil=>simp[CI]
 |cons x r ih=>
  unfold CI;split
  ·simp;omega
  ·split
   ·simp
   ·rename_i p q hp;rw[hp]at ih;simp at ih ⊢;omega
def FN (s:List UInt8):Nat->Nat
 |0=>0
 |k+1=>if Dh ((k+1:Nat):Int)=s then k+1 else FN s k
theorem Ni {k:Int} (h1:1<=k) (h2:k<=3):((FN (Dh k) 3:Nat):Int)=k:=by
 have hk:k=1\/k=2\/k=3:=oM;rcases hk with rfl|rfl|rfl<;>rfl
def VC (s:List UInt8):Tg:=let w:=CI 46 (Ct 58 s);⟨(FN (B5 58 s) 3:Nat),(Az (w.getD 0 []):Nat),6-((w.getD 1 []).length:Nat),(Az (w.getD 1 []):Nat),(Az (w.getD 2 []):Nat),(Az (w.getD 3 []):Nat)⟩
theorem LG {n:Nat} (h:(Bo n).length<=8):Gv (Bo n):=⟨DI n,h,CB n⟩
theorem Lm {n w:Nat} (h:(D0 n w).length=w) (hw:w<=8):Gv (D0 n w):=⟨L9 n w,oM,E3 n w⟩
theorem Ul {t:Tg} {s:List UInt8} (h:¬ t.bad) (hs:Bc t=s):(CI 46 (Ct 58 s)).length=4/\(∀j,j<4->Gv ((CI 46 (Ct 58 s)).getD j []))/\t=VC s:=by
 subst hs;obtain⟨a,ha,e1,e2,_,e3,l1,l2,l3,l4,hp,hc6,hr6,n1,n2,n3,n4,k1,k2⟩:=GZ h;unfold VC;rw[e2,e3,e1];refine⟨rfl,λj hj=>?_,?_⟩
 ·have:j=0\/j=1\/j=2\/j=3:=oM;rcases this with rfl|rfl|rfl|rfl
  ·exact LG l1
  ·exact Lm l2 oM
  ·exact Lm l3 oM
  ·exact LG l4
 ·cases t;dsimp only at *;simp only[Z6,Z8,Tg.mk.injEq];exact⟨(Ni k1 k2).symm,n1.symm,by rw[l2];exact hp,n2.symm,n3.symm,n4.symm⟩
def HR (ns:List Nat) (i:Nat):List Value:=(ns.take i++Z7 (4-i) 0).map λ(n:Nat)=>.int .i64 (n:Nat)
theorem NY {ns:List Nat} (h:ns.length=4) {i:Nat} (hi:i<=4):(HR ns i).length=4:=by simp[HR];omega
theorem NX {ns:List Nat} (h:ns.length=4) {i:Nat} (hi:i<4):(HR ns i).take i++[Value.int .i64 (ns.getD i 0:Nat)]++(HR ns i).drop (i+1)=HR ns (i+1):=by
 unfold HR;rw[Ai 0 oM];obtain⟨a,b,c,d,rfl⟩:∃ a b c d,ns=[a,b,c,d]:=by
  match ns,h with
  |[a,b,c,d],_=>exact⟨a,b,c,d,rfl⟩
 have:i=0\/i=1\/i=2\/i=3:=oM;rcases this with rfl|rfl|rfl|rfl<;>rfl
theorem LO {ns:List Nat} (h:ns.length=4):HR ns 4=[.int .i64 (ns.getD 0 0:Nat),.int .i64 (ns.getD 1 0:Nat),.int .i64 (ns.getD 2 0:Nat),.int .i64 (ns.getD 3 0:Nat)]:=by
 match ns,h with
 |[a,b,c,d],_=>rfl
def S165 (T:Heap) (N:Num):Spec:=λargs h K=>∃ s,args=[.string (str s)]/\s.length<=1000000/\Heap.le T h /\
 (∀t:Tg,¬t.bad->Bc t=s->∀ h',Heap.le h h'->K (.tuple #[Co t,.nilIface]) h')/\((∀t:Tg,¬t.bad->Bc t≠s)->∀ h',Heap.le h h'->K (.tuple #[Co Tg.zero,Cm N 4]) h')
theorem F165_ok {N:Num} {Γ:Ctx} [Ak Γ] {T:Heap} (H180:Sat (S180 T) (Γ 180)) (H181:Sat (S181 T) (Γ 181)) (H182:Sat S182 (Γ 182)) (H177:Sat S177 (Γ 177)) (H163:Sat (S163 T N) (Γ 163)):Sat (S165 T N) (SF N Γ F165):=by
 rintro _ h K ⟨s,rfl,hsl,hT,hK1,hK2⟩;simp only[Aq,Co,Tg.zero]at hK1 hK2;refine An rfl ?_;simp only[F165,Ze,Nat.reduceSub,Nat.reduceAdd];have hct:=TT 58 s;refine Ae ?_;refine Aa H180 ⟨s,58,rfl,hsl,hT,λh1 hle1=>?_⟩;refine Ae ?_;refine Aa H181 ⟨Ct 58 s,46,rfl,oM,hT.trans hle1,λv h2 ho2=>?_⟩;have hle2:=ho2.1;have hS:=ho2.sl (enc:=AB) (λ_=>rfl);have hwm:=B6 (c:=46) (s:=Ct 58 s);have htag:∀ t:Tg,¬t.bad->Bc t=s->_:=λt h1 h2=>Ul h1 h2;obtain⟨w,hw⟩:∃ w,w=CI 46 (Ct 58 s):=⟨_,rfl⟩
 obtain⟨hd,hhd⟩:∃ hd,hd=B5 58 s:=⟨_,rfl⟩
 have htr:VC s=⟨(FN hd 3:Nat),(Az (w.getD 0 []):Nat),6-((w.getD 1 []).length:Nat),(Az (w.getD 1 []):Nat),(Az (w.getD 2 []):Nat),(Az (w.getD 3 []):Nat)⟩:=by rw[hw,hhd];rfl
 rw[htr]at htag;rw[<-hw]at hS hwm htag;clear ho2 htr;have R:=hS.rules1 (λt=>.string (str t)) (λ_=>rfl) default;refine Ap @R ?_;rw[<-hhd];refine Ad (λc1=>?_) (λc1=>?_)
 ·refine Ae ?_;refine hK2 (λt hb ht=>?_) h2 (hle1.trans hle2);have:=(htag t hb ht).1;omega
 have hwl:w.length=4:=oM;rw[hwl]at R;refine Ap @R ?_;refine AO λb6 h3 hle3 hb6 ho6=>?_;obtain⟨ns,hns⟩:∃ ns:List Nat,ns=w.map Az:=⟨_,rfl⟩
 have hnl:ns.length=4:=by rw[hns];simpa using hwl
 have hnd:∀ j,j<4->ns.getD j 0=Az (w.getD j []):=by
  intro j hj;rw[hns,Zp,Zp,Aae,Zj oM];rfl
 have ho6':Ah h3 ⟨b6,0,O⟩ (HR ns 0):=ho6.le (Au _ _);have R3:=(hS.le hle3).rules1 (λt=>.string (str t)) (λ_=>rfl) default;rw[hwl]at R3;refine Ap @R3 ?_;refine AA (λenv H=>Heap.le h2 H/\Ah H ⟨b6,0,O⟩ (HR ns 4)/\(∀j,j<4->Gv (w.getD j []))/\env=[U (.string (str s)),U (.agg #[.int .i64 0,.int .i64 0,.int .i64 0,.int .i64 0,.int .i64 0,.int .i64 0]),O,U (.string (str hd)),O,U v,U (.pointer (U ⟨b6,0,O⟩)),O,O,O,O,O,O,O,O,O,O,O,O,O,O,O,O,O,O,O,O,O,O,O,O,O,O,O]) ?_ ?_;rotate_left
 ·refine Aj (λi:Nat=>[U (.string (str s)),U (.agg #[.int .i64 0,.int .i64 0,.int .i64 0,.int .i64 0,.int .i64 0,.int .i64 0]),O,U (.string (str hd)),O,U v,U (.pointer (U ⟨b6,0,O⟩)),O,O,O,O,O,O,O,O,O,O,O,O,U v,U (.int .i64 4),U (.int .i64 (i:Nat)),O,O,O,O,O,O,O,O,O,O,O,O])
   (λi H=>Heap.le h2 H/\i<=4/\Ah H ⟨b6,0,O⟩ (HR ns i)/\∀ j,j<i->Gv (w.getD j [])) (λi=>4-i) 0 (by try simp only[Pf];simp) ⟨hle3,oM,ho6',λj hj=>by omega⟩ ?_
  rintro i H ⟨hle,hi,ho,hok⟩;have RH:=(hS.le hle).rules1 (λt=>.string (str t)) (λ_=>rfl) default;rw[hwl]at RH;refine Ae ?_;refine Ad (λc2=>?_) (λc2=>?_);rotate_left
  ·have:i=4:=oM;subst this;refine Ae ?_;exact Ar _ sE ⟨hle,ho,hok,rfl⟩
  have A5:i<4:=oM;have hwi:=wS i;have hwd:w.getD i default=w.getD i []:=rfl;have hm:=hwm _ (As [] (show i<w.length by omega));have hnd':=hnd i A5;refine AH @RH @hwd ?_;refine Aa H182 ⟨w.getD i [],rfl,oM,?_⟩;by_cases hnum:Gv (w.getD i []);rotate_left
  ·rw[if_neg hnum,decide_eq_false hnum];refine Ae ?_;refine hK2 (λt hb ht=>?_) H (hle1.trans (hle2.trans hle));exact hnum ((htag t hb ht).2.1 i A5)
  rw[if_pos hnum,decide_eq_true hnum,<-hnd'];have hput:=NX hnl A5;have hal:=NY hnl hi;have haa:∀ h (k:IntKind),A8 h (.aadr 4 1) (.v (.pointer (U ⟨b6,0,O⟩))) (.v (.int k (i:Nat)))=U (.v (.pointer (U ((⟨b6,0,O⟩:Addr).add i)))):=λh k=>by
   have:=P3.2.2.1 h 4 1 ⟨b6,0,O⟩ k (i:Nat) oM oM;simpa using this
  refine Ap @haa ?_;refine Br ho i 1 rfl rfl oM oM λo hob _=>?_;have hob2:Ah (H.set b6 o) ⟨b6,0,O⟩ (HR ns (i+1)):=by rw[<-hput];exact hob H rfl
  have hle4:Heap.le h2 (H.set b6 o):=hle.over hb6 o;generalize H.set b6 o=H2 at *;refine Ap @hwi ?_;refine Ag (i+1) oM sE ⟨hle4,oM,hob2,λj hj=>?_⟩;by_cases hji:j=i
  ·rw[hji];exact hnum
  ·exact hok j oM
 rintro env H ⟨hle,ho,hok,rfl⟩;rw[LO hnl,hnd 0 oM,hnd 1 oM,hnd 2 oM,hnd 3 oM]at ho;have RH:=(hS.le hle).rules1 (λt=>.string (str t)) (λ_=>rfl) default;rw[hwl]at RH;have hwd:w.getD 1 default=w.getD 1 []:=rfl;have hm1:=hwm _ (As [] (show 1<w.length by omega));have hw6:IntKind.i64.wrap (6-((w.getD 1 []).length:Nat))=6-((w.getD 1 []).length:Nat):=BC oM oM;have B0:H.cell ⟨b6,0,O⟩=U (.int .i64 (Az (w.getD 0 []):Nat)):=ho.rules.2.1 (by simp);have B1:H.cell ((⟨b6,0,O⟩:Addr).add 1)=U (.int .i64 (Az (w.getD 1 []):Nat)):=ho.rules.1 1 (by simp);have B2:H.cell ((⟨b6,0,O⟩:Addr).add 2)=U (.int .i64 (Az (w.getD 2 []):Nat)):=ho.rules.1 2 (by simp);have B3:H.cell ((⟨b6,0,O⟩:Addr).add 3)=U (.int .i64 (Az (w.getD 3 []):Nat)):=ho.rules.1 3 (by simp);have A0:∀ h (k:IntKind),A8 h (.aadr 4 1) (.v (.pointer (U ⟨b6,0,O⟩))) (.v (.int k 0))=U (.v (.pointer (U ⟨b6,0,O⟩))):=λh k=>rfl;have A1:∀ h (k:IntKind),A8 h (.aadr 4 1) (.v (.pointer (U ⟨b6,0,O⟩))) (.v (.int k 1))=U (.v (.pointer (U ((⟨b6,0,O⟩:Addr).add 1)))):=λh k=>rfl;have A2:∀ h (k:IntKind),A8 h (.aadr 4 1) (.v (.pointer (U ⟨b6,0,O⟩))) (.v (.int k 2))=U (.v (.pointer (U ((⟨b6,0,O⟩:Addr).add 2)))):=λh k=>rfl;have A3:∀ h (k:IntKind),A8 h (.aadr 4 1) (.v (.pointer (U ⟨b6,0,O⟩))) (.v (.int k 3))=U (.v (.pointer (U ((⟨b6,0,O⟩:Addr).add 3)))):=λh k=>rfl;refine Xt @RH @hwd @hw6 @A0 @A1 @A2 @A3 @B0 @B1 @B2 @B3 ?_;refine AO λb11 h4 hle4 hb11 ho11=>?_;refine Cb (AE hle4) ?_;refine Ae ?_;refine Br (ho11.le (Au H h4)) 0 6 rfl rfl oM (Yq 6) λo hob _=>?_;have ho5:Ah (h4.set b11 o) ⟨b11,0,O⟩ [.int .i64 (FN hd 0:Nat),.int .i64 (Az (w.getD 0 []):Nat),.int .i64 (6-((w.getD 1 []).length:Nat)),.int .i64 (Az (w.getD 1 []):Nat),.int .i64 (Az (w.getD 2 []):Nat),.int .i64 (Az (w.getD 3 []):Nat)]:=hob h4 rfl;have hle5:Heap.le H (h4.set b11 o):=IF.le (b:=b11) hle4 hb11 λx hx=>ZW hx;have hle05:Heap.le h (h4.set b11 o):=hle1.trans (hle2.trans (hle.trans hle5));generalize h4.set b11 o=h5 at *;have hb11h:h b11=O:=AC (hle1.trans (hle2.trans hle)) b11 hb11;clear ho11 hob B0 B1 B2 B3 RH ho ho6 ho6' R R3;refine Ae ?_;refine AA (λenv H=>Heap.le h H/\Ah H ⟨b11,0,O⟩ [.int .i64 (FN hd 3:Nat),.int .i64 (Az (w.getD 0 []):Nat),.int .i64 (6-((w.getD 1 []).length:Nat)),.int .i64 (Az (w.getD 1 []):Nat),.int .i64 (Az (w.getD 2 []):Nat),.int .i64 (Az (w.getD 3 []):Nat)]/\env=[U (.string (str s)),U (.agg #[.int .i64 0,.int .i64 0,.int .i64 0,.int .i64 0,.int .i64 0,.int .i64 0]),O,U (.string (str hd)),O,O,O,O,O,O,O,U (.pointer (U ⟨b11,0,O⟩)),O,O,O,O,O,O,O,O,O,O,O,O,O,O,O,O,O,O,O,O,O,O]) ?_ ?_;rotate_left
 ·refine Aj (λk:Nat=>[U (.string (str s)),U (.agg #[.int .i64 0,.int .i64 0,.int .i64 0,.int .i64 0,.int .i64 0,.int .i64 0]),O,U (.string (str hd)),O,O,O,O,O,O,O,U (.pointer (U ⟨b11,0,O⟩)),U (.int .i64 (k+1:Nat)),O,O,O,O,O,O,O,O,O,O,O,O,O,O,O,O,O,O,O,O,O]) (λk H=>Heap.le h H/\k<=3/\Ah H ⟨b11,0,O⟩ [.int .i64 (FN hd k:Nat),.int .i64 (Az (w.getD 0 []):Nat),.int .i64 (6-((w.getD 1 []).length:Nat)),.int .i64 (Az (w.getD 1 []):Nat),.int .i64 (Az (w.getD 2 []):Nat),.int .i64 (Az (w.getD 3 []):Nat)]) (λk=>3-k) 0 (by try simp only[Pf];rfl) ⟨hle05,oM,ho5⟩ ?_;rintro k H ⟨hle,hk,ho⟩;have hwk:IntKind.i64.wrap (((k+1:Nat):Int)+1)=((k+1+1:Nat):Int):=wN;refine Ae ?_;refine Ad (λc2=>?_) (λc2=>?_);rotate_left
  ·have:k=3:=oM;subst this;refine Ae ?_;exact Ar _ sE ⟨hle,ho,rfl⟩
  have hk2:k<3:=oM;refine Ae ?_;refine Aa H177 ⟨((k+1:Nat):Int),rfl,oM,oM,?_⟩;refine Ae ?_;refine Ad (λc3=>?_) (λc3=>?_)
  ·refine Ae ?_;refine Br ho 0 1 rfl rfl oM (by simp) λo hob _=>?_;have hob2:Ah (H.set b11 o) ⟨b11,0,O⟩ [.int .i64 (FN hd (k+1):Nat),.int .i64 (Az (w.getD 0 []):Nat),.int .i64 (6-((w.getD 1 []).length:Nat)),.int .i64 (Az (w.getD 1 []):Nat),.int .i64 (Az (w.getD 2 []):Nat),.int .i64 (Az (w.getD 3 []):Nat)]:=by
    have:=hob H rfl;simp only[FN,if_pos c3];exact this
   have hle6:Heap.le h (H.set b11 o):=hle.over hb11h o;generalize H.set b11 o=H2 at *;refine Ap @hwk ?_;exact Ag (k+1) oM sE ⟨hle6,oM,hob2⟩
  ·have e:FN hd (k+1)=FN hd k:=by simp only[FN,if_neg c3]
   refine Ap @hwk ?_;exact Ag (k+1) oM sE ⟨hle,oM,by rw[e];exact ho⟩
 rintro env H ⟨hle,ho,rfl⟩;have hrow:=ho.rules.2.2;simp only[Y5,ZR,Nat.reduceAdd]at hrow;obtain⟨t,ht⟩:∃ t:Tg,t=⟨(FN hd 3:Nat),(Az (w.getD 0 []):Nat),6-((w.getD 1 []).length:Nat),(Az (w.getD 1 []):Nat),(Az (w.getD 2 []):Nat),(Az (w.getD 3 []):Nat)⟩:=⟨_,rfl⟩
 rw[<-ht]at htag;have hrow2:H.row ⟨b11,0,O⟩ 6=U #[.int .i64 t.kind,.int .i64 t.filter,.int .i64 t.part,.int .i64 t.company,.int .i64 t.ref,.int .i64 t.serial]:=by rw[ht];exact hrow
 clear hrow;refine Ap @hrow2 ?_;refine Aa H163 ⟨t,rfl,hT.trans hle,λhb h6 hle6=>?_,λhb h6 hle6=>?_⟩
 ·refine Ap @Aq ?_;refine hK2 (λt' hb' ht'=>?_) h6 (hle.trans hle6);rw[(htag t' hb' ht').2.2]at hb';exact hb' hb
 ·have hrow3:h6.row ⟨b11,0,O⟩ 6=U #[.int .i64 t.kind,.int .i64 t.filter,.int .i64 t.part,.int .i64 t.company,.int .i64 t.ref,.int .i64 t.serial]:=EB hle6 hrow2;refine Ae ?_;refine Ad (λc4=>?_) (λc4=>?_)
  ·refine Ae ?_;refine hK2 (λt' hb' ht'=>?_) h6 (hle.trans hle6);rw[(htag t' hb' ht').2.2]at ht';exact c4 ht'
  ·refine Ap @hrow3 ?_;exact hK1 t hb (Decidable.not_not.1 c4) h6 (hle.trans hle6)
def M9 (w:List (List UInt8)) (k p:Nat):Tg:=⟨(k:Nat),(Az (w.getD 0 []):Nat),(p:Nat),(Az (w.getD 1 []):Nat),(Az (w.getD 2 []):Nat),(Az (w.getD 3 []):Nat)⟩
theorem Uv {t:Tg} {s:List UInt8} (h:¬ t.bad) (hs:Bc t=s):(CI 58 s).length=2/\(CI 46 ((CI 58 s).getD 1 [])).length=4/\(∀j,j<4->CJ ((CI 46 ((CI 58 s).getD 1 [])).getD j [])/\(CI 46 ((CI 58 s).getD 1 [])).getD j []≠[]) /\
  ∃ k p:Nat,1<=k/\k<=3/\p<6/\t=M9 (CI 46 ((CI 58 s).getD 1 [])) k p:=by
 subst hs;obtain⟨a,ha,e1,e2,e4,e3,l1,l2,l3,l4,hp,hc6,hr6,n1,n2,n3,n4,k1,k2⟩:=GZ h;have hpa:=AW ha;have hp6:0<=t.part/\t.part<6:=oM;rw[e4];simp only[Z6,Z8,e3];refine⟨rfl,rfl,λj hj=>?_,t.kind.toNat,t.part.toNat,oM,oM,oM,?_⟩
 ·have:j=0\/j=1\/j=2\/j=3:=oM;rcases this with rfl|rfl|rfl|rfl
  ·exact⟨⟨by simp only[Z6];omega,CB _⟩,DI _⟩
  ·exact⟨⟨by simp only[Z6,Z8];omega,E3 _ _⟩,L9 _ _⟩
  ·exact⟨⟨by simp only[Z6,Z8];omega,E3 _ _⟩,L9 _ _⟩
  ·exact⟨⟨by simp only[Z6,Z8];omega,CB _⟩,DI _⟩
 ·unfold M9;cases t;dsimp only at *;simp only[Z6,Z8,Tg.mk.injEq];exact⟨oM,n1.symm,oM,n2.symm,n3.symm,n4.symm⟩
def S166:Spec:=λargs h K=>∃ s,args=[.string (str s)]/\s.length<=1000000 /\
 (∀t:Tg,¬t.bad->Bc t=s->∀ h',Heap.le h h'->K (.tuple #[Co t,.bool true]) h')/\((∀t:Tg,¬t.bad->Bc t≠s)->∀ h',Heap.le h h'->K (.tuple #[Co Tg.zero,.bool false]) h')
theorem F166_ok {N:Num} {Γ:Ctx} [Ak Γ] (H183:Sat S183 (Γ 183)) (H184:Sat S184 (Γ 184)) (H128:Sat S128 (Γ 128)) (H164:Sat S164 (Γ 164)):Sat S166 (SF N Γ F166):=by
 rintro _ h K ⟨s,rfl,hsl,hK1,hK2⟩;simp only[Co,Tg.zero]at hK1 hK2;refine An rfl ?_;simp only[F166,Ze,Nat.reduceSub,Nat.reduceAdd];have htag:∀ t:Tg,¬t.bad->Bc t=s->_:=λt h1 h2=>Uv h1 h2;have h58:((58:UInt8).toNat:Int)=58:=rfl;have h46:((46:UInt8).toNat:Int)=46:=rfl;refine Ae ?_;refine Aa H183 ⟨s,58,rfl,hsl,λv3 h1 ho1=>?_⟩;have hle1:=ho1.1;have hS1:=ho1.sl (enc:=AB) (λ_=>rfl);have hm1:=B6 (c:=58) (s:=s);obtain⟨w1,hw1⟩:∃ w,w=CI 58 s:=⟨_,rfl⟩
 rw[<-hw1]at hS1 hm1 htag;clear ho1;have R1:=hS1.rules1 (λt=>.string (str t)) (λ_=>rfl) default;refine Ap @R1 ?_;refine Ad (λc1=>?_) (λc1=>?_)
 ·refine Ae ?_;refine hK2 (λt hb ht=>?_) h1 hle1;have:=(htag t hb ht).1;omega
 have hwl1:w1.length=2:=oM;rw[hwl1]at R1;have hd1:w1.getD 1 default=w1.getD 1 []:=rfl;have hm11:=hm1 _ (As [] (show 1<w1.length by omega));refine AH @R1 @hd1 ?_;refine Aa H183 ⟨w1.getD 1 [],46,rfl,oM,λv4 h2 ho2=>?_⟩;have hle2:=ho2.1;have hS:=ho2.sl (enc:=AB) (λ_=>rfl);have hwm:=B6 (c:=46) (s:=w1.getD 1 []);obtain⟨w,hw⟩:∃ w,w=CI 46 (w1.getD 1 []):=⟨_,rfl⟩
 rw[<-hw]at hS hwm htag;clear ho2;have R:=hS.rules1 (λt=>.string (str t)) (λ_=>rfl) default;refine Ap @R ?_;refine Ad (λc1=>?_) (λc1=>?_)
 ·refine Ae ?_;refine hK2 (λt hb ht=>?_) h2 (hle1.trans hle2);have:=(htag t hb ht).2.1;omega
 have hwl:w.length=4:=oM;rw[hwl]at R;refine Ap @R ?_;refine AO λb6 h3 hle3 hb6 ho6=>?_;obtain⟨ns,hns⟩:∃ ns:List Nat,ns=w.map Az:=⟨_,rfl⟩
 have hnl:ns.length=4:=by rw[hns];simpa using hwl
 have hnd:∀ j,j<4->ns.getD j 0=Az (w.getD j []):=by
  intro j hj;rw[hns,Zp,Zp,Aae,Zj oM];rfl
 have ho6':Ah h3 ⟨b6,0,O⟩ (HR ns 0):=ho6.le (Au _ _);have R3:=(hS.le hle3).rules1 (λt=>.string (str t)) (λ_=>rfl) default;rw[hwl]at R3;refine Ap @R3 ?_;refine AA (λenv H=>Heap.le h2 H/\Ah H ⟨b6,0,O⟩ (HR ns 4)/\(∀j,j<4->CJ (w.getD j [])/\w.getD j []≠[])/\env=[U (.string (str s)),U (.agg #[.int .i64 0,.int .i64 0,.int .i64 0,.int .i64 0,.int .i64 0,.int .i64 0]),O,O,O,U (.pointer (U ⟨b6,0,O⟩)),O,O,O,O,O,O,O,O,O,O,O,O,O,O,O,O,O,O,O,O]) ?_ ?_;rotate_left
 ·refine Aj (λi:Nat=>[U (.string (str s)),U (.agg #[.int .i64 0,.int .i64 0,.int .i64 0,.int .i64 0,.int .i64 0,.int .i64 0]),O,O,U (v4),U (.pointer (U ⟨b6,0,O⟩)),U (.int .i64 (i:Nat)),O,O,O,O,O,O,O,O,O,O,O,O,O,O,O,O,O,O,O])
   (λi H=>Heap.le h2 H/\i<=4/\Ah H ⟨b6,0,O⟩ (HR ns i)/\∀ j,j<i->CJ (w.getD j [])/\w.getD j []≠[]) (λi=>4-i) 0 (by try simp only[Pf];simp) ⟨hle3,oM,ho6',λj hj=>by omega⟩ ?_
  rintro i H ⟨hle,hi,ho,hok⟩;have RH:=(hS.le hle).rules1 (λt=>.string (str t)) (λ_=>rfl) default;rw[hwl]at RH;refine Ae ?_;refine Ad (λc2=>?_) (λc2=>?_);rotate_left
  ·have:i=4:=oM;subst this;refine Ae ?_;exact Ar _ sE ⟨hle,ho,hok,rfl⟩
  have A5:i<4:=oM;have hwi:=wS i;have hwd:w.getD i default=w.getD i []:=rfl;have hm:=hwm _ (As [] (show i<w.length by omega));have hnd':=hnd i A5;refine AH @RH @hwd ?_;refine Aa H184 ⟨w.getD i [],rfl,oM,?_⟩;by_cases hnum:CJ (w.getD i [])/\w.getD i []≠[];rotate_left
  ·rw[decide_eq_false hnum];refine Ae ?_;refine hK2 (λt hb ht=>?_) H (hle1.trans (hle2.trans hle));exact hnum ((htag t hb ht).2.2.1 i A5)
  rw[if_pos hnum.1,decide_eq_true hnum,<-hnd'];have hput:=NX hnl A5;have hal:=NY hnl hi;have haa:∀ h (k:IntKind),A8 h (.aadr 4 1) (.v (.pointer (U ⟨b6,0,O⟩))) (.v (.int k (i:Nat)))=U (.v (.pointer (U ((⟨b6,0,O⟩:Addr).add i)))):=λh k=>by
   have:=P3.2.2.1 h 4 1 ⟨b6,0,O⟩ k (i:Nat) oM oM;simpa using this
  refine Ap @haa ?_;refine Br ho i 1 rfl rfl oM oM λo hob _=>?_;have hob2:Ah (H.set b6 o) ⟨b6,0,O⟩ (HR ns (i+1)):=by rw[<-hput];exact hob H rfl
  have hle4:Heap.le h2 (H.set b6 o):=hle.over hb6 o;generalize H.set b6 o=H2 at *;refine Ap @hwi ?_;refine Ag (i+1) oM sE ⟨hle4,oM,hob2,λj hj=>?_⟩;by_cases hji:j=i
  ·rw[hji];exact hnum
  ·exact hok j oM
 rintro env H0 ⟨hle,ho,hok,rfl⟩;rw[LO hnl,hnd 0 oM,hnd 1 oM,hnd 2 oM,hnd 3 oM]at ho;have hnm:∀ j,j<4->Az (w.getD j [])<=1000000000:=by
  intro j hj;have h1:=G8 (hok j hj).1.2;have h2:10^(w.getD j []).length<=10^9:=ZZ oM (hok j hj).1.1;omega
 have m0:=hnm 0 oM;have m1:=hnm 1 oM;have m2:=hnm 2 oM;have m3:=hnm 3 oM;have A0:∀ h (k:IntKind),A8 h (.aadr 4 1) (.v (.pointer (U ⟨b6,0,O⟩))) (.v (.int k 0))=U (.v (.pointer (U ⟨b6,0,O⟩))):=λh k=>rfl;have A1:∀ h (k:IntKind),A8 h (.aadr 4 1) (.v (.pointer (U ⟨b6,0,O⟩))) (.v (.int k 1))=U (.v (.pointer (U ((⟨b6,0,O⟩:Addr).add 1)))):=λh k=>rfl;have A2:∀ h (k:IntKind),A8 h (.aadr 4 1) (.v (.pointer (U ⟨b6,0,O⟩))) (.v (.int k 2))=U (.v (.pointer (U ((⟨b6,0,O⟩:Addr).add 2)))):=λh k=>rfl;have A3:∀ h (k:IntKind),A8 h (.aadr 4 1) (.v (.pointer (U ⟨b6,0,O⟩))) (.v (.int k 3))=U (.v (.pointer (U ((⟨b6,0,O⟩:Addr).add 3)))):=λh k=>rfl;have hle00:Heap.le h H0:=hle1.trans (hle2.trans hle);have hdone:(∀k p,1<=k->k<=3->p<6->¬ (¬(M9 w k p).bad/\Bc (M9 w k p)=s))->∀ t:Tg,¬t.bad->Bc t≠s:=by
  intro hno t hb ht;obtain⟨k,p,q1,q2,q3,q4⟩:=(htag t hb ht).2.2.2;rw[q4]at hb ht;exact hno k p q1 q2 q3 ⟨hb,ht⟩
 clear htag hnd ho6 ho6' R R1 R3 hwm;refine Ae ?_;refine Aj (λk:Nat=>[U (.string (str s)),U (.agg #[.int .i64 0,.int .i64 0,.int .i64 0,.int .i64 0,.int .i64 0,.int .i64 0]),O,O,O,U (.pointer (U ⟨b6,0,O⟩)),O,O,O,U (.int .i64 (k:Nat)),O,O,O,O,O,O,O,O,O,O,O,O,O,O,O,O]) (λk H=>Heap.le H0 H/\1<=k/\k<=4/\∀ k' p,1<=k'->k'<k->p<6->¬ (¬(M9 w k' p).bad/\Bc (M9 w k' p)=s)) (λk=>4-k) 1 (by try simp only[Pf];rfl) ⟨ZX H0,oM,oM,λk' p h1 h2=>by omega⟩ ?_;rintro k H ⟨hleH,hk1,hk4,hno⟩;have hwk:=wS k;refine Ae ?_;refine Ad (λc2=>?_) (λc2=>?_);rotate_left
 ·have:k=4:=oM;subst this;refine Ae ?_;exact hK2 (hdone λk p h1 h2 h3=>hno k p h1 oM h3) H (hle00.trans hleH)
 have hk3:k<=3:=oM;refine Ae ?_;refine Aj (λp:Nat=>[U (.string (str s)),U (.agg #[.int .i64 0,.int .i64 0,.int .i64 0,.int .i64 0,.int .i64 0,.int .i64 0]),O,O,O,U (.pointer (U ⟨b6,0,O⟩)),O,O,O,U (.int .i64 (k:Nat)),U (.int .i64 (p:Nat)),O,O,O,O,O,O,O,O,O,O,O,O,O,O,O]) (λp H=>Heap.le H0 H/\p<=6/\∀ p',p'<p->¬ (¬(M9 w k p').bad/\Bc (M9 w k p')=s)) (λp=>6-p) 0 (by try simp only[Pf];rfl) ⟨hleH,oM,λp' h=>by omega⟩ ?_;clear hleH;rintro p H ⟨hleH,hp,hnp⟩;have hwp:=wS p;have B0:H.cell ⟨b6,0,O⟩=U (.int .i64 (Az (w.getD 0 []):Nat)):=(ho.le hleH).rules.2.1 (by simp);have B1:H.cell ((⟨b6,0,O⟩:Addr).add 1)=U (.int .i64 (Az (w.getD 1 []):Nat)):=(ho.le hleH).rules.1 1 (by simp);have B2:H.cell ((⟨b6,0,O⟩:Addr).add 2)=U (.int .i64 (Az (w.getD 2 []):Nat)):=(ho.le hleH).rules.1 2 (by simp);have B3:H.cell ((⟨b6,0,O⟩:Addr).add 3)=U (.int .i64 (Az (w.getD 3 []):Nat)):=(ho.le hleH).rules.1 3 (by simp);refine Ae ?_;refine Ad (λc3=>?_) (λc3=>?_);rotate_left
 ·have:p=6:=oM;subst this;refine Ap @hwk ?_;refine Ag (k+1) oM sE ⟨hleH,oM,oM,λk' p' h1 h2 h3=>?_⟩;by_cases e:k'=k
  ·rw[e];exact hnp p' h3
  ·exact hno k' p' h1 oM h3
 have hp6:p<6:=oM;refine Xs @A0 @A1 @A2 @A3 @B0 @B1 @B2 @B3 ?_;refine Aa H128 ⟨M9 w k p,rfl,by unfold M9;dsimp only;omega,by unfold M9;dsimp only;omega,λh5 hle5=>?_⟩;by_cases hb:(M9 w k p).bad
 ·rw[BY hb];refine Ap @hwp ?_;exact Ag (p+1) oM sE ⟨hleH.trans hle5,oM,λp' h=>by
   by_cases e:p'=p
   ·rw[e];exact λh=>h.1 hb
   ·exact hnp p' oM⟩
 rw[E0 hb];obtain⟨a,ha,_⟩:=Tg.good hb;refine Ae ?_;refine Aa H164 ⟨M9 w k p,a,rfl,ha,by unfold M9;dsimp only;omega,by unfold M9;dsimp only;omega,by unfold M9;dsimp only;omega,by unfold M9;dsimp only;omega,λh6 hle6=>?_⟩;refine Ae ?_;refine Ad (λc4=>?_) (λc4=>?_)
 ·refine Ae ?_;exact hK1 _ hb c4 h6 (hle00.trans (hleH.trans (hle5.trans hle6)))
 ·refine Ap @hwp ?_;exact Ag (p+1) oM sE ⟨hleH.trans (hle5.trans hle6),oM,λp' h=>by
   by_cases e:p'=p
   ·rw[e];exact λh=>c4 h.2
   ·exact hnp p' oM⟩
def S111:Spec:=λargs h K=>∃ a tag window need E e p,args=[.pointer (U a),.string (str tag),.int .i64 p,.int .i64 (e:Nat)]/\WL h a window need E/\1<=window/\window<=8/\(∀l∈E,∀s∈l,¬s.bad)/\e<E.length /\
 K (.tuple #[.int .i64 (BJ ((E.take (e+1)).drop (e+1-window)) tag p),.int .i64 (BW ((E.take (e+1)).drop (e+1-window)) tag p)]) h
theorem F111_ok {N:Num} {Γ:Ctx} [Ak Γ]:Sat S111 (SF N Γ F111):=by
 rintro _ h K ⟨a,tag,window,need,E,e,p,rfl,⟨ev,fv,ha,⟨vs,hv,hvl,hr⟩,hE,hEl⟩,w1,w2,hg,he,hK⟩;refine An rfl ?_;simp only[F111,Ze,Nat.reduceSub,Nat.reduceAdd];have A2:h.cell (a.add 2)=U ev:=ha.rules.1 2 (by simp);have A0:h.cell (a.add 0)=U (.int .i64 window):=ha.rules.1 0 (by simp);have A0':h.cell a=U (.int .i64 window):=ha.rules.2.1 (by simp);have R:=hv.rules1 id (λ_=>rfl) undef;rw[hvl]at R;have hw3:IntKind.i64.wrap ((e:Int)-window)=(e:Int)-window:=BC oM oM;have hw4:IntKind.i64.wrap ((e:Int)-window+1)=(e:Int)-window+1:=BC oM oM;have hmaxe:max (0:Int) ((e:Int)-window+1)=((e+1-window:Nat):Int):=oM;refine Le @A0 @A0' @hw3 @hw4 @hmaxe ?_;generalize hlo:e+1-window=lo at *;refine Aj (λs:Nat×Int×Int=>[U (.pointer (U a)),U (.string (str tag)),U (.int .i64 p),U (.int .i64 e),O,O,U (.int .i64 s.2.1),U (.int .i64 s.2.2),U (.int .i64 s.1),O,O,O,O,O,O,O,O])
  (λs h1=>Heap.le h h1/\h1=h/\lo<=s.1/\s.1<=e+1/\s.2.1=BJ ((E.take s.1).drop lo) tag p/\s.2.2=BW ((E.take s.1).drop lo) tag p) (λs=>e+1-s.1) (lo,0,0) sE ⟨ZX h,rfl,Yq _,dM,?_,?_⟩ ?_
 ·rw[ZC (by rw[Zn];omega)];rfl
 ·rw[ZC (by rw[Zn];omega)];rfl
 rintro⟨k,n,sm⟩ h1 ⟨_,rfl,hk1,hk2,hn,hs⟩;dsimp only at hk1 hk2 hn hs;refine Ae ?_;refine Ad (λc1=>?_) (λc1=>?_);rotate_left
 ·have:k=e+1:=oM;subst this;subst hn hs;refine Ae ?_;exact hK
 have hk3:k<E.length:=oM;have Rk:=(hr k hk3).rules 4 Si.enc_len default;have hle:=hEl _ (As [] hk3);have hrow:=hg _ (As [] hk3);have hsnoc:(E.take (k+1)).drop lo=(E.take k).drop lo++[E.getD k []]:=by
  rw[Ai [] hk3,Aai (by rw[Zn];omega)]
 have hb:=JT (W:=(E.take k).drop lo) (λl hl=>⟨hg l (Z4 (Aac hl)),by have:=hEl l (Z4 (Aac hl));omega⟩) tag p;have hcl:=Qq ((E.take k).drop lo) tag p;have hWl:((E.take k).drop lo).length<=1000:=by rw[ZO,Zn];omega
 have hn':(BJ ((E.take (k+1)).drop lo) tag p:Int)=n+if AN (E.getD k []) tag p then 1 else 0:=by
  rw[hsnoc,LH,hn];split<;>rfl
 have hs':BW ((E.take (k+1)).drop lo) tag p=sm+Gg (E.getD k []) tag p:=by rw[hsnoc,IJ,hs]
 rw[<-hs]at hb;generalize hrw:E.getD k []=row at *;refine Ae ?_;refine Aj (λs:Nat×Bool×Int=>[U (.pointer (U a)),U (.string (str tag)),U (.int .i64 p),U (.int .i64 e),O,O,U (.int .i64 n),U (.int .i64 s.2.2),U (.int .i64 k),U (.bool (decide (s.2.1=true))),U (.int .i64 s.1),O,O,O,O,O,O])
  (λs h2=>h2=h1/\s.1<=row.length/\(s.2.1=true↔AN (row.take s.1) tag p)/\s.2.2=sm+Gg (row.take s.1) tag p) (λs=>row.length-s.1) (0,false,sm) (by try simp only[Pf];simp) ⟨rfl,ZU _,by simp[AN],by simp[Gg]⟩ ?_
 rintro⟨i,sb,sm'⟩ h2 ⟨rfl,hi,hsb,hsm⟩;dsimp only at hi hsb hsm;refine Ek @A2 @R (@id_eq Value) @Rk ?_;refine Ad (λc2=>?_) (λc2=>?_)
 ·have A5:i<row.length:=oM;have hsp:=G4 (row.take i) (row.getD i default) tag p;have hss:=FH (row.take i) (row.getD i default) tag p;rw[<-Ai default A5]at hsp hss;have hb1:=Ge (l:=row.take i) (λs hs=>hrow s (Z4 hs)) tag p;have hti:(row.take i).length<=2000:=by rw[Zn];omega
  have hxs:=hrow _ (As default A5);simp only[Si.bad]at hxs;have hw5:IntKind.i64.wrap (sm'+(row.getD i default).strength)=sm'+(row.getD i default).strength:=BC oM oM;refine Le @A2 @R (@id_eq Value) @Rk @Si.enc.eq_1 ?_;refine Ad (λc3=>?_) (λc3=>?_)
  ·refine Ap @hw5 ?_;exact Ag (i+1,true,sm'+(row.getD i default).strength) dM (by try simp only[Pf];simp) ⟨rfl,dM,⟨λ_=>hsp.2 (.inr c3),λ_=>rfl⟩,by rw[hss,if_pos c3,hsm];dsimp only;omega⟩
  ·refine Ae ?_;exact Ag (i+1,sb,sm') dM sE ⟨rfl,dM,by rw[hsp];dsimp only;rw[hsb];simp only[c3,or_false],by rw[hss,if_neg c3,hsm];dsimp only;omega⟩
 ·have:i=row.length:=oM;subst this;rw[Z5]at hsb hsm;refine Ae ?_;have hwn:IntKind.i64.wrap (n+1)=n+1:=BC oM oM;refine Ad (λc3=>?_) (λc3=>?_)
  ·rw[if_pos (hsb.1 c3)]at hn';refine Ap @hwn ?_;exact Ag (k+1,n+1,sm') dM sE ⟨ZX _,rfl,dM,dM,by rw[hn'],by rw[hs',hsm]⟩
  ·rw[if_neg (λh=>c3 (hsb.2 h))]at hn';refine Ae ?_;exact Ag (k+1,n,sm') dM sE ⟨ZX _,rfl,dM,dM,by rw[hn'];dsimp only;omega,by rw[hs',hsm]⟩
theorem NT (need:Nat) (cnt:Int->Nat) (st:Int->Int):∀ n:Nat,(Bf need cnt st n=-1/\∀ p:Int,0<=p->p<n->cnt p<need)\/(0<=Bf need cnt st n/\Bf need cnt st n<n/\need<=cnt (Bf need cnt st n)):=by
 intro n;induction n with
 |zero=>exact .inl ⟨rfl,λp h1 h2=>absurd h1 (by simp at h2;omega)⟩
 |succ n ih=>
  simp only[Bf];split
  ·rename_i h;rcases ih with⟨h1,h2⟩|⟨h1,h2,h3⟩
   ·refine .inl ⟨h1,λp h3 h4=>?_⟩;by_cases e:p=n
    ·rw[e];exact h
    ·exact h2 p h3 oM
   ·exact .inr ⟨h1,oM,h3⟩
  ·rename_i h;split
   ·exact .inr ⟨oM,oM,oM⟩
   ·rename_i h4;rcases ih with⟨h1,h2⟩|⟨h1,h2,h3⟩
    ·omega
    ·exact .inr ⟨h1,oM,h3⟩
structure XY (who:List UInt8) (R:List (List Si)) (p:Int) (sn at_ one:Int) (single:Bool):Prop where
 cnt:at_=BJ R who p
 hn:sn=(R.filter λl=>!l.isEmpty).length
 ho:(one=-1/\∀ l∈R,l=[])\/∃ l∈R,∃s∈l,s.place=one
 sg:single=true->∀ l∈R,∀s∈l,s.place=one
structure XX (who:List UInt8) (R:List (List Si)) (row:List Si) (p:Int) (sn at_ one:Int) (single here:Bool):Prop where
 cnt:at_=BJ R who p
 hn:sn=(R.filter λl=>!l.isEmpty).length
 ho:(one=-1/\∀ l∈R++[row],l=[])\/∃ l∈R++[row],∃s∈l,s.place=one
 sg:single=true->∀ l∈R++[row],∀s∈l,s.place=one
 hr:here=true↔∃ s∈row,s.place=p
def Xp (need:Nat) (cnt:Int->Nat) (st:Int->Int) (lo hi:Int) (b:Int):Prop:=
 (b=-1/\∀ p,lo<=p->p<hi->cnt p<need)\/(lo<=b/\b<hi/\need<=cnt b/\∀ p,lo<=p->p<hi->need<=cnt p->cnt p<cnt b\/(cnt p=cnt b/\(st p<st b\/(st p=st b/\b<=p))))
theorem Xp.uniq {need:Nat} {cnt:Int->Nat} {st:Int->Int} {lo hi b c:Int} (hb:Xp need cnt st lo hi b) (hc:Xp need cnt st lo hi c):b=c:=by
 rcases hb with⟨h1,h2⟩|⟨h1,h2,h3,h4⟩<;>rcases hc with⟨g1,g2⟩|⟨g1,g2,g3,g4⟩
 ·rw[h1,g1]
 ·have:=h2 c g1 g2;omega
 ·have:=g2 b h1 h2;omega
 ·have a:=h4 c g1 g2 g3;have b:=g4 b h1 h2 h3;omega
theorem Pz (need:Nat) (cnt:Int->Nat) (st:Int->Int):∀ n:Nat,Xp need cnt st 0 n (Bf need cnt st n):=by
 intro n;induction n with
 |zero=>exact .inl ⟨rfl,λp h1 h2=>by simp at h2;omega⟩
 |succ n ih=>
  simp only[Bf];split
  ·rename_i h;rcases ih with⟨h1,h2⟩|⟨h1,h2,h3,h4⟩
   ·refine .inl ⟨h1,λp h3 h4=>?_⟩;by_cases e:p=n
    ·rw[e];exact h
    ·exact h2 p h3 oM
   ·refine .inr ⟨h1,oM,h3,λp h5 h6 h7=>?_⟩;by_cases e:p=n
    ·rw[e]at h7;omega
    ·exact h4 p h5 oM h7
  ·rename_i h;split
   ·rename_i h5;refine .inr ⟨oM,oM,oM,λp h6 h7 h8=>?_⟩;by_cases e:p=n
    ·rw[e];exact .inr ⟨rfl,.inr ⟨rfl,AaJ _⟩⟩
    ·rcases ih with⟨h1,h2⟩|⟨h1,h2,h3,h4⟩
     ·have:=h2 p h6 oM;omega
     ·have:=h4 p h6 oM h8;omega
   ·rename_i h5;rcases ih with⟨h1,h2⟩|⟨h1,h2,h3,h4⟩
    ·omega
    ·refine .inr ⟨h1,oM,h3,λp h6 h7 h8=>?_⟩;by_cases e:p=n
     ·rw[e];omega
     ·exact h4 p h6 oM h8
def S86:Spec:=λargs h K=>∃ a tag window need E e,args=[.pointer (U a),.string (str tag),.int .i64 (e:Nat)]/\WL h a window need E/\1<=window/\window<=8/\1<=need/\(∀l∈E,∀s∈l,¬s.bad)/\e<E.length /\
 K (.int .i64 (Iy window need (E.take (e+1)) tag)) h
theorem F86_ok {N:Num} {Γ:Ctx} [Ak Γ] (H111:Sat S111 (Γ 111)):Sat S86 (SF N Γ F86):=by
 rintro _ h K ⟨a,tag,window,need,E,e,rfl,hR,w1,w2,n1,hg,he,hK⟩;refine An rfl ?_;simp only[F86,Ze,Nat.reduceSub,Nat.reduceAdd];have A1:h.cell (a.add 1)=U (.int .i64 need):=by obtain⟨ev,fv,ha,_⟩:=hR;exact ha.rules.1 1 (by simp)
 have hat:Iy window need (E.take (e+1)) tag=Bf need (BJ ((E.take (e+1)).drop (e+1-window)) tag) (BW ((E.take (e+1)).drop (e+1-window)) tag) 8:=by
  unfold Iy Xi;rw[show(E.take (e+1)).length=e+1 by rw[Zn];omega]
 have hcall:=λp (K:Value->Heap->Prop) hK=>H111 [.pointer (U a),.string (str tag),.int .i64 p,.int .i64 (e:Nat)] h K ⟨a,tag,window,need,E,e,p,rfl,hR,w1,w2,hg,he,hK⟩;rw[hat]at hK;have hbt:=Pz need (BJ ((E.take (e+1)).drop (e+1-window)) tag) (BW ((E.take (e+1)).drop (e+1-window)) tag) 8;generalize BJ ((E.take (e+1)).drop (e+1-window)) tag=cnt at *;generalize BW ((E.take (e+1)).drop (e+1-window)) tag=st at *;refine Ae ?_;refine Aj (λs:Nat×Int×Int×Int=>[U (.pointer (U a)),U (.string (str tag)),U (.int .i64 e),O,U (.int .i64 s.2.1),U (.int .i64 s.2.2.1),U (.int .i64 s.2.2.2),U (.int .i64 ((s.1:Int)-1)),O,O,O,O,O,O])
  (λs h1=>h1=h/\s.1<=8/\Xp need cnt st s.1 8 s.2.1/\(0<=s.2.1->s.2.2.1=cnt s.2.1/\s.2.2.2=st s.2.1)) (λs=>s.1) (8,-1,0,0) (by try simp only[Pf];rfl) ⟨rfl,Yq _,.inl ⟨rfl,λp h1 h2=>by dsimp only at h1;omega⟩,λh=>by dsimp only at h;omega⟩ ?_
 rintro⟨q,best,most,strong⟩ h1 ⟨rfl,hq,hB,hM⟩;dsimp only at hq hB hM;refine Ae ?_;refine Ad (λc1=>?_) (λc1=>?_);rotate_left
 ·have:q=0:=oM;subst this;refine Ae ?_;rw[hB.uniq hbt];exact hK
 obtain⟨q,rfl⟩:∃ q',q=q'+1:=⟨q-1,oM⟩
 have e1:(((q+1:Nat):Int)-1)=(q:Int):=oM;have hw:IntKind.i64.wrap ((q:Int)-1)=(q:Int)-1:=BC oM oM;rw[e1];refine Ae ?_;refine Aa (S:=λargs h' K=>∃ p,args=[.pointer (U a),.string (str tag),.int .i64 p,.int .i64 (e:Nat)]/\h'=h1/\K (.tuple #[.int .i64 (cnt p),.int .i64 (st p)]) h1) (λargs h' K ⟨p,e1,e2,hK⟩=>by subst e1 e2;exact hcall p K hK) ⟨q,rfl,rfl,?_⟩;refine Ap @A1 ?_;refine Ad (λc2=>?_) (λc2=>?_)
 ·refine Ap @hw ?_;refine Ag (q,best,most,strong) dM sE ⟨rfl,dM,?_,hM⟩;dsimp only;rcases hB with⟨h1,h2⟩|⟨h1,h2,h3,h4⟩
  ·refine .inl ⟨h1,λp h3 h4=>?_⟩;by_cases e:p=q
   ·rw[e];omega
   ·exact h2 p oM h4
  ·refine .inr ⟨oM,h2,h3,λp h5 h6 h7=>?_⟩;by_cases e:p=q
   ·rw[e]at h7;omega
   ·exact h4 p oM h6 h7
 ·refine Ae ?_;refine Ad (λc3=>?_) (λc3=>?_)
  ·refine Ap @hw ?_;refine Ag (q,q,cnt q,st q) dM sE ⟨rfl,dM,.inr ⟨AaJ _,dM,dM,λp h5 h6 h7=>?_⟩,λ_=>⟨rfl,rfl⟩⟩;dsimp only at h5 h6 ⊢;by_cases e:p=q
   ·rw[e];exact .inr ⟨rfl,.inr ⟨rfl,AaJ _⟩⟩
   ·rcases hB with⟨h1,h2⟩|⟨h1,h2,h3,h4⟩
    ·have:=h2 p oM h6;omega
    ·have:=h4 p oM h6 h7;obtain⟨m1,m2⟩:=hM oM;omega
  ·refine Ap @hw ?_;refine Ag (q,best,most,strong) dM sE ⟨rfl,dM,?_,hM⟩;dsimp only;rcases hB with⟨h1,h2⟩|⟨h1,h2,h3,h4⟩
   ·omega
   ·obtain⟨m1,m2⟩:=hM oM;refine .inr ⟨oM,h2,h3,λp h5 h6 h7=>?_⟩;by_cases e:p=q
    ·rw[e];omega
    ·exact h4 p oM h6 h7
def Qy (kv:List (List UInt8×Int)) (window need:Nat) (E:List (List Si)):Prop:=
 ∀ k p,look kv k=U p->∃ tag e,k=Kh tag e/\e<E.length/\p=Iy window need (E.take (e+1)) tag
structure Xl (g:Heap) (b window need:Nat) (E:List (List Si)) (ev:Value) (vs:List Value) (mp:Nat) (kv:List (List UInt8×Int)) (bs:List Nat) (ck:Nat) (g0:Heap):Prop where
 obj:Ah g ⟨b,0,O⟩ [.int .i64 window,.int .i64 need,ev,.map (U mp)]
 evs:BE Mq 1 g ev vs
 vlen:vs.length=E.length
 le0:Heap.le g0 g
 rows:∀ i,i<E.length->Sl Si.enc g0 (vs.getD i undef) (E.getD i [])
 map:Bn AF Bm g mp kv bs ck
 b0:g0 b=O
 m0:g0 mp=O
 e0:∀ x,Ao ev=U x->g0 x=O/\x≠b
 cache:Qy kv window need E
 elen:E.length<=1000
 rlen:∀ l∈E,l.length<=2000
def RT (g:Heap) (b window need:Nat) (E:List (List Si)):Prop:=∃ ev vs mp kv bs ck g0,Xl g b window need E ev vs mp kv bs ck g0
theorem Xl.read {g h:Heap} {b window need:Nat} {E:List (List Si)} {ev:Value} {vs:List Value} {mp:Nat} {kv:List (List UInt8×Int)} {bs:List Nat} {ck:Nat} {g0:Heap} (hT:Xl g b window need E ev vs mp kv bs ck g0) (hg:Heap.le g h):WL h ⟨b,0,O⟩ window need E:=
 ⟨ev,_,hT.obj.le hg,⟨vs,BE.sl (enc:=Mq) (λ_=>rfl) (hT.evs.le hg),hT.vlen,λi hi=>(hT.rows i hi).le (hT.le0.trans hg)⟩,hT.elen,hT.rlen⟩
theorem RT.read {g h:Heap} {b window need:Nat} {E:List (List Si)} (hT:RT g b window need E) (hg:Heap.le g h):WL h ⟨b,0,O⟩ window need E:=by
 obtain⟨ev,vs,mp,kv,bs,ck,g0,hT⟩:=hT;exact hT.read hg
theorem Bn.lkpoi {h:Heap} {m:Nat} {kv:List (List UInt8×Int)} {bs:List Nat} {ck:Nat} (hm:Bn AF Bm h m kv bs ck) (k:List UInt8):A8 h (.lkpo .str (.int .i64 0)) (.v (.map (U m))) (.v (.string (str k)))=U (.v (.tuple #[.int .i64 ((look kv k).getD 0),.bool (look kv k).isSome])):=by
 have:=(hm.rules .str).2.1 (.int .i64 0) k;rw[show(Value.string (str k))=AF k from rfl,this];cases look kv k<;>rfl
theorem Xl.put {g:Heap} {b window need:Nat} {E:List (List Si)} {ev:Value} {vs:List Value} {mp:Nat} {kv kv':List (List UInt8×Int)} {bs bs':List Nat} {ck ck':Nat} {g0:Heap} (hT:Xl g b window need E ev vs mp kv bs ck g0) {o:Obj}
  (hm:Bn AF Bm (g.set mp o) mp kv' bs' ck') (hc:Qy kv' window need E):Xl (g.set mp o) b window need E ev vs mp kv' bs' ck' g0:=by
 have hmp:=hT.map;have hb:b≠mp:=by
  intro e;obtain⟨_,c,t,h1,_⟩:=hT.obj;obtain⟨es,h2,_⟩:=hmp;dsimp only at h1;rw[e,h2]at h1;cases h1
 have hx:∀ x,Ao ev=U x->x≠mp:=by
  intro x hx e;obtain⟨a,cap,rfl,_,_,h3⟩:=hT.evs;rcases h3 with⟨rfl,_⟩|⟨b',c,t,rfl,h3,_⟩
  ·simp[Ao]at hx
  ·simp only[Ao,Option.some.injEq]at hx;obtain⟨es,h2,_⟩:=hmp;rw[hx,e,h2]at h3;cases h3
 exact⟨hT.obj.set_ne hb,hT.evs.same λx h=>ZW (hx x h),hT.vlen,λx ob h=>by
  have:x≠mp:=by intro e;subst e;rw[hT.m0]at h;cases h
  rw[ZW this];exact hT.le0 x ob h,hT.rows,hm,hT.b0,hT.m0,hT.e0,hc,hT.elen,hT.rlen⟩
def N9 (window need:Nat) (E:List (List Si)):Prop:=1<=window/\window<=8/\1<=need/\∀ l∈E,∀s∈l,¬s.bad
def S70:Spec:=λargs h K=>∃ g b window need E tag e,args=[.pointer (U ⟨b,0,O⟩),.string (str tag),.int .i64 (e:Nat)]/\RT g b window need E/\Heap.le g h/\N9 window need E/\tag.length<=1000000/\e<E.length /\
 ∀ g' h',Av g h g' h'->RT g' b window need E->K (.int .i64 (Iy window need (E.take (e+1)) tag)) h'
theorem F70_ok {N:Num} {Γ:Ctx} [Ak Γ] (H85:Sat S85 (Γ 85)) (H86:Sat S86 (Γ 86)):Sat S70 (SF N Γ F70):=by
 rintro _ h K ⟨g,b,window,need,E,tag,e,rfl,⟨ev,vs,mp,kv,bs,ck,g0,hT⟩,hg,⟨w1,w2,n1,hgood⟩,htl,he,hK⟩;have hel:=hT.elen;refine An rfl ?_;simp only[F70,Ze,Nat.reduceSub,Nat.reduceAdd];refine Ae ?_;refine Aa H85 ⟨e,rfl,oM,λh1 hle1=>?_⟩;have hg1:=hg.trans hle1;have hdl:=AG 4 (n:=e) oM oM;have A3:h1.cell ((⟨b,0,O⟩:Addr).add 3)=U (.map (U mp)):=(hT.obj.le hg1).rules.1 3 (by simp);have Rk:=(hT.map.le hg1).lkpoi (Kh tag e);have hkey:tag++[64]++Bo e=Kh tag e:=rfl;cases hlk:look kv (Kh tag e)with
 |some p=>
  rw[hlk]at Rk;refine CS @hkey @A3 @Rk ?_;obtain⟨t2,e2,h1',h2,h3⟩:=hT.cache _ _ hlk;obtain⟨rfl,rfl⟩:=Ry h1';rw[h3];exact hK _ _ (Av.more hg hle1) ⟨ev,vs,mp,kv,bs,ck,g0,hT⟩
 |none=>
  rw[hlk]at Rk;refine CS @hkey @A3 @Rk ?_;refine Aa H86 ⟨⟨b,0,O⟩,tag,window,need,E,e,rfl,hT.read hg1,w1,w2,n1,hgood,he,?_⟩;refine Ap @A3 ?_;refine BX (ek:=AF) (ev:=Bm) hT.map hg1 (Kh tag e) (Iy window need (E.take (e+1)) tag) λo bs' ck' hM hS _=>?_;refine Ae ?_;refine hK _ _ ((Av.more hg hle1).trans hS) ⟨ev,vs,mp,_,bs',ck',g0,hT.put hM λk p hk=>?_⟩;rw[A6]at hk;split at hk
  ·rename_i ek;cases hk;exact⟨tag,e,ek,he,rfl⟩
  ·exact hT.cache k p hk
def whr (window need:Nat) (E:List (List Si)) (tag:List UInt8) (e:Int):Int×Nat:=
 if e<0\/(E.length:Int)<=e then(0,1)else if Bb E tag then(Iy window need (E.take (e.toNat+1)) tag,0)else(0,5)
def I6 (window need:Nat) (E:List (List Si)) (tag:List UInt8) (p e:Int):Bool:=
 if(whr window need E tag e).2≠0\/p<0\/(whr window need E tag e).1≠p then false else decide (e=0\/Iy window need (E.take ((e-1).toNat+1)) tag≠p)
def S52:Spec:=λargs h K=>∃ g b window need E tag e,args=[.pointer (U ⟨b,0,O⟩),.string (str tag),.int .i64 e]/\RT g b window need E/\Heap.le g h/\N9 window need E/\tag.length<=1000000 /\
 ∀ g' h',Av g h g' h'->RT g' b window need E->K (.tuple #[.int .i64 (whr window need E tag e).1,.int .i64 ((whr window need E tag e).2:Nat)]) h'
theorem F52_ok {N:Num} {Γ:Ctx} [Ak Γ] (H55:Sat S55 (Γ 55)) (H70:Sat S70 (Γ 70)):Sat S52 (SF N Γ F52):=by
 rintro _ h K ⟨g,b,window,need,E,tag,e,rfl,hT,hg,hm,htl,hK⟩;have hR:=hT.read hg;refine An rfl ?_;simp only[F52,Ze,Nat.reduceSub,Nat.reduceAdd];obtain⟨ev,fv,ho,⟨vs,hv,hvl,hr⟩,hel,hrl⟩:=id hR;have A2:h.cell ((⟨b,0,O⟩:Addr).add 2)=U ev:=ho.rules.1 2 (by simp);have R:=hv.rules1 id (λ_=>rfl) undef;rw[hvl]at R;unfold whr at hK;refine AH @A2 @R ?_;refine Ad (λc1=>?_) (λc1=>?_)
 ·rw[if_pos oM]at hK;refine Ae ?_;exact hK _ _ (Av.refl hg) hT
 ·rw[if_neg oM]at hK;obtain⟨i,rfl⟩:∃ i:Nat,e=i:=⟨e.toNat,oM⟩
  refine AH @A2 @R ?_;refine Aa H55 ⟨⟨b,0,O⟩,tag,window,need,E,E.length,rfl,hR,?_⟩;rw[ZB oM];by_cases ht:Bb E tag
  ·rw[if_pos ht]at hK;rw[decide_eq_true ht];refine Ae ?_;refine Aa H70 ⟨g,b,window,need,E,tag,i,rfl,hT,hg,hm,htl,oM,λg' h' hS hT'=>?_⟩;refine Ae ?_;exact hK _ _ hS hT'
  ·rw[if_neg ht]at hK;rw[decide_eq_false ht];refine Ae ?_;exact hK _ _ (Av.refl hg) hT
def S53:Spec:=λargs h K=>∃ g b window need E tag p e,args=[.pointer (U ⟨b,0,O⟩),.string (str tag),.int .i64 p,.int .i64 e]/\RT g b window need E/\Heap.le g h/\N9 window need E/\tag.length<=1000000 /\
 ∀ g' h',Av g h g' h'->RT g' b window need E->K (.bool (I6 window need E tag p e)) h'
theorem F53_ok {N:Num} {Γ:Ctx} [Ak Γ] (H52:Sat S52 (Γ 52)) (H70:Sat S70 (Γ 70)):Sat S53 (SF N Γ F53):=by
 rintro _ h K ⟨g,b,window,need,E,tag,p,e,rfl,hT,hg,hm,htl,hK⟩;refine An rfl ?_;simp only[F53,Ze,Nat.reduceSub,Nat.reduceAdd];have hel:E.length<=1000:=(hT.read hg).choose_spec.choose_spec.2.2.1;unfold I6 at hK;have hw:(whr window need E tag e).2=0->0<=e/\e<E.length:=by
  unfold whr;split
  ·simp
  ·split
   ·intro _;omega
   ·simp
 refine Ae ?_;refine Aa H52 ⟨g,b,window,need,E,tag,e,rfl,hT,hg,hm,htl,λg1 h1 hS1 hT1=>?_⟩;generalize hwr:whr window need E tag e=wr at *;obtain⟨q,f⟩:=wr;dsimp only at hK hw ⊢;refine Ae ?_;refine Ad (λc1=>?_) (λc1=>?_)
 ·rw[if_pos oM]at hK;refine Ae ?_;exact hK _ _ hS1 hT1
 ·rw[if_neg oM]at hK;obtain⟨hw1,hw2⟩:=hw oM;obtain⟨i,rfl⟩:∃ i:Nat,e=i:=⟨e.toNat,oM⟩
  by_cases h0:i=0
  ·subst h0;refine Ae ?_;exact hK _ _ hS1 hT1
  ·obtain⟨j,rfl⟩:∃ j,i=j+1:=⟨i-1,oM⟩
   have e1:(((j+1:Nat):Int)=0)=False:=by simp;omega
   refine Ap @e1 ?_;refine Aa H70 ⟨g1,b,window,need,E,tag,j,rfl,hT1,hS1.le,hm,htl,oM,λg2 h2 hS2 hT2=>?_⟩;refine Ae ?_;have e2:((((j+1:Nat):Int)-1).toNat+1)=j+1:=oM;rw[e2]at hK;have:=hK _ _ (hS1.trans hS2) hT2;have e3:decide (((j+1:Nat):Int)=0\/Iy window need (List.take (j+1) E) tag≠p)=decide (Iy window need (List.take (j+1) E) tag≠p):=by rw[Zu];simp[e1];omega
   rw[e3]at this;simpa using this
theorem IB {N:Num} {h:Heap} {K:Value->Heap->Prop} {g:Heap} {b window need:Nat} {E:List (List Si)} {tag:List UInt8} {e:Int} (hT:Sk g b window need E) (hg:Heap.le g h)
  (hK:K (.tuple #[.int .i64 (whr window need E tag e).1,Cm N (whr window need E tag e).2]) h):S30 N [.pointer (U ⟨b,0,O⟩),.string (str tag),.int .i64 e] h K:=by
 unfold whr at hK;refine⟨g,b,window,need,E,tag,e,rfl,hT,hg,λh1=>?_,λh1 h2 h3=>?_,λh1 h2 h3=>?_⟩
 ·rw[if_pos h1]at hK;exact hK
 ·rw[if_neg oM,if_neg h3]at hK;exact hK
 ·rw[if_neg oM,if_pos h3]at hK;exact hK
def S50:Spec:=λargs h K=>∃ g b window need E tag p e,args=[.pointer (U ⟨b,0,O⟩),.string (str tag),.int .i64 p,.int .i64 e]/\Sk g b window need E/\Heap.le g h/\E.length<=1000000 /\
 K (.bool (I6 window need E tag p e)) h
theorem F50_ok {N:Num} {Γ:Ctx} [Ak Γ] (H30:Sat (S30 N) (Γ 30)):Sat S50 (SF N Γ F50):=by
 rintro _ h K ⟨g,b,window,need,E,tag,p,e,rfl,hT,hg,hel,hK⟩;refine An rfl ?_;simp only[F50,Ze,Nat.reduceSub,Nat.reduceAdd];unfold I6 at hK;have hw:(whr window need E tag e).2=0->0<=e/\e<E.length/\Bb E tag:=by
  unfold whr;split
  ·simp
  ·split
   ·rename_i ht;intro _;exact⟨oM,oM,ht⟩
   ·simp
 refine Ae ?_;refine Aa H30 (IB hT hg ?_);generalize hwr:whr window need E tag e=wr at *;obtain⟨q,f⟩:=wr;dsimp only at hK hw ⊢;refine Ap (Mo N) ?_;refine Ad (λc1=>?_) (λc1=>?_)
 ·rw[if_pos oM]at hK;refine Ae ?_;exact hK
 ·rw[if_neg oM]at hK;obtain⟨hw1,hw2,ht⟩:=hw oM;obtain⟨i,rfl⟩:∃ i:Nat,e=i:=⟨e.toNat,oM⟩
  by_cases h0:i=0
  ·subst h0;refine Ae ?_;simpa using hK
  ·obtain⟨j,rfl⟩:∃ j,i=j+1:=⟨i-1,oM⟩
   have e1:(((j+1:Nat):Int)=0)=False:=by simp;omega
   refine Ap @e1 ?_;refine Aa H30 (IB (e:=(j:Nat)) hT hg ?_);have hwj:whr window need E tag (j:Nat)=(Iy window need (E.take (j+1)) tag,0):=by
    unfold whr;rw[if_neg oM,if_pos ht];rfl
   rw[hwj];refine Ae ?_;have e2:((((j+1:Nat):Int)-1).toNat+1)=j+1:=oM;rw[e2]at hK;have e3:decide (((j+1:Nat):Int)=0\/Iy window need (List.take (j+1) E) tag≠p)=decide (Iy window need (List.take (j+1) E) tag≠p):=by rw[Zu];simp[e1];omega
   rw[e3]at hK;simpa using hK
theorem Av.grow {g h h2 g3 h3 F:Heap} (hl:Heap.le h h2) (a:Av g h2 g3 h3) (hF:Heap.le F h3) (hn:∀ b,h b≠O->F b=O):Av g h (join g3 F) h3:=by
 refine⟨Gq a.le hF,λb o h1 h2=>a.frame b o (hl b o h1) h2,λb h1 h2=>?_⟩;refine Bs (a.fresh b ?_ h2) (hn b h1);cases hb:h b with
 |none=>exact absurd hb h1
 |some o=>rw[hl b o hb];simp
def S51:Spec:=λargs h K=>∃ window need:Nat,args=[.int .i64 window,.int .i64 need]/\∀ b h',h b=O->Heap.le h h'->RT (fr h h') b window need []->K (.pointer (U ⟨b,0,O⟩)) h'
theorem F51_ok {N:Num} {Γ:Ctx} [Ak Γ]:Sat S51 (SF N Γ F51):=by
 rintro _ h K ⟨window,need,rfl,hK⟩;refine An rfl ?_;simp only[F51,Ze,Nat.reduceSub,Nat.reduceAdd];refine Ae ?_;refine EX (ek:=AF) (ev:=Bm) λm h1 hm0 hle1 hmE=>?_;refine Ae ?_;refine AO λb h2 hle2 hb ho=>?_;refine Ae ?_;have hmn:(fr h h1) m≠O:=hmE.mem;refine hK b h2 (AC hle1 b hb) (hle1.trans hle2) ⟨.slice O 0 0,[],m,[],[],0,λ_=>O,⟨ho.le (Ql hle1),BE.nil,rfl,λy o hy=>(by cases hy),λi hi=>(by simp at hi),hmE.le (Fg hle2),rfl,rfl,(by simp[Ao]),λk p hk=>(by simp[Bd]at hk),(by simp),(by simp)⟩⟩
def S45:Spec:=λargs h K=>∃ g b v window need E l,args=[.pointer (U ⟨b,0,O⟩),v]/\Sl Si.enc h v l/\RT g b window need E/\Heap.le g h/\E.length<1000/\l.length<=2000 /\
 ((∃s∈l,s.bad)->K (.int .i64 1) h)/\((∀s∈l,¬s.bad)->∀ g' h',Av g h g' h'->RT g' b window need (E++[l])->K (.int .i64 0) h')
theorem F45_ok {N:Num} {Γ:Ctx} [Ak Γ]:Sat S45 (SF N Γ F45):=by
 rintro _ h K ⟨g,b,v,window,need,E,l,rfl,hs,⟨ev,vs,mp,kv,bs,ck,g0,hT⟩,hg,hel,hll,hK1,hK2⟩;refine An rfl ?_;simp only[F45,Ze,Nat.reduceSub,Nat.reduceAdd];have R:=hs.rules 4 Si.enc_len default;refine Ap @R ?_;refine AA (λenv h2=>h2=h/\(∀s∈l,¬s.bad)/\env=[U (.pointer (U ⟨b,0,O⟩)),U v,U (.int .i64 0),O,O,O,O,O,O,O,O,O,O]) ?_ ?_;rotate_left
 ·refine Aj (λi:Nat=>[U (.pointer (U ⟨b,0,O⟩)),U v,U (.int .i64 0),U (.int .i64 i),O,O,O,O,O,O,O,O,O]) (λi h2=>h2=h/\i<=l.length/\∀ s∈l.take i,¬s.bad) (λi=>l.length-i) 0 (by try simp only[Pf];rfl) ⟨rfl,oM,by simp⟩ ?_;rintro i h2 ⟨rfl,hi,hgood⟩;refine Ap @R ?_;refine Ad (λc1=>?_) (λc1=>?_);rotate_left
  ·have:i=l.length:=oM;subst this;rw[Z5]at hgood;refine Ae ?_;exact Ar _ sE ⟨rfl,hgood,rfl⟩
  have A5:i<l.length:=oM;refine AH @R @Si.enc.eq_1 ?_;refine Ad (λc2=>?_) (λc2=>?_)
  ·refine Ae ?_;exact hK1 ⟨_,As default A5,by simp only[Si.bad];omega⟩
  ·refine Ae ?_;refine Ag (i+1) oM sE ⟨rfl,oM,λs hs=>?_⟩;rw[Ai default A5,Yd,YA]at hs;rcases hs with hs|rfl
   ·exact hgood s hs
   ·simp only[Si.bad];omega
 rintro env h2 ⟨rfl,hgood,rfl⟩;have A2:=λ(h':Heap) (hl:Heap.le h2 h')=>(hT.obj.le (hg.trans hl)).rules.1 2 (by simp);have A2':h2.cell ((⟨b,0,O⟩:Addr).add 2)=U ev:=A2 h2 (ZX h2);refine Ap @A2' ?_;refine FO Si.enc_len Si.enc_one (AQ.nil (ZX h2)) hs (by simp only[ZR];omega) λv1 h3 ho1=>?_;rw[YI]at ho1;have hle1:=ho1.1;have O1:=ho1.one;refine Cb (AE hle1) ?_;refine AH O1.1 O1.2 ?_;refine Bg Mq 1 (λ_=>rfl) [v1] rfl rfl (by simp[maxLen]) λx1 b1 h4 hle2 hb1 hx1 hS1=>?_;have O2:=hS1.one;refine AH O2.1 O2.2 ?_;refine CX (AE (hle1.trans hle2)) ?_;refine Ae ?_;have hg4:=hg.trans (hle1.trans hle2);refine Cc (enc:=Mq) (sz:=1) (λ_=>rfl) (by simp[Mq,O1.1]) hT.evs hg4 (BE.sl (enc:=Mq) (sz:=1) (λ_=>rfl) (hS1.le (Au _ _))) (by have:=hT.vlen;simp;omega) λv2 h5 g5 hS5 St5 e1 e2 e3=>?_;have O3:=hS5.one;have hbn:h2 b≠O:=by
  obtain⟨_,c,t,h1,_⟩:=hT.obj.le hg;dsimp only at h1;rw[h1];simp
 have hevb:Ao ev≠U b:=λe=>(hT.e0 b e).2 rfl;have hev2b:Ao v2≠U b:=by
  intro e;rcases e2 b e with h1|h1
  ·exact hevb h1
  ·exact hbn (AC (hle1.trans hle2) b h1)
 have hF5:Heap.le (fr h2 h3) h5:=by
  intro x o hx;refine e3 x o (hle2 x o (Au _ _ x o hx)) λe=>?_;have:=hT.evs.mem e;cases hgx:g x with
  |none=>exact this hgx
  |some o'=>rw[Er (hg x o' hgx)]at hx;cases hx
 have hFn:∀ x,h2 x≠O->(fr h2 h3) x=O:=by
  intro x hx;cases hh:h2 x with
  |none=>exact absurd hh hx
  |some o=>exact Er hh
 have St6:Av g h2 (join g5 (fr h2 h3)) h5:=Av.grow (hle1.trans hle2) St5 hF5 hFn;have hob5:Ah (join g5 (fr h2 h3)) ⟨b,0,O⟩ [.int .i64 window,.int .i64 need,ev,.map (U mp)]:=by
  have:g5 b=g b:=e1 b hevb hev2b;obtain⟨q1,c,t,q2,q3⟩:=hT.obj;refine⟨q1,c,t,?_,q3⟩;dsimp only at q2 ⊢;simp[join,this,q2]
 refine AH O3.1 O3.2 ?_;refine Br (hob5.le St6.le) 2 1 (by rw[O3.2];rfl) (by rw[O3.2];simp[O3.1]) oM (by simp) λo1 hob6 _=>?_;refine Ae ?_;have hb5:(join g5 (fr h2 h3)) b≠O:=hob5.mem;have St7:=St6.trans (Av.set St6.le hb5 o1);refine EX (ek:=AF) (ev:=Bm) λm h6 hm0 hle6 hmE=>?_;have St8:=St7.trans (Av.alloc St7.le hle6);have hob7:Ah ((join g5 (fr h2 h3)).set b o1) ⟨b,0,O⟩ [.int .i64 window,.int .i64 need,v2,.map (U mp)]:=by
  have:=hob6 (join g5 (fr h2 h3)) (by
   cases hh:(join g5 (fr h2 h3)) b with
   |none=>exact absurd hh hb5
   |some o=>exact(St6.le b o hh).symm)
  simpa[O3.2]using this
 have hob8:=hob7.le (Db ((join g5 (fr h2 h3)).set b o1) (fr (h5.set b o1) h6));refine Ae ?_;refine Br (hob8.le St8.le) 3 1 rfl rfl oM (by simp) λo2 hob9 _=>?_;refine Ae ?_;have St9:=St8.trans (Av.set St8.le hob8.mem o2);refine hK2 hgood _ _ St9 ⟨v2,vs++[v1],m,[],[],0,join g0 (fr h2 h3),?_⟩;have hg0b:(join g0 (fr h2 h3)) b=O:=Bs hT.b0 (hFn b hbn);have hbl:b≠m:=by
  rintro rfl;rw[Aab]at hm0;cases hm0
 have hle5:Heap.le (join g0 (fr h2 h3)) (join g5 (fr h2 h3)):=by
  intro x o hx;simp only[join]at hx ⊢;cases h0x:g0 x with
  |some o'=>
   rw[h0x]at hx;cases hx;have hnx:Ao ev≠U x:=λe=>by have:=(hT.e0 x e).1;rw[h0x]at this;cases this
   have hnx2:Ao v2≠U x:=by
    intro e;rcases e2 x e with h1|h1
    ·exact hnx h1
    ·have:=(hT.le0.trans hg4) x _ h0x;rw[h1]at this;cases this
   rw[e1 x hnx hnx2,hT.le0 x _ h0x];rfl
  |none=>
   rw[h0x]at hx;have hx':fr h2 h3 x=U o:=by simpa using hx
   cases h5x:g5 x with
   |none=>simpa using hx'
   |some o'=>
    have a1:=St5.le x o' h5x;have a2:=hF5 x o hx';rw[a1]at a2;simpa using a2
 have hle9:∀ G:Heap,Heap.le (join g0 (fr h2 h3)) G->∀ o,Heap.le (join g0 (fr h2 h3)) (G.set b o):=by
  intro G hG o x ox hx;have:x≠b:=by intro e;subst e;rw[hg0b]at hx;cases hx
  rw[ZW this];exact hG x ox hx
 refine⟨?_,?_,by simp[hT.vlen],?_,?_,?_,hg0b,?_,?_,λk p hk=>by simp[Bd]at hk,by simp;omega,?_⟩
 ·have:=hob9 (join ((join g5 (fr h2 h3)).set b o1) (fr (h5.set b o1) h6)) (by
   cases hh:(join ((join g5 (fr h2 h3)).set b o1) (fr (h5.set b o1) h6)) b with
   |none=>exact absurd hh hob8.mem
   |some o=>exact(St8.le b o hh).symm)
  exact this
 ·refine BE.same (g:=g5) hS5 λx hx=>?_;have hxb:x≠b:=by intro e;subst e;exact hev2b hx
  have h5x:=hS5.mem hx;cases hh:g5 x with
  |none=>exact absurd hh h5x
  |some o=>
   rw[ZW hxb];exact Db _ _ x o (by rw[ZW hxb];exact Db _ _ x o hh)
 ·exact hle9 _ ((hle9 _ hle5 o1).trans (Db _ _)) o2
 ·intro i hi;by_cases e:i<E.length
  ·have h1:(vs++[v1]).getD i undef=vs.getD i undef:=by simp[Zp,Zl (show i<vs.length by rw[hT.vlen];exact e)]
   have h2:(E++[l]).getD i []=E.getD i []:=by simp[Zp,Zl e]
   rw[h1,h2];exact(hT.rows i e).le (Db _ _)
  ·have:i=E.length:=by simp at hi;omega
   subst this;have h1:(vs++[v1]).getD E.length undef=v1:=by simp[Zp,<-hT.vlen]
   have h2:(E++[l]).getD E.length []=l:=by simp[Zp]
   rw[h1,h2];exact(AQ.slf2 Si.enc_len ho1).le (HI (hT.le0.trans (hg.trans hle1)) (Au _ _))
 ·have h1:=hmE.le (HI (g:=(join g5 (fr h2 h3)).set b o1) ((St7.le).trans hle6) (Au _ _));exact h1.set_ne (Ne.symm hbl)
 ·have h3:=AC ((hle9 _ hle5 o1).trans St7.le) m hm0;exact h3
 ·intro x hx;have hxb:x≠b:=by intro e;subst e;exact hev2b hx
  refine⟨?_,hxb⟩;rcases e2 x hx with h1|h1
  ·refine Bs (hT.e0 x h1).1 (hFn x λh=>?_);exact hT.evs.mem h1 (AC hg x h)
  ·exact Bs (AC (hT.le0.trans hg4) x h1) (AC ((Au _ _).trans hle2) x h1)
 ·intro l' hl';rw[Yd,YA]at hl';rcases hl' with hl'|rfl
  ·exact hT.rlen l' hl'
  ·exact hll
structure K2 (h H gt gm F:Heap):Prop where
 hF:Heap.le h F
 lF:Heap.le F H
 lt:Heap.le gt H
 lm:Heap.le gm H
 dtm:CA gt gm
 dtF:CA gt F
 dmF:CA gm F
theorem AQ.lsl0 {α:Type} {enc:α->List Value} {sz:Nat} (he:∀ x,(enc x).length=sz) {h0 h:Heap} {v:Value} {l:List α} {z:α} (ho:AQ enc sz h0 h v (l++[z])) :
  ∃ v',(∀k k',JE (.lsl sz) (.v v) (.v (.int k 0)) (.v (.int k' (l.length:Int)))=U (.v v'))/\(∀n,K0 v' n=K0 v n) /\
   ∀ h1 h' (l':List α),l'.length=l.length->AQ enc sz h1 h' v (l'++[z])->Sl enc h' v' l':=by
 obtain⟨_,a,cap,rfl,h2,h3,h4⟩:=ho;rcases h4 with⟨_,e,_⟩|⟨b,c,t,rfl,hb0,hb,hcs,hc⟩
 ·simp at e
 simp only[Zk,Zo]at h2;refine⟨.slice (U ⟨b,0,O⟩) l.length cap,λk k'=>?_,λn=>rfl,λh1 h' l' hl ho'=>?_⟩
 ·simp only[JE];rw[if_pos ⟨oM,oM,oM⟩,if_neg (by simp;omega)];simp[DK]
 ·obtain⟨a',cap',e1,_,hr⟩:=ho'.sl he;simp only[Value.slice.injEq]at e1;obtain⟨rfl,_,rfl⟩:=e1;refine⟨_,cap,by rw[hl],oM,?_⟩;rcases hr with e|⟨g,hg,hrow⟩
  ·simp at e
  ·refine .inr ⟨g,hg,?_⟩;obtain⟨r1,c',t',fz,r2,r3,r4⟩:=hrow;rw[Z0,Zk]at r3;refine⟨r1,c',t',fz,r2,oM,λi hi=>?_⟩;rw[r4 i (by rw[Z0,Zk];omega),Z0,Zl hi]
def Tq (l:List Si):Prop:=∀ s∈l,¬s.bad
instance (l:List Si):Decidable (Tq l):=by unfold Tq;infer_instance
def x1:Si:=⟨3,0,0,[120]⟩
theorem EE:∀ a:List UInt8,Op.bytesLess a a=false:=by
 intro a;induction a with
 |nil=>rfl
 |cons x a ih=>simp[Op.bytesLess,ih]
theorem Fl:∀ {a b c:List UInt8},Op.bytesLess a b=true->Op.bytesLess b c=true->Op.bytesLess a c=true:=by
 intro a;induction a with
 |nil=>
  intro b c h1 h2;cases c with
  |nil=>cases b<;>simp[Op.bytesLess]at h2
  |cons z c=>rfl
 |cons x a ih=>
  intro b c h1 h2;cases b with
  |nil=>simp[Op.bytesLess]at h1
  |cons y b=>
   cases c with
   |nil=>simp[Op.bytesLess]at h2
   |cons z c=>
    simp only[Op.bytesLess,Yy,decide_eq_true_eq,X6,beq_iff_eq]at h1 h2 ⊢;rcases h1 with h1|⟨rfl,h1⟩
    ·rcases h2 with h2|⟨rfl,_⟩
     ·exact .inl (UInt8.lt_trans h1 h2)
     ·exact .inl h1
    ·rcases h2 with h2|⟨rfl,h2⟩
     ·exact .inl h2
     ·exact .inr ⟨rfl,ih h1 h2⟩
theorem Hh:∀ {a b:List UInt8},Op.bytesLess a b=false->a≠b->Op.bytesLess b a=true:=by
 intro a;induction a with
 |nil=>
  intro b h1 h2;cases b with
  |nil=>exact absurd rfl h2
  |cons y b=>simp[Op.bytesLess]at h1
 |cons x a ih=>
  intro b h1 h2;cases b with
  |nil=>rfl
  |cons y b=>
   simp only[Op.bytesLess,Bool.or_eq_false_iff,decide_eq_false_iff_not,Bool.and_eq_false_imp,beq_iff_eq]at h1;simp only[Op.bytesLess,Yy,decide_eq_true_eq,X6,beq_iff_eq];by_cases e:x=y
   ·subst e;exact .inr ⟨rfl,ih (h1.2 rfl) (λe=>h2 (by rw[e]))⟩
   ·refine .inl ?_;rcases UInt8.lt_or_lt_of_ne (Ne.symm e)with h|h
    ·exact h
    ·exact absurd h h1.1
theorem GW {a b:List UInt8} (h:Op.bytesLess a b=true):Op.bytesLess b a=false:=by
 cases hb:Op.bytesLess b a with
 |false=>rfl
 |true=>have:=Fl h hb;rw[EE]at this;cases this
def Jy (l:List (List UInt8)):Prop:=l.Pairwise λa b=>Op.bytesLess a b=true
theorem S7 (s:List UInt8):∀ l,Jy l->Jy (EV l s):=by
 intro l;induction l with
 |nil=>intro _;simp[EV,Jy]
 |cons x l ih=>
  intro h;have h1:=Aaq.1 h;simp only[EV];split
  ·rename_i hx;refine Aaq.2 ⟨λy hy=>?_,ih h1.2⟩;rcases(Nc s y l).1 hy with rfl|hy
   ·exact hx
   ·exact h1.1 y hy
  ·rename_i hx;split
   ·exact h
   ·rename_i hne;have hsx:Op.bytesLess s x=true:=Hh (by simpa using hx) hne;refine Aaq.2 ⟨λy hy=>?_,h⟩;simp only[X5]at hy;rcases hy with rfl|hy
    ·exact hsx
    ·exact Fl hsx (h1.1 y hy)
theorem Eo (l:List (List UInt8)):Jy (BI l):=by
 induction l using BG with
 |h0=>simp[BI,Jy]
 |hs l s ih=>rw[Ej];exact S7 s _ ih
theorem OQ {l:List (List UInt8)} (h:Jy l):l.Nodup:=by
 refine List.Pairwise.imp (λ{a b} h e=>?_) h;subst e;rw[EE]at h;cases h
theorem Fc (E:List (List Si)):(AX E).Nodup:=OQ (Eo _)
theorem Lp {α:Type} [DecidableEq α] {l m:List α} (hl:l.Nodup) (hm:m.Nodup) (h:∀ x,x∈l↔x∈m):l.length=m.length:=by
 have h1:∀ {l m:List α},l.Nodup->(∀x∈l,x∈m)->l.length<=m.length:=by
  intro l;induction l with
  |nil=>intro m _ _;simp
  |cons a l ih=>
   intro m hn hs;have hn':=Yr.1 hn;have ha:=hs a (by simp);have:=ih (m:=m.erase a) hn'.2 λx hx=>by
    have:x≠a:=by rintro rfl;exact hn'.1 hx
    exact(List.mem_erase_of_ne this).2 (hs x (by simp[hx]))
   rw[List.length_erase_of_mem ha]at this;have:=List.length_pos_of_mem ha;simp;omega
 exact Nat.le_antisymm (h1 hl λx hx=>(h x).1 hx) (h1 hm λx hx=>(h x).2 hx)
def WU (N:Num) (Γ:Ctx) (body:St) (Q2:SE->At->Heap->Prop):SE->At->Heap->Prop:=λx env G=>match x with
 |.normal=>SW N Γ body Q2 env G
 |_=>False
def VF (J:Heap->Prop) (Q:SE->At->Heap->Prop) (Bh:At):SE->At->Heap->Prop:=λy _ G=>match y with
 |.normal=>J G
 |y=>Q y Bh G
@[congr] theorem Wz {N : Num} {Γ : Ctx} {body : St} {Q2 : SE -> At -> Heap -> Prop} {x : SE} {env env' : At} {G : Heap} (e : env = env') : WU N Γ body Q2 x env G = WU N Γ body Q2 x env' G := by rw [e]
@[congr] theorem Wy {J : Heap -> Prop} {Q : SE -> At -> Heap -> Prop} {Bh : At} {x : SE} {env env' : At} {G : Heap} (_e : env = env') : VF J Q Bh x env G = VF J Q Bh x env' G := by rw [_e]
theorem GH:(∀(N:Num) (Γ:Ctx) body Q2 env G,WU N Γ body Q2 .normal env G=SW N Γ body Q2 env G)/\(∀J Q Bh env G,VF J Q Bh .normal env G=J G)/\(∀J Q Bh env G,VF J Q Bh .ret env G=Q .ret Bh G)/\(∀J Q Bh i env G,VF J Q Bh (.exit i) env G=Q (.exit i) Bh G):=⟨λ_ _ _ _ _ _=>rfl,λ_ _ _ _ _=>rfl,λ_ _ _ _ _=>rfl,λ_ _ _ _ _ _=>rfl⟩
instance {N:Num} {Γ:Ctx} [Ak Γ] {body:St} {Q2:SE->At->Heap->Prop} [CD Q2]:CD (WU N Γ body Q2) where
 up:=by
  intro e env env' h hl hx;cases e with
  |normal=>exact Fo Ak.imp body (λhl hx=>CD.up hl hx) hl hx
  |exit i=>exact hx
  |ret=>exact hx
instance {J:Heap->Prop} {Q:SE->At->Heap->Prop} {Bh:At}:CD (VF J Q Bh) where
 up:=by
  intro e env env' h hl hx;cases e with
  |normal=>exact hx
  |exit i=>exact hx
  |ret=>exact hx
section
variable {κ ν:Type}
theorem Bn.uniq {ek:κ->Value} {ev:ν->Value} {g g':Heap} {m:Nat} {kv:List (κ×ν)} {bs:List Nat} {ck:Nat} (h:Bn ek ev g m kv bs ck) (h':Bn ek ev g' m kv bs ck):g m=g' m:=by
 obtain⟨es,h1,h2,_⟩:=h;obtain⟨es',h1',h2',_⟩:=h';have:es=es':=by apply YF.1;rw[h2,h2']
 rw[h1,h1',this]
theorem Vk {N:Num} {Γ:Ctx} [Ak Γ] {k off i ip:Nat} {asg body:St} {ek:κ->Value} {ev:ν->Value} {env:At} {H:Heap} {c a:Addr} {mp:Nat} {kv:List (κ×ν)} {bs:List Nat} {ck:Nat} {Q:SE->At->Heap->Prop}
  (hf:env.get i=U (.func (.func (N.fid k)) #[] #[.pointer (U c)])) (hc:H.cell c=U (.pointer (U a))) (hm:H.cell (a.add off)=U (.map (U mp))) (J:List Nat->Heap->Prop) (h0:J [] H) (hmap:∀ dn G,J dn G->Bn ek ev G mp kv bs ck)
  (hend:∀ dn G,J dn G->dn.Nodup->(∀b∈dn,b∈bs)->(∀b∈bs,b∈dn)->Q .normal env G)
  (hround:∀ (dn:List Nat) (G:Heap) (j b:Nat) (key:κ) (val:ν),J dn G->dn.Nodup->(∀b∈dn,b∈bs)->kv[j]?=U (key,val)->bs[j]?=U b->b∉dn->SW N Γ asg (WU N Γ body (VF (J (dn++[b])) Q env)) (env.put ip (ek key)) G) :
  SW N Γ (.rfn k off i ip asg body) Q env H:=by
 obtain⟨es,h1,h2,h3,h4,h5,h6⟩:=hmap [] H h0;have hmem:∀ e∈es.toList,∃(i:Nat) (k:κ) (v:ν) (b:Nat),kv[i]?=U (k,v)/\bs[i]?=U b/\e=Jl ek ev (k,v) b:=by
  intro e he;rw[h2]at he;obtain⟨i,hi,rfl⟩:=Z3 he;simp only[Aap]at hi;have hi1:i<kv.length:=oM;have A5:i<bs.length:=oM;exact⟨i,kv[i].1,kv[i].2,bs[i],by simp[hi1],by simp[A5],by simp⟩
 have hback:∀ b∈bs,∃e∈es.toList,e.born=b:=by
  intro b hb;obtain⟨i,hi,rfl⟩:=Z3 hb;have hi1:i<kv.length:=oM;refine⟨Jl ek ev kv[i] bs[i],?_,rfl⟩;rw[h2];have hlen:i<(List.zipWith (Jl ek ev) kv bs).length:=by simp;omega
  have e:(List.zipWith (Jl ek ev) kv bs)[i]=Jl ek ev kv[i] bs[i]:=by simp
  rw[<-e];exact Aah hlen
 refine⟨c,a,mp,es,ck,hf,hc,hm,h1,λe he=>?_,λdn G=>J dn G/\dn.Nodup/\∀ b∈dn,b∈bs,⟨h0,List.nodup_nil,by simp⟩,?_⟩
 ·obtain⟨i,k,v,b,a1,a2,rfl⟩:=hmem e he;exact h5 _ (ZY a2)
 ·rintro dn G ⟨hj,hnd,hsub⟩;refine⟨(Bn.uniq (hmap dn G hj) (hmap [] H h0)).trans h1,λhall=>hend dn G hj hnd hsub λb hb=>?_,λe he hne=>?_⟩
  ·obtain⟨e,he,rfl⟩:=hback b hb;exact hall e he
  ·obtain⟨i,key,v,b,a1,a2,rfl⟩:=hmem e he;have hr:=hround dn G i b key v hj hnd hsub a1 a2 hne;have hJ:∀ G',J (dn++[b]) G'->J (dn++[b]) G'/\(dn++[b]).Nodup/\∀ x∈dn++[b],x∈bs:=by
    intro G' hj';refine⟨hj',Yp.2 ⟨hnd,by simp,λx hx y hy e=>?_⟩,λx hx=>?_⟩
    ·simp at hy;subst hy;subst e;exact hne hx
    ·rw[Yd,YA]at hx;rcases hx with hx|rfl
     ·exact hsub x hx
     ·exact ZY a2
   refine Fo Ak.imp asg (λ{x e e' G1} hl hx=>?_) (GU _) hr;cases x with
   |normal=>
    refine Fo Ak.imp body (λ{y f f' G2} hl hy=>?_) hl hx;cases y with
    |normal=>exact hJ _ hy
    |exit i=>exact hy
    |ret=>exact hy
   |exit i=>exact hx
   |ret=>exact hx
end
end Go.Cw
namespace Go.Cw
open Go
def S54 (N:Num):Spec:=λargs h K=>∃ a,args=[.pointer (U a)]/\∀ b h',Heap.le h h'->Ah (fr h h') ⟨b,0,O⟩ [.pointer (U a)]->K (.func (.func (N.fid 71)) #[] #[.pointer (U ⟨b,0,O⟩)]) h'
theorem F54_ok {N:Num} {Γ:Ctx} [Ak Γ]:Sat (S54 N) (SF N Γ F54):=by
 rintro _ h K ⟨a,rfl,hK⟩;refine An rfl ?_;simp only[F54,Ze,Nat.reduceSub,Nat.reduceAdd];refine Ae ?_;refine AO λb h1 hle1 hb ho=>?_;refine Ae ?_;exact hK b h1 hle1 ho
theorem Sk.keys {g:Heap} {b window need:Nat} {E:List (List Si)} (hT:Sk g b window need E):∃ mw wkv bs ck,(∀h,Heap.le g h->h.cell ((⟨b,0,O⟩:Addr).add 3)=U (.map (U mw)))/\Bn AF id g mw wkv bs ck /\
  (wkv.map (·.1)).Nodup/\∀ tag,tag∈wkv.map (·.1)↔Bb E tag:=by
 obtain⟨W,ev,mw,wkv,bs,ck,gi,ems,hT,hW⟩:=hT;refine⟨mw,wkv,bs,ck,λh hl=>(Ah.le hT.obj hl).rules.1 3 (by simp),hT.wm,?_,λtag=>?_⟩
 ·obtain⟨_,_,_,_,_,_,h⟩:=hT.wm;exact h
 ·have h1:=hW tag;constructor
  ·intro hm;cases hl:look wkv tag with
   |none=>exact absurd hm (FM hl)
   |some v=>
    obtain⟨l,x,q1,_⟩:=hT.wsome tag v hl (by simp);refine Classical.byContradiction λh3=>?_;rw[if_neg h3,q1]at h1;cases h1
  ·intro ht;cases hl:look wkv tag with
   |none=>rw[hT.wnone tag hl,if_pos ht]at h1;cases h1
   |some v=>exact Yu.2 ⟨_,Cz hl,rfl⟩
end Go.Cw
