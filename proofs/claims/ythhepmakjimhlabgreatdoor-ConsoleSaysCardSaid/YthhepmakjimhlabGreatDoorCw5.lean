/- Part 5 of the proof of ConsoleSays: a small language for the program's functions, its soundness, and what the functions do. No conditions beyond the theorems' own. -/
import Derived.Test.YthhepmakjimhlabGreatDoorCw4
import Derived.LaidLaws
import Derived.Lib.ItoaNum
import Derived.Lib.LaidTab
import Derived.Lib.Repeat
import Derived.Lib.SplitLaws
import Derived.Shelf.GgSortFunc.SmallK
import Derived.Shelf.GgSortFunc.Tiny
import Derived.Shelf.LaysM
import Derived.Shelf.SlSortFuncK.WholeK
import Derived.Shelf.Slices.In.SortNone2
import Derived.Shelf.Small.Bits
import Derived.Shelf.Small.Strs
import Derived.Shelf.Sort.Plain
import Derived.Shelf.Strconv.AtoiAll
import Derived.Shelf.Strconv.Itoa3
import Derived.Shelf.Strings.Cut
import Derived.Shelf.Strings.OnBuilder
import Derived.Shelf.Strings.Prefix
import Derived.Shelf.Strings.Repeat
import Derived.Shelf.Strings.Split
import Derived.Sort.WalkA14
set_option linter.unusedSimpArgs false
set_option linter.unusedVariables false
set_option maxRecDepth 20000
open List renaming getD_eq_getElem?_getD -> Zp, getElem?_eq_getElem -> Zj, length_take -> Zn, length_cons -> Y5, length_map -> Aaw, takeWhile_cons -> AaF, mem_singleton -> YA, mem_cons -> X5, take_length -> Z5, cons_append -> Y7, flatMap_cons -> ZL, nil_append -> YI, length_nil -> ZR, mem_of_mem_take -> Z4, dropWhile_cons -> AaH, length_drop -> ZO, replicate -> Z7, getElem?_append_left -> Zl, length_singleton -> Zo, getElem?_eq_none -> Aa1, getElem?_append -> Ab0, length_pos_iff -> Zx, length_append -> Zk, count_eq_zero -> Ab2, getElem?_map -> Aae, append_assoc -> Zy, mem_append -> Yd, foldl_cons -> Aan, map_cons -> Yj, mem_map -> Yu
open Array renaming getElem?_eq_some_iff -> X1, getElem?_modify -> AbY, getElem?_eq_getElem -> Yi, getElem?_mapIdx -> AbZ
open Go.Cw.Heap renaming le.refl -> ZX, set_ne -> ZW
open Nat renaming pow_le_pow_right -> ZZ, le_refl -> Yq, le_trans -> YU, zero_add -> Yn, mul_comm -> Aao, zero_le -> ZU
open Int renaming toNat_natCast -> Aaa
open Go.Cw.Si renaming enc_len -> Aa7, enc -> Aa6
open Go.Cw.Rl renaming enc_len -> AbD
open Option renaming none -> O, some -> U, map_some -> YH
open Bool renaming or_eq_false_iff -> Ab1
open Go.Cw.Wa renaming readT -> Ab3, feedT -> Ab4, findT -> Ab7
open Go.Cw.Se renaming words -> Ab5, start -> Ab8, say -> Ab9
open Go.Cw.SO renaming of -> Ab6
open Go.Cw.Ps renaming one -> Aca
open Go.Cw.Tg renaming good -> Acb
namespace Go.Cw
open Go
def Wa.WmI (w:Wa):Prop:=∀ k,k<4->-1<=w.wm k/\w.wm k<=255
theorem Wa.read_wm (w:Wa) (r:Nat) (d:Rd):(w.read r d).wm=w.wm:=by
 unfold Wa.read;dsimp only
 repeat' split
 all_goals rfl
theorem Wa.reads_wm (r:Nat) (l:List Rd):∀ w:Wa,(l.foldl (λw d=>w.read r d) w).wm=w.wm:=by
 induction l with
 |nil=>intro w;rfl
 |cons d l ih=>intro w;rw[Aan,ih,Wa.read_wm]
theorem Wa.WmI.frame {w:Wa} (h:w.WmI) (r:Nat) {f:Fr} (hf:f.fault=0):(w.frame r f).WmI:=by
 obtain⟨h1,h2,h3,h4,h5,h6,h7⟩:=Fr.fine hf;have e:=Wa.reads_wm r f.reads w;unfold Wa.frame;dsimp only;split
 ·intro k hk;dsimp only;by_cases q:k=r
  ·subst q;rw[EH];omega
  ·rw[EG q,e];exact h k hk
 ·intro k hk;rw[e];exact h k hk
theorem Wa.WmI.frames (r:Nat) (l:List Fr):∀ {w:Wa},w.WmI->(∀f∈l,f.fault=0)->(l.foldl (λw f=>w.frame r f) w).WmI:=by
 induction l with
 |nil=>intro w h _;exact h
 |cons f l ih=>intro w h hl;exact ih (h.frame r (hl f (by simp))) λx hx=>hl x (List.mem_cons_of_mem _ hx)
theorem Wa.WmI.act {w:Wa} (h:w.WmI) (a:Ac):(w.act a).WmI:=by
 unfold Wa.act;split
 ·split
  ·rw[Wa.feed_eq];exact Wa.WmI.frames _ _ h (Ik _ _ (Yq _)).2
  ·exact h
 ·split
  ·exact h
  ·unfold Wa.tick;rw[Wa.tells];exact h
def WG (w:Wa) (fed:Nat) (rs:List Rl):Prop:=w.Ok fed/\w.AlJ/\w.KnL/\w.WmI/\∃ t,rs=w.rs++t
theorem WG.act {w:Wa} {fed:Nat} {rs:List Rl} (h:WG w fed rs) {a:Ac} (hf:fed+IA a<=20000):WG (w.act a) (fed+IA a) rs:=by
 obtain⟨h1,h2,h3,h4,t,h5⟩:=h;exact⟨h1.act hf,h2.act h1 a,h3.act a,h4.act a,t,by rw[(w.act_c a).2];exact h5⟩
theorem WG.mono {w:Wa} {fed fed':Nat} {rs:List Rl} (h:WG w fed rs) (hf:fed<=fed'):WG w fed' rs:=⟨h.1.mono hf,h.2⟩
theorem WG.tick {w:Wa} {fed:Nat} {rs:List Rl} (h:WG w fed rs) (hf:fed<=20000) {z:Int} (hz:¬ (z<0\/1000-(w.now:Int)<z)):WG (w.tick z.toNat) fed rs:=by
 obtain⟨a,ha⟩:∃ a:Ac,a={ (default:Ac)with kind:=PN,n:=z,s:=[] }:=⟨_,rfl⟩
 have hl:IA a=0:=by rw[ha];unfold IA;dsimp only;split<;>rfl
 have:=h.act (a:=a) oM;rw[hl]at this;have e:w.act a=w.tick z.toNat:=by
  rw[ha];unfold Wa.act;dsimp only;rw[if_neg (by simp),if_neg hz]
 rw[e]at this;exact this
theorem WG.feed {w:Wa} {fed:Nat} {rs:List Rl} (h:WG w fed rs) {z:Int} {b:List UInt8} (hf:fed+b.length<=20000) (hF:Cr z b=0):WG (w.feed z.toNat b) (fed+b.length) rs:=by
 obtain⟨a,ha⟩:∃ a:Ac,a={ (default:Ac)with kind:=[],n:=z,s:=b }:=⟨_,rfl⟩
 have hl:IA a=b.length:=by rw[ha];unfold IA;dsimp only;rw[if_pos hF]
 have:=h.act (a:=a) oM;rw[hl]at this;have e:w.act a=w.feed z.toNat b:=by
  rw[ha];unfold Wa.act;dsimp only;rw[if_pos (by simp[PN]),if_pos hF]
 rw[e]at this;exact this
theorem WG.feedT {w:Wa} {fed:Nat} {rs:List Rl} (h:WG w fed rs) (z:Int) {b:List UInt8} (hb:b.length<=150) (hf:fed+150<=20000):WG (w.feedT z b).1 (fed+150) rs:=by
 unfold Ab4;split
 ·rename_i q;exact(h.feed oM q).mono oM
 ·exact h.mono oM
theorem Lb {s b:List UInt8} (h:Dk s=U b):b.length<=(s.length+1)/2:=by
 unfold Dk at h;split at h
 ·cases h;rw[EZ];omega
 ·cases h
theorem Se.Ok.on {s:Se} {k:Nat} {w:Wa} (hk:k<=110) (h:WG w (150*k) s.rs) {w0:List UInt8} {z:Int} {n:List Int} {last:List UInt8} (hl:last.length<=300) {q:Wa×List UInt8} (hq:s.on w w0 z n last=U q):WG q.1 (150*(k+1)) s.rs:=by
 have hm:WG w (150*(k+1)) s.rs:=h.mono oM;unfold Se.on at hq;split at hq
 ·split at hq
  ·cases hq;exact hm
  ·rename_i c;cases hq;exact(h.tick oM c).mono oM
 split at hq
 ·split at hq
  ·cases hq
  ·rename_i b hb;cases hq;have:=Lb hb;exact(h.feedT z oM oM).mono oM
 split at hq
 ·cases hq;unfold Ab3;split
  ·exact hm
  ·split
   ·rename_i hf;have:=J0 hf;exact(h.feedT _ oM oM).mono oM
   ·exact hm
 split at hq
 ·cases hq;exact hm
 split at hq
 ·cases hq;exact hm
 split at hq
 ·cases hq;exact hm
 ·cases hq;exact hm
theorem Se.Ok.mono {s:Se} {k:Nat} (h:s.Ok k):s.Ok (k+1):=⟨by have:=h.rl;omega,h.rf,λw hw=>by
 have:WG w (150*k) s.rs:=h.w w hw;exact this.mono oM⟩
theorem Se.Ok.conf {s:Se} {k:Nat} (h:s.Ok k) (c:Nat->Int):({ s with c:=c }:Se).Ok k:=⟨h.rl,h.rf,h.w⟩
theorem Se.Ok.start {s:Se} {k:Nat} (h:s.Ok k):s.start.1.Ok k:=by
 unfold Ab8;split
 ·rename_i q;refine⟨h.rl,h.rf,λw hw=>?_⟩;cases hw;exact⟨(JM q).mono oM,Wa.AlJ.new,Wa.KnL.new,λj _=>⟨by show -1<=-1;omega,by show(-1:Int)<=255;omega⟩,[],by simp[newW]⟩
 ·exact h
theorem Se.Ok.say {s:Se} {k:Nat} (h:s.Ok k) (hk:k<=110) (l:List UInt8):(s.say l).1.Ok (k+1):=by
 unfold Ab9;split
 ·exact h.mono
 rename_i h300;split
 ·unfold Se.rule;split
  ·exact h.mono
  ·rename_i r hr;refine⟨by have:=h.rl;simp;omega,λx hx=>?_,λw hw=>?_⟩
   ·rcases Yd.1 hx with e|e
    ·exact h.rf x e
    ·rw[YA.1 e];exact(GG hr).1
   ·obtain⟨h1,h2,h3,h4,t,h5⟩:=h.w w hw;exact⟨h1.mono oM,h2,h3,h4,t++[r],by dsimp only;rw[h5,Zy]⟩
 have hWl:∀ x∈CI 32 l,x.length<=l.length:=B6;have hW0:0<(CI 32 l).length:=Zx.2 (J2 32 l);generalize CI 32 l=W at *;unfold Ab5;split
 ·exact h.mono
 rename_i a b hm;split
 ·exact h.mono
 split
 ·exact h.mono
 rename_i n hn;split
 ·rename_i q hq;unfold Se.ahead at hq;split at hq
  ·cases hq;exact(h.conf _).mono
  split at hq
  ·split at hq
   ·cases hq;exact h.mono
   ·cases hq;exact(h.conf _).mono
  split at hq
  ·cases hq;exact h.start.mono
  ·cases hq
 split
 ·exact h.mono
 rename_i w hw;split
 ·exact h.mono
 ·rename_i q hq;have hl:(W.getD (W.length-1) []).length<=300:=by
   have:=hWl _ (As [] (show W.length-1<W.length by omega));omega
  have:=Se.Ok.on hk (h.w w hw) hl hq;exact⟨by have:=h.rl;dsimp only;omega,h.rf,λw' hw'=>by cases hw';exact this⟩
def cW (m:Nat):Nat->Int:=λk=>if 6<=k/\k<6+m then -1 else 0
theorem Vs (m:Nat):Ez (cW m) (6+m) (-1)=cW (m+1):=by
 funext k;unfold cW;by_cases e:k=6+m
 ·subst e;rw[EH,if_pos oM]
 ·rw[EG e];by_cases q:6<=k/\k<6+m
  ·rw[if_pos q,if_pos oM]
  ·rw[if_neg q,if_neg oM]
def Se.new:Se:=⟨cW 16,[],O⟩
theorem Se.new_ok:Se.new.Ok 0:=⟨by simp[Se.new],(λr hr=>by cases hr),λw hw=>by cases hw⟩
noncomputable def Se.after (s:Se) (L:List (List UInt8)):Se:=L.foldl (λs l=>(s.say l).1) s
noncomputable def Se.runs (s:Se):List (List UInt8)->List (List UInt8)
 |[]=>[]
 |l::r=>(s.say l).2.getD (Dj 4)::(s.say l).1.runs r
theorem Se.after_snoc (s:Se) (L:List (List UInt8)) (l:List UInt8):s.after (L++[l])=((s.after L).say l).1:=by unfold Se.after;rw[List.foldl_append];rfl
theorem Se.runs_snoc:∀ (L:List (List UInt8)) (s:Se) (l:List UInt8),s.runs (L++[l])=s.runs L++[((s.after L).say l).2.getD (Dj 4)]
 |[],s,l=>rfl
 |x::r,s,l=>by
  have:=Se.runs_snoc r (s.say x).1 l;simp only[Y7,Se.runs,this];rfl
theorem Se.runs_len:∀ (L:List (List UInt8)) (s:Se),(s.runs L).length=L.length
 |[],_=>rfl
 |x::r,s=>by simp only[Se.runs,Y5,Se.runs_len r]
theorem Se.Ok.after:∀ (L:List (List UInt8)) {s:Se} {k:Nat},s.Ok k->k+L.length<=110->(s.after L).Ok (k+L.length)
 |[],s,k,h,_=>h
 |l::r,s,k,h,hk=>by
  rw[Y5]at hk ⊢;have:=Se.Ok.after r (h.say oM l) oM;rw[show k+(r.length+1)=k+1+r.length by omega];exact this
def Tj:Nat->Value:=λj=>([Value.int .i64 0,.int .i64 0,.int .i64 0,.int .i64 0,.int .i64 0,.int .i64 0,.int .i64 0,.int .i64 0,.int .i64 0,.int .i64 0,.int .i64 0,.int .i64 0,.int .i64 0,.int .i64 0,.int .i64 0,.int .i64 0,.int .i64 0,.int .i64 0,.int .i64 0,.int .i64 0,.int .i64 0,.int .i64 0,.slice O 0 0,.pointer O]:List Value).getD j default
theorem P9 (X:Heap->Nat->Wa->Prop) {p:Nat} {gs:Heap} (ho:Cp gs p 24 Tj):SP X p ⟨cW 0,[],O⟩ Tj (.slice O 0 0) gs (λ_=>O) (λ_=>O) where
 ob:=ho
 c:=λk hk=>by
  have e:cW 0 k=0:=by unfold cW;rw[if_neg oM]
  show Tj k=.int .i64 (cW 0 k);rw[e];rcases(by omega:k=0\/k=1\/k=2\/k=3\/k=4\/k=5\/k=6\/k=7\/k=8\/k=9\/k=10\/k=11\/k=12\/k=13\/k=14\/k=15\/k=16\/k=17\/k=18\/k=19\/k=20\/k=21)with rfl|rfl|rfl|rfl|rfl|rfl|rfl|rfl|rfl|rfl|rfl|rfl|rfl|rfl|rfl|rfl|rfl|rfl|rfl|rfl|rfl|rfl<;>rfl
 r:=rfl
 rs:=BE.nil
 w:=rfl
theorem SO.conf {N:Num} {Γ:Ctx} {X:Heap->Nat->Wa->Prop} {g h:Heap} {p:Nat} {s:Se} (hS:SO X g p s) (hg:Heap.le g h) (k:Nat) (hk:k<22) (z:Int) {K:Value->Heap->Prop}
  (hK:∀ g' h',Av g h g' h'->SO X g' p { s with c:=Ez s.c k z }->K undef h'):By N Γ (.st 1) [.pointer (U ((⟨p,0,O⟩:Addr).add k)),.int .i64 z] h K:=by
 obtain⟨F,rv,gs,gr,gw,hps,hw⟩:=hS;have Q0:=hps.rest hg;refine BO (x:=.int .i64 z) hw.ob (Q0.lt 1 rfl) k rfl rfl oM λg1 h1 st1 ho1=>?_;obtain⟨g7,q6,q7⟩:=Ab6 hg (Q0.step 1 rfl st1) (hw.conf k hk z ho1);exact hK g7 _ q6 q7
def S302 (T:Heap) (N:Num):Spec:=λargs h K=>∃ v L,args=[v]/\Sl AB h v L/\Heap.le T h/\L.length<=110/\(∀x∈L,x.length<=1000000) /\
 (100<L.length->K (.tuple #[.slice O 0 0,Cm N 2]) h)/\(L.length<=100->∀ v' h' gO,Ps h' [h,gO]->BE AB 1 gO v' (Se.new.runs L)->K (.tuple #[v',.nilIface]) h')
theorem F302_ok {N:Num} {Γ:Ctx} [Ak Γ] {T:Heap} (H306:Sat (S306 T N) (Γ 306)) (H307:Sat (S307 T N) (Γ 307)):Sat (S302 T N) (SF N Γ F302):=by
 rintro _ h K ⟨v,L,rfl,hL,hT,hLl,hLx,hK1,hK2⟩;refine An rfl ?_;simp only[F302,Ze,Nat.reduceSub,Nat.reduceAdd];have R:=hL.rules1 (λs=>.string (str s)) (λ_=>rfl) [];refine Ap @R ?_;refine Ad (λc1=>?_) (λc1=>?_)
 ·have:=hK1 oM;simp only[Aq]at this;refine Ae ?_;exact this
 have hK:=hK2 oM;clear hK1 hK2;have hL100:L.length<=100:=oM;refine Ae ?_;refine AO λp h1 hle1 hp hob=>?_;have ho1:Cp (fr h h1) p 24 Tj:=hob;have hg0:Heap.le (λ_=>O) h:=λb o hb=>by cases hb
 have hr0:rest (λ_=>O) h=h:=by funext b;unfold rest;rw[if_pos rfl]
 have Q1:Ps h1 [rest (λ_=>O) h,fr h h1,λ_=>O,λ_=>O]:=by
  rw[hr0];exact(((Aca h).new hle1).add (f:=λ_=>O) (λb o hb=>by cases hb) (λx _ b _=>rfl)).add (f:=λ_=>O) (λb o hb=>by cases hb) (λx _ b _=>rfl)
 obtain⟨g1,st1,hS1⟩:=Ab6 hg0 Q1 (P9 WO ho1);have Q2:Ps h1 [h,g1]:=((Aca h).up st1.le0).add st1.le λx hx=>by rw[YA.1 hx];exact It st1 (ZX h)
 clear Q1 st1 ho1 hob hle1 hp;refine Ae ?_;refine Aj (λi:Nat=>[U v,O,O,U (.pointer (U ⟨p,0,O⟩)),O,O,O,O,O,O,O,O,U (.int .i64 (i:Nat)),O,O,O,O,O,O,O,O,O,O,O,O,O])
  (λi H=>i<=4/\∃ g,Ps H [h,g]/\SO WO g p ⟨cW (4*i),[],O⟩) (λi=>4-i) 0 (by try simp only[Pf];rfl) ⟨oM,g1,Q2,hS1⟩ ?_
 clear Q2 hS1;rintro i H ⟨hi,g,Q,hS⟩;have hwi:=wS i;refine Ae ?_;refine Ad (λc2=>?_) (λc2=>?_)
 ·have hi4:i<4:=oM;refine Ae ?_;refine Aj (λk:Nat=>[U v,O,O,U (.pointer (U ⟨p,0,O⟩)),U (.int .i64 (i:Nat)),O,O,O,O,O,O,O,U (.int .i64 (i:Nat)),O,U (.int .i64 (k:Nat)),O,O,O,O,O,O,O,O,O,O,O])
   (λk H=>k<=4/\∃ g,Ps H [h,g]/\SO WO g p ⟨cW (4*i+k),[],O⟩) (λk=>4-k) 0 (by try simp only[Pf];rfl) ⟨oM,g,Q,hS⟩ ?_
  clear Q hS;rintro k H ⟨hk,g,Q,hS⟩;have hwk:=wS k;refine Ae ?_;refine Ad (λc3=>?_) (λc3=>?_)
  ·refine Ae ?_;rw[AI,AI,AI,show 0+6+i*4+k=6+(4*i+k) by omega];refine hS.conf (Q.lt 1 rfl) (6+(4*i+k)) oM (-1) λg2 h2 st2 hS2=>?_;dsimp only at hS2;rw[Vs]at hS2;have Q2:=Q.step 1 rfl st2;refine Ap @hwk ?_;exact Ag (k+1) oM sE ⟨oM,g2,Q2,hS2⟩
  ·have hk4:k=4:=oM;subst hk4;refine Ap @hwi ?_;exact Ag (i+1) oM sE ⟨oM,g,Q,hS⟩
 have hi4:i=4:=oM;subst hi4;rw[show(⟨cW (4*4),[],O⟩:Se)=Se.new from rfl]at hS;have Q2:Ps H [h,g,λ_=>O]:=Q.add (f:=λ_=>O) (λb o hb=>by cases hb) (λx _ b _=>rfl);have R2:=(hL.le (Q.lt 0 rfl)).rules1 (λs=>.string (str s)) (λ_=>rfl) [];clear R;refine Ap @R2 ?_;refine Aj (λx:Nat×Value=>[U v,O,O,U (.pointer (U ⟨p,0,O⟩)),O,O,U x.2,O,O,O,O,O,O,O,O,O,U v,U (.int .i64 (L.length:Nat)),U (.int .i64 (x.1:Nat)),O,O,O,O,O,O,O])
  (λx H=>x.1<=L.length/\∃ g gO,Ps H [h,g,gO]/\SO WO g p (Se.new.after (L.take x.1))/\BE AB 1 gO x.2 (Se.new.runs (L.take x.1))) (λx=>L.length-x.1) (0,.slice O 0 0) (by dsimp only;try simp only[Pf];rfl) ⟨dM,g,_,Q2,hS,BE.nil⟩ ?_
 clear Q Q2 hS R2;rintro⟨i,vo⟩ H ⟨hi,g,gO,Q,hS,hO⟩;dsimp only at hi hS hO ⊢;have hwi:=wS i;have R2:=(hL.le (Q.lt 0 rfl)).rules1 (λs=>.string (str s)) (λ_=>rfl) [];refine Ae ?_;refine Ad (λc3=>?_) (λc3=>?_);rotate_left
 ·have:i=L.length:=oM;subst this;rw[Z5]at hO;refine Ae ?_;refine hK vo H gO ?_ hO;refine⟨λx hx=>Q.1 x ?_,?_⟩
  ·simp only[X5,List.not_mem_nil,or_false]at hx ⊢;rcases hx with rfl|rfl
   ·exact .inl rfl
   ·exact .inr (.inr rfl)
  ·refine List.pairwise_cons.2 ⟨λx hx=>?_,List.pairwise_singleton _ _⟩;rw[YA.1 hx];exact Q.dj 0 2 rfl rfl oM
 have A5:i<L.length:=oM;have hnx:=Ai [] A5;have hxl:=hLx _ (As [] A5);have hok:=Se.new_ok.after (L.take i) (by rw[Zn];omega);have hrl:=Se.runs_len (L.take i) Se.new;rw[Zn]at hrl hok;obtain⟨x,hx0⟩:∃ x,x=L.getD i []:=⟨_,rfl⟩
 rw[<-hx0]at hnx hxl;have hx1:=hx0.symm;have hdT:CA T g:=λb hb=>Q.dj 0 1 rfl rfl oM b (λe=>hb (AC hT b e));have hsa:=Se.after_snoc Se.new (L.take i) x;have hsr:=Se.runs_snoc (L.take i) Se.new x;rw[<-hnx]at hsa hsr;generalize Se.new.after (L.take i)=s at *;generalize hse:Se.new.after (L.take (i+1))=s' at *;refine AH @R2 @hx1 ?_;refine Aa H306 ⟨g,p,s,_,x,rfl,hS,Q.lt 1 rfl,hT.trans (Q.lt 0 rfl),hdT,hok,oM,hxl,λg2 h2 y st2 hS2 hy=>?_⟩;have Q2:=Q.step 1 rfl st2;have hT2:Heap.le T h2:=hT.trans (Q2.lt 0 rfl);rw[<-hsa]at hS2;have O1:=hO.one;cases ho:(s.say x).2 with
 |some z=>
  obtain rfl:y=z:=hy z ho;rw[ho]at hsr;refine Ae ?_;refine Bg AB 1 (λ_=>rfl) [y] rfl rfl (by simp[maxLen]) λx1 b1 h3 hle3 hb1 hx1 hS3=>?_;have Q3:=Q2.up hle3;have O2:=hS3.one;refine Ek O2.1 O2.2 O1.1 O1.2 ?_;refine Cc (enc:=AB) (sz:=1) (g:=gO) (l':=[y]) (λ_=>rfl) (by simp[AB,one]) hO (Q3.lt 2 rfl) (BE.sl (enc:=AB) (sz:=1) (λ_=>rfl) (hS3.le (Au _ _))) (by simp;omega) λv4 h4 gO' hS4 St4 e1 e2 e3=>?_;have Q4:=Q3.step 2 rfl St4;refine Ap @hwi ?_;exact Ag (i+1,v4) dM (by dsimp only;try simp only[Pf]) ⟨dM,g2,gO',Q4,by dsimp only;rw[hse];exact hS2,by dsimp only;rw[hsr];exact hS4⟩
 |none=>
  rw[ho]at hsr;refine Ae ?_;refine Aa H307 ⟨4,by rw[Aq];rfl,oM,oM,hT2,λh3a hle3a=>?_⟩;have Q2a:=Q2.up hle3a;refine Ae ?_;refine Bg AB 1 (λ_=>rfl) [Dj 4] rfl rfl (by simp[maxLen]) λx1 b1 h3 hle3 hb1 hx1 hS3=>?_;have Q3:=Q2a.up hle3;have O2:=hS3.one;refine Ek O2.1 O2.2 O1.1 O1.2 ?_;refine Cc (enc:=AB) (sz:=1) (g:=gO) (l':=[Dj 4]) (λ_=>rfl) (by simp[AB,one]) hO (Q3.lt 2 rfl) (BE.sl (enc:=AB) (sz:=1) (λ_=>rfl) (hS3.le (Au _ _))) (by simp;omega) λv4 h4 gO' hS4 St4 e1 e2 e3=>?_;have Q4:=Q3.step 2 rfl St4;refine Ap @hwi ?_;exact Ag (i+1,v4) dM (by dsimp only;try simp only[Pf]) ⟨dM,g2,gO',Q4,by dsimp only;rw[hse];exact hS2,by dsimp only;rw[hsr];exact hS4⟩
def Xj (n:List Int):Value:=.agg #[.int .i64 (n.getD 0 0),.int .i64 (n.getD 1 0),.int .i64 (n.getD 2 0),.int .i64 (n.getD 3 0),.int .i64 (n.getD 4 0),.int .i64 (n.getD 5 0)]
def S303:Spec:=λargs h K=>args=[]/\∀ p g' h',Av (λ_=>O) h g' h'->SO MO g' p Se.new->K (.pointer (U ⟨p,0,O⟩)) h'
theorem F303_ok {N:Num} {Γ:Ctx} [Ak Γ]:Sat S303 (SF N Γ F303):=by
 rintro _ h K ⟨rfl,hK⟩;refine An rfl ?_;simp only[F303,Ze,Nat.reduceSub,Nat.reduceAdd];refine Ae ?_;refine AO λp h1 hle1 hp hob=>?_;have ho1:Cp (fr h h1) p 24 Tj:=hob;have hg0:Heap.le (λ_=>O) h:=λb o hb=>by cases hb
 have hr0:rest (λ_=>O) h=h:=by funext b;unfold rest;rw[if_pos rfl]
 have Q1:Ps h1 [rest (λ_=>O) h,fr h h1,λ_=>O,λ_=>O]:=by
  rw[hr0];exact(((Aca h).new hle1).add (f:=λ_=>O) (λb o hb=>by cases hb) (λx _ b _=>rfl)).add (f:=λ_=>O) (λb o hb=>by cases hb) (λx _ b _=>rfl)
 obtain⟨g1,st1,hS1⟩:=Ab6 hg0 Q1 (P9 MO ho1);clear Q1 ho1 hob hle1 hp;refine Ae ?_;refine Aj (λi:Nat=>[O,U (.pointer (U ⟨p,0,O⟩)),U (.int .i64 (i:Nat)),O,O])
  (λi H=>i<=16/\∃ g,Av (λ_=>O) h g H/\SO MO g p ⟨cW i,[],O⟩) (λi=>16-i) 0 (by try simp only[Pf];rfl) ⟨oM,g1,st1,hS1⟩ ?_
 clear st1 hS1;rintro i H ⟨hi,g,st,hS⟩;have hwi:=wS i;refine Ae ?_;refine Ad (λc2=>?_) (λc2=>?_)
 ·have hq:IntKind.i64.wrap ((i:Int).tdiv 4)=((i/4:Nat):Int):=by
   rw[show(i:Int).tdiv 4=((i/4:Nat):Int)from by rw[Int.tdiv_eq_ediv_of_nonneg oM];omega,BC oM oM]
  have hr:∀ h,A8 h (.bin .rem) (.v (.int .i64 (i:Int))) (.v (.int .i64 4))=U (.v (.int .i64 ((i%4:Nat):Int))):=λh=>by
   simp only[A8,Bj,Gt,if_true,YH];rw[if_neg (by decide),show(i:Int).tmod 4=((i%4:Nat):Int)from by rw[Int.tmod_eq_emod_of_nonneg oM];omega];rfl
  refine AH @hq @hr ?_;rw[AI,AI,AI,show 0+6+i/4*4+i%4=6+i by omega];refine hS.conf st.le (6+i) oM (-1) λg2 h2 st2 hS2=>?_;dsimp only at hS2;rw[Vs]at hS2;refine Ap @hwi ?_;exact Ag (i+1) oM sE ⟨oM,g2,st.trans st2,hS2⟩
 ·have hi4:i=16:=oM;subst hi4;refine Ae ?_;exact hK p g H st hS
theorem Wa.tag_good {w:Wa} {fed:Nat} (hok:w.Ok fed) (h:w.AlJ):∀ a∈w.al,∃t,BS a.tag=U t:=by
 intro a ha;rw[h]at ha;unfold Wa.alN Wa.alE Wa.lookR at ha;simp only[List.mem_flatMap,List.mem_range,Yu,List.mem_filter]at ha;obtain⟨e,he,i,hi,t,⟨ht,_⟩,rfl⟩:=ha;obtain⟨l,hl,s,hs,hst⟩:=(CG _ t).1 ht;have:=((hok.Eb l (Z4 hl)).2 s hs).2.2;rw[hst]at this;dsimp only;cases hq:BS t with
 |none=>exact absurd ((Di t).2 hq) this
 |some t=>exact⟨t,rfl⟩
noncomputable def Se.onT (s:Se) (w:Wa) (w0:List UInt8) (n:List Int) (last:List UInt8):Wa×List UInt8:=match s.on w w0 (n.getD 0 0) n last with
 |none=>(w,Dj 4)
 |some q=>q
def S311:Spec:=λargs h K=>∃ g p s k w w0 n last,args=[.pointer (U ⟨p,0,O⟩),.string (str w0),Xj n,.string (str last)]/\SO MO g p s/\s.w=U w/\Heap.le g h/\s.Ok k/\k<=110/\last.length<=300/\(Cq w0).isSome/\w0≠[115,101,116]/\w0≠[97,116]/\w0≠[115,116,97,114,116] /\
 ∀ g' h',Av g h g' h'->SO MO g' p { s with w:=U (s.onT w w0 n last).1 }->K (.string (str (s.onT w w0 n last).2)) h'
set_option maxHeartbeats 4000000 in
theorem F311_ok {N:Num} {Γ:Ctx} [Ak Γ] (H270:Sat S270 (Γ 270)) (H321:Sat S321 (Γ 321)) (H308:Sat S308 (Γ 308)) (H85:Sat S85i (Γ 85)) (H322:Sat S322 (Γ 322)) (H272:Sat S272 (Γ 272)) (H284:Sat S284 (Γ 284)) (H110:Sat S110 (Γ 110)) (H164:Sat S164 (Γ 164)) (H281:Sat S281 (Γ 281)) (H166:Sat S166 (Γ 166)) (H65:Sat S65 (Γ 65)) (H17:Sat S17 (Γ 17)) (H22:Sat S22 (Γ 22)) (H52:Sat S52 (Γ 52)) (H287:Sat S287 (Γ 287)):Sat S311 (SF N Γ F311):=by
 rintro _ h K ⟨g,p,s,k,w,w0,n,last,rfl,hS,hsw,hg,hok,hk,hl300,hmn,hn1,hn2,hn3,hK⟩;obtain⟨hwok,hwA,hwK,hwm,tl,hwr⟩:=hok.w w hsw;have hsm:=Se.same hsw;obtain⟨F,rv,gs,gr,gw,hps,hw⟩:=id hS;have Q0:=hps.rest hg;obtain⟨pw,e23,hM⟩:=hw.ptr hsw;refine An rfl ?_;simp only[F311,Ze,Nat.reduceSub,Nat.reduceAdd,Xj];unfold Se.onT Se.on at hK;refine Ae ?_;refine AO λb4 h1 hle1 hb4 ho4=>?_;have Q1:=Q0.new hle1;have hst1:Av g h g h1:=Av.more hg hle1;have ho4':Ah (fr h h1) ⟨b4,0,O⟩ [.int .i64 (n.getD 0 0),.int .i64 (n.getD 1 0),.int .i64 (n.getD 2 0),.int .i64 (n.getD 3 0),.int .i64 (n.getD 4 0),.int .i64 (n.getD 5 0)]:=ho4;have NA:∀ H,Heap.le (fr h h1) H->∀ j,j<6->H.cell ((⟨b4,0,O⟩:Addr).add j)=U (.int .i64 (n.getD j 0)):=λH hl j hj=>by
  have:=(ho4'.le hl).rules.1 j (by simpa using hj);rw[this];rcases(by omega:j=0\/j=1\/j=2\/j=3\/j=4\/j=5)with rfl|rfl|rfl|rfl|rfl|rfl<;>rfl
 generalize fr h h1=A at *;clear ho4 ho4' Q0;have hM1:=hM;have C23:∀ H,Heap.le gs H->H.cell ((⟨p,0,O⟩:Addr).add 23)=U (.pointer (U ⟨pw,0,O⟩)):=λH hl=>by rw[hw.cell hl oM,e23]
 have D23:=C23 h1 (Q1.lt 1 rfl);have N0:=NA h1 (Q1.lt 4 rfl) 0 oM;have hle0:=λ(H:Heap) (hl:Heap.le h1 H)=>Av.more hg (hle1.trans hl);have keep:∀ H,Heap.le h1 H->Av g h g H/\SO MO g p s:=λH hl=>⟨Av.more hg (hle1.trans hl),hS⟩
 have upd:∀ gw' H w',Ps H [rest g h,gs,gr,gw',A]->MO gw' pw w'->∃ g',Av g h g' H/\SO MO g' p { s with w:=U w' }:=λgw' H w' q hm=>Ab6 hg (q.take 4) (hw.upw e23 hm);refine Ae ?_;refine Ad (λd1=>?_) (λd1=>?_)
 ·rw[if_pos d1]at hK;refine AH @D23 @N0 ?_;refine Aa H270 ⟨gw,pw,w,_,n.getD 0 0,rfl,hM,Q1.lt 3 rfl,hwok,oM,λhb=>?_,λm hmm hmn g3 h3 st3 hW3=>?_⟩
  ·rw[if_pos hb]at hK;dsimp only at hK;rw[hsm]at hK;refine Ae ?_;refine Aa H321 ⟨0,1,rfl,oM,oM,oM,λh8 hle8=>?_⟩;refine Ae ?_;exact hK g h8 (keep h8 hle8).1 hS
  ·have hz0:=hwok.now;have hcl:(w.closed m).length<=1000:=by rw[Wa.closed_len];have:=DY (size:=(w.c 0).toNat) (late:=(w.c 1).toNat) hmn;omega
   rw[if_neg oM,show(n.getD 0 0).toNat=m by omega]at hK;dsimp only at hK;obtain⟨g5,q6,q7⟩:=upd g3 h3 _ (Q1.step 3 rfl st3) hW3;refine Ae ?_;refine Aa H321 ⟨(((w.closed m).length:Nat):Int),0,rfl,oM,oM,oM,λh8 hle8=>?_⟩;unfold D9;rw[if_pos rfl,Bi];refine Ae ?_;exact hK g5 h8 (q6.trans (Av.more q6.le hle8)) q7
 rw[if_neg d1]at hK;refine Ae ?_;refine Ad (λd4=>?_) (λd4=>?_)
 ·have e2:w0≠[102,101,101,100]:=by rw[d4];decide
  have e3:w0≠[114,101,97,100]:=by rw[d4];decide
  rw[if_neg e2,if_neg e3,if_pos d4]at hK;dsimp only at hK;rw[hsm]at hK;refine Ap @N0 ?_;refine Ad (λhb=>?_) (λhb=>?_)
  ·rw[if_pos hb]at hK;refine Ae ?_;refine Aa H308 ⟨1,rfl,oM,λh8 hle8=>?_⟩;refine Ae ?_;exact hK g h8 (keep h8 hle8).1 hS
  ·rw[if_neg hb]at hK;obtain⟨j,hj⟩:∃ j:Nat,n.getD 0 0=j:=⟨(n.getD 0 0).toNat,oM⟩
   have hj4:j<4:=oM;have hwj:=hwm j hj4;rw[hj,Aaa]at hK;rw[hj]at N0;obtain⟨F',rv',av,kv,bm,gw1,gr1,ga,gt,gk,Qm,hwp⟩:=hM.read (Q1.lt 3 rfl);have CW:=hwp.cWarm (Qm.lt 0 rfl) hj4;refine CS @D23 @N0 @CW ?_;refine Aa H85 ⟨w.wm j,rfl,oM,oM,λh8 hle8=>?_⟩;refine Ae ?_;exact hK g h8 (keep h8 hle8).1 hS
 rw[if_neg d4]at hK;refine Ae ?_;refine Ad (λd2=>?_) (λd2=>?_)
 ·rw[if_pos d2]at hK;refine Ae ?_;refine Aa H322 ⟨last,rfl,oM,λx h3 hle3 hx=>?_⟩;cases hu:Dk last with
  |none=>
   rw[hu]at hK;dsimp only at hK;rw[hsm]at hK;refine Ae ?_;refine Aa H308 ⟨4,rfl,oM,λh8 hle8=>?_⟩;refine Ae ?_;exact hK g h8 (keep h8 (hle3.trans hle8)).1 hS
  |some b=>
   obtain rfl:x=b:=hx b hu;have hbl:=Lb hu;rw[hu]at hK;dsimp only at hK;unfold Ab4 at hK;have Q3:=Q1.up hle3;have D3:=C23 h3 (Q3.lt 1 rfl);have N3:=NA h3 (Q3.lt 4 rfl) 0 oM;have hff:=Io (n.getD 0 0) x;refine AH @D3 @N3 ?_;by_cases hF:Cr (n.getD 0 0) x=0;rotate_left
   ·rw[if_neg hF]at hK;dsimp only at hK;rw[hsm]at hK;refine Aa H272 ⟨gw,pw,w,_,n.getD 0 0,x,rfl,hM,Q3.lt 3 rfl,hwok,λe=>absurd e hF,λ_=>?_,λe=>absurd e hF⟩;refine Ae ?_;refine Aa H321 ⟨0,_,rfl,oM,oM,oM,λh8 hle8=>?_⟩;unfold D9;rw[if_neg hF];refine Ae ?_;exact hK g h8 (keep h8 (hle3.trans hle8)).1 hS
   rw[if_pos hF]at hK;dsimp only at hK;obtain⟨r1,r2,r3⟩:=Im hF;have hfn:=Il w (n.getD 0 0).toNat x;have hln:=hwok.ln_le (r:=(n.getD 0 0).toNat) oM;refine Aa H272 ⟨gw,pw,w,_,n.getD 0 0,x,rfl,hM,Q3.lt 3 rfl,hwok,λ_=>by omega,λe=>absurd hF e,λ_ gw' h7 st7 hW7=>?_⟩;obtain⟨g8,q6,q7⟩:=upd gw' h7 _ (Q3.step 3 rfl st7) hW7;refine Ae ?_;refine Aa H321 ⟨_,0,rfl,oM,oM,oM,λh8 hle8=>?_⟩;unfold D9;rw[if_pos rfl,Bi];refine Ae ?_;exact hK g8 h8 (q6.trans (Av.more q6.le hle8)) q7
 rw[if_neg d2]at hK;refine Ae ?_;refine Ad (λd5=>?_) (λd5=>?_)
 ·have e3:w0≠[114,101,97,100]:=by rw[d5];decide
  rw[if_neg e3,if_pos d5]at hK;dsimp only at hK;refine Ap @D23 ?_;refine Aa H284 ⟨gw,pw,w,_,rfl,hM,Q1.lt 3 rfl,hwok,λgw' h3 v8 st3 hM3 hA=>?_⟩;have hAe:w.alN w.E.length=w.al:=hwA.symm;rw[hAe]at hA;have Q3:=Q1.step 3 rfl st3;obtain⟨g5,q6,q7⟩:=upd gw' h3 w Q3 hM3;have hmem:=Wa.al_mem hwA;have htg:=Wa.tag_good hwok hwA;have hal:=hwok.al;have hEl:=hwok.Elen;have hnm:=hok.nm;have hrl:w.rs.length<=s.rs.length:=by rw[hwr];simp
  have hwl:=hwok.rl;unfold Xq at hK;generalize w.al=AL at *;have R:=hA.rules 3 Bu default;refine Ap @R ?_;refine Aj (λj:Nat=>[U (.pointer (U ⟨p,0,O⟩)),U (.string (str w0)),O,U (.string (str last)),U (.pointer (U ⟨b4,0,O⟩)),O,O,O,U v8,U (.string (str (B7 ((AL.take j).map (E5 s.rs))))),U (.int .i64 (j:Nat)),O,O,O,O,O,O,O,O,O,O,O,O,O,O,O,O,O,O,O,O,O,O,O,O,O,O,O,O,O,O,O,O,O,O,O,O,O,O,O,O,O,O,O,O,O,O,O,O,O,O,O,O,O,O,O,O,O,O,O,O,O,O,O,O,O,O,O,O,O,O,O,O,O,O,O,O,O,O,O,O,O,O,O,O])
   (λj H=>j<=AL.length/\Heap.le h3 H) (λj=>AL.length-j) 0 (by try simp only[Pf];first|rfl|exact⟨rfl,rfl⟩) ⟨oM,ZX h3⟩ ?_
  clear R;rintro j H ⟨hj,hH⟩;have hwj:=wS j;have R:=(hA.le hH).rules 3 Bu default;have hlen:∀ x∈(AL.take j).map (E5 s.rs),x.length<=200:=λx hx=>by
   obtain⟨a,ha,rfl⟩:=Yu.1 hx;obtain⟨i,e,t,rfl,hi,he⟩:=hmem a (Z4 ha);unfold E5;have l1:=hnm _ (As (default:Rl) (show i<s.rs.length by omega));have l2:=AG 4 (n:=e) oM oM;have l3:=HW t;simp only[Aaa,Zk,Y5,ZR];omega
  have hjl:=IV _ hlen;rw[Aaw,Zn]at hjl;refine Ap @R ?_;refine Ad (λc7=>?_) (λc7=>?_);rotate_left
  ·have:j=AL.length:=oM;subst this;rw[Z5];by_cases e:AL=[]
   ·rw[if_pos e]at hK;subst e;have e0:B7 (([]:List Al).map (E5 s.rs))=[]:=rfl;rw[e0];refine Ae ?_;exact hK g5 H (q6.trans (Av.more q6.le hH)) q7
   ·rw[if_neg e]at hK;have hne:B7 (AL.map (E5 s.rs))≠[]:=by
     cases AL with
     |nil=>exact absurd rfl e
     |cons a r=>
      have ha:E5 s.rs a≠[]:=by unfold E5;simp
      cases r with
      |nil=>simpa[B7]using ha
      |cons b r=>simp[B7,ha]
    have hT:(B7 (AL.map (E5 s.rs))=[])=False:=eq_false hne;refine Ap @hT ?_;exact hK g5 H (q6.trans (Av.more q6.le hH)) q7
  have hj2:j<AL.length:=oM;have hnx:AL.take (j+1)=AL.take j++[AL.getD j default]:=Ai default hj2;obtain⟨ri,e,t,hae,hri,he⟩:=hmem _ (As (default:Al) hj2);obtain⟨tg,htg2⟩:=htg _ (As (default:Al) hj2);rw[hae]at hnx htg2;dsimp only at htg2;have l1:=hnm _ (As (default:Rl) (show ri<s.rs.length by omega));have hsr:s.rs.getD ri default=w.rs.getD ri default:=by
   rw[hwr,Zp,Zl hri,<-Zp]
  have hit:E5 s.rs ⟨ri,e,t⟩=(w.rs.getD ri default).name++[32]++Bo e++[32]++Bc tg:=by
   unfold E5 Jv;simp only[Aaa];rw[htg2,hsr]
  have hja:B7 ((AL.take (j+1)).map (E5 s.rs))=(if j=0 then[]else B7 ((AL.take j).map (E5 s.rs))++[44,32])++E5 s.rs ⟨ri,e,t⟩:=by
   rw[hnx,List.map_append];by_cases z:j=0
   ·subst z;simp[B7]
   ·rw[if_neg z];refine Ki _ _ ?_;intro ee;have hl:((AL.take j).map (E5 s.rs)).length=j:=by rw[Aaw,Zn];omega
    rw[ee]at hl;exact z hl.symm
  rw[hsr]at l1;have l2:=AG 4 (n:=e) oM oM;have l3:=HW t;unfold Jv at l3;rw[htg2]at l3;dsimp only at l3;obtain⟨pa,hpa,k1,k2,f1,f2,s1,s2,cc1,cc2,rr1,rr2⟩:=Acb (Gd htg2);obtain⟨_,p1,p2,p3,p4,_⟩:=AW hpa;have hcd:10^pa.cd<=10^6:=ZZ oM p2;have hrd:10^pa.rd<=10^6:=ZZ oM p4;obtain⟨acc,hacc⟩:∃ acc,acc=if j=0 then[]else B7 ((AL.take j).map (E5 s.rs))++[44,32]:=⟨_,rfl⟩
  have hal2:acc.length<=100000000:=by
   rw[hacc];split
   ·simp
   ·simp only[Zk,Y5,ZR];omega
  rw[<-hacc]at hja;refine Ae ?_;refine AT (λenv H2=>H2=H/\env=[U (.pointer (U ⟨p,0,O⟩)),U (.string (str w0)),O,U (.string (str last)),U (.pointer (U ⟨b4,0,O⟩)),O,O,O,U v8,U (.string (str acc)),U (.int .i64 (j:Nat)),O,O,O,O,O,O,O,O,O,O,O,O,O,O,O,O,O,O,O,O,O,O,O,O,O,O,O,O,O,O,O,O,O,O,O,O,O,O,O,O,O,O,O,O,O,O,O,O,O,O,O,O,O,O,O,O,O,O,O,O,O,O,O,O,O,O,O,O,O,O,O,O,O,O,O,O,O,O,O,O,O,O,O,O]) ?_ ?_;rotate_left
  ·refine Ad (λc8=>?_) (λc8=>?_)
   ·rw[if_neg oM]at hacc;refine Ae ?_;exact Ar _ (by rw[hacc];try simp only[Pf]) ⟨rfl,rfl⟩
   ·have hj0:j=0:=oM;rw[if_pos hj0]at hacc;have e0:B7 ((AL.take j).map (E5 s.rs))=[]:=by rw[hj0];rfl
    rw[e0];refine Ae ?_;exact Ar _ (by rw[hacc];try simp only[Pf]) ⟨rfl,rfl⟩
  rintro env H2 ⟨rfl,rfl⟩;refine CS @R @hae @DL.eq_1 ?_;refine Aa H110 ⟨t,rfl,λh6 hle6=>?_⟩;have hH6:=hH.trans hle6;have Q6:=Q3.up hH6;have D6:=C23 h6 (Q6.lt 1 rfl);have R6:=(hA.le hH6).rules 3 Bu default;obtain⟨F',rv',av,kv,bm,gw1,gr1,ga,gt,gk,Qm,hwp⟩:=hM3.read (Q6.lt 3 rfl);have CR:=hwp.c22 (Qm.lt 0 rfl);have RR:=(hwp.rs.le (Qm.lt 1 rfl)).rules 6 AbD default;generalize hre:w.rs.getD ri default=r at *;unfold SD;rw[htg2];refine XS @Co.eq_1 @R6 @hae @DL.eq_1 @D6 @CR @RR @hre @Rl.enc.eq_1 ?_;refine Aa H85 ⟨((e:Nat):Int),rfl,oM,oM,λh7 hle7=>?_⟩;rw[Bi];refine Cb (AE hle7) ?_;refine Ae ?_;refine Aa H164 ⟨tg,pa,rfl,hpa,oM,oM,oM,oM,λh8 hle8=>?_⟩;refine Ae ?_;refine CX (AE (hle7.trans hle8)) ?_;refine Ap @hwj ?_;refine Ag (j+1) oM ?_ ⟨oM,((hH.trans hle6).trans hle7).trans hle8⟩;rw[hja,hit]
  try simp only[Pf]
  simp only[Zy]
 rw[if_neg d5]at hK;refine Ae ?_;refine Ad (λd6=>?_) (λd6=>?_)
 ·have e3:w0≠[114,101,97,100]:=by rw[d6];decide
  rw[if_neg e3,if_pos d6]at hK;dsimp only at hK;rw[hsm]at hK;obtain⟨b0,b1,b2,b3,b4'⟩:w.bytes<=20000/\w.dr 1<=20000/\w.dr 2<=20000/\w.dr 3<=20000/\w.dr 4<=20000:=by
   have h1:=hwok.sum;have h2:=hwok.d0;unfold Wa.bytes;omega
  have l0:=AG 5 (n:=w.bytes) oM oM;have l1:=AG 5 (n:=w.dr 1) oM oM;have l2:=AG 5 (n:=w.dr 2) oM oM;have l3:=AG 5 (n:=w.dr 3) oM oM;have l4:=AG 5 (n:=w.dr 4) oM oM;refine Ap @D23 ?_;refine Aa H281 ⟨gw,pw,w,_,rfl,hM,Q1.lt 3 rfl,hwok,oM,?_⟩;unfold Iz;refine Ae ?_;refine Aa H85 ⟨((w.bytes:Nat):Int),rfl,oM,oM,λh2 hle2=>?_⟩;rw[Bi];refine Cb (AE hle2) ?_;refine Ae ?_;refine Aa H85 ⟨((w.dr 1:Nat):Int),rfl,oM,oM,λh3 hle3=>?_⟩;rw[Bi];refine Ae ?_;refine CX (AE (hle2.trans hle3)) ?_;refine Ae ?_;refine Aa H85 ⟨((w.dr 2:Nat):Int),rfl,oM,oM,λh4 hle4=>?_⟩;rw[Bi];refine Ae ?_;refine CX (AE ((hle2.trans hle3).trans hle4)) ?_;refine Ae ?_;refine Aa H85 ⟨((w.dr 3:Nat):Int),rfl,oM,oM,λh5 hle5=>?_⟩;rw[Bi];refine Ae ?_;refine CX (AE (((hle2.trans hle3).trans hle4).trans hle5)) ?_;refine Ae ?_;refine Aa H85 ⟨((w.dr 4:Nat):Int),rfl,oM,oM,λh6 hle6=>?_⟩;rw[Bi];refine Ae ?_;exact hK g h6 (keep h6 ((((hle2.trans hle3).trans hle4).trans hle5).trans hle6)).1 hS
 rw[if_neg d6]at hK;refine Ae ?_;have hon:∀ tg,FG last=U tg->(match (if w0=[114,101,97,100]then U (w.readT n last)else U (w,w.findT w0 last (n.getD 0 0)):Option (Wa×List UInt8))with
   |none=>(w,Dj 4)
   |some q=>q)=if w0=[114,101,97,100]then w.readT n last else(w,w.findT w0 last (n.getD 0 0)):=λtg _=>by
  by_cases e:w0=[114,101,97,100]
  ·rw[if_pos e,if_pos e]
  ·rw[if_neg e,if_neg e]
 cases ht:FG last with
 |none=>
  have hr:(match (if w0=[114,101,97,100]then U (w.readT n last)else U (w,w.findT w0 last (n.getD 0 0)):Option (Wa×List UInt8))with
   |none=>(w,Dj 4)
   |some q=>q)=(w,Dj 4):=by
   unfold Ab3 Ab7;rw[ht];by_cases e:w0=[114,101,97,100]
   ·rw[if_pos e]
   ·rw[if_neg e]
  rw[hr]at hK;dsimp only at hK;rw[hsm]at hK;refine Aa H166 ⟨last,rfl,oM,λu h1 h2=>absurd h2 (Gc ht u h1),λ_ h2 hle2=>?_⟩;refine AH @Co.eq_1 @Tg.zero.eq_1 ?_;refine Aa H308 ⟨4,rfl,oM,λh8 hle8=>?_⟩;refine Ae ?_;exact hK g h8 (keep h8 (hle2.trans hle8)).1 hS
 |some tg=>
 rw[hon tg ht]at hK;clear hon;obtain⟨q1,q2⟩:=Gb ht;refine Aa H166 ⟨last,rfl,oM,λu h1 h2 h3 hle3=>?_,λe=>absurd q2 (e tg q1)⟩;obtain rfl:u=tg:=FZ h1 q1 (h2.trans q2.symm);obtain⟨pa,hpa,k1,k2,f1,f2,s1,s2,cc1,cc2,rr1,rr2⟩:=Acb q1;obtain⟨_,p1,p2,p3,p4,_⟩:=AW hpa;have hcd:10^pa.cd<=10^6:=ZZ oM p2;have hrd:10^pa.rd<=10^6:=ZZ oM p4;refine Ap @Co.eq_1 ?_;refine Aa H65 ⟨u,pa,rfl,hpa,oM,oM,oM,oM,oM,oM,oM,oM,oM,oM,λh4 hle4=>?_⟩;have hle14:=hle3.trans hle4;have Q4:=Q1.up hle14;have hbl:(AD u).length=8:=DG _;refine Ae ?_;refine Ad (λd3=>?_) (λd3=>?_)
 ·rw[if_pos d3]at hK;unfold Ab3 at hK;rw[ht]at hK;dsimp only at hK;have N0:=NA h4 (Q4.lt 4 rfl) 0 oM;have N1:=NA h4 (Q4.lt 4 rfl) 1 oM;have N2:=NA h4 (Q4.lt 4 rfl) 2 oM;have N3:=NA h4 (Q4.lt 4 rfl) 3 oM;refine CS @N1 @N2 @N3 ?_;refine Bg Rd.enc 4 (λ_=>rfl) [⟨n.getD 1 0,n.getD 2 0,n.getD 3 0,AD u⟩] rfl rfl (by simp[maxLen]) λx5 b5 h5 hle5 hb5 hx5 hS5=>?_;have hle15:=hle14.trans hle5;have Q5:=Q1.up hle15;have O5:=hS5.one;have hfv:PH (fr h4 h5) (.agg #[.int .i64 1,x5,.int .i64 0]) (Jw n (AD u)):=⟨_,rfl,BE.sl (λ_=>rfl) hS5⟩
  have hfl:=Fr.fault_le (Jw n (AD u));have hb48:=λe=>J0 (n:=n) (b:=AD u) e;generalize Jw n (AD u)=f at *;refine AH O5.1 O5.2 ?_;refine Aa H17 ⟨_,f,rfl,hfv.le (Au _ _),?_⟩;by_cases hf:f.fault=0;rotate_left
  ·rw[if_neg hf]at hK;dsimp only at hK;rw[hsm]at hK;have hpos:(0:Int)<(f.fault:Nat):=oM;refine Ap @hpos ?_;refine Aa H308 ⟨f.fault,rfl,oM,λh8 hle8=>?_⟩;refine Ae ?_;exact hK g h8 (keep h8 (hle15.trans hle8)).1 hS
  rw[if_pos hf]at hK;have hb:=hb48 hf;have hpos:((0:Int)<((0:Nat):Int))=False:=by simp
  have D5:=C23 h5 (Q5.lt 1 rfl);have N5:=NA h5 (Q5.lt 4 rfl) 0 oM;rw[hf];refine CS @hpos @D5 @N5 ?_;refine Aa H22 ⟨_,f,rfl,hfv.le (Au _ _),hf,λh6 hle6=>?_⟩;have hle16:=hle15.trans hle6;have Q6:=Q1.up hle16;unfold Ab4 at hK;have hff:=Io (n.getD 0 0) f.bytes;refine Cb (AE hle6) ?_;refine Ae ?_;by_cases hF:Cr (n.getD 0 0) f.bytes=0;rotate_left
  ·rw[if_neg hF]at hK;dsimp only at hK;rw[hsm]at hK;refine Aa H272 ⟨gw,pw,w,_,n.getD 0 0,f.bytes,rfl,hM,Q6.lt 3 rfl,hwok,λe=>absurd e hF,λ_=>?_,λe=>absurd e hF⟩;refine Ae ?_;refine Aa H321 ⟨0,_,rfl,oM,oM,oM,λh8 hle8=>?_⟩;unfold D9;rw[if_neg hF];refine Ae ?_;exact hK g h8 (keep h8 (hle16.trans hle8)).1 hS
  rw[if_pos hF]at hK;dsimp only at hK;obtain⟨r1,r2,r3⟩:=Im hF;have hfn:=Il w (n.getD 0 0).toNat f.bytes;have hln:=hwok.ln_le (r:=(n.getD 0 0).toNat) oM;refine Aa H272 ⟨gw,pw,w,_,n.getD 0 0,f.bytes,rfl,hM,Q6.lt 3 rfl,hwok,λ_=>by omega,λe=>absurd hF e,λ_ gw' h7 st7 hW7=>?_⟩;obtain⟨g8,q6,q7⟩:=upd gw' h7 _ (Q6.step 3 rfl st7) hW7;refine Ae ?_;refine Aa H321 ⟨_,0,rfl,oM,oM,oM,λh8 hle8=>?_⟩;unfold D9;rw[if_pos rfl,Bi];refine Ae ?_;exact hK g8 h8 (q6.trans (Av.more q6.le hle8)) q7
 rw[if_neg d3]at hK;dsimp only at hK;unfold Ab7 at hK;rw[ht]at hK;dsimp only at hK;have D4:=C23 h4 (Q4.lt 1 rfl);have N4:=NA h4 (Q4.lt 4 rfl) 0 oM;obtain⟨w1,w2,w3⟩:=Sv w (AD u) (n.getD 0 0);have hp2:=Vg w (AD u) (n.getD 0 0);refine Ae ?_;refine Ad (λd7=>?_) (λd7=>?_)
 ·have e3:w0≠[105,110]:=by rw[d7];decide
  rw[if_neg e3]at hK;obtain⟨F',rv',av,kv,bm,gw1,gr1,ga,gt,gk,hpsM,hwp⟩:=hM;have Qm:=hpsM.up (Q4.lt 3 rfl);have C39:=hwp.c39 (Qm.lt 0 rfl);refine CS @D4 @N4 @C39 ?_;refine Aa H52 ⟨gt,bm,_,_,_,AD u,n.getD 0 0,rfl,hwp.tr,Qm.lt 3 rfl,hwok.mokE,oM,λgt1 h5 st5 hT5=>?_⟩;obtain⟨gM1,sM1,hM1⟩:=MO.of (w:=w) (Q4.lt 3 rfl) ((hpsM.rest (Q4.lt 3 rfl)).step 4 rfl st5) { hwp with tr:=hT5 };obtain⟨g5,q6,q7⟩:=upd gM1 h5 w (Q4.step 3 rfl sM1) hM1;have hwd:Cw.whr (w.c 2).toNat (w.c 3).toNat w.E (AD u) (n.getD 0 0)=w.whr (AD u) (n.getD 0 0):=rfl;rw[hwd];generalize w.whr (AD u) (n.getD 0 0)=q at *;refine Ae ?_;by_cases hf:q.2=0
  ·rw[if_pos hf]at hK;have hfT:(((q.2:Nat):Int)=0)=True:=eq_true oM;by_cases hn:q.1<0
   ·rw[if_pos hn]at hK;have hnT:(q.1<0)=True:=eq_true hn;refine AH @hfT @hnT ?_;exact hK g5 h5 q6 q7
   ·rw[if_neg hn]at hK;have hnT:(q.1<0)=False:=eq_false hn;refine AH @hfT @hnT ?_;refine Aa H321 ⟨q.1,q.2,rfl,oM,oM,oM,λh8 hle8=>?_⟩;unfold D9;rw[if_pos hf];refine Ae ?_;exact hK g5 h8 (q6.trans (Av.more q6.le hle8)) q7
  ·rw[if_neg hf]at hK;have hfT:(((q.2:Nat):Int)=0)=False:=eq_false oM;refine Ap @hfT ?_;refine Aa H321 ⟨q.1,q.2,rfl,oM,oM,oM,λh8 hle8=>?_⟩;unfold D9;rw[if_neg hf];refine Ae ?_;exact hK g5 h8 (q6.trans (Av.more q6.le hle8)) q7
 have hin:w0=[105,110]:=by
  refine Classical.byContradiction λe=>?_;unfold Cq at hmn;rw[if_neg hn1,if_neg hn2,if_neg (by rintro((q|q)|q)<;>contradiction),if_neg (by rintro(q|q)<;>contradiction),if_neg (by rintro((q|q)|q)<;>contradiction),if_neg d3]at hmn;cases hmn
 rw[if_pos hin]at hK;refine AH @D4 @N4 ?_;refine Aa H287 ⟨gw,pw,w,_,AD u,n.getD 0 0,rfl,hM,Q4.lt 3 rfl,hwok,oM,λgw' h5 st5 hM5=>?_⟩;obtain⟨g5,q6,q7⟩:=upd gw' h5 w (Q4.step 3 rfl st5) hM5;by_cases hf:(w.par (AD u) (n.getD 0 0)).2=0;rotate_left
 ·rw[if_neg hf]at hK;have hpos:(0:Int)<((w.par (AD u) (n.getD 0 0)).2:Nat):=oM;refine Ap @hpos ?_;refine Aa H308 ⟨_,rfl,oM,λh8 hle8=>?_⟩;refine Ae ?_;exact hK g5 h8 (q6.trans (Av.more q6.le hle8)) q7
 rw[if_pos hf]at hK;have hpg:(w.par (AD u) (n.getD 0 0)).1=[]\/BS (w.par (AD u) (n.getD 0 0)).1≠O:=by
  have hf2:¬ (w.whr (AD u) (n.getD 0 0)).2≠0:=oM;unfold Wa.par;rw[if_neg hf2];exact S4 hwok _ _
 have hz:((0:Int)<((0:Nat):Int))=False:=by simp
 rw[hf];generalize (w.par (AD u) (n.getD 0 0)).1=q at *;by_cases hq:q=[]
 ·have e0:Jv q=[45]:=by rw[hq];rfl
  rw[e0]at hK;have hqT:(q=[])=True:=eq_true hq;refine AH @hz @hqT ?_;exact hK g5 h5 q6 q7
 ·have hqT:(q=[])=False:=eq_false hq;cases htq:BS q with
  |none=>exact absurd htq (hpg.resolve_left hq)
  |some t=>
   have e0:Jv q=Bc t:=by unfold Jv;rw[htq]
   rw[e0]at hK;obtain⟨pa2,hpa2,k1',k2',f1',f2',s1',s2',cc1',cc2',rr1',rr2'⟩:=Acb (Gd htq);obtain⟨_,p1',p2',p3',p4',_⟩:=AW hpa2;have hcd':10^pa2.cd<=10^6:=ZZ oM p2';have hrd':10^pa2.rd<=10^6:=ZZ oM p4';refine AH @hz @hqT ?_;refine Aa H110 ⟨q,rfl,λh6 hle6=>?_⟩;unfold SD;rw[htq];refine Ap @Co.eq_1 ?_;refine Aa H164 ⟨t,pa2,rfl,hpa2,oM,oM,oM,oM,λh8 hle8=>?_⟩;refine Ae ?_;exact hK g5 h8 (q6.trans (Av.more q6.le (hle6.trans hle8))) q7
theorem SO.cfg {N:Num} {Γ:Ctx} {X:Heap->Nat->Wa->Prop} {g h:Heap} {p:Nat} {s:Se} (hS:SO X g p s) (hg:Heap.le g h) (c:Nat->Int) {K:Value->Heap->Prop}
  (hK:∀ g' h',Av g h g' h'->SO X g' p { s with c:=c }->K undef h'):By N Γ (.st 22) [.pointer (U ((⟨p,0,O⟩:Addr).add 0)),KO c] h K:=by
 obtain⟨F,rv,gs,gr,gw,hps,hw⟩:=hS;have Q0:=hps.rest hg;have hl:=Q0.lt 1 rfl;have hob:=hw.ob;have hb:gs p≠O:=by obtain⟨_,cc,t,q,_⟩:=hob;rw[q];simp
 have he:gs p=h p:=by
  cases e:gs p with
  |none=>exact absurd e hb
  |some o=>exact(hl p o e).symm
 refine Br (x:=KO c) (Ah.le hob hl) 0 22 rfl rfl oM (by simp) λo q1 _=>?_;have st:=Av.set hl hb o;have q2:=q1 gs he;have ho2:Cp (gs.set p o) p 24 (λk=>if k<22 then .int .i64 (c k)else F k):=q2;have hsp:SP X p { s with c:=c } (λk=>if k<22 then .int .i64 (c k)else F k) rv (gs.set p o) gr gw:=
  ⟨ho2,λk hk=>by dsimp only;rw[if_pos hk],hw.r,hw.rs,hw.w⟩
 obtain⟨g7,q6,q7⟩:=Ab6 hg (Q0.step 1 rfl st) hsp;exact hK g7 _ q6 q7
theorem SO.row16 {X:Heap->Nat->Wa->Prop} {g h:Heap} {p:Nat} {s:Se} (hS:SO X g p s) (hg:Heap.le g h):h.row (((⟨p,0,O⟩:Addr).add 0).add 6) 16=U #[.int .i64 (s.c 6),.int .i64 (s.c 7),.int .i64 (s.c 8),.int .i64 (s.c 9),.int .i64 (s.c 10),.int .i64 (s.c 11),.int .i64 (s.c 12),.int .i64 (s.c 13),.int .i64 (s.c 14),.int .i64 (s.c 15),.int .i64 (s.c 16),.int .i64 (s.c 17),.int .i64 (s.c 18),.int .i64 (s.c 19),.int .i64 (s.c 20),.int .i64 (s.c 21)]:=by
 obtain⟨F,rv,gs,gr,gw,hps,hw⟩:=hS;have h:=hw;rw[AI];have:=((Cp.le h.ob ((hps.lt 0 rfl).trans hg)).row).row (i:=6) (n:=16) (by simp);rw[show 0+6=6 from rfl,this,<-h.c 6 oM,<-h.c 7 oM,<-h.c 8 oM,<-h.c 9 oM,<-h.c 10 oM,<-h.c 11 oM,<-h.c 12 oM,<-h.c 13 oM,<-h.c 14 oM,<-h.c 15 oM,<-h.c 16 oM,<-h.c 17 oM,<-h.c 18 oM,<-h.c 19 oM,<-h.c 20 oM,<-h.c 21 oM];rfl
def S304:Spec:=λargs h K=>∃ g p s k l,args=[.pointer (U ⟨p,0,O⟩),.string (str l)]/\SO MO g p s/\Heap.le g h/\s.Ok k/\k<=110/\l.length<=1000000 /\
 ∀ g' h',Av g h g' h'->SO MO g' p (s.say l).1->K (.string (str ((s.say l).2.getD (Dj 4)))) h'
set_option maxHeartbeats 4000000 in
theorem F304_ok {N:Num} {Γ:Ctx} [Ak Γ] (H308:Sat S308 (Γ 308)) (H173:Sat S173 (Γ 173)) (H183:Sat S183 (Γ 183)) (H309:Sat S309 (Γ 309)) (H310:Sat S310 (Γ 310)) (H267:Sat S267 (Γ 267)) (H268:Sat S268 (Γ 268)) (H311:Sat S311 (Γ 311)):Sat S304 (SF N Γ F304):=by
 rintro _ h K ⟨g,p,s,k,l,rfl,hS,hg,hok,hk,hll,hK⟩;have hrl:=hok.rl;refine An rfl ?_;simp only[F304,Ze,Nat.reduceSub,Nat.reduceAdd];unfold Ab9 at hK;refine Ae ?_;refine Ad (λc1=>?_) (λc1=>?_)
 ·rw[if_pos oM]at hK;refine Ae ?_;refine Aa H308 ⟨4,rfl,oM,λh1 hle1=>?_⟩;refine Ae ?_;exact hK g h1 (Av.more hg hle1) hS
 rw[if_neg oM]at hK;by_cases c2:l.take 5=[114,117,108,101,32]
 ·rw[if_pos c2]at hK;have h5:5<=l.length:=by
   have:=congrArg List.length c2;rw[Zn]at this;simp only[Y5,ZR]at this;omega
  have hT:(4<(l.length:Int))=True:=eq_true oM;have htk:l.take l.length=l:=Z5;have hT2:(l.take 5=[114,117,108,101,32])=True:=eq_true c2;unfold Se.rule at hK;refine CS @hT @hT2 @htk ?_;cases hr:HD (l.drop 5)with
  |none=>
   rw[hr]at hK;refine Aa H173 ⟨l.drop 5,rfl,by rw[ZO];omega,λr h1 h2=>absurd h2 (Jd hr r h1),λ_ h1 hle1=>?_⟩;refine Ap @FW.eq_1 ?_;refine Aa H308 ⟨4,rfl,oM,λh2 hle2=>?_⟩;refine Ae ?_;exact hK g h2 (Av.more hg (hle1.trans hle2)) hS
  |some r=>
  rw[hr]at hK;obtain⟨q1,q2⟩:=GG hr;refine Aa H173 ⟨l.drop 5,rfl,by rw[ZO];omega,λr' h1 h2 h3 hle1=>?_,λe=>absurd q2 (e r q1)⟩;obtain rfl:r'=r:=HZ h1 q1 (h2.trans q2.symm);have hnm:r'.name.length<=12:=(Be.1 q1).1.2.1;obtain⟨F,rv,gs,gr,gw,hps,hw⟩:=hS;have Q1:=(hps.rest hg).up hle1;have C22:=hw.c22 (Q1.lt 1 rfl);have O1:=hw.rs.one;refine AH @FW.eq_1 @C22 ?_;refine Bg Rl.enc 6 AbD [r'] rfl rfl (by simp[maxLen]) λx1 b1 h2 hle2 hb1 hx1 hS1=>?_;have Q2:=Q1.up hle2;have O2:=hS1.one;refine Cb (AE hle2) ?_;refine Ek O2.1 O2.2 O1.1 O1.2 ?_;refine Cc (enc:=Rl.enc) (sz:=6) (g:=gr) (l:=s.rs) (l':=[r']) AbD (by simp[Rl.enc,one]) hw.rs (Q2.lt 2 rfl) (BE.sl AbD (hS1.le (Au _ _))) (by simp;omega) λv4 h4 gr' hS4 St4 e1 e2 e3=>?_;have Q4:=Q2.step 2 rfl St4;have O3:=hS4.one;refine AH O3.1 O3.2 ?_;refine BO hw.ob (Q4.lt 1 rfl) 22 O3.2 O3.1 oM λgs' h5 st5 ho5=>?_;have Q5:=Q4.step 1 rfl st5;refine Ae ?_;have hsp:SP MO p { s with rs:=s.rs++[r'] } (Dx F 22 v4) v4 gs' gr' gw:=by
   refine⟨ho5,λk hk=>by rw[Af oM];exact hw.c k hk,Bv,hS4,?_⟩;have:=hw.w;cases e:s.w with
   |none=>rw[e]at this;dsimp only at this ⊢;rw[Af oM];exact this
   |some w=>rw[e]at this;dsimp only at this ⊢;rw[Af oM];exact this
  obtain⟨g6,q6,q7⟩:=Ab6 hg Q5 hsp;exact hK g6 _ q6 q7
 rw[if_neg c2]at hK;have hcf:∀ {b:Bool},(4<(l.length:Int)->b=decide (l.take 5=[114,117,108,101,32]))->4<(l.length:Int)->b=false:=λh1 h2=>by rw[h1 h2];exact decide_eq_false c2
 have hT2:(l.take 5=[114,117,108,101,32])=False:=eq_false c2;by_cases h5:4<l.length
 case' pos=>
  have hT:(4<(l.length:Int))=True:=eq_true oM
  try simp(disch:=first|omega|(simp only[PL];omega)) only[Zr,simprocAttr,-reduceIte,hT,hT2]
 case' neg=>
  have hT:(4<(l.length:Int))=False:=eq_false oM
  try simp(disch:=first|omega|(simp only[PL];omega)) only[Zr,simprocAttr,-reduceIte,hT,hT2]
 all_goals
  clear hcf hT hT2;refine Aa H183 ⟨l,32,rfl,hll,λv5 h5 ho5=>?_⟩;have hle5:=ho5.1;have hWl:∀ x∈CI 32 l,x.length<=l.length:=B6;have hWn:=J2 32 l;have hWc:=JC 32 l;have O5:=ho5.one;have hZ:Sl AB (fr h h5) v5 (CI 32 l):=ho5.slf (enc:=AB) (sz:=1) (λ_=>rfl);generalize CI 32 l=W at *;have hW0:0<W.length:=Zx.2 hWn;clear ho5;have Q5:Ps h5 [rest g h,g,fr h h5]:=by
   have q1:Ps h [rest g h,g]:=⟨λx hx=>by simp at hx;rcases hx with rfl|rfl;exact Gn _ _;exact hg,by simp;exact λb hb=>by unfold rest at hb;split at hb;assumption;exact absurd rfl hb⟩
   exact q1.new hle5
  have hSt5:Av g h g h5:=Av.more hg hle5;generalize fr h h5=Z at *;generalize hw0:W.getD 0 []=w0 at *;unfold Ab5 at hK;rw[hw0]at hK;have R5:=(hZ.le (Q5.lt 2 rfl)).rules1 (λs=>.string (str s)) (λ_=>rfl) [];refine AH @R5 @hw0 ?_;refine Aa H309 ⟨w0,rfl,?_⟩;cases hm:Cq w0 with
  |none=>
   rw[hm]at hK;dsimp only at hK;have hI:Kc w0=(-1,0):=by unfold Kc;rw[hm]
   rw[hI];have w1:IntKind.i64.wrap (1+(-1))=0:=rfl;have w2:IntKind.i64.wrap 0=0:=rfl;have hne:((W.length:Int)≠0)=True:=eq_true oM;refine Ek @R5 @w1 @w2 @hne ?_;refine Aa H308 ⟨4,rfl,oM,λh2 hle2=>?_⟩;refine Ae ?_;exact hK g h2 (hSt5.trans (Av.more hSt5.le hle2)) hS
  |some ab=>
  obtain⟨k0,k1⟩:=ab;obtain⟨ha6,hb1⟩:=Nd hm;rw[hm]at hK;dsimp only at hK;have hI:Kc w0=(((k0:Nat):Int),((k1:Nat):Int)):=by unfold Kc;rw[hm]
  rw[hI];have w1:IntKind.i64.wrap (1+(k0:Int))=((1+k0:Nat):Int):=wN;have w2:IntKind.i64.wrap (((1+k0:Nat):Int)+(k1:Int))=((1+k0+k1:Nat):Int):=wN;refine CS @R5 @w1 @w2 ?_;refine Ad (λc3=>?_) (λc3=>?_)
  ·rw[if_pos oM]at hK;refine Ae ?_;refine Aa H308 ⟨4,rfl,oM,λh2 hle2=>?_⟩;refine Ae ?_;exact hK g h2 (hSt5.trans (Av.more hSt5.le hle2)) hS
  rw[if_neg oM]at hK;have hWL:W.length=1+k0+k1:=oM;clear c3 hI w1 w2;refine Ae ?_;refine AO λb8 h8 hle8 hb8 ho8=>?_;have Q8:=Q5.new hle8;have ho8':Cp (fr h5 h8) b8 6 (λj=>.int .i64 (([]:List Int).getD j 0)):=ho8;have hVl:((W.take (1+k0)).drop 1).length=k0:=by rw[ZO,Zn];omega
  have hVm:∀ x∈(W.take (1+k0)).drop 1,x.length<=1000000:=λx hx=>by have:=hWl x (Z4 (List.mem_of_mem_drop hx));omega
  have hVg:∀ i,i<k0->((W.take (1+k0)).drop 1).getD i []=W.getD (1+i) []:=λi hi=>by
   rw[Zp,List.getElem?_drop,List.getElem?_take_of_lt oM,<-Zp]
  generalize (W.take (1+k0)).drop 1=V at *;clear ho8 R5;refine Ae ?_;refine Aj (λi:Nat=>[U (.pointer (U ⟨p,0,O⟩)),U (.string (str l)),O,O,O,U v5,U (.int .i64 (k0:Nat)),O,U (.pointer (U ⟨b8,0,O⟩)),U (.int .i64 (i:Nat)),O,O,O,O,O,O,O,O,O,O,O,O,O,O,O,O,O,O,O,O,O,O,O,O,O,O,O,O,O,O,O,O,O,O,O,O,O,O,O])
   (λi H=>i<=k0/\∃ g8 n,Ps H [rest g h,g,Z,g8]/\Cp g8 b8 6 (λj=>.int .i64 (n.getD j 0))/\DX (V.take i)=U n) (λi=>k0-i) 0 (by try simp only[Pf];rfl) ⟨oM,_,[],Q8,ho8',rfl⟩ ?_
  clear Q8 ho8';rintro i H ⟨hi,g8,n,QH,hN,hnp⟩;have hwi:=wS i;have hwi1:IntKind.i64.wrap (1+(i:Int))=((1+i:Nat):Int):=wN;have R5:=(hZ.le (QH.lt 2 rfl)).rules1 (λs=>.string (str s)) (λ_=>rfl) [];have hnl:=IQ hnp;rw[Zn]at hnl;have hStH:Av g h g H:=QH.step1 hg;refine Ae ?_;refine Ad (λc4=>?_) (λc4=>?_)
  ·have A5:i<V.length:=oM;have hnx:=Ai [] A5;have hxl:=hVm _ (As [] A5);have hxm:V.getD i []∈V:=As [] A5;obtain⟨x,hx0⟩:∃ x,x=V.getD i []:=⟨_,rfl⟩
   rw[<-hx0]at hnx hxl hxm;have hx1:W.getD (1+i) []=x:=by rw[<-hVg i oM];exact hx0.symm
   refine CS @R5 @hwi1 @hx1 ?_;refine Aa H310 ⟨x,rfl,hxl,λh9 z hle9 hz=>?_⟩;have Q9:=QH.up hle9;cases hx:E8 x with
   |none=>
    have e:DX V=O:=IR hxm hx;rw[e]at hK;dsimp only at hK;refine Ae ?_;refine Aa H308 ⟨4,rfl,oM,λh2 hle2=>?_⟩;refine Ae ?_;exact hK g h2 (hStH.trans (Av.more hStH.le (hle9.trans hle2))) hS
   |some z'=>
    obtain rfl:=hz z' hx;refine Ae ?_;refine BO (x:=.int .i64 z) hN (Q9.lt 3 rfl) i rfl rfl oM λg10 h10 st10 ho10=>?_;have Q10:=Q9.step 3 rfl st10;have e3:DX (V.take (i+1))=U (n++[z]):=by rw[hnx];exact HF _ _ _ _ hnp hx
    have ho:Cp g10 b8 6 (λj=>.int .i64 ((n++[z]).getD j 0)):=by
     have:(λj=>Value.int .i64 ((n++[z]).getD j 0))=Dx (λj=>.int .i64 (n.getD j 0)) i (.int .i64 z):=by
      funext j;have hnl2:n.length=i:=oM;by_cases q:j=i
      ·subst q;rw[Bv];simp[Zp,Ab0,hnl2]
      ·rw[Af q];simp only[Zp,Ab0];by_cases q2:j<n.length
       ·rw[if_pos q2]
       ·rw[if_neg q2,Aa1 (by simp;omega),Aa1 oM]
     rw[this];exact ho10
    refine Ap @hwi ?_;exact Ag (i+1) oM sE ⟨oM,g10,n++[z],Q10,ho,e3⟩
  have hik:i=k0:=oM;subst hik;rw[List.take_of_length_le oM]at hnp;rw[hnp]at hK;dsimp only at hK;clear hnp hVm hVg hVl c4 hwi hwi1;generalize hlast:W.getD (W.length-1) []=last at *;have hN0:=(Cp.le hN (QH.lt 3 rfl))
  have N0:H.cell ((⟨b8,0,O⟩:Addr).add 0)=U (.int .i64 (n.getD 0 0)):=hN0.cell oM;have N1:H.cell ((⟨b8,0,O⟩:Addr).add 1)=U (.int .i64 (n.getD 1 0)):=hN0.cell oM;have N2:H.cell ((⟨b8,0,O⟩:Addr).add 2)=U (.int .i64 (n.getD 2 0)):=hN0.cell oM;have N3:H.cell ((⟨b8,0,O⟩:Addr).add 3)=U (.int .i64 (n.getD 3 0)):=hN0.cell oM;have N4:H.cell ((⟨b8,0,O⟩:Addr).add 4)=U (.int .i64 (n.getD 4 0)):=hN0.cell oM;have N5:H.cell ((⟨b8,0,O⟩:Addr).add 5)=U (.int .i64 (n.getD 5 0)):=hN0.cell oM;have NR:H.row (⟨b8,0,O⟩:Addr) 6=U #[.int .i64 (n.getD 0 0),.int .i64 (n.getD 1 0),.int .i64 (n.getD 2 0),.int .i64 (n.getD 3 0),.int .i64 (n.getD 4 0),.int .i64 (n.getD 5 0)]:=(hN0.row).row (i:=0) (n:=6) (by simp);have hgH:=QH.lt 1 rfl;unfold Se.ahead at hK;refine AH @R5 @hw0 ?_;refine Ad (λd1=>?_) (λd1=>?_)
  ·rw[if_pos d1]at hK;dsimp only at hK;have R16:=hS.row16 hgH;refine Wx @R16 @N0 @N1 @N2 @N3 @N4 @N5 ?_;refine hS.cfg hgH (s.set n).c λg2 h2 st2 hS2=>?_;refine Ae ?_;exact hK g2 h2 (hStH.trans st2) hS2
  rw[if_neg d1]at hK;refine Ae ?_;refine Ad (λd2=>?_) (λd2=>?_)
  ·rw[if_pos d2]at hK;refine AH @N0 @N1 ?_;refine Ad (λc3=>?_) (λc3=>?_)
   ·have hb:FV n:=by unfold FV;omega
    rw[if_pos hb]at hK;dsimp only at hK;refine Ae ?_;refine Aa H308 ⟨1,rfl,oM,λh2 hle2=>?_⟩;refine Ae ?_;exact hK g h2 (hStH.trans (Av.more hStH.le hle2)) hS
   ·have hb:¬ FV n:=by unfold FV;omega
    rw[if_neg hb]at hK;dsimp only at hK;unfold FV at hb;obtain⟨a,ha⟩:∃ a:Nat,n.getD 0 0=a:=⟨(n.getD 0 0).toNat,oM⟩
    obtain⟨b,hb2⟩:∃ b:Nat,n.getD 1 0=b:=⟨(n.getD 1 0).toNat,oM⟩
    unfold Se.at_ at hK;rw[ha]at hb N0;rw[hb2]at hb N1;rw[ha,hb2,Aaa,Aaa]at hK;refine CS @N0 @N1 @N2 ?_;rw[AI,AI,AI,show 0+6+a*4+b=6+(4*a+b) by omega];refine hS.conf hgH (6+(4*a+b)) oM (n.getD 2 0) λg2 h2 st2 hS2=>?_;refine Ae ?_;exact hK g2 h2 (hStH.trans st2) hS2
  rw[if_neg d2]at hK;refine Ae ?_;refine Ad (λd3=>?_) (λd3=>?_)
  ·rw[if_pos d3]at hK;dsimp only at hK;obtain⟨F,rv,gs,gr,gw,hps,hw⟩:=id hS;have QS:=hps.rest hgH;have C22:=hw.c22 (QS.lt 1 rfl);have CR:=hw.row (QS.lt 1 rfl);have hwl:=La s.c s.rs;unfold Ab8 at hK;refine AH @C22 @CR ?_;refine Aa H267 ⟨s.c,rv,s.rs,rfl,BE.sl AbD (hw.rs.le (QS.lt 2 rfl)),λh1 hle1=>?_⟩;have QT:=QS.up hle1;refine Ae ?_;refine Ad (λd4=>?_) (λd4=>?_)
   ·rw[if_neg oM]at hK;dsimp only at hK;refine Ae ?_;refine Aa H308 ⟨CP s.c s.rs,rfl,oM,λh2 hle2=>?_⟩;refine Ae ?_;exact hK g h2 (hStH.trans (Av.more hStH.le (hle1.trans hle2))) hS
   ·have hf:CP s.c s.rs=0:=oM;rw[if_pos hf]at hK;dsimp only at hK;have C22:=hw.c22 (QT.lt 1 rfl);have CR:=hw.row (QT.lt 1 rfl);refine AH @C22 @CR ?_;refine Aa H268 ⟨s.c,rv,s.rs,rfl,BE.sl AbD (hw.rs.le (QT.lt 2 rfl)),oM,hf,λpw gw' h2 st2 hW=>?_⟩;have Q1:Ps h2 [rest g H,gs,gr,gw']:=by
     have q:=QT.take 3;exact(q.up st2.le0).add st2.le λx hx=>It st2 (q.1 x hx)
    refine Ae ?_;refine BO (x:=.pointer (U ⟨pw,0,O⟩)) hw.ob (Q1.lt 1 rfl) 23 rfl rfl oM λgs' h3 st3 ho3=>?_;have Q2:=Q1.step 1 rfl st3;refine Ae ?_;obtain⟨g6,q6,q7⟩:=Ab6 hgH Q2 (hw.watch ho3 hW);exact hK g6 _ (hStH.trans q6) q7
  rw[if_neg d3]at hK;dsimp only at hK;obtain⟨F,rv,gs,gr,gw,hps,hw⟩:=id hS;have QS:=hps.rest hgH;have hww:=hw.w;cases hsw:s.w with
  |none=>
   rw[hsw]at hww hK;dsimp only at hww hK;have C23:=hw.cell (QS.lt 1 rfl) (j:=23) oM;rw[hww]at C23;refine Ap @C23 ?_;refine Aa H308 ⟨5,rfl,oM,λh2 hle2=>?_⟩;refine Ae ?_;exact hK g h2 (hStH.trans (Av.more hStH.le hle2)) hS
  |some w=>
  rw[hsw]at hww hK;dsimp only at hww hK;obtain⟨pw,e23,hX⟩:=hww;have C23:=hw.cell (QS.lt 1 rfl) (j:=23) oM;rw[e23]at C23;have hll1:last.length<=300:=by rw[<-hlast];have:=hWl _ (As (l:=W) [] (show W.length-1<W.length by omega));omega
  have wl1:IntKind.i64.wrap ((W.length:Int)-1)=((W.length-1:Nat):Int):=wN;refine Vc @C23 @R5 @NR @hw0 @wl1 @hlast ?_;refine Aa H311 ⟨g,p,s,k,w,w0,n,last,rfl,hS,hsw,hgH,hok,hk,hll1,by rw[hm];rfl,d1,d2,d3,λg2 h2 st2 hS2=>?_⟩;refine Ae ?_;unfold Se.onT at hS2;cases ho:s.on w w0 (n.getD 0 0) n last with
  |none=>
   rw[ho]at hS2 hK;dsimp only at hS2 hK;rw[Se.same hsw]at hS2;have e:(s.onT w w0 n last).2=Dj 4:=by unfold Se.onT;rw[ho]
   rw[e];exact hK g2 h2 (hStH.trans st2) hS2
  |some q=>
   rw[ho]at hS2 hK;dsimp only at hS2 hK;have e:(s.onT w w0 n last).2=q.2:=by unfold Se.onT;rw[ho]
   rw[e];exact hK g2 h2 (hStH.trans st2) hS2
def S305:Spec:=λargs h K=>∃ v w l,args=[v,w]/\Sl AB h v l/\Sl AB h w l/\l.length<=1000000/\K (.bool true) h
theorem F305_ok {N:Num} {Γ:Ctx} [Ak Γ]:Sat S305 (SF N Γ F305):=by
 rintro _ h K ⟨v,w,l,rfl,hv,hw,hl,hK⟩;have RV:=hv.rules1 (λs=>.string (str s)) (λ_=>rfl) [];have RW:=hw.rules1 (λs=>.string (str s)) (λ_=>rfl) [];refine An rfl ?_;simp only[F305,Ze,Nat.reduceSub,Nat.reduceAdd];refine AH @RV @RW ?_;refine Aj (λi:Nat=>[U v,U w,O,U (.int .i64 (i:Nat)),O,O,O])
  (λi H=>i<=l.length/\H=h) (λi=>l.length-i) 0 (by try simp only[Pf];rfl) ⟨oM,rfl⟩ ?_
 rintro i H ⟨hi,rfl⟩;have hi1:=wS i;refine Ap @RV ?_;refine Ad (λc1=>?_) (λc1=>?_);rotate_left
 ·refine Ae ?_;exact hK
 have A5:i<l.length:=oM;generalize hae:l.getD i []=a at *;have hs:(a=a)=True:=eq_true rfl;refine Le @RV @RW @hae @hs @hi1 ?_;exact Ag (i+1) oM sE ⟨oM,rfl⟩
theorem Se.say_of {s:Se} {l:List UInt8} {W:List (List UInt8)} {a b:Nat} {n:List Int} (h1:¬ 300<l.length) (h2:l.take 5≠[114,117,108,101,32]) (h3:CI 32 l=W) (h4:Cq (W.getD 0 [])=U (a,b)) (h5:W.length=1+a+b) (h6:DX ((W.take (1+a)).drop 1)=U n) :
  s.say l=match s.ahead (W.getD 0 []) n with
   |some q=>(q.1,U q.2)
   |none=>match s.w with
    |none=>(s,U (Dj 5))
    |some w=>match s.on w (W.getD 0 []) (n.getD 0 0) n (W.getD (W.length-1) [])with
     |none=>(s,O)
     |some q=>({ s with w:=U q.1 },U q.2):=by
 unfold Ab9;rw[if_neg h1,if_neg h2,h3];unfold Ab5;rw[h4];dsimp only;rw[if_neg oM,h6]<;>rfl
def Wv:List Int:=[0,0,9,0]
def XG:Tg:=⟨1,0,0,1,2,3⟩
def Nr:List UInt8:=[105,116,101,109,58,48,46,48,48,48,48,48,49,46,50,46,51]
def A5:Se:=(Se.new.set [1,0,1,1,1,1]).at_ [0,0,2]
def WM:Wa:=newW A5.c []
def XW:List UInt8:=(Jw Wv (AD XG)).bytes
def Qe:Wa:=WM.feed 0 XW
def Ih:Wa:=Qe.tick 1
theorem TB:Bc XG=Nr:=by
 have d0:Bo 0=[48]:=(Cn oM).trans (by decide);have d1:Bo 1=[49]:=(Cn oM).trans (by decide);have d2:Bo 2=[50]:=(Cn oM).trans (by decide);have d3:Bo 3=[51]:=(Cn oM).trans (by decide);show Dh 1++58::(Bo 0++46::((Z7 (6-(Bo 1).length) 48++Bo 1)++46::((Z7 (1-(Bo 2).length) 48++Bo 2)++46::Bo 3)))=Nr;rw[d0,d1,d2,d3];rfl
theorem Qd:FG Nr=U XG:=SI (by decide +kernel) TB
theorem XF (s:Se):s.say [115,101,116,32,49,32,48,32,49,32,49,32,49,32,49]=(s.set [1,0,1,1,1,1],U UC):=
 (Se.say_of (W:=[[115,101,116],[49],[48],[49],[49],[49],[49]]) (a:=6) (b:=0) (n:=[1,0,1,1,1,1]) (by decide) (by decide) (by decide) (by decide) (by decide) (by decide +kernel)).trans rfl
theorem XE (s:Se):s.say [97,116,32,48,32,48,32,50]=(s.at_ [0,0,2],U UC):=
 (Se.say_of (W:=[[97,116],[48],[48],[50]]) (a:=3) (b:=0) (n:=[0,0,2]) (by decide) (by decide) (by decide) (by decide) (by decide) (by decide +kernel)).trans (by
  rw[show s.ahead ([[97,116],[48],[48],[50]].getD 0 []) [0,0,2]=U (s.at_ [0,0,2],UC)from rfl])
theorem XD:A5.say [115,116,97,114,116]=({ A5 with w:=U WM },U UC):=
 (Se.say_of (W:=[[115,116,97,114,116]]) (a:=0) (b:=0) (n:=[]) (by decide) (by decide) (by decide) (by decide) (by decide) (by decide +kernel)).trans (by
  have e:A5.start=({ A5 with w:=U WM },UC):=by
   unfold Ab8;rw[if_pos (by decide +kernel)];rfl
  rw[show A5.ahead ([[115,116,97,114,116]].getD 0 []) []=U A5.start from rfl,e])
theorem XC {s:Se} (hs:s.w=U WM):s.say [114,101,97,100,32,48,32,48,32,57,32,48,32,105,116,101,109,58,48,46,48,48,48,48,48,49,46,50,46,51]=({ s with w:=U Qe },U [49]):=
 (Se.say_of (W:=[[114,101,97,100],[48],[48],[57],[48],Nr]) (a:=4) (b:=1) (n:=Wv) (by decide) (by decide) (by decide) (by decide) (by decide) (by decide +kernel)).trans (by
  have e:WM.readT Wv Nr=(Qe,[49]):=by
   unfold Ab3;rw[Qd];dsimp only;rw[if_pos (by decide +kernel)];unfold Ab4;rw[if_pos (by decide +kernel)];refine congrArg (Prod.mk _) ?_;decide +kernel
  rw[show s.ahead ([[114,101,97,100],[48],[48],[57],[48],Nr].getD 0 []) Wv=O from rfl];dsimp only;rw[hs];dsimp only;rw[show s.on WM ([[114,101,97,100],[48],[48],[57],[48],Nr].getD 0 []) (Wv.getD 0 0) Wv ([[114,101,97,100],[48],[48],[57],[48],Nr].getD ([[114,101,97,100],[48],[48],[57],[48],Nr].length-1) [])=U (WM.readT Wv Nr)from rfl,e])
theorem XB {s:Se} (hs:s.w=U Qe):s.say [116,105,99,107,32,49]=({ s with w:=U Ih },U [49]):=
 (Se.say_of (W:=[[116,105,99,107],[49]]) (a:=1) (b:=0) (n:=[1]) (by decide) (by decide) (by decide) (by decide) (by decide) (by decide +kernel)).trans (by
  have e:s.on Qe [116,105,99,107] 1 [1] [49]=U (Ih,[49]):=by
   unfold Se.on;rw[if_pos rfl,if_neg (by decide +kernel)];refine congrArg (λx=>U (Ih,x)) ?_;decide +kernel
  rw[show s.ahead ([[116,105,99,107],[49]].getD 0 []) [1]=O from rfl];dsimp only;rw[hs];dsimp only;rw[show s.on Qe (([[116,105,99,107],[49]]:List (List UInt8)).getD 0 []) (([1]:List Int).getD 0 0) [1] (([[116,105,99,107],[49]]:List (List UInt8)).getD (([[116,105,99,107],[49]]:List (List UInt8)).length-1) [])=s.on Qe [116,105,99,107] 1 [1] [49]from rfl,e])
theorem XA {s:Se} (hs:s.w=U Ih):s.say [119,104,101,114,101,32,48,32,105,116,101,109,58,48,46,48,48,48,48,48,49,46,50,46,51]=({ s with w:=U Ih },U [50]):=
 (Se.say_of (W:=[[119,104,101,114,101],[48],Nr]) (a:=1) (b:=1) (n:=[0]) (by decide) (by decide) (by decide) (by decide) (by decide) (by decide +kernel)).trans (by
  have e:Ih.findT [119,104,101,114,101] Nr 0=[50]:=by
   unfold Ab7;rw[Qd];dsimp only;rw[if_neg (by decide),if_pos (by decide +kernel),if_neg (by decide +kernel)];decide +kernel
  rw[show s.ahead ([[119,104,101,114,101],[48],Nr].getD 0 []) [0]=O from rfl];dsimp only;rw[hs];dsimp only;rw[show s.on Ih ([[119,104,101,114,101],[48],Nr].getD 0 []) (([0]:List Int).getD 0 0) [0] ([[119,104,101,114,101],[48],Nr].getD ([[119,104,101,114,101],[48],Nr].length-1) [])=U (Ih,Ih.findT [119,104,101,114,101] Nr 0)from rfl,e])
theorem Xz {s:Se} (hs:s.w=U Ih):s.say [100,114,111,112,115]=({ s with w:=U Ih },U [48,32,48,32,48,32,48,32,48]):=
 (Se.say_of (W:=[[100,114,111,112,115]]) (a:=0) (b:=0) (n:=[]) (by decide) (by decide) (by decide) (by decide) (by decide) (by decide +kernel)).trans (by
  have e:I3 Ih=[48,32,48,32,48,32,48,32,48]:=by decide +kernel
  rw[show s.ahead ([[100,114,111,112,115]].getD 0 []) []=O from rfl];dsimp only;rw[hs];dsimp only;rw[show s.on Ih (([[100,114,111,112,115]]:List (List UInt8)).getD 0 []) (([]:List Int).getD 0 0) [] (([[100,114,111,112,115]]:List (List UInt8)).getD (([[100,114,111,112,115]]:List (List UInt8)).length-1) [])=U (Ih,I3 Ih)from rfl,e])
theorem Xy (s:Se):s.say [102,108,121]=(s,O):=by
 unfold Ab9;rw[if_neg (by decide),if_neg (by decide)];unfold Ab5;rw[show Cq ((CI 32 [102,108,121]).getD 0 [])=O from by decide]
def Vn:List (List UInt8):=[[115,101,116,32,49,32,48,32,49,32,49,32,49,32,49],[97,116,32,48,32,48,32,50],[115,116,97,114,116],[114,101,97,100,32,48,32,48,32,57,32,48,32,105,116,101,109,58,48,46,48,48,48,48,48,49,46,50,46,51],[116,105,99,107,32,49],[119,104,101,114,101,32,48,32,105,116,101,109,58,48,46,48,48,48,48,48,49,46,50,46,51],[100,114,111,112,115],[102,108,121]]
def XH:List (List UInt8):=[[111,107],[111,107],[111,107],[49],[49],[50],[48,32,48,32,48,32,48,32,48],[101,114,114,111,114,32,52]]
theorem UK:Se.new.runs Vn=XH:=by
 unfold Vn;simp only[Se.runs];rw[XF];dsimp only;rw[XE];dsimp only;rw[show(Se.new.set [1,0,1,1,1,1]).at_ [0,0,2]=A5 from rfl,XD];dsimp only;rw[XC rfl];dsimp only;rw[XB rfl];dsimp only;rw[XA rfl];dsimp only;rw[Xz rfl];dsimp only;rw[Xy];dsimp only[Option.getD];rw[show Dj 4=[101,114,114,111,114,32,52]from by decide +kernel];rfl
def S301 (T:Heap):Spec:=λargs h K=>args=[]/\Heap.le T h/\∀ h',Heap.le h h'->K (.bool true) h'
theorem F301_ok {N:Num} {Γ:Ctx} [Ak Γ] {T:Heap} (H302:Sat (S302 T N) (Γ 302)) (H19:Sat (S19 N) (Γ 19)) (H305:Sat S305 (Γ 305)):Sat (S301 T) (SF N Γ F301):=by
 rintro _ h K ⟨rfl,hT,hK⟩;refine An rfl ?_;simp only[F301,Ze,Nat.reduceSub,Nat.reduceAdd];refine Ae ?_;refine Bg AB 1 (λ_=>rfl) Vn rfl rfl (by decide) λv b h1 hle1 hb1 hx1 hS1=>?_;refine Ae ?_;refine Aa H302 ⟨v,Vn,rfl,BE.sl (enc:=AB) (λ_=>rfl) (hS1.le (Au _ _)),hT.trans hle1,by decide,by decide,(λe=>absurd e (by decide)),λ_ v2 h2 gO Q2 hS2=>?_⟩;rw[UK]at hS2;refine Ae ?_;refine Aa H19 ⟨0,0,rfl,?_⟩;refine Ae ?_;refine Bg AB 1 (λ_=>rfl) XH rfl rfl (by decide) λv3 b3 h3 hle3 hb3 hx3 hS3=>?_;refine Ae ?_;refine Aa H305 ⟨v2,v3,XH,rfl,BE.sl (enc:=AB) (λ_=>rfl) (hS2.le ((Q2.lt 1 rfl).trans hle3)),BE.sl (enc:=AB) (λ_=>rfl) (hS3.le (Au _ _)),by decide,?_⟩;refine Ae ?_;exact hK h3 ((hle1.trans (Q2.lt 0 rfl)).trans hle3)
theorem MO.eps {g h:Heap} {p:Nat} {w:Wa} (hM:MO g p w) (hg:Heap.le g h):∃ bm ev vs,h.cell ((⟨p,0,O⟩:Addr).add 39)=U (.pointer (U ⟨bm,0,O⟩))/\h.cell ((⟨bm,0,O⟩:Addr).add 2)=U ev/\Sl Mq h ev vs:=by
 obtain⟨F,rv,av,kv,bm,gw,gr,ga,gt,gk,hps,hp⟩:=hM.read hg;obtain⟨ev,vs,mp,kv2,bs,ck,g0,hT⟩:=hp.tr;have hl:=hps.lt 3 rfl;exact⟨bm,ev,vs,hp.c39 (hps.lt 0 rfl),(hT.obj.le hl).rules.1 2 (by simp),BE.sl (enc:=Mq) (λ_=>rfl) (hT.evs.le hl)⟩
def S300 (T:Heap):Spec:=λargs h K=>∃ v L,args=[v]/\Sl AB h v L/\Heap.le T h/\∀ h',Heap.le h h'->K (.bool true) h'
set_option maxHeartbeats 4000000 in
theorem F300_ok {N:Num} {Γ:Ctx} [Ak Γ] {T:Heap} (H301:Sat (S301 T) (Γ 301)) (H302:Sat (S302 T N) (Γ 302)) (H19:Sat (S19 N) (Γ 19)) (H303:Sat S303 (Γ 303)) (H304:Sat S304 (Γ 304)) (H305:Sat S305 (Γ 305)):Sat (S300 T) (SF N Γ F300):=by
 rintro _ h K ⟨v,L,rfl,hL,hT,hK⟩;refine An rfl ?_;simp only[F300,Ze,Nat.reduceSub,Nat.reduceAdd];refine Ae ?_;refine Aa H301 ⟨rfl,hT,λh1 hle1=>?_⟩;have hL1:=hL.le hle1;have R1:=hL1.rules1 (λs=>.string (str s)) (λ_=>rfl) [];refine Ap @R1 ?_;refine Ad (λc1=>?_) (λc1=>?_)
 ·refine Ae ?_;exact hK h1 hle1
 have hLl:L.length<=110:=oM;refine Ae ?_;refine Aj (λi:Nat=>[U v,U (.bool false),U (.bool true),U (.int .i64 (i:Nat)),O,O,O,O,O,O,O,O,O,O,O,O,O,O,O,O,O,O,O,O,O,O,O,O,O,O,O,O,O])
  (λi H=>H=h1/\i<=L.length/\∀ x∈L.take i,x.length<=400) (λi=>L.length-i) 0 (by try simp only[Pf];rfl) ⟨rfl,oM,by simp⟩ ?_
 rintro i H ⟨rfl,hi,hx⟩;have hwi:=wS i;refine Ap @R1 ?_;refine Ad (λc2=>?_) (λc2=>?_)
 ·have A5:i<L.length:=oM;have hnx:=Ai [] A5;generalize hxe:L.getD i []=x at *;refine AH @R1 @hxe ?_;refine Ad (λc3=>?_) (λc3=>?_)
  ·refine Ae ?_;exact hK H hle1
  ·refine Ap @hwi ?_;refine Ag (i+1) oM sE ⟨rfl,oM,λy hy=>?_⟩;rw[hnx]at hy;rcases Yd.1 hy with hy|hy
   ·exact hx y hy
   ·rw[YA.1 hy];omega
 have hil:i=L.length:=oM;subst hil;rw[Z5]at hx;have hmx:∀ x∈L,x.length<=1000000:=λx hx'=>by have:=hx x hx';omega
 refine Ap @R1 ?_;refine FO (enc:=AB) (sz:=1) (λ_=>rfl) (λx=>by simp[AB,one]) (AQ.nil (ZX H)) hL1 (by simp only[ZR];omega) λv2 h2 ho2=>?_;rw[YI]at ho2;have O2:=ho2.one;refine AH O2.1 O2.2 ?_;refine Bg AB 1 (λ_=>rfl) [[109,97,114,107]] rfl rfl (by simp[maxLen]) λx3 b3 h3 hle3 hb3 hx3 hS3=>?_;have O3:=hS3.one;refine AH O3.1 O3.2 ?_;refine D7 (enc:=AB) (sz:=1) (λ_=>rfl) (λx=>by simp[AB,one]) (ho2.le hle3) (BE.sl (enc:=AB) (λ_=>rfl) (hS3.le (Au _ _))) (by simp only[Zo];omega) λv4 h4 ho4=>?_;have R4:=(hL1.le ho4.1).rules1 (λs=>.string (str s)) (λ_=>rfl) [];obtain⟨v9,q1,q2,q3⟩:=ho4.lsl0 (enc:=AB) (λ_=>rfl);have h9:=q3 _ _ L rfl ho4;refine AH @R4 @q1 ?_;have hT4:Heap.le T h4:=(hT.trans hle1).trans ho4.1;have hle4:Heap.le h h4:=hle1.trans ho4.1;have hL4:=hL.le hle4;clear R1 R4 q1 q2 q3 O2 O3 c1 c2;refine Aa H302 ⟨v9,L,rfl,h9,hT4,hLl,hmx,λhc=>?_,λhc vO h5 gO Q5 hSO=>?_⟩
 ·have R4:=hL4.rules1 (λs=>.string (str s)) (λ_=>rfl) [];have hT1:(100<(L.length:Int))=True:=eq_true oM;refine AH @R4 @hT1 ?_;refine Aa H19 ⟨2,2,by first|rfl|(rw[Aq]),?_⟩;refine Ae ?_;exact hK h4 hle4
 have hle5:Heap.le h h5:=hle4.trans (Q5.lt 0 rfl);have R5:=(hL.le hle5).rules1 (λs=>.string (str s)) (λ_=>rfl) [];have hT1:(100<(L.length:Int))=False:=eq_false oM;have hO5:Sl AB h5 vO (Se.new.runs L):=BE.sl (enc:=AB) (λ_=>rfl) (hSO.le (Q5.lt 1 rfl));have h95:=h9.le (Q5.lt 0 rfl);refine AH @R5 @hT1 ?_;refine Aa H303 ⟨rfl,λp g6 h6 st6 hS6=>?_⟩;have Q6:Ps h6 [h5,g6,λ_=>O]:=by
  have q:Ps h6 [h5,g6]:=((Aca h5).up st6.le0).add st6.le λx hx=>by rw[YA.1 hx];exact It st6 (ZX h5)
  exact q.add (f:=λ_=>O) (λb o hb=>by cases hb) (λx _ b _=>rfl)
 have hn:SO MO g6 p (Se.new.after (L.take 0)):=hS6;refine Ae ?_;refine Aj (λx:Nat×Value=>[U v,U (.bool false),O,O,U v9,U vO,U .nilIface,U (.pointer (U ⟨p,0,O⟩)),U x.2,U (.int .i64 (x.1:Nat)),O,O,O,O,O,O,O,O,O,O,O,O,O,O,O,O,O,O,O,O,O,O,O])
  (λx H=>x.1<=L.length/\∃ g gW,Ps H [h5,g,gW]/\SO MO g p (Se.new.after (L.take x.1))/\BE AB 1 gW x.2 (Se.new.runs (L.take x.1))) (λx=>L.length-x.1) (0,.slice O 0 0) (by dsimp only;try simp only[Pf];rfl) ⟨dM,g6,_,Q6,hn,BE.nil⟩ ?_
 clear Q6 hn hS6 st6 R5;rintro⟨i,vw⟩ H2 ⟨hi,g,gW,Q,hS,hW⟩;dsimp only at hi hS hW ⊢;have hwi:=wS i;have hleH:Heap.le h H2:=hle5.trans (Q.lt 0 rfl);have R2:=(hL.le hleH).rules1 (λs=>.string (str s)) (λ_=>rfl) [];refine Ap @R2 ?_;refine Ad (λc3=>?_) (λc3=>?_);rotate_left
 ·have:i=L.length:=oM;subst this;rw[Z5]at hW;refine Ae ?_;refine Aa H19 ⟨0,0,rfl,?_⟩;have hr:(Se.new.runs L).length<=1000000:=by rw[Se.runs_len];omega
  refine Ae ?_;refine Aa H305 ⟨vO,vw,_,rfl,hO5.le (Q.lt 0 rfl),BE.sl (enc:=AB) (λ_=>rfl) (hW.le (Q.lt 2 rfl)),hr,?_⟩;refine Ae ?_;refine Aa H305 ⟨v9,v,L,rfl,h95.le (Q.lt 0 rfl),hL.le hleH,oM,?_⟩;refine Ae ?_;exact hK H2 hleH
 have A5:i<L.length:=oM;have hnx:=Ai [] A5;have hxl:=hmx _ (As [] A5);have hok:=Se.new_ok.after (L.take i) (by rw[Zn];omega);have hrl:=Se.runs_len (L.take i) Se.new;rw[Zn]at hrl hok;obtain⟨x,hx0⟩:∃ x,x=L.getD i []:=⟨_,rfl⟩
 rw[<-hx0]at hnx hxl;have hx1:=hx0.symm;have hsa:=Se.after_snoc Se.new (L.take i) x;have hsr:=Se.runs_snoc (L.take i) Se.new x;rw[<-hnx]at hsa hsr;generalize Se.new.after (L.take i)=s at *;generalize hse:Se.new.after (L.take (i+1))=s' at *;obtain⟨F,rv,gs,gr,gw,hps,hw⟩:=id hS;have QS:=hps.rest (Q.lt 1 rfl);have C23:=hw.cell (QS.lt 1 rfl) (j:=23) oM;have hww:=hw.w;have O1:=hW.one;rcases hsw:s.w with _|w
 case' none=>
  rw[hsw]at hww;dsimp only at hww;rw[hww]at C23
  try simp(disch:=first|omega|(simp only[PL];omega)) only[Zr,simprocAttr,-reduceIte,C23,R2,hx1]
 case' some=>
  rw[hsw]at hww;dsimp only at hww;obtain⟨pw,e23,hX⟩:=hww;rw[e23]at C23;obtain⟨bm,ev,vs,q1,q2,q3⟩:=hX.eps (QS.lt 3 rfl);have RE:=q3.rules1 (λv=>v) (λ_=>rfl) undef;refine Ek @C23 @q1 @q2 @RE ?_;refine Ad (λc4=>?_) (λc4=>?_)
  ·refine Ae ?_;exact hK H2 hleH
  try simp(disch:=first|omega|(simp only[PL];omega)) only[Zr,simprocAttr,-reduceIte,R2,hx1]
 all_goals
  refine Aa H304 ⟨g,p,s,_,x,rfl,hS,Q.lt 1 rfl,hok,oM,hxl,λg2 h2a st2 hS2=>?_⟩;have Q2:=Q.step 1 rfl st2;rw[<-hsa]at hS2;refine Ae ?_;refine Bg AB 1 (λ_=>rfl) [(s.say x).2.getD (Dj 4)] rfl rfl (by simp[maxLen]) λx1 b1 h3a hle3a hb1 hx1 hS3=>?_;have Q3:=Q2.up hle3a;have O2:=hS3.one;refine Ek O2.1 O2.2 O1.1 O1.2 ?_;refine Cc (enc:=AB) (sz:=1) (g:=gW) (l':=[(s.say x).2.getD (Dj 4)]) (λ_=>rfl) (by simp[AB,one]) hW (Q3.lt 2 rfl) (BE.sl (enc:=AB) (sz:=1) (λ_=>rfl) (hS3.le (Au _ _))) (by simp;omega) λv4a h4a gW' hS4 St4 e1 e2 e3=>?_;have Q4:=Q3.step 2 rfl St4;refine Ap @hwi ?_;exact Ag (i+1,v4a) dM (by dsimp only;try simp only[Pf]) ⟨dM,g2,gW',Q4,by dsimp only;rw[hse];exact hS2,by dsimp only;rw[hsr];exact hS4⟩
end Go.Cw
namespace Go.Cw
open Go Go.RowKit
theorem VV {w:World} {α:Type} {enc:α->List Value} {ty:Ty} {Good:α->Prop} (hc:∀ cs,Mat w ty cs->∃ x,Good x/\cs=enc x) {v:Value} (hm:Mat w (.sl ty) [v]) :
  ∃ l:List α,Sl enc (full w) v l/\(∀x∈l,Good x)/\l.length<=maxLen:=by
 obtain⟨a,n,cap,e,h1,h2,h3⟩:=hm;simp only[List.cons.injEq,and_true]at e;subst e;rcases h3 with rfl|⟨g,rfl,rows,h4,h5,h6⟩
 ·exact⟨[],⟨a,cap,rfl,by simp,.inl rfl⟩,by simp,by simp⟩
 ·have key:∀ rows:List (List Value),(∀r∈rows,Mat w ty r)->∃ l:List α,rows.flatten=l.flatMap enc/\l.length=rows.length/\∀ x∈l,Good x:=by
   intro rows;induction rows with
   |nil=>intro _;exact⟨[],rfl,rfl,by simp⟩
   |cons r rows ih=>
    intro hr;obtain⟨l,a1,a2,a3⟩:=ih λr hr'=>hr r (by simp[hr']);obtain⟨x,b1,b2⟩:=hc r (hr r (by simp));exact⟨x::l,by simp[a1,b2],by simp[a2],by simp;exact⟨b1,a3⟩⟩
  obtain⟨l,a1,a2,a3⟩:=key rows h6;refine⟨l,⟨U g,cap,by rw[a2,h4],by rw[a2,h4];exact h1,.inr ⟨g,rfl,by rw[<-a1];exact h5⟩⟩,a3,by rw[a2,h4];omega⟩
theorem mat_cell {w:World} {v:Value} {a:Option Addr} {n c:Nat} {ty:Ty} (he:v=.slice a n c) (h:Mat w ty v.cells.toList):Mat w ty [v]:=by subst he;simpa[Value.cells]using h
theorem law_calls {P : Program} {N : Num} {k : Nat} {f : FuncId} {args : List Value} {w : World} (hf : N.fid k = f) {fn : Func} (hn : P.funcs[f]? = U fn) (hb : (fn.body.isNone || fn.name == "runtime.NumGoroutine") = false) (h : GF P N k args (full w) fun v h' => v = .bool true ∧ Heap.le (full w) h') :
  Calls P f args.toArray w λe w'=>e=.returned (.bool true)/\Below w.heap.size w w':=by
 subst hf;simp only[Ab1]at hb;rcases h with h|h;rotate_left
 ·exfalso;obtain⟨v,h',w',h1,_⟩:=h w (Nu w)
  have hn' : fn.name ≠ "runtime.NumGoroutine" := by simpa using hb.2
  obtain⟨c,hc⟩:∃ c,fn.body=U c:=by
   cases hh:fn.body with
   |none=>rw[hh]at hb;simp at hb
   |some c=>exact⟨c,rfl⟩
  simp[callFunc,program,Sem.run,hn,hn',hc]at h1
 refine(h.2 w (Nu w)).mono ?_;rintro e w' ⟨v,h',rfl,⟨rfl,hle⟩,hs⟩;refine⟨rfl,hs.os,hs.tape,hs.output,hs.size,λb hb=>?_⟩;have h1:full w b=U w.heap[b]:=by simp[full,hb]
 rw[hs.sub b _ (hle b _ h1)];simp[hb]
end Go.Cw
namespace Go.Cw
open Go
end Go.Cw
namespace Go.Cw
open Go Go.Sort Go.Proofs
theorem Vo:∀ (l:List Si) (t:Nat),t<l.length*4->(l.flatMap Aa6)[t]?=U ((Aa6 (l.getD (t/4) default)).getD (t%4) undef):=by
 intro l;induction l with
 |nil=>intro t h;simp at h
 |cons x l ih=>
  intro t h;rw[ZL];by_cases ht:t<4
  ·rw[Zl (by rw[Aa7];exact ht)];have h1:t/4=0:=oM;have h2:t%4=t:=oM;rw[h1,h2,List.getD_cons_zero,Zj (by rw[Aa7];exact ht),Zp,Zj (by rw[Aa7];exact ht)];rfl
  ·rw[List.getElem?_append_right (by rw[Aa7];omega),Aa7,ih (t-4) (by simp only[Y5]at h;omega)];have h1:t/4=(t-4)/4+1:=oM;have h2:t%4=(t-4)%4:=oM;rw[h1,h2,List.getD_cons_succ]
theorem UM (l:List Value) (i:Nat) (h:i<l.length):l[i]! = l.getD i undef:=by
 rw[List.getElem!_eq_getElem?_getD,Zp,Zj h];rfl
theorem Nw (d:Array Si) (t:Nat) (h:t<d.size*4):(flatK Aa6 4 d)[t]! = (Aa6 (d.toList.getD (t/4) default)).getD (t%4) undef:=by
 rw[get_flatK _ _ _ _ h];have h1:t/4<d.size:=oM;have h2:d[t/4]! = d.toList.getD (t/4) default:=by
  rw[getElem!_pos d _ h1,Zp];simp[h1]
 rw[h2];have h3:t%4<(Aa6 (d.toList.getD (t/4) default)).length:=by rw[Aa7];omega
 exact UM _ _ h3
theorem Rw.blk {F h:Heap} {v:Value} {d:Array Si} (a:Rw F h v d) (hn:d.size≠0):∃ b c t cap,v=.slice (U ⟨b,0,O⟩) d.size cap/\h b=U (.cells c t (0,0))/\d.size*4<=c.size/\(∀i,i<d.size*4->c[i]?=U ((flatK Aa6 4 d)[i]!))/\c.size=cap*4/\cap<=maxLen/\d.size<=cap/\F b=O:=by
 obtain⟨a0,ad,cap,rfl,h1,h2,h3⟩:=a;simp only[Array.length_toList]at h1;rcases h3 with⟨_,e,_⟩|⟨b,c,t,rfl,hF,hb,hcs,hc⟩
 ·exact absurd (by simpa using e) hn
 ·refine⟨b,c,t,cap,by simp,hb,oM,λi hi=>?_,hcs,h2,h1,hF⟩;have hl:(d.toList.flatMap Aa6).length=d.size*4:=by rw[AZ Aa7];simp
  rw[hc i (by rw[hl];exact hi),Vo _ _ (by simpa using hi),Nw _ _ hi]
theorem Rw.holds {h:Heap} {w:World} {d:Array Si} {b:Nat} {c:Array Value} {t:TypeId} (hs:h.sub w) (hb:h b=U (.cells c t (0,0))) (hc:∀ i,i<d.size*4->c[i]?=U ((flatK Aa6 4 d)[i]!)):HoldsK Aa6 4 w b 0 d:=by
 intro j hj;rw[size_flatK]at hj;have hwb:=hs b _ hb;constructor
 ·simp only[World.cell?,hwb,Yn];rw[hc j hj];rfl
 ·simp[World.frozen?,hwb]
theorem Rw.lay {F h:Heap} {w:World} {v:Value} {d d':Array Si} {b cap:Nat} {c:Array Value} {t:TypeId} (a:Rw F h v d) (hv:v=.slice (U ⟨b,0,O⟩) d.size cap) (hs:h.sub w) (hb:h b=U (.cells c t (0,0))) (hcs:c.size=cap*4) (hcap:cap<=maxLen) (hdc:d.size<=cap) (hsz:d'.size=d.size) (hF:F b=O) :
  ∃ h',Rw F h' v d'/\kv v h h'/\Aw h h' w (putRowK Aa6 4 w b 0 d'):=by
 have hwb:=hs b _ hb;have hlt:=(X1.1 hwb).1;refine⟨h.set b (.cells (putCells id 0 (flatK Aa6 4 d') c) t (0,0)),⟨?_,U ⟨b,0,O⟩,cap,by rw[hv];simp[hsz],by simp[hsz];exact hdc,hcap,.inr ⟨b,putCells id 0 (flatK Aa6 4 d') c,t,rfl,hF,by simp[Heap.set],by simp only[putCells,Array.size_mapIdx];exact hcs,λi hi=>?_⟩⟩,λx o hx hne=>?_,⟨λx o hx=>?_,?_,rfl,rfl,rfl,λx hx hn=>⟨?_,?_⟩⟩⟩
 ·intro x o hx;have:x≠b:=by rintro rfl;rw[hF]at hx;cases hx
  rw[ZW this];exact a.1 x o hx
 ·have hl:(d'.toList.flatMap Aa6).length=d'.size*4:=by rw[AZ Aa7];simp
  rw[hl]at hi;rw[Vo _ _ (by simpa using hi)];have hic:i<c.size:=oM;simp only[putCells,AbZ,Yi hic,YH];rw[if_pos ⟨oM,by rw[size_flatK];omega⟩,Nat.sub_zero,Nw _ _ hi];rfl
 ·have:x≠b:=by rintro rfl;rw[hv]at hne;exact hne rfl
  rw[ZW this];exact hx
 ·by_cases e:x=b
  ·subst e;simp only[Heap.set,if_true]at hx;cases hx;simp[putRowK,Go.Sort.putRow,mapBlock,AbY,hwb,onCells]
  ·rw[ZW e]at hx;have hwx:=hs x o hx;simp[putRowK,Go.Sort.putRow,mapBlock,AbY,hwx,Ne.symm e]
 ·simp[putRowK]
 ·have:x≠b:=by rintro rfl;rw[hn]at hb;cases hb
  rw[ZW this];exact hn
 ·have e:x≠b:=by rintro rfl;rw[hn]at hb;cases hb
  simp[putRowK,Go.Sort.putRow,mapBlock,AbY,Ne.symm e]
theorem FC.fb {P : Program} {f : FuncId} {args : List Value} {h : Heap} {K : Value → Heap → Prop} {w : World} (hc : FC P f args h K) (hs : h.sub w) {fn : Func} (hn : P.funcs[f]? = U fn) (hb : (fn.body.isNone || fn.name == "runtime.NumGoroutine") = false) :
  Calls P f args.toArray w λe w'=>∃ v h',e=.returned v/\K v h'/\Aw h h' w w':=by
 simp only[Ab1]at hb;rcases hc with hc|hc
 ·exact hc.2 w hs
 ·exfalso;obtain⟨v,h',w',h1,_⟩:=hc w hs
  have hn' : fn.name ≠ "runtime.NumGoroutine" := by simpa using hb.2
  obtain⟨c,hc⟩:∃ c,fn.body=U c:=by
   cases hh:fn.body with
   |none=>rw[hh]at hb;simp at hb
   |some c=>exact⟨c,rfl⟩
  simp[callFunc,program,Sem.run,hn,hn',hc]at h1
theorem Aw.growW {h:Heap} {w:World} (hs:h.sub w) (os:Array Obj):Aw h h w (grow w os):=by
 refine⟨λx o hx=>?_,by rw[size_grow];omega,rfl,rfl,rfl,λx hx hn=>⟨hn,heap_grow_old _ _ hx⟩⟩;have:=hs x o hx;rw[heap_grow_old _ _ (X1.1 this).1];exact this
theorem LW (n:Nat) (ie:TypeInfo) (ke:Nat) (h:2<=n):Go.Lib.swapperK n ie ke=Go.Lib.swapperK 2 ie ke:=by
 unfold Go.Lib.swapperK;have h0:(n==0)=false:=by simp;omega
 have h1:(n==1)=false:=by simp;omega
 rw[h0,h1];rfl
theorem c61_of {P:Program} {N:Num} {ρ:Go.Shelf.Ren} (L:LaysGg.n6 P ρ) (e:TypeId) (i ie:TypeInfo) (hi:P.info? (N.tid 64)=U i) (hd:i.desc=.slice e) (hpk:P.packed (N.tid 64)=false) (hie:P.info? e=U ie) (ke:Nat) (hke:∀ w,(Extern.Rtype.kind e).run P w=.ok ke w)
  (h77 : N.fid 77 = ρ.f 14) (c77 : ∀ n, Sat (S77 N (GF P N) n) (GF P N 77)) {fn : Func} (hfn : P.funcs[ρ.f 14]? = U fn) (hbody : (fn.body.isNone || fn.name == "runtime.NumGoroutine") = false)
  (f1 f2 k9 : Nat) (hf1 : P.funcs.findIdx? (·.name == "internal/reflectlite" ++ ".Swapper$" ++ toString (Go.Lib.swapperK 0 ie ke)) = U f1) (hf2 : P.funcs.findIdx? (·.name == "internal/reflectlite" ++ ".Swapper$" ++ toString (Go.Lib.swapperK 1 ie ke)) = U f2)
  (hf9 : P.funcs.findIdx? (·.name == "internal/reflectlite" ++ ".Swapper$" ++ toString (Go.Lib.swapperK 2 ie ke)) = U (N.fid k9))
  (hs1:ie.size=4) (hagg:∀ w,(isAgg e).run P w=.ok true w) (gS:Bool) (hx:∀ args W,(callFunc (N.fid k9) args).run P W=((Extern.ReflectliteSwapper.swap gS args).run P W).andThen λv w'=>.ok (.value v) w') :
  ∀ args h K,S61 N (GF P N) args h K->∀ w,h.sub w->Calls P (ρ.f 6) args.toArray w λe w'=>∃ v h',e=.returned v/\K v h'/\Aw h h' w w':=by
 rintro _ h K ⟨F,v,fl,cl,lt,d,rfl,hless,hsz,hO,hR,hK⟩ w hs;by_cases h2:2<=d.size;rotate_left
 ·obtain⟨_,a,cap,rfl,_⟩:=id hR;have hn1:d.toList.length<=1:=by simp;omega
  obtain ⟨f, hf⟩ : ∃ f, P.funcs.findIdx? (·.name == "internal/reflectlite" ++ ".Swapper$" ++ toString (Go.Lib.swapperK d.toList.length ie ke)) = U f := by
   rcases Nat.le_one_iff_eq_zero_or_eq_one.1 hn1 with e|e<;>rw[e]
   ·exact⟨f1,hf1⟩
   ·exact⟨f2,hf2⟩
  refine(Any.sort_Slice_tiny L (N.tid 64) e i ie hi hd hpk hie ke hke a d.toList.length cap hn1 f hf (.func fl) #[] cl w).mono ?_;rintro e' w' ⟨rfl,os,rfl⟩;exact⟨_,h,rfl,hK h d hR (permIn_refl d 0 d.size) (λi j _ h1 h2'=>by omega) kv.refl,Aw.growW hs os⟩
 obtain⟨b,c,t,cap,hv,hb,hcs1,hc,hcs,hcap,hdc,hF⟩:=hR.blk oM;have hf9':=hf9;rw[<-LW d.size ie ke h2]at hf9';rw[hv];have hB:sliceBound P e ie ke (U ⟨b,0,O⟩) d.size cap=#[.slice (U ⟨b,0,O⟩) d.size cap,typeHandle P e]:=by
  unfold sliceBound;rw[if_neg (swapperK_gt _ _ _ h2)]
 have hW:sliceWorld P ρ (N.tid 64) (U ⟨b,0,O⟩) d.size cap w=grow w #[.cells #[.slice (U ⟨b,0,O⟩) d.size cap] (N.tid 64),.cells #[.pointer (U ⟨P.globals.size,N.tid 64,O⟩),.pointer (U ⟨w.heap.size,0,O⟩),.int .u64 151] (ρ.t 35)]:=by
  unfold sliceWorld;rw[alloc_eq_grow,alloc_eq_grow,grow_grow];rfl
 have hp:=Any.sort_Slice_of_pdq L (N.tid 64) e i ie hi hd hpk hie ke hke (U ⟨b,0,O⟩) d.size cap oM (N.fid k9) hf9' (.func fl) #[] cl w (λw'=>∃ h',K (.tuple #[]) h'/\Aw h h' w w') ?_
 ·refine hp.mono ?_;rintro e' w' ⟨rfl,h',h1,h2⟩;exact⟨_,h',rfl,h1,h2⟩
 rw[hB];generalize hos:sliceWorld P ρ (N.tid 64) (U ⟨b,0,O⟩) d.size cap w=W at *;have hstep:Aw h h w W:=by rw[hW];exact Aw.growW hs _
 have hSo:So N (GF P N) F v fl (N.fid k9) cl #[.slice (U ⟨b,0,O⟩) d.size cap,typeHandle P e] lt d.size:=by
  refine⟨hless,λH dk i' j' K' hdk hRk hi' hj' hK'=>?_,hsz⟩;refine⟨k9,rfl,rfl,.inr λW2 hs2=>?_⟩;obtain⟨b',c',t',cap',hv',hb',hcs1',hc',hcs',hcap',hdc',hF'⟩:=hRk.blk oM;rw[hv]at hv';simp only[Value.slice.injEq,Option.some.injEq,Addr.mk.injEq,and_true]at hv';obtain⟨rfl,_,rfl⟩:=hv';have hH:=Rw.holds (d:=dk) hs2 hb' hc';have hsw:=swapSwapsK_of_literal gS (N.fid k9) hx e ie hie Aa6 4 Aa7 hs1 hagg (λx v hv=>by simp[Aa6]at hv;rcases hv with rfl|rfl|rfl|rfl<;>rfl) b 0 d.size cap W2 dk hH hdk i' j' hi' hj';have hswp:=swap_worldK Aa6 4 Aa7 W2 0 0 b 0 dk i' j' oM oM;have hself:=putRowK_self Aa6 4 W2 b 0 dk hH;obtain⟨H',hR',hk',hst⟩:=Rw.lay (d':=swp dk i' j') hRk (by rw[hv,hdk]) hs2 hb' hcs' hcap' hdc' (size_swp _ _ _) hF';refine⟨.tuple #[],H',putRowK Aa6 4 W2 b 0 (swp dk i' j'),?_,hK' H' hR' hk',hst⟩;have e0:(putRowK Aa6 4 (Go.Sort.ahead W2 0) b 0 dk).drewN 0=W2:=by rw[ahead_zero,hself];rfl
  rw[e0]at hswp;rw[hswp]at hsw;exact hsw
 have hlim:Go.Lib.bitLen d.size<=1000:=YU (Go.Lib.bitLen_le d.size 62 oM oM) oM;have hfc:=c77 d.size [.agg #[.func (.func fl) #[] cl,.func (.func (N.fid k9)) #[] #[.slice (U ⟨b,0,O⟩) d.size cap,typeHandle P e]],.int .i64 (0:Nat),.int .i64 d.size,.int .i64 (Go.Lib.bitLen d.size)] h (λv' h'=>v'=.tuple #[]/\K (.tuple #[]) h')
  ⟨F,v,fl,N.fid k9,cl,_,lt,d,0,d.size,Go.Lib.bitLen d.size,rfl,hSo,hO,hR,ZU _,Yq _,oM,hlim,Or.inl rfl,λh' hR' hkv=>⟨rfl,?_⟩⟩
 ·have hcl:=FC.fb (w:=W) hfc hstep.sub (by rw[h77];exact hfn) hbody;rw[h77]at hcl;refine hcl.mono ?_;rintro e' w' ⟨v',h',rfl,⟨rfl,hk⟩,hst⟩;exact⟨rfl,h',hk,hstep.trans hst⟩
 ·obtain⟨p1,p2⟩:=pdq_sorts lt hO d 0 d.size (Go.Lib.bitLen d.size) true true (ZU _) (Yq _) (Or.inl rfl);exact hK h' _ hR' p1 p2 hkv
end Go.Cw
namespace Go.Cw
open Go
theorem c76_of {P:Program} {ρ:Go.Shelf.Ren} (Ly:Go.Proofs.Lays.n125 P ρ):∀ args h K,S76 args h K->∀ w,h.sub w->Calls P (ρ.f 125) args.toArray w λe w'=>∃ v h',e=.returned v/\K v h'/\Aw h h' w w':=by
 rintro _ h K ⟨n,rfl,hn,hK⟩ w hs;refine(Go.Proofs.Any.bits_Len Ly n w oM oM).mono ?_;rintro e w' ⟨rfl,rfl⟩;refine⟨_,h,rfl,?_,Aw.refl hs⟩;rw[Aaa,Go.Proofs.bitLen_eq n oM];exact hK
theorem Qc (c:UInt8):∀ s:List UInt8,(c∉s->Lib.index s [c]=-1)/\(c∈s->Lib.index s [c]=((B5 c s).length:Nat)):=by
 intro s;induction s with
 |nil=>simp[Lib.index]
 |cons x r ih=>
  by_cases hx:x=c
  ·subst hx;refine⟨λh=>absurd (by simp) h,λ_=>?_⟩;simp[Lib.index,List.isPrefixOf,B5]
  ·have hp:([c]:List UInt8).isPrefixOf (x::r)=false:=by simp[List.isPrefixOf,Ne.symm hx]
   have e1:B5 c (x::r)=x::B5 c r:=by unfold B5;rw[AaF,if_pos (by simpa using hx)]
   have hix:Lib.index (x::r) [c]=if Lib.index r [c]==-1 then -1 else Lib.index r [c]+1:=by rw[Lib.index,hp];simp
   rw[hix];refine⟨λh=>?_,λh=>?_⟩
   ·rw[X5,not_or]at h;rw[if_pos (beq_iff_eq.2 (ih.1 h.2))]
   ·have h2:c∈r:=by
     rw[X5]at h;rcases h with e|h
     ·exact absurd e.symm hx
     ·exact h
    rw[if_neg (by rw[beq_iff_eq,ih.2 h2];omega),ih.2 h2,e1];simp
theorem Vq {c:UInt8}:∀ {s:List UInt8},c∈s->s.take (B5 c s).length=B5 c s/\s.drop ((B5 c s).length+1)=Ct c s:=by
 intro s;induction s with
 |nil=>intro h;simp at h
 |cons x r ih=>
  intro h;by_cases hx:x=c
  ·subst hx;simp[B5,Ct]
  ·have h2:c∈r:=by
    rw[X5]at h;rcases h with e|h
    ·exact absurd e.symm hx
    ·exact h
   have e1:B5 c (x::r)=x::B5 c r:=by unfold B5;rw[AaF,if_pos (by simpa using hx)]
   have e2:Ct c (x::r)=Ct c r:=by unfold Ct;rw[AaH,if_pos (by simpa using hx)]
   obtain⟨i1,i2⟩:=ih h2;rw[e1,e2];exact⟨by simp[i1],by simpa using i2⟩
theorem TS {c:UInt8}:∀ {s:List UInt8},c∉s->B5 c s=s/\Ct c s=[]:=by
 intro s;induction s with
 |nil=>intro _;simp[B5,Ct]
 |cons x r ih=>
  intro h;rw[X5,not_or]at h;have e1:B5 c (x::r)=x::B5 c r:=by unfold B5;rw[AaF,if_pos (by simpa using Ne.symm h.1)]
  have e2:Ct c (x::r)=Ct c r:=by unfold Ct;rw[AaH,if_pos (by simpa using Ne.symm h.1)]
  rw[e1,e2,(ih h.2).1,(ih h.2).2];exact⟨rfl,rfl⟩
theorem UF (c:UInt8) (s:List UInt8):Lib.cut s [c]=(B5 c s,Ct c s,decide (c∈s)):=by
 obtain⟨h1,h2⟩:=Qc c s;unfold Lib.cut;by_cases h:c∈s
 ·obtain⟨q1,q2⟩:=Vq h;rw[h2 h,if_pos oM,decide_eq_true h];simp[q1,q2]
 ·obtain⟨q1,q2⟩:=TS h;rw[h1 h,if_neg oM,decide_eq_false h,q1,q2]
theorem TU (c:UInt8):∀ s:List UInt8,c∉B5 c s:=by
 intro s;induction s with
 |nil=>simp[B5]
 |cons x r ih=>
  unfold B5 at *;rw[AaF];split
  ·rename_i hx;rw[X5,not_or];exact⟨Ne.symm (by simpa using hx),ih⟩
  ·simp
theorem Wm {c:UInt8}:∀ {s:List UInt8},c∈s->s=B5 c s++c::Ct c s:=by
 intro s;induction s with
 |nil=>intro h;simp at h
 |cons x r ih=>
  intro h;by_cases hx:x=c
  ·subst hx;simp[B5,Ct]
  ·have h2:c∈r:=by
    rw[X5]at h;rcases h with e|h
    ·exact absurd e.symm hx
    ·exact h
   have e1:B5 c (x::r)=x::B5 c r:=by unfold B5;rw[AaF,if_pos (by simpa using hx)]
   have e2:Ct c (x::r)=Ct c r:=by unfold Ct;rw[AaH,if_pos (by simpa using hx)]
   rw[e1,e2,Y7,<-ih h2]
theorem Rs (c:UInt8):∀ (k:Nat) (s:List UInt8),s.count c<=k->Lib.splitK [c] 0 k s=CI c s:=by
 intro k;induction k with
 |zero=>
  intro s h;have:c∉s:=by rw[<-Ab2];omega
  rw[IM this];rfl
 |succ k ih=>
  intro s h;obtain⟨h1,h2⟩:=Qc c s;by_cases hc:c∈s
  ·obtain⟨q1,q2⟩:=Vq hc;have e:s=B5 c s++c::Ct c s:=Wm hc;have hcnt:s.count c=(Ct c s).count c+1:=by
    have h0:(B5 c s).count c=0:=by
     rw[Ab2];exact TU c s
    conv=>lhs;rw[e]
    rw[List.count_append,h0,List.count_cons_self];omega
   unfold Lib.splitK;rw[h2 hc,if_neg (by rw[beq_iff_eq];omega),Uw hc];simp only[Aaa,Nat.add_zero,Zo];rw[q1,q2,ih _ oM]
  ·unfold Lib.splitK;rw[h1 hc,if_pos (by rfl),IM hc]
theorem OH (x:UInt8):∀ k,Lib.repeatL [x] k=Z7 k x:=by
 intro k;induction k with
 |zero=>rfl
 |succ k ih=>rw[List.replicate_succ];simp only[Lib.repeatL,ih];rfl
theorem Hy (n:Nat):Lib.decDigits n=Bo n:=by
 induction n using Nat.strongRecOn with
 |_ n ih=>
  by_cases h:n<10
  ·rw[Lib.decDigits,dif_pos h,Cn h];unfold NG;rw[Nat.mod_eq_of_lt h]
  ·rw[Lib.decDigits,dif_neg h,DJ oM,ih _ oM];rfl
end Go.Cw
namespace Go.Cw
open Go Go.Proofs Go.RowKit
theorem Aw.below {h:Heap} {w w':World} (hs:h.sub w) (b:Below w.heap.size w w'):Aw h h w w':=
 ⟨λx o hx=>by
  have hw:=hs x o hx;rw[b.block x (X1.1 hw).1];exact hw,b.size,b.os,b.tape,b.output,λx hx hn=>⟨hn,b.block x hx⟩⟩
theorem Qk {W w:World} {h:Heap} (hT:Heap.le (full W) h) (hs:h.sub w) {b:Nat} {o:Obj} (hb:W.heap[b]?=U o):w.heap[b]?=U o:=hs b o (hT b o hb)
theorem Ha {W w:World} {h:Heap} (hT:Heap.le (full W) h) (hs:h.sub w) {a:Addr} {v:Value} (hc:W.cell? a=U v):w.cell? a=U v:=by
 unfold World.cell? at hc ⊢;split at hc
 ·rename_i c t fz hb;rw[Qk hT hs hb];exact hc
 ·cases hc
theorem TD {P:Program} {W w:World} {h:Heap} (hT:Heap.le (full W) h) (hs:h.sub w) {name:String} {k:IntKind} {zs:List Int} (hc:Lib.TabIs P W name k zs):Lib.TabIs P w name k zs:=by
 unfold Lib.TabIs World.var? at hc ⊢;cases hg:P.globalNamed name with
 |none=>rw[hg]at hc;cases hc
 |some g=>
  rw[hg]at hc;simp only[Option.bind_some]at hc ⊢;split at hc
  ·rename_i c t fz hb;rw[Qk hT hs hb];exact hc
  ·cases hc
theorem LN (w:World) (n:Nat):Below w.heap.size w (w.drewN n):=⟨rfl,rfl,rfl,Yq _,λ_ _=>rfl⟩
theorem T2 (w:World) (os:Array Obj):Below w.heap.size w (Go.Sort.grow w os):=⟨rfl,rfl,rfl,by rw[Go.Sort.size_grow];omega,λk hk=>Go.Sort.heap_grow_old _ _ hk⟩
variable {P:Program} {ρ:Go.Shelf.Ren} {W:World}
theorem c193_of (L:Go.Proofs.Lays.n105 P ρ) (X:Go.Proofs.Builder.Extra P ρ):∀ args h K,S193 args h K->∀ w,h.sub w->Calls P (ρ.f 105) args.toArray w λe w'=>∃ v h',e=.returned v/\K v h'/\Aw h h' w w':=by
 rintro _ h K ⟨k,rfl,hk,hK⟩ w hs;refine(Go.Proofs.Any.strings_Repeat L X (str [48]) k w oM (by rw[BM];simp;omega)).mono ?_;rintro e w' ⟨rfl,hb⟩;refine⟨_,h,rfl,?_,Aw.below hs hb⟩;rw[Bz,OH];exact hK h (ZX h)
theorem c180_of (L:Go.Proofs.LaysM.n145 P ρ) (hsh:W.ShapedOpen P):∀ args h K,S180 (full W) args h K->∀ w,h.sub w->Calls P (ρ.f 145) args.toArray w λe w'=>∃ v h',e=.returned v/\K v h'/\Aw h h' w w':=by
 rintro _ h K ⟨s,c,rfl,hsl,hT,hK⟩ w hs;obtain⟨m,hm⟩:=L.s1_3 W hsh;refine(Go.Proofs.Any.strings_Cut { L with } (str s) (str [c]) m w (by rw[BM];omega) (Ha hT hs hm)).mono ?_;rintro e w' ⟨rfl,n,rfl⟩;refine⟨_,h,rfl,?_,Aw.below hs (LN w n)⟩;rw[Bz,Bz,UF];exact hK h (ZX h)
theorem c181_of (L:Go.Proofs.LaysM.n146 P ρ) (hsh:W.ShapedOpen P):∀ args h K,S181 (full W) args h K->∀ w,h.sub w->Calls P (ρ.f 146) args.toArray w λe w'=>∃ v h',e=.returned v/\K v h'/\Aw h h' w w':=by
 rintro _ h K ⟨s,c,rfl,hsl,hT,hK⟩ w hs;obtain⟨m,hm⟩:=L.s1_3 W hsh;refine(Go.Proofs.Any.strings_Split { L with } L.i9 (str s) (str [c]) m w (by rw[BM];omega) (Ha hT hs hm) (by rw[BM];simp)).mono ?_;rintro e w' ⟨rfl,rfl⟩;have hlen:=Lib.splitB_all (str [c]) (by rw[BM];simp) 0 _ (str s) rfl;have hdat:=Lib.splitB_data (str [c]) 0 (Lib.countB (str s) (str [c])) (str s);rw[Bz,Bz,Rs c _ s (by rw[Lib.countB,Bz,Bz,Lib.count_one];exact Yq _)]at hdat;have hle:=Lib.countB_le (str [c]) (by rw[BM];simp) (str s).size (str s) (Yq _);rw[BM]at hle;generalize Lib.countB (str s) (str [c])=k at *;generalize hbs:Lib.splitB (str [c]) 0 k (str s)=bs at *;have hpl:(CI c s).length=k+1:=by rw[<-hdat,Aaw,hlen]
 have hfl:(CI c s).flatMap AB=bs.map Value.string:=by
  rw[<-hdat];clear hdat hlen hbs hpl hK;induction bs with
  |nil=>rfl
  |cons b bs ih=>simp only[Yj,ZL,AB,Y7,YI,ih,SJ]
 have hnone:h w.heap.size=O:=by
  cases hh:h w.heap.size with
  |none=>rfl
  |some o=>have:=hs _ _ hh;simp at this
 refine⟨_,h.set w.heap.size (.cells (bs.map Value.string).toArray (ρ.t 9) (0,0)),rfl,hK _ _ ⟨(ZX h).new hnone _,U ⟨w.heap.size,0,O⟩,k+1,by rw[hpl],oM,by simp[maxLen];omega,.inr ⟨w.heap.size,_,_,rfl,hnone,Heap.set_eq,by simp[hlen],λi hi=>by rw[hfl];simp⟩⟩,Aw.push hs _⟩
end Go.Cw
namespace Go.Cw
open Go Go.Proofs Go.RowKit
theorem Rz (z:Int):Lib.itoa z=K5 z:=by
 unfold Lib.itoa K5;by_cases h:z<0
 ·rw[if_pos h,Hy];simp only[h,if_true]
 ·rw[if_neg h,Hy];simp only[h,if_false]
theorem RG (c:UInt8):Lib.indexByte Qg c=IZ c:=by
 have:∀ n:Fin 256,Lib.indexByte Qg (UInt8.ofNat n.val)=IZ (UInt8.ofNat n.val):=by decide +kernel
 have h:=this ⟨c.toNat,c.toNat_lt⟩;simpa using h
theorem Ll:∀ (p s:List UInt8),p.isPrefixOf s=decide (s.take p.length=p)
 |[],s=>by simp
 |a::p,[]=>by simp
 |a::p,b::s=>by
  simp only[List.isPrefixOf,Y5,List.take_succ_cons,List.cons.injEq,Ll p s,Bool.decide_and];congr 1;by_cases h:a=b
  ·subst h;simp
  ·rw[decide_eq_false (λe=>h e.symm)];simp[h]
theorem HJ:∀ (l:List (List UInt8)),Lib.join l [44,32]=B7 l
 |[]=>rfl
 |[a]=>by simp[Lib.join,B7]
 |a::b::r=>by
  have:=HJ (b::r);unfold Lib.join at this ⊢;rw[B7,<-this];simp[List.intercalate,List.intersperse]
variable {P:Program} {ρ:Go.Shelf.Ren} {W:World}
theorem c176i_of (L : Go.Proofs.LaysM.n171 P ρ) (htab : Lib.TabIs P W "internal/strconv.uint64pow10" .u64 Lib.pow10Tab) : ∀ args h K, S176i (full W) args h K → ∀ w, h.sub w → Calls P (ρ.f 171) args.toArray w fun e w' => ∃ v h', e = .returned v ∧ K v h' ∧ Aw h h' w w' := by
 rintro _ h K ⟨z,rfl,hz1,hz2,hT,hK⟩ w hs;refine(Go.Proofs.Any.strconv_Itoa L z hz1 hz2 w (TD hT hs htab)).mono ?_;rintro e w' ⟨rfl,k,os,rfl⟩;refine⟨_,h,rfl,?_,Aw.below hs ((LN w k).trans (T2 (w.drewN k) os))⟩;rw[Rz];exact hK h (ZX h)
theorem c201_of (L:Go.Proofs.Lays.n99 P ρ):∀ args h K,S201 args h K->∀ w,h.sub w->Calls P (ρ.f 99) args.toArray w λe w'=>∃ v h',e=.returned v/\K v h'/\Aw h h' w w':=by
 rintro _ h K ⟨s,pf,rfl,hsl,hK⟩ w hs;refine(Go.Proofs.Any.strings_HasPrefix L (str s) (str pf) w).mono ?_;rintro e w' ⟨rfl,rfl⟩;refine⟨_,h,rfl,?_,Aw.refl hs⟩;rw[Bz,Bz,Lib.hasPrefix,Ll];exact hK
theorem c324_of (L:Go.Proofs.Lays.n137 P ρ):∀ args h K,S324 args h K->∀ w,h.sub w->Calls P (ρ.f 137) args.toArray w λe w'=>∃ v h',e=.returned v/\K v h'/\Aw h h' w w':=by
 rintro _ h K ⟨c,rfl,hK⟩ w hs;refine(Go.Proofs.Any.strings_IndexByte L (str Qg) (c.toNat:Nat) w).mono ?_;rintro e w' ⟨rfl,rfl⟩;refine⟨_,h,rfl,?_,Aw.refl hs⟩;rw[Bz,show((c.toNat:Nat):Int).toNat.toUInt8=c by simp,RG];exact hK
theorem c326_of (L:Go.Proofs.Lays.n156 P ρ) (X:Go.Proofs.Builder.Extra P ρ):∀ args h K,S326 args h K->∀ w,h.sub w->Calls P (ρ.f 156) args.toArray w λe w'=>∃ v h',e=.returned v/\K v h'/\Aw h h' w w':=by
 rintro _ h K ⟨v,l,rfl,hv,hne,hj,hl,hK⟩ w hs;obtain⟨a,cap,rfl,hcap,hr⟩:=hv;rcases hr with e|⟨g,rfl,r1,c',t',fz,r2,r3,r4⟩
 ·exact absurd e hne
 obtain⟨bk,o,sp⟩:=g;dsimp only at r1 r2 r3 r4;subst r1;have hfl:(l.flatMap AB)=l.map λs=>Value.string (str s):=by
  clear r4 r3 hK hj hl hcap hne;induction l with
  |nil=>rfl
  |cons b bs ih=>simp only[Yj,ZL,AB,Y7,YI,ih]
 rw[hfl]at r3 r4;rw[Aaw]at r3 r4;have hw:=hs _ _ r2;have hm:(l.map str).map (λx=>x.data.toList)=l:=by rw[List.map_map];exact(List.map_congr_left (λx _=>Bz x)).trans (List.map_id l)
 have hc:=Go.Proofs.Any.strings_Join L X bk o cap (l.map str) (str [44,32]) w (λj x hx=>by
   rw[Aae]at hx;obtain⟨y,hy,rfl⟩:=Option.map_eq_some_iff.1 hx;have hj2:j<l.length:=(List.getElem?_eq_some_iff.1 hy).1;have:=r4 j hj2;rw[Aae,hy]at this;unfold World.cell?;rw[hw];exact this) (X1.1 hw).1 (by rw[Aaw];omega) (by rw[Aaw];exact hcap) (by rw[hm,Bz,HJ];omega)
 rw[Aaw,hm,Bz,HJ]at hc;refine hc.mono ?_;rintro e w' ⟨rfl,hb⟩;exact⟨_,h,rfl,hK h (ZX h),Aw.below hs hb⟩
theorem mat_strs {w:World} {v:Value} (h:Mat w (.sl .str) [v]):∃ x:List (List UInt8),Sl AB (full w) v x:=by
 obtain⟨x,hx,_⟩:=VV (enc:=AB) (Good:=λ_=>True) (ty:=.str) (λcs h=>by
  obtain⟨s,rfl,h⟩:=h;exact⟨s.data.toList,trivial,by simp[AB,SJ]⟩) h
 exact⟨x,hx⟩
end Go.Cw
namespace Go.Cw
open Go
end Go.Cw
namespace Go.Cw
open Go Go.Proofs Go.RowKit
theorem iface_of_laid {P:Program} {W:World} {name nm:String} {d:DataW Unit} {g:Nat} {ti:TypeId} {ms:Array (String×TypeId)} (hg:P.globalNamed name=U g) (hty:(P.globals[g]?).map (·.type)=U ti) (hi:P.underlying ti=U (.interface ms))
  (h:laidMet P [(name,.iface nm d)] W):∃ te pe,W.cell? ⟨g,0,O⟩=U (.iface te pe):=by
 obtain⟨ps,⟨g',t',cs,fuel,p,q,hg',ht',hvar,hd,_,_⟩,_⟩:=h;obtain rfl:=Option.some.inj (hg.symm.trans hg');obtain rfl:=Option.some.inj (hty.symm.trans ht');obtain⟨_,u,v,e,_,_⟩:=iface_of_trod hi hd;refine⟨u,v,?_⟩;have h0:=World.var?_cell hg hvar 0;rw[h0];have:cs[0]?=cs.toList[0]?:=by simp
 rw[this,e];rfl
theorem QV:∀ (s:List UInt8) (acc:Nat),Fx s->(acc+1)*10^s.length<=10^18->Lib.parseUint10 acc s=.ok (s.foldl (λa b=>10*a+(b.toNat-48)) acc):=by
 intro s;induction s with
 |nil=>intro acc _ _;rfl
 |cons c r ih=>
  intro acc hd hl;have hc:=hd c (by simp);have hp:0<10^r.length:=Nat.pow_pos oM;have hl2:(acc+1)*10*10^r.length<=10^18:=by
   rw[Y5,Nat.pow_succ]at hl;rw[Nat.mul_assoc,Aao 10];exact hl
  have hacc:(acc+1)*10<=10^18:=YU (Nat.le_mul_of_pos_right _ hp) hl2;unfold Lib.parseUint10;rw[if_pos hc,if_neg oM,if_neg oM,Aan,Aao acc 10];refine ih _ (λb hb=>hd b (by simp[hb])) (YU (Nat.mul_le_mul_right _ ?_) hl2);omega
theorem NW {n:Nat} (hn:n<=1000000000000000):Lib.atoiAll (Bo n)=.ok (n:Int):=by
 have hl:=AG 16 (n:=n) oM oM;have hd:=CB n;have hp:10^(Bo n).length<=10^16:=ZZ oM hl;have hpar:=QV (Bo n) 0 hd oM;have hnv:(Bo n).foldl (λa b=>10*a+(b.toNat-48)) 0=n:=DW n;rw[hnv]at hpar;cases hdn:Bo n with
 |nil=>exact absurd hdn (DI n)
 |cons c r=>
  rw[hdn]at hd hpar;have hc:=hd c (by simp);have h1:¬ (c.toNat=43\/c.toNat=45):=oM;have h2:¬ c.toNat=45:=oM;have hm:Lib.parseMag (c::r)=.ok n:=by unfold Lib.parseMag;rw[if_neg (by simp)];exact hpar
  have e:(if c.toNat=43\/c.toNat=45 then r else c::r)=c::r:=if_neg h1;unfold Lib.atoiAll;dsimp only;rw[e,hm];dsimp only;rw[if_neg oM,if_neg oM,if_neg h2]
theorem SA (c:UInt8) (s:List UInt8):Lib.trimSuffix s [c]=Fb c s:=by
 unfold Lib.trimSuffix Fb Lib.hasSuffix;rcases List.eq_nil_or_concat s with rfl|⟨l,x,rfl⟩
 ·simp
 ·simp only[List.concat_eq_append];by_cases hx:x=c
  ·subst hx;rw[if_pos (by simp),if_pos (by simp)];simp
  ·have h1:([c]:List UInt8).isSuffixOf (l++[x])=false:=by
    cases hh:([c]:List UInt8).isSuffixOf (l++[x])with
    |false=>rfl
    |true=>
     rw[List.isSuffixOf_iff_suffix]at hh;obtain⟨t,ht⟩:=hh;have:=List.append_inj_right' ht (by simp);simp at this;exact absurd this.symm hx
   rw[if_neg (by rw[h1];simp),if_neg (by simp[hx])]
variable {P:Program} {ρ:Go.Shelf.Ren} {W:World}
theorem c191_of (L:Go.Proofs.Lays.n102 P ρ):∀ args h K,S191 args h K->∀ w,h.sub w->Calls P (ρ.f 102) args.toArray w λe w'=>∃ v h',e=.returned v/\K v h'/\Aw h h' w w':=by
 rintro _ h K ⟨s,c,rfl,hsl,hK⟩ w hs;refine(Go.Proofs.Any.strings_TrimSuffix L (str s) (str [c]) w (by rw[BM];omega)).mono ?_;rintro e w' ⟨rfl,rfl⟩;refine⟨_,h,rfl,?_,Aw.refl hs⟩;rw[Bz,Bz,SA];exact hK h (ZX h)
theorem c190_of (L:Go.Proofs.LaysC.n172 P ρ) (h1:∃ te pe,W.cell? ⟨(ρ.g 15),0,O⟩=U (.iface te pe)) (h2:∃ te pe,W.cell? ⟨(ρ.g 16),0,O⟩=U (.iface te pe)):∀ args h K,S190 (full W) args h K->∀ w,h.sub w->Calls P (ρ.f 172) args.toArray w λe w'=>∃ v h',e=.returned v/\K v h'/\Aw h h' w w':=by
 rintro _ h K ⟨s,rfl,hsl,hT,hK⟩ w hs;obtain⟨t1,p1,c1⟩:=h1;obtain⟨t2,p2,c2⟩:=h2;have hno:∀ {e:Lib.NumEnd Int},Lib.atoiAll s=e->(∀v,e≠.ok v)->∀ n,s=Bo n->n<=1000000000000000->False:=by
  intro e he hne n hd hn;rw[hd,NW hn]at he;exact hne _ he.symm
 rcases ha:Lib.atoiAll s with v|_|_
 ·refine(Go.Proofs.Any.strconv_Atoi_ok L (str s) (by rw[BM];omega) v ha w).mono ?_;rintro e w' ⟨rfl,hw⟩;refine⟨_,h,rfl,hK h v .nilIface (ZX h) (λn hd hn=>⟨?_,rfl⟩) (.inl rfl),?_⟩
  ·rw[hd,NW hn]at ha;cases ha;rfl
  ·rcases hw with rfl|⟨t,rfl⟩
   ·exact Aw.refl hs
   ·exact Aw.below hs (Lib.bytesWorld_below w _ t)
 ·refine(Go.Proofs.Any.strconv_Atoi_syntax L (str s) (by rw[BM];omega) ha _ w (Ha hT hs c1) (.inr ⟨t1,p1,rfl⟩)).mono ?_;rintro e w' ⟨M,rfl,_,_,hb⟩;exact⟨_,h,rfl,hK h 0 _ (ZX h) (λn hd hn=>(hno ha (by intro v hv;cases hv) n hd hn).elim) (.inr ⟨_,_,rfl⟩),Aw.below hs hb⟩
 ·refine(Go.Proofs.Any.strconv_Atoi_range L (str s) (by rw[BM];omega) ha _ w (Ha hT hs c2) (.inr ⟨t2,p2,rfl⟩)).mono ?_;rintro e w' ⟨M,rfl,_,_,hb⟩;exact⟨_,h,rfl,hK h _ _ (ZX h) (λn hd hn=>(hno ha (by intro v hv;cases hv) n hd hn).elim) (.inr ⟨_,_,rfl⟩),Aw.below hs hb⟩
end Go.Cw
namespace Go.Cw
open Go
theorem LD (l:List (List UInt8)) (i:Nat):(l.flatMap AB)[i]?=(l[i]?).map λs=>.string (str s):=by
 induction l generalizing i with
 |nil=>simp
 |cons x l ih=>
  cases i with
  |zero=>simp[AB]
  |succ i=>simp only[ZL,AB,Y7,YI,List.getElem?_cons_succ];exact ih i
theorem Heap.set_self' {h:Heap} {b:Nat} {o:Obj}:(h.set b o) b=U o:=by simp[Heap.set]
theorem c67_of {P:Program} {ρ:Go.Shelf.Ren} (Ly:Go.Proofs.Lays.n192 P ρ):∀ args h K,S67 args h K->∀ w,h.sub w->Calls P (ρ.f 192) args.toArray w λe w'=>∃ v h',e=.returned v/\K v h'/\Aw h h' w w':=by
 rintro _ h K ⟨v,l,rfl,⟨a,cap,rfl,h1,h2,h3⟩,hl,hK⟩ w hs;by_cases hn:l=[]
 ·subst hn;refine(Go.Proofs.Any.sort_Strings_none Ly a cap w).mono ?_;rintro e w' ⟨rfl,rfl⟩;refine⟨_,h,rfl,hK h ⟨a,cap,by simp[MC],by simp[MC],h2,?_⟩ λb o hb _=>hb,Aw.refl hs⟩;rcases h3 with⟨q1,_,q2⟩|h3
  ·exact .inl ⟨q1,by simp[MC],q2⟩
  ·exact .inr (by simpa[MC]using h3)
 rcases h3 with⟨_,e,_⟩|⟨b,c,t,rfl,hb,hcs,hc⟩
 ·exact absurd e hn
 have hwb:=hs b _ hb;have hfl:(l.flatMap AB).length=l.length:=by rw[AZ (enc:=AB) (sz:=1) (λ_=>rfl)];omega
 have hH:Go.Sort.Holds Go.Proofs.encStr w b 0 l.toArray:=by
  intro j hj;have hj':j<l.length:=by simpa using hj
  constructor
  ·have:=hc j (by rw[hfl];exact hj');rw[LD,Zj hj']at this;simp only[World.cell?,hwb,Yn];rw[this];simp[hj',Go.Proofs.encStr,str]
  ·simp[World.frozen?,hwb]
 refine(Go.Proofs.Any.sort_Strings Ly b 0 cap l w hH (X1.1 hwb).1 oM).mono ?_;rintro e w' ⟨rfl,n,os,rfl⟩;have hlen:(MC l).length=l.length:=PP;have hsz:(Go.Sort.putCells Go.Proofs.encStr 0 (MC l).toArray c).size=c.size:=by simp[Go.Sort.putCells]
 refine⟨_,h.set b (.cells (Go.Sort.putCells Go.Proofs.encStr 0 (MC l).toArray c) t (0,0)),rfl,hK _ ⟨U ⟨b,0,O⟩,cap,by rw[hlen],by rw[hlen];exact h1,h2,.inr ⟨b,_,t,rfl,Heap.set_self',by rw[hsz];exact hcs,λi hi=>?_⟩⟩ λx o hx hne=>?_,⟨λx o hx=>?_,?_,rfl,rfl,rfl,λx hx hn=>⟨?_,?_⟩⟩⟩
 ·have hi':i<(MC l).length:=by rwa [AZ (enc:=AB) (sz:=1) (λ_=>rfl),Nat.mul_one]at hi
  rw[LD,Zj hi'];have hic:i<c.size:=oM;simp only[Go.Sort.putCells,AbZ,Yi hic,YH];rw[if_pos ⟨oM,by simpa using hi'⟩];have A5:i<l.length:=oM;simp[hi',Go.Proofs.encStr,str,Zj hi']
 ·have:x≠b:=by rintro rfl;exact hne rfl
  rw[ZW this];exact hx
 ·by_cases e:x=b
  ·subst e;rw[Heap.set_self']at hx;cases hx;have hlt:=(X1.1 hwb).1;rw[Go.Sort.heap_grow_old _ _ (by rw[Go.Sort.size_putRow];exact hlt)];simp[Go.Sort.putRow,Go.Sort.mapBlock,Go.Sort.ahead,AbY,hwb,Go.Sort.onCells]
  ·rw[ZW e]at hx;have hwx:=hs x o hx;have hlt:=(X1.1 hwx).1;rw[Go.Sort.heap_grow_old _ _ (by rw[Go.Sort.size_putRow];exact hlt)];simp[Go.Sort.putRow,Go.Sort.mapBlock,Go.Sort.ahead,AbY,hwx,Ne.symm e]
 ·rw[Go.Sort.size_grow,Go.Sort.size_putRow];simp
 ·have:x≠b:=by rintro rfl;rw[hn]at hb;cases hb
  rw[ZW this];exact hn
 ·have e:x≠b:=by rintro rfl;rw[hn]at hb;cases hb
  rw[Go.Sort.heap_grow_old _ _ (by rw[Go.Sort.size_putRow];exact hx)];simp[Go.Sort.putRow,Go.Sort.mapBlock,Go.Sort.ahead,AbY,Ne.symm e]
end Go.Cw
