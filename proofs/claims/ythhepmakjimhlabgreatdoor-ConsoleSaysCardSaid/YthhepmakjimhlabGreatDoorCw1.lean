/- Part 1 of the proof of ConsoleSays: a small language for the program's functions, its soundness, and what the functions do. No conditions beyond the theorems' own. -/
import Derived.Test.YthhepmakjimhlabGreatDoorCw0
import Derived.Below
import Derived.Carry
import Derived.Deep.Slices
import Derived.IntWalk
import Derived.OpenShut
import Derived.ProofKit
import Derived.ShutString
import Derived.WalkKit
import GoSem.ClaimJoined
set_option linter.unusedSimpArgs false
set_option linter.unusedVariables false
set_option maxRecDepth 20000
open Option renaming none -> O, some -> U, map_eq_some_iff -> XZ, bind_eq_some_iff -> X2, isNone_iff_eq_none -> Zt, map_some -> YH, isSome_none -> Zw, bind_some -> YE
open List renaming getElem?_eq_getElem -> Zj, length_append -> Zk, getElem?_append_left -> Zl, length_take -> Zn, length_singleton -> Zo, getElem?_append_right -> YN, getD_eq_getElem?_getD -> Zp, eq_nil_of_length_eq_zero -> Zs, cons_append -> Y7, nil_append -> YI, mem_append -> Yd, range -> Yh, length_cons -> Y5, mapM_cons -> YK, length_pos_iff -> Zx, mem_singleton -> YA, append_assoc -> Zy, drop_zero -> Zz, drop_drop -> ZA, take_of_length_le -> ZB, drop_eq_nil_of_le -> ZC, take_append_drop -> ZD, toList_toArray -> ZF, replicate_zero -> ZG, replicate_succ -> ZH, flatMap_cons -> ZL, length_drop -> ZO, all_eq_true -> Yc, length_nil -> ZR, map_cons -> Yj, map_nil -> Yw, length -> ZT
open Bool renaming and_eq_true -> X6, eq_iff_iff -> Zu, false_eq_true -> Ym, not_eq_true' -> YD
open Array renaming getD_eq_getD_getElem? -> X4, toList_inj -> YF, toList_append -> YW, length_toList -> Zv, getElem?_eq_some_iff -> X1, mapM_eq_mapM_toList -> YO, getElem?_toList -> YR, size_append -> ZJ, isEmpty_iff -> ZK, mem_filter -> ZN
open Nat renaming mul_le_mul_right -> Zm, add_mul -> Zq, le_refl -> Yq, zero_add -> Yn, pow_succ -> ZE, mul_le_mul_left -> ZI, succ_ne_self -> ZP, mod_eq_of_lt -> ZQ, zero_mul -> ZS, le_trans -> YU, zero_le -> ZU, mul_one -> ZV
open Go.Result renaming andThen_ok -> X0
open Go.Sem renaming run_pure -> X8, run_bind -> X3, run_map -> Zh
open Go.World renaming putObj_heap_other -> Ye
open Int renaming cast_ofNat_Int -> ZM
namespace Go.Cw
open Go Go.RowKit
variable {P:Program} {N:Num} {tk fk:Nat->Option Nat} {Γ:Ctx}
def CM (P:Program) (tk fk:Nat->Option Nat) (nt:Nat) (m:AR) (k off:Nat):Bool->Code->Option St
 |_,.skip=>U .skip
 |_,.ret=>U .ret
 |_,.exit id=>U (.exit id)
 |_,.region _ ops false=>if ops.all nd then(DD P tk fk ops nt m [] (Yh ops.size)).map .reg else O
 |_,.region _ ops true=>if ops.all nd then(I4 P tk fk ops nt m (WV ops) (J1 ops.toList (ops.size+1) [])).map .dreg else O
 |top,.seq a b=>
  match CM P tk fk nt m k off top a,CM P tk fk nt m k off top b with
  |some s,U t=>U (.seq s t)
  |_,_=>O
 |top,.cond x a b=>
  match HP m x,CM P tk fk nt m k off top a,CM P tk fk nt m k off top b with
  |some e,U s,U t=>U (.cond e s t)
  |_,_,_=>O
 |top,.block id a=>(CM P tk fk nt m k off top a).map (.block id)
 |top,.loop a=>(CM P tk fk nt m k off top a).map .loop
 |top,.rangeFunc (.tmp t) ps a b=>
  match top,ps.toList with
  |true,[p]=>
   match EW t 0 m,EW p 0 m,CM P tk fk nt m k off false a,CM P tk fk nt m k off false b with
   |some (i,false),U (ip,false),U s,U s'=>if p<nt then U (.rfn k off i ip s s')else O
   |_,_,_,_=>O
  |_,_=>O
 |_,_=>O
theorem NK (htk:∀ t k,tk t=U k->N.tid k=t) (hfk:∀ f k,fk f=U k->N.fid k=f) (hΓ:Good P N Γ) (hmix:P.follows .mixedOrders=true) {nt:Nat} {m:AR} (hnd:(m.map (·.1)).Nodup) (hp:ES m=true) {k off:Nat} (hit:ItOk P (N.fid k) off) :
  ∀ (c:Code) (top:Bool) (s:St),CM P tk fk nt m k off top c=U s->∀ ro,(top=true->ro=O)->B4 P N Γ m nt ro s c:=by
 intro c;induction c with
 |skip=>intro top s h ro _;simp only[CM]at h;cases h;exact VK
 |ret=>intro top s h ro _;simp only[CM]at h;cases h;exact WZ
 |exit id=>intro top s h ro _;simp only[CM]at h;cases h;exact VM
 |region id ops draw=>
  intro top s h ro _;cases draw with
  |false=>
   simp only[CM]at h;split at h
   ·rename_i hn;obtain⟨l,h1,rfl⟩:=XZ.1 h;exact W0 htk hfk hΓ hnd hp hn h1
   ·cases h
  |true=>
   simp only[CM]at h;split at h
   ·rename_i hn;obtain⟨d,h1,rfl⟩:=XZ.1 h;exact VN htk hfk hΓ hmix hnd hp hn h1
   ·cases h
 |seq a b iha ihb=>
  intro top s h ro ht;simp only[CM]at h;split at h<;>cases h;rename_i s t h1 h2;exact WX (iha _ _ h1 ro ht) (ihb _ _ h2 ro ht)
 |cond x a b iha ihb=>
  intro top s h ro ht;simp only[CM]at h;split at h<;>cases h;rename_i e s t h0 h1 h2;exact VO h0 (iha _ _ h1 ro ht) (ihb _ _ h2 ro ht)
 |block id a ih=>
  intro top s h ro ht;simp only[CM,XZ]at h;obtain⟨t,h,rfl⟩:=h;exact UA (ih _ _ h ro ht)
 |loop a ih=>
  intro top s h ro ht;simp only[CM,XZ]at h;obtain⟨t,h,rfl⟩:=h;exact VL (ih _ _ h ro ht)
 |rangeFunc f ps a b iha ihb=>
  intro top s h ro ht;cases f with
  |tmp t=>
   simp only[CM]at h;split at h
   ·rename_i p hps;split at h
    ·rename_i i ip sa sb h1 h2 h3 h4;split at h<;>cases h;rename_i hlt;obtain⟨i',rfl,hi⟩:=Bt m 0 _ _ h1;obtain⟨ip',rfl,hip⟩:=Bt m 0 _ _ h2;have:ps=#[p]:=by apply YF.1;simpa using hps
     subst this;have:=ht rfl;subst this;rw[Yn,Yn];exact WY hnd hit hi hip hlt (λl=>iha _ _ h3 _ (by simp)) (λl=>ihb _ _ h4 _ (by simp))
    ·cases h
   ·cases h
  |_=>simp[CM]at h
 |_=>intro top s h;simp[CM]at h
def GI (P:Program) (m:AR):List ResultVar->Option (List Ex)
 |[]=>U []
 |.tmp t::r=>
  match EW t 0 m,GI P m r with
  |some (i,false),U l=>U (.var i::l)
  |_,_=>O
 |.cell t ty::r=>
  match EW t 0 m,Ee P ty,A7 P ty,GI P m r with
  |some (i,false),U false,U 1,U l=>U (.o1 .ld (.var i)::l)
  |some (i,false),U true,U n,U l=>U (.o1 (.ldn n) (.var i)::l)
  |_,_,_,_=>O
theorem Te {N:Num} {env:At} {h:Heap} {u:Value} {v:Value} (h1:Bw N env h .ld (.v u)=U (.v v)):∃ a,u=.pointer (U a)/\h.cell a=U v:=by
 cases u with
 |pointer p=>
  cases p with
  |none=>simp[Bw]at h1
  |some a=>
   simp only[Bw,XZ]at h1;obtain⟨x,h2,h3⟩:=h1;cases h3;exact⟨a,rfl,h2⟩
 |_=>simp[Bw]at h1
theorem Rh {N:Num} {env:At} {h:Heap} {n:Nat} {u:Value} {v:Value} (h1:Bw N env h (.ldn n) (.v u)=U (.v v)):∃ a c,u=.pointer (U a)/\h.row a n=U c/\v=.agg c:=by
 cases u with
 |pointer p=>
  cases p with
  |none=>simp[Bw]at h1
  |some a=>
   simp only[Bw,XZ]at h1;obtain⟨x,h2,h3⟩:=h1;cases h3;exact⟨a,x,rfl,h2,rfl⟩
 |_=>simp[Bw]at h1
theorem OE {m:AR} {nt:Nat} {env:At} {h:Heap} {a:Act} {w:World} (hr:PR m nt env h a w) {w':World} (hs:h.sub w')
  {f:ResultVar->Sem Value} (hf1:∀ t,f (.tmp t)=pure (a.tmps.getD t undef)) (hf2:∀ x t,f (.cell x t)=(do loadVar t (<-asAddr (a.tmps.getD x undef)))) :
  ∀ (rs:List ResultVar) (es:List Ex) (vs:List Value),GI P m rs=U es->AS N env h es=U vs->(rs.mapM f).run P w'=.ok vs w':=by
 intro rs;induction rs with
 |nil=>intro es vs h1 h2;simp only[GI]at h1;cases h1;simp only[AS]at h2;cases h2;rfl
 |cons r rs ih=>
  intro es vs h1 h2;cases r with
  |tmp t=>
   simp only[GI]at h1;split at h1<;>cases h1;rename_i i l hi hl;simp only[AS]at h2;split at h2<;>cases h2;rename_i v vs' hv hvs;obtain⟨j,rfl,hj⟩:=Bt m 0 _ _ hi;simp only[ev,XZ,Yn]at hv;obtain⟨v',h3,h4⟩:=hv;cases h4;simp only[YK,X3,hf1,X8,X0,hr.plain j t hj _ h3,ih l vs' hl hvs]
  |cell x t=>
   simp only[GI]at h1;split at h1
   ·cases h1;rename_i i l hi ha hsz hl;simp only[AS]at h2;split at h2<;>cases h2;rename_i v vs' hv hvs;obtain⟨j,rfl,hj⟩:=Bt m 0 _ _ hi;obtain⟨u,h3,h4⟩:=Jq hv;simp only[ev,XZ,Yn]at h3;obtain⟨v',h5,rfl⟩:=h3;obtain⟨ad,rfl,h6⟩:=Te h4;have hh:(asAddr (a.tmps.getD x undef)).run P w'=.ok ad w':=by rw[hr.plain j x hj _ h5];rfl
    simp only[YK,hf2,X3,hh,X8,X0,Id ha (Heap.sub_cell hs h6),ih l vs' hl hvs]
   ·cases h1;rename_i i n l hi ha hsz hl;simp only[AS]at h2;split at h2<;>cases h2;rename_i v vs' hv hvs;obtain⟨j,rfl,hj⟩:=Bt m 0 _ _ hi;obtain⟨u,h3,h4⟩:=Jq hv;simp only[ev,XZ,Yn]at h3;obtain⟨v',h5,rfl⟩:=h3;obtain⟨ad,c,rfl,h6,rfl⟩:=Rh h4;have hh:(asAddr (a.tmps.getD x undef)).run P w'=.ok ad w':=by rw[hr.plain j x hj _ h5];rfl
    simp only[YK,hf2,X3,hh,X8,X0,G9 ha hsz (Heap.sub_row hs h6),ih l vs' hl hvs]
   ·cases h1
theorem Mg {fn:Func} {tmps:Array Value} {R:Ending->World->Prop} {B:Nat} {h:Heap}:∀ (Ds:List Nat) (w:World),U8 B Ds h w->h.sub w->(∀w',h.sub w'->w'.heap.size=w.heap.size->w'.os=w.os->w'.tape=w.tape->w'.output=w.output->(∀b,b<B->w'.heap[b]?=w.heap[b]?)->∃ v,(results fn tmps).run P w'=.ok v w'/\R (.returned v) w') ->
  LeavesInM Fence.wide 0 P fn tmps R (Ic Ds) .returning w:=by
 intro Ds;induction Ds with
 |nil=>intro w _ hs hR;exact hR w hs rfl rfl rfl rfl (λ_ _=>rfl)
 |cons D Ds ih=>
  intro w hM hs hR;obtain⟨h1,h2,h3⟩:=hM.2 D (by simp);have hnd:=List.nodup_cons.1 hM.1;refine⟨by simp,.inl ⟨D,_,rfl,run_takeDeferred h2,?_⟩⟩;refine ih _ ⟨hnd.2,λD' hD'=>?_⟩ (LX hs h3 _) λw' k1 k2 k3 k4 k5 k6=>hR w' k1 (by simpa using k2) k3 k4 k5 λb hb=>?_
  ·obtain⟨g1,g2,g3⟩:=hM.2 D' (by simp[hD']);have:D'≠D:=by intro e;subst e;exact hnd.1 hD'
   exact⟨g1,by rw[Ye this];exact g2,g3⟩
  ·rw[k6 b hb,Ye (by omega)]
theorem Pg {f : FuncId} {fn : Func} {c : Code} (hf : P.funcs[f]? = U fn) (hname : (fn.name == "runtime.NumGoroutine") = false) (hb : fn.body = U c) {m : AR} (hp : ES m = true) {F : SFun} (hc : B4 P N Γ m fn.ntmps O F.body c)
  (hres:GI P m fn.results.toList=U F.res) (hnv:F.nv=m.length) (hm0:∀ i,i<F.np->m[i]?=U (i,false)) (hnp:F.np<=fn.ntmps) (hle:F.np<=F.nv) {args:List Value} {h:Heap} {K:Value->Heap->Prop} (hK:SF N Γ F args h K) :
  FC P f args h K:=by
 obtain⟨hlen,hK⟩:=hK;refine .inl ⟨⟨fn,hf,hname,by rw[hb];rfl⟩,λw hs=>?_⟩;refine(callsIn_wide (n:=0)).1 (callsIn_of_wp_marks (F:=Fence.wide) hf hb trivial ?_);have hrel:PR m fn.ntmps (Bh F.nv args) h { tmps:=args.toArray++Array.replicate (fn.ntmps-args.toArray.size) undef,defers:=[] } w:=by
  refine⟨?_,?_,?_,(by intro i b hb;cases hb),(by intro i b hb;cases hb),(by intro i j b hb;cases hb),Aw.refl hs,?_,rfl⟩
  ·simp[Bh,hlen];omega
  ·intro i slot hm v hv;by_cases hi:i<args.length
   ·have:=hm0 i (by omega);rw[this]at hm;cases hm;simp only[At.get,Bh,Zl (show i<(args.map U).length by simpa using hi),List.getElem?_map]at hv;have hg:args[i]?=U v:=by
     cases hh:args[i]? with
     |none=>rw[hh]at hv;simp at hv
     |some x=>rw[hh]at hv;simp at hv;rw[hv]
    rw[X4,Array.getElem?_append_left (by simpa using hi)];simp[hg]
   ·simp only[At.get,Bh,YN (show(args.map U).length<=i by simpa using hi),List.getElem?_replicate]at hv;split at hv<;>simp at hv
  ·intro i slot hm v hv;exact absurd hm (Fe hp)
  ·simp;omega
 refine hc w.heap.size _ _ [] (Bh F.nv args) h _ w hK hrel ⟨List.nodup_nil,λD hD=>by cases hD⟩ (Yq _) ?_;intro e env h' a w' Ds hq hr hst hM;have fin:(∃vs,AS N env h' F.res=U vs/\K (MB vs) h')->LeavesInM Fence.wide 0 P fn a.tmps (λe w''=>∃ v h',e=Ending.returned v/\K v h'/\Aw h h' w w'') (Ic Ds) .returning w':=by
  rintro⟨vs,h1,h2⟩;refine Mg Ds w' hM hst.sub λw'' k1 k2 k3 k4 k5 k6=>⟨MB vs,?_,MB vs,h',rfl,h2,⟨k1,by have:=hst.size;omega,k3.trans hst.os,k4.trans hst.tape,k5.trans hst.output,λb hb hn=>?_⟩⟩
  ·unfold results;rw[YO];simp only[X3,Zh];rw[OE (N:=N) (P:=P) hr k1 (λ_=>rfl) (λ_ _=>rfl) fn.results.toList F.res vs hres h1];simp only[X0,X8]
   match vs with
   |[]=>rfl
   |[v]=>rfl
   |v::u::r=>simp[MB]
  ·obtain⟨g1,g2⟩:=hst.frame b hb hn;exact⟨g1,(k6 b hb).trans g2⟩
 cases e with
 |normal=>exact fin hq
 |exit id=>exact hq.elim
 |ret=>exact fin hq
def compFP (P:Program) (tk fk:Nat->Option Nat) (k off np:Nat) (m:AR) (fn:Func):Option SFun:=
 match fn.body with
 |some c=>
  match CM P tk fk fn.ntmps m k off true c,GI P m fn.results.toList with
  |some s,U r=>
   if IS (m.map (·.1)) && ES m && (Yh np).all (fun i => m[i]? == U (i, false)) && decide (np ≤ fn.ntmps) && decide (np ≤ m.length) && !(fn.name == "runtime.NumGoroutine") then U ⟨np, m.length, s, r⟩ else O
  |_,_=>O
 |none=>O
theorem compFP_sound (htk:∀ t k,tk t=U k->N.tid k=t) (hfk:∀ f k,fk f=U k->N.fid k=f) (hΓ:Good P N Γ) (hmix:P.follows .mixedOrders=true) {f:FuncId} {fn:Func} (hf:P.funcs[f]?=U fn) {k off:Nat} (hit:ItOk P (N.fid k) off)
  {m:AR} {np:Nat} {F:SFun} (hF:compFP P tk fk k off np m fn=U F) {args:List Value} {h:Heap} {K:Value->Heap->Prop} (hK:SF N Γ F args h K):FC P f args h K:=by
 unfold compFP at hF;split at hF
 ·rename_i c hc;split at hF
  ·rename_i s r hs hr;split at hF<;>cases hF;rename_i hok;simp only[X6,decide_eq_true_eq,Yc,List.mem_range,beq_iff_eq,YD]at hok;obtain⟨⟨⟨⟨⟨h1,hp⟩,h2⟩,h3⟩,h4⟩,h5⟩:=hok;exact Pg hf h5 hc hp (NK htk hfk hΓ hmix (HG _ h1) hp hit c true s hs O (λ_=>rfl)) hr rfl h2 h3 h4 hK
  ·cases hF
 ·cases hF
end Go.Cw
namespace Go.Cw
open Go Go.RowKit
variable {P:Program} {N:Num} {tk fk:Nat->Option Nat} {Γ:Ctx}
def Wu:AR:=[(0,false),(1,false),(3,false),(8,false),(9,false),(10,false),(11,false),(15,false),(16,false)]
def XV (off:Nat):List Hi:=[⟨[],U (.ef [] .rng [(.o1 .ld (.o1 (.fadr off) (.o1 .nilck (.o1 .ld (.var 1)))))] (U 3))⟩]
def XU:List Hi:=[⟨[],U (.ef [] .nxt [(.var 3)] (U 4))⟩,⟨[⟨[],5,(.o1 (.ext 0) (.var 4))⟩],O⟩]
def XT:List Hi:=[⟨[],U (.ef [] .ent [(.var 3)] (U 6))⟩,⟨[⟨[],2,(.o1 (.ext 0) (.var 6))⟩],O⟩]
def RC (o:Oper) (t d:Nat):Bool:=o.dst==U d&&o.guard.isNone&&(match o.op with | .move (.tmp x)=>x==t|_=>false)
def UI (o:Oper):Bool:=o.dst==U 15&&o.guard.isNone&&(match o.op with | .call { callee:=.value (.tmp x),args:=as,argTypes:=_ }=>x==13&&(match as.toList with|[.tmp y]=>y==14|_=>false)|_=>false)
def UJ (o:Oper):Bool:=o.dst==U 16&&o.guard.isNone&&(match o.op with | .unOp .not _ (.tmp x)=>x==15|_=>false)
def Qb (x:Operand) (t:Nat):Bool:=match x with | .tmp y=>y==t|_=>false
def Tp (P:Program) (tk fk:Nat->Option Nat) (fn:Func):Option (List Hi×List Hi×List Hi):=
 match fn.body with
 |some (.seq (.region _ A false) (.block b (.loop (.seq (.region _ B false) (.seq (.cond x .skip (.exit b')) (.block _ (.seq (.region _ C false) (.seq (.region _ D false) (.cond y .ret .skip)))))))))=>
  match D.toList with
  |[o0,o1,o2,o3]=>
   if b == b' && A.all nd && B.all nd && C.all nd && RC o0 0 13 && RC o1 3 14 && UI o2 && UJ o3 && Qb x 10 && Qb y 16 && fn.ntmps == 17 && fn.results.isEmpty && !(fn.name == "runtime.NumGoroutine") then
    match DD P tk fk A 17 Wu [] (Yh A.size),DD P tk fk B 17 Wu [] (Yh B.size),DD P tk fk C 17 Wu [] (Yh C.size)with
    |some a,U b,U c=>U (a,b,c)
    |_,_,_=>O
   else O
  |_=>O
 |_=>O
theorem Ia {F:Fence} {ops:Array Oper} {Q:Exit->Act->World->Prop} {i:Nat} {rest:List Nat} {o:Oper} {a:Act} {w:World} (ho:ops[i]?=U o) (hg:o.guard=O) (h:o.wpIn F 0 P a w (wpOpsIn F 0 P ops Q rest) Q):wpOpsIn F 0 P ops Q (i::rest) a w:=by
 simp only[wpOpsIn,ho];have:Region.wanted o (yielded ops a.tmps)=true:=by simp[Region.wanted,hg]
 rw[if_pos this];exact h
theorem Lz {o:Oper} {t d:Nat} (h:RC o t d=true):o.dst=U d/\o.guard=O/\o.op=.move (.tmp t):=by
 unfold RC at h;simp only[X6,beq_iff_eq,Zt]at h;obtain⟨⟨h1,h2⟩,h3⟩:=h;split at h3<;>first|(rename_i x hx;simp at h3;subst h3;exact⟨h1,h2,hx⟩)|cases h3
theorem RB {o:Oper} (h:UJ o=true):o.dst=U 16/\o.guard=O/\∃ t,o.op=.unOp .not t (.tmp 15):=by
 unfold UJ at h;simp only[X6,beq_iff_eq,Zt]at h;obtain⟨⟨h1,h2⟩,h3⟩:=h;split at h3<;>first|(rename_i x y hx;simp at h3;subst h3;exact⟨h1,h2,_,hx⟩)|cases h3
theorem RA {o:Oper} (h:UI o=true):o.dst=U 15/\o.guard=O/\∃ ts,o.op=.call { callee:=.value (.tmp 13),args:=#[.tmp 14],argTypes:=ts }:=by
 unfold UI at h;simp only[X6,beq_iff_eq,Zt]at h;obtain⟨⟨h1,h2⟩,h3⟩:=h;split at h3
 ·rename_i x as ts hx;simp only[X6,beq_iff_eq]at h3;obtain⟨h4,h5⟩:=h3;subst h4;split at h5
  ·rename_i y hy;simp at h5;subst h5;have:as=#[.tmp 14]:=by apply YF.1;simpa using hy
   subst this;exact⟨h1,h2,_,hx⟩
  ·cases h5
 ·cases h3
theorem Kj {x:Operand} {t:Nat} (h:Qb x t=true):x=.tmp t:=by
 unfold Qb at h;split at h
 ·simp at h;subst h;rfl
 ·cases h
theorem PW {F:Fence} {o:Oper} {t:Nat} (ho:o.op=.move (.tmp t)) {a:Act} {w:World} {K:Act->World->Prop} {Q:Exit->Act->World->Prop} (hF:∀ f,F.fn f) (hro:F.round=O) (h:K (a.put o.dst (a.tmps.getD t undef)) w):o.wpIn F 0 P a w K Q:=by
 refine⟨λf _=>hF f,?_⟩;rw[hro,Oper.semAt_none,Ay ho];rw[X4]at h;simp[execOp,Act.eval,Oper.uponIn];exact h
theorem VQ {F:Fence} {o:Oper} {t:Nat} {ty:TypeId} {b:Bool} (ho:o.op=.unOp .not ty (.tmp t)) {a:Act} (hb:a.tmps.getD t undef=.bool b) {w:World} {K:Act->World->Prop} {Q:Exit->Act->World->Prop} (hF:∀ f,F.fn f) (hro:F.round=O) (h:K (a.put o.dst (.bool (!b))) w):o.wpIn F 0 P a w K Q:=by
 refine⟨λf _=>hF f,?_⟩;rw[hro,Oper.semAt_none,Ay ho];rw[X4]at hb;simp[execOp,Act.eval,Oper.uponIn,hb,go_sem];exact h
theorem CZ (a:Act) (d t:Nat) (v:Value) (hd:d<a.tmps.size):(a.put (U d) v).tmps.getD t undef=if d=t then v else a.tmps.getD t undef:=by
 by_cases e:d=t
 ·subst e;simp[Act.put,Array.getD,hd]
 ·simp[Act.put,X4,e]
theorem UH {ops:Array Oper} {o0 o1 o2 o3:Oper} (hD:ops.toList=[o0,o1,o2,o3]) (s0:RC o0 0 13=true) (s1:RC o1 3 14=true) (s2:UI o2=true) (s3:UJ o3=true) {id l:Nat} {a:Act} {w:World} {key:Value} {Q:Exit->Act->World->Prop}
  (hsz:a.tmps.size=17) (h0:a.tmps.getD 0 undef=.func (.yield l) #[] #[]) (h3:a.tmps.getD 3 undef=key)
  (hy:YieldAt Fence.wide 0 P l #[key] w λen W'=>∃ b,en=.returned (.bool b)/\Q .normal ((((a.put (U 13) (.func (.yield l) #[] #[])).put (U 14) key).put (U 15) (.bool b)).put (U 16) (.bool (!b))) W') :
  (Code.region id ops false).wpIn Fence.wide 0 P Q a w:=by
 have hops:ops=#[o0,o1,o2,o3]:=by apply YF.1;simpa using hD
 subst hops;obtain⟨d0,g0,p0⟩:=Lz s0;obtain⟨d1,g1,p1⟩:=Lz s1;obtain⟨d2,g2,ts,p2⟩:=RA s2;obtain⟨d3,g3,ty,p3⟩:=RB s3;refine wpIn_region ?_;show wpOpsIn Fence.wide 0 P #[o0,o1,o2,o3] Q [0,1,2,3] a w;refine Ia (o:=o0) rfl g0 (PW p0 (λ_=>trivial) rfl ?_);refine Ia (o:=o1) rfl g1 (PW p1 (λ_=>trivial) rfl ?_);rw[d0,d1,h0,CZ _ _ _ _ (by omega),if_neg (by omega),h3];refine Ia (o:=o2) rfl g2 ⟨λ_ _=>trivial,?_⟩;obtain⟨fn,tmps,assign,body,hy1,hy2⟩:=hy;have e13:((a.put (U 13) (.func (.yield l) #[] #[])).put (U 14) key).tmps.getD 13 undef=.func (.yield l) #[] #[]:=by
  rw[CZ _ _ _ _ (by simp[Act.put,hsz]),if_neg (by omega),CZ _ _ _ _ (by omega),if_pos rfl]
 have e14:((a.put (U 13) (.func (.yield l) #[] #[])).put (U 14) key).tmps.getD 14 undef=key:=by
  rw[CZ _ _ _ _ (by simp[Act.put,hsz]),if_pos rfl]
 have hrun:(o2.semAt Fence.wide.round ((a.put (U 13) (.func (.yield l) #[] #[])).put (U 14) key).eval).run P w=.ok (.round l fn tmps assign body) w:=by
  show(execOp _ o2).run P w=_;rw[Ay p2];simp only[execOp];rw[X4]at e13 e14;simp[resolve,Act.eval,e13,e14,Deferred.ofValue,invoke,hy1]
 rw[hrun,Oper.uponIn_round];refine⟨λh=>(by cases h),hy2.mono ?_⟩;rintro en W' ⟨b,rfl,hq⟩;refine Ia (o:=o3) rfl g3 (VQ (b:=b) p3 ?_ (λ_=>trivial) rfl ?_)
 ·rw[d2,CZ _ _ _ _ (by simp[Act.put,hsz]),if_pos rfl]
 ·rw[d2,d3];exact hq
theorem RS (es:List MapEntry) {e:MapEntry} (he:e∈es):∃ e',es.find? (·.born==e.born)=U e'/\e'∈es/\e'.born=e.born:=by
 cases hf:es.find? (·.born==e.born)with
 |none=>have:=List.find?_eq_none.1 hf e he;simp at this
 |some e'=>exact⟨e',rfl,List.mem_of_find?_eq_some hf,by have:=List.find?_some hf;simpa using this⟩
theorem Pv {es:Array MapEntry} {ck:Nat} {AN:Array Nat} (hes:∀ e∈es.toList,e.born<ck) (h:O∈(CN es ck AN).toList):∀ e∈es.toList,e.born∈AN.toList:=by
 intro e he;apply Classical.byContradiction;intro hn;unfold CN at h;simp only[YW,Yd]at h;rcases h with h|h
 ·split at h
  ·rename_i hemp;have:e∈((es.filter λe=>!AN.contains e.born).filter (λe=>decide (e.born<ck))):=by
    simp only[ZN];exact⟨⟨by simpa using he,by simpa using hn⟩,by simpa using hes e he⟩
   simp only[ZK]at hemp;rw[hemp]at this;simp at this
  ·simp at h
 ·simp at h
theorem Pu {es:Array MapEntry} {ck:Nat} {AN:Array Nat} {e:MapEntry} (h:U e∈(CN es ck AN).toList):e∈es.toList/\e.born∉AN.toList:=by
 unfold CN at h;simp only[YW,Yd]at h;rcases h with h|h
 ·split at h<;>simp at h
 ·simp only[Array.toList_map,YW,List.map_append,Yd,List.mem_map,Option.some.injEq,exists_eq_right,Array.mem_toList_iff,ZN]at h;rcases h with h|h
  ·exact⟨by simpa using h.1.1,by simpa using h.1.2⟩
  ·exact⟨by simpa using h.1.1,by simpa using h.1.2⟩
theorem TX {es:Array MapEntry} {ck:Nat} {AN:Array Nat}:(CN es ck AN).size≠0:=by
 unfold CN;intro h0;simp only[ZJ,Array.size_map]at h0;split at h0
 ·simp at h0
 ·rename_i hne;apply hne;rw[ZK];apply Array.eq_empty_of_size_eq_zero;omega
theorem K9 {a:Act} (h:a.defers=[]):Dd (Ic []) a=a:=by cases a;simp only at h;subst h;rfl
theorem SZ (htk:∀ t k,tk t=U k->N.tid k=t) (hfk:∀ f k,fk f=U k->N.fid k=f) (hΓ:Good P N Γ) {m:AR} {nt:Nat} (hnd:(m.map (·.1)).Nodup) (hp:ES m=true) {id:Nat} {ops:Array Oper} (hn:ops.all nd=true) {l:List Hi}
  (hl:DD P tk fk ops nt m [] (Yh ops.size)=U l) {K:At->Heap->Prop} {Q':Exit->Act->World->Prop} {env:At} {h:Heap} {a:Act} {w:World} (hK:CU N Γ l env h K) (hr:PR m nt env h a w)
  (hQ:∀ env' h' a' w',K env' h'->PR m nt env' h' a' w'->Aw h h' w w'->Q' .normal a' w'):(Code.region id ops false).wpIn Fence.wide 0 P Q' a w:=by
 have h1:=Gh htk hfk hΓ hnd (Q:=λe a' w'=>e=.normal/\a'.defers=[]/\∃ env' h',K env' h'/\PR m nt env' h' a' w'/\Aw h h' w w') (h0:=h) (w0:=w) (Yh ops.size) [] l Rj env h a w K hl hr hK
  (λpb env' h' a' w' hk hr'=>⟨rfl,hr'.df,env',h',hk,hr'.again hp,hr'.step⟩)
 rw[List.reverse_nil,YI]at h1;have h2:=MG (ro:=O) (ds:=Ic []) (Q':=Q') hn (λe a w hq=>⟨hq.1,hq.2.1⟩) (λa' w' ⟨_,hd,env',h',h2,h3,h4⟩=>by rw[K9 hd];exact hQ _ _ _ _ h2 h3 h4) _ h1;rw[K9 hr.df]at h2;exact wpIn_region h2
def IU (es:List MapEntry) (dn:List Nat):Nat:=(es.filter λe=>!dn.contains e.born).length
theorem Ru {es:List MapEntry} {dn:List Nat} {e:MapEntry} (he:e∈es) (hn:e.born∉dn):IU es (dn++[e.born])<IU es dn:=by
 unfold IU;have h1:(es.filter λx=>!(dn++[e.born]).contains x.born)=(es.filter λx=>!dn.contains x.born).filter λx=>!(dn++[e.born]).contains x.born:=by
  rw[List.filter_filter];congr 1;funext x;simp only[List.contains_eq_mem,Yd,YA];by_cases h1:x.born∈dn<;>by_cases h2:x.born=e.born<;>simp[h1,h2]
 rw[h1];apply List.length_filter_lt_length_iff_exists.2;exact⟨e,List.mem_filter.2 ⟨he,by simpa using hn⟩,by simp⟩
theorem itRead_ok (htk : ∀ t k, tk t = U k → N.tid k = t) (hfk : ∀ f k, fk f = U k → N.fid k = f) (hΓ : Good P N Γ) {g : FuncId} {fn : Func} (hf : P.funcs[g]? = U fn) {off : Nat} (hr : Tp P tk fk fn = U (XV off, XU, XT)) : ItOk P g off := by
  unfold Tp at hr
  split at hr
  · rename_i _ i1 A b i2 B x b' b1 i3 C i4 D y hb
    split at hr
    · rename_i o0 o1 o2 o3 hD
      split at hr
      · rename_i hok
        simp only [X6, beq_iff_eq, YD] at hok
        obtain ⟨⟨⟨⟨⟨⟨⟨⟨⟨⟨⟨⟨hbb, hnA⟩, hnB⟩, hnC⟩, s0⟩, s1⟩, s2⟩, s3⟩, hx⟩, hy⟩, hnt⟩, hres⟩, hname⟩ := hok
        subst hbb
        have hx := Kj hx
        have hy := Kj hy
        subst hx hy
        split at hr
        · rename_i sa sb sc ha hbs hcs
          cases hr
          refine ⟨fun args w => ?_, ?_⟩
          · have hn' : fn.name ≠ "runtime.NumGoroutine" := by simpa using hname
            simp [callFunc, program, Sem.run, hf, hn', hb]
          intro l c a m es ck h w1 J Jx hc1 hc2 hes hs hJ0 hJm hround
          have hnd : (Wu.map (·.1)).Nodup := by decide
          have hpl : ES Wu = true := rfl
          have hresl : fn.results.toList = [] := by simpa using hres
          refine callsIn_of_wp (F := Fence.wide) hf hb trivial ?_
          obtain ⟨env0', he0⟩ : ∃ e : At, e = [U (.func (.yield l) #[] #[]), U (.pointer (U c)), O, O, O, O, O, O, O] := ⟨_, rfl⟩
          have hrel : PR Wu 17 env0' h { tmps := #[.func (.yield l) #[] #[], .pointer (U c)] ++ Array.replicate (fn.ntmps - 2) undef, defers := [] } w1 := by
            rw [hnt, he0]
            refine ⟨rfl, ?_, ?_, (by intro i b hb; cases hb), (by intro i b hb; cases hb), (by intro i j b hb; cases hb), Aw.refl hs, by simp, rfl⟩
            · intro i slot hm v hv
              match i, hm, hv with
              | 0, hm, hv => cases hm; cases hv; simp
              | 1, hm, hv => cases hm; cases hv; simp
              | 2, hm, hv => cases hv
              | 3, hm, hv => cases hv
              | 4, hm, hv => cases hv
              | 5, hm, hv => cases hv
              | 6, hm, hv => cases hv
              | 7, hm, hv => cases hv
              | 8, hm, hv => cases hv
              | n + 9, hm, hv => cases hm
            · intro i slot hm v hv
              exact absurd hm (Fe hpl)
          have hdone : ∀ (a' : Act) (W' : World), a'.defers = [] → ((∃ G dn, J dn G ∧ Aw h G w1 W' ∧ ∀ e ∈ es.toList, e.born ∈ dn) ∨ Jx W') → bodyPost P fn (fun en W' => (∃ v, en = .returned v) ∧ ((∃ G dn, J dn G ∧ Aw h G w1 W' ∧ ∀ e ∈ es.toList, e.born ∈ dn) ∨ Jx W')) .normal a' W' := by
            intro a' W' hd hfin
            refine ⟨hd, MB [], ?_, ⟨_, rfl⟩, hfin⟩
            unfold results
            rw [YO]
            simp only [X3, Zh, hresl, List.mapM_nil, X8, X0]
            rfl
          refine wpIn_seq ?_
          refine SZ htk hfk hΓ hnd hpl hnA ha (env := env0') (h := h) (K := fun env' h' => ∃ r, h r = O ∧ env' = env0'.put 3 (.pointer (U ⟨r, 0, O⟩)) ∧ h' = h.set r (.mapIter (U m) ck #[] ck)) ?_ hrel ?_
          · refine ⟨_, rfl, .inl ⟨rfl, [.map (U m)], ?_, es, ck, hJm _ _ hJ0, fun r hr => ⟨r, hr, rfl, rfl⟩⟩⟩
            have h1 : ev N env0' h (.o1 .ld (.o1 (.fadr off) (.o1 .nilck (.o1 .ld (.var 1))))) = U (.v (.map (U m))) := by
              simp [ev, he0, At.get, Bw, hc1, hc2]
            simp [AS, h1]
          rintro env1 h' a1 W2 ⟨r, hrn, rfl, rfl⟩ hr1 hst1
          refine wpIn_block ?_
          have hsr : ∀ {G : Heap} {o : Obj} {W : World}, G r = O → (G.set r o).sub W → G.sub W := by
            intro G o W hg hsub b o' hb
            have : b ≠ r := by intro e; subst e; rw [hg] at hb; cases hb
            exact hsub b o' (by simp [Heap.set, this, hb])
          have hrbig : ∀ b, b < w1.heap.size → h b = O → b ≠ r := by
            rintro b' hb' hn rfl
            have h1 := (hst1.frame b' hb' hn).1
            simp [Heap.set] at h1
          have chain : ∀ {G : Heap} {o1 o2 : Obj} {Wa Wb : World}, G r = O → Aw h G w1 Wa → Aw (G.set r o1) (G.set r o2) Wa Wb → Aw h G w1 Wb := by
            intro G o1 o2 Wa Wb hg hs1 hs2
            refine ⟨hsr hg hs2.sub, YU hs1.size hs2.size, hs2.os.trans hs1.os, hs2.tape.trans hs1.tape, hs2.output.trans hs1.output, fun b' hb' hn => ?_⟩
            obtain ⟨k1, k2⟩ := hs1.frame b' hb' hn
            obtain ⟨_, k4⟩ := hs2.frame b' (Nat.lt_of_lt_of_le hb' hs1.size) (by simp [Heap.set, hrbig b' hb' hn, k1])
            exact ⟨k1, k4.trans k2⟩
          refine wpIn_loop_ghost (fun n a' W => ∃ dn G env, J dn G ∧ G r = O ∧ Aw h G w1 W ∧ PR Wu 17 env (G.set r (.mapIter (U m) ck dn.toArray ck)) a' W ∧ env.get 0 = U (.func (.yield l) #[] #[]) ∧ env.get 3 = U (.pointer (U ⟨r, 0, O⟩)) ∧ n = IU es.toList dn) (IU es.toList []) ?_ ?_
          · refine ⟨[], h, _, hJ0, hrn, ⟨hsr hrn hr1.step.sub, hst1.size, hst1.os, hst1.tape, hst1.output, fun b hb hn => ⟨hn, (hst1.frame b hb hn).2⟩⟩, hr1, ?_, ?_, rfl⟩
            · rw [he0]; rfl
            · rw [he0]; rfl
          rintro n a2 W ⟨dn, G, env, hJ, hGr, hstG, hr2, e0, e3, rfl⟩
          have hHm : (G.set r (.mapIter (U m) ck dn.toArray ck)) m = U (.map es ck) := by
            have h1 := hJm _ _ hJ
            have : m ≠ r := by intro e; subst e; rw [hGr] at h1; cases h1
            simp [Heap.set, this, h1]
          have hHr : (G.set r (.mapIter (U m) ck dn.toArray ck)) r = U (.mapIter (U m) ck dn.toArray ck) := by simp [Heap.set]
          refine wpIn_seq ?_
          refine SZ htk hfk hΓ hnd hpl hnB hbs (env := env) (K := fun env' h' => env'.get 0 = U (.func (.yield l) #[] #[]) ∧ env'.get 3 = U (.pointer (U ⟨r, 0, O⟩)) ∧
            ((h' = G.set r (.mapIter (U m) ck dn.toArray ck) ∧ env'.get 5 = U (.bool false) ∧ ∀ e ∈ es.toList, e.born ∈ dn) ∨
             (∃ e ∈ es.toList, e.born ∉ dn ∧ h' = G.set r (.mapIter (U m) ck (dn ++ [e.born]).toArray ck) ∧ env'.get 5 = U (.bool true)))) ?_ hr2 ?_
          · have hlen : env.length = 9 := hr2.elen
            have hk : ∀ (v x : Value) (h' : Heap) (K : At → Heap → Prop), Bw N (env.put 4 v) h' (.ext 0) (.v v) = U (.v x) → K ((env.put 4 v).put 5 x) h' → CU N Γ [⟨[⟨[], 5, (.o1 (.ext 0) (.var 4))⟩], O⟩] (env.put 4 v) h' K := by
              intro v x h' K hv hK
              refine ⟨(env.put 4 v).put 5 x, ?_, hK⟩
              have h1 : ev N (env.put 4 v) h' (.o1 (.ext 0) (.var 4)) = U (.v x) := by
                simp only [ev, At.get_put_same (show 4 < env.length by omega), YH, YE]; exact hv
              simp [AV, Dz, h1]
            have hg : ∀ v x i, i ≠ 4 → i ≠ 5 → ((env.put 4 v).put 5 x).get i = env.get i := by
              intro v x i h4 h5; rw [At.get_put_other (Ne.symm h5), At.get_put_other (Ne.symm h4)]
            have hg5 : ∀ v x, ((env.put 4 v).put 5 x).get 5 = U x := by
              intro v x; exact At.get_put_same (by rw [At.len_put]; omega)
            refine ⟨env, rfl, .inl ⟨rfl, [.pointer (U ⟨r, 0, O⟩)], by simp [AS, ev, e3], .inr ⟨m, ck, dn.toArray, ck, es, ck, hHr, hHm, ?_, TX, fun c hc => ?_⟩⟩⟩
            · by_cases hem : es.isEmpty
              · simp [hem]
              · have : ∃ e, e ∈ es.toList := by
                  cases hl : es.toList with
                  | nil => exfalso; apply hem; simp [Array.isEmpty, ← Zv, hl]
                  | cons e l => exact ⟨e, by simp⟩
                obtain ⟨e, hme⟩ := this
                have hlt := hes e hme
                have : es.all (fun x => decide (x.born ≥ ck)) = false := by
                  rw [← Array.all_toList, List.all_eq_false]
                  exact ⟨e, hme, by simp; omega⟩
                simp [this]
            · cases c with
              | none => exact hk _ (.bool false) _ _ rfl ⟨by rw [hg _ _ _ (by omega) (by omega)]; exact e0, by rw [hg _ _ _ (by omega) (by omega)]; exact e3, .inl ⟨rfl, hg5 _ _, Pv hes hc⟩⟩
              | some e =>
                obtain ⟨k1, k2⟩ := Pu hc
                refine hk _ (.bool true) _ _ rfl ⟨by rw [hg _ _ _ (by omega) (by omega)]; exact e0, by rw [hg _ _ _ (by omega) (by omega)]; exact e3, .inr ⟨e, k1, k2, ?_, hg5 _ _⟩⟩
                funext z
                simp only [Heap.set]
                split
                · simp
                · rfl
          rintro env2 h2 a3 W3 ⟨f0, f3, hcase⟩ hr3 hst3
          rcases hcase with ⟨rfl, f5, hall⟩ | ⟨e, he, hnb, rfl, f5⟩
          · refine wpIn_seq ?_
            refine wpIn_cond_false (hr3.plain 5 10 rfl _ f5) (wpIn_exit ?_)
            show Exit.inBlock b _ (.exit b) a3 W3
            simp only [Exit.inBlock, if_true]
            exact hdone a3 W3 hr3.df (.inl ⟨G, dn, hJ, chain hGr hstG hst3, hall⟩)
          refine wpIn_seq ?_
          refine wpIn_cond_true (hr3.plain 5 10 rfl _ f5) (wpIn_skip ?_)
          show Code.wpIn _ _ _ _ _ _ _
          refine wpIn_block ?_
          obtain ⟨e', hfind, he', hbe⟩ := RS es.toList he
          rw [← hbe] at hnb
          have hstG3 : Aw h G w1 W3 := chain hGr hstG hst3
          refine wpIn_seq ?_
          refine SZ htk hfk hΓ hnd hpl hnC hcs (env := env2) (K := fun env' h' => env'.get 0 = U (.func (.yield l) #[] #[]) ∧ env'.get 3 = U (.pointer (U ⟨r, 0, O⟩)) ∧ env'.get 2 = U e'.key ∧ h' = G.set r (.mapIter (U m) ck (dn ++ [e.born]).toArray ck)) ?_ hr3 ?_
          · have hlen : env2.length = 9 := hr3.elen
            refine ⟨env2, rfl, .inl ⟨rfl, [.pointer (U ⟨r, 0, O⟩)], by simp [AS, ev, f3], m, ck, (dn ++ [e.born]).toArray, ck, e.born, es, by simp [Heap.set], by simp, ?_, e', by rw [← Array.find?_toList]; exact hfind, ?_⟩⟩
            · have h1 := hJm _ _ hJ
              have : m ≠ r := by intro e; subst e; rw [hGr] at h1; cases h1
              simp [Heap.set, this, h1]
            · refine ⟨(env2.put 6 (.tuple #[e'.key, e'.val])).put 2 e'.key, ?_, ?_⟩
              · have h1 : ev N (env2.put 6 (.tuple #[e'.key, e'.val])) (G.set r (.mapIter (U m) ck (dn ++ [e.born]).toArray ck)) (.o1 (.ext 0) (.var 6)) = U (.v e'.key) := by
                  simp only [ev, At.get_put_same (show 6 < env2.length by omega), YH, YE]; rfl
                simp [AV, Dz, h1, Gz]
              · refine ⟨?_, ?_, ?_, rfl⟩
                · rw [At.get_put_other (by omega), At.get_put_other (by omega)]; exact f0
                · rw [At.get_put_other (by omega), At.get_put_other (by omega)]; exact f3
                · exact At.get_put_same (by rw [At.len_put]; omega)
          rintro env3 h3 a4 W4 ⟨g0, g3, g2, rfl⟩ hr4 hst4
          have hstG4 : Aw h G w1 W4 := chain hGr hstG3 hst4
          have hrW4 : W4.heap[r]? = U (.mapIter (U m) ck (dn ++ [e.born]).toArray ck) := hr4.step.sub r _ (by simp [Heap.set])
          refine wpIn_seq ?_
          have t0 := hr4.plain 0 0 rfl _ g0
          have t3 := hr4.plain 2 3 rfl _ g2
          have t8 := hr4.plain 3 8 rfl _ g3
          refine UH hD s0 s1 s2 s3 hr4.nt t0 t3 ?_
          obtain ⟨fn', tm, as, bd, hy1, hy2⟩ := hround dn G W4 e' he' hJ hstG4 hnb
          refine ⟨fn', tm, as, bd, hy1, hy2.mono ?_⟩
          have hn4 := hr4.nt
          have gp : ∀ (bv : Bool), ((((a4.put (U 13) (.func (.yield l) #[] #[])).put (U 14) e'.key).put (U 15) (.bool bv)).put (U 16) (.bool (!bv))).tmps.getD 16 undef = .bool (!bv) := by
            intro bv; rw [CZ _ _ _ _ (by simp [Act.put, hn4]), if_pos rfl]
          have gq : ∀ (bv : Bool) (t : Nat), t < 13 → ((((a4.put (U 13) (.func (.yield l) #[] #[])).put (U 14) e'.key).put (U 15) (.bool bv)).put (U 16) (.bool (!bv))).tmps.getD t undef = a4.tmps.getD t undef := by
            intro bv t ht
            rw [CZ _ _ _ _ (by simp [Act.put, hn4]), if_neg (by omega), CZ _ _ _ _ (by simp [Act.put, hn4]), if_neg (by omega), CZ _ _ _ _ (by simp [Act.put, hn4]), if_neg (by omega), CZ _ _ _ _ (by omega), if_neg (by omega)]
          have hdf : ∀ (bv : Bool), ((((a4.put (U 13) (.func (.yield l) #[] #[])).put (U 14) e'.key).put (U 15) (.bool bv)).put (U 16) (.bool (!bv))).defers = [] := by
            intro bv; simp only [Cy]; exact hr4.df
          rintro en W5 (⟨rfl, G', hJ', hst5⟩ | ⟨rfl, hjx⟩)
          · refine ⟨true, rfl, ?_⟩
            show Code.wpIn _ _ _ _ _ _ _
            refine wpIn_cond_false (gp true) (wpIn_skip ?_)
            obtain ⟨hG'r, hW5r⟩ := hst5.frame r (X1.1 hrW4).1 hGr
            rw [hrW4] at hW5r
            refine ⟨IU es.toList (dn ++ [e'.born]), Ru he' hnb, dn ++ [e'.born], G', [U (.func (.yield l) #[] #[]), O, O, U (.pointer (U ⟨r, 0, O⟩)), O, O, O, O, O], hJ', hG'r, hstG4.trans hst5, ?_, rfl, rfl, rfl⟩
            refine ⟨rfl, ?_, ?_, (by intro i b hb; cases hb), (by intro i b hb; cases hb), (by intro i j b hb; cases hb), Aw.refl ?_, by simp [Act.put, hn4], hdf true⟩
            · intro i slot hm v hv
              match i, hm, hv with
              | 0, hm, hv => cases hm; cases hv; rw [gq true 0 (by omega)]; exact t0
              | 1, hm, hv => cases hv
              | 2, hm, hv => cases hv
              | 3, hm, hv => cases hm; cases hv; rw [gq true 8 (by omega)]; exact t8
              | 4, hm, hv => cases hv
              | 5, hm, hv => cases hv
              | 6, hm, hv => cases hv
              | 7, hm, hv => cases hv
              | 8, hm, hv => cases hv
              | n + 9, hm, hv => cases hm
            · intro i slot hm v hv
              exact absurd hm (Fe hpl)
            · intro z o hz
              simp only [Heap.set] at hz
              split at hz
              · rename_i ez; cases hz; subst ez; rw [hbe]; exact hW5r
              · exact hst5.sub z o hz
          · refine ⟨false, rfl, ?_⟩
            show Code.wpIn _ _ _ _ _ _ _
            exact wpIn_cond_true (gp false) (wpIn_ret (hdone _ W5 (hdf false) (.inr hjx)))
        · cases hr
      · cases hr
    · cases hr
  · cases hr
end Go.Cw
namespace Go.Cw
open Go
def DR:At->At->Prop
 |[],[]=>True
 |none::e,_::e'=>DR e e'
 |some x::e,U y::e'=>x=y/\DR e e'
 |_,_=>False
theorem GU:∀ e:At,DR e e
 |[]=>trivial
 |none::e=>GU e
 |some _::e=>⟨rfl,GU e⟩
theorem FU:∀ (a b c:At),DR a b->DR b c->DR a c:=by
 intro a;induction a with
 |nil=>intro b c h1 h2;cases b<;>cases c<;>simp_all [DR]
 |cons x a ih=>
  intro b c h1 h2;cases b with
  |nil=>cases x<;>simp[DR]at h1
  |cons y b=>
   cases c with
   |nil=>cases y<;>simp[DR]at h2
   |cons z c=>
    cases x with
    |none=>
     simp only[DR]at h1 ⊢;cases y with
     |none=>simp only[DR]at h2;exact ih _ _ h1 h2
     |some y=>
      cases z with
      |none=>simp[DR]at h2
      |some z=>simp only[DR]at h2;exact ih _ _ h1 h2.2
    |some x=>
     cases y with
     |none=>simp[DR]at h1
     |some y=>
      cases z with
      |none=>simp[DR]at h2
      |some z=>simp only[DR]at h1 h2 ⊢;exact⟨h1.1.trans h2.1,ih _ _ h1.2 h2.2⟩
theorem Fk:∀ {e e':At},DR e e'->∀ {i:Nat} {v:Value},At.get e i=U v->At.get e' i=U v
 |[],[],_,i,v,h=>h
 |none::e,y::e',hl,i,v,h=>by
  cases i with
  |zero=>simp[At.get]at h
  |succ i=>have:=Fk (e:=e) (e':=e') hl (i:=i) (v:=v) (by simpa[At.get]using h);simpa[At.get]using this
 |some x::e,U y::e',hl,i,v,h=>by
  obtain⟨rfl,hl⟩:=hl;cases i with
  |zero=>simpa[At.get]using h
  |succ i=>have:=Fk (e:=e) (e':=e') hl (i:=i) (v:=v) (by simpa[At.get]using h);simpa[At.get]using this
 |[],_::_,hl,_,_,_=>hl.elim
 |some _::_,O::_,hl,_,_,_=>hl.elim
 |none::_,[],hl,_,_,_=>hl.elim
 |some _::_,[],hl,_,_,_=>hl.elim
theorem Fj:∀ {e e':At},DR e e'->∀ (i:Nat) (v:Value),DR (e.put i v) (e'.put i v)
 |[],[],_,i,v=>trivial
 |none::e,y::e',hl,i,v=>by
  cases i with
  |zero=>exact⟨rfl,hl⟩
  |succ i=>exact Fj (e:=e) (e':=e') hl i v
 |some x::e,U y::e',hl,i,v=>by
  obtain⟨rfl,hl⟩:=hl;cases i with
  |zero=>exact⟨rfl,hl⟩
  |succ i=>exact⟨rfl,Fj (e:=e) (e':=e') hl i v⟩
 |[],_::_,hl,_,_=>hl.elim
 |some _::_,O::_,hl,_,_=>hl.elim
 |none::_,[],hl,_,_=>hl.elim
 |some _::_,[],hl,_,_=>hl.elim
section
variable {N:Num} {e e':At} {h:Heap}
theorem Tf (hl:DR e e') {o:O1} {u r:UV} (hr:Bw N e h o u=U r):Bw N e' h o u=U r:=by
 cases u with
 |v x=>simpa only[Bw]using hr
 |p i off=>
  cases o<;>simp only[Bw]at hr ⊢<;>try exact hr
  ·split at hr
   ·rename_i c hc;rw[Fk hl hc];exact hr
   ·cases hr
  ·split at hr
   ·rename_i c hc;rw[Fk hl hc];exact hr
   ·cases hr
theorem Es (hl:DR e e'):∀ (x:Ex) {u:UV},ev N e h x=U u->ev N e' h x=U u:=by
 intro x;induction x with
 |var i=>
  intro u hu;simp only[ev,XZ]at hu ⊢;obtain⟨v,h1,h2⟩:=hu;exact⟨v,Fk hl h1,h2⟩
 |pad i=>
  intro u hu;simp only[ev,XZ]at hu ⊢;obtain⟨v,h1,h2⟩:=hu;exact⟨v,Fk hl h1,h2⟩
 |cnt i=>
  intro u hu;simp only[ev,XZ]at hu ⊢;obtain⟨v,h1,h2⟩:=hu;exact⟨v,Fk hl h1,h2⟩
 |con x=>intro u hu;exact hu
 |mkf f=>intro u hu;exact hu
 |o1 o a ih=>
  intro u hu;simp only[ev,X2]at hu ⊢;obtain⟨v,h1,h2⟩:=hu;exact⟨v,ih h1,Tf hl h2⟩
 |o2 o a b iha ihb=>
  intro u hu;simp only[ev,X2]at hu ⊢;obtain⟨v,h1,w,h2,h3⟩:=hu;exact⟨v,iha h1,w,ihb h2,h3⟩
 |o3 o a b c iha ihb ihc=>
  intro u hu;simp only[ev,X2]at hu ⊢;obtain⟨v,h1,w,h2,z,h3,h4⟩:=hu;exact⟨v,iha h1,w,ihb h2,z,ihc h3,h4⟩
 |pick c a b ihc iha ihb=>
  intro u hu;simp only[ev]at hu ⊢;split at hu
  ·rename_i hc;rw[ihc hc];exact iha hu
  ·rename_i hc;rw[ihc hc];exact ihb hu
  ·cases hu
 |upd base i n a v ihb iha ihv=>
  intro u hu;simp only[ev]at hu ⊢;split at hu
  ·rename_i h1 h2 h3;rw[ihb h1,iha h2,ihv h3];exact hu
  ·cases hu
theorem FT (hl:DR e e'):∀ (g:List (Ex×Bool)) {b:Bool},Dz N e h g=U b->Dz N e' h g=U b:=by
 intro g;induction g with
 |nil=>intro b hb;exact hb
 |cons x r ih=>
  obtain⟨x,w⟩:=x;intro b hb;simp only[Dz]at hb ⊢;split at hb
  ·cases hb
  ·rename_i y hy;rw[Es hl x hy];split at hb
   ·rename_i hw;simp only[hw,if_true];exact ih hb
   ·rename_i hw;simp only[hw,if_false];exact hb
  ·rename_i z hz hn;cases hb;cases z with
   |p i off=>rw[Es hl x hn]
   |v z=>rw[Es hl x hn];cases z<;>first|rfl|(exact absurd rfl (hz _))
theorem GR (hl:DR e e'):∀ (l:List Ex) {vs:List Value},AS N e h l=U vs->AS N e' h l=U vs:=by
 intro l;induction l with
 |nil=>intro vs hv;exact hv
 |cons x r ih=>
  intro vs hv;simp only[AS]at hv ⊢;split at hv<;>cases hv;rename_i y ys h1 h2;rw[Es hl x h1,ih h2]
theorem L6 (hl:DR e e'):∀ (l:List Hz) {f f' g:At},DR f f'->AV N e h l f=U g->∃ g',AV N e' h l f'=U g'/\DR g g':=by
 intro l;induction l with
 |nil=>intro f f' g hf hg;cases hg;exact⟨f',rfl,hf⟩
 |cons x r ih=>
  intro f f' g hf hg;simp only[AV]at hg ⊢;split at hg
  ·cases hg
  ·rename_i hb;rw[FT hl _ hb];exact ih (Fj hf _ _) hg
  ·rename_i hb;rw[FT hl _ hb];split at hg
   ·rename_i y hy;rw[Es hl _ hy];exact ih (Fj hf _ _) hg
   ·cases hg
end
def KM (Γ:Ctx):Prop:=∀ k us h (K K':Value->Heap->Prop),(∀v h,K v h->K' v h)->Γ k us h K->Γ k us h K'
class CD (Q:SE->At->Heap->Prop):Prop where
 up:∀ {e env env' h},DR env env'->Q e env h->Q e env' h
theorem UZ {N:Num} {Γ:Ctx} (hΓ:KM Γ) {f:Ef} {us:List Value} {h:Heap} {K K':Value->Heap->Prop} (hKK:∀ v h,K v h->K' v h) (hx:By N Γ f us h K):By N Γ f us h K':=by
 unfold By at hx ⊢;split at hx
 ·exact λb hb=>hKK _ _ (hx b hb)
 ·exact λb hb=>hKK _ _ (hx b hb)
 ·obtain⟨m,news,h1,h2⟩:=hx;refine⟨m,news,h1,?_⟩;split at h2
  ·rename_i hn;simp only[hn,if_true];split at h2
   ·exact hKK _ _ h2
   ·obtain⟨h',h3,h4⟩:=h2;exact⟨h',h3,hKK _ _ h4⟩
  ·rename_i hn;simp only[hn,if_false];obtain⟨h3,h4,m',olds,h5,h6⟩:=h2;exact⟨h3,h4,m',olds,h5,λb cap tail a1 a2 a3 a4=>hKK _ _ (h6 b cap tail a1 a2 a3 a4)⟩
 ·exact hΓ _ _ _ _ _ hKK hx
 ·obtain⟨k,h1,h2,h3⟩:=hx;exact⟨k,h1,h2,hΓ _ _ _ _ _ hKK h3⟩
 ·exact λb hb=>hKK _ _ (hx b hb)
 ·obtain⟨es,ck,h1,x,h2,h3⟩:=hx;refine⟨es,ck,h1,x,h2,?_⟩;split at h3<;>exact hKK _ _ h3
 ·obtain⟨es,ck,h1,x,h2,h3⟩:=hx;refine⟨es,ck,h1,x,h2,?_⟩;split at h3<;>exact hKK _ _ h3
 ·obtain⟨h1,h',h2,h3⟩:=hx;exact⟨h1,h',h2,hKK _ _ h3⟩
 ·obtain⟨c,h1,h',h2,h3,h4⟩:=hx;exact⟨c,h1,h',h2,h3,hKK _ _ h4⟩
 ·exact λb hb=>hKK _ _ (hx b hb)
 ·obtain⟨es,ck,h1,h2⟩:=hx;exact⟨es,ck,h1,λb hb=>hKK _ _ (h2 b hb)⟩
 ·rcases hx with⟨s1,s2,s3,h1,h2⟩|⟨m,since,AN,last,es,ck,h1,h2,h3,h4,h5⟩
  ·exact .inl ⟨s1,s2,s3,h1,hKK _ _ h2⟩
  ·refine .inr ⟨m,since,AN,last,es,ck,h1,h2,h3,h4,λc hc=>?_⟩;have:=h5 c hc;split at this<;>exact hKK _ _ this
 ·obtain⟨m,since,AN,stepped,stamp,es,h1,h2,h3,e,h4,h5⟩:=hx;exact⟨m,since,AN,stepped,stamp,es,h1,h2,h3,e,h4,hKK _ _ h5⟩
 ·exact hx.elim
section
variable {N:Num} {Γ:Ctx}
theorem Li {e e':At} (hl:DR e e') (d:Option Nat) (v:Value):DR (Gz e d v) (Gz e' d v):=by
 cases d with
 |none=>exact hl
 |some i=>exact Fj hl i v
theorem TJ (hΓ:KM Γ) {x:EI} {e e' f f':At} {h:Heap} {K K':At->Heap->Prop} (hK:∀ {e e' h},DR e e'->K e h->K' e' h) (hl:DR e e') (hf:DR f f') (hx:Is N Γ x e f h K):Is N Γ x e' f' h K':=by
 cases x with
 |ef gs ff args dst=>
  rcases hx with⟨h1,us,h2,h3⟩|⟨h1,h2⟩
  ·exact .inl ⟨FT hl _ h1,us,GR hl _ h2,UZ hΓ (λv h hk=>hK (Li hf _ _) hk) h3⟩
  ·exact .inr ⟨FT hl _ h1,hK (Li hf _ _) h2⟩
 |pnew i x=>obtain⟨v,h1,h2⟩:=hx;exact⟨v,Es hl _ h1,hK (Fj hf _ _) h2⟩
 |pst i x=>obtain⟨v,h1,h2⟩:=hx;exact⟨v,Es hl _ h1,hK (Fj hf _ _) h2⟩
theorem FI (hΓ:KM Γ) {s:Hi} {e e':At} {h:Heap} {K K':At->Heap->Prop} (hK:∀ {e e' h},DR e e'->K e h->K' e' h) (hl:DR e e') (hx:Fp N Γ s e h K):Fp N Γ s e' h K':=by
 obtain⟨l,x⟩:=s;obtain⟨f,h1,h2⟩:=hx;obtain⟨f',h3,h4⟩:=L6 hl _ hl h1;refine⟨f',h3,?_⟩;cases x with
 |none=>exact hK h4 h2
 |some x=>exact TJ hΓ hK hl h4 h2
theorem On (hΓ:KM Γ):∀ (l:List Hi) {e e':At} {h:Heap} {K K':At->Heap->Prop},(∀{e e' h},DR e e'->K e h->K' e' h)->DR e e'->CU N Γ l e h K->CU N Γ l e' h K':=by
 intro l;induction l with
 |nil=>intro e e' h K K' hK hl hx;exact hK hl hx
 |cons s r ih=>intro e e' h K K' hK hl hx;exact FI hΓ (λhl hx=>ih hK hl hx) hl hx
theorem RZ {e e':At} {h:Heap} (hl:DR e e') {l:Hz} (hc:Pp N e h l):Pp N e' h l:=by
 obtain⟨b,h1,h2⟩:=hc;exact⟨b,FT hl _ h1,λhb=>let ⟨u,hu⟩:=h2 hb;⟨u,Es hl _ hu⟩⟩
theorem KA {fl:Bool} {wx:List Hz} {ws:List Heap} {e e' f f':At} {h h':Heap} {K K':List Heap->At->Heap->Prop} (hK:∀ ws,K ws f h'->K' ws f' h') (hl:DR e e') (hk:K1 N fl wx ws e h K f h'):K1 N fl wx ws e' h K' f' h':=by
 unfold K1 at hk ⊢;split at hk
 ·exact⟨hk.1,hK _ hk.2⟩
 ·obtain⟨x,h1,h2,h3⟩:=hk;exact⟨x,h1.imp id λ⟨a,b⟩=>⟨a,λl hl'=>RZ hl (b l hl')⟩,h2,hK _ h3⟩
theorem NF (hΓ:KM Γ):∀ (d:DS) {ws:List Heap} {e e':At} {h:Heap} {K K':At->Heap->Prop},(∀{e e' h},DR e e'->K e h->K' e' h)->DR e e'->ME N Γ d ws e h K->ME N Γ d ws e' h K':=by
 intro d;induction d with
 |done s=>intro ws e e' h K K' hK hl hx;exact FI hΓ hK hl hx
 |eff fl wx s r ih=>intro ws e e' h K K' hK hl hx;exact FI hΓ (λhl' hx=>KA (λws hx=>ih hK hl' hx) hl hx) hl hx
 |alt fl wx s r fl' wx' s' r' ih ih'=>
  intro ws e e' h K K' hK hl hx;exact⟨FI hΓ (λhl' hx=>KA (λws hx=>ih hK hl' hx) hl hx) hl hx.1,FI hΓ (λhl' hx=>KA (λws hx=>ih' hK hl' hx) hl hx) hl hx.2⟩
theorem Fo (hΓ:KM Γ):∀ (s:St) {e e':At} {h:Heap} {Q Q':SE->At->Heap->Prop},(∀{x e e' h},DR e e'->Q x e h->Q' x e' h)->DR e e'->SW N Γ s Q e h->SW N Γ s Q' e' h:=by
 intro s;induction s with
 |skip=>intro e e' h Q Q' hQ hl hx;exact hQ hl hx
 |ret=>intro e e' h Q Q' hQ hl hx;exact hQ hl hx
 |exit i=>intro e e' h Q Q' hQ hl hx;exact hQ hl hx
 |seq a b iha ihb=>
  intro e e' h Q Q' hQ hl hx;refine iha ?_ hl hx;intro x e e' h hl hx;cases x with
  |normal=>exact ihb hQ hl hx
  |exit i=>exact hQ hl hx
  |ret=>exact hQ hl hx
 |reg l=>intro e e' h Q Q' hQ hl hx;exact On hΓ l (λhl hx=>hQ hl hx) hl hx
 |dreg d=>intro e e' h Q Q' hQ hl hx;exact NF hΓ d (λhl hx=>hQ hl hx) hl hx
 |cond c a b iha ihb=>
  intro e e' h Q Q' hQ hl hx;obtain⟨t,h1,h2,h3⟩:=hx;exact⟨t,Es hl _ h1,λht=>iha hQ hl (h2 ht),λht=>ihb hQ hl (h3 ht)⟩
 |block i a ih=>
  intro e e' h Q Q' hQ hl hx;refine ih ?_ hl hx;intro x e e' h hl hx;cases x with
  |normal=>exact hQ hl hx
  |exit j=>
   simp only at hx ⊢;split at hx
   ·rename_i hj;simp only[hj,if_true];exact hQ hl hx
   ·rename_i hj;simp only[hj,if_false];exact hQ hl hx
  |ret=>exact hQ hl hx
 |loop s ih=>
  intro e e' h Q Q' hQ hl hx;obtain⟨I,n,h1,h2⟩:=hx;refine⟨λn e h=>∃ e0,DR e0 e/\I n e0 h,n,⟨e,hl,h1⟩,?_⟩;rintro n e h ⟨e0,h3,h4⟩;refine ih ?_ h3 (h2 n e0 h h4);intro x e e' h hl hx;cases x with
  |normal=>obtain⟨n',h5,h6⟩:=hx;exact⟨n',h5,e,hl,h6⟩
  |exit i=>exact hQ hl hx
  |ret=>exact hQ hl hx
 |rfn k off i ip asg body iha ihb=>
  intro e e' h Q Q' hQ hl hx;obtain⟨c,a,m,es,ck,h1,h2,h3,h4,h5,J,h6,h7⟩:=hx;refine⟨c,a,m,es,ck,Fk hl h1,h2,h3,h4,h5,J,h6,λdn G hJ=>?_⟩;obtain⟨h8,h9,h10⟩:=h7 dn G hJ;refine⟨h8,λhd=>hQ hl (h9 hd),λx hx hn=>?_⟩;refine iha ?_ (Fj hl _ _) (h10 x hx hn);intro y f f' h hl' hy;cases y with
  |normal=>
   refine ihb ?_ hl' hy;intro z g g' h hl'' hz;cases z with
   |normal=>exact hz
   |exit i=>exact hQ hl hz
   |ret=>exact hQ hl hz
  |exit i=>exact hy
  |ret=>exact hy
end
end Go.Cw
namespace Go.Cw
open Go
class Ak (Γ:Ctx):Prop where
 imp:KM Γ
def GF (P:Program) (N:Num):Ctx:=λk args h K=>FC P (N.fid k) args h K
def Has (P:Program) (N:Num) (k:Nat) (F:SFun):Prop:=∀ args h K,SF N (GF P N) F args h K->GF P N k args h K
abbrev Spec:=List Value->Heap->(Value->Heap->Prop)->Prop
def Sat (S G:Spec):Prop:=∀ args h K,S args h K->G args h K
theorem Sat.of {P:Program} {N:Num} {k:Nat} {F:SFun} {S:Spec} (hh:Has P N k F) (hs:Sat S (SF N (GF P N) F)):Sat S (GF P N k):=λargs h K hx=>hh args h K (hs args h K hx)
instance (P:Program) (N:Num):Ak (GF P N) where
 imp:=by
  intro k us h K K' hKK hx;rcases hx with hx|hx
  ·refine .inl ⟨hx.1,λw hs cs=>?_⟩;obtain⟨e,w',fr,⟨v,h',h1,h2,h3⟩,h4⟩:=hx.2 w hs cs;exact⟨e,w',fr,⟨v,h',h1,hKK _ _ h2,h3⟩,h4⟩
  ·refine .inr λw hs=>?_;obtain⟨v,h',w',h1,h2,h3⟩:=hx w hs;exact⟨v,h',w',h1,hKK _ _ h2,h3⟩
def IK (N:Num) (Γ:Ctx) (b:St) (Q:SE->At->Heap->Prop):SE->At->Heap->Prop:=λe env h=>match e with
 |.normal=>SW N Γ b Q env h
 |e=>Q e env h
def Jz (i:Nat) (Q:SE->At->Heap->Prop):SE->At->Heap->Prop:=λe env h=>match e with
 |.exit j=>if j=i then Q .normal env h else Q (.exit j) env h
 |e=>Q e env h
def Kd {σ:Type} (E:σ->At) (I:σ->Heap->Prop) (m:σ->Nat) (n:Nat) (Q:SE->At->Heap->Prop):SE->At->Heap->Prop:=λe env h=>match e with
 |.normal=>∃ s,m s<n/\DR (E s) env/\I s h
 |e=>Q e env h
def Nx (N:Num) (res:List Ex) (K:Value->Heap->Prop):SE->At->Heap->Prop:=λe env h=>match e with
 |.exit _=>False
 |_=>∃ vs,AS N env h res=U vs/\K (MB vs) h
def Gw (R:At->Heap->Prop) (Q:SE->At->Heap->Prop):SE->At->Heap->Prop:=λe env h=>match e with
 |.normal=>∃ Bh,DR Bh env/\R Bh h
 |e=>Q e env h
def J5 (Q:SE->At->Heap->Prop):At->Heap->Prop:=Q .normal
def MQ (N:Num) (Γ:Ctx) (r:List Hi) (K:At->Heap->Prop):At->Heap->Prop:=λenv h=>CU N Γ r env h K
def Vp (N:Num) (Γ:Ctx) (r:DS) (K:At->Heap->Prop):List Heap->At->Heap->Prop:=λws env h=>ME N Γ r ws env h K
def RU (K:At->Heap->Prop) (d:Option Nat) (env1:At):Value->Heap->Prop:=λv h=>K (Gz env1 d v) h
def O7 (o:Option At) (K:At->Heap->Prop) (h:Heap):Prop:=match o with
 |some e=>K e h
 |none=>False
def O8 (N:Num) (Γ:Ctx) (x:EI) (o:Option At) (env:At) (h:Heap) (K:At->Heap->Prop):Prop:=match o with
 |some e=>Is N Γ x env e h K
 |none=>False
def M3 (i:Nat) (o:Option UV) (env1:At) (h:Heap) (K:At->Heap->Prop):Prop:=match o with
 |some (.v x)=>K (env1.put i (.agg x.cells)) h
 |_=>False
def S0 (i:Nat) (o:Option UV) (env1:At) (h:Heap) (K:At->Heap->Prop):Prop:=match o with
 |some (.v x)=>K (env1.put i x) h
 |_=>False
def Ju (N:Num) (Γ:Ctx) (f:Ef) (o:Option (List Value)) (h:Heap) (K:Value->Heap->Prop):Prop:=match o with
 |some us=>By N Γ f us h K
 |none=>False
def I0 (N:Num) (Γ:Ctx) (o:Option Bool) (f:Ef) (args:List Ex) (d:Option Nat) (Bh env1:At) (h:Heap) (K:At->Heap->Prop):Prop:=match o with
 |some true=>Ju N Γ f (AS N Bh h args) h (RU K d env1)
 |some false=>K (Gz env1 d undef) h
 |none=>False
def E4 (N:Num) (Γ:Ctx) (o:Option UV) (a b:St) (Q:SE->At->Heap->Prop) (env:At) (h:Heap):Prop:=match o with
 |some (.v (.bool true))=>SW N Γ a Q env h
 |some (.v (.bool false))=>SW N Γ b Q env h
 |_=>False
def U2 (N:Num) (Γ:Ctx) (d:DS) (ws:List Heap) (env:At) (h:Heap) (K:At->Heap->Prop):Prop:=ME N Γ d ws env h K
def Xw (ws:List Heap) (h:Heap) (A:Prop):Prop:=(∀x∈ws,Heap.le x h)/\A
def JO (o:Option (List Value)) (K:Value->Heap->Prop) (h:Heap):Prop:=match o with
 |some vs=>K (MB vs) h
 |none=>False
def Ng (N:Num) (g:Option Bool) (env:At) (h:Heap) (i:Nat) (e:Ex) (r:List Hz) (E:At):Option At:=match g with
 |some true=>AV N env h (⟨[],i,e⟩::r) E
 |some false=>AV N env h r (E.put i undef)
 |none=>O
def UG (N:Num) (o:Option UV) (env:At) (h:Heap) (i:Nat) (r:List Hz) (E:At):Option At:=match o with
 |some (.v x)=>AV N env h r (E.put i x)
 |_=>O
def Ub (N:Num) (o:Option UV) (w:Bool) (env:At) (h:Heap) (r:List (Ex×Bool)):Option Bool:=match o with
 |some (.v (.bool b))=>if b=w then Dz N env h r else U false
 |some _=>U false
 |none=>O
def TV (o:Option UV) (r:Option (List Value)):Option (List Value):=match o,r with
 |some (.v x),U xs=>U (x::xs)
 |_,_=>O
def M4 (c a b:Option UV):Option UV:=match c with
 |some (.v (.bool true))=>a
 |some (.v (.bool false))=>b
 |_=>O
def WN (i n:Nat) (b a v:Option UV):Option UV:=match b,a,v with
  |some (.v (.agg c)),U (.p j off),U (.v x)=>if j=i/\x.cells.size=n/\off+n<=c.size/\x.cells.toList.all one=true then U (.v (.agg (Dy c off x.cells.toList)))else O
  |_,_,_=>O
def u1 (N:Num) (env:At) (h:Heap) (o:O1) (a:Option UV):Option UV:=a.bind (Bw N env h o)
def u2 (h:Heap) (o:O2) (a b:Option UV):Option UV:=a.bind λx=>b.bind λy=>A8 h o x y
def u3 (o:O3) (a b c:Option UV):Option UV:=a.bind λx=>b.bind λy=>c.bind λz=>JE o x y z
section
variable {N:Num} {Γ:Ctx} {env env' E E':At} {h:Heap} {K:At->Heap->Prop} {Q:SE->At->Heap->Prop} {s:St} {l:List Hz} {r:List Hi} {x:EI} {i n:Nat}
@[congr] theorem Xk (e : env = env') : SW N Γ s Q env h = SW N Γ s Q env' h := by rw [e]
@[congr] theorem Vd (e : env = env') : CU N Γ r env h K = CU N Γ r env' h K := by rw [e]
@[congr] theorem VD {s : Hi} (e : env = env') : Fp N Γ s env h K = Fp N Γ s env' h K := by rw [e]
@[congr] theorem WI {d : DS} {ws : List Heap} (e : env = env') : ME N Γ d ws env h K = ME N Γ d ws env' h K := by rw [e]
@[congr] theorem WE (e : env = env') (e2 : E = E') : Is N Γ x env E h K = Is N Γ x env' E' h K := by rw [e, e2]
@[congr] theorem Ua (e : env = env') (e2 : E = E') : AV N env h l E = AV N env' h l E' := by rw [e, e2]
@[congr] theorem Xf {x : Ex} (e : env = env') : ev N env h x = ev N env' h x := by rw [e]
@[congr] theorem UQ {x : List Ex} (e : env = env') : AS N env h x = AS N env' h x := by rw [e]
@[congr] theorem Wj {x : List (Ex × Bool)} (e : env = env') : Dz N env h x = Dz N env' h x := by rw [e]
@[congr] theorem VE {e : SE} (he : env = env') : IK N Γ s Q e env h = IK N Γ s Q e env' h := by rw [he]
@[congr] theorem Wn {e : SE} (he : env = env') : Jz i Q e env h = Jz i Q e env' h := by rw [he]
@[congr] theorem Vj {σ : Type} {F : σ -> At} {I : σ -> Heap -> Prop} {m : σ -> Nat} {e : SE} (he : env = env') : Kd F I m n Q e env h = Kd F I m n Q e env' h := by rw [he]
@[congr] theorem Vi {R : At -> Heap -> Prop} {e : SE} (he : env = env') : Gw R Q e env h = Gw R Q e env' h := by rw [he]
@[congr] theorem Wi {res : List Ex} {K : Value -> Heap -> Prop} {e : SE} (he : env = env') : Nx N res K e env h = Nx N res K e env' h := by rw [he]
@[congr] theorem Vh (he : env = env') : J5 Q env h = J5 Q env' h := by rw [he]
@[congr] theorem Ve (he : env = env') : MQ N Γ r K env h = MQ N Γ r K env' h := by rw [he]
@[congr] theorem WK {r : DS} {ws : List Heap} (he : env = env') : Vp N Γ r K ws env h = Vp N Γ r K ws env' h := by rw [he]
@[congr] theorem WJ {K : List Heap -> At -> Heap -> Prop} {fl : Bool} {wx : List Hz} {ws : List Heap} {h' : Heap} {e0 : At} (he : env = env') : K1 N fl wx ws e0 h K env h' = K1 N fl wx ws e0 h K env' h' := by rw [he]
@[congr] theorem Wk {d : Option Nat} {v v' : Value} (e : v = v') (e2 : env = env') : RU K d env v h = RU K d env' v' h := by rw [e, e2]
@[congr] theorem VZ {o o' : Option At} (e : o = o') : O7 o K h = O7 o' K h := by rw [e]
@[congr] theorem V5 {o o' : Option At} (e : o = o') : O8 N Γ x o env h K = O8 N Γ x o' env h K := by rw [e]
@[congr] theorem Vf {o o' : Option UV} (e : o = o') : M3 i o env h K = M3 i o' env h K := by rw [e]
@[congr] theorem VH {o o' : Option UV} (e : o = o') : S0 i o env h K = S0 i o' env h K := by rw [e]
@[congr] theorem Vt {f : Ef} {o o' : Option (List Value)} {K : Value -> Heap -> Prop} (e : o = o') : Ju N Γ f o h K = Ju N Γ f o' h K := by rw [e]
@[congr] theorem WH {f : Ef} {o o' : List Value} {K : Value -> Heap -> Prop} (e : o = o') : By N Γ f o h K = By N Γ f o' h K := by rw [e]
@[congr] theorem UL {o o' : Option Bool} {f : Ef} {args : List Ex} {d : Option Nat} (e : o = o') : I0 N Γ o f args d env E h K = I0 N Γ o' f args d env E h K := by rw [e]
@[congr] theorem Vr {o o' : Option UV} {a b : St} (e : o = o') : E4 N Γ o a b Q env h = E4 N Γ o' a b Q env h := by rw [e]
@[congr] theorem Va {o o' : Option (List Value)} {K : Value -> Heap -> Prop} (e : o = o') : JO o K h = JO o' K h := by rw [e]
@[congr] theorem V2 {g g' : Option Bool} {e : Ex} (he : g = g') : Ng N g env h i e l E = Ng N g' env h i e l E := by rw [he]
@[congr] theorem V1 {o o' : Option UV} (he : o = o') : UG N o env h i l E = UG N o' env h i l E := by rw [he]
@[congr] theorem WD {o o' : Option UV} {w : Bool} {r : List (Ex × Bool)} (he : o = o') : Ub N o w env h r = Ub N o' w env h r := by rw [he]
@[congr] theorem WS {o : O1} {a a' : Option UV} (he : a = a') : u1 N env h o a = u1 N env h o a' := by rw [he]
@[congr] theorem WR {o : O2} {a a' b b' : Option UV} (he : a = a') (hb : b = b') : u2 h o a b = u2 h o a' b' := by rw [he, hb]
@[congr] theorem WQ {o : O3} {a a' b b' c c' : Option UV} (he : a = a') (hb : b = b') (hc : c = c') : u3 o a b c = u3 o a' b' c' := by rw [he, hb, hc]
@[congr] theorem WC {o : O1} {a a' : UV} (he : a = a') : Bw N env h o a = Bw N env h o a' := by rw [he]
@[congr] theorem WB {o : O2} {a a' b b' : UV} (he : a = a') (hb : b = b') : A8 h o a b = A8 h o a' b' := by rw [he, hb]
@[congr] theorem WA {o : O3} {a a' b b' c c' : UV} (he : a = a') (hb : b = b') (hc : c = c') : JE o a b c = JE o a' b' c' := by rw [he, hb, hc]
end
theorem PS :
  (∀(N:Num) (Γ:Ctx) Q env h,SW N Γ .skip Q env h=Q .normal env h) /\
  (∀(N:Num) (Γ:Ctx) Q env h,SW N Γ .ret Q env h=Q .ret env h) /\
  (∀(N:Num) (Γ:Ctx) i Q env h,SW N Γ (.exit i) Q env h=Q (.exit i) env h) /\
  (∀(N:Num) (Γ:Ctx) a b Q env h,SW N Γ (.seq a b) Q env h=SW N Γ a (IK N Γ b Q) env h) /\
  (∀(N:Num) (Γ:Ctx) i s Q env h,SW N Γ (.block i s) Q env h=SW N Γ s (Jz i Q) env h) /\
  (∀(N:Num) (Γ:Ctx) l Q env h,SW N Γ (.reg l) Q env h=CU N Γ l env h (J5 Q)) /\
  (∀(N:Num) (Γ:Ctx) d Q env h,SW N Γ (.dreg d) Q env h=ME N Γ d [] env h (J5 Q)) /\
  (∀(N:Num) (Γ:Ctx) c a b Q env h,SW N Γ (.cond c a b) Q env h=E4 N Γ (ev N env h c) a b Q env h) /\
  (∀(N:Num) (Γ:Ctx) a b Q env h,E4 N Γ (U (.v (.bool true))) a b Q env h=SW N Γ a Q env h) /\
  (∀(N:Num) (Γ:Ctx) a b Q env h,E4 N Γ (U (.v (.bool false))) a b Q env h=SW N Γ b Q env h) /\
  (∀(N:Num) (Γ:Ctx) env h K,CU N Γ [] env h K=K env h) /\
  (∀(N:Num) (Γ:Ctx) l r env h K,CU N Γ (⟨l,O⟩::r) env h K=O7 (AV N env h l env) (MQ N Γ r K) h) /\
  (∀(N:Num) (Γ:Ctx) l x r env h K,CU N Γ (⟨l,U x⟩::r) env h K=O8 N Γ x (AV N env h l env) env h (MQ N Γ r K)) /\
  (∀(N:Num) (Γ:Ctx) l env h K,Fp N Γ ⟨l,O⟩ env h K=O7 (AV N env h l env) K h) /\
  (∀(N:Num) (Γ:Ctx) l x env h K,Fp N Γ ⟨l,U x⟩ env h K=O8 N Γ x (AV N env h l env) env h K) /\
  (∀e K h,O7 (U e) K h=K e h) /\
  (∀(N:Num) (Γ:Ctx) x e env h K,O8 N Γ x (U e) env h K=Is N Γ x env e h K) /\
  (∀(N:Num) (Γ:Ctx) i e Bh env1 h K,Is N Γ (.pnew i e) Bh env1 h K=M3 i (ev N Bh h e) env1 h K) /\
  (∀(N:Num) (Γ:Ctx) i e Bh env1 h K,Is N Γ (.pst i e) Bh env1 h K=S0 i (ev N Bh h e) env1 h K) /\
  (∀(N:Num) (Γ:Ctx) f args d Bh env1 h K,Is N Γ (.ef [] f args d) Bh env1 h K=Ju N Γ f (AS N Bh h args) h (RU K d env1)) /\
  (∀(N:Num) (Γ:Ctx) g gs f args d Bh env1 h K,Is N Γ (.ef (g::gs) f args d) Bh env1 h K=I0 N Γ (Dz N Bh h (g::gs)) f args d Bh env1 h K) /\
  (∀(N:Num) (Γ:Ctx) f args d Bh env1 h K,I0 N Γ (U true) f args d Bh env1 h K=Ju N Γ f (AS N Bh h args) h (RU K d env1)) /\
  (∀(N:Num) (Γ:Ctx) f args d Bh env1 h K,I0 N Γ (U false) f args d Bh env1 h K=K (Gz env1 d undef) h) /\
  (∀i x env1 h K,M3 i (U (.v x)) env1 h K=K (env1.put i (.agg x.cells)) h) /\
  (∀i x env1 h K,S0 i (U (.v x)) env1 h K=K (env1.put i x) h) /\
  (∀(N:Num) (Γ:Ctx) f us h K,Ju N Γ f (U us) h K=By N Γ f us h K) /\
  (∀(N:Num) (Γ:Ctx) s ws env h K,ME N Γ (.done s) ws env h K=Fp N Γ s env h K) /\
  (∀(N:Num) (Γ:Ctx) fl wx s r ws env h K,ME N Γ (.eff fl wx s r) ws env h K=Fp N Γ s env h (K1 N fl wx ws env h (Vp N Γ r K))) /\
  (∀(N:Num) (Γ:Ctx) fl wx s r fl' wx' s' r' ws env h K,ME N Γ (.alt fl wx s r fl' wx' s' r') ws env h K=U2 N Γ (.alt fl wx s r fl' wx' s' r') ws env h K) /\
  (∀(N:Num) (ws:List Heap) (env:At) (h:Heap) (K:List Heap->At->Heap->Prop) env' h',K1 N false [] ws env h K env' h'=K [] env' h') /\
  (∀(N:Num) (ws:List Heap) (env:At) (h:Heap) (K:List Heap->At->Heap->Prop) env' h',K1 N true [] ws env h K env' h'=Xw ws h' (K ws env' h')) /\
  (∀(N:Num) (Γ:Ctx) r ws K env h,Vp N Γ r K ws env h=ME N Γ r ws env h K) /\
  (∀Q env h,J5 Q env h=Q .normal env h) /\
  (∀(N:Num) (Γ:Ctx) r K env h,MQ N Γ r K env h=CU N Γ r env h K) /\
  (∀K d env v h,RU K d env v h=K (Gz env d v) h) /\
  (∀env i v,Gz env (U i) v=env.put i v) /\
  (∀env v,Gz env O v=env) /\
  (∀(N:Num) (Γ:Ctx) b Q env h,IK N Γ b Q .normal env h=SW N Γ b Q env h) /\
  (∀(N:Num) (Γ:Ctx) b Q i env h,IK N Γ b Q (.exit i) env h=Q (.exit i) env h) /\
  (∀(N:Num) (Γ:Ctx) b Q env h,IK N Γ b Q .ret env h=Q .ret env h) /\
  (∀i Q env h,Jz i Q .normal env h=Q .normal env h) /\
  (∀i Q env h,Jz i Q .ret env h=Q .ret env h) /\
  (∀i j (Q:SE->At->Heap->Prop) env h,Jz i Q (.exit j) env h=if j=i then Q .normal env h else Q (.exit j) env h) /\
  (∀(σ:Type) (E:σ->At) (I:σ->Heap->Prop) m n Q i env h,Kd E I m n Q (.exit i) env h=Q (.exit i) env h) /\
  (∀(σ:Type) (E:σ->At) (I:σ->Heap->Prop) m n Q env h,Kd E I m n Q .ret env h=Q .ret env h) /\
  (∀R Q i env h,Gw R Q (.exit i) env h=Q (.exit i) env h) /\
  (∀R Q env h,Gw R Q .ret env h=Q .ret env h) /\
  (∀(N:Num) res K env h,Nx N res K .normal env h=JO (AS N env h res) K h) /\
  (∀(N:Num) res K env h,Nx N res K .ret env h=JO (AS N env h res) K h) /\
  (∀vs K h,JO (U vs) K h=K (MB vs) h) /\
  (∀v,MB [v]=v) /\
  (MB []=.tuple #[]) /\
  (∀a b,MB [a,b]=.tuple #[a,b]) /\
  (∀a b c,MB [a,b,c]=.tuple #[a,b,c]) /\
  (∀a b c d,MB [a,b,c,d]=.tuple #[a,b,c,d]):=by
 refine⟨?_,?_,?_,?_,?_,?_,?_,?_,?_,?_,?_,?_,?_,?_,?_,?_,?_,?_,?_,?_,?_,?_,?_,?_,?_,?_,?_,?_,?_,?_,?_,?_,?_,?_,?_,?_,?_,?_,?_,?_,?_,?_,?_,?_,?_,?_,?_,?_,?_,?_,?_,?_,?_,?_,?_⟩
 case refine_8=>
  intro N Γ c a b Q env h;simp only[SW,E4,eq_iff_iff];constructor
  ·rintro⟨t,h1,h2,h3⟩;rw[h1];cases t<;>simp_all
  ·split
   ·rename_i h1;intro hx;exact⟨true,h1,λ_=>hx,(by simp)⟩
   ·rename_i h1;intro hx;exact⟨false,h1,(by simp),λ_=>hx⟩
   ·exact False.elim
 case refine_12=>
  intro N Γ l r env h K;simp only[CU,Fp,O7,eq_iff_iff];constructor
  ·rintro⟨e,h1,h2⟩;rw[h1];exact h2
  ·split
   ·rename_i h1;intro hx;exact⟨_,h1,hx⟩
   ·exact False.elim
 case refine_13=>
  intro N Γ l x r env h K;simp only[CU,Fp,O8,eq_iff_iff];constructor
  ·rintro⟨e,h1,h2⟩;rw[h1];exact h2
  ·split
   ·rename_i h1;intro hx;exact⟨_,h1,hx⟩
   ·exact False.elim
 case refine_14=>
  intro N Γ l env h K;simp only[Fp,O7,eq_iff_iff];constructor
  ·rintro⟨e,h1,h2⟩;rw[h1];exact h2
  ·split
   ·rename_i h1;intro hx;exact⟨_,h1,hx⟩
   ·exact False.elim
 case refine_15=>
  intro N Γ l x env h K;simp only[Fp,O8,eq_iff_iff];constructor
  ·rintro⟨e,h1,h2⟩;rw[h1];exact h2
  ·split
   ·rename_i h1;intro hx;exact⟨_,h1,hx⟩
   ·exact False.elim
 case refine_18=>
  intro N Γ i e Bh env1 h K;simp only[Is,M3,eq_iff_iff];constructor
  ·rintro⟨v,h1,h2⟩;rw[h1];exact h2
  ·split
   ·rename_i h1;intro hx;exact⟨_,h1,hx⟩
   ·exact False.elim
 case refine_19=>
  intro N Γ i e Bh env1 h K;simp only[Is,S0,eq_iff_iff];constructor
  ·rintro⟨v,h1,h2⟩;rw[h1];exact h2
  ·split
   ·rename_i h1;intro hx;exact⟨_,h1,hx⟩
   ·exact False.elim
 case refine_20=>
  intro N Γ f args d Bh env1 h K;simp only[Is,Ju,Dz,eq_iff_iff];constructor
  ·rintro(⟨_,us,h1,h2⟩|⟨h1,_⟩)
   ·rw[h1];exact h2
   ·cases h1
  ·split
   ·rename_i h1;intro hx;exact .inl ⟨by trivial,_,h1,hx⟩
   ·exact False.elim
 case refine_21=>
  intro N Γ g gs f args d Bh env1 h K;simp only[Is,Ju,I0,eq_iff_iff];constructor
  ·rintro(⟨h0,us,h1,h2⟩|⟨h1,h2⟩)
   ·rw[h0,h1];exact h2
   ·rw[h1];exact h2
  ·split
   ·rename_i h0;rw[h0];split
    ·rename_i h1;intro hx;exact .inl ⟨rfl,_,h1,hx⟩
    ·exact False.elim
   ·rename_i h0;intro hx;exact .inr ⟨h0,hx⟩
   ·exact False.elim
 case refine_30=>intro N ws env h K env' h';simp[K1]
 case refine_31=>intro N ws env h K env' h';simp[K1,Xw]
 case refine_48=>
  intro N res K env h;simp only[Nx,JO,eq_iff_iff];constructor
  ·rintro⟨vs,h1,h2⟩;rw[h1];exact h2
  ·split
   ·rename_i h1;intro hx;exact⟨_,h1,hx⟩
   ·exact False.elim
 case refine_49=>
  intro N res K env h;simp only[Nx,JO,eq_iff_iff];constructor
  ·rintro⟨vs,h1,h2⟩;rw[h1];exact h2
  ·split
   ·rename_i h1;intro hx;exact⟨_,h1,hx⟩
   ·exact False.elim
 all_goals (intros;rfl)
end Go.Cw
namespace Go.Cw
open Go
def str (l:List UInt8):ByteArray:=⟨l.toArray⟩
theorem Bz (l:List UInt8):(str l).data.toList=l:=rfl
theorem SJ (s:ByteArray):str s.data.toList=s:=rfl
theorem BM (l:List UInt8):(str l).size=l.length:=rfl
theorem Om (a b:List UInt8):str a++str b=str (a++b):=by
 apply ByteArray.ext;simp[str]
theorem KH (s:ByteArray):∀ (n i:Nat) (r:List UInt8),n+i=s.size->ByteArray.toList.loop s i r=r.reverse++s.data.toList.drop i:=by
 intro n;induction n with
 |zero=>
  intro i r h;rw[ByteArray.toList.loop];have:¬ i<s.size:=by omega
  rw[if_neg this,List.drop_of_length_le (by show s.data.toList.length<=i;simp;show s.data.size<=i;exact(show s.size<=i by omega))];simp
 |succ n ih=>
  intro i r h;rw[ByteArray.toList.loop];have hlt:i<s.size:=by omega
  have hlt':i<s.data.toList.length:=by simp;exact hlt
  rw[if_pos hlt,ih (i+1) _ (by omega),List.drop_eq_getElem_cons hlt'];have:s.get! i=s.data.toList[i]:=by
   have hlt2:i<s.data.size:=hlt;show s.data[i]! = _;rw[getElem!_pos s.data i hlt2];simp
  rw[this];simp
theorem Sd (s:ByteArray):s.toList=s.data.toList:=by
 rw[ByteArray.toList,KH s s.size 0 [] (by omega)];simp
theorem JS (l:List UInt8):(str l).toList=l:=by rw[Sd];rfl
theorem Um (l:List UInt8) (i:Nat):(str l).data.getD i 0=l.getD i 0:=by
 simp[str,Array.getD,Zp];split<;>simp_all
theorem MN (l:List UInt8) (i j:Nat):(str l).extract i j=str ((l.take j).drop i):=by
 apply ByteArray.ext;simp[str,List.extract,List.drop_take]
def XQ (o:Option Value) (off:Nat):Option UV:=match o with
 |some (.agg c)=>(c[off]?).map .v
 |_=>O
def Xb (o:Option Value) (off n:Nat):Option UV:=match o with
 |some (.agg c)=>if off+n<=c.size then U (.v (.agg (c.extract off (off+n))))else O
 |_=>O
def agg (l:List Value):Value:=.agg l.toArray
theorem QR (N:Num) (env:At) (h:Heap) (g:Ex×Bool) (gs:List (Ex×Bool)) (i:Nat) (e:Ex) (r:List Hz) (E:At):AV N env h (⟨g::gs,i,e⟩::r) E=Ng N (Dz N env h (g::gs)) env h i e r E:=by
 cases hg:Dz N env h (g::gs)with
 |none=>simp only[AV,hg,Ng]
 |some b=>
  have e0:Dz N env h []=U true:=rfl;cases b<;>simp only[AV,hg,Ng,e0]
section
variable (N:Num) (env:At) (h:Heap)
theorem P1 :
  (∀(N:Num) (env:At) (h:Heap) i,ev N env h (.var i)=(env.get i).map .v) /\
  (∀(N:Num) (env:At) (h:Heap) i,ev N env h (.cnt i)=(env.get i).map .v) /\
  (∀(N:Num) (env:At) (h:Heap) i,ev N env h (.pad i)=(env.get i).map λ_=>.p i 0) /\
  (∀(N:Num) (env:At) (h:Heap) x,ev N env h (.con x)=U (.v x)) /\
  (∀(N:Num) (env:At) (h:Heap) f,ev N env h (.mkf f)=U (.v (.func (.func (N.fid f)) #[] #[]))) /\
  (∀(N:Num) (env:At) (h:Heap) o a,ev N env h (.o1 o a)=u1 N env h o (ev N env h a)) /\
  (∀(N:Num) (env:At) (h:Heap) o a b,ev N env h (.o2 o a b)=u2 h o (ev N env h a) (ev N env h b)) /\
  (∀(N:Num) (env:At) (h:Heap) o a b c,ev N env h (.o3 o a b c)=u3 o (ev N env h a) (ev N env h b) (ev N env h c)) /\
  (∀(N:Num) (env:At) (h:Heap) c a b,ev N env h (.pick c a b)=M4 (ev N env h c) (ev N env h a) (ev N env h b)) /\
  (∀(N:Num) (env:At) (h:Heap) base i n a v,ev N env h (.upd base i n a v)=WN i n (ev N env h base) (ev N env h a) (ev N env h v)) /\
  (∀(N:Num) (env:At) (h:Heap) o a,u1 N env h o (U a)=Bw N env h o a) /\
  (∀(h:Heap) o a b,u2 h o (U a) (U b)=A8 h o a b) /\
  (∀o a b c,u3 o (U a) (U b) (U c)=JE o a b c) /\
  (∀a b,M4 (U (.v (.bool true))) a b=a) /\
  (∀a b,M4 (U (.v (.bool false))) a b=b) /\
  (∀(N:Num) (env:At) (h:Heap) E,AV N env h [] E=U E) /\
  (∀(N:Num) (env:At) (h:Heap) i e r E,AV N env h (⟨[],i,e⟩::r) E=UG N (ev N env h e) env h i r E) /\
  (∀(N:Num) (env:At) (h:Heap) g gs i e r E,AV N env h (⟨g::gs,i,e⟩::r) E=Ng N (Dz N env h (g::gs)) env h i e r E) /\
  (∀(N:Num) (env:At) (h:Heap) x i r E,UG N (U (.v x)) env h i r E=AV N env h r (E.put i x)) /\
  (∀(N:Num) (env:At) (h:Heap) i e r E,Ng N (U true) env h i e r E=AV N env h (⟨[],i,e⟩::r) E) /\
  (∀(N:Num) (env:At) (h:Heap) i e r E,Ng N (U false) env h i e r E=AV N env h r (E.put i undef)) /\
  (∀(N:Num) (env:At) (h:Heap),Dz N env h []=U true) /\
  (∀(N:Num) (env:At) (h:Heap) e w r,Dz N env h ((e,w)::r)=Ub N (ev N env h e) w env h r) /\
  (∀(N:Num) (env:At) (h:Heap) r,Ub N (U (.v (.bool true))) true env h r=Dz N env h r) /\
  (∀(N:Num) (env:At) (h:Heap) r,Ub N (U (.v (.bool false))) false env h r=Dz N env h r) /\
  (∀(N:Num) (env:At) (h:Heap) r,Ub N (U (.v (.bool true))) false env h r=U false) /\
  (∀(N:Num) (env:At) (h:Heap) r,Ub N (U (.v (.bool false))) true env h r=U false) /\
  (∀(N:Num) (env:At) (h:Heap) w r,Ub N (U (.v undef)) w env h r=U false) /\
  (∀(N:Num) (env:At) (h:Heap),AS N env h []=U []) /\
  (∀(N:Num) (env:At) (h:Heap) e r,AS N env h (e::r)=TV (ev N env h e) (AS N env h r)) /\
  (∀x xs,TV (U (.v x)) (U xs)=U (x::xs)) /\
  (∀v (e:At),At.get (v::e) 0=v) /\
  (∀v (e:At) i,At.get (v::e) (i+1)=At.get e i) /\
  (∀v (e:At) x,At.put (v::e) 0 x=U x::e) /\
  (∀v (e:At) i x,At.put (v::e) (i+1) x=v::At.put e i x):=by
 and_intros
 all_goals (intros;first|rfl|exact QR ..|(simp only[Dz];rfl)|(simp only[Dz,Ub];split<;>simp_all;done)|(simp only[AS,TV];done)|(simp[Ub,At.get];done))
theorem P2 :
  (∀(N:Num) (env:At) (h:Heap) s,Bw N env h .slen (.v (.string s))=U (.v (.int .i64 s.size))) /\
  (∀(N:Num) (env:At) (h:Heap) a n c,Bw N env h .llen (.v (.slice a n c))=U (.v (.int .i64 n))) /\
  (∀(N:Num) (env:At) (h:Heap) d a,Bw N env h (.fadr d) (.v (.pointer (U a)))=U (.v (.pointer (U (a.add d))))) /\
  (∀(N:Num) (env:At) (h:Heap) d i off,Bw N env h (.fadr d) (.p i off)=U (.p i (off+d))) /\
  (∀(N:Num) (env:At) (h:Heap) a,Bw N env h .ld (.v (.pointer (U a)))=(h.cell a).map .v) /\
  (∀(N:Num) (env:At) (h:Heap) n a,Bw N env h (.ldn n) (.v (.pointer (U a)))=(h.row a n).map λc=>.v (.agg c)) /\
  (∀(N:Num) (env:At) (h:Heap) i off,Bw N env h .ld (.p i off)=XQ (env.get i) off) /\
  (∀(N:Num) (env:At) (h:Heap) n i off,Bw N env h (.ldn n) (.p i off)=Xb (env.get i) off n) /\
  (∀(c:Array Value) off,XQ (U (.agg c)) off=(c[off]?).map .v) /\
  (∀(c:Array Value) off n,Xb (U (.agg c)) off n=if off+n<=c.size then U (.v (.agg (c.extract off (off+n))))else O) /\
  (∀(N:Num) (env:At) (h:Heap) a,Bw N env h .nilck (.v (.pointer (U a)))=U (.v (.pointer (U a)))) /\
  (∀(N:Num) (env:At) (h:Heap) i off,Bw N env h .nilck (.p i off)=U (.p i off)) /\
  (∀(N:Num) (env:At) (h:Heap) f a b,Bw N env h .nilck (.v (.func (.func f) a b))=U (.v (.func (.func f) a b))) /\
  (∀(N:Num) (env:At) (h:Heap) b,Bw N env h .not (.v (.bool b))=U (.v (.bool (!b)))) /\
  (∀(N:Num) (env:At) (h:Heap) k n,Bw N env h .neg (.v (.int k n))=U (.v (.int k (k.wrap (0-n))))) /\
  (∀(N:Num) (env:At) (h:Heap) k k' n,Bw N env h (.conv k) (.v (.int k' n))=U (.v (.int k (k.wrap n)))) /\
  (∀(N:Num) (env:At) (h:Heap) k (l:List Value),Bw N env h (.ext k) (.v (.tuple l.toArray))=(l[k]?).map .v) /\
  (∀(N:Num) (env:At) (h:Heap) k (l:List Value),Bw N env h (.fld k) (.v (.agg l.toArray))=(l[k]?).map .v) /\
  (∀(N:Num) (env:At) (h:Heap) k n (l:List Value),Bw N env h (.fldn k n) (.v (.agg l.toArray))=U (.v (.agg ((l.drop k).take n).toArray))) /\
  (∀(N:Num) (env:At) (h:Heap) t x,Bw N env h (.iface t) (.v x)=U (.v (.iface (N.tid t) x))) /\
  (∀(N:Num) (env:At) (h:Heap) t z u y,Bw N env h (.tas t z) (.v (.iface u y))=if u=N.tid t then U (.v (.tuple #[y,.bool true]))else U (.v (.tuple #[z,.bool false]))) /\
  (∀(N:Num) (env:At) (h:Heap) t z,Bw N env h (.tas t z) (.v .nilIface)=U (.v (.tuple #[z,.bool false]))) /\
  (∀(N:Num) (env:At) (h:Heap) k n,Bw N env h .inv (.v (.int k n))=U (.v (.int k (k.wrap (BitVec.ofInt k.bits (if k.signed then -1 else k.max) ^^^ BitVec.ofInt k.bits n).toNat)))):=by
 and_intros
 all_goals (intros;first|rfl|(simp[Bw,List.extract];done))
theorem P3 :
  (∀(h:Heap) op x y,A8 h (.bin op) (.v x) (.v y)=(Bj op x y).map .v) /\
  (∀(h:Heap) size a (len:Nat) cap k n,0<=n->n<(len:Int)->A8 h (.iadr size) (.v (.slice (U a) len cap)) (.v (.int k n))=U (.v (.pointer (U (a.add (n.toNat*size)))))) /\
  (∀(h:Heap) (len:Nat) size a k n,0<=n->n<(len:Int)->A8 h (.aadr len size) (.v (.pointer (U a))) (.v (.int k n))=U (.v (.pointer (U (a.add (n.toNat*size)))))) /\
  (∀(h:Heap) (len:Nat) size i off k n,0<=n->n<(len:Int)->A8 h (.aadr len size) (.p i off) (.v (.int k n))=U (.p i (off+n.toNat*size))) /\
  (∀(h:Heap) l k n,0<=n->n<(l.length:Int)->A8 h .sidx (.v (.string (str l))) (.v (.int k n))=U (.v (.int .u8 (l.getD n.toNat 0).toNat))) /\
  (∀(h:Heap) (len:Nat) (c:Array Value) k n,0<=n->n<(len:Int)->A8 h (.vidx len) (.v (.agg c)) (.v (.int k n))=(c[n.toNat]?).map .v) /\
  (∀(h:Heap) (len:Nat) size (c:Array Value) k n,0<=n->n<(len:Int)->A8 h (.vidxn len size) (.v (.agg c)) (.v (.int k n))=U (.v (.agg (c.extract (n.toNat*size) (n.toNat*size+size))))) /\
  (∀(h:Heap) k a b k',A8 h .max (.v (.int k a)) (.v (.int k' b))=U (.v (.int k (max a b)))) /\
  (∀(h:Heap) k a b k',A8 h .min (.v (.int k a)) (.v (.int k' b))=U (.v (.int k (min a b)))) /\
  (∀(h:Heap) off n (c:Array Value) y,A8 h (.bput off n) (.v (.agg c)) (.v y)=if y.cells.size=n/\off+n<=c.size then U (.v (.agg (Dy c off y.cells.toList)))else O) /\
  (∀(h:Heap) fn first cs y,A8 h .capp (.v (.func fn first cs)) (.v y)=U (.v (.func fn first (cs.push y)))) /\
  (∀l k k' lo hi,0<=lo->lo<=hi->hi<=(l.length:Int)->JE .ssl (.v (.string (str l))) (.v (.int k lo)) (.v (.int k' hi))=U (.v (.string (str ((l.take hi.toNat).drop lo.toNat))))):=by
 have ib:∀ (n:Int) (m:Nat),0<=n->n<(m:Int)->BA n m=true:=by intro n m h1 h2;simp[BA,h1,h2]
 and_intros
 all_goals first
  |(intros;rfl)
  |(intro h size a len cap k n h1 h2;simp only[A8,ib n len h1 h2,if_true];done)
  |(intro h len size a k n h1 h2;simp only[A8,ib n len h1 h2,if_true];done)
  |(intro h len size i off k n h1 h2;simp only[A8,ib n len h1 h2,if_true];done)
  |(intro h len c k n h1 h2;simp only[A8,ib n len h1 h2,if_true];done)
  |(intro h len size c k n h1 h2;simp only[A8,ib n len h1 h2,if_true];done)
  |(intro h l k n h1 h2;have:=ib n l.length h1 h2;simp only[A8,BM,this,if_true,Um];done)
  |(intro h k a b k';simp only[A8];congr 3;rw[Int.max_def];split<;>split<;>omega)
  |(intro h k a b k';simp only[A8];congr 3;rw[Int.min_def];split<;>split<;>omega)
  |(intro l k k' lo hi h1 h2 h3;simp only[JE,BM,h1,h2,h3,and_self,if_true,MN];done)
theorem P4:(∀k a b,Bj .add (.int k a) (.int k b)=U (.int k (k.wrap (a+b))))/\(∀k a b,Bj .sub (.int k a) (.int k b)=U (.int k (k.wrap (a-b))))/\(∀k a b,Bj .mul (.int k a) (.int k b)=U (.int k (k.wrap (a*b)))) /\
  (∀k a b,b≠0->Bj .quo (.int k a) (.int k b)=U (.int k (k.wrap (a.tdiv b))))/\(∀k a b,b≠0->Bj .rem (.int k a) (.int k b)=U (.int k (a.tmod b))) /\
  (∀k a b,Bj .eql (.int k a) (.int k b)=U (.bool (decide (a=b))))/\(∀k a b,Bj .neq (.int k a) (.int k b)=U (.bool (decide (a≠b)))) /\
  (∀k a b,Bj .lss (.int k a) (.int k b)=U (.bool (decide (a<b))))/\(∀k a b,Bj .leq (.int k a) (.int k b)=U (.bool (decide (a<=b)))) /\
  (∀k a b,Bj .gtr (.int k a) (.int k b)=U (.bool (decide (b<a))))/\(∀k a b,Bj .geq (.int k a) (.int k b)=U (.bool (decide (b<=a)))) /\
  (∀a b,a.length+b.length<=9223372036854775807->Bj .add (.string (str a)) (.string (str b))=U (.string (str (a++b)))) /\
  (∀a b,Bj .eql (.string (str a)) (.string (str b))=U (.bool (decide (a=b))))/\(∀a b,Bj .neq (.string (str a)) (.string (str b))=U (.bool (decide (a≠b)))) /\
  (∀a b,Bj .lss (.string (str a)) (.string (str b))=U (.bool (Op.bytesLess a b))) /\
  (∀p q:Bool,M4 (U (.v (.bool p))) (U (.v (.bool true))) (U (.v (.bool q)))=U (.v (.bool (p||q)))) /\
  (∀p q:Bool,M4 (U (.v (.bool p))) (U (.v (.bool q))) (U (.v (.bool false)))=U (.v (.bool (p&&q)))) /\
  (∀(p q:Prop) [Decidable p] [Decidable q],(decide p||decide q)=decide (p\/q))/\(∀(p q:Prop) [Decidable p] [Decidable q],(decide p&&decide q)=decide (p/\q)) /\
  (∀(p:Prop) [Decidable p],(!decide p)=decide (¬p))/\(∀b:Bool,(false||b)=b)/\(∀b:Bool,(b||false)=b)/\(∀b:Bool,(true||b)=true)/\(∀b:Bool,(b||true)=true)/\(∀b:Bool,(false&&b)=false)/\(∀b:Bool,(b&&false)=false)/\(∀b:Bool,(true&&b)=b)/\(∀b:Bool,(b&&true)=b) /\
  (∀a off,Dy a off []=a)/\(∀a off v r,Dy a off (v::r)=Dy (a.setIfInBounds off v) (off+1) r):=by
 and_intros
 all_goals first
  |(intros;rfl)
  |(intro k a b;simp[Bj,Gt];done)
  |(intro k a b;simp only[Bj,Gt,if_true];rfl)
  |(intro k a b;simp only[Bj,Gt,if_true];congr 2;rw[Zu];simp;done)
  |(intro k a b;simp only[Bj,Gt,if_true,bne];congr 2;rw[Zu];simp;done)
  |(intro k a b h1;simp only[Bj,Gt,h1,if_true,if_false];done)
  |(intro a b h1;simp only[Bj,SK,BM,h1,if_true,Om];done)
  |(intro a b;simp[Bj,SK,JS];done)
  |(intro a b;simp only[Bj,SK,JS];congr 2;rw[Zu];simp;done)
  |(intro p q;cases p<;>rfl)
  |(intro b;cases b<;>rfl)
  |(intro p q _ _;simp;done)
  |(intro p _;simp;done)
theorem P7:(∀h,A8 h (.eqv .iface true) (.v .nilIface) (.v .nilIface)=U (.v (.bool false)))/\(∀h,A8 h (.eqv .iface false) (.v .nilIface) (.v .nilIface)=U (.v (.bool true))) /\
  (∀h t x,A8 h (.eqv .iface true) (.v (.iface t x)) (.v .nilIface)=U (.v (.bool true)))/\(∀h t x,A8 h (.eqv .iface false) (.v (.iface t x)) (.v .nilIface)=U (.v (.bool false))) /\
  (∀h,A8 h (.eqv .ptr true) (.v (.pointer O)) (.v (.pointer O))=U (.v (.bool false)))/\(∀h,A8 h (.eqv .ptr false) (.v (.pointer O)) (.v (.pointer O))=U (.v (.bool true))) /\
  (∀h a,A8 h (.eqv .ptr true) (.v (.pointer (U a))) (.v (.pointer O))=U (.v (.bool true)))/\(∀h a,A8 h (.eqv .ptr false) (.v (.pointer (U a))) (.v (.pointer O))=U (.v (.bool false))) /\
  (∀h,A8 h (.eqv .map true) (.v (.map O)) (.v (.map O))=U (.v (.bool false)))/\(∀h,A8 h (.eqv .map false) (.v (.map O)) (.v (.map O))=U (.v (.bool true))) /\
  (∀h a,A8 h (.eqv .map true) (.v (.map (U a))) (.v (.map O))=U (.v (.bool true)))/\(∀h a,A8 h (.eqv .map false) (.v (.map (U a))) (.v (.map O))=U (.v (.bool false))) /\
  (∀h a n c m k,A8 h (.eqv .slice true) (.v (.slice a n c)) (.v (.slice O m k))=U (.v (.bool a.isSome)))/\(∀h a n c m k,A8 h (.eqv .slice false) (.v (.slice a n c)) (.v (.slice O m k))=U (.v (.bool a.isNone))) /\
  (∀h a b,A8 h (.eqv .bool true) (.v (.bool a)) (.v (.bool b))=U (.v (.bool (decide (a≠b)))))/\(∀h a b,A8 h (.eqv .bool false) (.v (.bool a)) (.v (.bool b))=U (.v (.bool (decide (a=b))))):=by
 and_intros
 all_goals first
  |(intros;rfl)
  |(intro h a n c m k;cases a<;>rfl)
  |(intro h a b;cases a<;>cases b<;>rfl)
theorem P8:(∀c,Value.cells (.agg c)=c)/\(∀k n,Value.cells (.int k n)=#[.int k n])/\(∀s,Value.cells (.string s)=#[.string s])/\(∀b,Value.cells (.bool b)=#[.bool b])/\(∀a,Value.cells (.pointer a)=#[.pointer a]) /\
  (∀a n c,Value.cells (.slice a n c)=#[.slice a n c])/\(∀m,Value.cells (.map m)=#[.map m])/\(Value.cells .nilIface=#[.nilIface])/\(∀t x,Value.cells (.iface t x)=#[.iface t x])/\(∀f a c,Value.cells (.func f a c)=#[.func f a c]) /\
  (∀k n,one (.int k n)=true)/\(∀s,one (.string s)=true)/\(∀b,one (.bool b)=true)/\(∀a,one (.pointer a)=true)/\(∀a n c,one (.slice a n c)=true)/\(∀m,one (.map m)=true)/\(one .nilIface=true)/\(∀t x,one (.iface t x)=true)/\(∀f a c,one (.func f a c)=true):=by
 and_intros
 all_goals (intros;rfl)
theorem BC {n:Int} (h1:-9223372036854775808<=n) (h2:n<=9223372036854775807):IntKind.i64.wrap n=n:=IntWalk.i64_in n ⟨h1,h2⟩
theorem P5:(∀(i k:Nat),i+k<=9223372036854775807->IntKind.i64.wrap ((i:Int)+(k:Int))=((i+k:Nat):Int)) /\
  (∀(i k:Nat),k<=i->i<=9223372036854775807->IntKind.i64.wrap ((i:Int)-(k:Int))=((i-k:Nat):Int)) /\
  (∀(i:Nat),i<=9223372036854775807->IntKind.i64.wrap (i:Int)=(i:Int)) /\
  (∀(i:Nat),i+1<=9223372036854775807->IntKind.i64.wrap ((i:Int)+1)=((i+1:Nat):Int)) /\
  (∀(i:Nat),1+i<=9223372036854775807->IntKind.i64.wrap (1+(i:Int))=((1+i:Nat):Int)) /\
  (∀(i:Nat),1<=i->i<=9223372036854775807->IntKind.i64.wrap ((i:Int)-1)=((i-1:Nat):Int)) /\
  (∀(i:Nat),i*1<=9223372036854775807->IntKind.i64.wrap ((i:Int)*1)=((i*1:Nat):Int)) /\
  (∀(i:Nat),1*i<=9223372036854775807->IntKind.i64.wrap (1*(i:Int))=((1*i:Nat):Int)) /\
  (∀(i:Nat),i+2<=9223372036854775807->IntKind.i64.wrap ((i:Int)+2)=((i+2:Nat):Int)) /\
  (∀(i:Nat),2+i<=9223372036854775807->IntKind.i64.wrap (2+(i:Int))=((2+i:Nat):Int)) /\
  (∀(i:Nat),2<=i->i<=9223372036854775807->IntKind.i64.wrap ((i:Int)-2)=((i-2:Nat):Int)) /\
  (∀(i:Nat),i*2<=9223372036854775807->IntKind.i64.wrap ((i:Int)*2)=((i*2:Nat):Int)) /\
  (∀(i:Nat),2*i<=9223372036854775807->IntKind.i64.wrap (2*(i:Int))=((2*i:Nat):Int)) /\
  (∀(i:Nat),i+3<=9223372036854775807->IntKind.i64.wrap ((i:Int)+3)=((i+3:Nat):Int)) /\
  (∀(i:Nat),3+i<=9223372036854775807->IntKind.i64.wrap (3+(i:Int))=((3+i:Nat):Int)) /\
  (∀(i:Nat),3<=i->i<=9223372036854775807->IntKind.i64.wrap ((i:Int)-3)=((i-3:Nat):Int)) /\
  (∀(i:Nat),i*3<=9223372036854775807->IntKind.i64.wrap ((i:Int)*3)=((i*3:Nat):Int)) /\
  (∀(i:Nat),3*i<=9223372036854775807->IntKind.i64.wrap (3*(i:Int))=((3*i:Nat):Int)) /\
  (∀(i:Nat),i+4<=9223372036854775807->IntKind.i64.wrap ((i:Int)+4)=((i+4:Nat):Int)) /\
  (∀(i:Nat),4+i<=9223372036854775807->IntKind.i64.wrap (4+(i:Int))=((4+i:Nat):Int)) /\
  (∀(i:Nat),4<=i->i<=9223372036854775807->IntKind.i64.wrap ((i:Int)-4)=((i-4:Nat):Int)) /\
  (∀(i:Nat),i*4<=9223372036854775807->IntKind.i64.wrap ((i:Int)*4)=((i*4:Nat):Int)) /\
  (∀(i:Nat),4*i<=9223372036854775807->IntKind.i64.wrap (4*(i:Int))=((4*i:Nat):Int)) /\
  (∀(i:Nat),i+5<=9223372036854775807->IntKind.i64.wrap ((i:Int)+5)=((i+5:Nat):Int)) /\
  (∀(i:Nat),5+i<=9223372036854775807->IntKind.i64.wrap (5+(i:Int))=((5+i:Nat):Int)) /\
  (∀(i:Nat),5<=i->i<=9223372036854775807->IntKind.i64.wrap ((i:Int)-5)=((i-5:Nat):Int)) /\
  (∀(i:Nat),i*5<=9223372036854775807->IntKind.i64.wrap ((i:Int)*5)=((i*5:Nat):Int)) /\
  (∀(i:Nat),5*i<=9223372036854775807->IntKind.i64.wrap (5*(i:Int))=((5*i:Nat):Int)) /\
  (∀(i:Nat),i+7<=9223372036854775807->IntKind.i64.wrap ((i:Int)+7)=((i+7:Nat):Int)) /\
  (∀(i:Nat),7+i<=9223372036854775807->IntKind.i64.wrap (7+(i:Int))=((7+i:Nat):Int)) /\
  (∀(i:Nat),7<=i->i<=9223372036854775807->IntKind.i64.wrap ((i:Int)-7)=((i-7:Nat):Int)) /\
  (∀(i:Nat),i*7<=9223372036854775807->IntKind.i64.wrap ((i:Int)*7)=((i*7:Nat):Int)) /\
  (∀(i:Nat),7*i<=9223372036854775807->IntKind.i64.wrap (7*(i:Int))=((7*i:Nat):Int)) /\
  (∀(i:Nat),i+8<=9223372036854775807->IntKind.i64.wrap ((i:Int)+8)=((i+8:Nat):Int)) /\
  (∀(i:Nat),8+i<=9223372036854775807->IntKind.i64.wrap (8+(i:Int))=((8+i:Nat):Int)) /\
  (∀(i:Nat),8<=i->i<=9223372036854775807->IntKind.i64.wrap ((i:Int)-8)=((i-8:Nat):Int)) /\
  (∀(i:Nat),i*8<=9223372036854775807->IntKind.i64.wrap ((i:Int)*8)=((i*8:Nat):Int)) /\
  (∀(i:Nat),8*i<=9223372036854775807->IntKind.i64.wrap (8*(i:Int))=((8*i:Nat):Int)) /\
  (∀(i:Nat),i+10<=9223372036854775807->IntKind.i64.wrap ((i:Int)+10)=((i+10:Nat):Int)) /\
  (∀(i:Nat),10+i<=9223372036854775807->IntKind.i64.wrap (10+(i:Int))=((10+i:Nat):Int)) /\
  (∀(i:Nat),10<=i->i<=9223372036854775807->IntKind.i64.wrap ((i:Int)-10)=((i-10:Nat):Int)) /\
  (∀(i:Nat),i*10<=9223372036854775807->IntKind.i64.wrap ((i:Int)*10)=((i*10:Nat):Int)) /\
  (∀(i:Nat),10*i<=9223372036854775807->IntKind.i64.wrap (10*(i:Int))=((10*i:Nat):Int)) /\
  (∀(i:Nat),i+11<=9223372036854775807->IntKind.i64.wrap ((i:Int)+11)=((i+11:Nat):Int)) /\
  (∀(i:Nat),11+i<=9223372036854775807->IntKind.i64.wrap (11+(i:Int))=((11+i:Nat):Int)) /\
  (∀(i:Nat),11<=i->i<=9223372036854775807->IntKind.i64.wrap ((i:Int)-11)=((i-11:Nat):Int)) /\
  (∀(i:Nat),i*11<=9223372036854775807->IntKind.i64.wrap ((i:Int)*11)=((i*11:Nat):Int)) /\
  (∀(i:Nat),11*i<=9223372036854775807->IntKind.i64.wrap (11*(i:Int))=((11*i:Nat):Int)) /\
  (∀(i:Nat),i+12<=9223372036854775807->IntKind.i64.wrap ((i:Int)+12)=((i+12:Nat):Int)) /\
  (∀(i:Nat),12+i<=9223372036854775807->IntKind.i64.wrap (12+(i:Int))=((12+i:Nat):Int)) /\
  (∀(i:Nat),12<=i->i<=9223372036854775807->IntKind.i64.wrap ((i:Int)-12)=((i-12:Nat):Int)) /\
  (∀(i:Nat),i*12<=9223372036854775807->IntKind.i64.wrap ((i:Int)*12)=((i*12:Nat):Int)) /\
  (∀(i:Nat),12*i<=9223372036854775807->IntKind.i64.wrap (12*(i:Int))=((12*i:Nat):Int)) /\
  (∀(i:Nat),i+16<=9223372036854775807->IntKind.i64.wrap ((i:Int)+16)=((i+16:Nat):Int)) /\
  (∀(i:Nat),16+i<=9223372036854775807->IntKind.i64.wrap (16+(i:Int))=((16+i:Nat):Int)) /\
  (∀(i:Nat),16<=i->i<=9223372036854775807->IntKind.i64.wrap ((i:Int)-16)=((i-16:Nat):Int)) /\
  (∀(i:Nat),i*16<=9223372036854775807->IntKind.i64.wrap ((i:Int)*16)=((i*16:Nat):Int)) /\
  (∀(i:Nat),16*i<=9223372036854775807->IntKind.i64.wrap (16*(i:Int))=((16*i:Nat):Int)):=by
 and_intros
 all_goals first|(intros;rw[BC (by omega) (by omega)];done)|(intros;rw[BC (by omega) (by omega)];first|rfl|omega)
theorem P6:(∀{α:Type} (a:α) (l:List α),(a::l).toArray[0]?=U a)/\(∀{α:Type} (a:α) (l:List α) (i:Nat),(a::l).toArray[i+1]?=l.toArray[i]?) /\
  (∀{α:Type} (a:α) (l:List α),(a::l)[0]?=U a)/\(∀{α:Type} (a:α) (l:List α) (i:Nat),(a::l)[i+1]?=l[i]?) /\
  (∀{α:Type} (l:List α) (i:Nat) (v:α),l.toArray.setIfInBounds i v=(l.set i v).toArray)/\(∀{α:Type} (a:α) (l:List α) (v:α),(a::l).set 0 v=v::l)/\(∀{α:Type} (a:α) (l:List α) (i:Nat) (v:α),(a::l).set (i+1) v=a::l.set i v) /\
  (∀{α:Type} (l:List α) (a b:Nat),l.toArray.extract a b=((l.drop a).take (b-a)).toArray)/\(∀{α:Type} (l:List α),l.drop 0=l)/\(∀{α:Type} (a:α) (l:List α) (i:Nat),(a::l).drop (i+1)=l.drop i) /\
  (∀{α:Type} (l:List α),l.take 0=[])/\(∀{α:Type} (a:α) (l:List α) (i:Nat),(a::l).take (i+1)=a::l.take i)/\(∀{α:Type} i,([]:List α).take i=[]) /\
  (∀{α:Type} (l:List α),l.toArray.size=l.length)/\(∀{α:Type} (a:α) (l:List α),(a::l).length=l.length+1)/\(∀{α:Type},([]:List α).length=0)/\(∀{α:Type} (l:List α),l.toArray.toList=l):=by
 and_intros
 all_goals (intros;first|rfl|(simp;done)|(simp[List.extract];done))
theorem PA:(∀{α:Type} (a:α),(a≠a)=False)/\(∀{α:Type} (a:α),(a=a)=True)/\(∀{α:Type} (a:α),(U a).isSome=true)/\(∀{α:Type},(O:Option α).isSome=false)/\(∀{α:Type} (a d:α),(U a).getD d=a)/\(∀{α:Type} (d:α),(O:Option α).getD d=d) /\
  (∀{α:Type} (h:Decidable True) (a b:α),@ite α True h a b=a)/\(∀{α:Type} (h:Decidable False) (a b:α),@ite α False h a b=b) /\
  (∀{α:Type} (p:α->Bool) a l,(a::l).all p=(p a&&l.all p))/\(∀{α:Type} (p:α->Bool),([]:List α).all p=true):=by
 and_intros
 all_goals (intros;first|rfl|(simp;done))
theorem PB:(∀{α β:Type} (f:α->β) a,Option.map f (U a)=U (f a))/\(∀{α β:Type} (f:α->β),Option.map f O=O)/\(∀{α β:Type} (f:α->Option β) a,Option.bind (U a) f=f a):=by
 and_intros
 all_goals (intros;rfl)
theorem PC:(∀l,(str l).size=l.length)/\(∀l:List UInt8,(⟨l.toArray⟩:ByteArray)=str l)/\(ByteArray.empty=str [])/\((false=true)=False) /\
  (∀h:Decidable True,@decide True h=true)/\(∀h:Decidable False,@decide False h=false)/\(∀n:Nat,(n:Int).toNat=n)/\(∀n:Nat,0+n=n)/\(∀n:Nat,n+0=n)/\(∀n:Nat,0*n=0)/\(∀n:Nat,n*1=n)/\(∀n:Nat,1*n=n) /\
  (∀p,(p/\True)=p)/\(∀p,(True/\p)=p)/\(∀p,(p/\p)=p)/\(∀p,(False\/p)=p)/\(∀p,(p\/False)=p)/\(∀p,(True\/p)=True)/\(∀p,(p\/True)=True)/\(∀p,(False/\p)=False)/\(∀p,(p/\False)=False) /\
  ((¬True)=False)/\((¬False)=True)/\((!true)=false)/\((!false)=true) /\
  (∀i n (c:Array Value) j off x,WN i n (U (.v (.agg c))) (U (.p j off)) (U (.v x))=if j=i/\x.cells.size=n/\off+n<=c.size/\x.cells.toList.all one=true then U (.v (.agg (Dy c off x.cells.toList)))else O) /\
  (∀n:Nat,(n=n)=True):=by
 and_intros
 all_goals (intros;first|rfl|(simp;done))
theorem Zr:type_of% (And.intro PS (And.intro P1 (And.intro P2 (And.intro P3 (And.intro P4 (And.intro P5 (And.intro P6 (And.intro P7 (And.intro P8 (And.intro PA (And.intro PB (And.intro PC (And.intro ZP (@ZM)))))))))))))):=And.intro PS (And.intro P1 (And.intro P2 (And.intro P3 (And.intro P4 (And.intro P5 (And.intro P6 (And.intro P7 (And.intro P8 (And.intro PA (And.intro PB (And.intro PC (And.intro ZP (@ZM)))))))))))))
theorem PL {α:Type}:(∀l m:List α,(l++m).length=l.length+m.length)/\(∀(a:α) l,(a::l).length=l.length+1)/\(([]:List α).length=0)/\(∀(l:List α) i,(l.take i).length=min i l.length)/\(∀(l:List α) i,(l.drop i).length=l.length-i):=by
 and_intros
 all_goals (intros;simp)
end
end Go.Cw
namespace Go.Cw
open Go
def Ew (h:Heap) (a:Addr) (cs:List Value):Prop:=
 a.spot=O/\∃ c t fz,h a.block=U (.cells c t fz)/\a.off+cs.length<=c.size/\∀ i,i<cs.length->c[a.off+i]?=cs[i]?
def Sl {α:Type} (enc:α->List Value) (h:Heap) (v:Value) (l:List α):Prop:=
 ∃ a cap,v=.slice a l.length cap/\l.length<=cap/\(l=[]\/∃ g,a=U g/\Ew h g (l.flatMap enc))
theorem Ew.le {h h':Heap} (hl:Heap.le h h') {a:Addr} {cs:List Value} (hr:Ew h a cs):Ew h' a cs:=by
 obtain⟨h1,c,t,fz,h2,h3,h4⟩:=hr;exact⟨h1,c,t,fz,hl _ _ h2,h3,h4⟩
theorem Sl.le {α:Type} {enc:α->List Value} {h h':Heap} (hl:Heap.le h h') {v:Value} {l:List α} (hs:Sl enc h v l):Sl enc h' v l:=by
 obtain⟨a,cap,h1,h2,h3⟩:=hs;exact⟨a,cap,h1,h2,h3.imp id λ⟨g,h4,h5⟩=>⟨g,h4,h5.le hl⟩⟩
theorem AU (a:Addr) (hs:a.spot=O) (n:Nat):a.add n=⟨a.block,a.off+n,O⟩:=by
 obtain⟨b,o,s⟩:=a;simp only at hs;subst hs;unfold Addr.add;split
 ·rename_i h0;simp[h0]
 ·rfl
theorem Ew.cell {h:Heap} {a:Addr} {cs:List Value} (hr:Ew h a cs) {i:Nat} (hi:i<cs.length):h.cell (a.add i)=U cs[i]:=by
 obtain⟨h1,c,t,fz,h2,h3,h4⟩:=hr;rw[AU a h1];simp[Heap.cell,Heap.cells,h2,h4 i hi,hi]
theorem Ew.row {h:Heap} {a:Addr} {cs:List Value} (hr:Ew h a cs) {i n:Nat} (hi:i+n<=cs.length):h.row (a.add i) n=U ((cs.drop i).take n).toArray:=by
 obtain⟨h1,c,t,fz,h2,h3,h4⟩:=hr;rw[AU a h1];have hle:a.off+i+n<=c.size:=by omega
 by_cases hn0:n=0
 ·subst hn0;simp[Heap.row]
 simp only[Heap.row,hn0,Heap.cells,h2,Zw,Ym,if_false,YE,hle,if_true,Option.some.injEq];apply Array.ext
 ·simp;omega
 ·intro j h5 h6;have hj:j<n:=by simp at h5;omega
  have h7:=h4 (i+j) (by omega);have h8:a.off+i+j<c.size:=by omega
  have h9:i+j<cs.length:=by omega
  rw[show a.off+(i+j)=a.off+i+j by omega,Array.getElem?_eq_getElem h8,Zj h9]at h7;simp only[Array.getElem_extract,List.getElem_toArray,List.getElem_take,List.getElem_drop];exact Option.some.inj h7
theorem AZ {α:Type} {enc:α->List Value} {sz:Nat} (he:∀ x,(enc x).length=sz) (l:List α):(l.flatMap enc).length=l.length*sz:=by
 induction l with
 |nil=>simp
 |cons x l ih=>simp[ih,he,Zq];omega
theorem LC {α:Type} {enc:α->List Value} {sz:Nat} (he:∀ x,(enc x).length=sz):∀ (l:List α) (i:Nat) (hi:i<l.length),((l.flatMap enc).drop (i*sz)).take sz=enc l[i]:=by
 intro l;induction l with
 |nil=>intro i hi;cases hi
 |cons x l ih=>
  intro i hi;cases i with
  |zero=>simp only[ZL,ZS,Zz,List.getElem_cons_zero];rw[<-he x,List.take_left'];rfl
  |succ i=>
   have h1:(i+1)*sz=(enc x).length+i*sz:=by rw[he x,Zq];omega
   simp only[ZL,List.getElem_cons_succ];rw[h1,<-ZA,List.drop_left']
   ·exact ih i (by simpa using hi)
   ·rfl
theorem TF {α:Type} {enc:α->List Value} {sz:Nat} (he:∀ x,(enc x).length=sz) (l:List α) (i j:Nat) (hi:i<l.length) (hj:j<sz) :
  (l.flatMap enc)[i*sz+j]?=(enc l[i])[j]?:=by
 rw[<-LC he l i hi];simp[hj]
theorem Sl.elem {α:Type} {enc:α->List Value} {sz:Nat} (he:∀ x,(enc x).length=sz) {h:Heap} {g:Addr} {l:List α} (hr:Ew h g (l.flatMap enc)) {i:Nat} (hi:i<l.length) :
  h.row (g.add (i*sz)) sz=U (enc l[i]).toArray:=by
 have hlen:=AZ he l;have:(i+1)*sz<=l.length*sz:=Zm _ hi;have h2:(i+1)*sz=i*sz+sz:=by rw[Zq];omega
 rw[hr.row (i:=i*sz) (n:=sz) (by omega),LC he l i hi]
theorem Sl.field {α:Type} {enc:α->List Value} {sz:Nat} (he:∀ x,(enc x).length=sz) {h:Heap} {g:Addr} {l:List α} (hr:Ew h g (l.flatMap enc)) {i j:Nat} (hi:i<l.length) (hj:j<sz) :
  h.cell ((g.add (i*sz)).add j)=U ((enc l[i])[j]'(by rw[he];exact hj)):=by
 have hlen:=AZ he l;have h1:(i+1)*sz<=l.length*sz:=Zm _ hi;have h2:(i+1)*sz=i*sz+sz:=by rw[Zq];omega
 have hlt:i*sz+j<(l.flatMap enc).length:=by omega
 have e:(g.add (i*sz)).add j=g.add (i*sz+j):=by
  rw[AU g hr.1,AU _ rfl,AU g hr.1];simp[Nat.add_assoc]
 rw[e,hr.cell hlt];have:=TF he l i j hi hj;rw[Zj hlt,Zj (by rw[he];exact hj)]at this;exact this
def AQ {α:Type} (enc:α->List Value) (sz:Nat) (h0 h:Heap) (v:Value) (l:List α):Prop:=
 Heap.le h0 h/\∃ a cap,v=.slice a l.length cap/\l.length<=cap/\cap<=maxLen /\
  ((a=O/\l=[]/\cap=0)\/∃ b c t,a=U ⟨b,0,O⟩/\h0 b=O/\h b=U (.cells c t (0,0))/\c.size=cap*sz/\∀ i,i<(l.flatMap enc).length->c[i]?=(l.flatMap enc)[i]?)
theorem Heap.le.refl (h:Heap):Heap.le h h:=λ_ _ h=>h
theorem Heap.le.trans {a b c:Heap} (h1:Heap.le a b) (h2:Heap.le b c):Heap.le a c:=λx o h=>h2 x o (h1 x o h)
theorem Heap.le.new {h0 h:Heap} (hl:Heap.le h0 h) {b:Nat} (hb:h b=O) (o:Obj):Heap.le h0 (h.set b o):=by
 intro x ob hx;have:=hl x ob hx;simp only[Heap.set];split
 ·rename_i e;subst e;rw[hb]at this;cases this
 ·exact this
theorem Heap.le.over {h0 h:Heap} (hl:Heap.le h0 h) {b:Nat} (hb:h0 b=O) (o:Obj):Heap.le h0 (h.set b o):=by
 intro x ob hx;have:=hl x ob hx;simp only[Heap.set];split
 ·rename_i e;subst e;rw[hb]at hx;cases hx
 ·exact this
theorem AQ.nil {α:Type} {enc:α->List Value} {sz:Nat} {h0 h:Heap} (hl:Heap.le h0 h):AQ enc sz h0 h (.slice O 0 0) ([]:List α):=
 ⟨hl,O,0,rfl,by simp,by simp[maxLen],.inl ⟨rfl,rfl,rfl⟩⟩
theorem AQ.sl {α:Type} {enc:α->List Value} {sz:Nat} (he:∀ x,(enc x).length=sz) {h0 h:Heap} {v:Value} {l:List α} (ho:AQ enc sz h0 h v l):Sl enc h v l:=by
 obtain⟨_,a,cap,h1,h2,_,h3⟩:=ho;refine⟨a,cap,h1,h2,?_⟩;rcases h3 with⟨_,h4,_⟩|⟨b,c,t,h4,_,h5,h6,h7⟩
 ·exact .inl h4
 ·refine .inr ⟨_,h4,rfl,c,t,_,h5,?_,?_⟩
  ·rw[AZ he,h6];have:=Zm sz h2;simpa using this
  ·intro i hi;simpa using h7 i hi
theorem GJ (c:Array Value):∀ (l:List Value) (off i:Nat),off+l.length<=c.size->(Dy c off l).size=c.size/\(Dy c off l)[i]?=if off<=i/\i<off+l.length then l[i-off]? else c[i]?:=by
 intro l;induction l generalizing c with
 |nil=>intro off i _;simp[Dy];omega
 |cons v l ih=>
  intro off i hle;simp only[Y5]at hle;obtain⟨h1,h2⟩:=ih (c.setIfInBounds off v) (off+1) i (by simp;omega);refine⟨by simpa[Dy]using h1,?_⟩;simp only[Dy,h2,Y5];by_cases e:i=off
  ·subst e;have hlt:i<c.size:=by omega
   have:¬ (i+1<=i/\i<i+1+l.length):=by omega
   rw[if_neg this,if_pos (by omega)];simp[hlt]
  ·by_cases hh:off+1<=i/\i<off+1+l.length
   ·rw[if_pos hh,if_pos (by omega)];have:i-off=(i-(off+1))+1:=by omega
    rw[this];simp
   ·rw[if_neg hh,if_neg (by omega)];simp[Array.getElem?_setIfInBounds,Ne.symm e]
theorem Mx {N:Num} {Γ:Ctx} {α:Type} {enc:α->List Value} {sz bytes t:Nat} (he:∀ x,(enc x).length=sz) {h0 h:Heap} {v x:Value} {l l':List α} (hone:∀ x∈l',(enc x).all one=true)
  (ho:AQ enc sz h0 h v l) (hx:BN h sz x=U (l'.length,(l'.flatMap enc).toArray)) (hlen:(l.length+l'.length)*(bytes+1)<=1073741824) {K:Value->Heap->Prop}
  (hK:∀ v' h',AQ enc sz h0 h' v' (l++l')->K v' h'):By N Γ (.app t sz bytes) [v,x] h K:=by
 obtain⟨hl,a,cap,rfl,hcap,hmax,hc⟩:=ho;have hb:(l.length+l'.length)*bytes<=1073741824:=YU (ZI _ (Nat.le_succ _)) hlen;have hn:l.length+l'.length<=1073741824:=by
  have:(l.length+l'.length)*1<=(l.length+l'.length)*(bytes+1):=ZI _ (by omega);omega
 have hall:(l'.flatMap enc).all one=true:=by
  rw[List.all_flatMap,Yc];intro y hy;exact hone y hy
 simp only[By];refine⟨l'.length,_,hx,?_⟩;have fl:=AZ he l;have fl':=AZ he l';split
 ·rename_i hfit;rcases hc with⟨rfl,rfl,rfl⟩|⟨b,c,ty,rfl,hb0,hbh,hsz,hcs⟩
  ·have:l'=[]:=by cases l'<;>simp at hfit ⊢
   subst this;exact hK _ _ ⟨hl,O,0,by simp,by simp,by simp[maxLen],.inl ⟨rfl,rfl,rfl⟩⟩
  ·simp only[ZF];have hfit':(l.length+l'.length)*sz<=cap*sz:=Zm sz hfit;rw[Zq]at hfit';have hput:∃ c',putRow h ((⟨b,0,O⟩:Addr).add (l.length*sz)) (l'.flatMap enc)=U (h.set b (.cells c' ty (0,0)))/\c'.size=c.size /\
     ∀ i,i<((l++l').flatMap enc).length->c'[i]?=((l++l').flatMap enc)[i]?:=by
    rw[AU _ rfl];refine⟨Dy c (l.length*sz) (l'.flatMap enc),?_,?_,?_⟩
    ·cases hf:l'.flatMap enc with
     |nil=>
      simp only[putRow,Dy,Option.some.injEq];funext y;simp only[Heap.set];split
      ·rename_i e;subst e;exact hbh
      ·rfl
     |cons y ys=>
      have h1:0+l.length*sz+(y::ys).length<=c.size:=by rw[<-hf,fl',hsz];omega
      have h2:(y::ys).all one=true:=by rw[<-hf];exact hall
      simp only[putRow,Zw,Ym,if_false,hbh];rw[if_pos ⟨h1,h2⟩];simp
    ·exact(GJ c _ _ 0 (by rw[fl',hsz];omega)).1
    ·intro i hi;have:=(GJ c (l'.flatMap enc) (l.length*sz) i (by rw[fl',hsz];omega)).2;rw[this];simp only[List.flatMap_append,Zk,fl,fl']at hi ⊢;by_cases hh:i<l.length*sz
     ·rw[if_neg (by omega),hcs i (by rw[fl];exact hh),Zl (by rw[fl];exact hh)]
     ·rw[if_pos (by omega),YN (by rw[fl];omega),fl]
   obtain⟨c',h1,h2,h3⟩:=hput;refine⟨_,h1,hK _ _ ⟨hl.over hb0 _,U ⟨b,0,O⟩,cap,by simp,by simpa using hfit,hmax,.inr ⟨b,c',ty,rfl,hb0,by simp[Heap.set],by rw[h2,hsz],h3⟩⟩⟩
 ·rename_i hnofit;refine⟨by simp[maxLen];omega,by omega,?_⟩;have holds:∃ olds:Array Value,BN h sz (.slice a l.length cap)=U (l.length,olds)/\olds.toList=l.flatMap enc:=by
   rcases hc with⟨rfl,rfl,rfl⟩|⟨b,c,ty,rfl,hb0,hbh,hsz,hcs⟩
   ·exact⟨#[],by simp[BN],by simp⟩
   ·by_cases hz:l.length*sz=0
    ·refine⟨#[],by simp[BN,hz],?_⟩;have:(l.flatMap enc).length=0:=by rw[fl];exact hz
     rw[Zs this]
    ·have hr:Ew h ⟨b,0,O⟩ (l.flatMap enc):=by
      refine⟨rfl,c,ty,_,hbh,?_,λi hi=>by simpa using hcs i hi⟩;rw[fl,hsz];have:=Zm sz hcap;simpa using this
     have:=hr.row (i:=0) (n:=l.length*sz) (by rw[fl];omega);refine⟨_,by simp only[BN,hz,if_false];rw[show(⟨b,0,O⟩:Addr)=(⟨b,0,O⟩:Addr).add 0 by rfl,this];rfl,?_⟩;simp only[Zz,ZF];rw[ZB (by rw[fl];exact Yq _)]
  obtain⟨olds,h1,h2⟩:=holds;refine⟨_,olds,h1,?_⟩;intro b cap' tail hbn hc1 hc2 ht;refine hK _ _ ⟨hl.new hbn _,U ⟨b,0,O⟩,cap',by simp,by simpa using hc1,hc2,.inr ⟨b,olds++(l'.flatMap enc).toArray++tail,N.tid t,rfl,?_,by simp[Heap.set],?_,?_⟩⟩
  ·cases hh:h0 b with
   |none=>rfl
   |some o=>rw[hl b o hh]at hbn;cases hbn
  ·have e1:olds.size=l.length*sz:=by rw[<-Zv,h2,fl]
   have:(l.length+l'.length)*sz<=cap'*sz:=Zm sz hc1;simp only[ZJ,List.size_toArray,e1,fl',ht,Nat.sub_mul];rw[Zq]at this ⊢;omega
  ·intro i hi;have e:(olds++(l'.flatMap enc).toArray++tail)[i]?=((l++l').flatMap enc++tail.toList)[i]?:=by
    rw[<-YR];simp[h2]
   rw[e,Zl hi]
section
variable {N:Num} {Γ:Ctx} {Q:SE->At->Heap->Prop} {env:At} {h:Heap} {K:At->Heap->Prop} {a b s:St} {i:Nat}
instance [Ak Γ] [hq:CD Q]:CD (IK N Γ b Q) where
 up:=by
  intro e env env' h hl hx;cases e with
  |normal=>exact Fo Ak.imp b (λhl hx=>CD.up hl hx) hl hx
  |exit i=>exact hq.up (e:=.exit i) hl hx
  |ret=>exact hq.up (e:=.ret) hl hx
instance [hq:CD Q]:CD (Jz i Q) where
 up:=by
  intro e env env' h hl hx;cases e with
  |normal=>exact hq.up (e:=.normal) hl hx
  |exit j=>
   simp only[Jz]at hx ⊢;split at hx
   ·rename_i hj;simp only[hj,if_true];exact hq.up hl hx
   ·rename_i hj;simp only[hj,if_false];exact hq.up hl hx
  |ret=>exact hq.up (e:=.ret) hl hx
instance {σ:Type} {E:σ->At} {I:σ->Heap->Prop} {m:σ->Nat} {n:Nat} [hq:CD Q]:CD (Kd E I m n Q) where
 up:=by
  intro e env env' h hl hx;cases e with
  |normal=>obtain⟨s,h1,h2,h3⟩:=hx;exact⟨s,h1,FU _ _ _ h2 hl,h3⟩
  |exit i=>exact hq.up (e:=.exit i) hl hx
  |ret=>exact hq.up (e:=.ret) hl hx
instance {R:At->Heap->Prop} [hq:CD Q]:CD (Gw R Q) where
 up:=by
  intro e env env' h hl hx;cases e with
  |normal=>obtain⟨s,h2,h3⟩:=hx;exact⟨s,FU _ _ _ h2 hl,h3⟩
  |exit i=>exact hq.up (e:=.exit i) hl hx
  |ret=>exact hq.up (e:=.ret) hl hx
instance {res:List Ex} {K:Value->Heap->Prop}:CD (Nx N res K) where
 up:=by
  intro e env env' h hl hx;cases e with
  |normal=>obtain⟨vs,h1,h2⟩:=hx;exact⟨vs,GR hl _ h1,h2⟩
  |exit i=>exact hx
  |ret=>obtain⟨vs,h1,h2⟩:=hx;exact⟨vs,GR hl _ h1,h2⟩
theorem An {F:SFun} {args:List Value} {K:Value->Heap->Prop} (hn:args.length=F.np) (hx:SW N Γ F.body (Nx N F.res K) (Bh F.nv args) h):SF N Γ F args h K:=⟨hn,hx⟩
theorem Ad {p:Prop} [Decidable p] (ht:p->SW N Γ a Q env h) (hf:¬p->SW N Γ b Q env h):E4 N Γ (U (.v (.bool (decide p)))) a b Q env h:=by
 by_cases h:p
 ·simp only[h,decide_true];exact ht h
 ·simp only[h,decide_false];exact hf h
theorem Tx {p:Prop} [Decidable p] (hp:p) (ht:SW N Γ a Q env h):E4 N Γ (U (.v (.bool (decide p)))) a b Q env h:=by simp only[hp,decide_true];exact ht
theorem Tz {p:Prop} [Decidable p] (hp:¬ p) (ht:SW N Γ b Q env h):E4 N Γ (U (.v (.bool (decide p)))) a b Q env h:=by simp only[hp,decide_false];exact ht
theorem Aj {σ:Type} [Ak Γ] [CD Q] (E:σ->At) (I:σ->Heap->Prop) (m:σ->Nat) (s0:σ) (he:DR (E s0) env) (h0:I s0 h)
  (hs:∀ s h,I s h->SW N Γ b (Kd E I m (m s) Q) (E s) h):SW N Γ (.loop b) Q env h:=by
 refine⟨λn env h=>∃ s,m s=n/\DR (E s) env/\I s h,m s0,⟨s0,rfl,he,h0⟩,?_⟩;rintro n env h ⟨s,rfl,he,hI⟩;refine Fo Ak.imp b (λ{x e e' h} hl hx=>?_) he (hs s h hI);cases x with
 |normal=>obtain⟨s',h1,h2,h3⟩:=hx;exact⟨m s',h1,s',rfl,FU _ _ _ h2 hl,h3⟩
 |exit i=>exact CD.up (Q:=Q) (e:=.exit i) hl hx
 |ret=>exact CD.up (Q:=Q) (e:=.ret) hl hx
theorem Ag {σ:Type} {E:σ->At} {I:σ->Heap->Prop} {m:σ->Nat} {n:Nat} (s:σ) (hm:m s<n) (he:DR (E s) env) (hI:I s h):Kd E I m n Q .normal env h:=⟨s,hm,he,hI⟩
theorem Mk [Ak Γ] [CD Q] (R:At->Heap->Prop) (hb:∀ env h,R env h->SW N Γ b Q env h) (hx:SW N Γ s (Gw R Q) env h):SW N Γ s (IK N Γ b Q) env h:=
 Fo Ak.imp s (λ{x e e' h} hl hx=>by
  cases x with
  |normal=>obtain⟨e0,h1,h2⟩:=hx;exact Fo Ak.imp b (λhl hx=>CD.up hl hx) (FU _ _ _ h1 hl) (hb e0 h h2)
  |exit i=>exact CD.up (Q:=Q) (e:=.exit i) hl hx
  |ret=>exact CD.up (Q:=Q) (e:=.ret) hl hx) (GU env) hx
theorem AA [Ak Γ] [CD Q] (R:At->Heap->Prop) (hb:∀ env h,R env h->SW N Γ b Q env h) (hx:SW N Γ s (Jz i (Gw R Q)) env h):SW N Γ s (Jz i (IK N Γ b Q)) env h:=Mk (s:=.block i s) R hb hx
theorem AT [Ak Γ] [CD Q] (R:At->Heap->Prop) {o:Option UV} {s':St} (hb:∀ env h,R env h->SW N Γ b Q env h) (hx:E4 N Γ o s s' (Gw R Q) env h) :
  E4 N Γ o s s' (IK N Γ b Q) env h:=by
 unfold E4 at hx ⊢;split at hx
 ·exact Mk R hb hx
 ·exact Mk R hb hx
 ·exact hx.elim
theorem D2 [Ak Γ] [CD Q] (R:At->Heap->Prop) {o:Option UV} {s':St} (hb:∀ env h,R env h->SW N Γ b Q env h) (hx:E4 N Γ o s s' (Jz i (Gw R Q)) env h) :
  E4 N Γ o s s' (Jz i (IK N Γ b Q)) env h:=by
 unfold E4 at hx ⊢;split at hx
 ·exact AA R hb hx
 ·exact AA R hb hx
 ·exact hx.elim
theorem Kl [Ak Γ] [CD Q] (R:At->Heap->Prop) {d:DS} {ws:List Heap} (hb:∀ env h,R env h->SW N Γ b Q env h) (hx:U2 N Γ d ws env h (J5 (Gw R Q))):U2 N Γ d ws env h (J5 (IK N Γ b Q)):=
 NF Ak.imp d (λ{e e' h} hl hx=>by
  obtain⟨e0,h1,h2⟩:=hx;exact Fo Ak.imp b (λhl hx=>CD.up hl hx) (FU _ _ _ h1 hl) (hb e0 h h2)) (GU env) hx
theorem Ar {R:At->Heap->Prop} (Bh:At) (he:DR Bh env) (hR:R Bh h):Gw R Q .normal env h:=⟨Bh,he,hR⟩
theorem Vl {fl fl':Bool} {wx wx':List Hz} {s s':Hi} {r r':DS} {ws:List Heap} (ha:Fp N Γ s env h (K1 N fl wx ws env h (Vp N Γ r K))) (hb:Fp N Γ s' env h (K1 N fl' wx' ws env h (Vp N Γ r' K))):U2 N Γ (.alt fl wx s r fl' wx' s' r') ws env h K:=⟨ha,hb⟩
theorem CX {ws:List Heap} {A:Prop} (ha:∀ x∈ws,Heap.le x h) (hb:A):Xw ws h A:=⟨ha,hb⟩
theorem Cb {l:Hz} {ls:List Hz} {ws:List Heap} {r:DS} {e0:At} {h':Heap} (ha:∀ z∈h::ws,Heap.le z h') (hb:ME N Γ r (h::ws) env h' K):K1 N true (l::ls) ws e0 h (Vp N Γ r K) env h':=⟨h,.inl rfl,λ_=>ha,hb⟩
theorem Np (x:Heap) {l:Hz} {ls:List Hz} {ws:List Heap} {r:DS} {e0:At} {h':Heap} (hx:Heap.le x h) (hc:∀ l'∈l::ls,Pp N e0 x l') (ha:∀ z∈x::ws,Heap.le z h') (hb:ME N Γ r (x::ws) env h' K):K1 N true (l::ls) ws e0 h (Vp N Γ r K) env h':=
 ⟨x,.inr ⟨hx,hc⟩,λ_=>ha,hb⟩
theorem AE {x h:Heap} (h1:Heap.le x h):∀ y∈[x],Heap.le y h:=by intro y hy;simp at hy;subst hy;exact h1
theorem GM {x y h:Heap} (h1:Heap.le x h) (h2:Heap.le y h):∀ z∈[x,y],Heap.le z h:=by
 intro z hz;simp at hz;rcases hz with rfl|rfl<;>assumption
theorem Aa {S:Spec} {k:Nat} {us:List Value} {K:Value->Heap->Prop} (hs:Sat S (Γ k)) (hx:S us h K):By N Γ (.call k) us h K:=hs _ _ _ hx
end
theorem Pe:(DR [] []=True)/\(∀e y e',DR (O::e) (y::e')=DR e e')/\(∀x e y e',DR (U x::e) (U y::e')=(x=y/\DR e e')):=⟨rfl,λ_ _ _=>rfl,λ_ _ _ _=>rfl⟩
namespace L
def v (i:Nat):Ex:=.var i
def p (i:Nat):Ex:=.pad i
def i (n:Int):Ex:=.con (.int .i64 n)
def v0:Ex:=.var 0
def v1:Ex:=.var 1
def v2:Ex:=.var 2
def v3:Ex:=.var 3
def v4:Ex:=.var 4
def v5:Ex:=.var 5
def v6:Ex:=.var 6
def v7:Ex:=.var 7
def v8:Ex:=.var 8
def v9:Ex:=.var 9
def v10:Ex:=.var 10
def v11:Ex:=.var 11
def v12:Ex:=.var 12
def v13:Ex:=.var 13
def v14:Ex:=.var 14
def v15:Ex:=.var 15
def v16:Ex:=.var 16
def v17:Ex:=.var 17
def v18:Ex:=.var 18
def v19:Ex:=.var 19
def v20:Ex:=.var 20
def v21:Ex:=.var 21
def v22:Ex:=.var 22
def v23:Ex:=.var 23
def v24:Ex:=.var 24
def v25:Ex:=.var 25
def p1:Ex:=.pad 1
def p2:Ex:=.pad 2
def p3:Ex:=.pad 3
def p4:Ex:=.pad 4
def i0:Ex:=.con (.int .i64 0)
def i1:Ex:=.con (.int .i64 1)
def i2:Ex:=.con (.int .i64 2)
def i3:Ex:=.con (.int .i64 3)
def i4:Ex:=.con (.int .i64 4)
def t:Ex:=.con (.bool true)
def z:Ex:=.con (.bool false)
def c (x:Value):Ex:=.con x
def f (k:Nat) (x:Ex):Ex:=.o1 .ld (.o1 (.fadr k) x)
def d (x:Ex):Ex:=.o1 .ld x
def a (k:Nat) (x:Ex):Ex:=.o1 (.fadr k) x
def x (k:Nat) (y:Ex):Ex:=.o1 (.ext k) y
def n (x:Ex):Ex:=.o1 .nilck x
def o (k:O1) (x:Ex):Ex:=.o1 k x
def b (k:BinOp) (x y:Ex):Ex:=.o2 (.bin k) x y
def j (k:Nat) (x y:Ex):Ex:=.o2 (.iadr k) x y
def u (k m:Nat) (x y:Ex):Ex:=.o2 (.bput k m) x y
def o2 (k:O2) (x y:Ex):Ex:=.o2 k x y
def q (x y:St):St:=.seq x y
def l (i:Nat) (e:Ex):Hz:=⟨[],i,e⟩
def s (l:List Hz):Hi:=⟨l,O⟩
def r (k:Nat) (e:Ex):St:=.reg [⟨[⟨[],k,e⟩],O⟩]
def r1 (s:Hi):St:=.reg [s]
def k (f:Nat) (args:List Ex) (d:Nat):Hi:=⟨[],U (.ef [] (.call f) args (U d))⟩
def e (f:Ef) (args:List Ex) (d:Nat):Hi:=⟨[],U (.ef [] f args (U d))⟩
def w (k:Nat) (x:Ex):Hi:=⟨[],U (.pnew k x)⟩
def h (x:Ex) (k:Nat):St:=.cond x .skip (.exit k)
def m (k:Nat) (x:St):St:=.block k (.loop x)
def y:Value:=.int .i64 0
def y0:Value:=.string .empty
def g5:Value:=.agg #[y,y,y,y,y]
def g6:Value:=.agg #[y,y,y,y,y,y]
def g22:Value:=.agg #[y,y,y,y,y,y,y,y,y,y,y,y,y,y,y,y,y,y,y,y,y,y]
end L
theorem Ze:type_of% (And.intro L.v0.eq_1 (And.intro L.v1.eq_1 (And.intro L.v2.eq_1 (And.intro L.v3.eq_1 (And.intro L.v4.eq_1 (And.intro L.v5.eq_1 (And.intro L.v6.eq_1 (And.intro L.v7.eq_1 (And.intro L.v8.eq_1 (And.intro L.v9.eq_1 (And.intro L.v10.eq_1 (And.intro L.v11.eq_1 (And.intro L.v12.eq_1 (And.intro L.v13.eq_1 (And.intro L.v14.eq_1 (And.intro L.v15.eq_1 (And.intro L.v16.eq_1 (And.intro L.v17.eq_1 (And.intro L.v18.eq_1 (And.intro L.v19.eq_1 (And.intro L.v20.eq_1 (And.intro L.v21.eq_1 (And.intro L.v22.eq_1 (And.intro L.v23.eq_1 (And.intro L.v24.eq_1 (And.intro L.v25.eq_1 (And.intro L.p1.eq_1 (And.intro L.p2.eq_1 (And.intro L.p3.eq_1 (And.intro L.p4.eq_1 (And.intro L.i0.eq_1 (And.intro L.i1.eq_1 (And.intro L.i2.eq_1 (And.intro L.i3.eq_1 (And.intro L.i4.eq_1 (And.intro L.v.eq_1 (And.intro L.p.eq_1 (And.intro L.i.eq_1 (And.intro L.t.eq_1 (And.intro L.z.eq_1 (And.intro L.c.eq_1 (And.intro L.f.eq_1 (And.intro L.d.eq_1 (And.intro L.a.eq_1 (And.intro L.x.eq_1 (And.intro L.n.eq_1 (And.intro L.o.eq_1 (And.intro L.b.eq_1 (And.intro L.j.eq_1 (And.intro L.u.eq_1 (And.intro L.o2.eq_1 (And.intro L.q.eq_1 (And.intro L.l.eq_1 (And.intro L.s.eq_1 (And.intro L.r.eq_1 (And.intro L.r1.eq_1 (And.intro L.k.eq_1 (And.intro L.e.eq_1 (And.intro L.w.eq_1 (And.intro L.h.eq_1 (And.intro L.m.eq_1 (And.intro L.y.eq_1 (And.intro L.y0.eq_1 (And.intro L.g5.eq_1 (And.intro L.g6.eq_1 (And.intro L.g22.eq_1 (And.intro Bh.eq_1 (And.intro (@Yw Value (Option Value)) (And.intro (@Yj Value (Option Value)) (And.intro (@ZR Value) (And.intro (@Y5 Value) (And.intro (@ZG (Option Value)) (And.intro (@ZH (Option Value)) (And.intro (@Y7 (Option Value)) (@YI (Option Value)))))))))))))))))))))))))))))))))))))))))))))))))))))))))))))))))))))))))))):=
 ⟨L.v0.eq_1,L.v1.eq_1,L.v2.eq_1,L.v3.eq_1,L.v4.eq_1,L.v5.eq_1,L.v6.eq_1,L.v7.eq_1,L.v8.eq_1,L.v9.eq_1,L.v10.eq_1,L.v11.eq_1,L.v12.eq_1,L.v13.eq_1,L.v14.eq_1,L.v15.eq_1,L.v16.eq_1,L.v17.eq_1,L.v18.eq_1,L.v19.eq_1,L.v20.eq_1,L.v21.eq_1,L.v22.eq_1,L.v23.eq_1,L.v24.eq_1,L.v25.eq_1,L.p1.eq_1,L.p2.eq_1,L.p3.eq_1,L.p4.eq_1,L.i0.eq_1,L.i1.eq_1,L.i2.eq_1,L.i3.eq_1,L.i4.eq_1,L.v.eq_1,L.p.eq_1,L.i.eq_1,L.t.eq_1,L.z.eq_1,L.c.eq_1,L.f.eq_1,L.d.eq_1,L.a.eq_1,L.x.eq_1,L.n.eq_1,L.o.eq_1,L.b.eq_1,L.j.eq_1,L.u.eq_1,L.o2.eq_1,L.q.eq_1,L.l.eq_1,L.s.eq_1,L.r.eq_1,L.r1.eq_1,L.k.eq_1,L.e.eq_1,L.w.eq_1,L.h.eq_1,L.m.eq_1,L.y.eq_1,L.y0.eq_1,L.g5.eq_1,L.g6.eq_1,L.g22.eq_1,Bh.eq_1,Yw,Yj,ZR,Y5,ZG,ZH,Y7,YI⟩
theorem Pf:type_of% (And.intro Pe (And.intro and_true (And.intro true_and and_self))):=⟨Pe,and_true,true_and,and_self⟩
theorem sE {A:Prop} (h:A:=by simp only[Pf]):A:=h
theorem oM {A:Prop} (h:A:=by omega):A:=h
theorem wN {z w:Int} (h1:-9223372036854775808<=z:=by omega) (h2:z<=9223372036854775807:=by omega) (h:z=w:=by omega):IntKind.i64.wrap z=w:=(BC h1 h2).trans h
theorem wS (i:Nat) (h:i<9223372036854775807:=by omega):IntKind.i64.wrap ((i:Int)+1)=((i+1:Nat):Int):=wN
theorem dM {A:Prop} (h:A:=by dsimp only;omega):A:=h
theorem Ae {A B:Prop} (b:B) (e:A=B:=by(try simp(disch:=first|omega|(simp only[PL];omega)) only[Zr,simprocAttr,-reduceIte]);exact rfl):A:=e.mpr b
theorem Ap {A B F0:Prop} (f0:F0) (b:B) (e:F0->A=B:=by intro f0;(try simp(disch:=first|omega|(simp only[PL];omega)) only[Zr,simprocAttr,-reduceIte,f0]);exact rfl):A:=(e f0).mpr b
theorem AH {A B F0 F1:Prop} (f0:F0) (f1:F1) (b:B) (e:F0->F1->A=B:=by intro f0 f1;(try simp(disch:=first|omega|(simp only[PL];omega)) only[Zr,simprocAttr,-reduceIte,f0,f1]);exact rfl):A:=(e f0 f1).mpr b
theorem CS {A B F0 F1 F2:Prop} (f0:F0) (f1:F1) (f2:F2) (b:B) (e:F0->F1->F2->A=B:=by intro f0 f1 f2;(try simp(disch:=first|omega|(simp only[PL];omega)) only[Zr,simprocAttr,-reduceIte,f0,f1,f2]);exact rfl):A:=(e f0 f1 f2).mpr b
theorem Ek {A B F0 F1 F2 F3:Prop} (f0:F0) (f1:F1) (f2:F2) (f3:F3) (b:B) (e:F0->F1->F2->F3->A=B:=by intro f0 f1 f2 f3;(try simp(disch:=first|omega|(simp only[PL];omega)) only[Zr,simprocAttr,-reduceIte,f0,f1,f2,f3]);exact rfl):A:=(e f0 f1 f2 f3).mpr b
theorem Le {A B F0 F1 F2 F3 F4:Prop} (f0:F0) (f1:F1) (f2:F2) (f3:F3) (f4:F4) (b:B) (e:F0->F1->F2->F3->F4->A=B:=by intro f0 f1 f2 f3 f4;(try simp(disch:=first|omega|(simp only[PL];omega)) only[Zr,simprocAttr,-reduceIte,f0,f1,f2,f3,f4]);exact rfl):A:=(e f0 f1 f2 f3 f4).mpr b
theorem Vc {A B F0 F1 F2 F3 F4 F5:Prop} (f0:F0) (f1:F1) (f2:F2) (f3:F3) (f4:F4) (f5:F5) (b:B) (e:F0->F1->F2->F3->F4->F5->A=B:=by intro f0 f1 f2 f3 f4 f5;(try simp(disch:=first|omega|(simp only[PL];omega)) only[Zr,simprocAttr,-reduceIte,f0,f1,f2,f3,f4,f5]);exact rfl):A:=(e f0 f1 f2 f3 f4 f5).mpr b
theorem Wx {A B F0 F1 F2 F3 F4 F5 F6:Prop} (f0:F0) (f1:F1) (f2:F2) (f3:F3) (f4:F4) (f5:F5) (f6:F6) (b:B) (e:F0->F1->F2->F3->F4->F5->F6->A=B:=by intro f0 f1 f2 f3 f4 f5 f6;(try simp(disch:=first|omega|(simp only[PL];omega)) only[Zr,simprocAttr,-reduceIte,f0,f1,f2,f3,f4,f5,f6]);exact rfl):A:=(e f0 f1 f2 f3 f4 f5 f6).mpr b
theorem Xs {A B F0 F1 F2 F3 F4 F5 F6 F7:Prop} (f0:F0) (f1:F1) (f2:F2) (f3:F3) (f4:F4) (f5:F5) (f6:F6) (f7:F7) (b:B) (e:F0->F1->F2->F3->F4->F5->F6->F7->A=B:=by intro f0 f1 f2 f3 f4 f5 f6 f7;(try simp(disch:=first|omega|(simp only[PL];omega)) only[Zr,simprocAttr,-reduceIte,f0,f1,f2,f3,f4,f5,f6,f7]);exact rfl):A:=(e f0 f1 f2 f3 f4 f5 f6 f7).mpr b
theorem XS {A B F0 F1 F2 F3 F4 F5 F6 F7 F8:Prop} (f0:F0) (f1:F1) (f2:F2) (f3:F3) (f4:F4) (f5:F5) (f6:F6) (f7:F7) (f8:F8) (b:B) (e:F0->F1->F2->F3->F4->F5->F6->F7->F8->A=B:=by intro f0 f1 f2 f3 f4 f5 f6 f7 f8;(try simp(disch:=first|omega|(simp only[PL];omega)) only[Zr,simprocAttr,-reduceIte,f0,f1,f2,f3,f4,f5,f6,f7,f8]);exact rfl):A:=(e f0 f1 f2 f3 f4 f5 f6 f7 f8).mpr b
theorem Xt {A B F0 F1 F2 F3 F4 F5 F6 F7 F8 F9 F10:Prop} (f0:F0) (f1:F1) (f2:F2) (f3:F3) (f4:F4) (f5:F5) (f6:F6) (f7:F7) (f8:F8) (f9:F9) (f10:F10) (b:B) (e:F0->F1->F2->F3->F4->F5->F6->F7->F8->F9->F10->A=B:=by intro f0 f1 f2 f3 f4 f5 f6 f7 f8 f9 f10;(try simp(disch:=first|omega|(simp only[PL];omega)) only[Zr,simprocAttr,-reduceIte,f0,f1,f2,f3,f4,f5,f6,f7,f8,f9,f10]);exact rfl):A:=(e f0 f1 f2 f3 f4 f5 f6 f7 f8 f9 f10).mpr b
end Go.Cw
namespace Go.Cw
open Go
def BF (b:UInt8):List Value:=[.int .u8 b.toNat]
theorem Ax (b:UInt8):(BF b).length=1:=rfl
theorem GT (b:UInt8):(BF b).all one=true:=rfl
theorem Xe (l:List UInt8):l.flatMap BF=l.map λb=>.int .u8 b.toNat:=by
 induction l with
 |nil=>rfl
 |cons b l ih=>simp[BF,ih]
theorem Iv (l:List UInt8):BB (l.flatMap BF)=U l:=by
 induction l with
 |nil=>rfl
 |cons b l ih=>
  show(BB (l.flatMap BF)).map (UInt8.ofNat (b.toNat:Int).toNat::·)=_;rw[ih];simp
theorem DK {g:Addr}:g.add 0=g:=rfl
theorem Sl.row {α:Type} {enc:α->List Value} {sz:Nat} (he:∀ x,(enc x).length=sz) {h:Heap} {a:Addr} {l:List α} (hr:Ew h a (l.flatMap enc)):h.row a (l.length*sz)=U (l.flatMap enc).toArray:=by
 have:=hr.row (i:=0) (n:=l.length*sz) (by rw[AZ he];omega);rw[DK]at this;rw[this,Zz,ZB (by rw[AZ he];exact Yq _)]
theorem Wp {N:Num} {env:At} {h:Heap} {v:Value} {l:List UInt8} (hs:Sl BF h v l):Bw N env h .b2s (.v v)=U (.v (.string ⟨l.toArray⟩)):=by
 obtain⟨a,cap,rfl,hcap,h1⟩:=hs;rcases h1 with rfl|⟨g,rfl,hr⟩
 ·cases a with
  |none=>rfl
  |some g=>
   simp[Bw,Heap.row,BB]
 ·have:=Sl.row Ax hr;simp only[Bw];rw[ZV]at this;rw[this];simp[Iv]
theorem Mb {h:Heap} (s:ByteArray):BN h 1 (.string s)=U (s.data.toList.length,(s.data.toList.flatMap BF).toArray):=by
 have h1:s.data.map (λb=>Value.int IntKind.u8 (b.toNat:Int))=(s.data.toList.flatMap BF).toArray:=by
  rw[Xe];apply YF.1;simp
 have h2:s.size=s.data.toList.length:=by show s.data.size=_;simp
 show U (s.size,s.data.map (λb=>Value.int IntKind.u8 (b.toNat:Int)))=_;rw[h1,h2]
theorem Jj {α:Type} {enc:α->List Value} {sz:Nat} (he:∀ x,(enc x).length=sz) {h:Heap} {v:Value} {l:List α} (hs:Sl enc h v l):BN h sz v=U (l.length,(l.flatMap enc).toArray):=by
 obtain⟨a,cap,rfl,hcap,h1⟩:=hs;have fl:=AZ he l;cases a with
 |none=>
  have:l=[]:=by rcases h1 with h1|⟨g,h1,_⟩;exact h1;cases h1
  subst this;simp[BN]
 |some g=>
  by_cases hz:l.length*sz=0
  ·have:l.flatMap enc=[]:=Zs (by rw[fl];exact hz);simp[BN,hz,this]
  ·rcases h1 with rfl|⟨g',e,hr⟩
   ·simp at hz
   ·cases e;simp only[BN,hz,if_false,Sl.row he hr,YH]
def K0 (v:Value) (n:Nat):Addr:=match v with
 |.slice (U a) _ _=>a.add n
 |_=>⟨0,0,O⟩
theorem Sl.rules {α:Type} {enc:α->List Value} (sz:Nat) (he:∀ x,(enc x).length=sz) (d:α) {h:Heap} {v:Value} {l:List α} (hs:Sl enc h v l) :
  (∀N env,Bw N env h .llen (.v v)=U (.v (.int .i64 l.length))) /\
  (∀k (n:Int),0<=n->n<(l.length:Int)->A8 h (.iadr sz) (.v v) (.v (.int k n))=U (.v (.pointer (U (K0 v (n.toNat*sz)))))) /\
  (∀i,i<l.length->h.row (K0 v (i*sz)) sz=U (enc (l.getD i d)).toArray) /\
  (∀i j,i<l.length->j<sz->h.cell ((K0 v (i*sz)).add j)=(enc (l.getD i d))[j]?) /\
  (∀i,i<l.length->0<sz->h.cell (K0 v (i*sz))=(enc (l.getD i d))[0]?)/\one v=true/\v.cells=#[v] /\
  (0<l.length->h.row (K0 v 0) sz=U (enc (l.getD 0 d)).toArray)/\(∀j,0<l.length->j<sz->h.cell ((K0 v 0).add j)=(enc (l.getD 0 d))[j]?)/\(0<l.length->0<sz->h.cell (K0 v 0)=(enc (l.getD 0 d))[0]?):=by
 obtain⟨a,cap,rfl,hcap,hr⟩:=hs;have hne:∀ i,i<l.length->∃ g,a=U g/\Ew h g (l.flatMap enc):=by
  intro i hi;exact hr.resolve_left (by intro e;rw[e]at hi;cases hi)
 have hg:∀ i (hi:i<l.length),l.getD i d=l[i]:=by intro i hi;simp[Zp,hi]
 have k3:∀ i,i<l.length->h.row (K0 (.slice a l.length cap) (i*sz)) sz=U (enc (l.getD i d)).toArray:=by
  intro i hi;obtain⟨g,rfl,hrow⟩:=hne i hi;rw[hg i hi];exact Sl.elem he hrow hi
 have k4:∀ i j,i<l.length->j<sz->h.cell ((K0 (.slice a l.length cap) (i*sz)).add j)=(enc (l.getD i d))[j]?:=by
  intro i j hi hj;obtain⟨g,rfl,hrow⟩:=hne i hi;rw[hg i hi,Zj (by rw[he];exact hj)];exact Sl.field he hrow hi hj
 have k5:∀ i,i<l.length->0<sz->h.cell (K0 (.slice a l.length cap) (i*sz))=(enc (l.getD i d))[0]?:=by
  intro i hi hj;obtain⟨g,rfl,hrow⟩:=hne i hi;rw[hg i hi,Zj (by rw[he];exact hj)];exact Sl.field he hrow hi hj
 refine⟨λ_ _=>rfl,?_,k3,k4,k5,rfl,rfl,λhi=>by simpa using k3 0 hi,λj hi hj=>by simpa using k4 0 j hi hj,λhi hj=>by simpa using k5 0 hi hj⟩;intro k n h0 h1;obtain⟨g,rfl,_⟩:=hne n.toNat oM;have hb:BA n l.length=true:=by simp[BA,h0,h1]
 simp only[A8,hb,if_true,K0]
theorem Sl.rules1 {α:Type} {enc:α->List Value} (e1:α->Value) (he:∀ x,enc x=[e1 x]) (d:α) {h:Heap} {v:Value} {l:List α} (hs:Sl enc h v l) :
  (∀N env,Bw N env h .llen (.v v)=U (.v (.int .i64 l.length))) /\
  (∀k (n:Int),0<=n->n<(l.length:Int)->A8 h (.iadr 1) (.v v) (.v (.int k n))=U (.v (.pointer (U (K0 v n.toNat))))) /\
  (∀i,i<l.length->h.cell (K0 v i)=U (e1 (l.getD i d)))/\Cw.one v=true/\v.cells=#[v]:=by
 obtain⟨h1,h2,h3,h4,h5,h6,h7,_⟩:=hs.rules 1 (λx=>by rw[he];rfl) d;refine⟨h1,λk n a b=>by have:=h2 k n a b;simpa using this,λi hi=>?_,h6,h7⟩;have:=h5 i hi oM;rw[ZV,he]at this;simpa using this
theorem Sl.one {α:Type} {enc:α->List Value} {h:Heap} {v:Value} {l:List α} (hs:Sl enc h v l):Cw.one v=true/\v.cells=#[v]:=by
 obtain⟨a,cap,rfl,hcap,hr⟩:=hs;exact⟨rfl,rfl⟩
theorem AQ.one {α:Type} {enc:α->List Value} {sz:Nat} {h0 h:Heap} {v:Value} {l:List α} (hs:AQ enc sz h0 h v l):Cw.one v=true/\v.cells=#[v]:=by
 obtain⟨_,a,cap,rfl,hcap,hr⟩:=hs;exact⟨rfl,rfl⟩
theorem Ai {α:Type} (d:α) {l:List α} {i:Nat} (hi:i<l.length):l.take (i+1)=l.take i++[l.getD i d]:=by
 rw[List.take_succ_eq_append_getElem hi];simp[Zp,hi]
theorem As {α:Type} (d:α) {l:List α} {i:Nat} (hi:i<l.length):l.getD i d∈l:=by
 simp[Zp,hi]
def DB (n:Int):List Value:=[.int .i64 n]
theorem Sl.b2s {h:Heap} {v:Value} {l:List UInt8} (hs:Sl BF h v l) (N:Num) (env:At):Bw N env h .b2s (.v v)=U (.v (.string (str l))):=Wp hs
theorem AQ.le {α:Type} {enc:α->List Value} {sz:Nat} {h0 h h':Heap} {v:Value} {l:List α} (ho:AQ enc sz h0 h v l) (hl:Heap.le h h'):AQ enc sz h0 h' v l:=by
 obtain⟨h1,a,cap,h2,h3,h4,h5⟩:=ho;refine⟨h1.trans hl,a,cap,h2,h3,h4,h5.imp id ?_⟩;rintro⟨b,c,t,a1,a2,a3,a4⟩;exact⟨b,c,t,a1,a2,hl _ _ a3,a4⟩
theorem AQ.base {α:Type} {enc:α->List Value} {sz:Nat} {h0 h1 h:Heap} {v:Value} {l:List α} (ho:AQ enc sz h1 h v l) (hl:Heap.le h0 h1):AQ enc sz h0 h v l:=by
 obtain⟨a0,a,cap,h2,h3,h4,h5⟩:=ho;refine⟨hl.trans a0,a,cap,h2,h3,h4,h5.imp id ?_⟩;rintro⟨b,c,t,a1,a2,a3,a4⟩;refine⟨b,c,t,a1,?_,a3,a4⟩;cases hh:h0 b with
 |none=>rfl
 |some o=>rw[hl b o hh]at a2;cases a2
theorem BQ {α:Type} (enc:α->List Value) (sz:Nat) (he:∀ x,(enc x).length=sz) (l:List α) {N:Num} {Γ:Ctx} {h:Heap} {t n:Nat} {c:Array Value} {K:Value->Heap->Prop} (hc:c.toList=l.flatMap enc) (hn:n=l.length) (hm:l.length<=maxLen)
  (hx:∀ v h',Heap.le h h'->AQ enc sz h h' v l->K v h'):By N Γ (.bsl t n) [.agg c] h K:=by
 subst hn;intro b hb;refine hx _ _ ((Heap.le.refl h).new hb _) ⟨(Heap.le.refl h).new hb _,_,_,rfl,Yq _,hm,.inr ⟨b,c,N.tid t,rfl,hb,by simp[Heap.set],?_,?_⟩⟩
 ·rw[<-Zv,hc,AZ he]
 ·intro i hi;rw[<-YR,hc]
theorem FO {α:Type} {enc:α->List Value} {sz:Nat} (he:∀ x,(enc x).length=sz) (hone:∀ x,(enc x).all one=true) {N:Num} {Γ:Ctx} {h0 h:Heap} {t bytes:Nat} {v x:Value} {l l':List α}
  (ho:AQ enc sz h0 h v l) (hx:Sl enc h x l') (hlen:(l.length+l'.length)*(bytes+1)<=1073741824) {K:Value->Heap->Prop}
  (hK:∀ v' h',AQ enc sz h0 h' v' (l++l')->K v' h'):By N Γ (.app t sz bytes) [v,x] h K:=
 Mx he (λx _=>hone x) ho (Jj he hx) hlen hK
theorem D7 {α:Type} {enc:α->List Value} {sz:Nat} (he:∀ x,(enc x).length=sz) {N:Num} {Γ:Ctx} {h0 h:Heap} {t bytes:Nat} {v x:Value} {l l':List α} (hone:∀ x∈l',(enc x).all one=true)
  (ho:AQ enc sz h0 h v l) (hx:Sl enc h x l') (hlen:(l.length+l'.length)*(bytes+1)<=1073741824) {K:Value->Heap->Prop}
  (hK:∀ v' h',AQ enc sz h0 h' v' (l++l')->K v' h'):By N Γ (.app t sz bytes) [v,x] h K:=
 Mx he hone ho (Jj he hx) hlen hK
theorem TA {N:Num} {Γ:Ctx} {h0 h:Heap} {t bytes:Nat} {v:Value} {l l':List UInt8}
  (ho:AQ BF 1 h0 h v l) (hlen:(l.length+l'.length)*(bytes+1)<=1073741824) {K:Value->Heap->Prop}
  (hK:∀ v' h',AQ BF 1 h0 h' v' (l++l')->K v' h'):By N Γ (.app t 1 bytes) [v,.string (str l')] h K:=
 Mx Ax (λx _=>GT x) ho (by simpa[Bz]using Mb (str l')) hlen hK
theorem Sl.nil {α:Type} {enc:α->List Value} {h:Heap} {a:Option Addr} {c:Nat}:Sl enc h (.slice a 0 c) ([]:List α):=⟨a,c,rfl,by simp,.inl rfl⟩
def Cm (N:Num) (k:Nat):Value:=if k=0 then .nilIface else .iface (N.tid 111) (.int .i64 k)
theorem AP (N:Num):Cm N 0=.nilIface:=rfl
theorem Aq (N:Num) (k:Nat):Cm N (k+1)=.iface (N.tid 111) (.int .i64 (k+1:Nat)):=rfl
theorem Ip (N:Num) {k:Nat} (h:k≠0):Cm N k=.iface (N.tid 111) (.int .i64 k):=by simp[Cm,h]
theorem Mo (N:Num):(∀k h,A8 h (.eqv .iface true) (.v (Cm N k)) (.v .nilIface)=U (.v (.bool (decide (k≠0)))))/\(∀k h,A8 h (.eqv .iface false) (.v (Cm N k)) (.v .nilIface)=U (.v (.bool (decide (k=0))))):=by
 constructor<;>(intro k h;unfold Cm;split<;>simp[A8,NB, *])
theorem Un (a b:List UInt8):(str a==str b)=decide (a=b):=by
 rw[PE];simp only[str];rw[Zu];simp
def b8 (n:Int):UInt8:=UInt8.ofNat (n%256).toNat
theorem KI (n:Int):((b8 n).toNat:Int)=n%256:=by
 have h:(n%256).toNat<256:=oM;simp only[b8,UInt8.toNat_ofNat',ZQ h];omega
theorem Uh (n:Int):IntKind.u8.wrap n=n%256:=by simp[IntKind.wrap,IntKind.bits,IntKind.signed]
theorem KE (n:Int):IntKind.u8.wrap n=((b8 n).toNat:Int):=by rw[KI,Uh]
theorem Wo (b:UInt8):b8 (b.toNat:Int)=b:=by
 apply UInt8.toNat_inj.1;have:=KI (b.toNat:Int);have h2:b.toNat<256:=b.toNat_lt;omega
end Go.Cw
namespace Go.Cw
open Go L
def F14 : SFun := ⟨2,15,(q (r 2 (c (.slice O 0 0))) (q (r 3 (c (.slice O 0 0))) (q (q (r 4 i0) (m 0 (q (q (r 8 (.pick (b .lss v4 (o .llen (f 2 (n v0)))) (b .leq v4 v1) z)) (h v8 0)) (q (.block
 1 (q (r 5 i0) (m 2 (q (q (r 9 (b .lss v5 (o .llen (d (j 1 (f 2 (n v0)) v4))))) (h v9 2)) (q (.block 3 (q (r 6 (f 3 (j 4 (d (j 1 (f 2 (n v0)) v4)) v5))) (q (r 7 i0) (q (m 4 (q (q (r
 10 (.pick (b .lss v7 (o .llen v3)) (b .lss (d (j 1 v3 v7)) v6) z)) (h v10 4)) (.block 5 (r 7 (b .add v7 i1))))) (q (q (r 11 (.pick (b .lss v7 (o .llen v3)) (b .eql (d (j 1 v3 v7))
 v6) z)) (.cond v11 (.exit 3) .skip)) (q (.reg [⟨[(l 12 v3)],U (.ef [] (.bsl 9 1) [(u 0 1 (c (.agg #[y0])) (c y0))] (U 13))⟩,(e (.app 9 1 16) [v12,v13] 14),(s [(l 3 v14)])])
 (q (.dreg (.eff false [] ⟨[],U (.ef [] (.cpy 1) [(.o3 (.lsl 1) v3 (b .add v7 i1) (o .llen v3)),(.o3 (.lsl 1) v3 v7 (o .llen v3))] O)⟩ (.done (s [])))) (r1 ⟨[],U (.ef []
 (.st 1) [(j 1 v3 v7),v6] O)⟩)))))))) (r 5 (b .add v5 i1))))))) (r 4 (b .add v4 i1)))))) (q (r 2 v3) .ret)))),[v2]⟩
def F17 : SFun := ⟨1,12,(q (.reg [(w 1 v0),(s [(l 2 i0)])]) (q (q (r 5 (.pick (b .lss (f 0 p1) i1) t (b .gtr (f 0 p1) i3))) (.cond v5 (q (r 2 i1) .ret) .skip)) (q (q (r 6 (.pick (.pick (b .neq (f 0
 p1) i1) (b .gtr (o .llen (f 1 p1)) i0) z) t (.pick (b .neq (f 0 p1) i3) (b .neq (f 2 p1) i0) z))) (.cond v6 (q (r 2 i3) .ret) .skip)) (q (q (r 7 (.pick (b .lss (f 2 p1) i0) t (b
 .gtr (f 2 p1) (i 255)))) (.cond v7 (q (r 2 i1) .ret) .skip)) (q (q (r 8 (b .gtr (o .llen (f 1 p1)) i4)) (.cond v8 (q (r 2 i2) .ret) .skip)) (q (q (r 3 i0) (m 0 (q (q (r 9 (b .lss
 v3 (o .llen (f 1 p1)))) (h v9 0)) (q (.block 1 (q (.reg [⟨[(l 10 (o (.ldn 4) (j 4 (f 1 p1) v3)))],U (.pnew 4 (c (.agg #[y,y,y,y0])))⟩,⟨[],U (.pst 4 (.upd (.cnt 4) 4 4 p4
 v10))⟩]) (q (r 11 (.pick (.pick (.pick (.pick (.pick (.pick (b .lss (f 0 p4) i0) t (b .gtr (f 0 p4) i3)) t (b .lss (f 1 p4) i0)) t (b .gtr (f 1 p4) (i 255))) t (b .lss (f 2 p4)
 i0)) t (b .gtr (f 2 p4) (i 255))) t (b .neq (o .slen (f 3 p4)) (i 8)))) (.cond v11 (q (r 2 i1) .ret) .skip)))) (r 3 (b .add v3 i1)))))) (q (r 2 i0) .ret))))))),[v2]⟩
def F18 : SFun := ⟨1,29,(q (.reg [(w 1 v0),(s [(l 2 (c y0)),(l 3 (c .nilIface))])]) (q (.reg [(k 20 [(o (.ldn 3) p1)] 8),(s [(l 4 v8)])]) (q (q (r 9 (o2 (.eqv .iface true) v4 (c .nilIface))) (.cond
 v9 (q (r1 (s [(l 2 (c y0)),(l 3 v4)])) .ret) .skip)) (q (r 5 (c (.slice O 0 0))) (q (q (r 10 (f 0 p1)) (.block 0 (q (r 11 (b .eql v10 i1)) (.cond v11 (q (r1 (s [(l 12 (f 1
 p1)),(l 13 (o .llen (f 1 p1))),(l 14 i0)])) (m 1 (q (r 15 (b .lss v14 v13)) (q (h v15 1) (q (.block 2 (q (.reg [⟨[(l 16 (o (.ldn 4) (j 4 v12 v14)))],U (.pnew 6 (c (.agg
 #[y,y,y,y0])))⟩,⟨[],U (.pst 6 (.upd (.cnt 6) 6 4 (p 6) v16))⟩]) (q (.reg [⟨[(l 17 v5)],U (.ef [] (.bsl 5 3) [(u 2 1 (u 1 1 (u 0 1 (c (.agg #[(.int .u8 0),(.int .u8 0),(.int
 .u8 0)])) (o (.conv .u8) (f 0 (p 6)))) (o (.conv .u8) (f 1 (p 6)))) (o (.conv .u8) (f 2 (p 6))))] (U 18))⟩,(e (.app 5 1 1) [v17,v18] 19),(s [(l 5 v19)])]) (.reg [(e (.app 5 1 1)
 [v5,(f 3 (p 6))] 20),(s [(l 5 v20)])])))) (r 14 (b .add v14 i1))))))) (q (r 21 (b .eql v10 i3)) (.cond v21 (.reg [⟨[(l 22 v5)],U (.ef [] (.bsl 5 1) [(u 0 1 (c (.agg #[(.int .u8
 0)])) (o (.conv .u8) (f 2 p1)))] (U 23))⟩,(e (.app 5 1 1) [v22,v23] 24),(s [(l 5 v24)])]) .skip)))))) (q (.reg [(e (.bsl 5 3) [(u 2 1 (u 1 1 (u 0 1 (c (.agg #[(.int .u8 0),(.int
 .u8 0),(.int .u8 0)])) (c (.int .u8 165))) (o (.conv .u8) (o .llen v5))) (o (.conv .u8) (f 0 p1)))] 25),(s [(l 7 (b .add (o .b2s v25) (o .b2s v5)))])]) (q (.reg [⟨[(l 26 v7)],U
 (.ef [] (.call 56) [v7] (U 27))⟩,(e (.bsl 5 1) [(u 0 1 (c (.agg #[(.int .u8 0)])) (v 27))] 28),(s [(l 2 (b .add (v 26) (o .b2s (v 28)))),(l 3 (c .nilIface))])])
 .ret))))))),[v2,v3]⟩
def F19 : SFun := ⟨2,6,(q (r 2 z) (q (q (r 5 (o2 (.eqv .iface false) v0 (c .nilIface))) (.cond v5 (q (r 2 (b .eql v1 i0)) .ret) .skip)) (q (r1 (s [(l 3 (x 0 (o (.tas 111 y) v0))),(l 4 (x 1 (o (.tas
 111 y) v0)))])) (q (r 2 (.pick (.pick v4 (b .gtr v1 i0) z) (b .eql v3 v1) z)) .ret)))),[v2]⟩
def F20 : SFun := ⟨1,14,(q (.reg [(w 1 v0),(s [(l 2 (c .nilIface))])]) (q (q (r 4 (.pick (b .lss (f 0 p1) i1) t (b .gtr (f 0 p1) i3))) (.cond v4 (q (r 2 (o (.iface 111) i1)) .ret) .skip)) (q (q (r 5
 (.pick (.pick (b .neq (f 0 p1) i1) (b .gtr (o .llen (f 1 p1)) i0) z) t (.pick (b .neq (f 0 p1) i3) (b .neq (f 2 p1) i0) z))) (.cond v5 (q (r 2 (o (.iface 111) i3)) .ret) .skip)) (q
 (q (r 6 (.pick (b .lss (f 2 p1) i0) t (b .gtr (f 2 p1) (i 255)))) (.cond v6 (q (r 2 (o (.iface 111) i1)) .ret) .skip)) (q (q (r 7 (b .gtr (o .llen (f 1 p1)) i4)) (.cond v7 (q (r 2
 (o (.iface 111) i2)) .ret) .skip)) (q (q (r1 (s [(l 8 (f 1 p1)),(l 9 (o .llen (f 1 p1))),(l 10 i0)])) (m 0 (q (r 11 (b .lss v10 v9)) (q (h v11 0) (q (.block 1 (q (.reg [⟨[(l 12 (o
 (.ldn 4) (j 4 v8 v10)))],U (.pnew 3 (c (.agg #[y,y,y,y0])))⟩,⟨[],U (.pst 3 (.upd (.cnt 3) 3 4 p3 v12))⟩]) (q (r 13 (.pick (.pick (.pick (.pick (.pick (.pick (b .lss (f 0 p3)
 i0) t (b .geq (f 0 p3) i4)) t (b .lss (f 1 p3) i0)) t (b .gtr (f 1 p3) (i 255))) t (b .lss (f 2 p3) i0)) t (b .gtr (f 2 p3) (i 255))) t (b .neq (o .slen (f 3 p3)) (i 8)))) (.cond
 v13 (q (r 2 (o (.iface 111) i1)) .ret) .skip)))) (r 10 (b .add v10 i1))))))) (q (r 2 (c .nilIface)) .ret))))))),[v2]⟩
def F22 : SFun := ⟨1,19,(q (.reg [(w 1 v0),(s [(l 2 (c y0))])]) (q (r 3 (c y0)) (q (q (r 4 i0) (m 0 (q (q (r 9 (b .lss v4 (o .llen (f 1 p1)))) (h v9 0)) (q (.block 1 (q (.reg [⟨[(l 10 (o (.ldn 4) (j
 4 (f 1 p1) v4)))],U (.pnew 5 (c (.agg #[y,y,y,y0])))⟩,⟨[],U (.pst 5 (.upd (.cnt 5) 5 4 (p 5) v10))⟩]) (.reg [⟨[(l 11 v3)],U (.ef [] (.bsl 5 3) [(u 2 1 (u 1 1 (u 0 1 (c
 (.agg #[(.int .u8 0),(.int .u8 0),(.int .u8 0)])) (o (.conv .u8) (f 0 (p 5)))) (o (.conv .u8) (f 1 (p 5)))) (o (.conv .u8) (f 2 (p 5))))] (U 12))⟩,(s [(l 3 (b .add (b .add v11
 (o .b2s v12)) (f 3 (p 5))))])]))) (r 4 (b .add v4 i1)))))) (q (q (r 13 (b .eql (f 0 p1) i3)) (.cond v13 (.reg [(e (.bsl 5 1) [(u 0 1 (c (.agg #[(.int .u8 0)])) (o (.conv .u8) (f 2
 p1)))] 14),(s [(l 3 (o .b2s v14))])]) .skip)) (q (.reg [(e (.bsl 5 3) [(u 2 1 (u 1 1 (u 0 1 (c (.agg #[(.int .u8 0),(.int .u8 0),(.int .u8 0)])) (c (.int .u8 165))) (o (.conv .u8)
 (o .slen v3))) (o (.conv .u8) (f 0 p1)))] 15),(s [(l 6 (b .add (o .b2s v15) v3))])]) (q (r 7 i0) (q (q (r 8 i0) (m 2 (q (q (r 16 (b .lss v8 (o .slen v6))) (h v16 2)) (q (.block 3
 (r 7 (b .add v7 (o (.conv .i64) (o2 .sidx v6 v8))))) (r 8 (b .add v8 i1)))))) (q (.reg [⟨[(l 17 v6)],U (.ef [] (.bsl 5 1) [(u 0 1 (c (.agg #[(.int .u8 0)])) (o (.conv .u8) (b
 .sub (i 255) (b .rem v7 (i 256)))))] (U 18))⟩,(s [(l 2 (b .add v17 (o .b2s v18)))])]) .ret)))))))),[v2]⟩
def F24 : SFun := ⟨2,17,(q (r 2 (c (.slice O 0 0))) (q (r 3 (c (.slice O 0 0))) (q (r 1 (b .add (f 0 (n v0)) v1)) (q (m 0 (q (q (r 7 (b .neq v1 (c y0))) (h v7 0)) (.block 1 (q (.reg [(k 57
 [v1] 8),⟨[(l 9 (x 0 v8)),(l 10 (x 1 v8)),(l 11 (x 2 v8))],U (.pnew 4 (c (.agg #[y,(.slice O 0 0),y])))⟩,⟨[],U (.pst 4 (.upd (.cnt 4) 4 3 p4 v9))⟩,(s [(l 5 v10),(l 6
 v11)])]) (q (q (r 12 v6) (.cond v12 (.exit 0) .skip)) (q (q (r 13 (b .eql v5 i0)) (.cond v13 (q (r1 ⟨[],U (.ef [] (.st 1) [(a 1 (n v0)),(b .add (f 1 (n v0)) i1)] O)⟩) (q (r 1
 (.o3 .ssl v1 i1 (o .slen v1))) (.exit 1))) .skip)) (q (.reg [⟨[(l 14 v3)],U (.ef [] (.bsl 38 1) [(u 0 3 (c (.agg #[y,(.slice O 0 0),y])) (o (.ldn 3) p4))] (U 15))⟩,(e
 (.app 38 3 40) [v14,v15] 16),(s [(l 3 v16)])]) (r 1 (.o3 .ssl v1 v5 (o .slen v1)))))))))) (q (r1 ⟨[],U (.ef [] (.st 1) [(a 0 (n v0)),v1] O)⟩) (q (r 2 v3) .ret)))))),[v2]⟩
def F25 : SFun := ⟨2,17,(q (r 2 (c (.slice O 0 0))) (q (r 3 (c (.slice O 0 0))) (q (r 1 (b .add (f 0 (n v0)) v1)) (q (m 0 (q (q (r 7 (b .gtr (o .slen v1) i0)) (h v7 0)) (.block 1 (q (.reg [(k
 58 [v1] 8),⟨[(l 9 (x 0 v8)),(l 10 (x 1 v8))],U (.pnew 4 (c (.agg #[y,(.slice O 0 0),y])))⟩,⟨[],U (.pst 4 (.upd (.cnt 4) 4 3 p4 v9))⟩,(s [(l 5 v10)])]) (q (q (r 11 (b .gtr
 v5 i0)) (.cond v11 (q (.reg [⟨[(l 12 v3)],U (.ef [] (.bsl 38 1) [(u 0 3 (c (.agg #[y,(.slice O 0 0),y])) (o (.ldn 3) p4))] (U 13))⟩,(e (.app 38 3 40) [v12,v13] 14),(s [(l
 3 v14)])]) (q (r 1 (.o3 .ssl v1 v5 (o .slen v1))) (.exit 1))) .skip)) (q (.reg [(k 59 [v1] 15),(s [(l 6 v15)])]) (q (q (r 16 v6) (.cond v16 (.exit 0) .skip)) (q (r1 ⟨[],U (.ef
 [] (.st 1) [(a 1 (n v0)),(b .add (f 1 (n v0)) i1)] O)⟩) (r 1 (.o3 .ssl v1 i1 (o .slen v1))))))))))) (q (r1 ⟨[],U (.ef [] (.st 1) [(a 0 (n v0)),v1] O)⟩) (q (r 2 v3)
 .ret)))))),[v2]⟩
def F26:SFun:=⟨1,2,(q (r 1 i0) (q (r 1 (f 1 (n v0))) .ret)),[v1]⟩
def F28 : SFun := ⟨2,9,(q (r1 (s [(l 2 (c (.pointer O))),(l 3 (c .nilIface))])) (q (q (r 4 (.pick (.pick (.pick (b .lss v0 i1) t (b .gtr v0 (i 8))) t (b .lss v1 i1)) t (b .gtr v1 v0))) (.cond v4
 (q (r1 (s [(l 2 (c (.pointer O))),(l 3 (o (.iface 111) i1))])) .ret) .skip)) (q (.reg [⟨[(l 5 v0),(l 6 v1)],U (.ef [] .mnew [] (U 7))⟩,(e (.new 121) [(u 3 1 (u 1 1 (u 0 1
 (c (.agg #[y,y,(.slice O 0 0),(.map O)])) v5) v6) v7)] 8),(s [(l 2 v8),(l 3 (c .nilIface))])]) .ret))),[v2,v3]⟩
def F29 : SFun := ⟨2,45,(q (r 2 (c .nilIface)) (q (.reg [(e .mnew [] 8),(s [(l 3 v8)])]) (q (q (r1 (s [(l 9 v1),(l 10 (o .llen v1)),(l 11 i0)])) (m 0 (q (r 12 (b .lss v11 v10)) (q (h v12 0) (q
 (.block 1 (q (.reg [⟨[(l 13 (o (.ldn 4) (j 4 v9 v11)))],U (.pnew 4 (c (.agg #[y,y,y,y0])))⟩,⟨[],U (.pst 4 (.upd (.cnt 4) 4 4 p4 v13))⟩]) (q (q (r 14 (.pick (.pick (.pick (b
 .lss (f 0 p4) i0) t (b .geq (f 0 p4) (i 8))) t (b .lss (f 1 p4) i0)) t (b .gtr (f 1 p4) (i 255)))) (.cond v14 (q (r 2 (o (.iface 111) i1)) .ret) .skip)) (q (q (r 15 (o2 (.eqv .map
 false) (o2 (.lkp .str (.map O)) v3 (f 3 p4)) (c (.map O)))) (.cond v15 (.reg [⟨[(l 16 v3),(l 17 (f 3 p4))],U (.ef [] .mnew [] (U 18))⟩,⟨[],U (.ef [] (.mupd .str)
 [v16,v17,v18] O)⟩]) .skip)) (r1 ⟨[],U (.ef [] (.mupd .int) [(o2 (.lkp .str (.map O)) v3 (f 3 p4)),(f 0 p4),(b .add (o2 (.lkp .int y) (o2 (.lkp .str (.map O)) v3 (f 3
 p4)) (f 0 p4)) (f 1 p4))] O)⟩))))) (r 11 (b .add v11 i1))))))) (q (.reg [⟨[(l 19 v0),(l 20 (f 2 (n v0)))],U (.ef [] (.bsl 122 1) [(u 0 1 (c (.agg #[(.map O)])) v3)] (U
 21))⟩,(e (.app 122 1 8) [v20,v21] 22),⟨[],U (.ef [] (.st 1) [(a 2 (n v19)),v22] O)⟩]) (q (q (r1 (e .rng [v3] 23)) (m 2 (q (.reg [(e .nxt [v23] 24),(s [(l 25 (x 0 v24))])]) (q
 (h v25 2) (.block 3 (q (.reg [(e .ent [v23] 26),(s [(l 5 (x 0 (v 26)))])]) (q (r 27 (o2 (.eqv .slice false) (o2 (.lkp .str (.slice O 0 0)) (f 3 (n v0)) v5) (c (.slice O 0
 0)))) (.cond (v 27) (.reg [⟨[(l 28 (f 3 (n v0))),(l 29 v5)],U (.ef [] (.bsl 3 0) [(c (.agg #[]))] (U 30))⟩,⟨[],U (.ef [] (.mupd .str) [(v 28),(v 29),(v 30)] O)⟩])
 .skip)))))))) (q (q (r1 (e .rng [(f 3 (n v0))] 31)) (m 4 (q (.reg [(e .nxt [(v 31)] 32),(s [(l 33 (x 0 (v 32)))])]) (q (h (v 33) 4) (.block 5 (q (.reg [(e .ent [(v 31)] 34),(s [(l
 6 (x 0 (v 34))),(l 7 (x 1 (v 34)))])]) (q (m 6 (q (q (r 35 (b .lss (o .llen v7) (b .sub (o .llen (f 2 (n v0))) i1))) (h (v 35) 6)) (.block 7 (.reg [⟨[(l 36 v7)],U (.ef [] (.bsl
 3 1) [(u 0 1 (c (.agg #[y])) (i (-1)))] (U 37))⟩,(e (.app 3 1 8) [(v 36),(v 37)] 38),(s [(l 7 (v 38))])])))) (.dreg (.eff true [(l 0 (f 3 (n v0)))] ⟨[(l 39 (f 3 (n v0))),(l 40
 v6),(l 41 v7)],U (.ef [] (.call 60) [v0,v6] (U 42))⟩ (.eff true [] (e (.bsl 3 1) [(u 0 1 (c (.agg #[y])) (v 42))] 43) (.eff true [] (e (.app 3 1 8) [(v 41),(v 43)] 44) (.eff
 false [] ⟨[],U (.ef [] (.mupd .str) [(v 39),(v 40),(v 44)] O)⟩ (.done (s [])))))))))))))) (q (r 2 (c .nilIface)) .ret))))))),[v2]⟩
def F30 : SFun := ⟨3,9,(q (r1 (s [(l 3 i0),(l 4 (c .nilIface))])) (q (q (r 7 (.pick (b .lss v2 i0) t (b .geq v2 (o .llen (f 2 (n v0)))))) (.cond v7 (q (r1 (s [(l 3 i0),(l 4 (o (.iface 111) i1))]))
 .ret) .skip)) (q (r1 (s [(l 5 (x 0 (o2 (.lkpo .str (.slice O 0 0)) (f 3 (n v0)) v1))),(l 6 (x 1 (o2 (.lkpo .str (.slice O 0 0)) (f 3 (n v0)) v1)))])) (q (q (r 8 (o .not v6))
 (.cond v8 (q (r1 (s [(l 3 i0),(l 4 (o (.iface 111) (i 5)))])) .ret) .skip)) (q (r1 (s [(l 3 (d (j 1 v5 v2))),(l 4 (c .nilIface))])) .ret))))),[v3,v4]⟩
def F31:SFun:=⟨1,2,(q (r 1 i0) (q (r 1 (o .llen (f 2 (n v0)))) .ret)),[v1]⟩
def F33 : SFun := ⟨2,9,(q (r1 (s [(l 2 (c (.pointer O))),(l 3 (c .nilIface))])) (q (q (r 4 (.pick (.pick (.pick (b .lss v0 i1) t (b .gtr v0 (i 50))) t (b .lss v1 i0)) t (b .gtr v1 (i 50))))
 (.cond v4 (q (r1 (s [(l 2 (c (.pointer O))),(l 3 (o (.iface 111) i1))])) .ret) .skip)) (q (.reg [⟨[(l 5 v0),(l 6 v1)],U (.ef [] .mnew [] (U 7))⟩,(e (.new 129) [(u 4 1 (u 1
 1 (u 0 1 (c (.agg #[y,y,y,y,(.map O)])) v5) v6) v7)] 8),(s [(l 2 v8),(l 3 (c .nilIface))])]) .ret))),[v2,v3]⟩
def F34 : SFun := ⟨2,12,(q (r1 (s [(l 2 (c (.slice O 0 0))),(l 3 (c .nilIface))])) (q (q (r 6 (.pick (b .lss v1 i0) t (b .gtr v1 (b .sub (i 1000) (f 2 (n v0)))))) (.cond v6 (q (r1 (s [(l 2 (c
 (.slice O 0 0))),(l 3 (o (.iface 111) i1))])) .ret) .skip)) (q (r1 ⟨[],U (.ef [] (.st 1) [(a 2 (n v0)),(b .add (f 2 (n v0)) v1)] O)⟩) (q (r 4 (c (.slice O 0 0))) (q (m
 0 (q (q (.dreg (.done (s [(l 7 (b .leq (b .add (b .mul (b .add (f 3 (n v0)) i1) (f 0 (n v0))) (f 1 (n v0))) (f 2 (n v0))))]))) (h v7 0)) (.block 1 (q (.dreg (.eff true [(l 0 (f 4
 (n v0))),(l 0 (f 3 (n v0))),(l 0 (o2 (.lkp .int (.slice O 0 0)) (f 4 (n v0)) (f 3 (n v0))))] ⟨[(l 8 (o2 (.lkp .int (.slice O 0 0)) (f 4 (n v0)) (f 3 (n v0))))],U (.ef []
 (.new 64) [(c (.slice O 0 0))] (U 5))⟩ (.eff false [] ⟨[],U (.ef [] (.st 1) [v5,v8] O)⟩ (.done (s []))))) (q (.dreg (.eff false [] ⟨[],U (.ef [] (.mdel .int) [(f 4
 (n v0)),(f 3 (n v0))] O)⟩ (.done (s [])))) (q (r1 ⟨[],U (.ef [] (.call 61) [(o (.iface 64) (d v5)),(o2 .capp (.mkf 62) v5)] O)⟩) (q (.dreg (.eff false [] ⟨[(l 9 v4)],U
 (.ef [] (.bsl 101 1) [(u 0 2 (c (.agg #[y,(.slice O 0 0)])) (u 1 1 (u 0 1 (c (.agg #[y,(.slice O 0 0)])) (f 3 (n v0))) (d v5)))] (U 10))⟩ (.eff false [] (e (.app 101 2 32)
 [v9,v10] 11) (.done (s [(l 4 v11)]))))) (r1 ⟨[],U (.ef [] (.st 1) [(a 3 (n v0)),(b .add (f 3 (n v0)) i1)] O)⟩)))))))) (q (r1 (s [(l 2 v4),(l 3 (c .nilIface))]))
 .ret)))))),[v2,v3]⟩
def F35 : SFun := ⟨2,17,(q (r1 (s [(l 2 (c (.slice O 0 0))),(l 3 i0)])) (q (q (r 7 (.pick (b .lss v1 i0) t (b .gtr v1 (b .sub (i 1000) (f 2 (n v0)))))) (.cond v7 (q (r1 (s [(l 2 (c (.slice O 0
 0))),(l 3 i1)])) .ret) .skip)) (q (.reg [(k 41 [v0] 8),(s [(l 4 v8)])]) (q (r1 ⟨[],U (.ef [] (.st 1) [(a 2 (n v0)),(b .add (f 2 (n v0)) v1)] O)⟩) (q (r 5 (c (.slice O 0
 0))) (q (q (r 6 v4) (m 0 (q (q (.reg [⟨[(l 9 v6)],U (.ef [] (.call 41) [v0] (U 10))⟩,(s [(l 11 (b .lss v9 v10))])]) (h v11 0)) (q (.block 1 (.reg [⟨[(l 12 v5),(l 13 v6)],U
 (.ef [] (.call 64) [v0,v6] (U 14))⟩,(e (.bsl 101 1) [(u 0 2 (c (.agg #[y,(.slice O 0 0)])) (u 1 1 (u 0 1 (c (.agg #[y,(.slice O 0 0)])) v13) v14))] 15),(e (.app 101 2 32)
 [v12,v15] 16),(s [(l 5 v16)])])) (r 6 (b .add v6 i1)))))) (q (r1 (s [(l 2 v5),(l 3 i0)])) .ret))))))),[v2,v3]⟩
def F37 : SFun := ⟨2,12,(q (.reg [(w 2 v1),(s [(l 3 (c .nilIface))])]) (q (q (.dreg (.done (s [(l 5 (.pick (.pick (.pick (.pick (.pick (.pick (b .lss (f 0 p2) i0) t (b .geq (f 0 p2) (i 8))) t (b
 .lss (f 1 p2) i0)) t (b .gtr (f 1 p2) (i 255))) t (b .lss (f 2 p2) i0)) t (b .gtr (f 2 p2) (f 2 (n v0)))) t (b .neq (o .slen (f 3 p2)) (i 8))))]))) (.cond v5 (q (r 3 (o (.iface
 111) i1)) .ret) .skip)) (q (.dreg (.done (s [(l 4 (b .quo (f 2 p2) (f 0 (n v0))))]))) (q (q (r 6 (b .lss v4 (f 3 (n v0)))) (.cond v6 (q (r 3 (o (.iface 111) (i 6))) .ret) .skip))
 (q (.dreg (.eff true [(l 0 (f 4 (n v0))),(l 0 (f 4 (n v0))),(l 0 (o2 (.lkp .int (.slice O 0 0)) (f 4 (n v0)) v4))] ⟨[(l 7 (f 4 (n v0))),(l 8 v4),(l 9 (o2 (.lkp .int (.slice O
 0 0)) (f 4 (n v0)) v4))],U (.ef [] (.bsl 66 1) [(u 0 4 (c (.agg #[y,y,y,y0])) (o (.ldn 4) p2))] (U 10))⟩ (.eff true [] (e (.app 66 4 40) [v9,v10] 11) (.eff false [] ⟨[],U
 (.ef [] (.mupd .int) [v7,v8,v11] O)⟩ (.done (s [])))))) (q (r 3 (c .nilIface)) .ret)))))),[v3]⟩
def F38 : SFun := ⟨2,12,(q (.reg [(w 2 v1),(s [(l 3 i0)])]) (q (q (.dreg (.done (s [(l 4 (.pick (.pick (.pick (.pick (.pick (.pick (b .lss (f 0 p2) i0) t (b .gtr (f 0 p2) (i 7))) t (b .lss (f 1 p2)
 i0)) t (b .gtr (f 1 p2) (i 255))) t (b .lss (f 2 p2) i0)) t (b .gtr (f 2 p2) (f 2 (n v0)))) t (b .neq (o .slen (f 3 p2)) (i 8))))]))) (.cond v4 (q (r 3 i1) .ret) .skip)) (q (q
 (.dreg (.eff true [(l 0 (f 2 p2)),(l 0 (f 0 (n v0)))] ⟨[(l 5 (b .quo (f 2 p2) (f 0 (n v0))))],U (.ef [] (.call 41) [v0] (U 6))⟩ (.done (s [(l 7 (b .lss v5 v6))])))) (.cond v7
 (q (r 3 (i 6)) .ret) .skip)) (q (.dreg (.eff true [(l 0 (f 3 (n v0)))] ⟨[(l 8 v0),(l 9 (f 3 (n v0)))],U (.ef [] (.bsl 135 1) [(u 0 5 (c (.agg #[y,y,y,y0,y])) (u 4 1 (u 0 4 (c
 (.agg #[y,y,y,y0,y])) (o (.ldn 4) p2)) (b .quo (f 2 p2) (f 0 (n v0)))))] (U 10))⟩ (.eff false [] (e (.app 135 5 48) [v9,v10] 11) (.eff false [] ⟨[],U (.ef [] (.st 1) [(a 3 (n
 v8)),v11] O)⟩ (.done (s [])))))) (q (r 3 i0) .ret))))),[v3]⟩
def F39:SFun:=⟨1,2,(q (r 1 i0) (q (r 1 (f 2 (n v0))) .ret)),[v1]⟩
def F41 : SFun := ⟨1,4,(q (r 1 i0) (q (r 2 i0) (q (m 0 (q (q (.dreg (.done (s [(l 3 (b .leq (b .add (b .mul (b .add v2 i1) (f 0 (n v0))) (f 1 (n v0))) (f 2 (n v0))))]))) (h v3 0)) (.block 1 (r 2 (b
 .add v2 i1))))) (q (r 1 v2) .ret)))),[v1]⟩
def F44 : SFun := ⟨3,7,(q (r1 (s [(l 3 (c (.pointer O))),(l 4 (c .nilIface))])) (q (q (r 5 (.pick (.pick (.pick (.pick (o2 (.eqv .ptr false) v0 (c (.pointer O))) t (b .lss v1 i1)) t (b .gtr v1
 (i 8))) t (b .lss v2 i1)) t (b .gtr v2 v1))) (.cond v5 (q (r1 (s [(l 3 (c (.pointer O))),(l 4 (o (.iface 111) i1))])) .ret) .skip)) (q (.reg [(e (.new 141) [(u 2 1 (u 1 1 (u 0 1
 (c (.agg #[y,y,(.pointer O),(.slice O 0 0)])) v1) v2) v0)] 6),(s [(l 3 v6),(l 4 (c .nilIface))])]) .ret))),[v3,v4]⟩
def F45 : SFun := ⟨2,13,(q (r 2 i0) (q (q (r 3 i0) (m 0 (q (q (r 4 (b .lss v3 (o .llen v1))) (h v4 0)) (q (.block 1 (q (r 5 (.pick (.pick (.pick (b .lss (f 0 (j 4 v1 v3)) i0) t (b .gtr (f 0 (j 4 v1
 v3)) (i 7))) t (b .lss (f 1 (j 4 v1 v3)) i0)) t (b .gtr (f 1 (j 4 v1 v3)) (i 255)))) (.cond v5 (q (r 2 i1) .ret) .skip))) (r 3 (b .add v3 i1)))))) (q (.dreg (.eff true [(l 0 (f 2
 (n v0)))] ⟨[(l 6 v0),(l 7 (f 2 (n v0)))],U (.ef [] (.app 66 4 40) [(c (.slice O 0 0)),v1] (U 8))⟩ (.eff true [] (e (.bsl 64 1) [(u 0 1 (c (.agg #[(.slice O 0 0)])) v8)]
 9) (.eff false [] (e (.app 64 1 24) [v7,v9] 10) (.eff false [] ⟨[],U (.ef [] (.st 1) [(a 2 (n v6)),v10] O)⟩ (.done (s []))))))) (q (.reg [⟨[(l 11 v0)],U (.ef [] .mnew []
 (U 12))⟩,⟨[],U (.ef [] (.st 1) [(a 3 (n v11)),v12] O)⟩]) (q (r 2 i0) .ret))))),[v2]⟩
def F46 : SFun := ⟨1,42,(q (r 1 z) (q (r 2 (o .llen (f 3 (n v0)))) (q (q (.reg [⟨[(l 12 v2)],U (.ef [] (.call 31) [(f 2 (n v0))] (U 13))⟩,(s [(l 14 (b .geq v12 v13))])]) (.cond v14 (q (r 1 z)
 .ret) .skip)) (q (r1 (e (.new 29) [(c (.slice O 0 0))] 3)) (q (q (r1 (k 54 [(f 2 (n v0))] 15)) (.block 0 (.rfn 71 3 15 16 (r 4 v16) (.block 1 (q (.reg [(k 66 [v4] 17),(s [(l 18
 (b .gtr v17 i0))])]) (.cond v18 (.reg [⟨[(l 19 (d v3))],U (.ef [] (.bsl 9 1) [(u 0 1 (c (.agg #[y0])) v4)] (U 20))⟩,(e (.app 9 1 16) [v19,v20] 21),⟨[],U (.ef [] (.st 1)
 [v3,v21] O)⟩]) .skip)))))) (q (r1 ⟨[],U (.ef [] (.call 67) [(d v3)] O)⟩) (q (.reg [(e .mnew [] 22),(s [(l 5 v22)])]) (q (q (r1 (s [(l 23 (d v3)),(l 24 (o .llen (d v3))),(l
 25 i0)])) (m 2 (q (r 26 (b .lss v25 v24)) (q (h (v 26) 2) (q (.block 3 (q (r 6 (d (j 1 v23 v25))) (q (r 7 (c y0)) (q (q (r 27 (b .gtr v2 i0)) (.cond (v 27) (r 7 (o2 (.lkp .str y0)
 (d (j 1 (f 3 (n v0)) (b .sub v2 i1))) v6)) .skip)) (q (.dreg (.done (s [(l 8 (c y0)),(l 9 (b .sub (f 1 (n v0)) i1))]))) (q (q (r1 (s [(l 28 (d v3)),(l 29 (o .llen (d v3))),(l 30
 i0)])) (m 4 (q (r 31 (b .lss (v 30) (v 29))) (q (h (v 31) 4) (q (.block 5 (q (r 10 (d (j 1 (v 28) (v 30)))) (q (q (.reg [(k 66 [v10] 32),(k 66 [v6] 33),(s [(l 34 (b .leq (v 32) (v
 33)))])]) (.cond (v 34) (.exit 5) .skip)) (q (.reg [(k 68 [v0,v6,v10,v2] 35),(s [(l 11 (v 35))])]) (q (r 36 (.pick (b .gtr v11 v9) t (.pick (.pick (b .eql v11 v9) (b .geq v11 (f 1
 (n v0))) z) (b .eql v10 v7) z))) (.cond (v 36) (r1 (s [(l 8 v10),(l 9 v11)])) .skip)))))) (r 30 (b .add (v 30) i1))))))) (q (r 37 (b .neq v8 (c y0))) (.cond (v 37) (r1 ⟨[],U
 (.ef [] (.mupd .str) [v5,v6,v8] O)⟩) .skip)))))))) (r 25 (b .add v25 i1))))))) (q (.reg [⟨[(l 38 v0),(l 39 (f 3 (n v0)))],U (.ef [] (.bsl 143 1) [(u 0 1 (c (.agg #[(.map
 O)])) v5)] (U 40))⟩,(e (.app 143 1 8) [(v 39),(v 40)] 41),⟨[],U (.ef [] (.st 1) [(a 3 (n (v 38))),(v 41)] O)⟩]) (q (r 1 t) .ret)))))))))),[v1]⟩
def F48 : SFun := ⟨5,14,(q (r 5 (c (.slice O 0 0))) (q (r 6 (c (.slice O 0 0))) (q (r 7 (c y0)) (q (q (r 8 i0) (m 0 (q (q (r 9 (b .lss v8 v2)) (h v9 0)) (q (.block 1 (q (.reg [(k 69
 [v0,v1,v8,v3,v4,v7] 10),(s [(l 7 v10)])]) (.reg [⟨[(l 11 v6)],U (.ef [] (.bsl 9 1) [(u 0 1 (c (.agg #[y0])) v7)] (U 12))⟩,(e (.app 9 1 16) [v11,v12] 13),(s [(l 6 v13)])])))
 (r 8 (b .add v8 i1)))))) (q (r 5 v6) .ret))))),[v5]⟩
def F49 : SFun := ⟨3,6,(q (r1 (s [(l 3 (c y0)),(l 4 (c .nilIface))])) (q (q (r 5 (.pick (b .lss v2 i0) t (b .geq v2 (o .llen (f 3 (n v0)))))) (.cond v5 (q (r1 (s [(l 3 (c y0)),(l 4 (o (.iface 111)
 i1))])) .ret) .skip)) (q (r1 (s [(l 3 (o2 (.lkp .str y0) (d (j 1 (f 3 (n v0)) v2)) v1)),(l 4 (c .nilIface))])) .ret))),[v3,v4]⟩
def F50 : SFun := ⟨4,13,(q (r 4 z) (q (.reg [(k 30 [v0,v1,v3] 8),(s [(l 5 (x 0 v8)),(l 6 (x 1 v8))])]) (q (q (r 9 (.pick (.pick (o2 (.eqv .iface true) v6 (c .nilIface)) t (b .lss v2 i0)) t (b .neq
 v5 v2))) (.cond v9 (q (r 4 z) .ret) .skip)) (q (q (r 10 (b .eql v3 i0)) (.cond v10 (q (r 4 t) .ret) .skip)) (q (.reg [(k 30 [v0,v1,(b .sub v3 i1)] 11),(s [(l 7 (x 0 v11)),(l 12 (x
 1 v11))])]) (q (r 4 (b .neq v7 v2)) .ret)))))),[v4]⟩
def F51 : SFun := ⟨2,7,(q (r 2 (c (.pointer O))) (q (.reg [⟨[(l 3 v0),(l 4 v1)],U (.ef [] .mnew [] (U 5))⟩,(e (.new 33) [(u 3 1 (u 1 1 (u 0 1 (c (.agg #[y,y,(.slice O 0 0),(.map O)]))
 v3) v4) v5)] 6),(s [(l 2 v6)])]) .ret)),[v2]⟩
def F52 : SFun := ⟨3,10,(q (r1 (s [(l 3 i0),(l 4 i0)])) (q (q (r 6 (.pick (b .lss v2 i0) t (b .geq v2 (o .llen (f 2 (n v0)))))) (.cond v6 (q (r1 (s [(l 3 i0),(l 4 i1)])) .ret) .skip)) (q (.reg [(k
 55 [v0,v1,(o .llen (f 2 (n v0)))] 7),(s [(l 5 v7)])]) (q (q (r 8 (o .not v5)) (.cond v8 (q (r1 (s [(l 3 i0),(l 4 (i 5))])) .ret) .skip)) (q (.reg [(k 70 [v0,v1,v2] 9),(s [(l 3
 v9),(l 4 i0)])]) .ret))))),[v3,v4]⟩
def F53 : SFun := ⟨4,11,(q (r 4 z) (q (.reg [(k 52 [v0,v1,v3] 7),(s [(l 5 (x 0 v7)),(l 6 (x 1 v7))])]) (q (q (r 8 (.pick (.pick (b .gtr v6 i0) t (b .lss v2 i0)) t (b .neq v5 v2))) (.cond v8 (q (r 4
 z) .ret) .skip)) (q (.reg [⟨[(l 9 (b .eql v3 i0))],U (.ef [((b .eql v3 i0),false)] (.call 70) [v0,v1,(b .sub v3 i1)] (U 10))⟩,(s [(l 4 (.pick v9 t (b .neq v10 v2)))])])
 .ret)))),[v4]⟩
def F54:SFun:=⟨1,3,(q (.reg [(e (.new 25) [v0] 1),(s [(l 2 (c .nilFunc))])]) (q (r 2 (o2 .capp (.mkf 71) v1)) .ret)),[v2]⟩
def F55 : SFun := ⟨3,9,(q (r 3 z) (q (q (r 4 i0) (m 0 (q (q (r 6 (.pick (b .lss v4 (o .llen (f 2 (n v0)))) (b .leq v4 v2) z)) (h v6 0)) (q (.block 1 (q (r 5 i0) (m 2 (q (q (r 7 (b .lss v5 (o .llen
 (d (j 1 (f 2 (n v0)) v4))))) (h v7 2)) (q (.block 3 (q (r 8 (b .eql (f 3 (j 4 (d (j 1 (f 2 (n v0)) v4)) v5)) v1)) (.cond v8 (q (r 3 t) .ret) .skip))) (r 5 (b .add v5 i1))))))) (r 4
 (b .add v4 i1)))))) (q (r 3 z) .ret))),[v3]⟩
def F56 : SFun := ⟨1,7,(q (r 1 (c (.int .u8 0))) (q (r 2 (c (.int .u8 0))) (q (q (r1 (s [(l 4 (o .slen v0)),(l 5 i0)])) (m 0 (q (r 6 (b .lss v5 v4)) (q (h v6 0) (q (.block 1 (q (r 3 v5) (r 2 (b .add
 v2 (o2 .sidx v0 v3))))) (r 5 (b .add v5 i1))))))) (q (r 1 (o .inv v2)) .ret)))),[v1]⟩
def F57 : SFun := ⟨1,16,(q (.reg [(w 1 (c (.agg #[y,(.slice O 0 0),y]))),(s [(l 2 i0),(l 3 z)])]) (q (q (r 5 (b .neq (o2 .sidx v0 i0) (c (.int .u8 165)))) (.cond v5 (q (.reg [⟨[],U (.pst 1
 (.upd (.cnt 1) 1 3 p1 (c (.agg #[y,(.slice O 0 0),y]))))⟩,(s [(l 2 i0),(l 3 z)])]) .ret) .skip)) (q (q (r 6 (b .lss (o .slen v0) i2)) (.cond v6 (q (.reg [⟨[],U (.pst 1 (.upd
 (.cnt 1) 1 3 p1 (c (.agg #[y,(.slice O 0 0),y]))))⟩,(s [(l 2 i0),(l 3 t)])]) .ret) .skip)) (q (r 2 (b .add i4 (o (.conv .i64) (o2 .sidx v0 i1)))) (q (q (r 7 (b .gtr v2 (i 48)))
 (.cond v7 (q (.reg [⟨[],U (.pst 1 (.upd (.cnt 1) 1 3 p1 (c (.agg #[y,(.slice O 0 0),y]))))⟩,(s [(l 2 i0),(l 3 z)])]) .ret) .skip)) (q (q (r 8 (b .lss (o .slen v0) v2)) (.cond
 v8 (q (.reg [⟨[],U (.pst 1 (.upd (.cnt 1) 1 3 p1 (c (.agg #[y,(.slice O 0 0),y]))))⟩,(s [(l 2 i0),(l 3 t)])]) .ret) .skip)) (q (q (.dreg (.eff false [] ⟨[(l 10 (o2 .sidx v0
 (b .sub v2 i1)))],U (.ef [] (.call 56) [(.o3 .ssl v0 i0 (b .sub v2 i1))] (U 9))⟩ (.done (s [(l 11 (b .neq v9 v10))])))) (.cond v11 (q (.reg [⟨[],U (.pst 1 (.upd (.cnt 1) 1
 3 p1 (c (.agg #[y,(.slice O 0 0),y]))))⟩,(s [(l 2 i0),(l 3 z)])]) .ret) .skip)) (q (.dreg (.eff false [] (k 72 [(o (.conv .i64) (o2 .sidx v0 i2)),(.o3 .ssl v0 i3 (b .sub v2
 i1))] 12) (.eff false [] ⟨[(l 13 (x 1 v12))],U (.pst 1 (.upd (.cnt 1) 1 3 p1 (x 0 v12)))⟩ (.done (s [(l 4 v13)]))))) (q (q (r 14 (o .not v4)) (.cond v14 (r 2 i0) .skip)) (q
 (.reg [⟨[(l 15 v2)],U (.pst 1 (.upd (.cnt 1) 1 3 p1 (o (.ldn 3) p1)))⟩,(s [(l 2 v15),(l 3 z)])]) .ret)))))))))),[(o (.ldn 3) p1),v2,v3]⟩
def F58 : SFun := ⟨1,21,(q (.reg [(w 1 (c (.agg #[y,(.slice O 0 0),y]))),(s [(l 2 i0)])]) (q (q (r 7 (.pick (.pick (.pick (b .lss (o .slen v0) i4) t (b .neq (o2 .sidx v0 i0) (c (.int .u8 165))))
 t (b .gtr (o2 .sidx v0 i1) (c (.int .u8 44)))) t (b .lss (o .slen v0) (b .add i4 (o (.conv .i64) (o2 .sidx v0 i1)))))) (.cond v7 (q (.reg [⟨[],U (.pst 1 (.upd (.cnt 1) 1 3 p1 (c
 (.agg #[y,(.slice O 0 0),y]))))⟩,(s [(l 2 i0)])]) .ret) .skip)) (q (r 3 (o (.conv .i64) (o2 .sidx v0 i1))) (q (.reg [⟨[(l 8 (u 0 1 (c (.agg #[y,(.slice O 0 0),y])) (o (.conv
 .i64) (o2 .sidx v0 i2))))],U (.pnew 4 (c (.agg #[y,(.slice O 0 0),y])))⟩,⟨[],U (.pst 4 (.upd (.cnt 4) 4 3 p4 v8))⟩]) (q (r 5 (.o3 .ssl v0 i3 (b .add i3 v3))) (q (q (r 9 (b
 .eql (f 0 p4) i1)) (.cond v9 (q (r 6 i0) (m 0 (q (q (r 10 (b .leq (b .add v6 (i 11)) v3)) (h v10 0)) (q (.block 1 (.dreg (.eff true [(l 0 (f 1 p4))] ⟨[(l 11 (f 1 p4))],U (.ef []
 (.bsl 40 1) [(u 0 4 (c (.agg #[y,y,y,y0])) (u 3 1 (u 2 1 (u 1 1 (u 0 1 (c (.agg #[y,y,y,y0])) (o (.conv .i64) (o2 .sidx v5 v6))) (o (.conv .i64) (o2 .sidx v5 (b .add v6 i1)))) (o
 (.conv .i64) (o2 .sidx v5 (b .add v6 i2)))) (.o3 .ssl v5 (b .add v6 i3) (b .add v6 (i 11)))))] (U 12))⟩ (.eff false [] (e (.app 40 4 40) [v11,v12] 13) (.eff false [] ⟨[],U
 (.pst 4 (.upd (.cnt 4) 4 1 (a 1 p4) v13))⟩ (.done (s []))))))) (r 6 (b .add v6 (i 11))))))) .skip)) (q (q (r 14 (.pick (b .eql (f 0 p4) i3) (b .eql v3 i1) z)) (.cond v14 (r1
 ⟨[],U (.pst 4 (.upd (.cnt 4) 4 1 (a 2 p4) (o (.conv .i64) (o2 .sidx v5 i0))))⟩) .skip)) (q (q (.dreg (.eff false [] (k 17 [(o (.ldn 3) p4)] 15) (.eff false [] ⟨[(l 16 (b .gtr
 v15 i0)),⟨[((b .gtr v15 i0),false)],18,(.o3 .ssl v0 i0 (b .add i4 v3))⟩],U (.ef [((b .gtr v15 i0),false)] (.call 22) [(o (.ldn 3) p4)] (U 17))⟩ (.done (s [(l 19 (.pick v16 t
 (b .neq v17 v18)))]))))) (.cond v19 (q (.reg [⟨[],U (.pst 1 (.upd (.cnt 1) 1 3 p1 (c (.agg #[y,(.slice O 0 0),y]))))⟩,(s [(l 2 i0)])]) .ret) .skip)) (q (.reg [⟨[(l 20 (b .add
 i4 v3))],U (.pst 1 (.upd (.cnt 1) 1 3 p1 (o (.ldn 3) p4)))⟩,(s [(l 2 v20)])]) .ret))))))))),[(o (.ldn 3) p1),v2]⟩
def F59 : SFun := ⟨1,3,(q (r 1 z) (q (q (r 2 (b .eql (o .slen v0) i1)) (.cond v2 (q (r 1 (b .eql (o2 .sidx v0 i0) (c (.int .u8 165)))) .ret) .skip)) (q (r 1 (.pick (.pick (b .eql (o2 .sidx v0 i0) (c
 (.int .u8 165))) (b .leq (o2 .sidx v0 i1) (c (.int .u8 44))) z) (b .lss (o .slen v0) (b .add i4 (o (.conv .i64) (o2 .sidx v0 i1)))) z)) .ret))),[v1]⟩
def F60 : SFun := ⟨2,25,(q (r 2 i0) (q (.reg [(e (.new 149) [(c (.agg #[y,y,y,y,y,y,y,y]))] 3),(e (.new 149) [(c (.agg #[y,y,y,y,y,y,y,y]))] 4)]) (q (r 5 (o .llen (f 2 (n v0)))) (q (q (.dreg (.done
 (s [(l 12 (.o3 (.lsl 1) (f 2 (n v0)) (o2 .max i0 (b .sub v5 (f 0 (n v0)))) (o .llen (f 2 (n v0))))),(l 13 (o .llen (.o3 (.lsl 1) (f 2 (n v0)) (o2 .max i0 (b .sub v5 (f 0 (n v0))))
 (o .llen (f 2 (n v0)))))),(l 14 i0)]))) (m 0 (q (r 15 (b .lss v14 v13)) (q (h v15 0) (q (.block 1 (q (r 6 (d (j 1 v12 v14))) (q (r1 (e .rng [(o2 (.lkp .str (.map O)) v6 v1)]
 16)) (m 2 (q (.reg [(e .nxt [v16] 17),(s [(l 18 (x 0 v17))])]) (q (h v18 2) (.block 3 (q (.reg [(e .ent [v16] 19),(s [(l 7 (x 0 v19)),(l 8 (x 1 v19))])]) (q (r1 ⟨[],U (.ef []
 (.st 1) [(o2 (.aadr 8 1) v3 v7),(b .add (d (o2 (.aadr 8 1) v3 v7)) i1)] O)⟩) (r1 ⟨[],U (.ef [] (.st 1) [(o2 (.aadr 8 1) v4 v7),(b .add (d (o2 (.aadr 8 1) v4 v7)) v8)]
 O)⟩)))))))))) (r 14 (b .add v14 i1))))))) (q (r 9 (i (-1))) (q (q (r1 (s [(l 20 (o (.ldn 8) v3)),(l 21 i0)])) (m 4 (q (r 22 (b .lss v21 (i 8))) (q (h v22 4) (q (.block 5 (q (r1
 (s [(l 10 v21),(l 11 (o2 (.vidx 8) v20 v21))])) (q (q (r 23 (b .lss v11 (f 1 (n v0)))) (.cond v23 (.exit 5) .skip)) (q (.dreg (.done (s [(l 24 (.pick (.pick (b .lss v9 i0) t (b
 .gtr v11 (d (o2 (.aadr 8 1) v3 v9)))) t (.pick (b .eql v11 (d (o2 (.aadr 8 1) v3 v9))) (b .gtr (d (o2 (.aadr 8 1) v4 v10)) (d (o2 (.aadr 8 1) v4 v9))) z)))]))) (.cond v24 (r 9 v10)
 .skip))))) (r 21 (b .add v21 i1))))))) (q (r 2 v9) .ret))))))),[v2]⟩
def F62:SFun:=⟨3,5,(q (r 3 z) (q (.dreg (.eff false [] (k 63 [(o (.ldn 4) (j 4 (d v2) v0)),(o (.ldn 4) (j 4 (d v2) v1))] 4) (.done (s [(l 3 v4)])))) .ret)),[v3]⟩
def F63 : SFun := ⟨2,8,(q (.reg [(w 2 v0),(w 3 v1),(s [(l 4 z)])]) (q (.block 0 (q (r 5 (b .neq (f 3 p2) (f 3 p3))) (.cond v5 (q (r 4 (b .lss (f 3 p2) (f 3 p3))) .ret) (q (r 6 (b .neq (f 2 p2) (f 2
 p3))) (.cond v6 (q (r 4 (b .lss (f 2 p2) (f 2 p3))) .ret) (q (r 7 (b .neq (f 0 p2) (f 0 p3))) (.cond v7 (q (r 4 (b .lss (f 0 p2) (f 0 p3))) .ret) .skip))))))) (q (r 4 (b .lss (f 1
 p2) (f 1 p3))) .ret))),[v4]⟩
def F64 : SFun := ⟨2,16,(q (r 2 (c (.slice O 0 0))) (q (r 3 (c (.slice O 0 0))) (q (q (r 4 i0) (m 0 (q (q (r 7 (b .lss v4 (o .llen (f 3 (n v0))))) (h v7 0)) (q (.block 1 (q (q (r 8 (b .neq (f
 4 (j 5 (f 3 (n v0)) v4)) v1)) (.cond v8 (.exit 1) .skip)) (q (.reg [⟨[(l 9 (o (.ldn 4) (a 0 (j 5 (f 3 (n v0)) v4))))],U (.pnew 5 (c (.agg #[y,y,y,y0])))⟩,⟨[],U (.pst 5 (.upd
 (.cnt 5) 5 4 (p 5) v9))⟩]) (q (r 6 (o .llen v3)) (q (.reg [⟨[(l 10 v3)],U (.ef [] (.bsl 66 1) [(u 0 4 (c (.agg #[y,y,y,y0])) (o (.ldn 4) (p 5)))] (U 11))⟩,(e (.app 66 4 40)
 [v10,v11] 12),(s [(l 3 v12)])]) (q (m 2 (q (q (.dreg (.eff false [] ⟨[(l 13 (b .gtr v6 i0))],U (.ef [((b .gtr v6 i0),true)] (.call 78) [(o (.ldn 4) (p 5)),(o (.ldn 4) (j 4 v3 (b
 .sub v6 i1)))] (U 14))⟩ (.done (s [(l 15 (.pick v13 v14 z))])))) (h v15 2)) (.block 3 (q (r1 ⟨[],U (.ef [] (.st 4) [(j 4 v3 v6),(o (.ldn 4) (j 4 v3 (b .sub v6 i1)))] O)⟩)
 (r 6 (b .sub v6 i1)))))) (r1 ⟨[],U (.ef [] (.st 4) [(j 4 v3 v6),(o (.ldn 4) (p 5))] O)⟩))))))) (r 4 (b .add v4 i1)))))) (q (r 2 v3) .ret)))),[v2]⟩
def F65 : SFun := ⟨1,24,(q (.reg [(w 1 v0),(s [(l 2 (c y0))])]) (q (.reg [(k 79 [(f 2 p1)] 9),⟨[(l 10 (x 0 v9)),(l 11 (x 1 v9))],U (.ef [] (.new 162) [(c (.agg #[y,y,y,y]))] (U 3))⟩,⟨[],U
 (.ef [] (.st 4) [v3,v10] O)⟩,(s [])]) (q (.reg [(k 80 [(c (.slice O 0 0)),(b .add (i 47) (f 0 p1)),(i 8)] 12),(s [(l 4 v12)])]) (q (.reg [(k 80 [v4,(f 1 p1),i3] 13),(s [(l 4
 v13)])]) (q (.reg [(k 80 [v4,(f 2 p1),i3] 14),(s [(l 4 v14)])]) (q (.reg [(k 80 [v4,(f 3 p1),(d (o2 (.aadr 4 1) v3 i0))] 15),(s [(l 4 v15)])]) (q (.reg [(k 80 [v4,(f 4 p1),(d (o2
 (.aadr 4 1) v3 i2))] 16),(s [(l 4 v16)])]) (q (.reg [(k 80 [v4,(f 5 p1),(i 24)] 17),(s [(l 4 v17)])]) (q (r 5 (c (.slice O 0 0))) (q (q (r 6 i0) (m 0 (q (q (r 18 (b .lss v6 (i
 8))) (h v18 0)) (q (.block 1 (q (r 7 i0) (q (q (r 8 i0) (m 2 (q (q (r 19 (b .lss v8 (i 8))) (h v19 2)) (q (.block 3 (q (r 7 (b .mul i2 v7)) (q (r 20 (d (j 1 v4 (b .add (b .mul (i
 8) v6) v8)))) (.cond v20 (r 7 (b .add v7 i1)) .skip)))) (r 8 (b .add v8 i1)))))) (.reg [⟨[(l 21 v5)],U (.ef [] (.bsl 5 1) [(u 0 1 (c (.agg #[(.int .u8 0)])) (o (.conv .u8) v7))]
 (U 22))⟩,(e (.app 5 1 1) [v21,v22] 23),(s [(l 5 v23)])])))) (r 6 (b .add v6 i1)))))) (q (r 2 (o .b2s v5)) .ret))))))))))),[v2]⟩
def F66 : SFun := ⟨1,8,(q (r 1 i0) (q (.reg [(k 81 [v0] 4),⟨[(l 5 (x 0 v4)),(l 6 (x 1 v4))],U (.pnew 2 (c g6))⟩,⟨[],U (.pst 2 (.upd (.cnt 2) 2 6 p2 v5))⟩,(s [(l 3 v6)])]) (q (q (r 7 (o2 (.eqv
 .iface true) v3 (c .nilIface))) (.cond v7 (q (r 1 i0) .ret) .skip)) (q (r 1 (f 0 p2)) .ret)))),[v1]⟩
def F68 : SFun := ⟨4,15,(q (r 4 i0) (q (r 5 i0) (q (q (r 6 (o2 .max i0 (b .add (b .sub v3 (f 0 (n v0))) i1))) (m 0 (q (q (r 11 (b .leq v6 v3)) (h v11 0)) (q (.block 1 (q (.reg [(k 30 [(f 2 (n
 v0)),v1,v6] 12),(s [(l 7 (x 0 v12)),(l 8 (x 1 v12))])]) (q (.reg [(k 30 [(f 2 (n v0)),v2,v6] 13),(s [(l 9 (x 0 v13)),(l 10 (x 1 v13))])]) (q (r 14 (.pick (.pick (.pick (o2 (.eqv
 .iface false) v8 (c .nilIface)) (o2 (.eqv .iface false) v10 (c .nilIface)) z) (b .geq v7 i0) z) (b .eql v7 v9) z)) (.cond v14 (r 5 (b .add v5 i1)) .skip))))) (r 6 (b .add v6
 i1)))))) (q (r 4 v5) .ret)))),[v4]⟩
def F69 : SFun := ⟨6,29,(q (r 6 (c y0)) (q (.reg [(k 14 [v0,(o .llen (f 2 (n v0)))] 12),(s [(l 7 v12)])]) (q (r 8 i0) (q (q (r 9 i0) (m 0 (q (q (r 13 (b .lss v9 (o .llen v7))) (h v13 0)) (q (.block
 1 (q (.reg [(k 83 [v1] 14),⟨[(l 15 (b .gtr v14 i0))],U (.ef [((b .gtr v14 i0),true)] (.call 83) [(d (j 1 v7 v9))] (U 16))⟩,⟨[],U (.ef [(v15,true)] (.call 83) [v1] (U
 17))⟩,(s [(l 18 (.pick v15 (b .gtr v16 v17) z))])]) (.cond v18 (.reg [⟨[(l 19 v8)],U (.ef [] (.call 84) [v0,v1,(d (j 1 v7 v9)),v2,v3] (U 20))⟩,(s [(l 8 (o2 .max v19 v20))])])
 .skip))) (r 9 (b .add v9 i1)))))) (q (r 10 (c y0)) (q (q (r 11 i0) (m 2 (q (q (r 21 (.pick (b .lss v11 (o .llen v7)) (b .geq v8 v4) z)) (h v21 2)) (q (.block 3 (q (.reg [(k 83 [(d
 (j 1 v7 v11))] 22),(k 83 [v1] 23),⟨[(l 24 (b .gtr v22 v23))],U (.ef [((b .gtr v22 v23),true)] (.call 84) [v0,v1,(d (j 1 v7 v11)),v2,v3] (U 25))⟩,(s [(l 26 (.pick v24 (b .eql
 v25 v8) z))])]) (.cond (v 26) (q (q (r 27 (b .eql (d (j 1 v7 v11)) v5)) (.cond (v 27) (q (r 6 v5) .ret) .skip)) (q (r 28 (b .eql v10 (c y0))) (.cond (v 28) (r 10 (d (j 1 v7 v11)))
 .skip))) .skip))) (r 11 (b .add v11 i1)))))) (q (r 6 v10) .ret))))))),[v6]⟩
def F70 : SFun := ⟨3,11,(q (r 3 i0) (q (.reg [⟨[(l 7 (b .add v1 (c (.string ⟨#[64]⟩))))],U (.ef [] (.call 85) [v2] (U 8))⟩,(s [(l 4 (b .add v7 v8))])]) (q (r1 (s [(l 5 (x 0 (o2 (.lkpo .str y)
 (f 3 (n v0)) v4))),(l 6 (x 1 (o2 (.lkpo .str y) (f 3 (n v0)) v4)))])) (q (q (r 9 (o .not v6)) (.cond v9 (q (.reg [(k 86 [v0,v1,v2] 10),(s [(l 5 v10)])]) (r1 ⟨[],U (.ef [] (.mupd
 .str) [(f 3 (n v0)),v4,v5] O)⟩)) .skip)) (q (r 3 v5) .ret))))),[v3]⟩
def F72 : SFun := ⟨2,14,(q (.reg [(w 2 (c (.agg #[y,(.slice O 0 0),y]))),(s [(l 3 z)])]) (q (.reg [⟨[(l 5 (u 0 1 (c (.agg #[y,(.slice O 0 0),y])) v0))],U (.pnew 4 (c (.agg #[y,(.slice O
 0 0),y])))⟩,⟨[],U (.pst 4 (.upd (.cnt 4) 4 3 p4 v5))⟩]) (q (.block 0 (q (r 6 (.pick (.pick (b .eql v0 i1) (b .eql (b .rem (o .slen v1) (i 11)) i0) z) (b .leq (o .slen v1) (i
 44)) z)) (.cond v6 (m 1 (q (q (r 7 (b .neq v1 (c y0))) (h v7 1)) (q (.block 2 (q (q (r 8 (b .geq (o2 .sidx v1 i0) (c (.int .u8 4)))) (.cond v8 (q (.reg [⟨[],U (.pst 2 (.upd
 (.cnt 2) 2 3 p2 (c (.agg #[y,(.slice O 0 0),y]))))⟩,(s [(l 3 z)])]) .ret) .skip)) (.dreg (.eff true [(l 0 (f 1 p4))] ⟨[(l 9 (f 1 p4))],U (.ef [] (.bsl 40 1) [(u 0 4 (c (.agg
 #[y,y,y,y0])) (u 3 1 (u 2 1 (u 1 1 (u 0 1 (c (.agg #[y,y,y,y0])) (o (.conv .i64) (o2 .sidx v1 i0))) (o (.conv .i64) (o2 .sidx v1 i1))) (o (.conv .i64) (o2 .sidx v1 i2))) (.o3 .ssl
 v1 i3 (i 11))))] (U 10))⟩ (.eff false [] (e (.app 40 4 40) [v9,v10] 11) (.eff false [] ⟨[],U (.pst 4 (.upd (.cnt 4) 4 1 (a 1 p4) v11))⟩ (.done (s [])))))))) (r 1 (.o3 .ssl v1
 (i 11) (o .slen v1)))))) (q (r 12 (.pick (b .eql v0 i2) (b .eql v1 (c y0)) z)) (.cond v12 .skip (q (r 13 (.pick (b .eql v0 i3) (b .eql (o .slen v1) i1) z)) (.cond v13 (r1 ⟨[],U
 (.pst 4 (.upd (.cnt 4) 4 1 (a 2 p4) (o (.conv .i64) (o2 .sidx v1 i0))))⟩) (q (.reg [⟨[],U (.pst 2 (.upd (.cnt 2) 2 3 p2 (c (.agg #[y,(.slice O 0 0),y]))))⟩,(s [(l 3 z)])])
 .ret)))))))) (q (.reg [⟨[],U (.pst 2 (.upd (.cnt 2) 2 3 p2 (o (.ldn 3) p4)))⟩,(s [(l 3 t)])]) .ret)))),[(o (.ldn 3) p2),v3]⟩
def F77 : SFun := ⟨4,29,(q (r1 (w 4 v0)) (q (r 5 t) (q (r 6 t) (m 0 (.block 1 (q (r 7 (b .sub v2 v1)) (q (q (r 16 (b .leq v7 (i 12))) (.cond v16 (q (r1 ⟨[],U (.ef [] (.call 98) [(o (.ldn 2)
 p4),v1,v2] O)⟩) .ret) .skip)) (q (q (r 17 (b .eql v3 i0)) (.cond v17 (q (r1 ⟨[],U (.ef [] (.call 99) [(o (.ldn 2) p4),v1,v2] O)⟩) .ret) .skip)) (q (q (r 18 (o .not v5))
 (.cond v18 (q (r1 ⟨[],U (.ef [] (.call 100) [(o (.ldn 2) p4),v1,v2] O)⟩) (r 3 (b .sub v3 i1))) .skip)) (q (.reg [(k 101 [(o (.ldn 2) p4),v1,v2] 19),(s [(l 8 (x 0 v19)),(l 9
 (x 1 v19))])]) (q (q (r 20 (b .eql v9 i2)) (.cond v20 (q (r1 ⟨[],U (.ef [] (.call 102) [(o (.ldn 2) p4),v1,v2] O)⟩) (q (r 8 (b .sub (b .sub v2 i1) (b .sub v8 v1))) (r 9 i1)))
 .skip)) (q (q (r 21 (.pick (.pick v5 v6 z) (b .eql v9 i1) z)) (.cond v21 (q (r1 (k 103 [(o (.ldn 2) p4),v1,v2] 22)) (.cond v22 .ret .skip)) .skip)) (q (q (.reg [⟨[(l 23 (b .gtr v1
 i0))],U (.ef [((b .gtr v1 i0),true)] .cal [(f 0 p4),(b .sub v1 i1),v8] (U 24))⟩,(s [(l 25 (.pick v23 (o .not v24) z))])]) (.cond v25 (q (.reg [(k 104 [(o (.ldn 2)
 p4),v1,v2,v8] 26),(s [(l 10 (v 26))])]) (q (r 1 v10) (.exit 1))) .skip)) (q (.reg [(k 105 [(o (.ldn 2) p4),v1,v2,v8] 27),(s [(l 11 (x 0 (v 27))),(l 12 (x 1 (v 27)))])]) (q (r 6
 v12) (q (r1 (s [(l 13 (b .sub v11 v1)),(l 14 (b .sub v2 v11))])) (q (r 15 (b .quo v7 (i 8))) (q (r 28 (b .lss v13 v14)) (.cond (v 28) (q (r 5 (b .geq v13 v15)) (q (r1 ⟨[],U (.ef
 [] (.call 77) [(o (.ldn 2) p4),v1,v11,v3] O)⟩) (r 1 (b .add v11 i1)))) (q (r 5 (b .geq v14 v15)) (q (r1 ⟨[],U (.ef [] (.call 77) [(o (.ldn 2) p4),(b .add v11 i1),v2,v3]
 O)⟩) (r 2 v11)))))))))))))))))))))),[]⟩
def F78 : SFun := ⟨2,8,(q (.reg [(w 2 v0),(w 3 v1),(s [(l 4 z)])]) (q (q (r 5 (b .neq (f 3 p2) (f 3 p3))) (.cond v5 (q (r 4 (b .lss (f 3 p2) (f 3 p3))) .ret) .skip)) (q (q (r 6 (b .neq (f 2 p2) (f 2
 p3))) (.cond v6 (q (r 4 (b .lss (f 2 p2) (f 2 p3))) .ret) .skip)) (q (q (r 7 (b .neq (f 0 p2) (f 0 p3))) (.cond v7 (q (r 4 (b .lss (f 0 p2) (f 0 p3))) .ret) .skip)) (q (r 4 (b .lss
 (f 1 p2) (f 1 p3))) .ret))))),[v4]⟩
def F79 : SFun := ⟨1,10,(q (.reg [(w 1 (c (.agg #[y,y,y,y]))),(s [(l 2 z)])]) (q (q (r 3 v0) (.block 0 (q (r 4 (b .eql v3 i0)) (.cond v4 (q (.reg [⟨[],U (.pst 1 (.upd (.cnt 1) 1 4 p1 (u 3 1 (u 2
 1 (u 1 1 (u 0 1 (c (.agg #[y,y,y,y])) (i 20)) (i 6)) (i 6)) i1)))⟩,(s [(l 2 t)])]) .ret) (q (r 5 (b .eql v3 i1)) (.cond v5 (q (.reg [⟨[],U (.pst 1 (.upd (.cnt 1) 1 4 p1 (u 3 1
 (u 2 1 (u 1 1 (u 0 1 (c (.agg #[y,y,y,y])) (i 17)) (i 5)) (i 9)) i2)))⟩,(s [(l 2 t)])]) .ret) (q (r 6 (b .eql v3 i2)) (.cond v6 (q (.reg [⟨[],U (.pst 1 (.upd (.cnt 1) 1 4 p1 (u
 3 1 (u 2 1 (u 1 1 (u 0 1 (c (.agg #[y,y,y,y])) (i 14)) i4) (i 12)) i3)))⟩,(s [(l 2 t)])]) .ret) (q (r 7 (b .eql v3 i3)) (.cond v7 (q (.reg [⟨[],U (.pst 1 (.upd (.cnt 1) 1 4 p1
 (u 3 1 (u 2 1 (u 1 1 (u 0 1 (c (.agg #[y,y,y,y])) (i 10)) i3) (i 16)) i4)))⟩,(s [(l 2 t)])]) .ret) (q (r 8 (b .eql v3 i4)) (.cond v8 (q (.reg [⟨[],U (.pst 1 (.upd (.cnt 1) 1 4
 p1 (u 3 1 (u 2 1 (u 1 1 (u 0 1 (c (.agg #[y,y,y,y])) (i 7)) i2) (i 19)) (i 5))))⟩,(s [(l 2 t)])]) .ret) (q (r 9 (b .eql v3 (i 5))) (.cond v9 (q (.reg [⟨[],U (.pst 1 (.upd (.cnt
 1) 1 4 p1 (u 3 1 (u 2 1 (u 1 1 (u 0 1 (c (.agg #[y,y,y,y])) i4) i1) (i 22)) (i 6))))⟩,(s [(l 2 t)])]) .ret) .skip)))))))))))))) (q (.reg [⟨[],U (.pst 1 (.upd (.cnt 1) 1 4 p1 (c
 (.agg #[y,y,y,y]))))⟩,(s [(l 2 z)])]) .ret))),[(o (.ldn 4) p1),v2]⟩
def F80 : SFun := ⟨3,9,(q (r 3 (c (.slice O 0 0))) (q (q (r 4 (b .sub v2 i1)) (m 0 (q (q (r 5 (b .geq v4 i0)) (h v5 0)) (q (.block 1 (.reg [⟨[(l 6 v0)],U (.ef [] (.bsl 4 1) [(u 0 1 (c (.agg
 #[(.bool false)])) (b .eql (b .and (b .shr v1 v4) i1) i1))] (U 7))⟩,(e (.app 4 1 1) [v6,v7] 8),(s [(l 0 v8)])])) (r 4 (b .sub v4 i1)))))) (q (r 3 v0) .ret))),[v3]⟩
def F81 : SFun := ⟨1,35,(q (.reg [(w 1 (c g6)),(s [(l 2 (c .nilIface))])]) (q (q (r 9 (b .neq (o .slen v0) (i 8))) (.cond v9 (q (.reg [⟨[(l 10 (o (.iface 111) i3))],U (.pst 1 (.upd (.cnt 1) 1 6
 p1 (c g6)))⟩,(s [(l 2 v10)])]) .ret) .skip)) (q (.reg [(e (.new 178) [(c (.int .u64 0))] 3),⟨[],U (.ef [] (.st 1) [v3,(c (.int .u64 0))] O)⟩]) (q (q (r1 (s [(l 11 (o .slen
 v0)),(l 12 i0)])) (m 0 (q (r 13 (b .lss v12 v11)) (q (h v13 0) (q (.block 1 (q (r 4 v12) (.dreg (.eff false [] ⟨[],U (.ef [] (.st 1) [v3,(b .or (b .shl (d v3) (c (.int .u64 8)))
 (o (.conv .u64) (o2 .sidx v0 v4)))] O)⟩ (.done (s [])))))) (r 12 (b .add v12 i1))))))) (q (r 5 (o2 .capp (.mkf 106) v3)) (q (r1 (e (.new 138) [(c g6)] 6)) (q (.reg [(e .cal
 [v5,(i 24)] 14),⟨[],U (.ef [] (.st 1) [(a 5 v6),v14] O)⟩]) (q (.reg [(k 107 [(o (.conv .i64) (b .and (b .shr (d v3) (c (.int .u64 26))) (c (.int .u64 7))))] 15),⟨[(l 16 (x 0
 v15)),(l 17 (x 1 v15))],U (.pnew 7 (c (.agg #[y,y,y,y])))⟩,⟨[],U (.pst 7 (.upd (.cnt 7) 7 4 (p 7) v16))⟩,(s [(l 8 v17)])]) (q (q (r 18 (o .not v8)) (.cond v18 (q (.reg [⟨[(l
 19 (o (.iface 111) i3))],U (.pst 1 (.upd (.cnt 1) 1 6 p1 (c g6)))⟩,(s [(l 2 v19)])]) .ret) .skip)) (q (.dreg (.eff true [(l 0 (f 0 (p 7)))] ⟨[(l 21 v5),(l 22 (f 0 (p 7))),(l 24
 v5),(l 26 v5),(l 28 v5)],U (.ef [] .cal [v5,(f 2 (p 7))] (U 20))⟩ (.eff false [] ⟨[(l 31 (a 4 v6))],U (.ef [] .cal [v21,v22] (U 23))⟩ (.eff false [] (e .cal [v24,i3]
 25) (.eff false [] (e .cal [(v 26),i3] 27) (.eff false [] (e .cal [(v 28),(i 8)] 29) (.eff false [] ⟨[(l 30 (b .sub (v 29) (i 47)))],U (.ef [] (.st 1) [(v 31),v20] O)⟩ (.eff
 false [] ⟨[],U (.ef [] (.st 1) [(a 3 v6),v23] O)⟩ (.eff false [] ⟨[],U (.ef [] (.st 1) [(a 2 v6),v25] O)⟩ (.eff false [] ⟨[],U (.ef [] (.st 1) [(a 1 v6),(v 27)]
 O)⟩ (.eff false [] ⟨[],U (.ef [] (.st 1) [(a 0 v6),(v 30)] O)⟩ (.done (s []))))))))))))) (q (q (.reg [(k 108 [(o (.ldn 6) v6)] 32),(s [(l 33 (o2 (.eqv .iface true) (v 32)
 (c .nilIface)))])]) (.cond (v 33) (q (.reg [⟨[(l 34 (o (.iface 111) i3))],U (.pst 1 (.upd (.cnt 1) 1 6 p1 (c g6)))⟩,(s [(l 2 (v 34))])]) .ret) .skip)) (q (.reg [⟨[],U (.pst 1
 (.upd (.cnt 1) 1 6 p1 (o (.ldn 6) v6)))⟩,(s [(l 2 (c .nilIface))])]) .ret)))))))))))),[(o (.ldn 6) p1),v2]⟩
def F83 : SFun := ⟨1,8,(q (r 1 i0) (q (.reg [(k 110 [v0] 4),⟨[(l 5 (x 0 v4)),(l 6 (x 1 v4))],U (.pnew 2 (c g6))⟩,⟨[],U (.pst 2 (.upd (.cnt 2) 2 6 p2 v5))⟩,(s [(l 3 v6)])]) (q (q (r 7 (o .not
 v3)) (.cond v7 (q (r 1 i0) .ret) .skip)) (q (r 1 (f 0 p2)) .ret)))),[v1]⟩
def F84 : SFun := ⟨5,14,(q (r 5 i0) (q (r 6 i0) (q (q (r 7 (o2 .max i0 (b .add (b .sub v3 v4) i1))) (m 0 (q (q (r 9 (b .leq v7 v3)) (h v9 0)) (q (.block 1 (q (.reg [(k 70 [v0,v1,v7] 10),(s [(l 8
 v10)])]) (q (.reg [⟨[(l 11 (b .geq v8 i0))],U (.ef [((b .geq v8 i0),true)] (.call 70) [v0,v2,v7] (U 12))⟩,(s [(l 13 (.pick v11 (b .eql v12 v8) z))])]) (.cond v13 (r 6 (b .add
 v6 i1)) .skip)))) (r 7 (b .add v7 i1)))))) (q (r 5 v6) .ret)))),[v5]⟩
def F85 : SFun := ⟨1,9,(q (r 1 (c y0)) (q (r 2 (c y0)) (q (r 3 (c y0)) (q (q (r 5 (b .lss v0 i0)) (.cond v5 (r 3 (c (.string ⟨#[45]⟩))) .skip)) (m 0 (.block 1 (q (r 4 (b .rem v0 (i 10))) (q (q (r 6
 (b .lss v4 i0)) (.cond v6 (r 4 (o .neg v4)) .skip)) (q (.reg [(e (.bsl 5 1) [(u 0 1 (c (.agg #[(.int .u8 0)])) (o (.conv .u8) (b .add (i 48) v4)))] 7),(s [(l 2 (b .add (o .b2s v7)
 v2))])]) (q (r 0 (b .quo v0 (i 10))) (q (r 8 (b .eql v0 i0)) (.cond v8 (q (r 1 (b .add v3 v2)) .ret) .skip)))))))))))),[v1]⟩
def F86 : SFun := ⟨3,14,(q (r 3 i0) (q (r 4 (i (-1))) (q (r 5 i0) (q (r 6 i0) (q (q (r 7 (i 7)) (m 0 (q (q (r 10 (b .geq v7 i0)) (h v10 0)) (q (.block 1 (q (.reg [(k 111 [v0,v1,v7,v2] 11),(s [(l 8
 (x 0 v11)),(l 9 (x 1 v11))])]) (q (q (r 12 (b .lss v8 (f 1 (n v0)))) (.cond v12 (.exit 1) .skip)) (q (r 13 (.pick (.pick (b .lss v4 i0) t (b .gtr v8 v5)) t (.pick (b .eql v8 v5) (b
 .geq v9 v6) z))) (.cond v13 (q (r 4 v7) (q (r 5 v8) (r 6 v9))) .skip))))) (r 7 (b .sub v7 i1)))))) (q (r 3 v4) .ret)))))),[v3]⟩
def F98 : SFun := ⟨3,10,(q (r1 (w 3 v0)) (q (r 4 (b .add v1 i1)) (m 0 (q (q (r 6 (b .lss v4 v2)) (h v6 0)) (q (.block 1 (q (r 5 v4) (m 2 (q (q (.reg [⟨[(l 7 (b .gtr v5 v1))],U (.ef [((b .gtr v5
 v1),true)] .cal [(f 0 p3),v5,(b .sub v5 i1)] (U 8))⟩,(s [(l 9 (.pick v7 v8 z))])]) (h v9 2)) (q (.block 3 (r1 ⟨[],U (.ef [] .cal [(f 1 p3),v5,(b .sub v5 i1)] O)⟩)) (r 5 (b
 .sub v5 i1))))))) (r 4 (b .add v4 i1))))))),[]⟩
def F99 : SFun := ⟨3,11,(q (r1 (w 3 v0)) (q (r 4 v1) (q (r 5 i0) (q (r 6 (b .sub v2 v1)) (q (q (r 7 (b .quo (b .sub v6 i1) i2)) (m 0 (q (q (r 9 (b .geq v7 i0)) (h v9 0)) (q (.block 1 (r1 ⟨[],U
 (.ef [] (.call 112) [(o (.ldn 2) p3),v7,v6,v4] O)⟩)) (r 7 (b .sub v7 i1)))))) (q (r 8 (b .sub v6 i1)) (m 2 (q (q (r 10 (b .geq v8 i0)) (h v10 2)) (q (.block 3 (q (r1 ⟨[],U
 (.ef [] .cal [(f 1 p3),v4,(b .add v4 v8)] O)⟩) (r1 ⟨[],U (.ef [] (.call 112) [(o (.ldn 2) p3),v5,v8,v4] O)⟩))) (r 8 (b .sub v8 i1))))))))))),[]⟩
def F100 : SFun := ⟨3,15,(q (r1 (w 3 v0)) (q (r 4 (b .sub v2 v1)) (q (r 9 (b .geq v4 (i 8))) (.cond v9 (q (.reg [⟨[(l 10 (o (.conv .u64) v4))],U (.ef [] (.new 196) [(c (.int .u64 0))] (U
 5))⟩,⟨[],U (.ef [] (.st 1) [v5,v10] O)⟩]) (q (.reg [(k 113 [v4] 11),(s [(l 6 v11)])]) (q (r 7 (b .sub (b .add v1 (b .mul (b .quo v4 i4) i2)) i1)) (m 0 (q (q (r 12 (b .leq v7
 (b .add (b .add v1 (b .mul (b .quo v4 i4) i2)) i1))) (h v12 0)) (q (.block 1 (q (.reg [(k 114 [v5] 13),(s [(l 8 (o (.conv .i64) (b .and v13 (b .sub v6 (c (.int .u64 1))))))])]) (q
 (q (r 14 (b .geq v8 v4)) (.cond v14 (r 8 (b .sub v8 v4)) .skip)) (r1 ⟨[],U (.ef [] .cal [(f 1 p3),v7,(b .add v1 v8)] O)⟩)))) (r 7 (b .add v7 i1)))))))) .skip)))),[]⟩
def F101 : SFun := ⟨3,20,(q (.reg [(w 3 v0),(s [(l 4 i0),(l 5 i0)])]) (q (r 6 (b .sub v2 v1)) (q (r1 (e (.new 3) [i0] 7)) (q (r 8 (b .add v1 (b .mul (b .quo v6 i4) i1))) (q (r 9 (b .add v1 (b .mul (b
 .quo v6 i4) i2))) (q (r 10 (b .add v1 (b .mul (b .quo v6 i4) i3))) (q (q (r 11 (b .geq v6 (i 8))) (.cond v11 (q (q (r 12 (b .geq v6 (i 50))) (.cond v12 (q (.reg [(k 115 [(o (.ldn
 2) p3),v8,v7] 13),(s [(l 8 v13)])]) (q (.reg [(k 115 [(o (.ldn 2) p3),v9,v7] 14),(s [(l 9 v14)])]) (.reg [(k 115 [(o (.ldn 2) p3),v10,v7] 15),(s [(l 10 v15)])]))) .skip)) (.reg [(k
 116 [(o (.ldn 2) p3),v8,v9,v10,v7] 16),(s [(l 9 v16)])])) .skip)) (q (r 17 (d v7)) (.block 0 (q (r 18 (b .eql v17 i0)) (.cond v18 (q (r1 (s [(l 4 v9),(l 5 i1)])) .ret) (q (r 19 (b
 .eql v17 (i 12))) (.cond v19 (q (r1 (s [(l 4 v9),(l 5 i2)])) .ret) (q (r1 (s [(l 4 v9),(l 5 i0)])) .ret)))))))))))))),[v4,v5]⟩
def F102 : SFun := ⟨3,7,(q (r1 (w 3 v0)) (q (r 4 v1) (q (r 5 (b .sub v2 i1)) (m 0 (q (q (r 6 (b .lss v4 v5)) (h v6 0)) (.block 1 (q (r1 ⟨[],U (.ef [] .cal [(f 1 p3),v4,v5] O)⟩) (q (r 4 (b .add
 v4 i1)) (r 5 (b .sub v5 i1)))))))))),[]⟩
def F103 : SFun := ⟨3,23,(q (.reg [(w 3 v0),(s [(l 4 z)])]) (q (r 5 (b .add v1 i1)) (q (q (r 6 i0) (m 0 (q (q (r 9 (b .lss v6 (i 5))) (h v9 0)) (q (.block 1 (q (m 2 (q (q (.reg [⟨[(l 10 (b .lss v5
 v2))],U (.ef [((b .lss v5 v2),true)] .cal [(f 0 p3),v5,(b .sub v5 i1)] (U 11))⟩,(s [(l 12 (.pick v10 (o .not v11) z))])]) (h v12 2)) (.block 3 (r 5 (b .add v5 i1))))) (q (q
 (r 13 (b .eql v5 v2)) (.cond v13 (q (r 4 t) .ret) .skip)) (q (q (r 14 (b .lss (b .sub v2 v1) (i 50))) (.cond v14 (q (r 4 z) .ret) .skip)) (q (r1 ⟨[],U (.ef [] .cal [(f 1
 p3),v5,(b .sub v5 i1)] O)⟩) (q (q (r 15 (b .geq (b .sub v5 v1) i2)) (.cond v15 (q (r 7 (b .sub v5 i1)) (m 4 (q (q (r 16 (b .geq v7 i1)) (h v16 4)) (q (.block 5 (q (q (.reg [(e
 .cal [(f 0 p3),v7,(b .sub v7 i1)] 17),(s [(l 18 (o .not v17))])]) (.cond v18 (.exit 4) .skip)) (r1 ⟨[],U (.ef [] .cal [(f 1 p3),v7,(b .sub v7 i1)] O)⟩))) (r 7 (b .sub v7
 i1)))))) .skip)) (q (r 19 (b .geq (b .sub v2 v5) i2)) (.cond v19 (q (r 8 (b .add v5 i1)) (m 6 (q (q (r 20 (b .lss v8 v2)) (h v20 6)) (q (.block 7 (q (q (.reg [(e .cal [(f 0
 p3),v8,(b .sub v8 i1)] 21),(s [(l 22 (o .not v21))])]) (.cond v22 (.exit 6) .skip)) (r1 ⟨[],U (.ef [] .cal [(f 1 p3),v8,(b .sub v8 i1)] O)⟩))) (r 8 (b .add v8 i1))))))
 .skip)))))))) (r 6 (b .add v6 i1)))))) (q (r 4 z) .ret)))),[v4]⟩
def F104 : SFun := ⟨4,15,(q (.reg [(w 4 v0),(s [(l 5 i0)])]) (q (r1 ⟨[],U (.ef [] .cal [(f 1 p4),v1,v3] O)⟩) (q (r1 (s [(l 6 (b .add v1 i1)),(l 7 (b .sub v2 i1))])) (q (m 0 (.block 1 (q (m 2 (q
 (q (.reg [⟨[(l 8 (b .leq v6 v7))],U (.ef [((b .leq v6 v7),true)] .cal [(f 0 p4),v1,v6] (U 9))⟩,(s [(l 10 (.pick v8 (o .not v9) z))])]) (h v10 2)) (.block 3 (r 6 (b .add v6
 i1))))) (q (m 4 (q (q (.reg [⟨[(l 11 (b .leq v6 v7))],U (.ef [((b .leq v6 v7),true)] .cal [(f 0 p4),v1,v7] (U 12))⟩,(s [(l 13 (.pick v11 v12 z))])]) (h v13 4)) (.block 5 (r 7
 (b .sub v7 i1))))) (q (q (r 14 (b .gtr v6 v7)) (.cond v14 (.exit 0) .skip)) (q (r1 ⟨[],U (.ef [] .cal [(f 1 p4),v6,v7] O)⟩) (q (r 6 (b .add v6 i1)) (r 7 (b .sub v7
 i1))))))))) (q (r 5 v6) .ret))))),[v5]⟩
def F105 : SFun := ⟨4,23,(q (.reg [(w 4 v0),(s [(l 5 i0),(l 6 z)])]) (q (r1 ⟨[],U (.ef [] .cal [(f 1 p4),v1,v3] O)⟩) (q (r1 (s [(l 7 (b .add v1 i1)),(l 8 (b .sub v2 i1))])) (q (m 0 (q (q (.reg
 [⟨[(l 9 (b .leq v7 v8))],U (.ef [((b .leq v7 v8),true)] .cal [(f 0 p4),v7,v1] (U 10))⟩,(s [(l 11 (.pick v9 v10 z))])]) (h v11 0)) (.block 1 (r 7 (b .add v7 i1))))) (q (m 2 (q
 (q (.reg [⟨[(l 12 (b .leq v7 v8))],U (.ef [((b .leq v7 v8),true)] .cal [(f 0 p4),v8,v1] (U 13))⟩,(s [(l 14 (.pick v12 (o .not v13) z))])]) (h v14 2)) (.block 3 (r 8 (b .sub
 v8 i1))))) (q (q (r 15 (b .gtr v7 v8)) (.cond v15 (q (r1 ⟨[],U (.ef [] .cal [(f 1 p4),v8,v1] O)⟩) (q (r1 (s [(l 5 v8),(l 6 t)])) .ret)) .skip)) (q (r1 ⟨[],U (.ef [] .cal
 [(f 1 p4),v7,v8] O)⟩) (q (r 7 (b .add v7 i1)) (q (r 8 (b .sub v8 i1)) (q (m 4 (.block 5 (q (m 6 (q (q (.reg [⟨[(l 16 (b .leq v7 v8))],U (.ef [((b .leq v7 v8),true)] .cal [(f
 0 p4),v7,v1] (U 17))⟩,(s [(l 18 (.pick v16 v17 z))])]) (h v18 6)) (.block 7 (r 7 (b .add v7 i1))))) (q (m 8 (q (q (.reg [⟨[(l 19 (b .leq v7 v8))],U (.ef [((b .leq v7
 v8),true)] .cal [(f 0 p4),v8,v1] (U 20))⟩,(s [(l 21 (.pick v19 (o .not v20) z))])]) (h v21 8)) (.block 9 (r 8 (b .sub v8 i1))))) (q (q (r 22 (b .gtr v7 v8)) (.cond v22 (.exit 4)
 .skip)) (q (r1 ⟨[],U (.ef [] .cal [(f 1 p4),v7,v8] O)⟩) (q (r 7 (b .add v7 i1)) (r 8 (b .sub v8 i1))))))))) (q (r1 ⟨[],U (.ef [] .cal [(f 1 p4),v8,v1] O)⟩) (q (r1 (s
 [(l 5 v8),(l 6 z)])) .ret)))))))))))),[v5,v6]⟩
def F106 : SFun := ⟨2,4,(q (r 2 i0) (q (.dreg (.done (s [(l 3 (o (.conv .i64) (b .and (d v1) (b .sub (b .shl (c (.int .u64 1)) v0) (c (.int .u64 1))))))]))) (q (r1 ⟨[],U (.ef [] (.st 1) [v1,(b
 .shr (d v1) v0)] O)⟩) (q (r 2 v3) .ret)))),[v2]⟩
def F107 : SFun := ⟨1,6,(q (.reg [(w 1 (c (.agg #[y,y,y,y]))),(s [(l 2 z)])]) (q (.reg [⟨[(l 4 (u 20 4 (u 16 4 (u 12 4 (u 8 4 (u 4 4 (u 0 4 (c (.agg
 #[y,y,y,y,y,y,y,y,y,y,y,y,y,y,y,y,y,y,y,y,y,y,y,y])) (u 3 1 (u 2 1 (u 1 1 (u 0 1 (c (.agg #[y,y,y,y])) (i 20)) (i 6)) (i 6)) i1)) (u 3 1 (u 2 1 (u 1 1 (u 0 1 (c (.agg #[y,y,y,y]))
 (i 17)) (i 5)) (i 9)) i2)) (u 3 1 (u 2 1 (u 1 1 (u 0 1 (c (.agg #[y,y,y,y])) (i 14)) i4) (i 12)) i3)) (u 3 1 (u 2 1 (u 1 1 (u 0 1 (c (.agg #[y,y,y,y])) (i 10)) i3) (i 16)) i4)) (u
 3 1 (u 2 1 (u 1 1 (u 0 1 (c (.agg #[y,y,y,y])) (i 7)) i2) (i 19)) (i 5))) (u 3 1 (u 2 1 (u 1 1 (u 0 1 (c (.agg #[y,y,y,y])) i4) i1) (i 22)) (i 6))))],U (.ef [] (.new 202) [(c
 (.agg #[y,y,y,y,y,y,y,y,y,y,y,y,y,y,y,y,y,y,y,y,y,y,y,y]))] (U 3))⟩,⟨[],U (.ef [] (.st 24) [v3,v4] O)⟩]) (q (q (r 5 (.pick (b .lss v0 i0) t (b .geq v0 (i 6)))) (.cond v5
 (q (.reg [⟨[],U (.pst 1 (.upd (.cnt 1) 1 4 p1 (c (.agg #[y,y,y,y]))))⟩,(s [(l 2 z)])]) .ret) .skip)) (q (.reg [⟨[],U (.pst 1 (.upd (.cnt 1) 1 4 p1 (o (.ldn 4) (o2 (.aadr 6 4)
 v3 v0))))⟩,(s [(l 2 t)])]) .ret)))),[(o (.ldn 4) p1),v2]⟩
def F108 : SFun := ⟨1,16,(q (.reg [(w 1 v0),(s [(l 2 (c .nilIface))])]) (q (q (r 5 (.pick (.pick (.pick (b .lss (f 0 p1) i1) t (b .gtr (f 0 p1) i3)) t (b .lss (f 1 p1) i0)) t (b .gtr (f 1 p1) (i
 7)))) (.cond v5 (q (r 2 (o (.iface 111) i1)) .ret) .skip)) (q (.reg [(k 107 [(f 2 p1)] 6),⟨[(l 7 (x 0 v6)),(l 8 (x 1 v6))],U (.pnew 3 (c (.agg #[y,y,y,y])))⟩,⟨[],U (.pst 3
 (.upd (.cnt 3) 3 4 p3 v7))⟩,(s [(l 4 v8)])]) (q (q (.dreg (.eff true [⟨[((.pick (o .not v4) t (b .lss (f 3 p1) i0)),false)],0,(f 3 p1)⟩] ⟨[(l 9 (.pick (o .not v4) t (b .lss (f 3
 p1) i0))),⟨[((.pick (o .not v4) t (b .lss (f 3 p1) i0)),false)],10,(f 3 p1)⟩],U (.ef [((.pick (o .not v4) t (b .lss (f 3 p1) i0)),false)] (.call 117) [(f 1 p3)] (U 11))⟩
 (.eff true [⟨[((.pick (.pick v9 t (b .geq v10 v11)) t (b .lss (f 4 p1) i0)),false)],0,(f 4 p1)⟩] ⟨[(l 12 (.pick (.pick v9 t (b .geq v10 v11)) t (b .lss (f 4 p1) i0))),⟨[((.pick
 (.pick v9 t (b .geq v10 v11)) t (b .lss (f 4 p1) i0)),false)],13,(f 4 p1)⟩],U (.ef [((.pick (.pick v9 t (b .geq v10 v11)) t (b .lss (f 4 p1) i0)),false)] (.call 117) [(f 3 p3)]
 (U 14))⟩ (.done (s [(l 15 (.pick (.pick (.pick v12 t (b .geq v13 v14)) t (b .lss (f 5 p1) i0)) t (b .geq (f 5 p1) (i 16777216))))]))))) (.cond v15 (q (r 2 (o (.iface 111) i1))
 .ret) .skip)) (q (r 2 (c .nilIface)) .ret))))),[v2]⟩
def F110 : SFun := ⟨1,23,(q (.reg [(e (.new 9) [v0] 1),(w 2 (c g6)),(s [(l 3 z)])]) (q (q (r 9 (b .neq (o .slen (d v1)) (i 8))) (.cond v9 (q (.reg [⟨[],U (.pst 2 (.upd (.cnt 2) 2 6 p2 (c g6)))⟩,(s
 [(l 3 z)])]) .ret) .skip)) (q (.reg [(e (.new 3) [i0] 4),⟨[],U (.ef [] (.st 1) [v4,i0] O)⟩]) (q (r 5 (o2 .capp (o2 .capp (.mkf 127) v1) v4)) (q (.reg [(e .cal [v5,(i 8)]
 10),⟨[(l 11 (u 0 1 (c g6) (b .sub v10 (i 47))))],U (.pnew 6 (c g6))⟩,⟨[],U (.pst 6 (.upd (.cnt 6) 6 6 (p 6) v11))⟩]) (q (.reg [(e .cal [v5,i3] 12),⟨[],U (.pst 6 (.upd
 (.cnt 6) 6 1 (a 1 (p 6)) v12))⟩]) (q (.reg [(e .cal [v5,i3] 13),⟨[],U (.pst 6 (.upd (.cnt 6) 6 1 (a 2 (p 6)) v13))⟩]) (q (.reg [(k 79 [(f 2 (p 6))] 14),⟨[(l 15 (x 0 v14)),(l 16
 (x 1 v14))],U (.ef [] (.new 162) [(c (.agg #[y,y,y,y]))] (U 7))⟩,⟨[],U (.ef [] (.st 4) [v7,v15] O)⟩,(s [(l 8 v16)])]) (q (q (r 17 (o .not v8)) (.cond v17 (q (.reg
 [⟨[],U (.pst 2 (.upd (.cnt 2) 2 6 p2 (c g6)))⟩,(s [(l 3 z)])]) .ret) .skip)) (q (.reg [(e .cal [v5,(d (o2 (.aadr 4 1) v7 i0))] 18),⟨[],U (.pst 6 (.upd (.cnt 6) 6 1 (a 3 (p
 6)) v18))⟩]) (q (.reg [(e .cal [v5,(d (o2 (.aadr 4 1) v7 i2))] 19),⟨[],U (.pst 6 (.upd (.cnt 6) 6 1 (a 4 (p 6)) v19))⟩]) (q (.reg [(e .cal [v5,(i 24)] 20),⟨[],U (.pst 6 (.upd
 (.cnt 6) 6 1 (a 5 (p 6)) v20))⟩]) (q (q (.reg [(k 128 [(o (.ldn 6) (p 6))] 21),(s [(l 22 (b .gtr v21 i0))])]) (.cond v22 (q (.reg [⟨[],U (.pst 2 (.upd (.cnt 2) 2 6 p2 (c
 g6)))⟩,(s [(l 3 z)])]) .ret) .skip)) (q (.reg [⟨[],U (.pst 2 (.upd (.cnt 2) 2 6 p2 (o (.ldn 6) (p 6))))⟩,(s [(l 3 t)])]) .ret)))))))))))))),[(o (.ldn 6) p2),v3]⟩
def F111 : SFun := ⟨4,17,(q (r1 (s [(l 4 i0),(l 5 i0)])) (q (r 6 i0) (q (r 7 i0) (q (q (r 8 (o2 .max i0 (b .add (b .sub v3 (f 0 (n v0))) i1))) (m 0 (q (q (r 12 (b .leq v8 v3)) (h v12 0)) (q (.block 1
 (q (r 9 z) (q (q (r 10 i0) (m 2 (q (q (r 13 (b .lss v10 (o .llen (d (j 1 (f 2 (n v0)) v8))))) (h v13 2)) (q (.block 3 (q (.reg [⟨[(l 14 (o (.ldn 4) (j 4 (d (j 1 (f 2 (n v0)) v8))
 v10)))],U (.pnew 11 (c (.agg #[y,y,y,y0])))⟩,⟨[],U (.pst 11 (.upd (.cnt 11) 11 4 (p 11) v14))⟩]) (q (r 15 (.pick (b .eql (f 3 (p 11)) v1) (b .eql (f 0 (p 11)) v2) z)) (.cond
 v15 (q (r 9 t) (r 7 (b .add v7 (f 1 (p 11))))) .skip)))) (r 10 (b .add v10 i1)))))) (q (r 16 v9) (.cond v16 (r 6 (b .add v6 i1)) .skip))))) (r 8 (b .add v8 i1)))))) (q (r1 (s [(l 4
 v6),(l 5 v7)])) .ret))))),[v4,v5]⟩
def F112 : SFun := ⟨4,13,(q (r1 (w 4 v0)) (q (r 5 v1) (m 0 (.block 1 (q (r 6 (b .add (b .mul i2 v5) i1)) (q (q (r 7 (b .geq v6 v2)) (.cond v7 (.exit 0) .skip)) (q (q (.reg [⟨[(l 8 (b .lss (b .add v6
 i1) v2))],U (.ef [((b .lss (b .add v6 i1) v2),true)] .cal [(f 0 p4),(b .add v3 v6),(b .add (b .add v3 v6) i1)] (U 9))⟩,(s [(l 10 (.pick v8 v9 z))])]) (.cond v10 (r 6 (b .add
 v6 i1)) .skip)) (q (q (.reg [(e .cal [(f 0 p4),(b .add v3 v5),(b .add v3 v6)] 11),(s [(l 12 (o .not v11))])]) (.cond v12 .ret .skip)) (q (r1 ⟨[],U (.ef [] .cal [(f 1 p4),(b .add
 v3 v5),(b .add v3 v6)] O)⟩) (r 5 v6)))))))))),[]⟩
def F113:SFun:=⟨1,4,(q (r 1 (c (.int .u64 0))) (q (.reg [(k 76 [(o (.conv .u64) v0)] 3),(s [(l 2 (o (.conv .u64) v3))])]) (q (r 1 (b .shl (c (.int .u64 1)) v2)) .ret))),[v1]⟩
def F114 : SFun := ⟨1,2,(q (r 1 (c (.int .u64 0))) (q (.dreg (.eff false [] ⟨[],U (.ef [] (.st 1) [(n v0),(b .xor (d (n v0)) (b .shl (d (n v0)) (c (.int .u64 13))))] O)⟩ (.done (s [])))) (q
 (.dreg (.eff false [] ⟨[],U (.ef [] (.st 1) [(n v0),(b .xor (d (n v0)) (b .shr (d (n v0)) (c (.int .u64 7))))] O)⟩ (.done (s [])))) (q (.dreg (.eff false [] ⟨[],U (.ef []
 (.st 1) [(n v0),(b .xor (d (n v0)) (b .shl (d (n v0)) (c (.int .u64 17))))] O)⟩ (.done (s [])))) (q (r 1 (d (n v0))) .ret))))),[v1]⟩
def F115:SFun:=⟨3,6,(q (.reg [(w 3 v0),(s [(l 4 i0)])]) (q (.reg [(k 116 [(o (.ldn 2) p3),(b .sub v1 i1),v1,(b .add v1 i1),v2] 5),(s [(l 4 v5)])]) .ret)),[v4]⟩
def F116 : SFun := ⟨5,10,(q (.reg [(w 5 v0),(s [(l 6 i0)])]) (q (.reg [(k 129 [(o (.ldn 2) (p 5)),v1,v2,v4] 7),(s [(l 1 (x 0 v7)),(l 2 (x 1 v7))])]) (q (.reg [(k 129 [(o (.ldn 2) (p 5)),v2,v3,v4]
 8),(s [(l 2 (x 0 v8)),(l 3 (x 1 v8))])]) (q (.reg [(k 129 [(o (.ldn 2) (p 5)),v1,v2,v4] 9),(s [(l 1 (x 0 v9)),(l 2 (x 1 v9))])]) (q (r 6 v2) .ret))))),[v6]⟩
def F117 : SFun := ⟨1,6,(q (r 1 i0) (q (r 2 i1) (q (q (r1 (s [(l 3 v0),(l 4 i0)])) (m 0 (q (r 5 (b .lss v4 v3)) (q (h v5 0) (q (.block 1 (r 2 (b .mul v2 (i 10)))) (r 4 (b .add v4 i1))))))) (q (r 1
 v2) .ret)))),[v1]⟩
def F127 : SFun := ⟨3,7,(q (r 3 i0) (q (r 4 i0) (q (q (r 5 i0) (m 0 (q (q (r 6 (b .lss v5 v0)) (h v6 0)) (q (.block 1 (q (.dreg (.done (s [(l 4 (b .add (b .mul i2 v4) (o (.conv .i64) (b .and (b .shr
 (o2 .sidx (d v1) (b .quo (d v2) (i 8))) (b .sub (i 7) (b .rem (d v2) (i 8)))) (c (.int .u8 1))))))]))) (r1 ⟨[],U (.ef [] (.st 1) [v2,(b .add (d v2) i1)] O)⟩))) (r 5 (b .add
 v5 i1)))))) (q (r 3 v4) .ret)))),[v3]⟩
def F128 : SFun := ⟨1,16,(q (.reg [(w 1 v0),(s [(l 2 i0)])]) (q (.reg [(k 79 [(f 2 p1)] 5),⟨[(l 6 (x 0 v5)),(l 7 (x 1 v5))],U (.ef [] (.new 162) [(c (.agg #[y,y,y,y]))] (U 3))⟩,⟨[],U (.ef []
 (.st 4) [v3,v6] O)⟩,(s [(l 4 v7)])]) (q (q (r 8 (.pick (.pick (.pick (.pick (.pick (.pick (o .not v4) t (b .lss (f 0 p1) i1)) t (b .gtr (f 0 p1) i3)) t (b .lss (f 1 p1) i0)) t
 (b .gtr (f 1 p1) (i 7))) t (b .lss (f 5 p1) i0)) t (b .gtr (f 5 p1) (i 16777215)))) (.cond v8 (q (r 2 i1) .ret) .skip)) (q (q (.dreg (.eff true [⟨[((b .lss (f 3 p1)
 i0),false)],0,(d (o2 (.aadr 4 1) v3 i1))⟩] ⟨[(l 9 (b .lss (f 3 p1) i0)),⟨[((b .lss (f 3 p1) i0),false)],11,(d (o2 (.aadr 4 1) v3 i1))⟩],U (.ef [((b .lss (f 3 p1) i0),false)]
 (.call 85) [(f 3 p1)] (U 10))⟩ (.eff true [⟨[((.pick (.pick v9 t (b .gtr (o .slen v10) v11)) t (b .lss (f 4 p1) i0)),false)],0,(d (o2 (.aadr 4 1) v3 i3))⟩] ⟨[(l 12 (.pick (.pick
 v9 t (b .gtr (o .slen v10) v11)) t (b .lss (f 4 p1) i0))),⟨[((.pick (.pick v9 t (b .gtr (o .slen v10) v11)) t (b .lss (f 4 p1) i0)),false)],14,(d (o2 (.aadr 4 1) v3 i3))⟩],U
 (.ef [((.pick (.pick v9 t (b .gtr (o .slen v10) v11)) t (b .lss (f 4 p1) i0)),false)] (.call 85) [(f 4 p1)] (U 13))⟩ (.done (s [(l 15 (.pick v12 t (b .gtr (o .slen v13)
 v14)))]))))) (.cond v15 (q (r 2 i1) .ret) .skip)) (q (r 2 i0) .ret))))),[v2]⟩
def F129 : SFun := ⟨4,8,(q (.reg [(w 4 v0),(s [(l 5 i0),(l 6 i0)])]) (q (q (r1 (e .cal [(f 0 p4),v2,v1] 7)) (.cond v7 (q (r1 ⟨[],U (.ef [] (.st 1) [(n v3),(b .add (d (n v3)) i1)] O)⟩) (q (r1 (s
 [(l 5 v2),(l 6 v1)])) .ret)) .skip)) (q (r1 (s [(l 5 v1),(l 6 v2)])) .ret))),[v5,v6]⟩
def F162 : SFun := ⟨1,24,(q (.reg [(w 1 v0),(s [(l 2 (c y0)),(l 3 (c .nilIface))])]) (q (.reg [(k 108 [(o (.ldn 6) p1)] 10),(s [(l 4 v10)])]) (q (q (r 11 (o2 (.eqv .iface true) v4 (c .nilIface)))
 (.cond v11 (q (r1 (s [(l 2 (c y0)),(l 3 v4)])) .ret) .skip)) (q (.reg [(k 107 [(f 2 p1)] 12),⟨[(l 13 (x 0 v12)),(l 14 (x 1 v12))],U (.pnew 5 (c (.agg #[y,y,y,y])))⟩,⟨[],U
 (.pst 5 (.upd (.cnt 5) 5 4 (p 5) v13))⟩,(s [])]) (q (r 6 (o (.conv .u64) (b .add (i 47) (f 0 p1)))) (q (q (.reg [(e (.bsl 252 5) [(u 8 2 (u 6 2 (u 4 2 (u 2 2 (u 0 2 (c (.agg
 #[y,y,y,y,y,y,y,y,y,y])) (u 1 1 (u 0 1 (c (.agg #[y,y])) i3) (f 1 p1))) (u 1 1 (u 0 1 (c (.agg #[y,y])) i3) (f 2 p1))) (u 1 1 (u 0 1 (c (.agg #[y,y])) (f 0 (p 5))) (f 3 p1))) (u 1
 1 (u 0 1 (c (.agg #[y,y])) (f 2 (p 5))) (f 4 p1))) (u 1 1 (u 0 1 (c (.agg #[y,y])) (i 24)) (f 5 p1)))] 15),(s [(l 16 (o .llen v15)),(l 17 i0)])]) (m 0 (q (r 18 (b .lss v17 v16)) (q
 (h v18 0) (q (.block 1 (q (.reg [⟨[(l 19 (o (.ldn 2) (j 2 v15 v17)))],U (.ef [] (.new 252) [(c (.agg #[y,y]))] (U 7))⟩,⟨[],U (.ef [] (.st 2) [v7,v19] O)⟩]) (.dreg
 (.done (s [(l 6 (b .or (b .shl v6 (d (o2 (.aadr 2 1) v7 i0))) (o (.conv .u64) (d (o2 (.aadr 2 1) v7 i1)))))]))))) (r 17 (b .add v17 i1))))))) (q (r 8 (c (.slice O 0 0))) (q (q
 (r 9 (i 56)) (m 2 (q (q (r 20 (b .geq v9 i0)) (h v20 2)) (q (.block 3 (.reg [⟨[(l 21 v8)],U (.ef [] (.bsl 5 1) [(u 0 1 (c (.agg #[(.int .u8 0)])) (o (.conv .u8) (b .shr v6
 v9)))] (U 22))⟩,(e (.app 5 1 1) [v21,v22] 23),(s [(l 8 v23)])])) (r 9 (b .sub v9 (i 8))))))) (q (r1 (s [(l 2 (o .b2s v8)),(l 3 (c .nilIface))])) .ret))))))))),[v2,v3]⟩
def F163 : SFun := ⟨1,26,(q (.reg [(w 1 v0),(s [(l 2 (c y0)),(l 3 (c .nilIface))])]) (q (.reg [(k 108 [(o (.ldn 6) p1)] 6),(s [(l 4 v6)])]) (q (q (r 7 (o2 (.eqv .iface true) v4 (c .nilIface))) (.cond
 v7 (q (r1 (s [(l 2 (c y0)),(l 3 v4)])) .ret) .skip)) (q (.reg [(k 107 [(f 2 p1)] 8),⟨[(l 9 (x 0 v8)),(l 10 (x 1 v8))],U (.pnew 5 (c (.agg #[y,y,y,y])))⟩,⟨[],U (.pst 5 (.upd
 (.cnt 5) 5 4 (p 5) v9))⟩,(s [])]) (q (.dreg (.eff true [(l 0 (f 1 p1)),(l 0 (f 3 p1)),(l 0 (f 1 (p 5))),(l 0 (f 4 p1)),(l 0 (f 3 (p 5))),(l 0 (f 5 p1))] ⟨[(l 13 (f 1 p1)),(l 16 (f
 3 p1)),(l 17 (f 1 (p 5))),(l 20 (f 4 p1)),(l 21 (f 3 (p 5))),(l 24 (f 5 p1))],U (.ef [] (.call 177) [(f 0 p1)] (U 11))⟩ (.eff true [] ⟨[(l 12 (b .add v11 (c (.string
 ⟨#[58]⟩))))],U (.ef [] (.call 176) [v13] (U 14))⟩ (.eff true [] ⟨[(l 15 (b .add (b .add v12 v14) (c (.string ⟨#[46]⟩))))],U (.ef [] (.call 178) [v16,v17] (U 18))⟩ (.eff
 true [] ⟨[(l 19 (b .add (b .add v15 v18) (c (.string ⟨#[46]⟩))))],U (.ef [] (.call 178) [v20,v21] (U 22))⟩ (.eff false [] ⟨[(l 23 (b .add (b .add v19 v22) (c (.string
 ⟨#[46]⟩))))],U (.ef [] (.call 176) [v24] (U 25))⟩ (.done (s [(l 2 (b .add v23 v25)),(l 3 (c .nilIface))])))))))) .ret))))),[v2,v3]⟩
def F164 : SFun := ⟨1,23,(q (.reg [(w 1 v0),(s [(l 2 (c y0))])]) (q (.reg [(k 79 [(f 2 p1)] 5),⟨[(l 6 (x 0 v5)),(l 7 (x 1 v5))],U (.ef [] (.new 162) [(c (.agg #[y,y,y,y]))] (U 3))⟩,⟨[],U
 (.ef [] (.st 4) [v3,v6] O)⟩,(s [])]) (q (r 4 (c (.string ⟨#[105,116,101,109]⟩))) (q (q (r 8 (b .eql (f 0 p1) i2)) (.cond v8 (r 4 (c (.string ⟨#[99,97,115,101]⟩))) .skip)) (q (q
 (r 9 (b .eql (f 0 p1) i3)) (.cond v9 (r 4 (c (.string ⟨#[112,97,108,108,101,116]⟩))) .skip)) (q (.dreg (.eff true [(l 0 (f 3 p1)),(l 0 (d (o2 (.aadr 4 1) v3 i1))),(l 0 (f 4 p1)),(l
 0 (d (o2 (.aadr 4 1) v3 i3))),(l 0 (f 5 p1))] ⟨[(l 10 (b .add v4 (c (.string ⟨#[58]⟩)))),(l 13 (f 3 p1)),(l 14 (d (o2 (.aadr 4 1) v3 i1))),(l 17 (f 4 p1)),(l 18 (d (o2 (.aadr 4 1)
 v3 i3))),(l 21 (f 5 p1))],U (.ef [] (.call 85) [(f 1 p1)] (U 11))⟩ (.eff true [] ⟨[(l 12 (b .add (b .add v10 v11) (c (.string ⟨#[46]⟩))))],U (.ef [] (.call 179) [v13,v14]
 (U 15))⟩ (.eff true [] ⟨[(l 16 (b .add (b .add v12 v15) (c (.string ⟨#[46]⟩))))],U (.ef [] (.call 179) [v17,v18] (U 19))⟩ (.eff false [] ⟨[(l 20 (b .add (b .add v16 v19)
 (c (.string ⟨#[46]⟩))))],U (.ef [] (.call 85) [v21] (U 22))⟩ (.done (s [(l 2 (b .add v20 v22))]))))))) .ret)))))),[v2]⟩
def F165 : SFun := ⟨1,34,(q (.reg [(w 1 (c g6)),(s [(l 2 (c .nilIface))])]) (q (.reg [(k 180 [v0,(c (.string ⟨#[58]⟩))] 15),(s [(l 3 (x 0 v15)),(l 4 (x 1 v15)),(l 33 (x 2 v15))])]) (q (.reg [(k 181
 [v4,(c (.string ⟨#[46]⟩))] 16),(s [(l 5 v16)])]) (q (q (r 17 (b .neq (o .llen v5) i4)) (.cond v17 (q (.reg [⟨[(l 18 (o (.iface 111) i4))],U (.pst 1 (.upd (.cnt 1) 1 6 p1 (c
 g6)))⟩,(s [(l 2 v18)])]) .ret) .skip)) (q (r1 (e (.new 162) [(c (.agg #[y,y,y,y]))] 6)) (q (q (r1 (s [(l 19 v5),(l 20 (o .llen v5)),(l 21 i0)])) (m 0 (q (r 22 (b .lss v21 v20)) (q
 (h v22 0) (q (.block 1 (q (r1 (s [(l 7 v21),(l 8 (d (j 1 v19 v21)))])) (q (.reg [(k 182 [v8] 23),(s [(l 9 (x 0 v23)),(l 10 (x 1 v23))])]) (q (q (r 24 (o .not v10)) (.cond v24 (q
 (.reg [⟨[(l 25 (o (.iface 111) i4))],U (.pst 1 (.upd (.cnt 1) 1 6 p1 (c g6)))⟩,(s [(l 2 v25)])]) .ret) .skip)) (r1 ⟨[],U (.ef [] (.st 1) [(o2 (.aadr 4 1) v6 v7),v9]
 O)⟩))))) (r 21 (b .add v21 i1))))))) (q (.dreg (.eff true [(l 0 (d (o2 (.aadr 4 1) v6 i0))),(l 0 (d (o2 (.aadr 4 1) v6 i1))),(l 0 (d (o2 (.aadr 4 1) v6 i2))),(l 0 (d (o2 (.aadr
 4 1) v6 i3))),(l 0 (d (j 1 v5 i1)))] ⟨[(l 26 (u 5 1 (u 4 1 (u 3 1 (u 2 1 (u 1 1 (c g6) (d (o2 (.aadr 4 1) v6 i0))) (b .sub (i 6) (o .slen (d (j 1 v5 i1))))) (d (o2 (.aadr 4 1) v6
 i1))) (d (o2 (.aadr 4 1) v6 i2))) (d (o2 (.aadr 4 1) v6 i3))))],U (.ef [] (.new 138) [(c g6)] (U 11))⟩ (.eff false [] ⟨[],U (.ef [] (.st 6) [v11,(v 26)] O)⟩ (.done (s
 []))))) (q (q (r 12 i1) (m 2 (q (q (r 27 (b .leq v12 i3)) (h (v 27) 2)) (q (.block 3 (q (.reg [(k 177 [v12] 28),(s [(l 29 (b .eql (v 28) v3))])]) (.cond (v 29) (r1 ⟨[],U (.ef []
 (.st 1) [(a 0 v11),v12] O)⟩) .skip))) (r 12 (b .add v12 i1)))))) (q (.reg [(k 163 [(o (.ldn 6) v11)] 30),(s [(l 13 (x 0 (v 30))),(l 14 (x 1 (v 30)))])]) (q (q (r 31 (.pick (o2
 (.eqv .iface true) v14 (c .nilIface)) t (b .neq v13 v0))) (.cond (v 31) (q (.reg [⟨[(l 32 (o (.iface 111) i4))],U (.pst 1 (.upd (.cnt 1) 1 6 p1 (c g6)))⟩,(s [(l 2 (v 32))])])
 .ret) .skip)) (q (.reg [⟨[],U (.pst 1 (.upd (.cnt 1) 1 6 p1 (o (.ldn 6) v11)))⟩,(s [(l 2 (c .nilIface))])]) .ret))))))))))),[(o (.ldn 6) p1),v2]⟩
def F166 : SFun := ⟨1,26,(q (.reg [(w 1 (c g6)),(s [(l 2 z)])]) (q (.reg [(k 183 [v0,(c (.int .u8 58))] 12),(s [(l 3 v12)])]) (q (q (r 13 (b .neq (o .llen v3) i2)) (.cond v13 (q (.reg [⟨[],U (.pst
 1 (.upd (.cnt 1) 1 6 p1 (c g6)))⟩,(s [(l 2 z)])]) .ret) .skip)) (q (.reg [(k 183 [(d (j 1 v3 i1)),(c (.int .u8 46))] 14),(s [(l 4 v14)])]) (q (q (r 15 (b .neq (o .llen v4) i4))
 (.cond v15 (q (.reg [⟨[],U (.pst 1 (.upd (.cnt 1) 1 6 p1 (c g6)))⟩,(s [(l 2 z)])]) .ret) .skip)) (q (r1 (e (.new 162) [(c (.agg #[y,y,y,y]))] 5)) (q (q (r 6 i0) (m 0 (q (q (r 16
 (b .lss v6 i4)) (h v16 0)) (q (.block 1 (q (.reg [(k 184 [(d (j 1 v4 v6))] 17),(s [(l 7 (x 0 v17)),(l 8 (x 1 v17))])]) (q (q (r 18 (o .not v8)) (.cond v18 (q (.reg [⟨[],U (.pst
 1 (.upd (.cnt 1) 1 6 p1 (c g6)))⟩,(s [(l 2 z)])]) .ret) .skip)) (r1 ⟨[],U (.ef [] (.st 1) [(o2 (.aadr 4 1) v5 v6),v7] O)⟩)))) (r 6 (b .add v6 i1)))))) (q (q (r 9 i1) (m 2 (q
 (q (r 19 (b .leq v9 i3)) (h v19 2)) (q (.block 3 (q (r 10 i0) (m 4 (q (q (r 20 (b .lss v10 (i 6))) (h v20 4)) (q (.block 5 (q (.reg [⟨[(l 21 (u 5 1 (u 4 1 (u 3 1 (u 2 1 (u 1 1 (u 0
 1 (c g6) v9) (d (o2 (.aadr 4 1) v5 i0))) v10) (d (o2 (.aadr 4 1) v5 i1))) (d (o2 (.aadr 4 1) v5 i2))) (d (o2 (.aadr 4 1) v5 i3))))],U (.pnew 11 (c g6))⟩,⟨[],U (.pst 11 (.upd
 (.cnt 11) 11 6 (p 11) v21))⟩]) (q (.reg [(k 128 [(o (.ldn 6) (p 11))] 22),⟨[(l 23 (b .eql v22 i0))],U (.ef [((b .eql v22 i0),true)] (.call 164) [(o (.ldn 6) (p 11))] (U
 24))⟩,(s [(l 25 (.pick v23 (b .eql v24 v0) z))])]) (.cond v25 (q (.reg [⟨[],U (.pst 1 (.upd (.cnt 1) 1 6 p1 (o (.ldn 6) (p 11))))⟩,(s [(l 2 t)])]) .ret) .skip)))) (r 10 (b .add
 v10 i1))))))) (r 9 (b .add v9 i1)))))) (q (.reg [⟨[],U (.pst 1 (.upd (.cnt 1) 1 6 p1 (c g6)))⟩,(s [(l 2 z)])]) .ret))))))))),[(o (.ldn 6) p1),v2]⟩
def F168 : SFun := ⟨1,9,(q (.reg [(w 1 v0),(s [(l 2 i0)])]) (q (q (r 4 (.pick (b .lss (o .slen (f 0 p1)) i1) t (b .gtr (o .slen (f 0 p1)) (i 12)))) (.cond v4 (q (r 2 i4) .ret) .skip)) (q (q (r 3 i0)
 (m 0 (q (q (r 5 (b .lss v3 (o .slen (f 0 p1)))) (h v5 0)) (q (.block 1 (q (r 6 (.pick (b .lss (o2 .sidx (f 0 p1) v3) (c (.int .u8 97))) t (b .gtr (o2 .sidx (f 0 p1) v3) (c (.int
 .u8 122))))) (.cond v6 (q (r 2 i4) .ret) .skip))) (r 3 (b .add v3 i1)))))) (q (q (r 7 (.pick (.pick (.pick (.pick (.pick (.pick (.pick (.pick (.pick (b .lss (f 1 p1) i0) t (b .gtr
 (f 1 p1) i3)) t (b .lss (f 2 p1) i0)) t (b .gtr (f 2 p1) (i 7))) t (b .lss (f 3 p1) i0)) t (b .gtr (f 3 p1) (i 7))) t (b .lss (f 4 p1) (i (-1)))) t (b .gtr (f 4 p1) (i 7))) t (b
 .lss (f 5 p1) i1)) t (b .gtr (f 5 p1) (i 50)))) (.cond v7 (q (r 2 i1) .ret) .skip)) (q (q (r 8 (.pick (.pick (b .eql (f 2 p1) (f 3 p1)) t (b .eql (f 2 p1) (f 4 p1))) t (b .eql (f 3
 p1) (f 4 p1)))) (.cond v8 (q (r 2 i3) .ret) .skip)) (q (r 2 i0) .ret)))))),[v2]⟩
def F169 : SFun := ⟨1,22,(q (.reg [(w 1 v0),(s [(l 2 (c y0)),(l 3 (c .nilIface))])]) (q (.reg [(k 170 [(o (.ldn 6) p1)] 6),(s [(l 4 v6)])]) (q (q (r 7 (o2 (.eqv .iface true) v4 (c .nilIface))) (.cond
 v7 (q (r1 (s [(l 2 (c y0)),(l 3 v4)])) .ret) .skip)) (q (.dreg (.eff true [(l 0 (f 0 p1)),(l 0 (f 1 p1)),(l 0 (f 2 p1)),(l 0 (f 3 p1))] ⟨[(l 8 (b .add (f 0 p1) (c (.string
 ⟨#[58,32]⟩)))),(l 10 (f 1 p1)),(l 12 (f 2 p1)),(l 15 (f 3 p1))],U (.ef [] (.call 185) [] (U 9))⟩ (.eff true [] ⟨[(l 11 (b .add (b .add v8 (o2 (.vidx 4) v9 v10)) (c (.string
 ⟨#[32]⟩))))],U (.ef [] (.call 176) [v12] (U 13))⟩ (.eff true [] ⟨[(l 14 (b .add (b .add v11 v13) (c (.string ⟨#[32,116,104,101,110,32]⟩))))],U (.ef [] (.call 176) [v15]
 (U 16))⟩ (.done (s [(l 5 (b .add v14 v16))])))))) (q (q (r 17 (b .geq (f 4 p1) i0)) (.cond v17 (.reg [⟨[(l 18 v5)],U (.ef [] (.call 176) [(f 4 p1)] (U 19))⟩,(s [(l 5 (b
 .add v18 (b .add (c (.string ⟨#[32,119,105,116,104,111,117,116,32]⟩)) v19)))])]) .skip)) (q (.reg [⟨[(l 20 (b .add v5 (c (.string ⟨#[32,119,105,116,104,105,110,32]⟩))))],U (.ef
 [] (.call 176) [(f 5 p1)] (U 21))⟩,(s [(l 2 (b .add v20 v21)),(l 3 (c .nilIface))])]) .ret)))))),[v2,v3]⟩
def F170 : SFun := ⟨1,7,(q (.reg [(w 1 v0),(s [(l 2 (c .nilIface))])]) (q (q (.reg [(k 186 [(f 0 p1)] 3),(s [(l 4 (o .not v3))])]) (.cond v4 (q (r 2 (o (.iface 111) i4)) .ret) .skip)) (q (q (r 5
 (.pick (.pick (.pick (.pick (.pick (.pick (.pick (.pick (.pick (b .lss (f 1 p1) i0) t (b .gtr (f 1 p1) i3)) t (b .lss (f 2 p1) i0)) t (b .geq (f 2 p1) (i 8))) t (b .lss (f 3 p1)
 i0)) t (b .geq (f 3 p1) (i 8))) t (b .lss (f 4 p1) (i (-1)))) t (b .geq (f 4 p1) (i 8))) t (b .lss (f 5 p1) i1)) t (b .gtr (f 5 p1) (i 50)))) (.cond v5 (q (r 2 (o (.iface 111) i1))
 .ret) .skip)) (q (q (r 6 (.pick (.pick (b .eql (f 2 p1) (f 3 p1)) t (b .eql (f 4 p1) (f 2 p1))) t (b .eql (f 4 p1) (f 3 p1)))) (.cond v6 (q (r 2 (o (.iface 111) i3)) .ret) .skip))
 (q (r 2 (c .nilIface)) .ret))))),[v2]⟩
def F171 : SFun := ⟨1,18,(q (.reg [(w 1 v0),(s [(l 2 (c y0))])]) (q (.dreg (.eff true [(l 0 (f 0 p1)),(l 0 (f 1 p1)),(l 0 (f 2 p1)),(l 0 (f 3 p1))] ⟨[(l 4 (b .add (f 0 p1) (c (.string
 ⟨#[58,32]⟩)))),(l 6 (f 1 p1)),(l 8 (f 2 p1)),(l 11 (f 3 p1))],U (.ef [] (.call 187) [] (U 5))⟩ (.eff true [] ⟨[(l 7 (b .add (b .add v4 (o2 (.vidx 4) v5 v6)) (c (.string
 ⟨#[32]⟩))))],U (.ef [] (.call 85) [v8] (U 9))⟩ (.eff true [] ⟨[(l 10 (b .add (b .add v7 v9) (c (.string ⟨#[32,116,104,101,110,32]⟩))))],U (.ef [] (.call 85) [v11] (U
 12))⟩ (.done (s [(l 3 (b .add v10 v12))])))))) (q (q (r 13 (b .geq (f 4 p1) i0)) (.cond v13 (.reg [⟨[(l 14 (b .add v3 (c (.string ⟨#[32,119,105,116,104,111,117,116,32]⟩))))],U
 (.ef [] (.call 85) [(f 4 p1)] (U 15))⟩,(s [(l 3 (b .add v14 v15))])]) .skip)) (q (.reg [⟨[(l 16 (b .add v3 (c (.string ⟨#[32,119,105,116,104,105,110,32]⟩))))],U (.ef []
 (.call 85) [(f 5 p1)] (U 17))⟩,(s [(l 2 (b .add v16 v17))])]) .ret)))),[v2]⟩
def F172 : SFun := ⟨1,32,(q (.reg [(w 1 (c (.agg #[y0,y,y,y,y,y]))),(s [(l 2 (c .nilIface))])]) (q (.reg [(k 181 [v0,(c (.string ⟨#[32]⟩))] 13),(e (.new 29) [(c (.slice O 0 0))] 3),⟨[],U (.ef
 [] (.st 1) [v3,v13] O)⟩]) (q (.reg [⟨[(l 14 (u 4 1 (u 1 1 (c (.agg #[y0,y,y,y,y,y])) (i (-1))) (i (-1))))],U (.pnew 4 (c (.agg #[y0,y,y,y,y,y])))⟩,⟨[],U (.pst 4 (.upd
 (.cnt 4) 4 6 p4 v14))⟩]) (q (.reg [(e (.new 3) [i0] 5),⟨[],U (.ef [] (.st 1) [v5,i0] O)⟩]) (q (.reg [⟨[(l 15 (o2 .capp (o2 .capp (.mkf 188) v5) v3))],U (.ef [] (.new 219)
 [(c .nilFunc)] (U 6))⟩,⟨[],U (.ef [] (.st 1) [v6,v15] O)⟩]) (q (r 7 (o2 .capp (.mkf 189) v6)) (q (.reg [(e .cal [(d v6)] 16),(k 191 [v16,(c (.string ⟨#[58]⟩))]
 17),⟨[],U (.pst 4 (.upd (.cnt 4) 4 1 (a 0 p4) v17))⟩]) (q (.reg [(e .cal [(d v6)] 18),(s [(l 8 v18)])]) (q (q (.reg [(k 185 [] 19),(s [(l 20 i0)])]) (m 0 (q (r 21 (b .lss v20
 i4)) (q (h v21 0) (q (.block 1 (q (r1 (s [(l 9 v20),(l 10 (o2 (.vidx 4) v19 v20))])) (q (r 22 (b .eql v10 v8)) (.cond v22 (r1 ⟨[],U (.pst 4 (.upd (.cnt 4) 4 1 (a 1 p4) v9))⟩)
 .skip)))) (r 20 (b .add v20 i1))))))) (q (.reg [(e .cal [v7] 23),⟨[],U (.pst 4 (.upd (.cnt 4) 4 1 (a 2 p4) v23))⟩]) (q (r1 ⟨[],U (.ef [] .cal [(d v6)] O)⟩) (q (.reg [(e
 .cal [v7] 24),⟨[],U (.pst 4 (.upd (.cnt 4) 4 1 (a 3 p4) v24))⟩]) (q (q (.reg [(e .cal [(d v6)] 25),(s [(l 26 (b .eql v25 (c (.string ⟨#[119,105,116,104,111,117,116]⟩))))])])
 (.cond (v 26) (q (.reg [(e .cal [v7] 27),⟨[],U (.pst 4 (.upd (.cnt 4) 4 1 (a 4 p4) (v 27)))⟩]) (r1 ⟨[],U (.ef [] .cal [(d v6)] O)⟩)) .skip)) (q (.reg [(e .cal [v7]
 28),⟨[],U (.pst 4 (.upd (.cnt 4) 4 1 (a 5 p4) (v 28)))⟩]) (q (.reg [(k 169 [(o (.ldn 6) p4)] 29),(s [(l 11 (x 0 (v 29))),(l 12 (x 1 (v 29)))])]) (q (q (r 30 (.pick (o2 (.eqv
 .iface true) v12 (c .nilIface)) t (b .neq v11 v0))) (.cond (v 30) (q (.reg [⟨[(l 31 (o (.iface 111) i4))],U (.pst 1 (.upd (.cnt 1) 1 6 p1 (c (.agg #[y0,y,y,y,y,y]))))⟩,(s [(l 2
 (v 31))])]) .ret) .skip)) (q (.reg [⟨[],U (.pst 1 (.upd (.cnt 1) 1 6 p1 (o (.ldn 6) p4)))⟩,(s [(l 2 (c .nilIface))])]) .ret))))))))))))))))),[(o (.ldn 6) p1),v2]⟩
def F173 : SFun := ⟨1,33,(q (.reg [(w 1 (c (.agg #[y0,y,y,y,y,y]))),(s [(l 2 z)])]) (q (.reg [(k 183 [v0,(c (.int .u8 32))] 14),(s [(l 3 v14)])]) (q (q (r 15 (.pick (.pick (b .neq (o .llen v3) (i 7))
 (b .neq (o .llen v3) (i 9)) z) t (b .eql (o .slen (d (j 1 v3 i0))) i0))) (.cond v15 (q (.reg [⟨[],U (.pst 1 (.upd (.cnt 1) 1 6 p1 (c (.agg #[y0,y,y,y,y,y]))))⟩,(s [(l 2 z)])])
 .ret) .skip)) (q (.dreg (.eff true [(l 0 (d (j 1 v3 i0))),(l 0 (d (j 1 v3 i0)))] ⟨[(l 16 (u 4 1 (u 1 1 (u 0 1 (c (.agg #[y0,y,y,y,y,y])) (.o3 .ssl (d (j 1 v3 i0)) i0 (b .sub (o
 .slen (d (j 1 v3 i0))) i1))) (i (-1))) (i (-1))))],U (.ef [] (.new 240) [(c (.agg #[y0,y,y,y,y,y]))] (U 4))⟩ (.eff false [] ⟨[],U (.ef [] (.st 6) [v4,v16] O)⟩ (.done (s
 []))))) (q (q (r 5 i0) (m 0 (q (q (r 17 (b .lss v5 i4)) (h v17 0)) (q (.block 1 (q (.dreg (.eff true [(l 0 (d (j 1 v3 i1)))] ⟨[(l 19 v5),(l 20 (d (j 1 v3 i1)))],U (.ef [] (.call
 187) [] (U 18))⟩ (.done (s [(l 21 (b .eql (o2 (.vidx 4) v18 v19) v20))])))) (.cond v21 (r1 ⟨[],U (.ef [] (.st 1) [(a 1 v4),v5] O)⟩) .skip))) (r 5 (b .add v5 i1)))))) (q
 (.reg [(k 184 [(d (j 1 v3 i2))] 22),(s [(l 6 (x 0 v22)),(l 7 (x 1 v22))])]) (q (.reg [(k 184 [(d (j 1 v3 i4))] 23),(s [(l 8 (x 0 v23)),(l 9 (x 1 v23))])]) (q (.reg [(k 184 [(d (j 1
 v3 (b .sub (o .llen v3) i1)))] 24),(s [(l 10 (x 0 v24)),(l 11 (x 1 v24))])]) (q (q (r 25 (.pick (.pick (o .not v7) t (o .not v9)) t (o .not v11))) (.cond v25 (q (.reg [⟨[],U
 (.pst 1 (.upd (.cnt 1) 1 6 p1 (c (.agg #[y0,y,y,y,y,y]))))⟩,(s [(l 2 z)])]) .ret) .skip)) (q (r1 ⟨[],U (.ef [] (.st 1) [(a 2 v4),v6] O)⟩) (q (r1 ⟨[],U (.ef [] (.st 1) [(a
 3 v4),v8] O)⟩) (q (r1 ⟨[],U (.ef [] (.st 1) [(a 5 v4),v10] O)⟩) (q (q (r 26 (b .eql (o .llen v3) (i 9))) (.cond (v 26) (q (.reg [(k 184 [(d (j 1 v3 (i 6)))] 27),(s [(l 12
 (x 0 (v 27))),(l 13 (x 1 (v 27)))])]) (q (q (r 28 (o .not v13)) (.cond (v 28) (q (.reg [⟨[],U (.pst 1 (.upd (.cnt 1) 1 6 p1 (c (.agg #[y0,y,y,y,y,y]))))⟩,(s [(l 2 z)])]) .ret)
 .skip)) (r1 ⟨[],U (.ef [] (.st 1) [(a 4 v4),v12] O)⟩))) .skip)) (q (q (.reg [(k 168 [(o (.ldn 6) v4)] 29),⟨[(l 30 (b .gtr (v 29) i0))],U (.ef [((b .gtr (v 29) i0),false)]
 (.call 171) [(o (.ldn 6) v4)] (U 31))⟩,(s [(l 32 (.pick (v 30) t (b .neq (v 31) v0)))])]) (.cond (v 32) (q (.reg [⟨[],U (.pst 1 (.upd (.cnt 1) 1 6 p1 (c (.agg
 #[y0,y,y,y,y,y]))))⟩,(s [(l 2 z)])]) .ret) .skip)) (q (.reg [⟨[],U (.pst 1 (.upd (.cnt 1) 1 6 p1 (o (.ldn 6) v4)))⟩,(s [(l 2 t)])]) .ret))))))))))))))),[(o (.ldn 6) p1),v2]⟩
def F174 : SFun := ⟨4,23,(q (.reg [(w 4 v1),(s [(l 5 z)])]) (q (q (.reg [(k 170 [(o (.ldn 6) p4)] 10),⟨[(l 11 (o2 (.eqv .iface true) v10 (c .nilIface)))],U (.ef [((o2 (.eqv .iface true) v10 (c
 .nilIface)),false)] (.call 50) [v0,v2,(f 3 p4),v3] (U 12))⟩,(s [(l 13 (.pick v11 t (o .not v12)))])]) (.cond v13 (q (r 5 z) .ret) .skip)) (q (.reg [(k 81 [v2] 14),⟨[(l 15 (x 0
 v14)),(l 16 (x 1 v14))],U (.pnew 6 (c g6))⟩,⟨[],U (.pst 6 (.upd (.cnt 6) 6 6 (p 6) v15))⟩,(s [(l 7 v16)])]) (q (q (r 17 (.pick (o2 (.eqv .iface true) v7 (c .nilIface)) t
 (.pick (b .gtr (f 1 p4) i0) (b .neq (f 0 (p 6)) (f 1 p4)) z))) (.cond v17 (q (r 5 z) .ret) .skip)) (q (q (r 8 (b .sub v3 i1)) (m 0 (q (q (r 18 (b .geq v8 (o2 .max i0 (b .sub v3 (f
 5 p4))))) (h v18 0)) (q (.block 1 (q (q (r1 (k 50 [v0,v2,(f 2 p4),v8] 19)) (.cond v19 (q (r 5 t) .ret) .skip)) (q (.reg [(k 30 [v0,v2,v8] 20),(s [(l 9 (x 0 v20)),(l 22 (x 1
 v20))])]) (q (r 21 (.pick (b .geq (f 4 p4) i0) (b .eql v9 (f 4 p4)) z)) (.cond v21 (q (r 5 z) .ret) .skip))))) (r 8 (b .sub v8 i1)))))) (q (r 5 z) .ret)))))),[v5]⟩
def F175 : SFun := ⟨4,24,(q (.reg [(w 4 v1),(s [(l 5 z)])]) (q (.reg [(k 83 [v2] 11),(s [(l 6 v11)])]) (q (q (.reg [(k 168 [(o (.ldn 6) p4)] 12),(s [(l 13 (.pick (.pick (b .gtr v12 i0) t (b .eql v6
 i0)) t (.pick (b .gtr (f 1 p4) i0) (b .neq (f 1 p4) v6) z)))])]) (.cond v13 (q (r 5 z) .ret) .skip)) (q (.reg [(k 53 [v0,v2,(f 3 p4),v3] 14),(s [(l 7 v14)])]) (q (q (r 15 (o .not
 v7)) (.cond v15 (q (r 5 z) .ret) .skip)) (q (q (r 8 (o2 .max i0 (b .sub v3 (f 5 p4)))) (m 0 (q (q (r 16 (b .lss v8 v3)) (h v16 0)) (q (.block 1 (q (.reg [(k 53 [v0,v2,(f 2 p4),v8]
 17),(s [(l 9 v17)])]) (q (q (r 10 (b .add v8 i1)) (m 2 (q (q (r 18 (.pick (b .lss v10 v3) v9 z)) (h v18 2)) (q (.block 3 (q (.dreg (.eff true [⟨[((b .geq (f 4 p4) i0),true)],0,(f 4
 p4)⟩] ⟨[(l 19 (b .geq (f 4 p4) i0)),⟨[((b .geq (f 4 p4) i0),true)],21,(f 4 p4)⟩],U (.ef [((b .geq (f 4 p4) i0),true)] (.call 70) [v0,v2,v10] (U 20))⟩ (.done (s [(l 22 (.pick
 v19 (b .eql v20 v21) z))])))) (.cond v22 (r 9 z) .skip))) (r 10 (b .add v10 i1)))))) (q (r 23 v9) (.cond v23 (q (r 5 t) .ret) .skip))))) (r 8 (b .add v8 i1)))))) (q (r 5 z)
 .ret))))))),[v5]⟩
def F177 : SFun := ⟨1,2,(q (r 1 (c y0)) (q (r 1 (o2 (.vidx 3) (u 2 1 (u 1 1 (u 0 1 (c (.agg #[y0,y0,y0])) (c (.string ⟨#[105,116,101,109]⟩))) (c (.string ⟨#[99,97,115,101]⟩))) (c (.string
 ⟨#[112,97,108,108,101,116]⟩))) (b .sub v0 i1))) .ret)),[v1]⟩
def F178 : SFun := ⟨2,6,(q (r 2 (c y0)) (q (.reg [(k 176 [v0] 4),(s [(l 3 v4)])]) (q (.reg [(k 193 [(c (.string ⟨#[48]⟩)),(o2 .max i0 (b .sub v1 (o .slen v3)))] 5),(s [(l 2 (b .add v5 v3))])])
 .ret))),[v2]⟩
def F179 : SFun := ⟨2,6,(q (r 2 (c y0)) (q (.reg [(k 85 [v0] 4),(s [(l 3 v4)])]) (q (m 0 (q (q (r 5 (b .lss (o .slen v3) v1)) (h v5 0)) (.block 1 (r 3 (b .add (c (.string ⟨#[48]⟩)) v3))))) (q (r 2
 v3) .ret)))),[v2]⟩
def F182 : SFun := ⟨1,10,(q (r1 (s [(l 1 i0),(l 2 z)])) (q (q (r 5 (.pick (b .eql v0 (c y0)) t (b .gtr (o .slen v0) (i 8)))) (.cond v5 (q (r1 (s [(l 1 i0),(l 2 z)])) .ret) .skip)) (q (r 3 i0) (q (q
 (r1 (s [(l 6 (o .slen v0)),(l 7 i0)])) (m 0 (q (r 8 (b .lss v7 v6)) (q (h v8 0) (q (.block 1 (q (r 4 v7) (q (q (r 9 (.pick (b .lss (o2 .sidx v0 v4) (c (.int .u8 48))) t (b .gtr (o2
 .sidx v0 v4) (c (.int .u8 57))))) (.cond v9 (q (r1 (s [(l 1 i0),(l 2 z)])) .ret) .skip)) (r 3 (b .add (b .mul (i 10) v3) (o (.conv .i64) (b .sub (o2 .sidx v0 v4) (c (.int .u8
 48))))))))) (r 7 (b .add v7 i1))))))) (q (r1 (s [(l 1 v3),(l 2 t)])) .ret))))),[v1,v2]⟩
def F183 : SFun := ⟨2,11,(q (r 2 (c (.slice O 0 0))) (q (r 3 (c (.slice O 0 0))) (q (r 4 i0) (q (q (r 5 i0) (m 0 (q (q (r 6 (b .leq v5 (o .slen v0))) (h v6 0)) (q (.block 1 (q (r 7 (.pick (b
 .eql v5 (o .slen v0)) t (b .eql (o2 .sidx v0 v5) v1))) (.cond v7 (q (.reg [⟨[(l 8 v3)],U (.ef [] (.bsl 9 1) [(u 0 1 (c (.agg #[y0])) (.o3 .ssl v0 v4 v5))] (U 9))⟩,(e (.app 9
 1 16) [v8,v9] 10),(s [(l 3 v10)])]) (r 4 (b .add v5 i1))) .skip))) (r 5 (b .add v5 i1)))))) (q (r 2 v3) .ret))))),[v2]⟩
def F184 : SFun := ⟨1,7,(q (r1 (s [(l 1 i0),(l 2 z)])) (q (r 3 i0) (q (q (r 4 i0) (m 0 (q (q (r 5 (b .lss v4 (o .slen v0))) (h v5 0)) (q (.block 1 (q (q (r 6 (.pick (.pick (b .lss (o2 .sidx v0 v4) (c
 (.int .u8 48))) t (b .gtr (o2 .sidx v0 v4) (c (.int .u8 57)))) t (b .gtr v4 (i 8)))) (.cond v6 (q (r1 (s [(l 1 i0),(l 2 z)])) .ret) .skip)) (r 3 (b .add (b .mul (i 10) v3) (o
 (.conv .i64) (b .sub (o2 .sidx v0 v4) (c (.int .u8 48)))))))) (r 4 (b .add v4 i1)))))) (q (r1 (s [(l 1 v3),(l 2 (b .neq v0 (c y0)))])) .ret)))),[v1,v2]⟩
def F185 : SFun := ⟨0,1,(q (r1 (w 0 (c (.agg #[y0,y0,y0,y0])))) (q (r1 ⟨[],U (.pst 0 (.upd (.cnt 0) 0 4 (p 0) (u 3 1 (u 2 1 (u 1 1 (u 0 1 (c (.agg #[y0,y0,y0,y0])) (c (.string ⟨#[97,110,121]⟩)))
 (c (.string ⟨#[105,116,101,109]⟩))) (c (.string ⟨#[99,97,115,101]⟩))) (c (.string ⟨#[112,97,108,108,101,116]⟩)))))⟩) .ret)),[(o (.ldn 4) (p 0))]⟩
def F186 : SFun := ⟨1,7,(q (r 1 z) (q (q (r1 (s [(l 3 (o .slen v0)),(l 4 i0)])) (m 0 (q (r 5 (b .lss v4 v3)) (q (h v5 0) (q (.block 1 (q (r 2 v4) (q (r 6 (.pick (b .lss (o2 .sidx v0 v2) (c (.int .u8
 97))) t (b .gtr (o2 .sidx v0 v2) (c (.int .u8 122))))) (.cond v6 (q (r 1 z) .ret) .skip)))) (r 4 (b .add v4 i1))))))) (q (r 1 (.pick (b .neq v0 (c y0)) (b .leq (o .slen v0) (i 12))
 z)) .ret))),[v1]⟩
def F187 : SFun := ⟨0,1,(q (r1 (w 0 (c (.agg #[y0,y0,y0,y0])))) (q (r1 ⟨[],U (.pst 0 (.upd (.cnt 0) 0 4 (p 0) (u 3 1 (u 2 1 (u 1 1 (u 0 1 (c (.agg #[y0,y0,y0,y0])) (c (.string ⟨#[97,110,121]⟩)))
 (c (.string ⟨#[105,116,101,109]⟩))) (c (.string ⟨#[99,97,115,101]⟩))) (c (.string ⟨#[112,97,108,108,101,116]⟩)))))⟩) .ret)),[(o (.ldn 4) (p 0))]⟩
def F188 : SFun := ⟨2,4,(q (r 2 (c y0)) (q (q (r 3 (b .eql (d v0) (o .llen (d v1)))) (.cond v3 (q (r 2 (c y0)) .ret) .skip)) (q (r1 ⟨[],U (.ef [] (.st 1) [v0,(b .add (d v0) i1)] O)⟩) (q (r 2 (d
 (j 1 (d v1) (b .sub (d v0) i1)))) .ret)))),[v2]⟩
def F189 : SFun := ⟨1,7,(q (r 1 i0) (q (.reg [(e .cal [(d v0)] 4),(k 190 [v4] 5),(s [(l 2 (x 0 v5)),(l 3 (x 1 v5))])]) (q (q (r 6 (o2 (.eqv .iface true) v3 (c .nilIface))) (.cond v6 (q (r 1 (i (-2)))
 .ret) .skip)) (q (r 1 v2) .ret)))),[v1]⟩
def F266 : SFun := ⟨2,47,(q (.reg [(w 2 v0),(s [(l 3 (c (.pointer O))),(l 4 (c .nilIface))])]) (q (.dreg (.alt true [(l 0 (o (.ldn 22) p2))] ⟨[(l 11 (o (.ldn 22) p2)),(l 12 v1),(l 15 (u 3 1 (u 2 1
 (u 1 1 (u 0 1 (c (.agg #[y,y,y,y])) (i (-1))) (i (-1))) (i (-1))) (i (-1))))],U (.ef [] (.app 240 6 56) [(c (.slice O 0 0)),v1] (U 13))⟩ (.eff true [] (e .mnew [] 14)
 (.eff false [] (e (.new 344) [(u 31 4 (u 38 1 (u 22 1 (u 0 22 (c (.agg #[y,y,y,y,y,y,y,y,y,y,y,y,y,y,y,y,y,y,y,y,y,y,(.slice O 0 0),y0,y,y0,y,y0,y,y0,y,y,y,y,y,(.pointer
 O),(.pointer O),(.pointer O),(.map O),y,y,y,y,y,(.slice O 0 0)])) v11) v13) v14) v15)] 16) (.done (s [(l 5 v16)])))) true [(l 0 (o (.ldn 22) p2))] ⟨[(l 11 (o (.ldn
 22) p2)),(l 12 v1),(l 15 (u 3 1 (u 2 1 (u 1 1 (u 0 1 (c (.agg #[y,y,y,y])) (i (-1))) (i (-1))) (i (-1))) (i (-1))))],U (.ef [] .mnew [] (U 14))⟩ (.eff true [] (e (.app 240 6
 56) [(c (.slice O 0 0)),v12] 13) (.eff false [] (e (.new 344) [(u 31 4 (u 38 1 (u 22 1 (u 0 22 (c (.agg #[y,y,y,y,y,y,y,y,y,y,y,y,y,y,y,y,y,y,y,y,y,y,(.slice O 0
 0),y0,y,y0,y,y0,y,y0,y,y,y,y,y,(.pointer O),(.pointer O),(.pointer O),(.map O),y,y,y,y,y,(.slice O 0 0)])) v11) v13) v14) v15)] 16) (.done (s [(l 5 v16)])))))) (q (r
 6 (c .nilIface)) (q (.reg [⟨[(l 17 v5)],U (.ef [] (.call 33) [(f 0 p2),(f 1 p2)] (U 18))⟩,⟨[(l 19 (x 1 v18))],U (.ef [] (.st 1) [(a 35 (n v17)),(x 0 v18)] O)⟩,(s [(l 6
 v19)])]) (q (q (r 20 (o2 (.eqv .iface true) v6 (c .nilIface))) (.cond v20 (q (r1 (s [(l 3 (c (.pointer O))),(l 4 v6)])) .ret) .skip)) (q (.reg [⟨[(l 21 v5)],U (.ef [] (.call
 28) [(f 2 p2),(f 3 p2)] (U 22))⟩,⟨[(l 23 (x 1 v22))],U (.ef [] (.st 1) [(a 36 (n v21)),(x 0 v22)] O)⟩,(s [(l 6 v23)])]) (q (q (r 24 (o2 (.eqv .iface true) v6 (c
 .nilIface))) (.cond v24 (q (r1 (s [(l 3 (c (.pointer O))),(l 4 v6)])) .ret) .skip)) (q (.dreg (.eff false [] ⟨[(l 25 v5)],U (.ef [] (.call 44) [(f 36 (n v5)),(f 4 p2),(f 5
 p2)] (U 26))⟩ (.eff false [] ⟨[(l 27 (x 1 (v 26)))],U (.ef [] (.st 1) [(a 37 (n v25)),(x 0 (v 26))] O)⟩ (.done (s [(l 6 (v 27))]))))) (q (q (r 28 (o2 (.eqv .iface true) v6
 (c .nilIface))) (.cond (v 28) (q (r1 (s [(l 3 (c (.pointer O))),(l 4 v6)])) .ret) .skip)) (q (q (r1 (s [(l 29 (o (.ldn 16) (a 6 p2))),(l 30 i0)])) (m 0 (q (r 31 (b .lss (v 30)
 i4)) (q (h (v 31) 0) (q (.block 1 (q (.reg [⟨[(l 32 (o2 (.vidxn 4 4) (v 29) (v 30)))],U (.pnew 7 (c (.agg #[y,y,y,y])))⟩,⟨[],U (.pst 7 (.upd (.cnt 7) 7 4 (p 7) (v 32)))⟩]) (q
 (r1 (s [(l 33 (o (.ldn 4) (p 7))),(l 34 i0)])) (m 2 (q (r 35 (b .lss (v 34) i4)) (q (h (v 35) 2) (q (.block 3 (q (r 8 (o2 (.vidx 4) (v 33) (v 34))) (q (r 36 (.pick (b .lss v8 (i
 (-1))) t (b .geq v8 (i 8)))) (.cond (v 36) (q (r1 (s [(l 3 (c (.pointer O))),(l 4 (o (.iface 111) i1))])) .ret) .skip)))) (r 34 (b .add (v 34) i1))))))))) (r 30 (b .add (v 30)
 i1))))))) (q (q (r 37 (b .gtr (o .llen v1) (i 6))) (.cond (v 37) (q (r1 (s [(l 3 (c (.pointer O))),(l 4 (o (.iface 111) i2))])) .ret) .skip)) (q (.reg [(e .mnew [] 38),(s [(l 9
 (v 38))])]) (q (q (r1 (s [(l 39 v1),(l 40 (o .llen v1)),(l 41 i0)])) (m 4 (q (r 42 (b .lss (v 41) (v 40))) (q (h (v 42) 4) (q (.block 5 (q (.reg [⟨[(l 43 (o (.ldn 6) (j 6 (v 39) (v
 41))))],U (.pnew 10 (c (.agg #[y0,y,y,y,y,y])))⟩,⟨[],U (.pst 10 (.upd (.cnt 10) 10 6 (p 10) (v 43)))⟩]) (q (.reg [(k 170 [(o (.ldn 6) (p 10))] 44),(s [(l 6 (v 44))])]) (q (q
 (r 45 (o2 (.eqv .iface true) v6 (c .nilIface))) (.cond (v 45) (q (r1 (s [(l 3 (c (.pointer O))),(l 4 v6)])) .ret) .skip)) (q (q (r 46 (o2 (.lkp .str (.bool false)) v9 (f 0 (p
 10)))) (.cond (v 46) (q (r1 (s [(l 3 (c (.pointer O))),(l 4 (o (.iface 111) (i 7)))])) .ret) .skip)) (r1 ⟨[],U (.ef [] (.mupd .str) [v9,(f 0 (p 10)),t] O)⟩)))))) (r 41 (b
 .add (v 41) i1))))))) (q (r1 (s [(l 3 v5),(l 4 (c .nilIface))])) .ret)))))))))))))),[v3,v4]⟩
def F267 : SFun := ⟨2,17,(q (.reg [(e (.new 319) [v0] 2),(s [(l 3 i0)])]) (q (q (r 8 (.pick (.pick (.pick (.pick (.pick (.pick (.pick (.pick (.pick (.pick (.pick (b .lss (f 0 v2) i1) t (b .gtr (f 0
 v2) (i 50))) t (b .lss (f 1 v2) i0)) t (b .gtr (f 1 v2) (i 50))) t (b .lss (f 2 v2) i1)) t (b .gtr (f 2 v2) (i 8))) t (b .lss (f 3 v2) i1)) t (b .gtr (f 3 v2) (f 2 v2))) t (b .lss
 (f 4 v2) i1)) t (b .gtr (f 4 v2) (i 8))) t (b .lss (f 5 v2) i1)) t (b .gtr (f 5 v2) (f 4 v2)))) (.cond v8 (q (r 3 i1) .ret) .skip)) (q (q (r 4 i0) (m 0 (q (q (r 9 (b .lss v4 (i
 16))) (h v9 0)) (q (.block 1 (q (r 10 (.pick (b .lss (d (o2 (.aadr 4 1) (o2 (.aadr 4 4) (a 6 v2) (b .quo v4 i4)) (b .rem v4 i4))) (i (-1))) t (b .gtr (d (o2 (.aadr 4 1) (o2 (.aadr
 4 4) (a 6 v2) (b .quo v4 i4)) (b .rem v4 i4))) (i 7)))) (.cond v10 (q (r 3 i1) .ret) .skip))) (r 4 (b .add v4 i1)))))) (q (q (r 11 (b .gtr (o .llen v1) (i 6))) (.cond v11 (q (r 3
 i2) .ret) .skip)) (q (q (r 5 i0) (m 2 (q (q (r 12 (b .lss v5 (o .llen v1))) (h v12 2)) (q (.block 3 (q (q (.reg [(k 168 [(o (.ldn 6) (j 6 v1 v5))] 13),(s [(l 6 v13)])]) (q (r 14 (b
 .gtr v6 i0)) (.cond v14 (q (r 3 v6) .ret) .skip))) (q (r 7 i0) (m 4 (q (q (r 15 (b .lss v7 v5)) (h v15 4)) (q (.block 5 (q (.dreg (.done (s [(l 16 (b .eql (f 0 (j 6 v1 v7)) (f 0 (j
 6 v1 v5))))]))) (.cond v16 (q (r 3 (i 7)) .ret) .skip))) (r 7 (b .add v7 i1)))))))) (r 5 (b .add v5 i1)))))) (q (r 3 i0) .ret)))))),[v3]⟩
def F268 : SFun := ⟨2,10,(q (.reg [(w 2 v0),(s [(l 3 (c (.pointer O)))])]) (q (.reg [(e (.new 337) [(u 31 4 (u 0 22 (c (.agg #[y,y,y,y,y,y,y,y,y,y,y,y,y,y,y,y,y,y,y,y,y,y,(.slice O 0
 0),y0,y,y0,y,y0,y,y0,y,y,y,y,y,y,y,y,(.slice O 0 0),(.pointer O),(.slice O 0 0),y,y,y,y,y])) (o (.ldn 22) p2)) (u 3 1 (u 2 1 (u 1 1 (u 0 1 (c (.agg #[y,y,y,y])) (i (-1)))
 (i (-1))) (i (-1))) (i (-1))))] 5),(s [(l 4 v5)])]) (q (.reg [⟨[(l 6 v4)],U (.ef [] (.app 240 6 56) [(f 22 (n v4)),v1] (U 7))⟩,⟨[],U (.ef [] (.st 1) [(a 22 (n v6)),v7]
 O)⟩]) (q (r1 ⟨[],U (.ef [] (.st 4) [(a 35 (n v4)),(u 1 1 (u 0 1 (c (.agg #[y,y,y,(.slice O 0 0)])) (f 0 p2)) (f 1 p2))] O)⟩) (q (.reg [⟨[(l 8 v4)],U (.ef [] (.call
 51) [(f 2 p2),(f 3 p2)] (U 9))⟩,⟨[],U (.ef [] (.st 1) [(a 39 (n v8)),v9] O)⟩]) (q (r 3 v4) .ret)))))),[v3]⟩
def F269 : SFun := ⟨2,16,(q (r1 (s [(l 2 i0),(l 3 (c .nilIface))])) (q (.reg [(k 34 [(f 35 (n v0)),v1] 7),(s [(l 4 (x 0 v7)),(l 5 (x 1 v7))])]) (q (q (r 8 (o2 (.eqv .iface true) v5 (c .nilIface)))
 (.cond v8 (q (r1 (s [(l 2 i0),(l 3 v5)])) .ret) .skip)) (q (q (r1 (s [(l 9 v4),(l 10 (o .llen v4)),(l 11 i0)])) (m 0 (q (r 12 (b .lss v11 v10)) (q (h v12 0) (q (.block 1 (q (.reg
 [⟨[(l 13 (o (.ldn 2) (j 2 v9 v11)))],U (.pnew 6 (c (.agg #[y,(.slice O 0 0)])))⟩,⟨[],U (.pst 6 (.upd (.cnt 6) 6 2 (p 6) v13))⟩]) (q (.dreg (.eff false [] (k 29 [(f 36 (n
 v0)),(f 1 (p 6))] 14) (.done (s [(l 5 v14)])))) (q (q (r 15 (o2 (.eqv .iface true) v5 (c .nilIface))) (.cond v15 (q (r1 (s [(l 2 i0),(l 3 v5)])) .ret) .skip)) (q (r1 ⟨[],U (.ef
 [] (.call 46) [(f 37 (n v0))] O)⟩) (r1 ⟨[],U (.ef [] (.call 277) [v0,(f 0 (p 6))] O)⟩)))))) (r 11 (b .add v11 i1))))))) (q (r1 (s [(l 2 (o .llen v4)),(l 3 (c
 .nilIface))])) .ret))))),[v2,v3]⟩
def F270 : SFun := ⟨2,9,(q (r1 (s [(l 2 i0),(l 3 i0)])) (q (.reg [(k 35 [(a 35 (n v0)),v1] 7),(s [(l 4 (x 0 v7)),(l 5 (x 1 v7))])]) (q (q (r 6 i0) (m 0 (q (q (r 8 (b .lss v6 (o .llen v4))) (h v8 0))
 (q (.block 1 (.dreg (.eff false [] ⟨[],U (.ef [] (.call 45) [(f 39 (n v0)),(f 1 (j 2 v4 v6))] O)⟩ (.done (s []))))) (r 6 (b .add v6 i1)))))) (q (r1 (s [(l 2 (o .llen v4)),(l
 3 v5)])) .ret)))),[v2,v3]⟩
def F271 : SFun := ⟨3,22,(q (r1 (s [(l 3 i0),(l 4 (c .nilIface))])) (q (q (r 8 (.pick (b .lss v1 i0) t (b .geq v1 i4))) (.cond v8 (q (r1 (s [(l 3 i0),(l 4 (o (.iface 111) i1))])) .ret) .skip)) (q (q
 (r 9 (b .gtr (o .slen v2) (i 2000))) (.cond v9 (q (r1 (s [(l 3 i0),(l 4 (o (.iface 111) i2))])) .ret) .skip)) (q (.reg [(k 24 [(o2 (.aadr 4 2) (a 23 (n v0)) v1),v2] 10),(s [(l 5
 v10)])]) (q (q (r1 (s [(l 11 v5),(l 12 (o .llen v5)),(l 13 i0)])) (m 0 (q (r 14 (b .lss v13 v12)) (q (h v14 0) (q (.block 1 (q (.reg [⟨[(l 15 (o (.ldn 3) (j 3 v11 v13)))],U
 (.pnew 6 (c (.agg #[y,(.slice O 0 0),y])))⟩,⟨[],U (.pst 6 (.upd (.cnt 6) 6 3 (p 6) v15))⟩]) (q (q (r1 (s [(l 16 (f 1 (p 6))),(l 17 (o .llen (f 1 (p 6)))),(l 18 i0)])) (m 2 (q
 (r 19 (b .lss v18 v17)) (q (h v19 2) (q (.block 3 (q (.reg [⟨[(l 20 (o (.ldn 4) (j 4 v16 v18)))],U (.pnew 7 (c (.agg #[y,y,y,y0])))⟩,⟨[],U (.pst 7 (.upd (.cnt 7) 7 4 (p 7)
 v20))⟩]) (r1 ⟨[],U (.ef [] (.call 278) [v0,v1,(o (.ldn 4) (p 7))] O)⟩))) (r 18 (b .add v18 i1))))))) (q (r 21 (b .eql (f 0 (p 6)) i3)) (.cond v21 (.dreg (.eff false []
 ⟨[],U (.ef [] (.st 1) [(o2 (.aadr 4 1) (a 31 (n v0)) v1),(f 2 (p 6))] O)⟩ (.done (s [])))) .skip))))) (r 13 (b .add v13 i1))))))) (q (r1 (s [(l 3 (o .llen v5)),(l 4 (c
 .nilIface))])) .ret)))))),[v3,v4]⟩
def F272 : SFun := ⟨3,14,(q (r1 (s [(l 3 i0),(l 4 i0)])) (q (q (r 8 (.pick (b .lss v1 i0) t (b .gtr v1 i3))) (.cond v8 (q (r1 (s [(l 3 i0),(l 4 i1)])) .ret) .skip)) (q (q (r 9 (b .gtr (o .slen v2) (i
 2000))) (.cond v9 (q (r1 (s [(l 3 i0),(l 4 i2)])) .ret) .skip)) (q (.reg [(k 25 [(o2 (.aadr 4 2) (a 23 (n v0)) v1),v2] 10),(s [(l 5 v10)])]) (q (q (r 6 i0) (m 0 (q (q (r 11 (b .lss
 v6 (o .llen v5))) (h v11 0)) (q (.block 1 (q (q (r 12 (b .eql (f 0 (j 3 v5 v6)) i3)) (.cond v12 (.dreg (.eff false [] ⟨[],U (.ef [] (.st 1) [(o2 (.aadr 4 1) (a 31 (n v0)) v1),(f
 2 (j 3 v5 v6))] O)⟩ (.done (s [])))) .skip)) (q (r 7 i0) (m 2 (q (q (r 13 (b .lss v7 (o .llen (f 1 (j 3 v5 v6))))) (h v13 2)) (q (.block 3 (r1 ⟨[],U (.ef [] (.call 279)
 [v0,v1,(o (.ldn 4) (j 4 (f 1 (j 3 v5 v6)) v7))] O)⟩)) (r 7 (b .add v7 i1)))))))) (r 6 (b .add v6 i1)))))) (q (r1 (s [(l 3 (o .llen v5)),(l 4 i0)])) .ret)))))),[v3,v4]⟩
def F274:SFun:=⟨3,6,(q (r1 (s [(l 3 i0),(l 4 (c .nilIface))])) (q (.reg [(k 30 [(f 36 (n v0)),v1,v2] 5),(s [(l 3 (x 0 v5)),(l 4 (x 1 v5))])]) .ret)),[v3,v4]⟩
def F277 : SFun := ⟨2,27,(q (r1 (e (.new 29) [(c (.slice O 0 0))] 2)) (q (q (r1 (k 54 [(f 36 (n v0))] 7)) (.block 0 (.rfn 71 3 7 8 (r 3 v8) (.block 1 (.reg [⟨[(l 9 (d v2))],U (.ef [] (.bsl 9 1)
 [(u 0 1 (c (.agg #[y0])) v3)] (U 10))⟩,(e (.app 9 1 16) [v9,v10] 11),⟨[],U (.ef [] (.st 1) [v2,v11] O)⟩]))))) (q (r1 ⟨[],U (.ef [] (.call 67) [(d v2)] O)⟩) (q (r1 (s
 [(l 12 (f 22 (n v0))),(l 13 (o .llen (f 22 (n v0)))),(l 14 i0)])) (m 2 (q (r 15 (b .lss v14 v13)) (q (h v15 2) (q (.block 3 (q (.reg [⟨[(l 16 v14),(l 17 (o (.ldn 6) (j 6 v12
 v14)))],U (.ef [] (.new 240) [(c (.agg #[y0,y,y,y,y,y]))] (U 5))⟩,⟨[(l 4 v16)],U (.ef [] (.st 6) [v5,v17] O)⟩]) (q (r1 (s [(l 18 (d v2)),(l 19 (o .llen (d v2))),(l 20
 i0)])) (m 4 (q (r 21 (b .lss v20 v19)) (q (h v21 4) (q (.block 5 (q (r 6 (d (j 1 v18 v20))) (q (.dreg (.eff false [] (k 174 [(f 36 (n v0)),(o (.ldn 6) v5),v6,v1] 22) (.done (s
 [])))) (.cond v22 (.reg [⟨[(l 23 v0),(l 24 (f 44 (n v0)))],U (.ef [] (.bsl 352 1) [(u 0 3 (c (.agg #[y,y,y0])) (u 2 1 (u 1 1 (u 0 1 (c (.agg #[y,y,y0])) v4) v1) v6))] (U
 25))⟩,(e (.app 352 3 32) [v24,v25] 26),⟨[],U (.ef [] (.st 1) [(a 44 (n v23)),(v 26)] O)⟩]) .skip)))) (r 20 (b .add v20 i1))))))))) (r 14 (b .add v14 i1)))))))))),[]⟩
def F278 : SFun := ⟨3,22,(q (r1 (w 3 v2)) (q (q (.reg [(k 81 [(f 3 p3)] 8),⟨[(l 9 (x 0 v8)),(l 10 (x 1 v8))],U (.pnew 4 (c g6))⟩,⟨[],U (.pst 4 (.upd (.cnt 4) 4 6 p4 v9))⟩,(s [(l 5 v10)])]) (q
 (r 11 (o2 (.eqv .iface true) v5 (c .nilIface))) (.cond v11 (q (r1 ⟨[],U (.ef [] (.st 1) [(a 1 (a 39 (n v0))),(b .add (f 1 (a 39 (n v0))) i1)] O)⟩) .ret) .skip))) (q (.dreg
 (.done (s [(l 6 (d (o2 (.aadr 4 1) (o2 (.aadr 4 4) (a 6 (a 0 (n v0))) v1) (f 0 p3))))]))) (q (q (r 12 (b .lss v6 i0)) (.cond v12 (q (r1 ⟨[],U (.ef [] (.st 1) [(a 2 (a 39 (n
 v0))),(b .add (f 2 (a 39 (n v0))) i1)] O)⟩) .ret) .skip)) (q (q (.dreg (.done (s [(l 13 (.pick (o .not (o2 (.lkp .str (.bool false)) (f 38 (n v0)) (f 3 p3))) (b .eql (o .mlen (f
 38 (n v0))) (i 12)) z))]))) (.cond v13 (q (r1 ⟨[],U (.ef [] (.st 1) [(a 4 (a 39 (n v0))),(b .add (f 4 (a 39 (n v0))) i1)] O)⟩) .ret) .skip)) (q (.dreg (.eff true [(l 0 (f 1
 p3)),(l 0 (f 2 p3)),(l 0 (f 3 p3)),(l 0 (f 35 (n v0)))] ⟨[(l 14 (f 35 (n v0))),(l 15 v6),(l 16 (f 1 p3)),(l 18 (f 2 p3)),(l 19 (f 3 p3))],U (.ef [] (.call 39) [(f 35 (n v0))]
 (U 17))⟩ (.eff false [] (k 37 [v14,(u 3 1 (u 2 1 (u 1 1 (u 0 1 (c (.agg #[y,y,y,y0])) v15) v16) (b .sub v17 v18)) v19)] 20) (.done (s [(l 7 v20)]))))) (q (q (r 21 (o2 (.eqv
 .iface true) v7 (c .nilIface))) (.cond v21 (q (r1 ⟨[],U (.ef [] (.st 1) [(a 3 (a 39 (n v0))),(b .add (f 3 (a 39 (n v0))) i1)] O)⟩) .ret) .skip)) (.dreg (.eff false []
 ⟨[],U (.ef [] (.mupd .str) [(f 38 (n v0)),(f 3 p3),t] O)⟩ (.done (s []))))))))))),[]⟩
def F279 : SFun := ⟨3,19,(q (r1 (w 3 v2)) (q (r 4 z) (q (q (r 5 i0) (m 0 (q (q (r 7 (b .lss v5 (o .llen (f 40 (n v0))))) (h v7 0)) (q (.block 1 (.dreg (.done (s [(l 4 (.pick v4 t (b .eql (d (j 1 (f
 40 (n v0)) v5)) (f 3 p3))))])))) (r 5 (b .add v5 i1)))))) (q (.dreg (.done (s [(l 6 (d (o2 (.aadr 4 1) (o2 (.aadr 4 4) (a 6 (a 0 (n v0))) v1) (f 0 p3))))]))) (q (.reg [(k 83 [(f 3
 p3)] 8),(s [(l 9 (b .eql v8 i0))])]) (.cond v9 (r1 ⟨[],U (.ef [] (.st 1) [(a 1 (a 41 (n v0))),(b .add (f 1 (a 41 (n v0))) i1)] O)⟩) (q (r 10 (b .lss v6 i0)) (.cond v10 (r1
 ⟨[],U (.ef [] (.st 1) [(a 2 (a 41 (n v0))),(b .add (f 2 (a 41 (n v0))) i1)] O)⟩) (q (r 11 (.pick (o .not v4) (b .eql (o .llen (f 40 (n v0))) (i 12)) z)) (.cond v11 (r1
 ⟨[],U (.ef [] (.st 1) [(a 4 (a 41 (n v0))),(b .add (f 4 (a 41 (n v0))) i1)] O)⟩) (q (.dreg (.eff false [] (k 38 [(a 35 (n v0)),(u 3 1 (u 2 1 (u 1 1 (u 0 1 (c (.agg
 #[y,y,y,y0])) v6) (f 1 p3)) (b .sub (f 2 (a 35 (n v0))) (f 2 p3))) (f 3 p3))] 12) (.done (s [(l 13 (b .gtr v12 i0))])))) (.cond v13 (r1 ⟨[],U (.ef [] (.st 1) [(a 3 (a 41 (n
 v0))),(b .add (f 3 (a 41 (n v0))) i1)] O)⟩) (q (r 14 (o .not v4)) (.cond v14 (.dreg (.eff true [(l 0 (f 40 (n v0)))] ⟨[(l 15 v0),(l 16 (f 40 (n v0)))],U (.ef [] (.bsl 9 1)
 [(u 0 1 (c (.agg #[y0])) (f 3 p3))] (U 17))⟩ (.eff false [] (e (.app 9 1 16) [v16,v17] 18) (.eff false [] ⟨[],U (.ef [] (.st 1) [(a 40 (n v15)),v18] O)⟩ (.done (s []))))))
 .skip)))))))))))))),[]⟩
def F280 : SFun := ⟨1,9,(q (r1 (w 1 (c g5))) (q (.reg [⟨[(l 4 (o (.ldn 5) (a 39 (n v0))))],U (.pnew 2 (c g5))⟩,⟨[],U (.pst 2 (.upd (.cnt 2) 2 5 p2 v4))⟩]) (q (q (r 5 i0) (m 0 (q (r 6 (b .lss v5
 i4)) (q (h v6 0) (q (.block 1 (q (r 3 v5) (.dreg (.eff true [(l 0 (f 0 p2))] ⟨[(l 7 (f 0 p2))],U (.ef [] (.call 26) [(o2 (.aadr 4 2) (a 23 (n v0)) v3)] (U 8))⟩ (.eff false []
 ⟨[],U (.pst 2 (.upd (.cnt 2) 2 1 (a 0 p2) (b .add v7 v8)))⟩ (.done (s []))))))) (r 5 (b .add v5 i1))))))) (q (r1 ⟨[],U (.pst 1 (.upd (.cnt 1) 1 5 p1 (o (.ldn 5) p2)))⟩)
 .ret)))),[(o (.ldn 5) p1)]⟩
def F281 : SFun := ⟨1,6,(q (r1 (w 1 (c g5))) (q (.reg [⟨[(l 4 (o (.ldn 5) (a 41 (n v0))))],U (.pnew 2 (c g5))⟩,⟨[],U (.pst 2 (.upd (.cnt 2) 2 5 p2 v4))⟩]) (q (q (r 3 i0) (m 0 (q (q (r 5 (b .lss
 v3 i4)) (h v5 0)) (q (.block 1 (.dreg (.eff false [] ⟨[],U (.pst 2 (.upd (.cnt 2) 2 1 (a 0 p2) (b .add (f 0 p2) (f 1 (o2 (.aadr 4 2) (a 23 (n v0)) v3)))))⟩ (.done (s []))))) (r
 3 (b .add v3 i1)))))) (q (r1 ⟨[],U (.pst 1 (.upd (.cnt 1) 1 5 p1 (o (.ldn 5) p2)))⟩) .ret)))),[(o (.ldn 5) p1)]⟩
def F283:SFun:=⟨1,3,(q (r 1 (c (.slice O 0 0))) (q (.reg [(e (.app 352 3 32) [(c (.slice O 0 0)),(f 44 (n v0))] 2),(s [(l 1 v2)])]) .ret)),[v1]⟩
def F284 : SFun := ⟨1,17,(q (r 1 (c (.slice O 0 0))) (q (r 2 (c (.slice O 0 0))) (q (q (r 3 i0) (m 0 (q (q (r 8 (b .lss v3 (o .llen (f 2 (n (f 39 (n v0))))))) (h v8 0)) (q (.block 1 (q (.reg
 [(k 14 [(f 39 (n v0)),v3] 9),(s [(l 4 v9)])]) (q (r 5 i0) (m 2 (q (q (r 10 (b .lss v5 (o .llen (f 22 (n v0))))) (h v10 2)) (q (.block 3 (q (r 6 i0) (m 4 (q (q (r 11 (b .lss v6 (o
 .llen v4))) (h v11 4)) (q (.block 5 (q (.dreg (.eff false [] (k 175 [(f 39 (n v0)),(o (.ldn 6) (j 6 (f 22 (n v0)) v5)),(d (j 1 v4 v6)),v3] 12) (.done (s [(l 7 v12)])))) (q (r 13
 v7) (.cond v13 (.reg [⟨[(l 14 v2)],U (.ef [] (.bsl 352 1) [(u 0 3 (c (.agg #[y,y,y0])) (u 2 1 (u 1 1 (u 0 1 (c (.agg #[y,y,y0])) v5) v3) (d (j 1 v4 v6))))] (U 15))⟩,(e (.app
 352 3 32) [v14,v15] 16),(s [(l 2 v16)])]) .skip)))) (r 6 (b .add v6 i1))))))) (r 5 (b .add v5 i1)))))))) (r 3 (b .add v3 i1)))))) (q (r 1 v2) .ret)))),[v1]⟩
def F285 : SFun := ⟨2,5,(q (r1 (s [(l 2 i0),(l 3 (c .nilIface))])) (q (q (r 4 (.pick (b .lss v1 i0) t (b .geq v1 i4))) (.cond v4 (q (r1 (s [(l 2 i0),(l 3 (o (.iface 111) i1))])) .ret) .skip)) (q (r1
 (s [(l 2 (d (o2 (.aadr 4 1) (a 31 (n v0)) v1))),(l 3 (c .nilIface))])) .ret))),[v2,v3]⟩
def F286 : SFun := ⟨3,10,(q (r1 (s [(l 3 (c y0)),(l 4 (c .nilIface))])) (q (.reg [(k 30 [(f 36 (n v0)),v1,v2] 6),(s [(l 5 (x 1 v6)),(l 9 (x 0 v6))])]) (q (q (r 7 (o2 (.eqv .iface true) v5 (c
 .nilIface))) (.cond v7 (q (r1 (s [(l 3 (c y0)),(l 4 v5)])) .ret) .skip)) (q (.reg [(k 49 [(f 37 (n v0)),v1,v2] 8),(s [(l 3 (x 0 v8)),(l 4 (x 1 v8))])]) .ret)))),[v3,v4]⟩
def F287 : SFun := ⟨3,11,(q (r1 (s [(l 3 (c y0)),(l 4 i0)])) (q (.reg [(k 52 [(f 39 (n v0)),v1,v2] 6),(s [(l 5 (x 1 v6)),(l 10 (x 0 v6))])]) (q (q (r 7 (b .gtr v5 i0)) (.cond v7 (q (r1 (s [(l 3 (c
 y0)),(l 4 v5)])) .ret) .skip)) (q (.dreg (.eff false [] ⟨[(l 9 v2)],U (.ef [] (.call 48) [(f 39 (n v0)),v1,(b .add v2 i1),(f 4 (a 0 (n v0))),(f 5 (a 0 (n v0)))] (U 8))⟩
 (.done (s [(l 3 (d (j 1 v8 v9))),(l 4 i0)])))) .ret)))),[v3,v4]⟩
def F300 : SFun := ⟨1,33,(q (r 1 z) (q (.reg [(k 301 [] 11),(s [(l 2 v11)])]) (q (q (r 12 (.pick (o .not v2) t (b .gtr (o .llen v0) (i 110)))) (.cond v12 (q (r 1 v2) .ret) .skip)) (q (q (r 3 i0) (m 0
 (q (q (r 13 (b .lss v3 (o .llen v0))) (h v13 0)) (q (.block 1 (q (r 14 (b .gtr (o .slen (d (j 1 v0 v3))) (i 400))) (.cond v14 (q (r 1 t) .ret) .skip))) (r 3 (b .add v3 i1)))))) (q
 (.reg [(e (.app 9 1 16) [(c (.slice O 0 0)),v0] 15),(e (.bsl 9 1) [(u 0 1 (c (.agg #[y0])) (c (.string ⟨#[109,97,114,107]⟩)))] 16),(e (.app 9 1 16) [v15,v16] 17),(s [(l 4 (.o3
 (.lsl 1) v17 i0 (o .llen v0)))])]) (q (.reg [(k 302 [v4] 18),(s [(l 5 (x 0 v18)),(l 6 (x 1 v18))])]) (q (q (r 19 (b .gtr (o .llen v0) (i 100))) (.cond v19 (q (.reg [(k 19 [v6,i2]
 20),(s [(l 1 (.pick v20 (b .eql (o .llen v5) i0) z))])]) .ret) .skip)) (q (.reg [(k 303 [] 21),(s [(l 7 v21)])]) (q (r 8 (c (.slice O 0 0))) (q (q (r 9 i0) (m 2 (q (q (r 22 (b
 .lss v9 (o .llen v0))) (h v22 2)) (q (.block 3 (q (q (r 23 (.pick (o2 (.eqv .ptr true) (f 23 (n v7)) (c (.pointer O))) (b .gtr (o .llen (f 2 (n (f 39 (n (f 23 (n v7))))))) (i
 60)) z)) (.cond v23 (q (r 1 t) .ret) .skip)) (q (.reg [(k 304 [v7,(d (j 1 v0 v9))] 24),(s [(l 10 v24)])]) (.reg [⟨[(l 25 v8)],U (.ef [] (.bsl 9 1) [(u 0 1 (c (.agg #[y0])) v10)]
 (U 26))⟩,(e (.app 9 1 16) [v25,(v 26)] 27),(s [(l 8 (v 27))])])))) (r 9 (b .add v9 i1)))))) (q (.reg [(k 19 [v6,i0] 28),⟨[(l 29 (v 28))],U (.ef [((v 28),true)] (.call 305)
 [v5,v8] (U 30))⟩,⟨[(l 31 (.pick (v 29) (v 30) z))],U (.ef [((.pick (v 29) (v 30) z),true)] (.call 305) [v4,v0] (U 32))⟩,(s [(l 1 (.pick (v 31) (v 32) z))])])
 .ret))))))))))),[v1]⟩
def F301 : SFun := ⟨0,10,(q (r 0 z) (q (.reg [(e (.bsl 9 8) [(u 7 1 (u 6 1 (u 5 1 (u 4 1 (u 3 1 (u 2 1 (u 1 1 (u 0 1 (c (.agg #[y0,y0,y0,y0,y0,y0,y0,y0])) (c (.string
 ⟨#[115,101,116,32,49,32,48,32,49,32,49,32,49,32,49]⟩))) (c (.string ⟨#[97,116,32,48,32,48,32,50]⟩))) (c (.string ⟨#[115,116,97,114,116]⟩))) (c (.string
 ⟨#[114,101,97,100,32,48,32,48,32,57,32,48,32,105,116,101,109,58,48,46,48,48,48,48,48,49,46,50,46,51]⟩))) (c (.string ⟨#[116,105,99,107,32,49]⟩))) (c (.string
 ⟨#[119,104,101,114,101,32,48,32,105,116,101,109,58,48,46,48,48,48,48,48,49,46,50,46,51]⟩))) (c (.string ⟨#[100,114,111,112,115]⟩))) (c (.string ⟨#[102,108,121]⟩)))] 3),(k 302 [v3]
 4),(s [(l 1 (x 0 v4)),(l 2 (x 1 v4))])]) (q (.reg [(k 19 [v2,i0] 5),⟨[(l 6 v5),⟨[(v5,true)],7,v1⟩],U (.ef [(v5,true)] (.bsl 9 8) [(u 7 1 (u 6 1 (u 5 1 (u 4 1 (u 3 1 (u 2 1 (u 1
 1 (u 0 1 (c (.agg #[y0,y0,y0,y0,y0,y0,y0,y0])) (c (.string ⟨#[111,107]⟩))) (c (.string ⟨#[111,107]⟩))) (c (.string ⟨#[111,107]⟩))) (c (.string ⟨#[49]⟩))) (c (.string ⟨#[49]⟩))) (c
 (.string ⟨#[50]⟩))) (c (.string ⟨#[48,32,48,32,48,32,48,32,48]⟩))) (c (.string ⟨#[101,114,114,111,114,32,52]⟩)))] (U 8))⟩,⟨[],U (.ef [(v6,true)] (.call 305) [v7,v8] (U
 9))⟩,(s [(l 0 (.pick v6 v9 z))])]) .ret))),[v0]⟩
def F302 : SFun := ⟨1,26,(q (r1 (s [(l 1 (c (.slice O 0 0))),(l 2 (c .nilIface))])) (q (q (r 10 (b .gtr (o .llen v0) (i 100))) (.cond v10 (q (r1 (s [(l 1 (c (.slice O 0 0))),(l 2 (o (.iface
 111) i2))])) .ret) .skip)) (q (.reg [(e (.new 373) [(c (.agg #[y,y,y,y,y,y,y,y,y,y,y,y,y,y,y,y,y,y,y,y,y,y,(.slice O 0 0),(.pointer O)]))] 11),(s [(l 3 v11)])]) (q (q (r 12
 i0) (m 0 (q (r 13 (b .lss v12 i4)) (q (h v13 0) (q (.block 1 (q (r 4 v12) (q (r 14 i0) (m 2 (q (r 15 (b .lss v14 i4)) (q (h v15 2) (q (.block 3 (q (r 5 v14) (r1 ⟨[],U (.ef []
 (.st 1) [(o2 (.aadr 4 1) (o2 (.aadr 4 4) (a 6 (a 0 (n v3))) v4) v5),(i (-1))] O)⟩))) (r 14 (b .add v14 i1))))))))) (r 12 (b .add v12 i1))))))) (q (r 6 (c (.slice O 0 0))) (q
 (q (r1 (s [(l 16 v0),(l 17 (o .llen v0)),(l 18 i0)])) (m 4 (q (r 19 (b .lss v18 v17)) (q (h v19 4) (q (.block 5 (q (r 7 (d (j 1 v16 v18))) (q (.reg [(k 306 [v3,v7] 20),(s [(l 8 (x
 0 v20)),(l 9 (x 1 v20))])]) (q (q (r 21 (o .not v9)) (.cond v21 (.reg [(k 307 [(o (.iface 111) i4)] 22),(s [(l 8 v22)])]) .skip)) (.reg [⟨[(l 23 v6)],U (.ef [] (.bsl 9 1) [(u 0
 1 (c (.agg #[y0])) v8)] (U 24))⟩,(e (.app 9 1 16) [v23,v24] 25),(s [(l 6 v25)])]))))) (r 18 (b .add v18 i1))))))) (q (r1 (s [(l 1 v6),(l 2 (c .nilIface))])) .ret))))))),[v1,v2]⟩
def F303 : SFun := ⟨0,5,(q (r 0 (c (.pointer O))) (q (.reg [(e (.new 369) [(c (.agg #[y,y,y,y,y,y,y,y,y,y,y,y,y,y,y,y,y,y,y,y,y,y,(.slice O 0 0),(.pointer O)]))] 3),(s [(l 1 v3)])]) (q (q (r
 2 i0) (m 0 (q (q (r 4 (b .lss v2 (i 16))) (h v4 0)) (q (.block 1 (r1 ⟨[],U (.ef [] (.st 1) [(o2 (.aadr 4 1) (o2 (.aadr 4 4) (a 6 (a 0 (n v1))) (b .quo v2 i4)) (b .rem v2 i4)),(i
 (-1))] O)⟩)) (r 2 (b .add v2 i1)))))) (q (r 0 v1) .ret)))),[v0]⟩
def F304 : SFun := ⟨2,49,(q (r 2 (c y0)) (q (q (r 14 (b .gtr (o .slen v1) (i 300))) (.cond v14 (q (.reg [(k 308 [i4] 15),(s [(l 2 v15)])]) .ret) .skip)) (q (q (r 16 (.pick (b .gtr (o .slen v1) i4) (b
 .eql (.o3 .ssl v1 i0 (i 5)) (c (.string ⟨#[114,117,108,101,32]⟩))) z)) (.cond v16 (q (.reg [(k 173 [(.o3 .ssl v1 (i 5) (o .slen v1))] 17),⟨[(l 18 (x 0 v17)),(l 19 (x 1 v17))],U
 (.pnew 3 (c (.agg #[y0,y,y,y,y,y])))⟩,⟨[],U (.pst 3 (.upd (.cnt 3) 3 6 p3 v18))⟩,(s [(l 4 v19)])]) (q (q (r 20 (o .not v4)) (.cond v20 (q (.reg [(k 308 [i4] 21),(s [(l 2
 v21)])]) .ret) .skip)) (q (.dreg (.eff true [(l 0 (f 22 (n v0)))] ⟨[(l 22 v0),(l 23 (f 22 (n v0)))],U (.ef [] (.bsl 240 1) [(u 0 6 (c (.agg #[y0,y,y,y,y,y])) (o (.ldn 6) p3))]
 (U 24))⟩ (.eff false [] (e (.app 240 6 56) [v23,v24] 25) (.eff false [] ⟨[],U (.ef [] (.st 1) [(a 22 (n v22)),v25] O)⟩ (.done (s [])))))) (q (r 2 (c (.string
 ⟨#[111,107]⟩))) .ret)))) .skip)) (q (.reg [(k 183 [v1,(c (.int .u8 32))] 26),(s [(l 5 (v 26))])]) (q (.reg [(k 309 [(d (j 1 v5 i0))] 27),(s [(l 6 (x 0 (v 27))),(l 7 (x 1 (v
 27)))])]) (q (q (r 28 (b .neq (o .llen v5) (b .add (b .add i1 v6) v7))) (.cond (v 28) (q (.reg [(k 308 [i4] 29),(s [(l 2 (v 29))])]) .ret) .skip)) (q (r1 (e (.new 378) [(c g6)] 8))
 (q (q (r 9 i0) (m 0 (q (q (r 30 (b .lss v9 v6)) (h (v 30) 0)) (q (.block 1 (q (.reg [(k 310 [(d (j 1 v5 (b .add i1 v9)))] 31),(s [(l 10 (x 0 (v 31))),(l 11 (x 1 (v 31)))])]) (q (q
 (r 32 (o .not v11)) (.cond (v 32) (q (.reg [(k 308 [i4] 33),(s [(l 2 (v 33))])]) .ret) .skip)) (r1 ⟨[],U (.ef [] (.st 1) [(o2 (.aadr 6 1) v8 v9),v10] O)⟩)))) (r 9 (b .add v9
 i1)))))) (q (q (r 34 (d (j 1 v5 i0))) (.block 2 (q (r 35 (b .eql (v 34) (c (.string ⟨#[115,101,116]⟩)))) (.cond (v 35) (q (.reg [⟨[(l 36 (o (.ldn 16) (a 6 (a 0 (n v0)))))],U
 (.pnew 12 (c (.agg #[y,y,y,y,y,y,y,y,y,y,y,y,y,y,y,y])))⟩,⟨[],U (.pst 12 (.upd (.cnt 12) 12 16 (p 12) (v 36)))⟩]) (q (r1 ⟨[],U (.ef [] (.st 22) [(a 0 (n v0)),(u 6 16 (u 5 1
 (u 4 1 (u 3 1 (u 2 1 (u 1 1 (u 0 1 (c g22) (d (o2 (.aadr 6 1) v8 i0))) (d (o2 (.aadr 6 1) v8 i1))) (d (o2 (.aadr 6 1) v8 i2))) (d (o2 (.aadr 6 1) v8 i3))) (d (o2 (.aadr 6 1) v8
 i4))) (d (o2 (.aadr 6 1) v8 (i 5)))) (o (.ldn 16) (p 12)))] O)⟩) (q (r 2 (c (.string ⟨#[111,107]⟩))) .ret))) (q (r 37 (b .eql (v 34) (c (.string ⟨#[97,116]⟩)))) (.cond (v 37) (q
 (q (r 38 (.pick (.pick (.pick (b .lss (d (o2 (.aadr 6 1) v8 i0)) i0) t (b .gtr (d (o2 (.aadr 6 1) v8 i0)) i3)) t (b .lss (d (o2 (.aadr 6 1) v8 i1)) i0)) t (b .gtr (d (o2 (.aadr 6
 1) v8 i1)) i3))) (.cond (v 38) (q (.reg [(k 308 [i1] 39),(s [(l 2 (v 39))])]) .ret) .skip)) (q (.dreg (.eff false [] ⟨[],U (.ef [] (.st 1) [(o2 (.aadr 4 1) (o2 (.aadr 4 4) (a 6
 (a 0 (n v0))) (d (o2 (.aadr 6 1) v8 i0))) (d (o2 (.aadr 6 1) v8 i1))),(d (o2 (.aadr 6 1) v8 i2))] O)⟩ (.done (s [])))) (q (r 2 (c (.string ⟨#[111,107]⟩))) .ret))) (q (r 40 (b
 .eql (v 34) (c (.string ⟨#[115,116,97,114,116]⟩)))) (.cond (v 40) (q (q (.dreg (.eff false [] (k 267 [(o (.ldn 22) (a 0 (n v0))),(f 22 (n v0))] 41) (.done (s [(l 13 (v 41))])))) (q
 (r 42 (b .gtr v13 i0)) (.cond (v 42) (q (.reg [(k 308 [v13] 43),(s [(l 2 (v 43))])]) .ret) .skip))) (q (.dreg (.eff false [] ⟨[(l 44 v0)],U (.ef [] (.call 268) [(o (.ldn 22) (a
 0 (n v0))),(f 22 (n v0))] (U 45))⟩ (.eff false [] ⟨[],U (.ef [] (.st 1) [(a 23 (n (v 44))),(v 45)] O)⟩ (.done (s []))))) (q (r 2 (c (.string ⟨#[111,107]⟩))) .ret)))
 .skip)))))))) (q (q (r 46 (o2 (.eqv .ptr false) (f 23 (n v0)) (c (.pointer O)))) (.cond (v 46) (q (.reg [(k 308 [(i 5)] 47),(s [(l 2 (v 47))])]) .ret) .skip)) (q (.dreg (.eff
 false [] (k 311 [v0,(d (j 1 v5 i0)),(o (.ldn 6) v8),(d (j 1 v5 (b .sub (o .llen v5) i1)))] 48) (.done (s [(l 2 (v 48))])))) .ret))))))))))),[v2]⟩
def F305 : SFun := ⟨2,7,(q (r 2 z) (q (q (r 4 (b .neq (o .llen v0) (o .llen v1))) (.cond v4 (q (r 2 z) .ret) .skip)) (q (q (r 3 i0) (m 0 (q (q (r 5 (b .lss v3 (o .llen v0))) (h v5 0)) (q (.block 1 (q
 (.dreg (.done (s [(l 6 (b .neq (d (j 1 v0 v3)) (d (j 1 v1 v3))))]))) (.cond v6 (q (r 2 z) .ret) .skip))) (r 3 (b .add v3 i1)))))) (q (r 2 t) .ret)))),[v2]⟩
def F306 : SFun := ⟨2,67,(q (r1 (s [(l 2 (c y0)),(l 3 z)])) (q (q (r 19 (b .gtr (o .slen v1) (i 300))) (.cond v19 (q (r1 (s [(l 2 (c y0)),(l 3 z)])) .ret) .skip)) (q (q (r1 (k 201 [v1,(c (.string
 ⟨#[114,117,108,101,32]⟩))] 20)) (.cond v20 (q (.reg [(k 312 [v0,(.o3 .ssl v1 (i 5) (o .slen v1))] 21),(s [(l 2 v21),(l 3 t)])]) .ret) .skip)) (q (.reg [(k 181 [v1,(c (.string
 ⟨#[32]⟩))] 22),(s [(l 4 v22)])]) (q (.dreg (.alt true [(l 0 (d (j 1 v4 i0)))] ⟨[(l 24 (d (j 1 v4 i0)))],U (.ef [] (.call 313) [] (U 23))⟩ (.eff true [(l 0 (o2 (.lkpo .str
 (.agg #[y,y])) v23 v24))] ⟨[(l 25 (x 0 (o2 (.lkpo .str (.agg #[y,y])) v23 v24))),(l 26 (x 1 (o2 (.lkpo .str (.agg #[y,y])) v23 v24)))],U (.ef [] (.new 252) [(c (.agg #[y,y]))]
 (U 5))⟩ (.eff false [] ⟨[],U (.ef [] (.st 2) [v5,v25] O)⟩ (.done (s [(l 6 (v 26))])))) true [(l 0 (d (j 1 v4 i0)))] ⟨[(l 24 (d (j 1 v4 i0)))],U (.ef [] (.new 252) [(c
 (.agg #[y,y]))] (U 5))⟩ (.eff true [] (k 313 [] 23) (.eff false [] ⟨[(l 25 (x 0 (o2 (.lkpo .str (.agg #[y,y])) v23 v24))),(l 26 (x 1 (o2 (.lkpo .str (.agg #[y,y])) v23
 v24)))],U (.ef [] (.st 2) [v5,(x 0 (o2 (.lkpo .str (.agg #[y,y])) v23 v24))] O)⟩ (.done (s [(l 6 (v 26))])))))) (q (q (r 27 (.pick (o .not v6) t (b .neq (o .llen v4) (b .add
 (b .add i1 (d (o2 (.aadr 2 1) v5 i0))) (d (o2 (.aadr 2 1) v5 i1)))))) (.cond (v 27) (q (r1 (s [(l 2 (c y0)),(l 3 z)])) .ret) .skip)) (q (r 7 (c (.slice O 0 0))) (q (q (r1 (s [(l
 28 (.o3 (.lsl 1) v4 i1 (b .add i1 (d (o2 (.aadr 2 1) v5 i0))))),(l 29 (o .llen (.o3 (.lsl 1) v4 i1 (b .add i1 (d (o2 (.aadr 2 1) v5 i0)))))),(l 30 i0)])) (m 0 (q (r 31 (b .lss (v
 30) (v 29))) (q (h (v 31) 0) (q (.block 1 (q (r 8 (d (j 1 (v 28) (v 30)))) (q (.reg [(k 314 [v8] 32),(s [(l 9 (x 0 (v 32))),(l 10 (x 1 (v 32)))])]) (q (q (r 33 (o .not v10)) (.cond
 (v 33) (q (r1 (s [(l 2 (c y0)),(l 3 z)])) .ret) .skip)) (.reg [⟨[(l 34 v7)],U (.ef [] (.bsl 3 1) [(u 0 1 (c (.agg #[y])) v9)] (U 35))⟩,(e (.app 3 1 8) [(v 34),(v 35)] 36),(s
 [(l 7 (v 36))])]))))) (r 30 (b .add (v 30) i1))))))) (q (.reg [(k 315 [v0,(d (j 1 v4 i0)),v7] 37),(s [(l 11 (x 0 (v 37))),(l 12 (x 1 (v 37)))])]) (q (q (r 38 v12) (.cond (v 38) (q
 (r1 (s [(l 2 v11),(l 3 t)])) .ret) .skip)) (q (q (r 39 (o2 (.eqv .ptr false) (f 23 (n v0)) (c (.pointer O)))) (.cond (v 39) (q (.reg [(k 307 [(o (.iface 111) (i 5))] 40),(s [(l
 2 (v 40)),(l 3 t)])]) .ret) .skip)) (q (r 13 (d (j 1 v4 (b .sub (o .llen v4) i1)))) (q (q (r 41 (d (j 1 v4 i0))) (.block 2 (q (r 42 (b .eql (v 41) (c (.string
 ⟨#[116,105,99,107]⟩)))) (.cond (v 42) (q (.dreg (.eff false [] (k 269 [(f 23 (n v0)),(d (j 1 v7 i0))] 43) (.eff false [] (k 316 [(x 0 (v 43)),(x 1 (v 43))] 44) (.done (s [(l 2 (v
 44)),(l 3 t)]))))) .ret) (q (r 45 (b .eql (v 41) (c (.string ⟨#[102,101,101,100]⟩)))) (.cond (v 45) (q (.reg [(k 317 [v13] 46),(s [(l 14 (x 0 (v 46))),(l 15 (x 1 (v 46)))])]) (q (q
 (r 47 (o .not v15)) (.cond (v 47) (q (r1 (s [(l 2 (c y0)),(l 3 z)])) .ret) .skip)) (q (.dreg (.eff false [] (k 271 [(f 23 (n v0)),(d (j 1 v7 i0)),v14] 48) (.eff false [] (k 316 [(x
 0 (v 48)),(x 1 (v 48))] 49) (.done (s [(l 2 (v 49)),(l 3 t)]))))) .ret))) (q (r 50 (b .eql (v 41) (c (.string ⟨#[114,101,97,100]⟩)))) (.cond (v 50) (q (.reg [(k 318 [v0,v7,v13]
 51),(s [(l 2 (v 51)),(l 3 t)])]) .ret) (q (r 52 (b .eql (v 41) (c (.string ⟨#[119,97,114,109]⟩)))) (.cond (v 52) (q (.dreg (.eff false [] (k 285 [(f 23 (n v0)),(d (j 1 v7 i0))] 53)
 (.eff false [] (k 316 [(x 0 (v 53)),(x 1 (v 53))] 54) (.done (s [(l 2 (v 54)),(l 3 t)]))))) .ret) (q (r 55 (b .eql (v 41) (c (.string ⟨#[97,108,101,114,116,115]⟩)))) (.cond (v 55)
 (q (.reg [(k 319 [v0] 56),(s [(l 2 (v 56)),(l 3 t)])]) .ret) (q (r 57 (b .eql (v 41) (c (.string ⟨#[100,114,111,112,115]⟩)))) (.cond (v 57) (q (.reg [(k 280 [(f 23 (n v0))] 58),(w
 16 (c g5)),⟨[],U (.pst 16 (.upd (.cnt 16) 16 5 (p 16) (v 58)))⟩]) (q (.reg [(k 176 [(f 0 (p 16))] 59),(s [(l 17 (v 59))])]) (q (q (.reg [(e (.bsl 3 4) [(u 3 1 (u 2 1 (u 1 1 (u 0
 1 (c (.agg #[y,y,y,y])) (f 1 (p 16))) (f 2 (p 16))) (f 3 (p 16))) (f 4 (p 16)))] 60),(s [(l 61 (o .llen (v 60))),(l 62 i0)])]) (m 3 (q (r 63 (b .lss (v 62) (v 61))) (q (h (v 63) 3)
 (q (.block 4 (q (r 18 (d (j 1 (v 60) (v 62)))) (.reg [⟨[(l 64 v17)],U (.ef [] (.call 176) [v18] (U 65))⟩,(s [(l 17 (b .add (v 64) (b .add (c (.string ⟨#[32]⟩)) (v
 65))))])]))) (r 62 (b .add (v 62) i1))))))) (q (r1 (s [(l 2 v17),(l 3 t)])) .ret)))) .skip)))))))))))))) (q (.dreg (.eff false [] (k 320 [v0,(d (j 1 v4 i0)),v13,(d (j 1 v7 i0))]
 66) (.done (s [(l 2 (v 66)),(l 3 t)])))) .ret)))))))))))))),[v2,v3]⟩
def F307 : SFun := ⟨1,5,(q (r 1 (c y0)) (q (r1 (s [(l 2 (x 0 (o (.tas 111 y) v0))),(l 4 (x 1 (o (.tas 111 y) v0)))])) (q (.reg [(k 176 [v2] 3),(s [(l 1 (b .add (c (.string
 ⟨#[101,114,114,111,114,32]⟩)) v3))])]) .ret))),[v1]⟩
def F308:SFun:=⟨1,3,(q (r 1 (c y0)) (q (.reg [(k 85 [v0] 2),(s [(l 1 (b .add (c (.string ⟨#[101,114,114,111,114,32]⟩)) v2))])]) .ret)),[v1]⟩
def F309 : SFun := ⟨1,10,(q (r1 (s [(l 1 i0),(l 2 i0)])) (q (q (r 3 v0) (.block 0 (q (r 4 (b .eql v3 (c (.string ⟨#[115,101,116]⟩)))) (.cond v4 (q (r1 (s [(l 1 (i 6)),(l 2 i0)])) .ret) (q (r 5 (b
 .eql v3 (c (.string ⟨#[97,116]⟩)))) (.cond v5 (q (r1 (s [(l 1 i3),(l 2 i0)])) .ret) (q (q (r 6 (b .eql v3 (c (.string ⟨#[115,116,97,114,116]⟩)))) (.cond v6 .skip (q (r 6 (b .eql v3
 (c (.string ⟨#[97,108,101,114,116,115]⟩)))) (.cond v6 .skip (r 6 (b .eql v3 (c (.string ⟨#[100,114,111,112,115]⟩)))))))) (.cond v6 (q (r1 (s [(l 1 i0),(l 2 i0)])) .ret) (q (q (r 7
 (b .eql v3 (c (.string ⟨#[116,105,99,107]⟩)))) (.cond v7 .skip (r 7 (b .eql v3 (c (.string ⟨#[119,97,114,109]⟩)))))) (.cond v7 (q (r1 (s [(l 1 i1),(l 2 i0)])) .ret) (q (q (r 8 (b
 .eql v3 (c (.string ⟨#[102,101,101,100]⟩)))) (.cond v8 .skip (q (r 8 (b .eql v3 (c (.string ⟨#[119,104,101,114,101]⟩)))) (.cond v8 .skip (r 8 (b .eql v3 (c (.string
 ⟨#[105,110]⟩)))))))) (.cond v8 (q (r1 (s [(l 1 i1),(l 2 i1)])) .ret) (q (r 9 (b .eql v3 (c (.string ⟨#[114,101,97,100]⟩)))) (.cond v9 (q (r1 (s [(l 1 i4),(l 2 i1)])) .ret)
 .skip)))))))))))))) (q (r1 (s [(l 1 (i (-1))),(l 2 i0)])) .ret))),[v1,v2]⟩
def F310 : SFun := ⟨1,10,(q (r1 (s [(l 1 i0),(l 2 z)])) (q (q (r 5 (b .eql v0 (c (.string ⟨#[45,49]⟩)))) (.cond v5 (q (r1 (s [(l 1 (i (-1))),(l 2 t)])) .ret) .skip)) (q (.reg [(k 184 [v0] 6),(s [(l 3
 (x 0 v6)),(l 4 (x 1 v6))])]) (q (.reg [⟨[(l 7 v3),(l 8 (.pick v4 (b .lss (o .slen v0) (i 6)) z))],U (.ef [((.pick v4 (b .lss (o .slen v0) (i 6)) z),true)] (.call 85) [v3] (U
 9))⟩,(s [(l 1 v7),(l 2 (.pick v8 (b .eql v9 v0) z))])]) .ret)))),[v1,v2]⟩
def F311 : SFun := ⟨4,95,(q (.reg [(e (.new 378) [v2] 4),(s [(l 5 (c y0))])]) (q (q (r 23 v1) (.block 0 (q (r 24 (b .eql v23 (c (.string ⟨#[116,105,99,107]⟩)))) (.cond v24 (q (.dreg (.eff false [] (k
 270 [(f 23 (n v0)),(d (o2 (.aadr 6 1) v4 i0))] 25) (.eff false [] (k 321 [(x 0 v25),(x 1 v25)] 26) (.done (s [(l 5 (v 26))]))))) .ret) (q (r 27 (b .eql v23 (c (.string
 ⟨#[119,97,114,109]⟩)))) (.cond (v 27) (q (q (r 28 (.pick (b .lss (d (o2 (.aadr 6 1) v4 i0)) i0) t (b .gtr (d (o2 (.aadr 6 1) v4 i0)) i3))) (.cond (v 28) (q (.reg [(k 308 [i1]
 29),(s [(l 5 (v 29))])]) .ret) .skip)) (q (.dreg (.eff false [] (k 85 [(d (o2 (.aadr 4 1) (a 31 (n (f 23 (n v0)))) (d (o2 (.aadr 6 1) v4 i0))))] 30) (.done (s [(l 5 (v 30))]))))
 .ret)) (q (r 31 (b .eql v23 (c (.string ⟨#[102,101,101,100]⟩)))) (.cond (v 31) (q (.reg [(k 322 [v3] 32),(s [(l 6 (x 0 (v 32))),(l 7 (x 1 (v 32)))])]) (q (q (r 33 (o .not v7))
 (.cond (v 33) (q (.reg [(k 308 [i4] 34),(s [(l 5 (v 34))])]) .ret) .skip)) (q (.dreg (.eff false [] (k 272 [(f 23 (n v0)),(d (o2 (.aadr 6 1) v4 i0)),v6] 35) (.eff false [] (k 321
 [(x 0 (v 35)),(x 1 (v 35))] 36) (.done (s [(l 5 (v 36))]))))) .ret))) (q (r 37 (b .eql v23 (c (.string ⟨#[97,108,101,114,116,115]⟩)))) (.cond (v 37) (q (.reg [(k 284 [(f 23 (n
 v0))] 38),(s [(l 8 (v 38))])]) (q (r 9 (c y0)) (q (q (r 10 i0) (m 1 (q (q (r 39 (b .lss v10 (o .llen v8))) (h (v 39) 1)) (q (.block 2 (q (q (r 40 (b .gtr v10 i0)) (.cond (v 40) (r
 9 (b .add v9 (c (.string ⟨#[44,32]⟩)))) .skip)) (q (.reg [(k 110 [(f 2 (j 3 v8 v10))] 41),⟨[(l 42 (x 0 (v 41))),(l 43 (x 1 (v 41)))],U (.pnew 11 (c g6))⟩,⟨[],U (.pst 11 (.upd
 (.cnt 11) 11 6 (p 11) (v 42)))⟩,(s [])]) (.dreg (.eff true [(l 0 (o (.ldn 6) (p 11))),(l 0 (f 23 (n v0))),(l 0 (f 0 (j 3 v8 v10))),(l 0 (f 22 (n (f 23 (n v0))))),(l 0 (f 0 (j 6 (f
 22 (n (f 23 (n v0)))) (f 0 (j 3 v8 v10)))))] ⟨[(l 44 (b .add (b .add v9 (f 0 (j 6 (f 22 (n (f 23 (n v0)))) (f 0 (j 3 v8 v10))))) (c (.string ⟨#[32]⟩)))),(l 47 (o (.ldn 6) (p
 11)))],U (.ef [] (.call 85) [(f 1 (j 3 v8 v10))] (U 45))⟩ (.eff true [] ⟨[(l 46 (b .add (b .add (v 44) (v 45)) (c (.string ⟨#[32]⟩))))],U (.ef [] (.call 164) [(v 47)]
 (U 48))⟩ (.done (s [(l 9 (b .add (v 46) (v 48)))])))))))) (r 10 (b .add v10 i1)))))) (q (q (r 49 (b .eql v9 (c y0))) (.cond (v 49) (q (r 5 (c (.string ⟨#[45]⟩))) .ret) .skip))
 (q (r 5 v9) .ret))))) (q (r 50 (b .eql v23 (c (.string ⟨#[100,114,111,112,115]⟩)))) (.cond (v 50) (q (.reg [(k 281 [(f 23 (n v0))] 51),(w 12 (c g5)),⟨[],U (.pst 12 (.upd (.cnt
 12) 12 5 (p 12) (v 51)))⟩]) (q (.dreg (.eff true [(l 0 (f 1 (p 12))),(l 0 (f 2 (p 12))),(l 0 (f 3 (p 12))),(l 0 (f 4 (p 12)))] ⟨[(l 54 (f 1 (p 12))),(l 57 (f 2 (p 12))),(l 60 (f 3
 (p 12))),(l 63 (f 4 (p 12)))],U (.ef [] (.call 85) [(f 0 (p 12))] (U 52))⟩ (.eff true [] ⟨[(l 53 (b .add (v 52) (c (.string ⟨#[32]⟩))))],U (.ef [] (.call 85) [(v 54)]
 (U 55))⟩ (.eff true [] ⟨[(l 56 (b .add (b .add (v 53) (v 55)) (c (.string ⟨#[32]⟩))))],U (.ef [] (.call 85) [(v 57)] (U 58))⟩ (.eff true [] ⟨[(l 59 (b .add (b .add (v 56)
 (v 58)) (c (.string ⟨#[32]⟩))))],U (.ef [] (.call 85) [(v 60)] (U 61))⟩ (.eff false [] ⟨[(l 62 (b .add (b .add (v 59) (v 61)) (c (.string ⟨#[32]⟩))))],U (.ef [] (.call 85)
 [(v 63)] (U 64))⟩ (.done (s [(l 5 (b .add (v 62) (v 64)))])))))))) .ret)) .skip)))))))))))) (q (.reg [(k 166 [v3] 65),⟨[(l 66 (x 0 (v 65))),(l 67 (x 1 (v 65)))],U (.pnew 13
 (c g6))⟩,⟨[],U (.pst 13 (.upd (.cnt 13) 13 6 (p 13) (v 66)))⟩,(s [(l 14 (v 67))])]) (q (q (r 68 (o .not v14)) (.cond (v 68) (q (.reg [(k 308 [i4] 69),(s [(l 5 (v 69))])]) .ret)
 .skip)) (q (.reg [(k 65 [(o (.ldn 6) (p 13))] 70),(s [(l 15 (v 70))])]) (q (q (r 71 v1) (.block 3 (q (r 72 (b .eql (v 71) (c (.string ⟨#[114,101,97,100]⟩)))) (.cond (v 72) (q (.reg
 [(e (.bsl 40 1) [(u 0 4 (c (.agg #[y,y,y,y0])) (u 3 1 (u 2 1 (u 1 1 (u 0 1 (c (.agg #[y,y,y,y0])) (d (o2 (.aadr 6 1) v4 i1))) (d (o2 (.aadr 6 1) v4 i2))) (d (o2 (.aadr 6 1) v4
 i3))) v15))] 73),⟨[(l 74 (u 1 1 (u 0 1 (c (.agg #[y,(.slice O 0 0),y])) i1) (v 73)))],U (.pnew 16 (c (.agg #[y,(.slice O 0 0),y])))⟩,⟨[],U (.pst 16 (.upd (.cnt 16) 16 3
 (p 16) (v 74)))⟩]) (q (q (.reg [(k 17 [(o (.ldn 3) (p 16))] 75),(s [(l 17 (v 75))])]) (q (r 76 (b .gtr v17 i0)) (.cond (v 76) (q (.reg [(k 308 [v17] 77),(s [(l 5 (v 77))])]) .ret)
 .skip))) (q (.dreg (.eff true [(l 0 (d (o2 (.aadr 6 1) v4 i0))),(l 0 (f 23 (n v0)))] ⟨[(l 78 (f 23 (n v0))),(l 79 (d (o2 (.aadr 6 1) v4 i0)))],U (.ef [] (.call 22) [(o (.ldn 3)
 (p 16))] (U 80))⟩ (.eff false [] (k 272 [(v 78),(v 79),(v 80)] 81) (.eff false [] (k 321 [(x 0 (v 81)),(x 1 (v 81))] 82) (.done (s [(l 5 (v 82))])))))) .ret))) (q (r 83 (b .eql
 (v 71) (c (.string ⟨#[119,104,101,114,101]⟩)))) (.cond (v 83) (q (.dreg (.eff false [] (k 52 [(f 39 (n (f 23 (n v0)))),v15,(d (o2 (.aadr 6 1) v4 i0))] 84) (.done (s [(l 18 (x 0 (v
 84))),(l 19 (x 1 (v 84)))])))) (q (q (r 85 (.pick (b .eql v19 i0) (b .lss v18 i0) z)) (.cond (v 85) (q (r 5 (c (.string ⟨#[45]⟩))) .ret) .skip)) (q (.reg [(k 321 [v18,v19] 86),(s
 [(l 5 (v 86))])]) .ret))) .skip)))))) (q (.dreg (.eff false [] (k 287 [(f 23 (n v0)),v15,(d (o2 (.aadr 6 1) v4 i0))] 87) (.done (s [(l 20 (x 0 (v 87))),(l 21 (x 1 (v 87)))])))) (q
 (q (r 88 (b .gtr v21 i0)) (.cond (v 88) (q (.reg [(k 308 [v21] 89),(s [(l 5 (v 89))])]) .ret) .skip)) (q (q (r 90 (b .eql v20 (c y0))) (.cond (v 90) (q (r 5 (c (.string ⟨#[45]⟩)))
 .ret) .skip)) (q (.reg [(k 110 [v20] 91),⟨[(l 92 (x 0 (v 91))),(l 93 (x 1 (v 91)))],U (.pnew 22 (c g6))⟩,⟨[],U (.pst 22 (.upd (.cnt 22) 22 6 (p 22) (v 92)))⟩,(s [])]) (q
 (.reg [(k 164 [(o (.ldn 6) (p 22))] 94),(s [(l 5 (v 94))])]) .ret))))))))))),[v5]⟩
def F312 : SFun := ⟨2,14,(q (r 2 (c y0)) (q (.reg [(k 172 [v1] 5),⟨[(l 6 (x 0 v5)),(l 7 (x 1 v5))],U (.pnew 3 (c (.agg #[y0,y,y,y,y,y])))⟩,⟨[],U (.pst 3 (.upd (.cnt 3) 3 6 p3 v6))⟩,(s [(l 4
 v7)])]) (q (q (r 8 (o2 (.eqv .iface true) v4 (c .nilIface))) (.cond v8 (q (.reg [(k 307 [v4] 9),(s [(l 2 v9)])]) .ret) .skip)) (q (.dreg (.eff true [(l 0 (f 22 (n v0)))] ⟨[(l 10
 v0),(l 11 (f 22 (n v0)))],U (.ef [] (.bsl 240 1) [(u 0 6 (c (.agg #[y0,y,y,y,y,y])) (o (.ldn 6) p3))] (U 12))⟩ (.eff false [] (e (.app 240 6 56) [v11,v12] 13) (.eff false []
 ⟨[],U (.ef [] (.st 1) [(a 22 (n v10)),v13] O)⟩ (.done (s [])))))) (q (r 2 (c (.string ⟨#[111,107]⟩))) .ret))))),[v2]⟩
def F313 : SFun := ⟨0,2,(q (r 0 (c (.map O))) (q (.reg [(e .mnew [] 1),⟨[],U (.ef [] (.mupd .str) [v1,(c (.string ⟨#[115,101,116]⟩)),(u 1 1 (u 0 1 (c (.agg #[y,y])) (i 6)) i0)] O)⟩,⟨[],U
 (.ef [] (.mupd .str) [v1,(c (.string ⟨#[97,116]⟩)),(u 1 1 (u 0 1 (c (.agg #[y,y])) i3) i0)] O)⟩,⟨[],U (.ef [] (.mupd .str) [v1,(c (.string ⟨#[115,116,97,114,116]⟩)),(u 1 1 (u
 0 1 (c (.agg #[y,y])) i0) i0)] O)⟩,⟨[],U (.ef [] (.mupd .str) [v1,(c (.string ⟨#[116,105,99,107]⟩)),(u 1 1 (u 0 1 (c (.agg #[y,y])) i1) i0)] O)⟩,⟨[],U (.ef [] (.mupd
 .str) [v1,(c (.string ⟨#[102,101,101,100]⟩)),(u 1 1 (u 0 1 (c (.agg #[y,y])) i1) i1)] O)⟩,⟨[],U (.ef [] (.mupd .str) [v1,(c (.string ⟨#[114,101,97,100]⟩)),(u 1 1 (u 0 1 (c
 (.agg #[y,y])) i4) i1)] O)⟩,⟨[],U (.ef [] (.mupd .str) [v1,(c (.string ⟨#[119,104,101,114,101]⟩)),(u 1 1 (u 0 1 (c (.agg #[y,y])) i1) i1)] O)⟩,⟨[],U (.ef [] (.mupd
 .str) [v1,(c (.string ⟨#[105,110]⟩)),(u 1 1 (u 0 1 (c (.agg #[y,y])) i1) i1)] O)⟩,⟨[],U (.ef [] (.mupd .str) [v1,(c (.string ⟨#[119,97,114,109]⟩)),(u 1 1 (u 0 1 (c (.agg
 #[y,y])) i1) i0)] O)⟩,⟨[],U (.ef [] (.mupd .str) [v1,(c (.string ⟨#[97,108,101,114,116,115]⟩)),(u 1 1 (u 0 1 (c (.agg #[y,y])) i0) i0)] O)⟩,⟨[],U (.ef [] (.mupd .str)
 [v1,(c (.string ⟨#[100,114,111,112,115]⟩)),(u 1 1 (u 0 1 (c (.agg #[y,y])) i0) i0)] O)⟩,(s [(l 0 v1)])]) .ret)),[v0]⟩
def F314 : SFun := ⟨1,11,(q (r1 (s [(l 1 i0),(l 2 z)])) (q (q (r 5 (b .eql v0 (c (.string ⟨#[45,49]⟩)))) (.cond v5 (q (r1 (s [(l 1 (i (-1))),(l 2 t)])) .ret) .skip)) (q (q (r 6 (.pick (.pick (b .eql
 v0 (c y0)) t (b .gtr (o .slen v0) (i 5))) t (.pick (b .eql (o2 .sidx v0 i0) (c (.int .u8 48))) (b .gtr (o .slen v0) i1) z))) (.cond v6 (q (r1 (s [(l 1 i0),(l 2 z)])) .ret) .skip))
 (q (r 3 i0) (q (q (r1 (s [(l 7 (o .slen v0)),(l 8 i0)])) (m 0 (q (r 9 (b .lss v8 v7)) (q (h v9 0) (q (.block 1 (q (r 4 v8) (q (q (r 10 (.pick (b .lss (o2 .sidx v0 v4) (c (.int .u8
 48))) t (b .gtr (o2 .sidx v0 v4) (c (.int .u8 57))))) (.cond v10 (q (r1 (s [(l 1 i0),(l 2 z)])) .ret) .skip)) (r 3 (b .add (b .mul (i 10) v3) (o (.conv .i64) (b .sub (o2 .sidx v0
 v4) (c (.int .u8 48))))))))) (r 8 (b .add v8 i1))))))) (q (r1 (s [(l 1 v3),(l 2 t)])) .ret)))))),[v1,v2]⟩
def F315 : SFun := ⟨3,22,(q (r1 (s [(l 3 (c y0)),(l 4 z)])) (q (q (r 5 v1) (.block 0 (q (r 6 (b .eql v5 (c (.string ⟨#[115,101,116]⟩)))) (.cond v6 (.dreg (.eff false [] ⟨[(l 7 v0),(l 8 v0),(l 9
 v0),(l 10 v0),(l 11 v0),(l 12 (d (j 1 v2 i1))),(l 13 (d (j 1 v2 i2))),(l 14 (d (j 1 v2 i3))),(l 15 (d (j 1 v2 i4))),(l 16 (d (j 1 v2 (i 5))))],U (.ef [] (.st 1) [(a 0 (a 0 (n
 v0))),(d (j 1 v2 i0))] O)⟩ (.eff false [] ⟨[],U (.ef [] (.st 1) [(a 1 (a 0 (n v7))),v12] O)⟩ (.eff false [] ⟨[],U (.ef [] (.st 1) [(a 2 (a 0 (n v8))),v13] O)⟩ (.eff
 false [] ⟨[],U (.ef [] (.st 1) [(a 3 (a 0 (n v9))),v14] O)⟩ (.eff false [] ⟨[],U (.ef [] (.st 1) [(a 4 (a 0 (n v10))),v15] O)⟩ (.eff false [] ⟨[],U (.ef [] (.st 1)
 [(a 5 (a 0 (n v11))),v16] O)⟩ (.done (s []))))))))) (q (r 17 (b .eql v5 (c (.string ⟨#[97,116]⟩)))) (.cond v17 (q (q (r 18 (.pick (.pick (.pick (b .lss (d (j 1 v2 i0)) i0) t (b
 .geq (d (j 1 v2 i0)) i4)) t (b .lss (d (j 1 v2 i1)) i0)) t (b .geq (d (j 1 v2 i1)) i4))) (.cond v18 (q (.reg [(k 307 [(o (.iface 111) i1)] 19),(s [(l 3 v19),(l 4 t)])]) .ret)
 .skip)) (.dreg (.eff false [] ⟨[],U (.ef [] (.st 1) [(o2 (.aadr 4 1) (o2 (.aadr 4 4) (a 6 (a 0 (n v0))) (d (j 1 v2 i0))) (d (j 1 v2 i1))),(d (j 1 v2 i2))] O)⟩ (.done (s
 []))))) (q (r 20 (b .eql v5 (c (.string ⟨#[115,116,97,114,116]⟩)))) (.cond v20 (q (.reg [(k 323 [v0] 21),(s [(l 3 v21),(l 4 t)])]) .ret) (q (r1 (s [(l 3 (c y0)),(l 4 z)]))
 .ret))))))))) (q (r1 (s [(l 3 (c (.string ⟨#[111,107]⟩))),(l 4 t)])) .ret))),[v3,v4]⟩
def F316 : SFun := ⟨2,6,(q (r 2 (c y0)) (q (q (r 3 (o2 (.eqv .iface true) v1 (c .nilIface))) (.cond v3 (q (.reg [(k 307 [v1] 4),(s [(l 2 v4)])]) .ret) .skip)) (q (.reg [(k 176 [v0] 5),(s [(l 2
 v5)])]) .ret))),[v2]⟩
def F317 : SFun := ⟨1,15,(q (r1 (s [(l 1 (c y0)),(l 2 z)])) (q (r 3 (c (.slice O 0 0))) (q (q (r1 (s [(l 6 (o .slen v0)),(l 7 i0)])) (m 0 (q (r 8 (b .lss v7 v6)) (q (h v8 0) (q (.block 1 (q (r 4
 v7) (q (.reg [(k 324 [(c (.string ⟨#[48,49,50,51,52,53,54,55,56,57,97,98,99,100,101,102]⟩)),(o2 .sidx v0 v4)] 9),(s [(l 5 v9)])]) (q (q (r 10 (b .lss v5 i0)) (.cond v10 (q (r1 (s
 [(l 1 (c y0)),(l 2 z)])) .ret) .skip)) (q (r 11 (b .eql (b .rem v4 i2) i0)) (.cond v11 (.reg [⟨[(l 12 v3)],U (.ef [] (.bsl 5 1) [(u 0 1 (c (.agg #[(.int .u8 0)])) (o (.conv .u8)
 (b .shl v5 (c (.int .u64 4)))))] (U 13))⟩,(e (.app 5 1 1) [v12,v13] 14),(s [(l 3 v14)])]) (r1 ⟨[],U (.ef [] (.st 1) [(j 1 v3 (b .quo v4 i2)),(b .or (d (j 1 v3 (b .quo v4
 i2))) (o (.conv .u8) v5))] O)⟩))))))) (r 7 (b .add v7 i1))))))) (q (r1 (s [(l 1 (o .b2s v3)),(l 2 (b .eql (b .rem (o .slen v0) i2) i0))])) .ret)))),[v1,v2]⟩
def F318 : SFun := ⟨3,22,(q (r 3 (c y0)) (q (.reg [(k 165 [v2] 8),⟨[(l 9 (x 0 v8)),(l 10 (x 1 v8))],U (.pnew 4 (c g6))⟩,⟨[],U (.pst 4 (.upd (.cnt 4) 4 6 p4 v9))⟩,(s [(l 5 v10)])]) (q (q (r 11
 (o2 (.eqv .iface true) v5 (c .nilIface))) (.cond v11 (q (.reg [(k 307 [v5] 12),(s [(l 3 v12)])]) .ret) .skip)) (q (.reg [(k 162 [(o (.ldn 6) p4)] 13),(s [(l 5 (x 1 v13)),(l 6 (x 0
 v13))])]) (q (q (r 14 (o2 (.eqv .iface true) v5 (c .nilIface))) (.cond v14 (q (.reg [(k 307 [v5] 15),(s [(l 3 v15)])]) .ret) .skip)) (q (.dreg (.eff false [] (e (.bsl 40 1) [(u 0 4
 (c (.agg #[y,y,y,y0])) (u 3 1 (u 2 1 (u 1 1 (u 0 1 (c (.agg #[y,y,y,y0])) (d (j 1 v1 i1))) (d (j 1 v1 i2))) (d (j 1 v1 i3))) v6))] 16) (.eff false [] (k 18 [(u 1 1 (u 0 1 (c (.agg
 #[y,(.slice O 0 0),y])) i1) v16)] 17) (.done (s [(l 5 (x 1 v17)),(l 7 (x 0 v17))]))))) (q (q (r 18 (o2 (.eqv .iface true) v5 (c .nilIface))) (.cond v18 (q (.reg [(k 307 [v5]
 19),(s [(l 3 v19)])]) .ret) .skip)) (q (.dreg (.eff false [] (k 271 [(f 23 (n v0)),(d (j 1 v1 i0)),v7] 20) (.eff false [] (k 316 [(x 0 v20),(x 1 v20)] 21) (.done (s [(l 3
 v21)]))))) .ret)))))))),[v3]⟩
def F319 : SFun := ⟨1,19,(q (r 1 (c y0)) (q (r 2 (c (.slice O 0 0))) (q (q (.reg [(k 283 [(f 23 (n v0))] 4),(s [(l 5 (o .llen v4)),(l 6 i0)])]) (m 0 (q (r 7 (b .lss v6 v5)) (q (h v7 0) (q (.block
 1 (q (.reg [⟨[(l 8 (o (.ldn 3) (j 3 v4 v6)))],U (.pnew 3 (c (.agg #[y,y,y0])))⟩,⟨[],U (.pst 3 (.upd (.cnt 3) 3 3 p3 v8))⟩]) (.dreg (.eff true [(l 0 (f 0 p3)),(l 0 (f 2
 p3)),(l 0 (f 22 (n v0))),(l 0 (f 0 (j 6 (f 22 (n v0)) (f 0 p3))))] ⟨[(l 9 v2),(l 10 (b .add (f 0 (j 6 (f 22 (n v0)) (f 0 p3))) (c (.string ⟨#[32]⟩)))),(l 13 (f 2 p3))],U (.ef []
 (.call 176) [(f 1 p3)] (U 11))⟩ (.eff true [] ⟨[(l 12 (b .add (b .add v10 v11) (c (.string ⟨#[32]⟩))))],U (.ef [] (.call 325) [v13] (U 14))⟩ (.eff false [] (e (.bsl 9 1)
 [(u 0 1 (c (.agg #[y0])) (b .add v12 v14))] 15) (.eff false [] (e (.app 9 1 16) [v9,v15] 16) (.done (s [(l 2 v16)]))))))))) (r 6 (b .add v6 i1))))))) (q (q (r 17 (b .eql (o .llen
 v2) i0)) (.cond v17 (q (r 1 (c (.string ⟨#[45]⟩))) .ret) .skip)) (q (.reg [(k 326 [v2,(c (.string ⟨#[44,32]⟩))] 18),(s [(l 1 v18)])]) .ret))))),[v1]⟩
def F320 : SFun := ⟨4,28,(q (r 4 (c y0)) (q (.reg [(k 165 [v2] 11),⟨[(l 12 (x 0 v11)),(l 13 (x 1 v11))],U (.pnew 5 (c g6))⟩,⟨[],U (.pst 5 (.upd (.cnt 5) 5 6 (p 5) v12))⟩,(s [(l 6 v13)])]) (q (q
 (r 14 (o2 (.eqv .iface true) v6 (c .nilIface))) (.cond v14 (q (.reg [(k 307 [v6] 15),(s [(l 4 v15)])]) .ret) .skip)) (q (.reg [(k 162 [(o (.ldn 6) (p 5))] 16),(s [(l 7 (x 0
 v16)),(l 27 (x 1 v16))])]) (q (q (r 17 (b .eql v1 (c (.string ⟨#[105,110]⟩)))) (.cond v17 (q (.reg [(k 286 [(f 23 (n v0)),v7,v3] 18),(s [(l 8 (x 0 v18)),(l 9 (x 1 v18))])]) (q (q
 (r 19 (o2 (.eqv .iface true) v9 (c .nilIface))) (.cond v19 (q (.reg [(k 307 [v9] 20),(s [(l 4 v20)])]) .ret) .skip)) (q (.reg [(k 325 [v8] 21),(s [(l 4 v21)])]) .ret))) .skip)) (q
 (.reg [(k 274 [(f 23 (n v0)),v7,v3] 22),(s [(l 6 (x 1 v22)),(l 10 (x 0 v22))])]) (q (q (r 23 (o2 (.eqv .iface true) v6 (c .nilIface))) (.cond v23 (q (.reg [(k 307 [v6] 24),(s [(l 4
 v24)])]) .ret) .skip)) (q (q (r 25 (b .lss v10 i0)) (.cond v25 (q (r 4 (c (.string ⟨#[45]⟩))) .ret) .skip)) (q (.reg [(k 176 [v10] 26),(s [(l 4 (v 26))])]) .ret))))))))),[v4]⟩
def F321:SFun:=⟨2,6,(q (r 2 (c y0)) (q (q (r 3 (b .gtr v1 i0)) (.cond v3 (q (.reg [(k 308 [v1] 4),(s [(l 2 v4)])]) .ret) .skip)) (q (.reg [(k 85 [v0] 5),(s [(l 2 v5)])]) .ret))),[v2]⟩
def F322 : SFun := ⟨1,16,(q (r1 (s [(l 1 (c y0)),(l 2 z)])) (q (q (r 7 (b .gtr (b .rem (o .slen v0) i2) i0)) (.cond v7 (q (r1 (s [(l 1 (c y0)),(l 2 z)])) .ret) .skip)) (q (r 3 (c (.slice O 0 0)))
 (q (q (r 4 i0) (m 0 (q (q (r 8 (b .lss v4 (o .slen v0))) (h v8 0)) (q (.block 1 (q (r 5 (i (-1))) (q (q (r 6 i0) (m 2 (q (q (r 9 (b .lss v6 (i 16))) (h v9 2)) (q (.block 3 (q
 (.dreg (.done (s [(l 10 (b .eql (o2 .sidx (c (.string ⟨#[48,49,50,51,52,53,54,55,56,57,97,98,99,100,101,102]⟩)) v6) (o2 .sidx v0 v4)))]))) (.cond v10 (r 5 v6) .skip))) (r 6 (b .add
 v6 i1)))))) (q (q (r 11 (b .lss v5 i0)) (.cond v11 (q (r1 (s [(l 1 (c y0)),(l 2 z)])) .ret) .skip)) (q (r 12 (b .eql (b .rem v4 i2) i0)) (.cond v12 (.reg [⟨[(l 13 v3)],U (.ef []
 (.bsl 5 1) [(u 0 1 (c (.agg #[(.int .u8 0)])) (o (.conv .u8) (b .mul (i 16) v5)))] (U 14))⟩,(e (.app 5 1 1) [v13,v14] 15),(s [(l 3 v15)])]) (r1 ⟨[],U (.ef [] (.st 1) [(j 1 v3
 (b .quo v4 i2)),(b .add (d (j 1 v3 (b .quo v4 i2))) (o (.conv .u8) v5))] O)⟩))))))) (r 4 (b .add v4 i1)))))) (q (r1 (s [(l 1 (o .b2s v3)),(l 2 t)])) .ret))))),[v1,v2]⟩
def F323 : SFun := ⟨1,7,(q (r 1 (c y0)) (q (.dreg (.eff false [] (k 266 [(o (.ldn 22) (a 0 (n v0))),(f 22 (n v0))] 4) (.done (s [(l 2 (x 0 v4)),(l 3 (x 1 v4))])))) (q (q (r 5 (o2 (.eqv .iface true)
 v3 (c .nilIface))) (.cond v5 (q (.reg [(k 307 [v3] 6),(s [(l 1 v6)])]) .ret) .skip)) (q (r1 ⟨[],U (.ef [] (.st 1) [(a 23 (n v0)),v2] O)⟩) (q (r 1 (c (.string ⟨#[111,107]⟩)))
 .ret))))),[v1]⟩
def F325 : SFun := ⟨1,11,(q (r 1 (c y0)) (q (.reg [(k 81 [v0] 5),⟨[(l 6 (x 0 v5)),(l 7 (x 1 v5))],U (.pnew 2 (c g6))⟩,⟨[],U (.pst 2 (.upd (.cnt 2) 2 6 p2 v6))⟩,(s [(l 3 v7)])]) (q (q (r 8 (o2
 (.eqv .iface true) v3 (c .nilIface))) (.cond v8 (q (r 1 (c (.string ⟨#[45]⟩))) .ret) .skip)) (q (.reg [(k 163 [(o (.ldn 6) p2)] 9),(s [(l 4 (x 0 v9)),(l 10 (x 1 v9))])]) (q (r 1
 v4) .ret))))),[v1]⟩
end Go.Cw
namespace Go.Cw
open Go
def Ah (h:Heap) (a:Addr) (cs:List Value):Prop:=
 a.spot=O/\∃ c t,h a.block=U (.cells c t (0,0))/\a.off+cs.length<=c.size/\∀ i,i<cs.length->c[a.off+i]?=cs[i]?
theorem Ah.le {h h':Heap} {a:Addr} {cs:List Value} (ho:Ah h a cs) (hl:Heap.le h h'):Ah h' a cs:=by
 obtain⟨h1,c,t,h2,h3,h4⟩:=ho;exact⟨h1,c,t,hl _ _ h2,h3,h4⟩
theorem Ah.row {h:Heap} {a:Addr} {cs:List Value} (ho:Ah h a cs):Ew h a cs:=by
 obtain⟨h1,c,t,h2,h3,h4⟩:=ho;exact⟨h1,c,t,_,h2,h3,h4⟩
theorem Ah.rules {h:Heap} {a:Addr} {cs:List Value} (ho:Ah h a cs):(∀j,j<cs.length->h.cell (a.add j)=cs[j]?)/\(0<cs.length->h.cell a=cs[0]?)/\h.row a cs.length=U cs.toArray:=by
 have hr:=ho.row;refine⟨λj hj=>by rw[hr.cell hj,Zj hj],λhj=>?_,?_⟩
 ·have:=hr.cell hj;rw[DK]at this;rw[this,Zj hj]
 ·have:=hr.row (i:=0) (n:=cs.length) oM;rw[DK]at this;rw[this];simp
def keeps (a:Addr) (n:Nat) (h h':Heap):Prop:=
 (∀b o,b≠a.block->h b=U o->h' b=U o) /\
 (∀c t fz,h a.block=U (.cells c t fz)->∃ c',h' a.block=U (.cells c' t fz)/\c'.size=c.size/\∀ i,i<a.off\/a.off+n<=i->c'[i]?=c[i]?)
theorem keeps.of_le {a:Addr} {n:Nat} {h h':Heap} (hl:Heap.le h h'):keeps a n h h':=⟨λb o _ hb=>hl b o hb,λc t fz hc=>⟨c,hl _ _ hc,rfl,λ_ _=>rfl⟩⟩
theorem keeps.refl (a:Addr) (n:Nat) (h:Heap):keeps a n h h:=.of_le (Heap.le.refl h)
theorem keeps.trans {a:Addr} {n:Nat} {h h' h'':Heap} (k1:keeps a n h h') (k2:keeps a n h' h''):keeps a n h h'':=by
 refine⟨λb o hb h1=>k2.1 b o hb (k1.1 b o hb h1),λc t fz hc=>?_⟩;obtain⟨c',h1,h2,h3⟩:=k1.2 c t fz hc;obtain⟨c'',h4,h5,h6⟩:=k2.2 c' t fz h1;exact⟨c'',h4,h5.trans h2,λi hi=>(h6 i hi).trans (h3 i hi)⟩
def fr (h h':Heap):Heap:=λb=>match h b with
 |none=>h' b
 |some _=>O
theorem Au (h h':Heap):Heap.le (fr h h') h':=by
 intro b o hb;simp only[fr]at hb;split at hb
 ·exact hb
 ·cases hb
theorem Er {h h':Heap} {b:Nat} {o:Obj} (hb:h b=U o):fr h h' b=O:=by simp[fr,hb]
theorem Fg {h h' h'':Heap} (hl:Heap.le h' h''):Heap.le (fr h h') (fr h h''):=by
 intro b o hb;simp only[fr]at hb ⊢;split at hb
 ·exact hl b o hb
 ·cases hb
theorem Qn {g h h':Heap} (hl:∀ b,h b=O->g b=O):Heap.le (fr h h') (fr g h'):=by
 intro b o hb;simp only[fr]at hb ⊢;split at hb
 ·rename_i h1;rw[hl b h1];exact hb
 ·cases hb
theorem AC {g h:Heap} (hl:Heap.le g h):∀ b,h b=O->g b=O:=by
 intro b hb;cases hg:g b with
 |none=>rfl
 |some o=>rw[hl b o hg]at hb;cases hb
def join (g g':Heap):Heap:=λb=>(g b).orElse λ_=>g' b
theorem Db (g g':Heap):Heap.le g (join g g'):=by intro b o hb;simp[join,hb]
theorem HI {g g' h:Heap} (h1:Heap.le g h) (h2:Heap.le g' h):Heap.le g' (join g g'):=by
 intro b o hb;simp only[join];cases hg:g b with
 |none=>simpa using hb
 |some o'=>have a1:=h1 b o' hg;have a2:=h2 b o hb;rw[a1]at a2;simpa using a2
theorem Gq {g g' h:Heap} (h1:Heap.le g h) (h2:Heap.le g' h):Heap.le (join g g') h:=by
 intro b o hb;simp only[join]at hb;cases hg:g b with
 |none=>rw[hg]at hb;exact h2 b o (by simpa using hb)
 |some o'=>rw[hg]at hb;simp at hb;subst hb;exact h1 b _ hg
theorem Bs {g g':Heap} {b:Nat} (h1:g b=O) (h2:g' b=O):join g g' b=O:=by simp[join,h1,h2]
theorem AQ.grow {α:Type} {enc:α->List Value} {sz:Nat} {g h h1:Heap} {v:Value} {l:List α} (ho:AQ enc sz g h v l) (hl:Heap.le h h1):AQ enc sz (join g (fr h h1)) h1 v l:=by
 obtain⟨a0,a,cap,h2,h3,h4,h5⟩:=ho;refine⟨Gq (a0.trans hl) (Au _ _),a,cap,h2,h3,h4,h5.imp id ?_⟩;rintro⟨b,c,t,a1,a2,a3,a4⟩;exact⟨b,c,t,a1,Bs a2 (Er a3),hl _ _ a3,a4⟩
theorem Heap.set_ne {h:Heap} {b b':Nat} {o:Obj} (e:b'≠b):(h.set b o) b'=h b':=by simp[Heap.set,e]
theorem Heap.set_eq {h:Heap} {b:Nat} {o:Obj}:(h.set b o) b=U o:=by simp[Heap.set]
theorem AQ.set {α:Type} {enc:α->List Value} {sz:Nat} {g h:Heap} {v:Value} {l:List α} (ho:AQ enc sz g h v l) {b:Nat} {o o':Obj} (hb:g b=U o):AQ enc sz (g.set b o') (h.set b o') v l:=by
 obtain⟨a0,a,cap,h2,h3,h4,h5⟩:=ho;refine⟨?_,a,cap,h2,h3,h4,h5.imp id ?_⟩
 ·intro x y hx;by_cases e:x=b
  ·subst e;rw[Heap.set_eq]at hx ⊢;exact hx
  ·rw[Heap.set_ne e]at hx ⊢;exact a0 x y hx
 ·rintro⟨b',c,t,a1,a2,a3,a4⟩;have e:b'≠b:=by intro e;subst e;rw[hb]at a2;cases a2
  exact⟨b',c,t,a1,by rw[Heap.set_ne e];exact a2,by rw[Heap.set_ne e];exact a3,a4⟩
theorem Br {N:Num} {Γ:Ctx} {h:Heap} {a:Addr} {cs:List Value} (ho:Ah h a cs) (j n:Nat) {x:Value} (hx:x.cells.size=n) (h1:x.cells.toList.all one=true) (hn:0<n) (hj:j+n<=cs.length) {K:Value->Heap->Prop}
  (hK:∀ o,(∀g:Heap,g a.block=h a.block->Ah (g.set a.block o) a (cs.take j++x.cells.toList++cs.drop (j+n)))->(∀g:Heap,g a.block=h a.block->keeps a cs.length g (g.set a.block o))->K undef (h.set a.block o)) :
  By N Γ (.st n) [.pointer (U (a.add j)),x] h K:=by
 obtain⟨hs,c,t,h2,h3,h4⟩:=ho;have hlen:x.cells.toList.length=n:=by simp[hx]
 have hpg:=λi=>GJ c x.cells.toList (a.off+j) i oM;refine⟨hx,h.set a.block (.cells (Dy c (a.off+j) x.cells.toList) t (0,0)),?_,?_⟩
 ·rw[AU a hs];cases hl:x.cells.toList with
  |nil=>rw[hl]at hlen;simp at hlen;omega
  |cons y ys=>
   have h5:a.off+j+(y::ys).length<=c.size:=by rw[<-hl];omega
   have h6:(y::ys).all one=true:=by rw[<-hl];exact h1
   simp only[putRow,Zw,Ym,if_false,h2];rw[if_pos ⟨h5,h6⟩]
 ·refine hK _ (λg hg=>⟨hs,_,t,Heap.set_eq,?_,?_⟩) (λg hg=>⟨?_,?_⟩)
  ·rw[(hpg 0).1];simp only[Zk,Zn,ZO,hlen];omega
  ·intro i hi;simp only[Zk,Zn,ZO,hlen]at hi;rw[(hpg _).2];by_cases e:a.off+j<=a.off+i/\a.off+i<a.off+j+x.cells.toList.length
   ·rw[if_pos e,Zy,YN (by simp;omega),Zl (by simp only[Zn];omega)];congr 1;simp only[Zn];omega
   ·rw[if_neg e,h4 i oM];by_cases e2:i<j
    ·rw[Zy,Zl (by simp only[Zn];omega),List.getElem?_take_of_lt e2]
    ·rw[YN (by simp only[Zk,Zn,hlen];omega)];rw[List.getElem?_drop];congr 1;simp only[Zk,Zn,hlen];omega
  ·intro b o hb h5;rw[Heap.set_ne hb];exact h5
  ·intro c' t' fz h5;rw[hg,h2]at h5;cases h5;refine⟨_,Heap.set_eq,(hpg 0).1,λi hi=>?_⟩;rw[(hpg i).2,if_neg oM]
theorem AO {N:Num} {Γ:Ctx} {h:Heap} {t:Nat} {x:Value} {K:Value->Heap->Prop}
  (hx:∀ b h',Heap.le h h'->h b=O->Ah (fr h h') ⟨b,0,O⟩ x.cells.toList->K (.pointer (U ⟨b,0,O⟩)) h'):By N Γ (.new t) [x] h K:=by
 intro b hb;refine hx b _ ((Heap.le.refl h).new hb _) hb ⟨rfl,x.cells,N.tid t,?_,by simp,λi hi=>by simp⟩;simp[fr,hb,Heap.set]
inductive Ty where
 |int|str|bool|nil
 |cons (a b:Ty)
 |sl (e:Ty)
 deriving DecidableEq
def Ty.size:Ty->Nat
 |.int | .str | .bool | .sl _=>1
 |.nil=>0
 |.cons a b=>a.size+b.size
def full (w:World):Heap:=λb=>w.heap[b]?
theorem Nu (w:World):(full w).sub w:=λ_ _ h=>h
def Mat (w:World):Ty->List Value->Prop
 |.int,cs=>∃ n,cs=[.int .i64 n]/\(Lit.int .i64 n).wf=true
 |.str,cs=>∃ s,cs=[.string s]/\s.size<=maxLen
 |.bool,cs=>∃ b,cs=[.bool b]
 |.nil,cs=>cs=[]
 |.cons a b,cs=>∃ x y,cs=x++y/\Mat w a x/\Mat w b y
 |.sl e,cs=>∃ a n cap,cs=[.slice a n cap]/\n<=cap/\cap<=maxLen/\(n=0\/∃ g,a=U g/\∃ rows:List (List Value),rows.length=n/\Ew (full w) g rows.flatten/\∀ r∈rows,Mat w e r)
def LI (P:Program) (Od:TypeId->Ty->Bool):List Field->Nat->Ty->Bool
 |[],_,.nil=>true
 |f::r,off,.cons a b=>f.offset==off&&P.cellsOf f.type==a.size&&Od f.type a&&LI P Od r (off+a.size) b
 |_,_,_=>false
def LJ (P:Program) (Od:TypeId->Ty->Bool) (e:TypeId):Nat->Ty->Bool
 |0,.nil=>true
 |n+1,.cons a b=>P.cellsOf e==a.size&&Od e a&&LJ P Od e n b
 |_,_=>false
def Od (P:Program):Nat->TypeId->Ty->Bool
 |0,_,_=>false
 |n+1,t,ty=>
  match P.underlying t with
  |some (.int .i64)=>ty==.int
  |some .string=>ty==.str
  |some .bool=>ty==.bool
  |some (.slice e)=>
   match ty with
   |.sl x=>P.cellsOf e==x.size&&decide (0<x.size)&&Od P n e x
   |_=>false
  |some (.struct fs)=>P.cellsOf t==ty.size&&LI P (Od P n) fs.toList 0 ty
  |some (.array k e)=>P.cellsOf t==ty.size&&LJ P (Od P n) e k ty
  |_=>false
theorem Rq {α β:Type} {f:α->Option β}:∀ {l:List α} {r:List β},l.mapM f=U r->r.length=l.length/\∀ i (h:i<l.length) (h':i<r.length),f l[i]=U r[i]:=by
 intro l;induction l with
 |nil=>intro r h;simp at h;subst h;simp
 |cons a l ih=>
  intro r h;simp only[YK,Option.bind_eq_bind,X2,Option.pure_def,Option.some.injEq]at h;obtain⟨y,h1,ys,h2,rfl⟩:=h;obtain⟨h3,h4⟩:=ih h2;refine⟨by simp[h3],λi hi hi'=>?_⟩;cases i with
  |zero=>simpa using h1
  |succ i=>simpa using h4 i (by simpa using hi) (by simpa using hi')
theorem LK {w:World} {a:Addr} {n:Nat} {cs:List Value} (h:w.cells? 0 a n=U cs) (hn:0<n):cs.length=n/\a.spot=O/\∀ i (hi:i<cs.length),w.cell? (a.add i)=U cs[i]:=by
 simp only[World.cells?,ZU,if_true]at h;obtain⟨h1,h2⟩:=Rq h;have hl:cs.length=n:=by simpa using h1
 refine⟨hl,?_,λi hi=>?_⟩
 ·have h3:=h2 0 (by simpa using hn) oM;simp only[List.getElem_range,DK]at h3;exact World.cell?_spot h3
 ·have:=h2 i (by simpa using by omega) hi;simpa using this
theorem L4 {w:World} {a:Addr} {cs:List Value} (hs:a.spot=O) (h:∀ i (hi:i<cs.length),w.cell? (a.add i)=U cs[i]) (hne:cs≠[]):Ew (full w) a cs:=by
 have hb:∀ i (hi:i<cs.length),∃c t fz,w.heap[a.block]?=U (.cells c t fz)/\c[a.off+i]?=U cs[i]:=by
  intro i hi;have h1:=h i hi;rw[AU a hs]at h1;simp only[World.cell?]at h1;split at h1
  ·rename_i c t fz hh;exact⟨c,t,fz,hh,by simpa using h1⟩
  ·cases h1
 have hl:0<cs.length:=Zx.2 hne;obtain⟨c,t,fz,h1,_⟩:=hb 0 hl;refine⟨hs,c,t,fz,h1,?_,?_⟩
 ·obtain⟨c',t',fz',h2,h3⟩:=hb (cs.length-1) oM;rw[h1]at h2;cases h2;have:=(X1.1 h3).1;omega
 ·intro i hi;obtain⟨c',t',fz',h2,h3⟩:=hb i hi;rw[h1]at h2;cases h2;rw[h3,Zj hi]
variable {H:Type} {enc:TypeId×Value->H} {P:Program} {w:World}
theorem VW {n:Nat} (ih:∀ (t:TypeId) (ty:Ty) (fuel:Nat) (cs:List Value) (x:DataW H×List MemPlace),Od P n t ty=true->DataW.trod enc P w 0 (λ_=>true) true fuel t cs=U x->Mat w ty cs) (fuel:Nat) (cs:List Value) :
  ∀ (fs:List Field) (off:Nat) (ty:Ty),LI P (Od P n) fs off ty=true->cs.length=off+ty.size ->
   (∀f∈fs,∃x,DataW.trod enc P w 0 (λ_=>true) true fuel f.type ((cs.drop f.offset).take (P.cellsOf f.type))=U x)->Mat w ty (cs.drop off):=by
 intro fs;induction fs with
 |nil=>
  intro off ty h1 h2 _;cases ty<;>simp[LI]at h1;simp only[Ty.size]at h2;show cs.drop off=[]
  exact ZC oM
 |cons f r ihr=>
  intro off ty h1 h2 h3;cases ty with
  |cons a b=>
   simp only[LI,X6,beq_iff_eq]at h1;obtain⟨⟨⟨e1,e2⟩,e3⟩,e4⟩:=h1;obtain⟨y,h5⟩:=h3 f (by simp);simp only[Ty.size]at h2;refine⟨(cs.drop off).take a.size,cs.drop (off+a.size),?_,?_,?_⟩
   ·rw[<-ZA,ZD]
   ·rw[e1,e2]at h5;exact ih _ _ _ _ _ e3 h5
   ·exact ihr _ _ e4 oM λg hg=>h3 g (by simp[hg])
  |_=>simp[LI]at h1
theorem VX {n:Nat} (ih:∀ (t:TypeId) (ty:Ty) (fuel:Nat) (cs:List Value) (x:DataW H×List MemPlace),Od P n t ty=true->DataW.trod enc P w 0 (λ_=>true) true fuel t cs=U x->Mat w ty cs) (fuel:Nat) (cs:List Value) (e:TypeId) :
  ∀ (k i:Nat) (ty:Ty),LJ P (Od P n) e k ty=true->cs.length=i*P.cellsOf e+ty.size ->
   (∀j,j<k->∃ x,DataW.trod enc P w 0 (λ_=>true) true fuel e ((cs.drop ((i+j)*P.cellsOf e)).take (P.cellsOf e))=U x)->Mat w ty (cs.drop (i*P.cellsOf e)):=by
 intro k;induction k with
 |zero=>
  intro i ty h1 h2 _;cases ty<;>simp[LJ]at h1;simp only[Ty.size]at h2;show cs.drop _=[]
  exact ZC oM
 |succ k ihk=>
  intro i ty h1 h2 h3;cases ty with
  |cons a b=>
   simp only[LJ,X6,beq_iff_eq]at h1;obtain⟨⟨e2,e3⟩,e4⟩:=h1;simp only[Ty.size]at h2;obtain⟨x,h5⟩:=h3 0 oM;have e6:i*P.cellsOf e+a.size=(i+1)*P.cellsOf e:=by rw[Zq,e2];omega
   refine⟨(cs.drop (i*P.cellsOf e)).take a.size,cs.drop ((i+1)*P.cellsOf e),?_,?_,?_⟩
   ·rw[<-e6,<-ZA,ZD]
   ·rw[Nat.add_zero]at h5;rw[<-e2];exact ih _ _ _ _ _ e3 h5
   ·refine ihk (i+1) b e4 oM λj hj=>?_;have:=h3 (j+1) oM
    rwa [show i+(j+1)=i+1+j by omega]at this
  |_=>simp[LJ]at h1
theorem mat_of_trod:∀ (n:Nat) (t:TypeId) (ty:Ty) (fuel:Nat) (cs:List Value) (x:DataW H×List MemPlace),Od P n t ty=true->DataW.trod enc P w 0 (λ_=>true) true fuel t cs=U x->Mat w ty cs:=by
 intro n;induction n with
 |zero=>intro t ty fuel cs x h;simp[Od]at h
 |succ n ih=>
  intro t ty fuel cs x hc h;cases fuel with
  |zero=>simp[DataW.trod]at h
  |succ fuel=>
   simp only[Od]at hc;split at hc
   ·rename_i hu;simp only[beq_iff_eq]at hc;subst hc;obtain⟨m,rfl,_,h1⟩:=DataW.trod_int hu h;exact⟨m,rfl,h1⟩
   ·rename_i hu;simp only[beq_iff_eq]at hc;subst hc;obtain⟨m,rfl,_,h1⟩:=DataW.trod_string hu h;exact⟨m,rfl,h1⟩
   ·rename_i hu;simp only[beq_iff_eq]at hc;subst hc;obtain⟨m,rfl,_⟩:=DataW.trod_bool hu h;exact⟨m,rfl⟩
   ·rename_i e hu;split at hc
    ·rename_i y;simp only[X6,beq_iff_eq,decide_eq_true_eq]at hc;obtain⟨⟨e1,e2⟩,e3⟩:=hc;rcases DataW.trod_slice hu h with⟨rfl,_⟩|⟨a,len,cap,elems,rest,m,_,rfl,_,_,hl,hm,hlen,hel,_⟩
     ·exact⟨O,0,0,rfl,Yq _,ZU _,.inl rfl⟩
     ·refine⟨U a,len,cap,rfl,hl,hm,?_⟩;by_cases h0:len=0
      ·exact .inl h0
      ·have key:∀ i,i<len->∃ r,w.cells? 0 (a.add (i*P.cellsOf e)) (P.cellsOf e)=U r/\Mat w y r:=by
        intro i hi;have h5:=hel i hi;rw[Zj oM,X2]at h5;obtain⟨r,h6,h7⟩:=h5;exact⟨r,h6,ih _ _ _ _ _ e3 h7⟩
       have h9':a.spot=O:=by
        obtain⟨r,h6,h7⟩:=key 0 oM;obtain⟨_,h9,_⟩:=LK h6 oM;rw[ZS,DK]at h9;exact h9
       have hrows:∀ k,k<=len->∃ rows:List (List Value),rows.length=k/\(∀r∈rows,Mat w y r)/\rows.flatten.length=k*y.size/\∀ i (hi:i<rows.flatten.length),w.cell? (a.add i)=U rows.flatten[i]:=by
        intro k;induction k with
        |zero=>intro _;exact⟨[],rfl,by simp,by simp,by simp⟩
        |succ k ihk=>
         intro hk;obtain⟨rows,r1,r2,r3,r4⟩:=ihk oM;obtain⟨r,h6,h7⟩:=key k oM;obtain⟨h8,h9,h10⟩:=LK h6 oM;refine⟨rows++[r],by simp[r1],?_,?_,?_⟩
         ·intro x hx;simp at hx;rcases hx with hx|rfl
          ·exact r2 x hx
          ·exact h7
         ·simp[List.flatten_append,r3,h8,e1,Zq]
         ·intro i hi;have e5:(rows++[r]).flatten=rows.flatten++r:=by simp
          simp only[e5]at hi ⊢;by_cases hlt:i<rows.flatten.length
          ·rw[List.getElem_append_left hlt];exact r4 i hlt
          ·rw[List.getElem_append_right oM];simp only[Zk]at hi;have:=h10 (i-rows.flatten.length) oM;rw[<-this,AU a h9',AU a h9',AU _ rfl];congr 2;simp only;rw[r3,e1];omega
       obtain⟨rows,r1,r2,r3,r4⟩:=hrows len (Yq _);have hne:rows.flatten≠[]:=by
        intro h;rw[h]at r3;have:0<len*y.size:=Nat.mul_pos oM e2;simp at r3;omega
       exact .inr ⟨a,rfl,rows,r1,L4 h9' r4 hne,r2⟩
    ·cases hc
   ·rename_i fs hu;simp only[X6,beq_iff_eq]at hc;obtain⟨xs,m,h0,_,h1,h2,h3⟩:=DataW.trod_struct hu h;have:=VW (enc:=enc) ih m cs fs.toList 0 ty hc.2 oM (by
     intro f hf;obtain⟨i,hi,rfl⟩:=List.getElem_of_mem hf;have hi':i<fs.size:=by simpa using hi
     have h4:=h3 i fs[i] (by simp[hi']);rw[Zj oM]at h4;exact⟨_,by simpa using h4⟩)
    simpa using this
   ·rename_i k e hu;simp only[X6,beq_iff_eq]at hc;obtain⟨xs,m,h0,_,h1,h2,h3⟩:=DataW.trod_array hu h;have:=VX (enc:=enc) ih m cs e k 0 ty hc.2 oM (by
     intro j hj;have h4:=h3 j hj;rw[Zj oM]at h4;exact⟨_,by simpa using h4⟩)
    simpa using this
   ·cases hc
end Go.Cw
namespace Go.Cw
open Go
def NG (d:Nat):UInt8:=UInt8.ofNat (48+d%10)
def Bo (n:Nat):List UInt8:=if h:n<10 then[NG n]else Bo (n/10)++[NG n]
termination_by n
decreasing_by omega
theorem Cn {n:Nat} (h:n<10):Bo n=[NG n]:=by rw[Bo,dif_pos h]
theorem DJ {n:Nat} (h:10<=n):Bo n=Bo (n/10)++[NG n]:=by rw[Bo,dif_neg oM]
theorem DT (d:Nat):(NG d).toNat=48+d%10:=by
 have:48+d%10<256:=oM;simp[NG,ZQ this]
theorem KD (n:Nat):∀ b∈Bo n,48<=b.toNat/\b.toNat<=57:=by
 induction n using Nat.strongRecOn with
 |_ n ih=>
  intro b hb;by_cases h:n<10
  ·rw[Cn h,YA]at hb;subst hb;rw[DT];omega
  ·rw[DJ oM,Yd,YA]at hb;rcases hb with hb|rfl
   ·exact ih _ oM b hb
   ·rw[DT];omega
theorem DI (n:Nat):Bo n≠[]:=by
 by_cases h:n<10
 ·rw[Cn h];simp
 ·rw[DJ oM];simp
theorem Qp:∀ {a b:Nat},Bo a=Bo b->a=b:=by
 intro a;induction a using Nat.strongRecOn with
 |_ a ih=>
  intro b h;have hd:∀ x y:Nat,NG x=NG y->x%10=y%10:=by
   intro x y e;have:=congrArg UInt8.toNat e;rw[DT,DT]at this;omega
  by_cases h1:a<10<;>by_cases h2:b<10
  ·rw[Cn h1,Cn h2]at h;have:=hd _ _ (by simpa using h);omega
  ·rw[Cn h1,DJ oM]at h;have:=congrArg ZT h;have hne:=Zx.2 (DI (b/10));rw[Zk]at this;simp only[Zo]at this;omega
  ·rw[Cn h2,DJ (n:=a) oM]at h;have:=congrArg ZT h;have hne:=Zx.2 (DI (a/10));rw[Zk]at this;simp only[Zo]at this;omega
  ·rw[DJ oM,DJ (n:=b) oM]at h;obtain⟨e1,e2⟩:=List.append_inj' h rfl;have h3:=ih (a/10) oM e1;have h4:=hd _ _ (by simpa using e2);omega
theorem AG:∀ (k:Nat) {n:Nat},n<10^k->0<k->(Bo n).length<=k:=by
 intro k;induction k with
 |zero=>intro n _ h;omega
 |succ k ih=>
  intro n hn _;by_cases h:n<10
  ·rw[Cn h];simp
  ·rw[DJ oM,Zk,Zo];have hk:0<k:=by
    rcases Nat.eq_zero_or_pos k with rfl|hk
    ·simp at hn;omega
    ·exact hk
   have:=ih (n:=n/10) (by rw[ZE]at hn;omega) hk;omega
theorem K4:∀ (k:Nat) {n:Nat},(Bo n).length<=k->n<10^k:=by
 intro k;induction k with
 |zero=>intro n h;exact absurd (Zs (Nat.le_zero.1 h)) (DI n)
 |succ k ih=>
  intro n h;by_cases h1:n<10
  ·have:0<10^k:=Nat.pow_pos oM;rw[ZE];omega
  ·rw[DJ oM,Zk,Zo]at h;have:=ih (n:=n/10) oM;rw[ZE];omega
theorem KC {n k:Nat} (hk:0<k):(Bo n).length<=k↔n<10^k:=⟨K4 k,λh=>AG k h hk⟩
def Kh (tag:List UInt8) (e:Nat):List UInt8:=tag++[64]++Bo e
theorem Ry {t1 t2:List UInt8} {e1 e2:Nat} (h:Kh t1 e1=Kh t2 e2):t1=t2/\e1=e2:=by
 have aux:∀ (t1 t2 d1 d2:List UInt8),(∀b∈d1,b≠64)->(∀b∈d2,b≠64)->t1++[64]++d1=t2++[64]++d2->t1=t2/\d1=d2:=by
  intro t1;induction t1 with
  |nil=>
   intro t2 d1 d2 h1 h2 e;cases t2 with
   |nil=>simpa using e
   |cons x t2=>
    simp only[YI,Y7,List.cons.injEq]at e;exact absurd rfl (h1 64 (by rw[e.2];simp))
  |cons x t1 ih=>
   intro t2 d1 d2 h1 h2 e;cases t2 with
   |nil=>
    simp only[YI,Y7,List.cons.injEq]at e;exact absurd rfl (h2 64 (by rw[<-e.2];simp))
   |cons y t2=>
    simp only[Y7,List.cons.injEq]at e;obtain⟨rfl,e⟩:=e;obtain⟨rfl,rfl⟩:=ih t2 d1 d2 h1 h2 (by simpa using e);exact⟨rfl,rfl⟩
 have hn:∀ n,∀b∈Bo n,b≠64:=by
  intro n b hb e;have:=KD n b hb;rw[e]at this;simp at this
 obtain⟨a,b⟩:=aux _ _ _ _ (hn e1) (hn e2) h;exact⟨a,Qp b⟩
def S85:Spec:=λargs h K=>∃ n:Nat,args=[.int .i64 n]/\n<=9223372036854775807/\∀ h',Heap.le h h'->K (.string (str (Bo n))) h'
theorem Wt {N:Num} {Γ:Ctx} [Ak Γ]:Sat S85 (SF N Γ F85):=by
 rintro _ h K ⟨n,rfl,hn,hK⟩;refine An rfl ?_;simp only[F85,Ze,Nat.reduceSub,Nat.reduceAdd];have hneg:((n:Int)<0)=False:=by simp
 refine Ap @hneg ?_;refine Aj (λs:Nat×List UInt8=>[U (.int .i64 s.1),U (.string (str [])),U (.string (str s.2)),U (.string (str [])),O,O,O,O,O])
  (λs h1=>Heap.le h h1/\s.1<=n/\Bo n=Bo s.1++s.2/\s.1+s.2.length<=n/\(s.1=0->s.2=[])) (λs=>s.1) (n,[]) (by dsimp only;try simp only[Pf]) ⟨Heap.le.refl h,Yq _,by simp,by simp,by simp⟩ ?_
 rintro⟨k,s⟩ h1 ⟨hle,hk,hd,hs,h0⟩;dsimp only at hk hd hs h0;have hrem:∀ h,A8 h (.bin .rem) (.v (.int .i64 (k:Int))) (.v (.int .i64 10))=U (.v (.int .i64 ((k%10:Nat):Int))):=by
  intro h;simp only[A8,Bj,Gt,if_true,YH];rw[if_neg (by decide),show(k:Int).tmod 10=((k%10:Nat):Int)from by rw[Int.tmod_eq_emod_of_nonneg oM];omega];rfl
 have hquo:IntKind.i64.wrap ((k:Int).tdiv 10)=((k/10:Nat):Int):=by
  rw[show(k:Int).tdiv 10=((k/10:Nat):Int)from by rw[Int.tdiv_eq_ediv_of_nonneg oM];omega,BC oM oM]
 have hneg2:((((k%10:Nat):Int))<0)=False:=by simp;omega
 refine AH @hrem @hneg2 ?_;have hw:IntKind.i64.wrap (48+((k%10:Nat):Int))=((48+k%10:Nat):Int):=wN;have hb:IntKind.u8.wrap ((48+k%10:Nat):Int)=((NG k).toNat:Int):=by rw[Uh,DT];omega
 refine AH @hw @hb ?_;refine BQ BF 1 Ax [NG k] rfl rfl (by simp[maxLen]) λv h2 hle2 ho=>?_;have hv:=ho.sl Ax;have hb2:=hv.b2s;have hd2:10<=k->Bo n=Bo (k/10)++([NG k]++s):=λh=>by rw[hd,DJ h,Zy]
 have hd1:k<10->Bo n=[NG k]++s:=λh=>by rw[hd,Cn h]
 have hl1:1+s.length<=9223372036854775807:=by
  by_cases e:k=0
  ·rw[h0 e];simp
  ·omega
 refine Ap @hb2 ?_;refine Ap @hquo ?_;refine Ad (λc1=>?_) (λc1=>?_)
 ·refine Ae ?_;rw[hd1 oM]at hK;exact hK _ (hle.trans hle2)
 ·refine Ae ?_;refine Ag (k/10,[NG k]++s) dM (by dsimp only;try simp only[Pf]) ⟨hle.trans hle2,dM,hd2 oM,by dsimp only;simp only[Zk,Zo];omega,λh=>absurd h dM⟩
end Go.Cw
