/- A part of the proof that the last text of this folder tells of. -/
import Derived.Test.YthdgipjkbmmaoaaGreatDoorTab
import Derived.Laws.Sem
import Derived.OrdersHeld
import Derived.Test.YthdgipjkbmmaoaaGreatDoorTaa
namespace Go.Own
open Go
section
variable {k:K} {g g':G} {m m':M}
theorem ver_out (hr:Rel k g m) {T:Nat→Prop} (S:Step k g m g' m' T) {x:Nat} (h:¬ T x∨PAR≤x):g'.ver x=g.ver x:=by
 rcases h with h|h
 ·unfold G.ver;rw[(S.rest x h).1]
 ·have h1:=hr.small
  have h2:=S.len
  unfold G.ver
  rw[at_out (g:=g) (by omega),at_out (g:=g') (by omega)]
theorem LocAt.low (hr:Rel k g m) {s o:Nat} {ix:List (Nat×Nat)} {v0 x:Value} (h:LocAt g m s o ix v0 x):s<PAR:=by
 obtain ⟨d0,d1,f1,f2⟩:=h
 obtain ⟨ts,f3,_⟩:=root_tags hr f1
 have:=lt_of_ent (g:=g) (s:=s) fun e=>by rw[e] at f3;cases f3
 have:=hr.small
 omega
theorem ar1 {u p P:Nat} (h:u<P+100000+p*1000∨P+600000≤u):u<P+100000+(p+1)*1000∨P+600000≤u:=
 h.imp (fun h=>by rw[Nat.add_mul];exact Nat.lt_of_lt_of_le h (Nat.add_le_add_left (Nat.le_add_right _ _) _)) id
theorem ar2 {u p n P:Nat} (hp:p+1+n<400) (h:u<P+100000+p*1000∨P+600000≤u):u<P+100000+p*1000∨P+100000+(p+1)*1000≤u:=by omega
theorem ar3 {u p n P:Nat} (hn:n<900) (h:u<P+100000+p*1000∨P+100000+(p+1)*1000≤u):u<P+100000+p*1000∨P+100000+p*1000+1+n≤u:=by omega
theorem takes_ok {B:Nat→Prop} {cls:List Rts} (hlow:∀x,B x→x<PAR):∀(pas:List PA) (p:Nat) (g g':G) (m:M) (os:List (List D)) (ss:List Src) (σ':St),Rel k g m→takes cls pas g=some g'→backs m.σ (mkArgs pas ss) os=some σ'→Pend k g m cls p pas os→
  p+pas.length<400→(∀mu∈paMus pas,B mu.s∧mu.s ∉ paBoxes pas∧∀y∈wayW mu.w,¬ B y.1)→(∀s∈paBoxes pas,B s∧s<g.length)→nodupB (paBoxes pas)=true→((paMus pas).map Mu.frm).Pairwise (fun a b=>frmApart a b=true)→
  (∀t n rs,outTag cls t= .own n rs→curR g rs=true∧∀r∈rs,¬ B r.1)→
  ∃col',Step k g m g' ⟨σ',m.c,m.h,col'⟩ (fun x=>B x∨PAR≤x)∧(∀b u π,m.col b= .lim u π→(u<PAR+100000+p*1000∨PAR+600000≤u)→col' b= .lim u π)
 | [],p,g,g',m,os,ss,σ',hr,h,he,hP,_,_,_,_,_,_=>by
  cases h
  cases os with
  |cons o os=>exact hP.elim
  |nil=>
   cases he
   exact ⟨m.col,(Step.refl hr).mono hr fun x h=>h.elim,fun _ _ _ h _=>h⟩
 | .v fl []::l,p,g,g',m,os,ss,σ',hr,h,he,hP,hl,hmu,hbx,hnd,hap,hcls=>by
  have hP':Pend k g m cls (p+1) l os:=by cases os<;>exact hP
  have he':backs m.σ (mkArgs l (ss.drop fl.length)) os=some σ':=by
   simp only[mkArgs,List.map_nil] at he
   cases os<;>(rw[backs] at he;exact he)
  have h':takes cls l g=some g':=by simpa[takes,takeMus] using h
  obtain ⟨col',S,L⟩:=takes_ok hlow l (p+1) g g' m os _ σ' hr h' he' hP' (by simp at hl;omega) (fun mu hm=>by simpa[paBoxes] using hmu mu (by simpa[paMus] using hm)) (fun s hs=>hbx s (by simpa[paBoxes] using hs)) (by simpa[paBoxes] using hnd) (by simpa[paMus] using hap) hcls
  exact ⟨col',S,fun b u π h1 h2=>L b u π h1 (ar1 h2)⟩
 | .v fl (mu::mus)::l,p,g,g',m,[],ss,σ',hr,h,he,hP,_,_,_,_,_,_=>hP.elim
 | .v fl (mu::mus)::l,p,g,g',m,o::os,ss,σ',hr,h,he,hP,hl,hmu,hbx,hnd,hap,hcls=>by
  obtain ⟨hM,hP⟩:=hP
  rw[takes,zA] at h
  obtain ⟨g1,h1,h⟩:=h
  have he':∃σ1,backMu m.σ ((mu::mus).map Mu.frm) o=some σ1∧backs σ1 (mkArgs l (ss.drop fl.length)) os=some σ':=by
   simp only[mkArgs,List.map_cons] at he
   rw[backs] at he
   ·split at he
    ·rename_i σ1 e;exact ⟨σ1,e,he⟩
    ·cases he
   ·simp
  obtain ⟨σ1,e1,e2⟩:=he'
  have hap':((mu::mus).map Mu.frm).Pairwise (fun a b=>frmApart a b=true)∧((paMus l).map Mu.frm).Pairwise (fun a b=>frmApart a b=true)∧∀a∈(mu::mus).map Mu.frm,∀b∈(paMus l).map Mu.frm,frmApart a b=true:=by
   rw[paMus,List.map_append,List.pairwise_append] at hap
   exact hap
  have hmB:∀mu'∈mu::mus,B mu'.s∧mu'.s ∉ paBoxes l∧∀y∈wayW mu'.w,¬ B y.1:=fun mu' hm=>hmu mu' (by rw[paMus];exact List.mem_append_left _ hm)
  obtain ⟨col1,S1,K1⟩:=takeMus_ok (B:=B) (mu::mus) 0 g g1 m o σ1 hr h1 e1 hM (fun mu' hm=>⟨(hmB mu' hm).1,(hmB mu' hm).2.2⟩) hlow hap'.1
  have hr1:=S1.rel hr
  have hcls1:∀t n rs,outTag cls t= .own n rs→∀r∈rs,g1.ver r.1=g.ver r.1:=fun t n rs ht r hr'=>by
   by_cases hp:PAR≤r.1
   ·exact ver_out hr S1 (.inr hp)
   ·refine ver_out hr S1 (.inl ?_)
    rintro (e|e)
    ·obtain ⟨mu',a1,a2⟩:=List.mem_map.1 e
     exact (hcls t n rs ht).2 r hr' (a2 ▸ (hmB mu' a1).1)
    ·exact hp e
  have hbx1:∀s∈paBoxes l,¬ (s∈(mu::mus).map (·.s)∨PAR≤s):=fun s hs=>by
   rintro (e|e)
   ·obtain ⟨mu',a1,a2⟩:=List.mem_map.1 e
    exact (hmB mu' a1).2.1 (a2 ▸ hs)
   ·have:=hlow s (hbx s (by simpa[paBoxes] using hs)).1;omega
  simp at hl
  have hP1:Pend k g1 ⟨σ1,m.c,m.h,col1⟩ cls (p+1) l os:=Pend.turn (P0:=p+1) (W:=fun f=>(∀y∈f.2.2,¬ B y.1)∧∀mu'∈mu::mus,frmApart mu'.frm f=true) hr S1 rfl ⟨fun b u π hu hb=>K1.lim b u π (fun q' a1 a2=>by unfold limP;omega) hb,fun u d x hu hh=>K1.held u d x (fun q' a1 a2=>by unfold limP;omega) hh,K1.loc⟩
   hcls1 hP (Nat.le_refl _) (by omega) (fun mu2 hm2=>⟨(hmu mu2 (by rw[paMus];exact zQ _ hm2)).2.2,fun mu1 hm1=>hap'.2.2 _ (List.mem_map.2 ⟨mu1,hm1,rfl⟩) _ (List.mem_map.2 ⟨mu2,hm2,rfl⟩)⟩) hbx1
  obtain ⟨col2,S2,L2⟩:=takes_ok hlow l (p+1) g1 g' ⟨σ1,m.c,m.h,col1⟩ os _ σ' hr1 h e2 hP1 (by omega) (fun mu2 hm2=>by simpa[paBoxes] using hmu mu2 (by rw[paMus];exact zQ _ hm2))
   (fun s hs=>by have:=hbx s (by simpa[paBoxes] using hs);rw[S1.len];exact this) (by simpa[paBoxes] using hnd) hap'.2.1 fun t n rs ht=>⟨by
    have:=(hcls t n rs ht).1
    rw[curR_iff] at this ⊢
    intro r hr'
    rw[hcls1 t n rs ht r hr',this r hr'],(hcls t n rs ht).2⟩
  refine ⟨col2,(S1.trans hr S2).mono hr fun y hy=> ?_,fun b u π h1 h2=>L2 b u π (K1.lim b u π (fun q' a1 a2=>by unfold limP;omega) h1) (ar1 h2)⟩
  rcases hy with (e|e)|e
  ·obtain ⟨mu',a1,a2⟩:=List.mem_map.1 e
   exact .inl (a2 ▸ (hmB mu' a1).1)
  ·exact .inr e
  ·exact e
 | .bx s ty tout::l,p,g,g',m,[],ss,σ',hr,h,he,hP,_,_,_,_,_,_=>hP.elim
 | .bx s ty tout::l,p,g,g',m,o::os,ss,σ',hr,h,he,hP,hl,hmu,hbx,hnd,hap,hcls=>by
  obtain ⟨hlen,hB,hP⟩:=hP
  obtain ⟨blk,cs,a1,a2,a3,a4,a5,a6,a7⟩:=hB.out
  simp at hl
  simp only[paBoxes,nodupB,zD,Bool.not_eq_true',List.contains_eq_mem,decide_eq_false_iff_not] at hnd
  obtain ⟨hsB,hsl⟩:=hbx s (by simp[paBoxes])
  have hsP:=hlow s hsB
  have S1:=Step.layBox hr hsl (u:= .trn) (c':=m.c) (fun _ _=>rfl) (.inr ⟨rfl,rfl⟩) (v:=PAR+100000+p*1000) (by omega) a1 a2 a3 (ts:=tout.map (outTag cls)) (ds:=o) (by simpa using a4) (by simpa using a5) a6 fun q t d x b1 b2 b3=>by
   rw[zK,zC] at b1
   obtain ⟨rc,b1,rfl⟩:=b1
   have hc:=a7 q rc d x b1 b2 b3
   cases ht:outTag cls rc with
   |sc=>rw[ht] at hc;exact .inl ⟨rfl,hc.1,hc.2⟩
   |own n rs=>
    rw[ht] at hc
    exact .inr ⟨n,rs,rfl,hc.1,(hcls rc n rs ht).1,fun r hr' e=>(hcls rc n rs ht).2 r hr' (e ▸ hsB),hc.2⟩
   |_=>rw[ht] at hc;exact hc.elim
  have hr1:=S1.rel hr
  have hlim:∀b u π,(u<PAR+100000+p*1000∨PAR+100000+(p+1)*1000≤u)→m.col b= .lim u π→takeCol m.col s (PAR+100000+p*1000) (tout.map (outTag cls)).length b= .lim u π:=fun b u π hu hb=>by
   rw[takeCol_same,hb]
   ·rw[hb]
    have:=(hr.mem.lm b u π hb).1
    simp[Color.own];omega
   ·intro u' π' e
    rw[hb] at e
    cases e
    rw[List.length_map]
    exact ar3 hlen hu
  have hcls1:∀t n rs,outTag cls t= .own n rs→∀r∈rs,(Turn.trn.of g s (.box ty (tout.map (outTag cls)))).ver r.1=g.ver r.1:=fun t n rs ht r hr'=>by
   by_cases hp:PAR≤r.1
   ·exact ver_out hr S1 (.inr hp)
   ·refine ver_out hr S1 (.inl ?_)
    rintro (e|e)
    ·exact (hcls t n rs ht).2 r hr' (e ▸ hsB)
    ·exact hp e
  have hP1:=Pend.turn (P0:=p+1) (W:=fun f=>f.1≠s∧∀y∈f.2.2,¬ B y.1) hr S1 rfl ⟨fun b u π hu hb=>hlim b u π (by omega) hb,fun u d x hu hh=>hh.turn hr S1 rfl (fun b π hb=>hlim b u π (by omega) hb) (by simp),fun s2 o2 w ix v0 x hW hw hl2=>by
    refine ⟨?_,hl2.keep hr S1 ?_⟩
    ·rw[← hw]
     refine wayOf_keep fun z hz=> ?_
     simp only[St.upd]
     rw[if_neg fun e=>hW.2 z hz (by rw[e];exact hsB)]
    ·rintro (e|e)
     ·exact hW.1 e
     ·have:=hl2.low hr;omega⟩
   hcls1 hP (Nat.le_refl _) (by omega) (fun mu hm=>by
    have:=hmu mu (by simpa[paMus] using hm)
    exact ⟨fun e=>this.2.1 (by simp only[Mu.frm] at e;rw[e];simp[paBoxes]),this.2.2⟩) fun s' hs'=>by
    rintro (e|e)
    ·exact hnd.1 (e ▸ hs')
    ·have:=hlow s' (hbx s' (by simp[paBoxes,hs'])).1;omega
  have he':backs (m.σ.upd s o) (mkArgs l ss) os=some σ':=by
   simp only[mkArgs] at he
   rw[backs] at he
   exact he
  obtain ⟨col2,S2,L2⟩:=takes_ok hlow l (p+1) _ g' _ os ss σ' hr1 (by rw[takes] at h;exact h) he' hP1 (by omega) (fun mu hm=>by
    have:=hmu mu (by simpa[paMus] using hm)
    exact ⟨this.1,fun e=>this.2.1 (by simp[paBoxes,e]),this.2.2⟩) (fun s' hs'=>by have:=hbx s' (by simp[paBoxes,hs']);rw[S1.len];exact this) hnd.2 (by simpa[paMus] using hap) fun t n rs ht=>⟨by
    have:=(hcls t n rs ht).1
    rw[curR_iff] at this ⊢
    intro r hr'
    rw[hcls1 t n rs ht r hr',this r hr'],(hcls t n rs ht).2⟩
  refine ⟨col2,(S1.trans hr S2).mono hr fun y hy=> ?_,fun b u π h1 h2=>L2 b u π (hlim b u π (ar2 (n:=l.length) (by omega) h2) h1) (ar1 h2)⟩
  rcases hy with (rfl|e)|e
  ·exact .inl hsB
  ·exact .inr e
  ·exact e
end
theorem argCels_get {g:G}:∀{ps:List PC} {cs:List Cel} {l:List (Mv×Option Mu)},argCels g ps cs=some l→l.length=ps.length∧cs.length=ps.length∧
  ∀(o:Nat) (p:PC) (c:Cel) (e:Mv×Option Mu),ps[o]? =some p→cs[o]? =some c→l[o]? =some e→argCel g p c=some e
 | [],[],l,h=>by simp[argCels] at h;subst h;simp
 | [],_::_,_,h=>by simp[argCels] at h
 |_::_,[],_,h=>by simp[argCels] at h
 |p::ps,c::cs,l,h=>by
  simp only[argCels,zA,zC] at h
  obtain ⟨e,h1,l',h2,rfl⟩:=h
  obtain ⟨a1,a2,a3⟩:=argCels_get h2
  refine ⟨by simp[a1],by simp[a2],fun o p' c' e' b1 b2 b3=> ?_⟩
  cases o with
  |zero=>simp at b1 b2 b3;subst b1 b2 b3;exact h1
  |succ o=>exact a3 o p' c' e' (by simpa using b1) (by simpa using b2) (by simpa using b3)
inductive ArgsOk (cx:Cx) (k:K) (g:G) (m:M):List PSig→List Operand→List TypeId→CallAcc→List Value→Prop
 |nil:ArgsOk cx k g m [] [] [] {} []
 |v {pcs:List PC} {ps:List PSig} {x:Operand} {xs:List Operand} {ty:TypeId} {tys:List TypeId} {a:CallAcc} {xv:List Value} {vs:List Value} {l:List (Mv×Option Mu)}
  (hv:cellsV (shapeOf cx.P ty) (vl m x)=some vs) (h1:vs.length=pcs.length) (h2:l.length=pcs.length) (hone:∀v∈vs,v.oneCell'=true)
  (hc:∀(o:Nat) (pc:PC) (e:Mv×Option Mu) (y:Value),pcs[o]? =some pc→l[o]? =some e→vs[o]? =some y→CellArg k g m pc e y) (rest:ArgsOk cx k g m ps xs tys a xv):
  ArgsOk cx k g m (.v pcs::ps) (x::xs) (ty::tys) ⟨l.map (·.1)++a.ms,l.map (·.1.rs)++a.cls, .v (pcs.map fun p=>p.n.isNone) (l.filterMap (·.2))::a.pas⟩ (vs++xv)
 |bx {ty:Nat} {tin:List (Option Nat)} {tout:List RC} {ps:List PSig} {t s:Nat} {xs:List Operand} {ty':TypeId} {tys:List TypeId} {a:CallAcc} {xv:List Value} {ts:List Tag} {rs:List Rts}
  (hb:boxAt g t=some (s,0)) (hp:m.σ t≠[]) (he:g.ent s= .box ty ts) (hf:boxFits g tin ts=some rs) (hl:tout.length=tin.length) (rest:ArgsOk cx k g m ps xs tys a xv):
  ArgsOk cx k g m (.bx ty tin tout::ps) (.tmp t::xs) (ty'::tys) ⟨a.ms,rs++a.cls, .bx s ty tout::a.pas⟩ xv
section
variable {cx:Cx} {k:K} {g:G} {m:M}
theorem callArgs_ok (hr:Rel k g m):∀{ps:List PSig} {xs:List Operand} {tys:List TypeId} {a:CallAcc},callArgs cx g ps xs tys=some a→(∀x∈xs,Here m x)→∃xv,ArgsOk cx k g m ps xs tys a xv
 | [],[],[],a,h,_=>by simp[callArgs] at h;subst h;exact ⟨[], .nil⟩
 | [],[],_::_,_,h,_=>by simp[callArgs] at h
 | [],_::_,_,_,h,_=>by simp[callArgs] at h
 | .v _::_,[],_,_,h,_=>by simp[callArgs] at h
 | .v _::_,_::_,[],_,h,_=>by simp[callArgs] at h
 | .v pcs::ps,x::xs,ty::tys,a,h,hp=>by
  simp only[callArgs,zA,guardO_some,beq_iff_eq] at h
  obtain ⟨y,hy,l,hl,a',ha,hsh,h⟩:=h
  cases h
  obtain ⟨vs,h1,h2⟩:=cels_ok hr (sh:=y.1) (cs:=y.2) hy fun t e=>hp x (by simp) t e
  obtain ⟨xv,hrest⟩:=callArgs_ok hr ha fun z hz=>hp z (by simp[hz])
  obtain ⟨l1,l2,l3⟩:=argCels_get hl
  rw[hsh] at h1
  refine ⟨vs++xv, .v h1 (by rw[h2.1,l2]) l1 h2.one (fun o pc e z b1 b2 b3=> ?_) hrest⟩
  have ho:o<y.2.length:=by rw[l2];exact (zE.1 b1).1
  obtain ⟨z',hz,hcel⟩:=h2.2 o _ (zB ho)
  rw[b3] at hz
  cases hz
  exact argCel_ok hr (l3 o pc _ e b1 (zB ho) b2) hcel
 | .bx _ _ _::_,[],_,_,h,_=>by simp[callArgs] at h
 | .bx ty tin tout::ps,x::xs,tys,a,h,hp=>by
  cases x with
  |tmp t=>
   cases tys with
   |nil=>simp[callArgs] at h
   |cons ty' tys=>
    simp only[callArgs,zA,guardO_some,zD,beq_iff_eq] at h
    obtain ⟨b,hb,a',ha,⟨⟨hb0,hty⟩,hl⟩,rs,hf,h⟩:=h
    cases h
    obtain ⟨s,o⟩:=b
    simp only at hb0 hty hf
    subst hb0
    obtain ⟨xv,hrest⟩:=callArgs_ok hr ha fun z hz=>hp z (by simp[hz])
    have hpt:=hp (.tmp t) (by simp) t rfl
    obtain ⟨ty2,ts,he,_⟩:=boxAt_ok hr hb hpt
    have e1:boxTy g s=ty2:=by unfold boxTy;rw[he]
    have e2:boxTags g s=ts:=by unfold boxTags;rw[he]
    rw[e1] at hty
    rw[e2] at hf
    subst hty
    exact ⟨xv, .bx hb hpt he hf hl hrest⟩
  |_=>simp[callArgs] at h
def Ins (σ:St):List PA→List D→List (List D)→Prop
 | [],ds,[]=>ds=[]
 | .v fl _::l,ds,o::ins=>o=ds.take fl.length∧fl.length≤ds.length∧flat fl o=true∧Ins σ l (ds.drop fl.length) ins
 | .bx s _ _::l,ds,o::ins=>o=σ s∧σ s≠[]∧Ins σ l ds ins
 |_,_,_=>False
theorem ins_ok {ps:List PSig} {xs:List Operand} {tys:List TypeId} {a:CallAcc} {xv:List Value} (h:ArgsOk cx k g m ps xs tys a xv) {σ:St}:∀{ss:List Src} {ins:List (List D)},ss.length=a.ms.length→argsIn σ (mkArgs a.pas ss)=some ins→
  ∃ds,evs σ ss=some ds∧Ins σ a.pas ds ins:=by
 induction h with
 |nil=>
  intro ss ins hl he
  simp at hl
  subst hl
  simp[mkArgs,argsIn] at he
  subst he
  exact ⟨[],rfl,rfl⟩
 | @v pcs ps x xs ty tys a xv vs l hv h1 h2 hone hc rest ih=>
  intro ss ins hl he
  simp only[mkArgs,argsIn] at he
  split at he
  ·rename_i o r e1 e2
   cases he
   simp only[argIn,zA] at e1
   obtain ⟨q,e1,e3⟩:=e1
   split at e3
   ·rename_i hfl
    cases e3
    simp only[evLive,zA] at e1
    obtain ⟨q',e1,e3⟩:=e1
    split at e3
    ·cases e3
     simp at hl
     obtain ⟨ds,d1,d2⟩:=ih (ss:=ss.drop (pcs.map fun p=>p.n.isNone).length) (by simp;omega) e2
     have hql:=(evs_get e1).1
     simp at hql
     refine ⟨o++ds,by rw[← List.take_append_drop (pcs.map fun p=>p.n.isNone).length ss];exact evs_app e1 d1,?_⟩
     have hq:o.length=(pcs.map fun p=>p.n.isNone).length:=by simp;omega
     refine ⟨by rw[← hq];simp,by simp;omega,hfl,by rw[← hq];simpa using d2⟩
    ·cases e3
   ·cases e3
  ·cases he
 |bx hb hp he hf hl rest ih=>
  intro ss ins hl' he'
  simp only[mkArgs,argsIn] at he'
  split at he'
  ·rename_i o r e1 e2
   cases he'
   simp only[argIn] at e1
   split at e1
   ·cases e1
   ·rename_i hne
    cases e1
    obtain ⟨ds,d1,d2⟩:=ih hl' e2
    exact ⟨ds,d1,rfl,fun e=>hne (by rw[e];rfl),d2⟩
  ·cases he'
def InCell (k:K) (m:M) (u:Nat) (n:Option Nat) (rs:Rts) (d:D) (y:Value):Prop:=
 match n with
 |none=>d.flat=true∧∀(h:Array Obj) (good:Good),O h good d y
 |some n=>d.flat=false∧∃n',n≤n'∧Held k m u n' rs d y
def InOk (P:Program) (k:K) (m:M):Nat→Nat→List PSig→List TypeId→List Value→List (List D)→List Rts→Prop
 |_,_,[],[],[],[],cls=>cls=[]
 |p,i, .v pcs::ps,ty::tys,x::args,ds::ins,cls=>(∃vs,cellsV (shapeOf P ty) x=some vs∧vs.length=pcs.length∧ds.length=pcs.length∧(∀v∈vs,v.oneCell'=true)∧
  ∀(o:Nat) (pc:PC) (d:D) (y:Value) (rs:Rts),pcs[o]? =some pc→ds[o]? =some d→vs[o]? =some y→cls[o]? =some rs→InCell k m (PAR+(i+o)) pc.n rs d y)∧
  pcs.length≤cls.length∧InOk P k m (p+1) (i+pcs.length) ps tys args ins (cls.drop pcs.length)
 |p,i, .bx ty tin _::ps,_::tys,x::args,ds::ins,cls=>(∃(blk:Nat) (cs:Array Value),x= .pointer (some ⟨blk,0,none⟩)∧m.col blk= .lim (PAR+100000+p*1000) []∧m.h[blk]? =some (.cells cs ty (0,0))∧
  cs.size=tin.length∧ds.length=tin.length∧(∀v∈cs.toList,v.oneCell'=true)∧
  ∀(o:Nat) (n:Option Nat) (d:D) (y:Value) (rs:Rts),tin[o]? =some n→ds[o]? =some d→cs.toList[o]? =some y→cls[o]? =some rs→InCell k m (PAR+100000+p*1000+1+o) n rs d y)∧
  tin.length≤cls.length∧InOk P k m (p+1) i ps tys args ins (cls.drop tin.length)
 |_,_,_,_,_,_,_=>False
theorem in_ok {ps:List PSig} {xs:List Operand} {tys:List TypeId} {a:CallAcc} {xv:List Value} (h:ArgsOk cx k g m ps xs tys a xv) {m3:M} (hc:m3.c=m.c):∀{p i:Nat} {ds:List D} {ins:List (List D)},Ins m3.σ a.pas ds ins→
  (∀(j:Nat) (mv:Mv) (d:D) (x:Value),a.ms[j]? =some mv→ds[j]? =some d→xv[j]? =some x→Held k m3 (PAR+(i+j)) mv.n mv.rs d x)→
  (∀(q s ty:Nat) (tout:List RC) (ts:List Tag),a.pas[q]? =some (.bx s ty tout)→g.ent s= .box ty ts→∃blk cs,Given k m3 (p+q) s ty ts blk cs)→(∀s,m3.σ s≠[]→s∈paBoxes a.pas→m.σ s≠[])→Rel k g m→
  InOk cx.P k m3 p i ps tys (xs.map (vl m)) ins a.cls:=by
 induction h with
 |nil=>
  intro p i ds ins h _ _ _ _
  cases ins with
  |nil=>rfl
  |cons=>exact h.elim
 | @v pcs ps x xs ty tys a xv vs l hv h1 h2 hone hcell rest ih=>
  intro p i ds ins h hheld hgiv hpres hr
  cases ins with
  |nil=>exact h.elim
  |cons o ins=>
  obtain ⟨e1,e2,e3,e4⟩:=h
  have hfl:(pcs.map fun p=>p.n.isNone).length=pcs.length:=by simp
  rw[hfl] at e1 e2 e4
  have hol:o.length=pcs.length:=by rw[e1];simp;omega
  refine ⟨⟨vs,hv,h1,hol,hone,fun q pc d y rs b1 b2 b3 b4=> ?_⟩,by simp;omega,?_⟩
  ·have hq:q<pcs.length:=(zE.1 b1).1
   have hql:q<l.length:=by omega
   have hmv:(l.map (·.1)++a.ms)[q]? =some l[q].1:=by rw[zI (by simpa using hql)];simp[hql]
   have hrs:(l.map (·.1.rs)++a.cls)[q]? =some l[q].1.rs:=by rw[zI (by simpa using hql)];simp[hql]
   rw[hrs] at b4
   cases b4
   have hd:ds[q]? =some d:=by rw[e1,List.getElem?_take_of_lt hq] at b2;exact b2
   have hx:(vs++xv)[q]? =some y:=by rw[zI (by omega)];exact b3
   have hH:=hheld q _ d y hmv hd hx
   have hCA:=hcell q pc l[q] y b1 (zB hql) b3
   have hflat:=flat_get e3 (i:=q) (b:=pc.n.isNone) (d:=d) (by simp[b1]) b2
   unfold InCell
   cases hn:pc.n with
   |none=>rw[hn] at hflat;simp at hflat;exact ⟨hflat,flat_any hflat hH⟩
   |some n=>rw[hn] at hflat;simp at hflat;exact ⟨hflat,_,hCA.som n hn,hH⟩
  ·have hdrop:(l.map (·.1.rs)++a.cls).drop pcs.length=a.cls:=by rw[← h2];simp
   rw[hdrop]
   refine ih e4 (fun j mv d x b1 b2 b3=> ?_) (fun q s ty tout ts b1 b2=> ?_) (fun s b1 b2=>hpres s b1 (by simpa[paBoxes] using b2)) hr
   ·have:=hheld (pcs.length+j) mv d x (by rw[zH (by simp;omega)];simpa[h2] using b1) (by simpa[List.getElem?_drop] using b2) (by rw[zH (by omega)];simpa[h1] using b3)
    rwa [← Nat.add_assoc i] at this
   ·obtain ⟨blk,cs,hg⟩:=hgiv (q+1) s ty tout ts (by simpa using b1) b2
    refine ⟨blk,cs,?_⟩
    have e:p+(q+1)=p+1+q:=by omega
    rwa [e] at hg
 | @bx ty tin tout ps t s xs ty' tys a xv ts rs hb hp he hf hl rest ih=>
  intro p i ds ins h hheld hgiv hpres hr
  cases ins with
  |nil=>exact h.elim
  |cons o ins=>
  obtain ⟨e1,e2,e3⟩:=h
  obtain ⟨blk,cs,hG⟩:=hgiv 0 s ty tout ts (by simp) he
  rw[Nat.add_zero] at hG
  obtain ⟨f1,f2,f3⟩:=boxFits_get hf
  have hps:=hpres s e2 (by simp[paBoxes])
  obtain ⟨ty2,ts2,hE,hbx⟩:=boxAt_ok hr hb hp
  obtain ⟨blk2,_,c1,c2,_⟩:=hbx hps
  have hblk:m.c t= .pointer (some ⟨blk,0,none⟩):=by
   have:=hG.ptr
   rw[hc,c1] at this
   rw[c2,← this]
  refine ⟨⟨blk,cs,hblk,hG.col,hG.blk,by rw[hG.len,f1],by rw[e1,hG.len2,f1],hG.one,fun q n d y rs' b1 b2 b3 b4=> ?_⟩,by simp;omega,?_⟩
  ·have hq:q<tin.length:=(zE.1 b1).1
   have hqt:q<ts.length:=by omega
   have b4':rs[q]? =some rs':=by rw[zI (by omega)] at b4;exact b4
   have hcc:=hG.cell q ts[q] d y (zB hqt) (by rw[← e1];exact b2) b3
   rcases f3 q ts[q] n rs' (zB hqt) b1 b4' with ⟨g1,rfl⟩|⟨n0,mm,g1,rfl,g2,_⟩
   ·rw[g1] at hcc;exact hcc
   ·rw[g1] at hcc;exact ⟨hcc.1,mm,g2,hcc.2⟩
  ·have hdrop:(rs++a.cls).drop tin.length=a.cls:=by rw[f1,← f2];simp
   rw[hdrop]
   refine ih e3 hheld (fun q s ty tout ts b1 b2=> ?_) (fun s b1 b2=>hpres s b1 (by simp[paBoxes,b2])) hr
   obtain ⟨blk,cs,hg⟩:=hgiv (q+1) s ty tout ts (by simpa using b1) b2
   refine ⟨blk,cs,?_⟩
   have e:p+(q+1)=p+1+q:=by omega
   rwa [e] at hg
end
def cps:Nat→Nat→List PSig→List (Nat×Nat×Option Nat×Nat)
 |_,_,[]=>[]
 |p,i, .v pcs::l=>(pcs.zipIdx.map fun x=>(p,x.2,x.1.n,PAR+(i+x.2)))++cps (p+1) (i+pcs.length) l
 |p,i, .bx _ tin _::l=>(tin.zipIdx.map fun x=>(p,x.2,x.1,PAR+100000+p*1000+1+x.2))++cps (p+1) i l
def vc:List PSig→Nat
 | []=>0
 | .v pcs::l=>pcs.length+vc l
 | .bx _ _ _::l=>vc l
theorem ar4 {P p q o u:Nat} (hq:p+1≤q) (ho:o<900) (h:P+100000+q*1000<u):P+100000+p*1000+1+o≠u:=by omega
theorem ar5 {P p q o:Nat} (ho:o<900):P+100000+q*1000≠P+100000+p*1000+1+o:=by omega
theorem ar6 {P p j u:Nat} (h:j<P+1000) (hu:P+100000+p*1000<u):j≠u:=by omega
theorem zip_lt {α:Type} {l:List α} {a:α} {o:Nat} (h:(a,o)∈l.zipIdx):o<l.length:=by
 obtain ⟨j,hj⟩:=zP h
 rw[List.getElem?_zipIdx,zC] at hj
 obtain ⟨a,h1,h2⟩:=hj
 cases h2
 simpa using (zE.1 h1).1
theorem cps_mem:∀{ps:List PSig} {p i:Nat} {c:Nat×Nat×Option Nat×Nat},c∈cps p i ps→(∀s∈ps,parOk s=true)→
  p≤c.1∧c.1<p+ps.length∧((PAR+i≤c.2.2.2∧c.2.2.2<PAR+(i+vc ps))∨∃q o,p≤q∧o<900∧c.2.2.2=PAR+100000+q*1000+1+o)
 | [],_,_,c,h,_=>by simp[cps] at h
 | .v pcs::l,p,i,c,h,hok=>by
  simp only[cps,zT,List.mem_map] at h
  rcases h with ⟨⟨pc,o⟩,h,rfl⟩|h
  ·have ho:o<pcs.length:=by
    obtain ⟨j,hj⟩:=zP h
    rw[List.getElem?_zipIdx,zC] at hj
    obtain ⟨a,h1,h2⟩:=hj
    cases h2
    simpa using (zE.1 h1).1
   refine ⟨Nat.le_refl _,by simp, .inl ⟨by show PAR+i≤PAR+(i+o);omega,by show PAR+(i+o)<PAR+(i+(pcs.length+vc l));omega⟩⟩
  ·obtain ⟨h1,h2,h3⟩:=cps_mem h fun s hs=>hok s (by simp[hs])
   refine ⟨by omega,by simp;omega,?_⟩
   rcases h3 with h3|⟨q,o,h3,h4,h5⟩
   ·left;simp only[vc];omega
   ·exact .inr ⟨q,o,by omega,h4,h5⟩
 | .bx ty tin tout::l,p,i,c,h,hok=>by
  simp only[cps,zT,List.mem_map] at h
  rcases h with ⟨⟨pc,o⟩,h,rfl⟩|h
  ·have ho:o<tin.length:=by
    obtain ⟨j,hj⟩:=zP h
    rw[List.getElem?_zipIdx,zC] at hj
    obtain ⟨a,h1,h2⟩:=hj
    cases h2
    simpa using (zE.1 h1).1
   have hp:=hok (.bx ty tin tout) (by simp)
   simp[parOk] at hp
   exact ⟨Nat.le_refl _,by simp, .inr ⟨p,o,Nat.le_refl _,by omega,rfl⟩⟩
  ·obtain ⟨h1,h2,h3⟩:=cps_mem h fun s hs=>hok s (by simp[hs])
   refine ⟨by omega,by simp;omega,?_⟩
   rcases h3 with h3|⟨q,o,h3,h4,h5⟩
   ·left;simp only[vc];omega
   ·exact .inr ⟨q,o,by omega,h4,h5⟩
theorem cps_apart:∀{ps:List PSig} {p i:Nat},(∀s∈ps,parOk s=true)→i+vc ps<1000→(cps p i ps).Pairwise fun a b=>a.2.2.2≠b.2.2.2
 | [],_,_,_,_=>by simp[cps]
 | .v pcs::l,p,i,hok,hn=>by
  simp only[vc] at hn
  simp only[cps,List.pairwise_append]
  refine ⟨?_,cps_apart (fun s hs=>hok s (by simp[hs])) (by omega),fun a ha b hb=> ?_⟩
  ·rw[List.pairwise_iff_getElem]
   intro x y hx hy hxy
   simp
   omega
  ·obtain ⟨⟨pc,o⟩,ha',rfl⟩:=List.mem_map.1 ha
   have ho:o<pcs.length:=zip_lt ha'
   rcases (cps_mem hb fun s hs=>hok s (by simp[hs])).2.2 with h|⟨q,o',_,_,h⟩
   ·show PAR+(i+o)≠b.2.2.2
    omega
   ·rw[h]
    show PAR+(i+o)≠_
    exact ar6 (P:=PAR) (p:=q) (by omega) (by omega)
 | .bx ty tin tout::l,p,i,hok,hn=>by
  simp only[vc] at hn
  simp only[cps,List.pairwise_append]
  have hp:=hok (.bx ty tin tout) (by simp)
  simp[parOk] at hp
  refine ⟨?_,cps_apart (fun s hs=>hok s (by simp[hs])) (by omega),fun a ha b hb=> ?_⟩
  ·rw[List.pairwise_iff_getElem]
   intro x y hx hy hxy
   simp
   omega
  ·obtain ⟨⟨pc,o⟩,ha',rfl⟩:=List.mem_map.1 ha
   have ho:o<tin.length:=zip_lt ha'
   rcases (cps_mem hb fun s hs=>hok s (by simp[hs])).2.2 with h|⟨q,o',h1,_,h⟩
   ·exact (ar6 (P:=PAR) (p:=p) (by omega) (by show PAR+100000+p*1000<PAR+100000+p*1000+1+o;omega)).symm
   ·exact ar4 (q:=q) h1 (by omega) (by omega)
def handOf (ps:List PSig):Hand:=
 ⟨fun u=>match (cps 0 0 ps).find? (fun c=>c.2.2.2==u) with|some (p,o,some n,_)=>some (p,o,n)|_=>none,
  fun u=>if PAR+100000≤u∧(u-(PAR+100000)) % 1000=0 then some ((u-(PAR+100000)) / 1000) else none⟩
theorem find_apart {α:Type} {f:α→Nat}:∀{l:List α},(l.Pairwise fun a b=>f a≠f b)→∀{c:α},c∈l→l.find? (fun a=>f a==f c)=some c
 | [],_,c,h=>by simp at h
 |a::l,hp,c,h=>by
  rw[List.pairwise_cons] at hp
  rcases List.mem_cons.1 h with rfl|h
  ·simp
  ·rw[List.find?_cons_of_neg (by simpa using hp.1 c h)]
   exact find_apart hp.2 h
theorem handOf_c {ps:List PSig} (hok:∀s∈ps,parOk s=true) (hn:vc ps<1000) {p o n u:Nat} (h:(p,o,some n,u)∈cps 0 0 ps):(handOf ps).c u=some (p,o,n):=by
 have:=find_apart (f:=fun c:Nat×Nat×Option Nat×Nat=>c.2.2.2) (cps_apart (p:=0) (i:=0) hok (by omega)) h
 simp only[handOf]
 simp only at this
 rw[this]
theorem handOf_low {ps:List PSig} (hok:∀s∈ps,parOk s=true) {p o n u:Nat} (h:(handOf ps).c u=some (p,o,n)):p<ps.length:=by
 simp only[handOf] at h
 split at h
 ·rename_i h1
  cases h
  have:=(cps_mem (List.mem_of_find?_eq_some h1) hok).2.1
  simpa using this
 ·cases h
theorem handOf_blk {ps:List PSig} (hok:∀s∈ps,parOk s=true) (hn:vc ps<1000) {p:Nat}:(handOf ps).c (PAR+100000+p*1000)=none∧(handOf ps).b (PAR+100000+p*1000)=some p:=by
 constructor
 ·simp only[handOf]
  have:(cps 0 0 ps).find? (fun c=>c.2.2.2==PAR+100000+p*1000)=none:=by
   rw[List.find?_eq_none]
   intro c hc
   simp only[beq_iff_eq]
   rcases (cps_mem hc hok).2.2 with h|⟨q,o,_,h1,h⟩
   ·intro e;rw[e] at h;omega
   ·rw[h];exact (ar5 h1).symm
  rw[this]
 ·simp only[handOf]
  rw[if_pos ⟨by omega,by omega⟩]
  congr 1
  omega
section
variable {k:K} {m:M} {H:Hand} {cl:Nat→Rts} {lu:Nat→Nat}
theorem hand_in {u j p o:Nat} {n:Option Nat} {rs:Rts} {d:D} {y:Value} (h:InCell k m u n rs d y) (hc:∀n',n=some n'→H.c u=some (p,o,n')) (hj:cl j=rs) (hl:lu j=u) {σ:St} {c:Nat→Value}:
  CellOk (calleeK k m H cl lu) [] ⟨σ,c,m.h,handCol H m.col⟩ p o d y (tagOf j n):=by
 cases n with
 |none=>exact ⟨h.1,h.2 _ _⟩
 |some n=>
  obtain ⟨h1,n',h2,h3⟩:=h
  refine ⟨h1,fun _=> ?_⟩
  exact hand_cell h3 h2 (fun _=>hc n rfl) hj (fun _=>hl)
theorem getD_cons_succ {α:Type} {a:α} {l:List α} {r:Nat} {d:α}:(a::l).getD (r+1) d=l.getD r d:=by simp[List.getD]
theorem in_ents {P:Program} {σ:St} {c:Nat→Value}:∀{ps:List PSig} {tys:List TypeId} {p i j:Nat} {args:List Value} {ins:List (List D)} {cls:List Rts},InOk P k m p i ps tys args ins cls→
  (∀q,H.c (PAR+100000+q*1000)=none∧H.b (PAR+100000+q*1000)=some q)→
  (∀p' o n u,(p',o,some n,u)∈cps p i ps→H.c u=some (p',o,n))→(∀t c,(cps p i ps)[t]? =some c→lu (j+t)=c.2.2.2)→(∀t rs,cls[t]? =some rs→cl (j+t)=rs)→
  (∀r,σ (p+r)=ins.getD r [])→(∀r,c (p+r)=args.getD r undef)→∀r,EntOk (calleeK k m H cl lu) [] ⟨σ,c,m.h,handCol H m.col⟩ (p+r) ((pEnts P j tys ps).getD r .none)
 | [],tys,p,i,j,args,ins,cls,h,_,_,_,_,_,_,r=>by
  have:(pEnts P j tys []).getD r .none= .none:=by cases tys<;>simp[pEnts]
  rw[this];trivial
 | .v _::_,[],_,_,_,_,_,_,h,_,_,_,_,_,_,_=>by simp[InOk] at h
 | .bx _ _ _::_,[],_,_,_,_,_,_,h,_,_,_,_,_,_,_=>by simp[InOk] at h
 | .v _::_,_::_,_,_,_,[],_,_,h,_,_,_,_,_,_,_=>by simp[InOk] at h
 | .bx _ _ _::_,_::_,_,_,_,[],_,_,h,_,_,_,_,_,_,_=>by simp[InOk] at h
 | .v _::_,_::_,_,_,_,_::_,[],_,h,_,_,_,_,_,_,_=>by simp[InOk] at h
 | .bx _ _ _::_,_::_,_,_,_,_::_,[],_,h,_,_,_,_,_,_,_=>by simp[InOk] at h
 | .v pcs::ps,ty::tys,p,i,j,x::args,ds::ins,cls,h,hb,hc,hl,hcl,hσ,hv,r=>by
  obtain ⟨⟨vs,h1,h2,h3,h4,h5⟩,h6,h7⟩:=h
  cases r with
  |zero=>
   have e1:σ (p+0)=ds:=by rw[hσ 0];rfl
   have e2:c (p+0)=x:=by rw[hv 0];rfl
   refine .inr ⟨vs,by show cellsV _ (c (p+0))=_;rw[e2];exact h1,by simpa using h2,by show (σ (p+0)).length=_;rw[e1];simpa using h3,h4,fun o t d y b1 b2 b3=> ?_⟩
   rw[zK,zC] at b1
   obtain ⟨⟨pc,o'⟩,b1,rfl⟩:=b1
   rw[List.getElem?_zipIdx,zC] at b1
   obtain ⟨pc',b1,b4⟩:=b1
   cases b4
   change (σ (p+0))[o]? =some d at b2
   rw[e1] at b2
   have ho:o<pcs.length:=(zE.1 b1).1
   have hoc:o<cls.length:=by omega
   have hin:=h5 o pc d y cls[o] b1 b2 b3 (zB hoc)
   have hcp:(cps p i (.v pcs::ps))[o]? =some (p,o,pc.n,PAR+(i+o)):=by
    rw[cps,zI (by simpa using ho)]
    simp[List.getElem?_zipIdx,b1]
   have hlu:=hl o _ hcp
   rw[Nat.add_zero,Nat.zero_add]
   exact hand_in hin (fun n' hn=>hc p o n' _ (by rw[hn] at hcp;exact zF hcp)) (hcl o _ (zB hoc)) hlu
  |succ r=>
   have e:p+(r+1)=p+1+r:=by omega
   rw[e]
   show EntOk _ _ _ _ ((pEnts P j (ty::tys) (.v pcs::ps)).getD (r+1) .none)
   rw[pEnts,getD_cons_succ]
   have hlen:(pcs.zipIdx.map fun x=>(p,x.2,x.1.n,PAR+(i+x.2))).length=pcs.length:=by simp
   refine in_ents h7 hb (fun p' o n u hm=>hc p' o n u (by rw[cps];exact zQ _ hm)) (fun t c' ht=> ?_) (fun t rs ht=> ?_) (fun r=> ?_) (fun r=> ?_) r
   ·have:=hl (pcs.length+t) c' (by rw[cps,zH (by rw[hlen];omega),hlen];simpa using ht)
    rw[← Nat.add_assoc] at this
    exact this
   ·have:=hcl (pcs.length+t) rs (by simpa[List.getElem?_drop] using ht)
    rw[← Nat.add_assoc] at this
    exact this
   ·have:=hσ (r+1)
    rw[getD_cons_succ,show p+(r+1)=p+1+r by omega] at this
    exact this
   ·have:=hv (r+1)
    rw[getD_cons_succ,show p+(r+1)=p+1+r by omega] at this
    exact this
 | .bx ty tin tout::ps,ty'::tys,p,i,j,x::args,ds::ins,cls,h,hb,hc,hl,hcl,hσ,hv,r=>by
  obtain ⟨⟨blk,cs,h1,hcol,hblk,h2,h3,h4,h5⟩,h6,h7⟩:=h
  cases r with
  |zero=>
   have e1:σ (p+0)=ds:=by rw[hσ 0];rfl
   have e2:c (p+0)=x:=by rw[hv 0];rfl
   refine .inr ⟨blk,cs,by show c (p+0)=_;rw[e2];exact h1,by
    show handCol H m.col blk=_
    unfold handCol
    rw[hcol]
    simp[hb p],hblk,by simpa using h2,by show (σ (p+0)).length=_;rw[e1];simpa using h3,h4,fun o t d y b1 b2 b3=> ?_⟩
   rw[zK,zC] at b1
   obtain ⟨⟨pc,o'⟩,b1,rfl⟩:=b1
   rw[List.getElem?_zipIdx,zC] at b1
   obtain ⟨pc',b1,b4⟩:=b1
   cases b4
   change (σ (p+0))[o]? =some d at b2
   rw[e1] at b2
   have ho:o<tin.length:=(zE.1 b1).1
   have hoc:o<cls.length:=by omega
   have hin:=h5 o pc d y cls[o] b1 b2 b3 (zB hoc)
   have hcp:(cps p i (.bx ty tin tout::ps))[o]? =some (p,o,pc,PAR+100000+p*1000+1+o):=by
    rw[cps,zI (by simpa using ho)]
    simp[List.getElem?_zipIdx,b1]
   have hlu:=hl o _ hcp
   rw[Nat.add_zero,Nat.zero_add]
   exact hand_in hin (fun n' hn=>hc p o n' _ (by rw[hn] at hcp;exact zF hcp)) (hcl o _ (zB hoc)) hlu
  |succ r=>
   have e:p+(r+1)=p+1+r:=by omega
   rw[e]
   show EntOk _ _ _ _ ((pEnts P j (ty'::tys) (.bx ty tin tout::ps)).getD (r+1) .none)
   rw[pEnts,getD_cons_succ]
   have hlen:(tin.zipIdx.map fun x=>(p,x.2,x.1,PAR+100000+p*1000+1+x.2)).length=tin.length:=by simp
   refine in_ents h7 hb (fun p' o n u hm=>hc p' o n u (by rw[cps];exact zQ _ hm)) (fun t c' ht=> ?_) (fun t rs ht=> ?_) (fun r=> ?_) (fun r=> ?_) r
   ·have:=hl (tin.length+t) c' (by rw[cps,zH (by rw[hlen];omega),hlen];simpa using ht)
    rw[← Nat.add_assoc] at this
    exact this
   ·have:=hcl (tin.length+t) rs (by simpa[List.getElem?_drop] using ht)
    rw[← Nat.add_assoc] at this
    exact this
   ·have:=hσ (r+1)
    rw[getD_cons_succ,show p+(r+1)=p+1+r by omega] at this
    exact this
   ·have:=hv (r+1)
    rw[getD_cons_succ,show p+(r+1)=p+1+r by omega] at this
    exact this
end
theorem mem_clsOf {cls:List Rts} {r:Nat×Nat×Nat}:∀{js:List Nat},r∈clsOf cls js↔∃j∈js,r∈cls.getD j []
 | []=>by simp[clsOf]
 |j::js=>by simp[clsOf,mem_unionR,mem_clsOf (js:=js)]
theorem outTag_own {cls:List Rts} {t:RC} {n:Nat} {rs:Rts} (h:outTag cls t= .own n rs):∃js,t=some (n,js)∧rs=if isDeep n then [] else clsOf cls js:=by
 unfold outTag at h
 split at h
 ·cases h
 ·cases h;exact ⟨_,rfl,rfl⟩
section
variable {k:K} {g g4:G} {m m3:M} {H:Hand} {lu:Nat→Nat} {cls:List Rts} {h':Array Obj} {colF:Nat→Color} {σ:St}
theorem MusOk.mono {m:M} {p:Nat}:∀{mus:List Mu} {ds:List D} {q q':Nat},MusOk k g m p q mus ds→q'≤q→MusOk k g m p q' mus ds
 | [],[],_,_,_,_=>trivial
 | [],_::_,_,_,h,_=>h.elim
 |_::_,[],_,_,h,_=>h.elim
 |_::_,_::_,_,_,⟨q2,h1,h2⟩,h=>⟨q2,zS h h1,h2⟩
theorem back_cell (hr:Rel k g m3) (hF:Mem (calleeK k m3 H (fun j=>cls.getD j []) lu) ⟨fun _=>[],fun _=>undef,h',colF⟩) {p q:Nat} (hp:p<400) {d:D} {x:Value} {t:RC}
  (h:OutOk h' (gd (calleeK k m3 H (fun j=>cls.getD j []) lu) colF p q) d x t):GivenCell k ⟨σ,m3.c,h',backCol H m3.col colF⟩ (limP p q) d x (outTag cls t):=by
 cases t with
 |none=>exact ⟨h.1,flat_any h.1 h.2⟩
 |some z=>
  obtain ⟨n,js⟩:=z
  refine ⟨h.1,?_⟩
  have:=back_par hr hF (R:=if isDeep n then [] else clsOf cls js) (fun hd j hj r hr'=>by rw[hd];simp;exact mem_clsOf.2 ⟨j,hj,hr'⟩) h.2 σ
  rw[if_neg (by unfold RES;omega)] at this
  exact this
theorem muts_ok (hr:Rel k g4 m3) (hF:Mem (calleeK k m3 H (fun j=>cls.getD j []) lu) ⟨fun _=>[],fun _=>undef,h',colF⟩) {g5:G} {p:Nat} (hp:p<400):∀{pcs:List PC} {l:List (Mv×Option Mu)} {vs:List Value} {o:List D} {q:Nat},
  MutsOut (calleeK k m3 H (fun j=>cls.getD j []) lu) h' colF p q pcs vs o→l.length=pcs.length→vs.length=pcs.length→q+pcs.length<900→
  (∀(o:Nat) (pc:PC) (e:Mv×Option Mu) (y:Value),pcs[o]? =some pc→l[o]? =some e→vs[o]? =some y→CellArg k g m pc e y)→(∀e∈l,∃d,e.1.src.ev m.σ=some d)→
  (∀mu∈l.filterMap (·.2),∀ix v0 x,wayOf m.σ (wayW mu.w)=some ix→LocAt g m mu.s mu.o ix v0 x→wayOf σ (wayW mu.w)=some ix∧LocAt g5 ⟨σ,m3.c,h',backCol H m3.col colF⟩ mu.s mu.o ix v0 x)→
  MusOk k g5 ⟨σ,m3.c,h',backCol H m3.col colF⟩ p q (l.filterMap (·.2)) o
 | [],[],[],o,q,h,_,_,_,_,_,_=>by
  have:o=[]:=h
  subst this
  trivial
 | [],_::_,_,_,_,_,h,_,_,_,_,_=>by simp at h
 | [],[],_::_,_,_,_,_,h,_,_,_,_=>by simp at h
 |_::_,[],_,_,_,_,h,_,_,_,_,_=>by simp at h
 |_::_,_::_,[],_,_,_,_,h,_,_,_,_=>by simp at h
 |c::cs,e::l,v::vs,o,q,h,h1,h2,h3,hc,hs,hl=>by
  rw[MutsOut] at h
  have hca:=hc 0 c e v (by simp) (by simp) (by simp)
  simp at h1 h2 h3
  split at h
  ·rename_i e1
   have:=muts_ok hr hF hp h h1 h2 (by omega) (fun o pc e' y a1 a2 a3=>hc (o+1) pc e' y (by simpa using a1) (by simpa using a2) (by simpa using a3)) (fun e' he=>hs e' (by simp[he])) fun mu hm=>hl mu (by
    rw[List.filterMap_cons,hca.mu0 e1];exact hm)
   rw[List.filterMap_cons,hca.mu0 e1]
   exact this.mono (by omega)
  ·rename_i rc e1
   obtain ⟨d,o',rfl,hout,h⟩:=h
   obtain ⟨s,oo,w,e2,_,_,_,hdeep,_,e3⟩:=hca.mu1 rc e1
   obtain ⟨dsrc,hsrc⟩:=hs e (by simp)
   obtain ⟨ix,v0,f1,f2⟩:=e3 dsrc hsrc
   have:=muts_ok hr hF hp h h1 h2 (by omega) (fun o pc e' y a1 a2 a3=>hc (o+1) pc e' y (by simpa using a1) (by simpa using a2) (by simpa using a3)) (fun e' he=>hs e' (by simp[he])) fun mu hm=>hl mu (by
    rw[List.filterMap_cons,e2];simp only[List.mem_cons];exact .inr hm)
   rw[List.filterMap_cons,e2]
   obtain ⟨b1,b2⟩:=hl ⟨s,oo,w⟩ (by rw[List.filterMap_cons,e2];simp) ix v0 v f1 f2
   obtain ⟨n,js⟩:=rc
   have hH:=(back_cell (σ:=σ) hr hF hp hout).2
   refine ⟨q,Nat.le_refl _,by omega,⟨v,v0,ix,?_,b1,b2⟩,this⟩
   refine O.frame hH fun π b hb=>⟨rfl,?_⟩
   unfold gl at hb ⊢
   simp only[isDeepRC] at hdeep
   rw[if_pos (deep_owns hdeep)] at hb
   rw[if_pos (deep_owns isDeep_DEEP)]
   exact hb
theorem pend_ok {cx:Cx} {ps:List PSig} {xs:List Operand} {tys:List TypeId} {a:CallAcc} {xv:List Value} (h:ArgsOk cx k g m ps xs tys a xv) (hr0:Rel k g m) (hr:Rel k g4 m3) (hF:Mem (calleeK k m3 H (fun j=>cls.getD j []) lu) ⟨fun _=>[],fun _=>undef,h',colF⟩) (hcc:m3.c=m.c) {g5:G}:
  ∀{p:Nat} {os:List (List D)},ParsOut (calleeK k m3 H (fun j=>cls.getD j []) lu) h' colF p ps (tys.map (isAggB cx.P)) (xs.map (vl m)) os→p+ps.length<400→(∀s∈ps,parOk s=true)→(∀mv∈a.ms,∃d,mv.src.ev m.σ=some d)→
  (∀mu∈paMus a.pas,∀ix v0 x,wayOf m.σ (wayW mu.w)=some ix→LocAt g m mu.s mu.o ix v0 x→wayOf σ (wayW mu.w)=some ix∧LocAt g5 ⟨σ,m3.c,h',backCol H m3.col colF⟩ mu.s mu.o ix v0 x)→
  (∀s∈paBoxes a.pas,m.σ s≠[])→Pend k g5 ⟨σ,m3.c,h',backCol H m3.col colF⟩ cls p a.pas os:=by
 induction h with
 |nil=>
  intro p os h _ _ _ _ _
  have:os=[]:=h
  subst this
  trivial
 | @v pcs ps x xs ty tys a xv vs l hv h1 h2 hone hcell rest ih=>
  intro p os h hp hok hsrc hloc hpres
  simp only[List.map_cons] at h
  rw[ParsOut] at h
  simp at hp
  have hpok:=hok (.v pcs) (by simp)
  simp[parOk] at hpok
  have ih':=fun os h=>ih (p:=p+1) (os:=os) h (by omega) (fun s hs=>hok s (by simp[hs])) (fun mv hm=>hsrc mv (by simp[hm])) (fun mu hm=>hloc mu (by rw[paMus];exact zQ _ hm)) (fun s hs=>hpres s (by simpa[paBoxes] using hs))
  split at h
  ·rename_i hall
   have hnil:l.filterMap (·.2)=[]:=by
    rw[List.filterMap_eq_nil_iff]
    intro e he
    obtain ⟨j,hj⟩:=zP he
    have hjl:j<l.length:=(zE.1 hj).1
    have hpc:pcs[j]? =some pcs[j]:=zB (by omega)
    refine (hcell j pcs[j] e vs[j] hpc hj (zB (by omega))).mu0 ?_
    have:=zL.1 hall pcs[j] (List.getElem_mem _)
    simpa using this
   simp only[hnil]
   have:=ih' os h
   cases os<;>exact this
  ·rename_i hall
   obtain ⟨o,os',rfl,⟨vs',hv',hm⟩,h⟩:=h
   have hvs:vs'=vs:=by
    have hsh:(if isAggB cx.P ty then Shape.agg else Shape.one)=shapeOf cx.P ty:=rfl
    rw[hsh,hv] at hv'
    exact (zU hv').symm
   subst hvs
   have hM:=muts_ok (σ:=σ) (g5:=g5) hr hF (by omega) hm h2 h1 (by omega) hcell (fun e he=>hsrc e.1 (by simp;exact .inl ⟨_,he⟩)) (fun mu hmu=>hloc mu (by rw[paMus];exact List.mem_append_left _ hmu))
   cases hmu:l.filterMap (·.2) with
   |nil=>
    exfalso
    apply hall
    rw[zL]
    intro pc hpc
    obtain ⟨j,hj⟩:=zP hpc
    have hjl:j<pcs.length:=(zE.1 hj).1
    cases ho:pc.out with
    |none=>rfl
    |some rc=>
     obtain ⟨s,oo,w,e2,_⟩:=(hcell j pc l[j] vs'[j] hj (zB (by omega)) (zB (by omega))).mu1 rc ho
     have:=(List.filterMap_eq_nil_iff.1 hmu) l[j] (List.getElem_mem _)
     rw[e2] at this;cases this
   |cons mu mus=>
    rw[hmu] at hM
    exact ⟨hM,ih' os' h⟩
 | @bx ty tin tout ps t s xs ty' tys a xv ts rs hb hpt he hf hl rest ih=>
  intro p os h hp hok hsrc hloc hpres
  simp only[List.map_cons] at h
  rw[ParsOut] at h
  obtain ⟨o,os',rfl,⟨blk,cs,e1,e2,e3,e4⟩,h⟩:=h
  simp at hp
  have hpok:=hok (.bx ty tin tout) (by simp)
  simp[parOk] at hpok
  have ih':=ih (p:=p+1) (os:=os') h (by omega) (fun s hs=>hok s (by simp[hs])) hsrc (fun mu hm=>hloc mu (by rw[paMus];exact hm)) (fun s hs=>hpres s (by simp[paBoxes,hs]))
  obtain ⟨_,_,_,hbx⟩:=boxAt_ok hr0 hb hpt
  obtain ⟨blk2,_,c1,c2,_⟩:=hbx (hpres s (by simp[paBoxes]))
  refine ⟨by omega,⟨blk,cs,?_,?_,e3,by simpa using e4.len1,e4.len2,e4.one,fun q t d x b1 b2 b3=> ?_⟩,ih'⟩
  ·show m3.c s=_
   rw[hcc,c1,← e1]
   exact c2.symm
  ·show backCol H m3.col colF blk=_
   rw[back_box hF e2,if_neg (by unfold RES;omega)]
  ·have:=back_cell (σ:=σ) hr hF (by omega) (e4.cell q t d x b1 b2 b3)
   have e:limP p q=PAR+100000+p*1000+1+q:=by unfold limP;omega
   rwa [e] at this
end
section
variable {k:K} {g g4 g5:G} {m m3:M} {H:Hand} {lu:Nat→Nat} {cls:List Rts} {h':Array Obj} {colF:Nat→Color} {σ:St} {dst:Nat}
theorem resVals_ok:∀{rs:List RSig} {l:List (Bool×List RC)},resVals rs=some l→l.map (fun x=>(x.1,x.2.length))=rs.map rsTup∧l.flatMap (·.2)=rs.flatMap rsRC
 | [],l,h=>by simp[resVals] at h;subst h;simp
 | .v a ts::rs,l,h=>by
  simp only[resVals,zC] at h
  obtain ⟨l',h,rfl⟩:=h
  obtain ⟨h1,h2⟩:=resVals_ok h
  simp[h1,h2,rsTup,rsRC]
 | .bx _ _::_,l,h=>by simp[resVals] at h
theorem resEnt_val {rs:List RSig} {e:Ent} (h:resEnt cls rs=some e) (hn:∀ty ts,rs≠[.bx ty ts]):e= .val (resShape rs) ((resRC rs).map (outTag cls)):=by
 unfold resEnt at h
 split at h
 ·cases h
  simp[resShape,resRC,rsRC]
 ·rename_i ty ts
  exact absurd rfl (hn ty ts)
 ·rename_i h1 h2
  rw[zC] at h
  obtain ⟨l,hl,rfl⟩:=h
  obtain ⟨e1,e2⟩:=resVals_ok hl
  rw[e1,e2]
  have:resShape rs= .tup (rs.map rsTup):=by
   unfold resShape
   split
   ·rename_i agg ts;exact absurd rfl (h1 agg ts)
   ·rfl
  rw[this]
  rfl
theorem laid_of_given {v o:Nat} {d:D} {x:Value} {t:Tag} (h:GivenCell k m (v+o) d x t) (hc:∀n rs,t= .own n rs→curR g rs=true):LayOk k g m v o d x t:=by
 cases t with
 |sc=>exact ⟨h.1,h.2 _ _⟩
 |own n rs=>exact ⟨h.1,hc n rs rfl,h.2⟩
 |_=>exact h.elim
theorem frz_out {t:RC} (h:∀n rs,outTag cls t= .own n rs→∀r∈rs,r.1≠dst):frzTag dst (outTag cls t)=outTag cls t:=by
 cases ht:outTag cls t with
 |own n rs=>exact frz_id (h n rs ht)
 |_=>rfl
theorem res_step (hr:Rel k g4 m3) (hF:Mem (calleeK k m3 H (fun j=>cls.getD j []) lu) ⟨fun _=>[],fun _=>undef,h',colF⟩) {rs:List RSig} {e:Ent} (he:resEnt cls rs=some e) {v:Value} {ds:List D} (hres:ResOut (calleeK k m3 H (fun j=>cls.getD j []) lu) h' colF rs v ds)
  (hlen:resLen rs<1000) (hr4:Rel k g4 ⟨σ,m3.c,h',backCol H m3.col colF⟩) {m5:M} (hh:m5.h=h') (hd:dst<g5.length) {T:Nat→Prop} (S:Step k g4 ⟨σ,m3.c,h',backCol H m3.col colF⟩ g5 m5 T) (hlim:∀b u π,backCol H m3.col colF b= .lim u π→(u<PAR+1000∨PAR+600000≤u)→m5.col b= .lim u π)
  (hcls:∀t n rs,outTag cls t= .own n rs→curR g5 rs=true∧∀r∈rs,g5.ver r.1=g4.ver r.1∧r.1≠dst):
  ∃col',Step k g5 m5 (g5.tch dst e) ⟨m5.σ.upd dst ds,updC m5.c dst v,m5.h,col'⟩ (fun x=>x=dst∨PAR≤x):=by
 have hr5:=S.rel hr4
 have hfr:∀ts:List RC,(ts.map (outTag cls)).map (frzTag dst)=ts.map (outTag cls):=fun ts=>by
  rw[List.map_map]
  exact List.map_congr_left fun t _=>frz_out fun n rs ht r hr'=>((hcls t n rs ht).2 r hr').2
 have cell:∀(u n:Nat) (js:List Nat) (d:D) (x:Value),(u<PAR+1000∨PAR+600000≤u)→Held k ⟨σ,m3.c,h',backCol H m3.col colF⟩ u n (if isDeep n then [] else clsOf cls js) d x→Held k m5 u n (if isDeep n then [] else clsOf cls js) d x:=fun u n js d x hu hh'=>
  hh'.turn hr4 S hh (fun b π hb=>hlim b u π hb hu) fun r hr'=>((hcls (some (n,js)) n _ rfl).2 r hr').1
 by_cases hb:∃ty ts,rs=[.bx ty ts]
 ·obtain ⟨ty,ts,rfl⟩:=hb
  obtain ⟨blk,cs,rfl,h2,h3,h4⟩:=hres
  simp only[resEnt] at he
  cases he
  have hblk:m5.col blk= .lim (PAR+600000) []:=hlim blk _ _ (by rw[back_box hF h2,if_pos rfl]) (.inr (Nat.le_refl _))
  refine ⟨_,Step.layBox hr5 hd (u:= .tch) (c':=updC m5.c dst _) (fun x hx=>by simp[updC,hx]) (.inl rfl) (v:=PAR+600000) (by omega) (by simp[updC]) hblk (by rw[hh];exact h3) (ts:=ts.map (outTag cls)) (ds:=ds) (by simpa using h4.len1) (by simpa using h4.len2) h4.one fun o t d x b1 b2 b3=> ?_⟩
  rw[zK,zC] at b1
  obtain ⟨rc,b1,rfl⟩:=b1
  have hc:=h4.cell o rc d x b1 b2 b3
  cases rc with
  |none=>exact .inl ⟨rfl,hc.1,flat_any hc.1 hc.2⟩
  |some z=>
   obtain ⟨n,js⟩:=z
   have:=back_par hr hF (R:=if isDeep n then [] else clsOf cls js) (fun hd j hj r hr'=>by rw[hd];simp;exact mem_clsOf.2 ⟨j,hj,hr'⟩) hc.2 σ
   rw[if_pos rfl] at this
   have hq:=hcls (some (n,js)) n _ rfl
   exact .inr ⟨n,_,rfl,hc.1,hq.1,fun r hr'=>(hq.2 r hr').2,cell _ n js d x (.inr (by omega)) this⟩
 ·have hnb:∀ty ts,rs≠[.bx ty ts]:=fun ty ts e=>hb ⟨ty,ts,e⟩
  have hE:=resEnt_val he hnb
  subst hE
  have hres':∃vs,cellsV (resShape rs) v=some vs∧CellsOut h' (fun o=>gl (calleeK k m3 H (fun j=>cls.getD j []) lu) colF (PAR+o)) (resRC rs) ds vs:=by
   unfold ResOut at hres
   split at hres
   ·rename_i ty ts;exact absurd rfl (hnb ty ts)
   ·exact hres
  obtain ⟨vs,hv,hC⟩:=hres'
  have hlen':(resRC rs).length<1000:=by
   have:resRC rs=rs.flatMap fun r=>match r with| .v _ ts=>ts| .bx _ ts=>ts:=by
    unfold resRC
    congr 1
   rw[this];exact hlen
  refine ⟨_,lay_step hr5 (Nat.le_refl _) hd (ts:=(resRC rs).map (outTag cls)) (ds:=ds) (vs:=vs) (cv:=v) (by simpa using hC.len2) (by simpa using hC.len1) hC.one (fun o t d x b1 b2 b3=> ?_) (fun t ht=> ?_) .none _ (by rw[hfr];rfl) fun hcs=> ?_⟩
  ·rw[zK,zC] at b1
   obtain ⟨rc,b1,rfl⟩:=b1
   have hc:=hC.cell o rc d x b1 b2 b3
   have ho:o<(resRC rs).length:=(zE.1 b1).1
   refine laid_of_given ?_ fun n rs ht=>(hcls rc n rs ht).1
   cases rc with
   |none=>exact ⟨hc.1,flat_any hc.1 hc.2⟩
   |some z=>
    obtain ⟨n,js⟩:=z
    exact ⟨hc.1,cell _ n js d x (.inl (by omega)) (back_res hr hF (by omega) (fun hd j hj r hr'=>by rw[hd];simp;exact mem_clsOf.2 ⟨j,hj,hr'⟩) hc.2 σ)⟩
  ·obtain ⟨rc,_,rfl⟩:=List.mem_map.1 ht
   cases ht:outTag cls rc with
   |own n rs=>
    intro r hr'
    exact Nat.le_of_eq (curR_iff.1 (hcls rc n rs ht).1 r hr').symm
   |sc=>trivial
   |dead=>trivial
   |_=>unfold outTag at ht;split at ht<;>cases ht
  ·rw[hfr] at hcs
   exact .inr ⟨vs,by simp[updC,hv],hcs⟩
end
theorem pairs_wise {α:Type} {f:α→α→Bool}:∀{l:List α},pairs f l=true→l.Pairwise fun a b=>f a b=true
 | [],_=> .nil
 |a::l,h=>by
  simp only[pairs,zD,zL] at h
  exact .cons h.1 (pairs_wise h.2)
theorem pEnts_congr {P:Program}:∀{ps:List PSig} {tys tys':List TypeId} {j:Nat},tys.map (isAggB P)=tys'.map (isAggB P)→pEnts P j tys ps=pEnts P j tys' ps
 | [],tys,tys',j,_=>by cases tys<;>cases tys'<;>rfl
 |_::_,[],[],_,_=>rfl
 |_::_,[],_::_,_,h=>by simp at h
 |_::_,_::_,[],_,h=>by simp at h
 |p::ps,ty::tys,ty'::tys',j,h=>by
  simp only[List.map_cons,List.cons.injEq] at h
  rw[pEnts,pEnts,pEnts_congr h.2]
  congr 1
  cases p with
  |v cs=>simp only[pEnt,h.1]
  |bx=>rfl
theorem Ins_box {σ:St}:∀{pas:List PA} {ds:List D} {ins:List (List D)},Ins σ pas ds ins→∀s∈paBoxes pas,σ s≠[]
 | [],_,_,_,s,hs=>by simp[paBoxes] at hs
 | .v _ _::l,ds,[],h,s,hs=>h.elim
 | .v _ _::l,ds,o::ins,h,s,hs=>Ins_box h.2.2.2 s (by simpa[paBoxes] using hs)
 | .bx _ _ _::l,ds,[],h,s,hs=>h.elim
 | .bx s' _ _::l,ds,o::ins,h,s,hs=>by
  simp only[paBoxes,List.mem_cons] at hs
  rcases hs with rfl|hs
  ·exact h.2.1
  ·exact Ins_box h.2.2 s hs
section
variable {cx:Cx} {k:K} {g:G} {m:M} {ps:List PSig} {xs:List Operand} {tys:List TypeId} {a:CallAcc} {xv:List Value}
theorem ArgsOk.lens (h:ArgsOk cx k g m ps xs tys a xv):a.pas.length=ps.length∧xs.length=ps.length∧tys.length=ps.length∧vc ps=a.ms.length∧xv.length=a.ms.length:=by
 induction h with
 |nil=>simp[vc]
 |v hv h1 h2 hone hc rest ih=>simp[vc];omega
 |bx hb hp he hf hl rest ih=>simp[vc];omega
theorem ArgsOk.mvs (h:ArgsOk cx k g m ps xs tys a xv):∀(i:Nat) (mv:Mv),a.ms[i]? =some mv→∃x,xv[i]? =some x∧∀d,mv.src.ev m.σ=some d→MvOk k g m mv d x:=by
 induction h with
 |nil=>intro i mv h;simp at h
 | @v pcs ps x xs ty tys a xv vs l hv h1 h2 hone hc rest ih=>
  intro i mv h
  by_cases hi:i<l.length
  ·rw[zI (by simpa using hi)] at h
   simp[hi] at h
   subst h
   refine ⟨vs[i],by rw[zI (by omega)];exact zB (by omega),?_⟩
   exact (hc i pcs[i] l[i] vs[i] (zB (by omega)) (zB hi) (zB (by omega))).mv
  ·rw[zH (by simp;omega)] at h
   obtain ⟨y,h3,h4⟩:=ih _ mv h
   refine ⟨y,?_,h4⟩
   rw[zH (by omega)]
   simpa[h1,h2] using h3
 |bx hb hp he hf hl rest ih=>exact ih
theorem ArgsOk.boxes (h:ArgsOk cx k g m ps xs tys a xv):∀(s ty:Nat) (tout:List RC), .bx s ty tout∈a.pas→∃ts,g.ent s= .box ty ts∧∀t∈ts,t= .sc∨∃n rs,t= .own n rs∧curR g rs=true∧rs∈a.cls:=by
 induction h with
 |nil=>intro s ty tout h;simp at h
 |v hv h1 h2 hone hc rest ih=>
  intro s ty tout h
  rcases List.mem_cons.1 h with h|h
  ·cases h
  ·obtain ⟨ts,h3,h4⟩:=ih s ty tout h
   exact ⟨ts,h3,fun t ht=>(h4 t ht).imp id fun ⟨n,rs,e1,e2,e3⟩=>⟨n,rs,e1,e2,zQ _ e3⟩⟩
 | @bx ty tin tout ps t s xs ty' tys a xv ts rs hb hp he hf hl rest ih=>
  intro s' ty2 tout' h
  rcases List.mem_cons.1 h with h|h
  ·cases h
   obtain ⟨f1,f2,f3⟩:=boxFits_get hf
   refine ⟨ts,he,fun t ht=> ?_⟩
   obtain ⟨o,ho⟩:=zP ht
   have hol:o<ts.length:=(zE.1 ho).1
   rcases f3 o t tin[o] rs[o] ho (zB (by omega)) (zB (by omega)) with ⟨e,_⟩|⟨n,mm,e,_,_,e2⟩
   ·exact .inl e
   ·exact .inr ⟨mm,rs[o],e,e2,List.mem_append_left _ (List.getElem_mem _)⟩
  ·obtain ⟨ts,h3,h4⟩:=ih s' ty2 tout' h
   exact ⟨ts,h3,fun t ht=>(h4 t ht).imp id fun ⟨n,rs,e1,e2,e3⟩=>⟨n,rs,e1,e2,zQ _ e3⟩⟩
theorem ArgsOk.cur (h:ArgsOk cx k g m ps xs tys a xv):(∀mv∈a.ms,∃d,mv.src.ev m.σ=some d)→∀rs∈a.cls,curR g rs=true:=by
 induction h with
 |nil=>intro _ rs h;simp at h
 | @v pcs ps x xs ty tys a xv vs l hv h1 h2 hone hc rest ih=>
  intro hs rs h
  rcases zT.1 h with h|h
  ·obtain ⟨e,he,rfl⟩:=List.mem_map.1 h
   obtain ⟨i,hi⟩:=zP he
   have hil:i<l.length:=(zE.1 hi).1
   obtain ⟨d,hd⟩:=hs e.1 (List.mem_append_left _ (List.mem_map.2 ⟨e,he,rfl⟩))
   exact ((hc i pcs[i] e vs[i] (zB (by omega)) hi (zB (by omega))).mv d hd).cur
  ·exact ih (fun mv hm=>hs mv (zQ _ hm)) rs h
 | @bx ty tin tout ps t s xs ty' tys a xv ts rs hb hp he hf hl rest ih=>
  intro hs r h
  rcases zT.1 h with h|h
  ·obtain ⟨f1,f2,f3⟩:=boxFits_get hf
   obtain ⟨o,ho⟩:=zP h
   have hol:o<rs.length:=(zE.1 ho).1
   have hts:ts[o]? =some ts[o]:=zB (by omega)
   rcases f3 o ts[o] tin[o] r hts (zB (by omega)) ho with ⟨e1,e2⟩|⟨n,mm,e,_,_,e2⟩
   ·
    have:=boxFits_sc hf (o:=o) (by rw[hts,e1]) (r:=r) ho
    rw[this];rfl
   ·exact e2
  ·exact ih hs r h
theorem ArgsOk.mus (h:ArgsOk cx k g m ps xs tys a xv):((paMus a.pas).map Mu.frm).Sublist (a.ms.filterMap (·.frm)):=by
 induction h with
 |nil=>simp[paMus]
 | @v pcs ps x xs ty tys a xv vs l hv h1 h2 hone hc rest ih=>
  simp only[paMus,List.map_append,List.filterMap_append]
  refine List.Sublist.append ?_ ih
  have hl:∀e∈l,∀mu,e.2=some mu→e.1.frm=some mu.frm:=fun e he mu hmu=>by
   obtain ⟨i,hi⟩:=zP he
   have hil:i<l.length:=(zE.1 hi).1
   have hC:=hc i pcs[i] e vs[i] (zB (by omega)) hi (zB (by omega))
   cases ho:pcs[i].out with
   |none=>rw[hC.mu0 ho] at hmu;cases hmu
   |some rc=>
    obtain ⟨s,o,w,e2,e3,_⟩:=hC.mu1 rc ho
    rw[e2] at hmu
    cases hmu
    exact e3
  clear hc h2
  induction l with
  |nil=>simp
  |cons e l ihl=>
   have ihl':=ihl fun e' he=>hl e' (by simp[he])
   rw[List.filterMap_cons,List.map_cons,List.filterMap_cons]
   cases h2:e.2 with
   |none=>
    simp only
    cases h3:e.1.frm with
    |none=>exact ihl'
    |some f=>exact ihl'.cons _
   |some mu=>
    rw[hl e (by simp) mu h2]
    simp only[List.map_cons]
    exact ihl'.cons_cons _
 |bx hb hp he hf hl rest ih=>exact ih
theorem ArgsOk.ms_cls (h:ArgsOk cx k g m ps xs tys a xv):∀mv∈a.ms,mv.rs∈a.cls:=by
 induction h with
 |nil=>intro mv h;simp at h
 |v hv h1 h2 hone hc rest ih=>
  intro mv h
  rcases zT.1 h with h|h
  ·obtain ⟨e,he,rfl⟩:=List.mem_map.1 h
   exact List.mem_append_left _ (List.mem_map.2 ⟨e,he,rfl⟩)
  ·exact zQ _ (ih mv h)
 |bx hb hp he hf hl rest ih=>exact fun mv h=>zQ _ (ih mv h)
theorem ArgsOk.mus_cell (h:ArgsOk cx k g m ps xs tys a xv):∀mu∈paMus a.pas,mu.o≠BOX:=by
 induction h with
 |nil=>intro mu h;simp[paMus] at h
 | @v pcs ps x xs ty tys a xv vs l hv h1 h2 hone hc rest ih=>
  intro mu h
  rw[paMus] at h
  rcases zT.1 h with h|h
  ·obtain ⟨e,he,hmu⟩:=List.mem_filterMap.1 h
   obtain ⟨i,hi⟩:=zP he
   have hil:i<l.length:=(zE.1 hi).1
   have hC:=hc i pcs[i] e vs[i] (zB (by omega)) hi (zB (by omega))
   cases ho:pcs[i].out with
   |none=>rw[hC.mu0 ho] at hmu;cases hmu
   |some rc=>
    obtain ⟨s,o,w,e2,_,e3,_⟩:=hC.mu1 rc ho
    rw[e2] at hmu
    cases hmu
    exact e3
  ·exact ih mu h
 |bx hb hp he hf hl rest ih=>exact ih
end
theorem wise_or {α:Type} {R:α→α→Prop}:∀{l:List α},l.Pairwise R→∀{a b:α},a∈l→b∈l→R a b∨R b a∨a=b
 | [],_,a,b,h,_=>by simp at h
 |x::l,hp,a,b,ha,hb=>by
  rw[List.pairwise_cons] at hp
  rcases List.mem_cons.1 ha with e1|h1<;>rcases List.mem_cons.1 hb with e2|h2
  ·exact .inr (.inr (e1.trans e2.symm))
  ·exact .inl (e1 ▸ hp.1 b h2)
  ·exact .inr (.inl (e2 ▸ hp.1 a h1))
  ·exact wise_or hp.2 h1 h2
theorem ar7 {P u:Nat} (h:u<P+1000∨P+600000≤u):u<P+100000+0*1000∨P+600000≤u:=
 h.imp (fun h=>by rw[Nat.zero_mul];exact Nat.lt_of_lt_of_le h (Nat.add_le_add_left (by decide) _)) id
theorem handCol_nolim {H:Hand} {col:Nat→Color} {b u:Nat} {π:List (Nat×Nat)}:handCol H col b≠ .lim u π:=by
 unfold handCol
 split
 ·split
  ·split<;>simp
  ·split
   ·split<;>simp
   ·simp
 ·simp
 ·simp
section
variable {cx:Cx} {k:K} {env:Env} {g0:G} {m:M} {dst:Nat} {σ':St} {r:Res}
theorem FxOk.call {k k':K} {m:M} (h:FxOk k) (hm:Mem k m) (hP:k'.P=k.P) (H:Hand) (hk:k'.h0=m.h∧k'.col0=handCol H m.col):FxOk k':=fun q hq b hb=>by
 rw[hP] at hb
 obtain ⟨h1,ty,fr,h2⟩:=h q hq b hb
 obtain ⟨h3,h4⟩:=hm.kept b h1
 refine ⟨?_,ty,fr,by rw[hk.1,h3,h2]⟩
 rw[hk.2]
 unfold handCol
 rw[h4]
theorem call_ok (hr0:Rel k g0 m) (hf:Fits cx g0 dst) {f:Nat} {xs:List Operand} {tys:List TypeId} (h:callOp cx g0 dst f xs tys=some r) (hp:∀x∈xs,Here m x) (hk:k.P=cx.P) (hfx:FxOk k)
  (hmeets:∀sig,cx.sigs f=some sig→Meets cx.P f sig (env f)) (he:evIs env r.is m.σ=some σ') (w:World) (hw:w.heap=m.h):
  Calls cx.P f (xs.map (vl m)).toArray w fun e w'=>∃(v:Value) (h':Array Obj) (dr:Nat) (col':Nat→Color),e= .returned v∧w'={w with heap:=h',drawn:=dr}∧
   Step k g0 m r.g ⟨σ',updC m.c dst v,h',col'⟩ (TT cx dst r.t):=by
 unfold callOp at h
 rw[zA] at h
 obtain ⟨sig,hsig,h⟩:=h
 simp only at h
 obtain ⟨col1,S1⟩:=stays_step (stayCels cx g0 sig.deps 0 sig.params xs tys) hr0
 generalize hst:stayCels cx g0 sig.deps 0 sig.params xs tys=st at h S1
 generalize hg:stays g0 st=g at h S1
 have hr:=S1.rel hr0
 simp only[zA,guardO_some,zD,decide_eq_true_eq,Bool.not_eq_true',List.contains_eq_mem,decide_eq_false_iff_not,zL,bne_iff_ne,ne_eq,Bool.or_eq_true] at h
 obtain ⟨a,ha,e,hres,g3,htk,⟨⟨⟨⟨⟨⟨⟨⟨⟨⟨hmv,hnd⟩,hbxs⟩,hmus⟩,hcl⟩,hdt⟩,hml⟩,hpl⟩,hpo⟩,hrl⟩,hfn⟩,h⟩:=h
 cases h
 generalize hm1:(⟨m.σ,m.c,m.h,col1⟩:M)=m1 at S1 hr
 have m1σ:m1.σ=m.σ:=by rw[← hm1]
 have m1c:m1.c=m.c:=by rw[← hm1]
 have m1h:m1.h=m.h:=by rw[← hm1]
 obtain ⟨xv,hA⟩:=callArgs_ok hr ha fun x hx t e=>by rw[m1σ];exact hp x hx t e
 obtain ⟨l1,l2,l3,l4,l5⟩:=hA.lens
 rw[evIs_append,zA] at he
 obtain ⟨σ1,he1,he2⟩:=he
 have he2:=evIs_one he2
 simp only[I.ev,zA] at he2
 obtain ⟨ins,hins,outs,henv,he2⟩:=he2
 cases outs with
 |nil=>simp at he2
 |cons res os=>
 simp only[zC] at he2
 obtain ⟨σ2,hback,rfl⟩:=he2
 obtain ⟨ds,hds,hIns⟩:=ins_ok hA (ss:=(lifts cx.base a.ms).2) lifts_len hins
 have hglen:g.length=cx.base+61:=by rw[S1.len,hf.len]
 obtain ⟨col2,S2,d1,hheld,hσ1,_,hleft,hvers,hlocs⟩:=lifts_ok2 (env:=env) hr (xs:=xv) (by omega) hA.mvs hmv (by rw[m1σ];exact he1) hds (v:=PAR) (Nat.le_refl _)
 rw[m1c,m1h] at S2 hheld hlocs
 generalize hg2:leaves cx.base g a.ms=g2 at S2 hlocs hvers htk
 generalize hm2:(⟨σ1,m.c,m.h,col2⟩:M)=m2 at S2 hheld hlocs
 have m2σ:m2.σ=σ1:=by rw[← hm2]
 have m2c:m2.c=m.c:=by rw[← hm2]
 have m2h:m2.h=m.h:=by rw[← hm2]
 have hr2:=S2.rel hr
 have hsrc:∀mv∈a.ms,∃d,mv.src.ev m1.σ=some d:=fun mv hm=>by
  obtain ⟨i,hi⟩:=zP hm
  have hil:i<a.ms.length:=(zE.1 hi).1
  exact ⟨_,(hheld i mv ds[i] xv[i] hi (zB (by omega)) (zB (by omega))).2⟩
 have hcur:=hA.cur hsrc
 generalize hB:leftSlots a.ms++paBoxes a.pas=touched at*
 have hBl:∀x∈leftSlots a.ms,x∈touched:=fun x hx=>by rw[← hB];exact List.mem_append_left _ hx
 have hBb:∀x∈paBoxes a.pas,x∈touched:=fun x hx=>by rw[← hB];exact zQ _ hx
 have hlow:∀x,x∈touched→x<PAR:=fun x hx=>by
  rw[← hB] at hx
  have hsm:=hr.small
  rcases zT.1 hx with hx|hx
  ·exact Nat.lt_of_lt_of_le (hleft x hx) hr.small
  ·have:=(hbxs x hx).2;omega
 have hroot:∀rs∈a.cls,∀r∈rs,r.1 ∉ touched∧(r.1<cx.base∨PAR≤r.1)∧r.1≠dst:=fun rs hrs r hr'=>by
  have:=hcl rs hrs r hr'
  exact ⟨this.1.1,this.1.2,this.2⟩
 have hver2:∀rs∈a.cls,∀r∈rs,g2.ver r.1=g.ver r.1:=fun rs hrs r hr'=>by
  obtain ⟨h1,h2,_⟩:=hroot rs hrs r hr'
  rcases h2 with h2|h2
  ·refine ver_out hr S2 (.inl ?_)
   rintro (e|e)
   ·exact h1 (hBl _ e)
   ·omega
  ·exact ver_out hr S2 (.inr h2)
 have hboxσ:∀s∈paBoxes a.pas,σ1 s=m.σ s:=fun s hs=>by
  have:=hbxs s hs
  rw[hσ1 s (by omega) this.1,m1σ]
 have hbne:∀s∈paBoxes a.pas,σ1 s≠[]:=Ins_box hIns
 have hbpres:∀s∈paBoxes a.pas,m1.σ s≠[]:=fun s hs=>by rw[m1σ,← hboxσ s hs];exact hbne s hs
 have hent2:∀s∈paBoxes a.pas,g2.ent s=g.ent s:=fun s hs=>by
  have h1:=hbxs s hs
  have:=(S2.rest s (by rintro (e|e);exact h1.1 e;omega)).1
  unfold G.ent;rw[this]
 obtain ⟨col3,S3,hlim3,hgiven⟩:=gives_ok (B:=paBoxes a.pas) a.pas 0 g2 m2 hr2 hnd (fun s hs=>hs) fun s ty tout hm=>by
  have hs:=mem_paBoxes hm
  obtain ⟨ts,e1,e2⟩:=hA.boxes s ty tout hm
  refine ⟨ts,by rw[hent2 s hs,e1],by rw[m2σ];exact hbne s hs,fun t ht=>(e2 t ht).imp id fun ⟨n,rs,f1,f2,f3⟩=>⟨n,rs,f1,?_,fun q hq e=>(hroot rs f3 q hq).1 (hBb _ e)⟩⟩
  rw[curR_iff] at f2 ⊢
  intro q hq
  rw[hver2 rs f3 q hq,f2 q hq]
 rw[m2σ,m2c,m2h] at S3 hgiven
 generalize hg3:giveBoxes (paBoxes a.pas) g2=g3' at S3 htk
 generalize hm3:(⟨σ1,m.c,m.h,col3⟩:M)=m3 at S3 hgiven
 have m3σ:m3.σ=σ1:=by rw[← hm3]
 have m3c:m3.c=m.c:=by rw[← hm3]
 have m3h:m3.h=m.h:=by rw[← hm3]
 have m3col:m3.col=col3:=by rw[← hm3]
 have hr3:=S3.rel hr2
 have hver3:∀rs∈a.cls,∀r∈rs,g3'.ver r.1=g2.ver r.1:=fun rs hrs r hr'=>
  ver_out hr2 S3 (.inl fun e=>(hroot rs hrs r hr').1 (hBb _ e))
 obtain ⟨fn,hfn1,hfn2⟩:∃fn,cx.P.funcs[f]? =some fn∧fn.params.toList.map (isAggB cx.P)=tys.map (isAggB cx.P):=by
  rw[zC] at hfn;exact hfn
 have hvl:vl m1=vl m:=by funext x;cases x<;>simp[vl,m1c]
 have hInOk:InOk cx.P k m3 0 0 sig.params tys (xs.map (vl m1)) ins a.cls:=in_ok hA (m3:=m3) (by rw[m3c,m1c]) (p:=0) (i:=0) (by rw[m3σ];exact hIns) (fun j mv d x a1 a2 a3=>by
   have:=(hheld j mv d x a1 a2 a3).1
   rw[Nat.zero_add]
   exact this.turn hr2 S3 (by rw[m3h,m2h]) (fun b π hb=>by rw[m3col];exact hlim3 b _ π hb) fun q hq=>hver3 _ (hA.ms_cls mv (zF a1)) q hq)
  (fun q s ty tout ts a1 a2=>hgiven q s ty tout ts a1 (by rw[hent2 s (mem_paBoxes (zF a1)),a2])) (fun s _ h2=>hbpres s h2) hr
 rw[hvl] at hInOk
 have hvc:vc sig.params<1000:=by rw[l4];exact hml
 have hM:=hmeets sig hsig fn (calleeK k m3 (handOf sig.params) (fun j=>a.cls.getD j []) (fun j=>((cps 0 0 sig.params).getD j (0,0,none,0)).2.2.2))
  ⟨fun i=>ins.getD i [],fun i=>(xs.map (vl m)).getD i undef,m3.h,handCol (handOf sig.params) m3.col⟩ w (xs.map (vl m)) ins (res::os) hfn1 hk (hfx.call hr3.mem rfl _ ⟨rfl,rfl⟩) rfl rfl (by rw[hw];exact m3h.symm) (by simpa using l2) (fun _=>rfl) (fun _=>rfl)
  (callee_mem hr3.mem (fun u p o n hu=>by have:=handOf_low hpo hu;unfold PAR;omega) _ _) (fun b u π=>handCol_nolim) (fun i=>by
   have:=in_ents (k:=k) (m:=m3) (H:=handOf sig.params) (cl:=fun j=>a.cls.getD j []) (lu:=fun j=>((cps 0 0 sig.params).getD j (0,0,none,0)).2.2.2) (P:=cx.P) (σ:=fun i=>ins.getD i []) (c:=fun i=>(xs.map (vl m)).getD i undef) (j:=0) hInOk
    (fun q=>handOf_blk hpo hvc) (fun p o n u hm=>handOf_c hpo hvc hm) (fun t c ht=>by simp[ht]) (fun t rs ht=>by simp[ht]) (fun r=>by simp) (fun r=>by simp) i
   rw[Nat.zero_add,pEnts_congr hfn2.symm] at this
   exact this) henv
 refine hM.mono fun ed w' hR=> ?_
 obtain ⟨v,h',dr,colF,rfl,rfl,hfin⟩:=hR
 have hF:=hfin.mem
 have S4:=call_step hr3 hF
 have hr4:=S4.rel hr3
 obtain ⟨dsr,osr,hout,hresO,hpars⟩:=hfin.res
 cases hout
 rw[hfn2,← hvl] at hpars
 have hfrm:∀mu∈paMus a.pas,mu.frm∈a.ms.filterMap (·.frm):=fun mu hmu=>hA.mus.subset (List.mem_map.2 ⟨mu,hmu,rfl⟩)
 have hfl:∀mu∈paMus a.pas,mu.s∈leftSlots a.ms:=fun mu hmu=>by
  obtain ⟨mv,h1,h2⟩:=List.mem_filterMap.1 (hfrm mu hmu)
  exact List.mem_filterMap.2 ⟨mv,h1,by rw[h2];rfl⟩
 have hbase:∀mu∈paMus a.pas,∀y∈wayW mu.w,y.1<cx.base:=fun mu hmu y hy=>by
  obtain ⟨mv,h1,h2⟩:=List.mem_filterMap.1 (hfrm mu hmu)
  rcases (mvsOk_spec hmv).2.2 with h3|⟨_,h3⟩
  ·unfold noWays at h3
   have:=zL.1 h3 mv h1
   rw[h2] at this
   cases hw:wayW mu.w with
   |nil=>rw[hw] at hy;simp at hy
   |cons q l=>simp[Mu.frm,hw] at this
  ·exact ((h3 mv h1).2.2 _ _ _ h2).2 y hy
 have hwayt:∀mu∈paMus a.pas,∀y∈wayW mu.w,y.1 ∉ touched:=fun mu hmu y hy=>by
  obtain ⟨z,hz,e⟩:=mem_wayW hy
  have:=((hmus mu hmu).2 z hz).1
  rw[e] at this
  exact this
 have hpw:=pairs_wise (mvsOk_spec hmv).1
 have hloc:∀mu∈paMus a.pas,∀ix v0 x,wayOf m1.σ (wayW mu.w)=some ix→LocAt g m1 mu.s mu.o ix v0 x→wayOf σ1 (wayW mu.w)=some ix∧LocAt g3' ⟨σ1,m3.c,h',backCol (handOf sig.params) m3.col colF⟩ mu.s mu.o ix v0 x:=fun mu hmu ix v0 x hwy hl=>by
  have hs:=(hmus mu hmu).1
  refine ⟨?_,?_⟩
  ·rw[← hwy]
   refine wayOf_keep fun y hy=>hσ1 y.1 (fun e=>by have:=hbase mu hmu y hy;omega) fun e=>hwayt mu hmu y hy (hBl _ e)
  ·have h2:=hlocs mu.s mu.o (wayW mu.w) ix v0 x hs.1 (fun q hq=>by
    rcases wise_or hpw hq (hfrm mu hmu) with e|e|e
    ·exact .inl e
    ·exact .inl (frmApart_comm e)
    ·exact .inr e) (hA.mus_cell mu hmu) (hbase mu hmu) hwy hl
   have h3:=h2.keep hr2 S3 hs.2
   have h4:=h3.keep hr3 S4 (by have:=hlow _ (hBl _ (hfl mu hmu));omega)
   rw[m3σ] at h4
   exact h4
 have hP:=pend_ok (σ:=σ1) (g5:=g3') hA hr hr3 hF (by rw[m3c,m1c]) hpars (by omega) hpo hsrc hloc hbpres
 have hcls3:∀t n rs,outTag a.cls t= .own n rs→curR g3' rs=true∧∀q∈rs,q.1 ∉ touched∧q.1≠dst:=fun t n rs ht=>by
  obtain ⟨js,_,hrs⟩:=outTag_own ht
  have hmem:∀q∈rs,∃rs'∈a.cls,q∈rs':=fun q hq=>by
   rw[hrs] at hq
   split at hq
   ·simp at hq
   ·obtain ⟨j,_,hj⟩:=mem_clsOf.1 hq
    rw[zM] at hj
    cases hc:a.cls[j]? with
    |none=>rw[hc] at hj;simp at hj
    |some rs'=>rw[hc] at hj;exact ⟨rs',zF hc,hj⟩
  refine ⟨?_,fun q hq=> ?_⟩
  ·rw[curR_iff]
   intro q hq
   obtain ⟨rs',h1,h2⟩:=hmem q hq
   rw[hver3 rs' h1 q h2,hver2 rs' h1 q h2]
   exact curR_iff.1 (hcur rs' h1) q h2
  ·obtain ⟨rs',h1,h2⟩:=hmem q hq
   exact ⟨(hroot rs' h1 q h2).1,(hroot rs' h1 q h2).2.2⟩
 rw[m3σ] at S4 hr4
 obtain ⟨col5,S5,hlim5⟩:=takes_ok (B:=fun x=>x∈touched) hlow a.pas 0 g3' g3 _ os _ σ2 hr4 htk hback hP (by omega) (fun mu hmu=>⟨hBl _ (hfl mu hmu),(hmus mu hmu).1.2,hwayt mu hmu⟩)
  (fun s hs=>⟨hBb s hs,by rw[S3.len,S2.len,hglen];have:=(hbxs s hs).2;omega⟩) hnd (hpw.sublist hA.mus) (fun t n rs ht=>⟨(hcls3 t n rs ht).1,fun q hq=>((hcls3 t n rs ht).2 q hq).1⟩)
 have hver5:∀t n rs,outTag a.cls t= .own n rs→∀q∈rs,g3.ver q.1=g3'.ver q.1:=fun t n rs ht q hq=>by
  by_cases hp:PAR≤q.1
  ·exact ver_out hr4 S5 (.inr hp)
  ·refine ver_out hr4 S5 (.inl ?_)
   rintro (e|e)
   ·exact ((hcls3 t n rs ht).2 q hq).1 e
   ·exact hp e
 have hlen3:g3.length=cx.base+61:=by rw[S5.len,S3.len,S2.len,hglen]
 obtain ⟨col6,S6⟩:=res_step (dst:=dst) hr3 hF hres hresO hrl hr4 (m5:=⟨σ2,m3.c,h',col5⟩) rfl (by rw[hlen3];have:=hf.dst;omega) S5 (fun b u π h1 h2=>hlim5 b u π h1 (ar7 h2))
  (fun t n rs ht=>⟨by
   have:=(hcls3 t n rs ht).1
   rw[curR_iff] at this ⊢
   intro q hq
   rw[hver5 t n rs ht q hq,this q hq],fun q hq=>⟨hver5 t n rs ht q hq,((hcls3 t n rs ht).2 q hq).2⟩⟩)
 have S:=((((S1.trans hr0 S2).trans hr0 S3).trans hr0 S4).trans hr0 S5).trans hr0 S6
 rw[show (⟨σ2,m3.c,h',col5⟩:M).c=m.c from m3c] at S
 refine ⟨v,h',dr,col6,rfl,rfl,S.mono hr0 fun x hx=> ?_⟩
 unfold TT
 simp only[zT]
 rcases hx with ((((hx|(hx|hx))|hx)|hx)|(hx|hx))|(hx|hx)
 ·exact .inl (.inr hx)
 ·exact .inl (.inl (hBl _ hx))
 ·exact .inr (.inr (.inl hx))
 ·exact .inl (.inl (hBb _ hx))
 ·exact .inr (.inr (.inr hx))
 ·exact .inl (.inl hx)
 ·exact .inr (.inr (.inr hx))
 ·exact .inr (.inl hx)
 ·exact .inr (.inr (.inr hx))
end
def Callable (P:Program) (f:Nat):Prop:=∃fn,P.funcs[f]? =some fn∧fn.body.isSome=true∧(fn.name== "runtime.NumGoroutine")=false
structure Fr (base:Nat) (a:Act) (c:Nat→Value):Prop where
 defers:a.defers=[]
 size:base≤a.tmps.size
 eq:∀t,t<base→a.tmps.getD t undef=c t
def Wd (w w':World):Prop:=∃h dr,w'={w with heap:=h,drawn:=dr}
theorem Wd.refl (w:World):Wd w w:=⟨w.heap,w.drawn,rfl⟩
theorem Wd.trans {w w1 w2:World} (h:Wd w w1) (h':Wd w1 w2):Wd w w2:=by
 obtain ⟨h1,d1,rfl⟩:=h
 obtain ⟨h2,d2,rfl⟩:=h'
 exact ⟨h2,d2,rfl⟩
section
variable {base:Nat} {a:Act} {c c':Nat→Value} {m:M}
theorem Fr.put (h:Fr base a c) {dst:Option Nat} {v:Value} (hc:∀t,t<base→c' t=if dst=some t then v else c t):Fr base (a.put dst v) c':=by
 cases dst with
 |none=>exact ⟨h.defers,h.size,fun t ht=>by rw[hc t ht,if_neg (by simp)];exact h.eq t ht⟩
 |some d=>
  refine ⟨h.defers,by simp[Act.put];exact h.size,fun t ht=> ?_⟩
  rw[hc t ht]
  have hsz:=h.size
  simp only[Act.put,Option.some.injEq]
  by_cases e:d=t
  ·subst e
   rw[if_pos rfl]
   have:d<a.tmps.size:=by omega
   simp[Array.getD_eq_getD_getElem?,Array.getElem?_setIfInBounds,this]
  ·rw[if_neg e,← h.eq t ht]
   simp[Array.getD_eq_getD_getElem?,Array.getElem?_setIfInBounds_ne e]
theorem Fr.eval (h:Fr base a m.c) {x:Operand} (hx:opndOk base x=true):a.eval x=vl m x:=by
 cases x with
 |tmp t=>simp[opndOk] at hx;exact h.eq t hx
 |const v=>rfl
 |_=>simp[opndOk] at hx
theorem opers_map (h:Fr base a m.c) {xs:Array Operand} (hx:xs.toList.all (opndOk base)=true):xs.map a.eval=(xs.toList.map (vl m)).toArray:=by
 apply Array.ext'
 simp only[Array.toList_map]
 exact List.map_congr_left fun x hxx=>h.eval (zL.1 hx x hxx)
theorem execOp_fr (h:Fr base a m.c) {o:Oper} (hx:opersOk base o.op=true) (hs:∀cs b,o.op≠ .select cs b) (hnc:∀c,o.op= .call c→∃b,c.callee= .builtin b):execOp a.eval o=execOp (vl m) o:=by
 refine execOp_congr o hs fun x hxm=> ?_
 unfold opersOk at hx
 split at hx
 ·rename_i c hc
  obtain ⟨b,hb⟩:=hnc c hc
  rw[hc] at hxm
  simp only[Op.operands,Call.operands,hb] at hxm
  exact h.eval (zL.1 hx x (by simpa using hxm))
 ·exact h.eval (zL.1 hx x (by simpa using hxm))
theorem compOp_kind {cx:Cx} {share take bs:Bool} {g:G} {o:Oper} {r:Res} (h:compOp cx share take bs g o=some r):
  (∀cs b,o.op≠ .select cs b)∧∀c,o.op= .call c→(∃b,c.callee= .builtin b)∨∃f,c.callee= .value (.func f)∧callOp cx g (o.dst.getD (cx.base+60)) f c.args.toList c.argTypes.toList=some r∧(o.dst.getD (cx.base+60)<cx.base∨o.dst.getD (cx.base+60)=cx.base+60):=by
 unfold compOp at h
 simp only at h
 rw[guardO_some] at h
 obtain ⟨hd,h⟩:=h
 simp only[zD,Bool.or_eq_true,decide_eq_true_eq,beq_iff_eq] at hd
 refine ⟨fun cs b e=>(by rw[e] at h;cases h),fun c e=> ?_⟩
 rw[e] at h
 simp only at h
 cases hc:c.callee with
 |builtin b=>exact .inl ⟨b,rfl⟩
 |invoke x n=>rw[hc] at h;cases h
 |value f=>
  rw[hc] at h
  cases f with
  |func f=>exact .inr ⟨f,rfl,h,hd.2⟩
  |_=>cases h
section
variable {k:K} {env:Env} {g:G} {cx:Cx} {σ':St} {o:Oper} {r:Res} {Q:Exit→Act→World→Prop}
theorem op_wp (hr:Rel k g m) (hlen:g.length=cx.base+61) {share take bs:Bool} (h:compOp cx share take bs g o=some r) (he:evIs env (chks o.op++r.is) m.σ=some σ') (hx:opersOk cx.base o.op=true)
  (hk:k.P=cx.P) (hfx:FxOk k) (hmeets:∀f sig,cx.sigs f=some sig→Callable cx.P f∧Meets cx.P f sig (env f)) (hfr:Fr cx.base a m.c) {w:World} (hw:w.heap=m.h) {next:Act→World→Prop}
  (hn:∀v w' m',Wd w w'→w'.heap=m'.h→m'.σ=σ'→Fr cx.base (a.put o.dst v) m'.c→Step k g m r.g m' (TT cx (o.dst.getD (cx.base+60)) r.t)→next (a.put o.dst v) w'):o.wp cx.P a w next Q:=by
 obtain ⟨hs,hcall⟩:=compOp_kind h
 unfold Oper.wp
 by_cases hc:∃c f,o.op= .call c∧c.callee= .value (.func f)
 ·obtain ⟨c,f,hop,hcal⟩:=hc
  obtain ⟨f',hf',hco,hdst⟩:=(hcall c hop).resolve_left (by rintro ⟨b,hb⟩;rw[hcal] at hb;cases hb)
  rw[hcal] at hf'
  cases hf'
  obtain ⟨hh,he2⟩:=chks_here he
  have hpres:∀x∈c.args.toList,Here m x:=fun x hxm t e=>hh (fun c' a' b' e'=>by rw[hop] at e';cases e') t (by rw[hop];simp only[Op.operands,Call.operands,hcal];rw[← e];simp;exact .inr (by simpa using hxm))
  have hsig:∃sig,cx.sigs f=some sig:=by
   unfold callOp at hco
   rw[zA] at hco
   obtain ⟨sig,h1,_⟩:=hco
   exact ⟨sig,h1⟩
  obtain ⟨sig,hsig⟩:=hsig
  obtain ⟨⟨fn,h1,h2,h3⟩,_⟩:=hmeets f sig hsig
  have hargs:c.args.map a.eval=(c.args.toList.map (vl m)).toArray:=by
   refine opers_map hfr ?_
   rw[hop] at hx
   exact hx
  have hrun:(execOp a.eval o).run cx.P w= .ok (.enter f (c.args.toList.map (vl m)).toArray) w:=by
   have h3':fn.name≠ "runtime.NumGoroutine" :=by simpa using h3
   have hb':fn.body≠none:=fun e=>by rw[e] at h2;cases h2
   simp[execOp,hop,resolve,hcal,Act.eval,Deferred.ofValue,invoke,callFunc,Sem.run_bind,h1,← hargs,h3',hb']
  rw[hrun,Oper.upon_enter]
  refine (call_ok hr ⟨hlen,hdst⟩ hco hpres hk hfx (fun sig' hs'=>(hmeets f sig' hs').2) he2 w hw).mono fun e w'' hR=> ?_
  obtain ⟨v,h',dr,col',rfl,rfl,hst⟩:=hR
  refine hn v _ ⟨σ',updC m.c (o.dst.getD (cx.base+60)) v,h',col'⟩ ⟨h',dr,rfl⟩ rfl rfl (hfr.put fun t ht=> ?_) hst
  unfold updC
  cases hd:o.dst with
  |none=>simp;omega
  |some d=>simp;by_cases e:t=d<;>simp[e,eq_comm]
 ·have hnb:∀c,o.op= .call c→∃b,c.callee= .builtin b:=fun c hop=>(hcall c hop).resolve_right (by rintro ⟨f,hf,_⟩;exact hc ⟨c,f,hop,hf⟩)
  obtain ⟨n,v,h',dr,c',col',h1,h2,h3,h4⟩:=(comp_done hr hlen h he (fun c f hop hf=>by obtain ⟨b,hb⟩:=hnb c hop;rw[hf] at hb;cases hb)).1 w hw
  rw[execOp_fr hfr hx hs hnb,h2]
  have:=hn v _ ⟨σ',c',h',col'⟩ ⟨h',dr,rfl⟩ rfl rfl (hfr.put h3) h4
  rcases h1 with rfl|⟨rfl,rfl⟩
  ·exact this
  ·exact this
end
end
theorem wfR_ok {g:G} {rs:Rts} (h:wfR g rs=true):WfR g rs:=fun r hr=>by
 have:=zL.1 h r hr
 simpa using this
theorem wfW_ok {g:G} {w:List (Nat×Nat×Nat)} (h:wfW g w=true):WfW g w:=fun r hr=>by
 have:=zL.1 h r hr
 simpa using this
theorem wfL_ok {g:G} {s v:Nat} {w:List (Nat×Nat×Nat)} (h:wfL g s v w=true):WfL g s v w:=by
 unfold wfL at h
 rw[zD,decide_eq_true_eq] at h
 exact ⟨h.1,wfW_ok h.2⟩
theorem wfTag_ok {g:G} {t:Tag} (h:wfTag g t=true):TagWf g t:=by
 cases t with
 |own n rs=>exact wfR_ok h
 |loan s o v w=>exact wfL_ok h
 |pre s o v=>simpa[wfTag,TagWf] using h
 |_=>trivial
theorem wfEnt_ok {g:G} {e:Ent} (h:wfEnt g e=true):EntWf g e:=by
 cases e with
 |val sh ts=>exact fun t ht=>wfTag_ok (zL.1 h t ht)
 |box ty ts=>exact fun t ht=>wfTag_ok (zL.1 h t ht)
 |ptr b v off=>simpa[wfEnt,EntWf] using h
 |eptr s o v w i iv off sz=>
  simp only[wfEnt,zD,decide_eq_true_eq] at h
  exact ⟨wfL_ok h.1,h.2⟩
 |rptr rs off=>exact wfR_ok h
 |mal s v=>simpa[wfEnt,EntWf] using h
 |_=>trivial
section
variable {k:K} {g:G} {m:M}
theorem Step.skip (hr:Rel k g m) {s:Nat} (hs:s<g.length) {e:Ent} (he:EntWf (g.tch s e) e) {v:Value}:
  Step k g m (g.tch s e) ⟨m.σ.upd s [],updC m.c s v,m.h,dropCol m.col s⟩ (fun x=>x=s∨PAR≤x):=by
 refine Step.turn1 (m':=⟨m.σ.upd s [],updC m.c s v,m.h,dropCol m.col s⟩) hr hs .tch (fun x hx=>by simp[St.upd,hx]) (fun x hx=>by simp[updC,hx]) (hr.mem.turn rfl fun b=> ?_) (fun b _ hown=>⟨rfl,dropCol_ne fun e=>(hown s e).1 rfl⟩)
  ⟨fun h=>absurd h (Turn.idv_self hs),fun h=>absurd h (Turn.hv_self (.inl rfl) hs),fun h=>absurd h (Turn.dv_self .tch (by simp) (by simp) hs),fun h=>absurd h (Turn.ver_self .tch (by simp) hs)⟩ ⟨he,?_⟩
 ·by_cases h:(m.col b).own=some s
  ·exact .inr ⟨by rw[h];simp, .inl (by show dropCol m.col s b=_;unfold dropCol;rw[if_pos h])⟩
  ·exact .inl (dropCol_ne h)
 ·have h0:(m.σ.upd s []) s=[]:=by simp[St.upd]
  cases e<;>first|trivial|exact .inl h0
def Nb (base:Nat) (m:M) (done:List Nat):Prop:=∀d∈done,d<base∧(m.σ d=[]→∀b,m.c d≠ .bool b)
theorem guard_ok (hr:Rel k g m) {base:Nat} {ops:List Oper} {done:List Nat} {o:Oper} {gd:Option (Nat×Bool)} (h:guardOf ops g done o=some gd) (hnb:Nb base m done) {a:Act} (hfr:Fr base a m.c):
  match gd with
  |none=>Region.wanted o (yielded ops.toArray a.tmps)=true
  |some (d,want)=>(∀b,m.σ d=[.bool b]→Region.wanted o (yielded ops.toArray a.tmps)=(b==want))∧(m.σ d=[]→Region.wanted o (yielded ops.toArray a.tmps)=false):=by
 unfold guardOf at h
 unfold Region.wanted
 split at h
 ·rename_i hg
  cases h
  simp only[hg]
 ·rename_i j want hg
  split at h
  ·rename_i o' ho'
   split at h
   ·rename_i d hd
    rw[guardO_some] at h
    obtain ⟨hc,h⟩:=h
    cases h
    simp only[zD,List.contains_eq_mem,decide_eq_true_eq] at hc
    obtain ⟨hdone,hent⟩:=hc
    obtain ⟨hdb,hnd⟩:=hnb d hdone
    have hsz:=hfr.size
    have hy:yielded ops.toArray a.tmps j=match m.c d with| .bool b=>some b|_=>none:=by
     have hdt:d<a.tmps.size:=Nat.lt_of_lt_of_le hdb hsz
     have hq:=hfr.eq d hdb
     rw[Array.getD_eq_getD_getElem?,Array.getElem?_eq_getElem hdt,Option.getD_some] at hq
     unfold yielded
     have:(ops.toArray[j]?).bind (·.dst)=some d:=by simp[ho',hd]
     rw[this,Option.bind_some,Array.getElem?_eq_getElem hdt,hq]
     cases m.c d<;>rfl
    simp only[hg,hy]
    refine ⟨fun b hb=> ?_,fun h0=> ?_⟩
    ·have hE:=hr.ent d
     rw[hent] at hE
     rcases hE with hE|⟨vs,h1,h2⟩
     ·rw[hE] at hb;cases hb
     ·simp[cellsV] at h1
      subst h1
      have:=h2.2.2.2 0 .sc (.bool b) (m.c d) rfl (by rw[hb];rfl) rfl
      rw[flat_bool this.2]
      cases b<;>cases want<;>rfl
    ·have:=hnd h0
     cases hv:m.c d with
     |bool b=>exact absurd hv (this b)
     |_=>cases want<;>rfl
   ·cases h
  ·cases h
end
structure EnvOk (cx:Cx) (k:K) (env:Env):Prop where
 prog:k.P=cx.P
 fx:FxOk k
 meets:∀f sig,cx.sigs f=some sig→Callable cx.P f∧Meets cx.P f sig (env f)
def TL (cx:Cx) (tl:List Nat):Nat→Prop:=fun x=>x∈tl∨(cx.base≤x∧x<cx.base+61)∨PAR≤x
section
variable {cx:Cx} {k:K} {env:Env} {ops:List Oper} {share take:Bool} {g:G} {m:M} {o:Oper} {Q:Exit→Act→World→Prop}
structure OneOk (cx:Cx) (ops:List Oper) (share take:Bool) (done:List Nat) (g:G) (o:Oper) (r:Res) (gd:Option (Nat×Bool)):Prop where
 comp:compOp cx share take (isBase ops.toArray o) g o=some r
 guard:guardOf ops g done o=some gd
 dst:∀d,o.dst=some d→d<cx.base∧d ∉ done
 prot:∀d,o.dst=some d→protB cx.sg.params d=false
 t:∀d∈r.t,d ∉ done
 opers:opersOk cx.base o.op=true
 skip:gd≠none→∃d,o.dst=some d∧r.t=[]∧EntWf r.g (r.g.ent d)∧r.g=g.tch d (r.g.ent d)
def nbOf (ops:List Oper) (o:Oper):Bool:=match o.dst with|some d=>isGuard ops d|none=>false
def doneOf (ops:List Oper) (o:Oper) (done:List Nat):List Nat:=if nbOf ops o then o.dst.toList++done else done
theorem oneOk_of {done:List Nat} {r:Res} {gd:Option (Nat×Bool)} (h1:compOp cx share take (isBase ops.toArray o) g o=some r) (h2:guardOf ops g done o=some gd)
  (h4:(o.dst.all (fun d=>decide (d<cx.base)&& !done.contains d&& !protB cx.sg.params d)&&r.t.all (fun d=> !done.contains d)&&opersOk cx.base o.op&&
   (gd.isNone||(match o.dst with|some d=>r.t.isEmpty&&wfEnt r.g (r.g.ent d)&&decide (r.g=g.tch d (r.g.ent d))|none=>false)))=true):OneOk cx ops share take done g o r gd:=by
 simp only[zD] at h4
 obtain ⟨⟨⟨c1,c2⟩,c3⟩,c4⟩:=h4
 refine ⟨h1,h2,fun d hd=> ?_,fun d hd=> ?_,fun d hd hm=> ?_,c3,fun hne=> ?_⟩
 ·rw[hd] at c1
  simp at c1
  exact ⟨c1.1.1,c1.1.2⟩
 ·rw[hd] at c1
  simp at c1
  exact c1.2
 ·have:=zL.1 c2 d hd
  simp at this
  exact this hm
 ·rw[Bool.or_eq_true] at c4
  rcases c4 with c4|c4
  ·cases gd with
   |none=>exact absurd rfl hne
   |some _=>cases c4
  ·cases hd:o.dst with
   |none=>rw[hd] at c4;cases c4
   |some d=>
    rw[hd] at c4
    simp only[zD,List.isEmpty_iff,decide_eq_true_eq] at c4
    exact ⟨d,rfl,c4.1.1,wfEnt_ok c4.1.2,c4.2⟩
theorem compOps_cons {l:List Oper} {done:List Nat} {x:List LI×G×List Nat} (h:compOps cx ops share take (o::l) done g=some x):
  ∃r gd y,OneOk cx ops share take done g o r gd∧compOps cx ops share take l (doneOf ops o done) r.g=some y∧x=(⟨gd,o.dst,nbOf ops o,chks o.op++r.is⟩::y.1,y.2.1,r.t++o.dst.toList++y.2.2):=by
 unfold compOps at h
 rw[forceK_eq] at h
 simp only[zA,guardO_some] at h
 obtain ⟨r,h1,gd,h2,y,h3,h4,h5⟩:=h
 cases h5
 exact ⟨r,gd,y,oneOk_of h1 h2 h4,h3,rfl⟩
theorem TT_TL {dst:Option Nat} {t:List Nat} {rest:List Nat} (x:Nat) (h:TT cx (dst.getD (cx.base+60)) t x):TL cx (t++dst.toList++rest) x:=by
 unfold TT at h
 unfold TL
 simp only[zT]
 rcases h with h|h|h|h
 ·exact .inl (.inl (.inl h))
 ·cases dst with
  |none=>simp at h;exact .inr (.inl (by omega))
  |some d=>simp at h;subst h;exact .inl (.inl (.inr (by simp)))
 ·exact .inr (.inl (by omega))
 ·exact .inr (.inr h)
theorem Nb.keep {base:Nat} {m m':M} {g':G} {T:Nat→Prop} {done:List Nat} (h:Nb base m done) (S:Step k g m g' m' T) (hT:∀d∈done,¬ T d):Nb base m' done:=fun d hd=>by
 have hp:=(S.rest d (hT d hd)).2
 rw[hp.σ,hp.c]
 exact h d hd
theorem li_wp (hr:Rel k g m) (hlen:g.length=cx.base+61) (hE:EnvOk cx k env) {done:List Nat} {r:Res} {gd:Option (Nat×Bool)} (h:OneOk cx ops share take done g o r gd) (hpar:cx.base<PAR)
  {σ':St} (he:LI.ev env m.σ ⟨gd,o.dst,nbOf ops o,chks o.op++r.is⟩=some σ') {a:Act} (hfr:Fr cx.base a m.c) (hnb:Nb cx.base m done) {w:World} (hw:w.heap=m.h) {K':Act→World→Prop}
  (hn:∀v w' m',Wd w w'→w'.heap=m'.h→m'.σ=σ'→Fr cx.base (a.put o.dst v) m'.c→Step k g m r.g m' (TT cx (o.dst.getD (cx.base+60)) r.t)→Nb cx.base m' (doneOf ops o done)→K' (a.put o.dst v) w'):
  if Region.wanted o (yielded ops.toArray a.tmps) then o.wp cx.P a w K' Q∨(o.asks cx.P a w∧LetsOut Q) else K' (a.put o.dst undef) w:=by
 have hdone:∀d∈done,¬ TT cx (o.dst.getD (cx.base+60)) r.t d:=fun d hd ht=>by
  have hdb:=(hnb d hd).1
  rcases ht with ht|ht|ht|ht
  ·exact h.t d ht hd
  ·cases hq:o.dst with
   |none=>rw[hq] at ht;simp at ht;omega
   |some d'=>rw[hq] at ht;simp at ht;subst ht;exact (h.dst d hq).2 hd
  ·omega
  ·omega
 have run:∀(hw2:Region.wanted o (yielded ops.toArray a.tmps)=true),LI.run env m.σ ⟨gd,o.dst,nbOf ops o,chks o.op++r.is⟩=some σ'→if Region.wanted o (yielded ops.toArray a.tmps) then o.wp cx.P a w K' Q∨(o.asks cx.P a w∧LetsOut Q) else K' (a.put o.dst undef) w:=fun hw2 he=>by
  rw[if_pos hw2]
  left
  simp only[LI.run,zA] at he
  obtain ⟨σ1,he1,he2⟩:=he
  split at he2
  ·rename_i hnbk
   cases he2
   refine op_wp hr hlen h.comp he1 h.opers hE.prog hE.fx hE.meets hfr hw fun v w' m' b1 b2 b3 b4 b5=>hn v w' m' b1 b2 b3 b4 b5 ?_
   have hk:=hnb.keep b5 hdone
   unfold doneOf
   split
   ·rename_i hnbo
    intro d hd
    rcases zT.1 hd with hd|hd
    ·cases hq:o.dst with
     |none=>rw[hq] at hd;simp at hd
     |some d'=>
      rw[hq] at hd
      simp at hd
      subst hd
      refine ⟨(h.dst d hq).1,fun h0=> ?_⟩
      unfold LI.nbOk at hnbk
      simp only[hnbo,hq] at hnbk
      rw[b3] at h0
      rw[h0] at hnbk
      simp at hnbk
    ·exact hk d hd
   ·exact hk
  ·cases he2
 have skip:∀(hw2:Region.wanted o (yielded ops.toArray a.tmps)=false) (hg:gd≠none),LI.skip m.σ ⟨gd,o.dst,nbOf ops o,chks o.op++r.is⟩=σ'→if Region.wanted o (yielded ops.toArray a.tmps) then o.wp cx.P a w K' Q∨(o.asks cx.P a w∧LetsOut Q) else K' (a.put o.dst undef) w:=fun hw2 hg hs=>by
  rw[if_neg (by rw[hw2];simp)]
  obtain ⟨d,hd,ht,hwf,hg'⟩:=h.skip hg
  have hdb:=(h.dst d hd).1
  have S:=Step.skip (v:=undef) hr (s:=d) (by rw[hlen];exact Nat.lt_of_lt_of_le hdb (by omega)) (e:=r.g.ent d) (by rw[← hg'];exact hwf)
  rw[← hg'] at S
  have S':Step k g m r.g ⟨m.σ.upd d [],updC m.c d undef,m.h,dropCol m.col d⟩ (TT cx (o.dst.getD (cx.base+60)) r.t):=S.mono hr fun x hx=>by
   rw[hd]
   rcases hx with hx|hx
   ·exact .inr (.inl hx)
   ·exact .inr (.inr (.inr hx))
  refine hn undef w ⟨m.σ.upd d [],updC m.c d undef,m.h,dropCol m.col d⟩ (.refl w) hw ?_ ?_ S' ?_
  ·rw[← hs]
   unfold LI.skip
   simp only[hd]
  ·refine hfr.put fun t ht=> ?_
   rw[hd]
   simp only[updC,Option.some.injEq]
   by_cases e:t=d
   ·simp[e]
   ·rw[if_neg e,if_neg (fun e'=>e e'.symm)]
  ·have hk:=hnb.keep S' hdone
   unfold doneOf
   split
   ·intro d' hd'
    rcases zT.1 hd' with hd'|hd'
    ·rw[hd] at hd'
     simp at hd'
     subst hd'
     refine ⟨hdb,fun _ b=> ?_⟩
     simp[updC,undef]
    ·exact hk d' hd'
   ·exact hk
 have hG:=guard_ok hr h.guard hnb hfr
 unfold LI.ev at he
 cases gd with
 |none=>exact run hG he
 |some p=>
  obtain ⟨d,want⟩:=p
  simp only at he hG
  split at he
  ·rename_i b hb
   have h1:=hG.1 b hb
   split at he
   ·rename_i e
    exact run (by rw[h1,e];simp) he
   ·rename_i e
    refine skip (by rw[h1];simpa using e) (by simp) ?_
    exact zU he
  ·rename_i h0
   exact skip (hG.2 h0) (by simp) (zU he)
  ·cases he
theorem put_prot {a:Act} {dst:Option Nat} {v:Value} {d:Nat} (h:∀d',dst=some d'→d'≠d):(a.put dst v).tmps.getD d undef=a.tmps.getD d undef:=by
 cases dst with
 |none=>rfl
 |some d'=>simp[Act.put,Array.getD_eq_getD_getElem?,Array.getElem?_setIfInBounds_ne (h d' rfl)]
theorem ops_wp (hE:EnvOk cx k env) (hpar:cx.base<PAR):∀(l:List Oper) (is:List Nat) (done:List Nat) (g:G) (m:M) (a:Act) (w:World) (x:List LI×G×List Nat) (σ':St),Rel k g m→g.length=cx.base+61→
  compOps cx ops share take l done g=some x→evLs env x.1 m.σ=some σ'→Fr cx.base a m.c→w.heap=m.h→Nb cx.base m done→is.length=l.length→(∀(p i:Nat) (y:Oper),is[p]? =some i→l[p]? =some y→ops[i]? =some y)→
  (∀a' w' m',Wd w w'→w'.heap=m'.h→m'.σ=σ'→Fr cx.base a' m'.c→(∀d,protB cx.sg.params d=true→a'.tmps.getD d undef=a.tmps.getD d undef)→Step k g m x.2.1 m' (TL cx x.2.2)→Q .normal a' w')→wpOps cx.P ops.toArray Q is a w
 | [],is,done,g,m,a,w,x,σ',hr,hlen,h,he,hfr,hw,hnb,hl,hi,hQ=>by
  cases is with
  |cons=>simp at hl
  |nil=>
   simp[compOps] at h
   subst h
   simp[evLs] at he
   exact hQ a w m (.refl w) hw he hfr (fun _ _=>rfl) ((Step.refl hr).mono hr fun y hy=>hy.elim)
 |o::l,is,done,g,m,a,w,x,σ',hr,hlen,h,he,hfr,hw,hnb,hl,hi,hQ=>by
  cases is with
  |nil=>simp at hl
  |cons i is=>
   obtain ⟨r,gd,y,h1,h2,rfl⟩:=compOps_cons h
   simp only[evLs,zA] at he
   obtain ⟨σ1,he1,he2⟩:=he
   have hoi:ops[i]? =some o:=hi 0 i o (by simp) (by simp)
   unfold wpOps
   have hoi':ops.toArray[i]? =some o:=by simpa using hoi
   simp only[hoi']
   refine li_wp hr hlen hE h1 hpar he1 hfr hnb hw fun v w' m' b1 b2 b3 b4 b5 b6=> ?_
   have hr':=b5.rel hr
   refine ops_wp hE hpar l is (doneOf ops o done) r.g m' _ w' y σ' hr' (by rw[b5.len,hlen]) h2 (by rw[b3];exact he2) b4 b2 b6 (by simpa using hl) (fun p j z c1 c2=>hi (p+1) j z (by simpa using c1) (by simpa using c2)) fun a' w'' m'' c1 c2 c3 c4 c6 c5=> ?_
   refine hQ a' w'' m'' (b1.trans c1) c2 c3 c4 (fun d hd=>by rw[c6 d hd];exact put_prot (fun d' hd' e=>by rw[e] at hd';rw[h1.prot d hd'] at hd;cases hd)) ((b5.trans hr c5).mono hr fun z hz=> ?_)
   rcases hz with hz|hz
   ·exact TT_TL z hz
   ·rcases hz with hz|hz
    ·exact .inl (zQ _ hz)
    ·exact .inr hz
end
section
variable {k:K} {g h:G} {m:M}
theorem staysAt_step:∀(l:List (Nat×Nat×Nat)) {g:G} {m:M},Rel k g m→∃col',Step k g m (staysAt l g) ⟨m.σ,m.c,m.h,col'⟩ (fun x=>x∈l.map (·.1))
 | [],g,m,hr=>⟨m.col,(Step.refl hr).mono hr fun x h=>h.elim⟩
 |(s,o,n)::l,g,m,hr=>by
  obtain ⟨col1,S1⟩:=stayAt_step hr s o n
  obtain ⟨col2,S2⟩:=staysAt_step l (S1.rel hr)
  exact ⟨col2,(S1.trans hr S2).mono hr fun x hx=>by
   rcases hx with rfl|hx
   ·simp
   ·simp at hx ⊢;exact .inr hx⟩
theorem root_le {s:Nat} (hs:sameConc (g.ent s) (h.ent s)=true) (o:Nat):root h m s o=root g m s o:=by
 unfold root
 have:conc m.h (h.ent s) (m.c s)=conc m.h (g.ent s) (m.c s):=by
  cases e:g.ent s<;>cases e':h.ent s<;>rw[e,e'] at hs<;>simp[sameConc] at hs
  ·subst hs;rfl
  ·rfl
 rw[this]
theorem leR_mem {rs qs:Rts} (hle:leR g rs qs=true):curR g rs=true∧∀r∈rs,∃r'∈qs,r'.1=r.1∧r'.2.1=r.2.1:=by
 unfold leR at hle
 rw[zD] at hle
 refine ⟨hle.1,fun r hr=> ?_⟩
 have:=zL.1 hle.2 r hr
 simp only[List.any_eq_true,zD,beq_iff_eq] at this
 obtain ⟨r',h1,h2,h3⟩:=this
 exact ⟨r',h1,h2.symm,h3.symm⟩
theorem deepOk_le {rs qs:Rts} (hle:leR g rs qs=true) {col:Nat→Color} {b:Nat} (hd:deepOk k col rs b):deepOk k col qs b:=by
 obtain ⟨_,hm⟩:=leR_mem hle
 rcases hd with ⟨h1,h2⟩|⟨r,h1,π,h2⟩
 ·refine .inl ⟨h1,h2.imp id fun ⟨r,h3,j,h4,h5⟩=> ?_⟩
  obtain ⟨r',a1,a2,_⟩:=hm r h3
  exact ⟨r',a1,j,by rw[a2];exact h4,h5⟩
 ·obtain ⟨r',a1,a2,a3⟩:=hm r h1
  exact .inr ⟨r',a1,π,by rw[a2,a3];exact h2⟩
theorem le_cell {s o:Nat} {d:D} {v:Value} {t t':Tag} (hle:leTag g h t t'=true) (hc:CellOk k g m s o d v t):CellOk k h m s o d v t':=by
 cases t' with
 |dead=>trivial
 |sc=>cases t<;>simp[leTag] at hle;exact hc
 |own n' qs=>
  cases t<;>simp[leTag] at hle
  rename_i n rs
  obtain ⟨rfl,hR⟩:=hle
  refine ⟨hc.1,fun _=>O.frame (hc.2 (leR_mem hR).1) fun π b hb=>⟨rfl,?_⟩⟩
  unfold gd at hb ⊢
  by_cases o1:owns n π.length=true
  ·rw[if_pos o1] at hb ⊢;exact hb
  ·rw[if_neg o1] at hb ⊢;exact deepOk_le hR hb
 |loan s' o' v' w'=>
  cases t<;>simp[leTag] at hle
  rename_i s1 o1 v1 w1
  obtain ⟨⟨⟨⟨rfl,rfl⟩,hcur⟩,hw⟩,hsc⟩:=hle
  intro _
  obtain ⟨d0,v0,ix,d1,h1,h2,h3,h4⟩:=hc hcur
  exact ⟨d0,v0,ix,d1,by rw[root_le hsc];exact h1,by rw[← hw];exact h2,h3,h4⟩
 |pre s' o' v'=>
  cases t<;>simp[leTag] at hle
  rename_i s1 o1 v1
  obtain ⟨⟨⟨rfl,rfl⟩,hv⟩,hsc⟩:=hle
  intro _
  obtain ⟨sz,rows,n,a,len,cap,h1,h2⟩:=hc hv
  exact ⟨sz,rows,n,a,len,cap,by rw[root_le hsc];exact h1,h2⟩
theorem leTags_get:∀{ts ts':List Tag},leTags g h ts ts'=true→ts.length=ts'.length∧∀(o:Nat) (t':Tag),ts'[o]? =some t'→∃t,ts[o]? =some t∧leTag g h t t'=true
 | [],[],_=>⟨rfl,fun o t' h=>by simp at h⟩
 | [],_::_,h=>by simp[leTags] at h
 |_::_,[],h=>by simp[leTags] at h
 |t::ts,t'::ts',hl=>by
  simp only[leTags,zD] at hl
  obtain ⟨h1,h2⟩:=leTags_get hl.2
  refine ⟨by simp[h1],fun o u hu=> ?_⟩
  cases o with
  |zero=>simp at hu;subst hu;exact ⟨t,by simp,hl.1⟩
  |succ o=>simpa using h2 o u (by simpa using hu)
theorem le_cells {s:Nat} {ts ts':List Tag} {vs:List Value} (hle:leTags g h ts ts'=true) (hc:CellsOk k g m s ts vs):CellsOk k h m s ts' vs:=by
 obtain ⟨h1,h2⟩:=leTags_get hle
 refine ⟨by rw[hc.1,h1],by rw[hc.2.1,h1],hc.2.2.1,fun o t d v a1 a2 a3=> ?_⟩
 obtain ⟨t0,b1,b2⟩:=h2 o t a1
 exact le_cell b2 (hc.2.2.2 o t0 d v b1 a2 a3)
theorem le_ent {s:Nat} {e e':Ent} (hle:leEnt g h e e'=true) (hE:EntOk k g m s e):EntOk k h m s e':=by
 cases e' with
 |none=>trivial
 |val sh' ts'=>
  cases e<;>simp[leEnt] at hle
  rename_i sh ts
  obtain ⟨rfl,hle⟩:=hle
  exact hE.imp id fun ⟨vs,h1,h2⟩=>⟨vs,h1,le_cells hle h2⟩
 |box ty' ts'=>
  cases e<;>simp[leEnt] at hle
  rename_i ty ts
  obtain ⟨rfl,hle⟩:=hle
  exact hE.imp id fun ⟨b,cs,h1,h2,h3,h4⟩=>⟨b,cs,h1,h2,h3,le_cells hle h4⟩
 |ptr b' v' off'=>
  cases e<;>simp[leEnt] at hle
  obtain ⟨⟨rfl,rfl⟩,hv⟩:=hle
  exact hE.imp id fun hp _=>hp hv
 |eptr s' o' v' w' i' iv' off' sz'=>
  cases e<;>simp[leEnt] at hle
  obtain ⟨⟨⟨⟨⟨⟨⟨⟨rfl,rfl⟩,rfl⟩,rfl⟩,rfl⟩,hcur⟩,hi⟩,hw⟩,hsc⟩:=hle
  refine hE.imp id fun hp _ _=> ?_
  obtain ⟨d0,v0,ix,rows,b,off1,len,cap,n,h1,h2,h3⟩:=hp hcur hi
  exact ⟨d0,v0,ix,rows,b,off1,len,cap,n,by rw[root_le hsc];exact h1,by rw[← hw];exact h2,h3⟩
 |rptr qs off'=>
  cases e<;>simp[leEnt] at hle
  rename_i rs off
  obtain ⟨rfl,hR⟩:=hle
  refine hE.imp id fun hp _=> ?_
  obtain ⟨b,o0,cs,ty,fr,h1,h2,h3,h4,h5⟩:=hp (leR_mem hR).1
  exact ⟨b,o0,cs,ty,fr,h1,h2,deepOk_le hR h3,h4,fun o d hd=>O.frame (h5 o d hd) fun π b' hb=>⟨rfl,deepOk_le hR hb⟩⟩
 |map=>cases e<;>simp[leEnt] at hle;exact hE
 |mal s' v'=>
  cases e<;>simp[leEnt] at hle
  obtain ⟨rfl,hv⟩:=hle
  exact hE.imp id fun hp _=>hp hv
theorem leZ_ok {g h:G}:∀{as bs:G},leZ g h as bs=true→as.length=bs.length→∀s,s<bs.length→leEnt g h (G.ent as s) (G.ent bs s)=true∧wfEnt h (G.ent bs s)=true
 | [],[],_,_,s,hs=>absurd hs (Nat.not_lt_zero _)
 |a::as,b::bs,hz,hl,s,hs=>by
  rw[leZ,zD,zD] at hz
  cases s with
  |zero=>exact hz.1
  |succ s=>exact leZ_ok (as:=as) (bs:=bs) hz.2 (by simpa using hl) s (by simpa using hs)
theorem leG_ok (hr:Rel k g m) (hle:leG g h=true):∃col',Rel k h ⟨m.σ,m.c,m.h,col'⟩∧h.length=g.length:=by
 obtain ⟨col',S⟩:=staysAt_step (lowG 0 g h) hr
 have hr1:=S.rel hr
 unfold leG at hle
 simp only[zD,beq_iff_eq] at hle
 obtain ⟨hlen,hall⟩:=hle
 replace hall:=leZ_ok hall hlen
 have out:∀s,h.length≤s→h.ent s= .none:=fun s hs=>by unfold G.ent;rw[at_out hs]
 refine ⟨col',⟨by rw[← hlen];exact hr1.small,hr1.mem,fun s=> ?_,fun s=> ?_⟩,by rw[← hlen,S.len]⟩
 ·by_cases hs:s<h.length
  ·exact wfEnt_ok (hall s hs).2
  ·rw[out s (by omega)];trivial
 ·by_cases hs:s<h.length
  ·exact le_ent (hall s hs).1 (hr1.ent s)
  ·rw[out s (by omega)];trivial
end
def At (cx:Cx) (k:K) (A:Nat→Value) (g:G) (σ:St) (w0:World) (a:Act) (w:World):Prop:=
 ∃m,Rel k g m∧g.length=cx.base+61∧w.heap=m.h∧m.σ=σ∧Fr cx.base a m.c∧Wd w0 w∧∀d,protB cx.sg.params d=true→a.tmps.getD d undef=A d
def Post (cx:Cx) (k:K) (A:Nat→Value) (env:Env) (x:CR) (out:Out) (σ':St) (w0:World):Exit→Act→World→Prop
 | .normal,a,w=>out= .norm∧∃g,x.norm=some g∧At cx k A g σ' w0 a w
 | .exit id,a,w=>out= .exit id∧∃g,(id,g)∈x.exits∧At cx k A g σ' w0 a w
 | .ret,a,w=>out= .ret∧∃g∈x.rets,∃σr is,At cx k A g σr w0 a w∧retOps cx g=some is∧evIs env is σr=some σ'
 |_,_,_=>False
theorem least {p:Nat→Prop} (h:∃n,p n):∃n,p n∧∀m,p m→n≤m:=by
 obtain ⟨n,hn⟩:=h
 induction n using Nat.strongRecOn with
 |_ n ih=>
  by_cases hm:∃m,m<n∧p m
  ·obtain ⟨m,h1,h2⟩:=hm
   exact ih m h1 h2
  ·exact ⟨n,hn,fun m hp=>Nat.le_of_not_lt fun hl=>hm ⟨m,hl,hp⟩⟩
open Classical in
theorem wp_loop_n {P:Program} {Q:Exit→Act→World→Prop} {c:Code} (I:Nat→Act→World→Prop) {n:Nat} {a:Act} {w:World} (h0:I n a w)
  (round:∀n a w,I n a w→c.wp P (Exit.then (fun a' w'=>∃n',n'<n∧I n' a' w') Q) a w):(Code.loop c).wp P Q a w:=by
 let μ:Act→World→Nat:=fun a w=>if h:∃n,I n a w then Classical.choose (least h) else 0
 have hμ:∀a w,(∃n,I n a w)→I (μ a w) a w∧∀m,I m a w→μ a w≤m:=fun a w h=>by
  have:=Classical.choose_spec (least h)
  simp only[μ,dif_pos h]
  exact this
 refine wp_loop (fun a w=>∃n,I n a w) μ ⟨n,h0⟩ fun a w hI=> ?_
 obtain ⟨h1,_⟩:=hμ a w hI
 refine wp_mono (round _ a w h1) fun e a' w' hq=> ?_
 cases e with
 |normal=>
  obtain ⟨n',h2,h3⟩:=hq
  exact ⟨⟨n',h3⟩,Nat.lt_of_le_of_lt ((hμ a' w' ⟨n',h3⟩).2 n' h3) h2⟩
 |_=>exact hq
section
variable {cx:Cx} {k:K} {A:Nat→Value} {env:Env} {w0:World}
theorem At.le {g h:G} {σ:St} {a:Act} {w:World} (hA:At cx k A g σ w0 a w) (hle:leG g h=true):At cx k A h σ w0 a w:=by
 obtain ⟨m,h1,h2,h3,h4,h5,h6,h7⟩:=hA
 obtain ⟨col',r1,r2⟩:=leG_ok h1 hle
 exact ⟨_,r1,by rw[r2,h2],h3,h4,h5,h6,h7⟩
theorem joins_none:∀{l:List G},joins l=none→l=[]
 | [],_=>rfl
 | [g],h=>by simp[joins] at h
 |g::g'::l,h=>by
  simp only[joins,Option.map_eq_none_iff] at h
  have:=joins_none (l:=g'::l) h
  cases this
def DrawsOk (cx:Cx) (k:K) (A:Nat→Value) (env:Env):Prop:=∀(id:Nat) (ops:Array Oper) (share take:Bool) (g:G) (x:List LI×G) (σ σ':St) (w0:World) (a:Act) (w:World) (Q:Exit→Act→World→Prop),
 noSel ops.toList=true→ops.size≤200→compD cx ops.toList share take ops.toList.length [] [] [] g=some x→evLs env x.1 σ=some σ'→At cx k A g σ w0 a w→(∀a' w',At cx k A x.2 σ' w0 a' w'→Q .normal a' w')→(∀c a w,¬ Q (.panic c) a w)→(Code.region id ops true).wp cx.P Q a w
theorem iter_succ {f:St→Option (Out×St)} {n:Nat} {σ:St} {out:Out} {σ':St} (h:iter f n σ=some (out,σ')):∃n',n=n'+1∧((∃σ1,f σ=some (.norm,σ1)∧iter f n' σ1=some (out,σ'))∨(out≠ .norm∧f σ=some (out,σ'))):=by
 cases n with
 |zero=>simp[iter] at h
 |succ n'=>
  refine ⟨n',rfl,?_⟩
  rw[iter] at h
  split at h
  ·rename_i σ1 e
   exact .inl ⟨σ1,e,h⟩
  ·rename_i hne
   exact .inr ⟨fun e=>hne σ' (by rw[h,e]),h⟩
theorem fix_ok {f:G→Option CR} {g:G}:∀{n:Nat} {h:G} {x:CR},fixLoop f g n h=some x→∃h0 y,f h0=some y∧leG g h0=true∧(∀e,y.norm=some e→leG e h0=true)∧x=⟨.loop y.l,none,y.exits,y.rets⟩
 |0,_,_,hf=>by simp[fixLoop] at hf
 |n+1,h,x,hf=>by
  rw[fixLoop] at hf
  split at hf
  ·cases hf
  ·rename_i y hy
   split at hf
   ·rename_i hnone
    split at hf
    ·rename_i hle
     cases hf
     exact ⟨h,y,hy,hle,fun e he=>(by rw[hnone] at he;cases he),rfl⟩
    ·cases hf
   ·rename_i e hsome
    split at hf
    ·rename_i hle
     cases hf
     rw[zD] at hle
     exact ⟨h,y,hy,hle.1,fun e' he=>(by rw[hsome] at he;cases he;exact hle.2),rfl⟩
    ·exact fix_ok hf
theorem meet_ok {p q n:Option G} (h:meet p q=some n):(∀g,p=some g→∃j,n=some j∧(g=j∨leG g j=true))∧(∀g,q=some g→∃j,n=some j∧(g=j∨leG g j=true)):=by
 unfold meet at h
 split at h
 ·cases h
  exact ⟨fun g hg=>(by cases hg),fun g hg=>⟨g,hg, .inl rfl⟩⟩
 ·cases h
  exact ⟨fun g hg=>⟨g,hg, .inl rfl⟩,fun g hg=>(by cases hg)⟩
 ·simp only at h
  split at h
  ·rename_i hle
   cases h
   rw[zD] at hle
   exact ⟨fun g hg=>(by cases hg;exact ⟨_,rfl, .inr hle.1⟩),fun g hg=>(by cases hg;exact ⟨_,rfl, .inr hle.2⟩)⟩
  ·cases h
theorem At.le' {g h:G} {σ:St} {a:Act} {w:World} (hA:At cx k A g σ w0 a w) (hle:g=h∨leG g h=true):At cx k A h σ w0 a w:=by
 rcases hle with rfl|hle
 ·exact hA
 ·exact hA.le hle
theorem comp_wp (hE:EnvOk cx k env) (hpar:cx.base<PAR) (hD:DrawsOk cx k A env) (n:Nat):∀(c:Code) (g:G) (x:CR) (σ:St) (out:Out) (σ':St) (a:Act) (w:World),
  compC cx c g=some x→L.ev env n x.l σ=some (out,σ')→At cx k A g σ w0 a w→c.wp cx.P (Post cx k A env x out σ' w0) a w
 | .skip,g,x,σ,out,σ',a,w,hc,he,hA=>by
  cases hc
  cases he
  exact wp_skip ⟨rfl,g,rfl,hA⟩
 | .region id ops draws,g,x,σ,out,σ',a,w,hc,he,hA=>by
  rw[compC] at hc
  cases draws with
  |true=>
   simp only[if_true,guardO_some,zD,decide_eq_true_eq,zC] at hc
   obtain ⟨⟨hns,hsz⟩,y,hy,rfl⟩:=hc
   simp only[L.ev,zC] at he
   obtain ⟨σ2,he,h2⟩:=he
   cases h2
   exact hD id ops _ _ g y σ σ' w0 a w _ hns hsz hy he hA (fun a' w' h'=>⟨rfl,_,rfl,h'⟩) (fun c a w h=>h)
  |false=>
   simp only[Bool.false_eq_true,if_false,zC] at hc
   obtain ⟨y,hy,rfl⟩:=hc
   simp only[L.ev,zC] at he
   obtain ⟨σ2,he,h2⟩:=he
   cases h2
   obtain ⟨m,h1,h2,h3,rfl,h5,h6,h7⟩:=hA
   refine wp_region ?_
   have:=ops_wp (ops:=ops.toList) (Q:=Post cx k A env ⟨.ops y.1,some y.2.1,[],[]⟩ .norm σ' w0) hE hpar ops.toList (List.range ops.size) [] g m a w y σ' h1 h2 hy he h5 h3 (fun d hd=>by cases hd) (by simp) (fun p i z a1 a2=>by
    have hp:p<ops.size:=by simpa using (zE.1 a2).1
    rw[List.getElem?_range hp] at a1
    cases a1
    exact a2) (fun a' w' m' b1 b2 b3 b4 b6 b5=>⟨rfl,_,rfl,m',b5.rel h1,by rw[b5.len,h2],b2,b3,b4,h6.trans b1,fun d hd=>by rw[b6 d hd,h7 d hd]⟩)
   exact this
 | .seq c1 c2,g,x,σ,out,σ',a,w,hc,he,hA=>by
  rw[compC] at hc
  split at hc
  ·cases hc
  ·rename_i y hy
   split at hc
   ·rename_i hnone
    cases hc
    refine wp_seq (wp_mono (comp_wp hE hpar hD n c1 g x σ out σ' a w hy he hA) fun e a' w' hq=> ?_)
    cases e with
    |normal=>obtain ⟨_,g',h1,_⟩:=hq;rw[hnone] at h1;cases h1
    |_=>exact hq
   ·rename_i g1 hg1
    split at hc
    ·cases hc
    ·rename_i z hz
     cases hc
     simp only[L.ev] at he
     split at he
     ·rename_i σ1 e1
      refine wp_seq (wp_mono (comp_wp hE hpar hD n c1 g y σ .norm σ1 a w hy e1 hA) fun e a' w' hq=> ?_)
      cases e with
      |normal=>
       obtain ⟨_,g',h1,h2⟩:=hq
       rw[hg1] at h1
       cases h1
       refine wp_mono (comp_wp hE hpar hD n c2 g1 z σ1 out σ' a' w' hz he h2) fun e a' w' hq=> ?_
       cases e with
       |normal=>exact hq
       |exit id=>obtain ⟨h1,g',h2,h3⟩:=hq;exact ⟨h1,g',zQ _ h2,h3⟩
       |ret=>obtain ⟨h1,g',h2,h3⟩:=hq;exact ⟨h1,g',zQ _ h2,h3⟩
       |_=>exact hq
      |exit id=>exact absurd hq.1 (by simp)
      |ret=>exact absurd hq.1 (by simp)
      |_=>exact hq
     ·rename_i hne
      have hne':out≠ .norm:=fun e=>hne σ' (by rw[he,e])
      refine wp_seq (wp_mono (comp_wp hE hpar hD n c1 g y σ out σ' a w hy he hA) fun e a' w' hq=> ?_)
      cases e with
      |normal=>exact absurd hq.1 hne'
      |exit id=>obtain ⟨h1,g',h2,h3⟩:=hq;exact ⟨h1,g',List.mem_append_left _ h2,h3⟩
      |ret=>obtain ⟨h1,g',h2,h3⟩:=hq;exact ⟨h1,g',List.mem_append_left _ h2,h3⟩
      |_=>exact hq
 | .cond c c1 c2,g,x,σ,out,σ',a,w,hc,he,hA=>by
  rw[compC] at hc
  split at hc
  ·rename_i s y z hs hy hz
   split at hc
   ·rename_i nn hm
    split at hc
    ·rename_i hop
     cases hc
     obtain ⟨m,h1,h2,h3,rfl,h5,h6,h7⟩:=hA
     obtain ⟨hp,hq'⟩:=meet_ok hm
     simp only[L.ev] at he
     have hval:∀b,s.ev m.σ=some (.bool b)→a.eval c= .bool b:=fun b hb=>by
      rw[h5.eval hop]
      exact flat_bool ((scSrc_ok h1 hs hb).2 m.h (fun _ _=>True))
     split at he
     ·rename_i hb
      refine wp_cond_true (hval true hb) (wp_mono (comp_wp hE hpar hD n c1 g y m.σ out σ' a w hy he ⟨m,h1,h2,h3,rfl,h5,h6,h7⟩) fun e a' w' hq=> ?_)
      cases e with
      |normal=>
       obtain ⟨e1,g',e2,e3⟩:=hq
       obtain ⟨j,j1,j2⟩:=hp g' e2
       exact ⟨e1,j,j1,e3.le' j2⟩
      |exit id=>obtain ⟨h1,g',h2,h3⟩:=hq;exact ⟨h1,g',List.mem_append_left _ h2,h3⟩
      |ret=>obtain ⟨h1,g',h2,h3⟩:=hq;exact ⟨h1,g',List.mem_append_left _ h2,h3⟩
      |_=>exact hq
     ·rename_i hb
      refine wp_cond_false (hval false hb) (wp_mono (comp_wp hE hpar hD n c2 g z m.σ out σ' a w hz he ⟨m,h1,h2,h3,rfl,h5,h6,h7⟩) fun e a' w' hq=> ?_)
      cases e with
      |normal=>
       obtain ⟨e1,g',e2,e3⟩:=hq
       obtain ⟨j,j1,j2⟩:=hq' g' e2
       exact ⟨e1,j,j1,e3.le' j2⟩
      |exit id=>obtain ⟨h1,g',h2,h3⟩:=hq;exact ⟨h1,g',zQ _ h2,h3⟩
      |ret=>obtain ⟨h1,g',h2,h3⟩:=hq;exact ⟨h1,g',zQ _ h2,h3⟩
      |_=>exact hq
     ·cases he
    ·cases hc
   ·cases hc
  ·cases hc
 | .block id c1,g,x,σ,out,σ',a,w,hc,he,hA=>by
  rw[compC] at hc
  split at hc
  ·cases hc
  ·rename_i y hy
   have key:∀(l:L) (nrm:Option G),x=⟨.block id y.l,nrm,y.exits.filter (·.1 !=id),y.rets⟩→(∀g'∈y.norm.toList++(y.exits.filter (·.1==id)).map (·.2),∃j,nrm=some j∧leG g' j=true)→(Code.block id c1).wp cx.P (Post cx k A env x out σ' w0) a w:=fun _ nrm hx hj=>by
    subst hx
    simp only[L.ev] at he
    have exits:∀{i:Nat} {a':Act} {w':World},i≠id→∀g',(i,g')∈y.exits→(i,g')∈y.exits.filter (·.1 !=id):=fun hi g' hg'=>by
     rw[List.mem_filter];exact ⟨hg',by simpa using hi⟩
    split at he
    ·rename_i i σ1 e1
     refine wp_block (wp_mono (comp_wp hE hpar hD n c1 g y σ (.exit i) σ1 a w hy e1 hA) fun e a' w' hq=> ?_)
     cases e with
     |normal=>exact absurd hq.1 (by simp)
     |exit i'=>
      obtain ⟨h1,g',h2,h3⟩:=hq
      cases h1
      simp only[Exit.inBlock]
      split at he
      ·rename_i hi
       cases he
       rw[if_pos hi]
       obtain ⟨j,j1,j2⟩:=hj g' (zQ _ (List.mem_map.2 ⟨(i,g'),by rw[List.mem_filter];exact ⟨h2,by simpa using hi⟩,rfl⟩))
       exact ⟨rfl,j,j1,h3.le j2⟩
      ·rename_i hi
       cases he
       rw[if_neg hi]
       exact ⟨rfl,g',exits (a':=a') (w':=w') hi g' h2,h3⟩
     |ret=>exact absurd hq.1 (by simp)
     |_=>exact hq
    ·rename_i hne
     refine wp_block (wp_mono (comp_wp hE hpar hD n c1 g y σ out σ' a w hy he hA) fun e a' w' hq=> ?_)
     cases e with
     |normal=>
      obtain ⟨h1,g',h2,h3⟩:=hq
      obtain ⟨j,j1,j2⟩:=hj g' (List.mem_append_left _ (by rw[h2];simp))
      exact ⟨h1,j,j1,h3.le j2⟩
     |exit i'=>
      obtain ⟨h1,_⟩:=hq
      exact absurd he (by rw[h1];exact hne i' σ')
     |ret=>exact hq
     |_=>exact hq
   simp only at hc
   split at hc
   ·rename_i hnone
    cases hc
    have:=joins_none hnone
    exact key y.l none rfl fun g' hg'=>by rw[this] at hg';cases hg'
   ·rename_i j hj
    split at hc
    ·rename_i hall
     cases hc
     exact key y.l (some j) rfl fun g' hg'=>⟨j,rfl,zL.1 hall g' hg'⟩
    ·cases hc
 | .loop c1,g,x,σ,out,σ',a,w,hc,he,hA=>by
  rw[compC] at hc
  obtain ⟨h0,y,hy,hle,hnl,rfl⟩:=fix_ok hc
  simp only[L.ev] at he
  refine wp_loop_n (fun nn a w=>∃σ,At cx k A h0 σ w0 a w∧iter (L.ev env n y.l) nn σ=some (out,σ')) ⟨σ,hA.le hle,he⟩ fun nn a w hI=> ?_
  obtain ⟨σ,hA,he⟩:=hI
  obtain ⟨n',rfl,hh⟩:=iter_succ he
  rcases hh with ⟨σ1,e1,e2⟩|⟨e1,e2⟩
  ·refine wp_mono (comp_wp hE hpar hD n c1 h0 y σ .norm σ1 a w hy e1 hA) fun e a' w' hq=> ?_
   cases e with
   |normal=>
    obtain ⟨_,g',h1,h2⟩:=hq
    exact ⟨n',by omega,σ1,h2.le (hnl g' h1),e2⟩
   |exit id=>exact absurd hq.1 (by simp)
   |ret=>exact absurd hq.1 (by simp)
   |_=>exact hq
  ·refine wp_mono (comp_wp hE hpar hD n c1 h0 y σ out σ' a w hy e2 hA) fun e a' w' hq=> ?_
   cases e with
   |normal=>exact absurd hq.1 e1
   |_=>exact hq
 | .exit id,g,x,σ,out,σ',a,w,hc,he,hA=>by
  cases hc
  cases he
  exact wp_exit ⟨rfl,g,by simp,hA⟩
 | .ret,g,x,σ,out,σ',a,w,hc,he,hA=>by
  simp only[compC,zC] at hc
  obtain ⟨is,h1,rfl⟩:=hc
  simp only[L.ev,evLs,LI.ev,LI.run] at he
  cases h2:evIs env is σ with
  |none=>rw[h2] at he;simp at he
  |some σ1=>
   rw[h2] at he
   simp[LI.nbOk] at he
   obtain ⟨rfl,rfl⟩:=he
   exact wp_ret ⟨rfl,g,by simp,σ,is,hA,h1,h2⟩
 | .label _,g,x,σ,out,σ',a,w,hc,_,_=>by simp[compC] at hc
 | .goto _,g,x,σ,out,σ',a,w,hc,_,_=>by simp[compC] at hc
 | .rangeFunc ..,g,x,σ,out,σ',a,w,hc,_,_=>by simp[compC] at hc
 | .scope _,g,x,σ,out,σ',a,w,hc,_,_=>by simp[compC] at hc
 | .refuse _,g,x,σ,out,σ',a,w,hc,_,_=>by simp[compC] at hc
end
structure Fin where
 kA:Nat→Nat→Nat→Bool
 kB:Nat→Bool
 kL:Nat→Nat→Bool
 ren:Nat→Nat
def finCol (F:Fin) (col:Nat→Color):Nat→Color:=fun b=>
 match col b with
 | .arr s o π=>if F.kA s o π.length=true then .arr (F.ren s) o π else .stable
 | .box s=>if F.kB s=true then .box (F.ren s) else .stable
 | .lim u π=>if F.kL u π.length=true then .lim u π else .stable
 | .free=> .free
 |_=> .stable
section
variable {k:K} {g:G} {m:M} {F:Fin}
theorem finCol_free {b:Nat}:finCol F m.col b= .free↔m.col b= .free:=by
 unfold finCol
 cases e:m.col b<;>simp
 all_goals split<;>simp
theorem finCol_arr {b s o:Nat} {π:List (Nat×Nat)} (h:m.col b= .arr s o π):finCol F m.col b=if F.kA s o π.length=true then .arr (F.ren s) o π else .stable:=by
 unfold finCol;rw[h]
theorem finCol_lim {b u:Nat} {π:List (Nat×Nat)} (h:m.col b= .lim u π):finCol F m.col b=if F.kL u π.length=true then .lim u π else .stable:=by
 unfold finCol;rw[h]
theorem finCol_stable {b:Nat} (h:m.col b= .stable):finCol F m.col b= .stable:=by
 unfold finCol;rw[h]
theorem fin_mem (hm:Mem k m) (hren:∀s o n,F.kA s o n=true→F.ren s<PAR):Mem k ⟨fun _=>[],fun _=>undef,m.h,finCol F m.col⟩:=by
 refine ⟨hm.size,fun b=>by rw[show (⟨fun _=>[],fun _=>undef,m.h,finCol F m.col⟩:M).col b=finCol F m.col b from rfl,finCol_free];exact hm.free b,fun b s hb=> ?_,fun b s o π hb=> ?_,fun b u π hb=> ?_,fun b s hb=> ?_,fun b hb=> ?_⟩
 ·change (finCol F m.col b).own=some s at hb
  cases e:m.col b with
  |free=>rw[finCol_free.2 e] at hb;cases hb
  |stable=>rw[finCol_stable e] at hb;cases hb
  |_=>exact hm.fresh b _ (by rw[e];rfl)
 ·change finCol F m.col b=_ at hb
  unfold finCol at hb
  split at hb
  ·rename_i s' o' π' e
   split at hb
   ·rename_i hk
    cases hb
    exact ⟨hren _ _ _ hk,(hm.arr b s' o π e).2⟩
   ·cases hb
  ·split at hb<;>cases hb
  ·split at hb<;>cases hb
  ·cases hb
  ·cases hb
 ·change finCol F m.col b=_ at hb
  unfold finCol at hb
  split at hb
  ·split at hb<;>cases hb
  ·split at hb<;>cases hb
  ·rename_i e
   split at hb
   ·cases hb;exact hm.lm b u π e
   ·cases hb
  ·cases hb
  ·cases hb
 ·change finCol F m.col b=_ at hb
  unfold finCol at hb
  split at hb
  ·split at hb<;>cases hb
  ·rename_i e
   split at hb
   ·cases hb;exact hm.bx b _ e
   ·cases hb
  ·split at hb<;>cases hb
  ·cases hb
  ·cases hb
 ·exact ⟨(hm.kept b hb).1,finCol_stable (hm.kept b hb).2⟩
theorem fin_deep (hm:Mem k m) {kp:Nat×Nat×Nat→Bool} (hkp:∀s o n v,F.kA s o n=true→kp (s,o,v)=true) {rs:Rts} {js:List Nat} (hrs:∀r∈rs,okRoot kp js r=true) {b:Nat} (h:deepOk k m.col rs b):
  deepOk k (finCol F m.col) (jsR js) b:=by
 rcases h with ⟨h1,h2⟩|⟨r,h1,π,h2⟩
 ·refine .inl ⟨finCol_stable h1,h2.imp id fun ⟨r,h3,j,h4,h5⟩=> ?_⟩
  have:=hrs r h3
  unfold okRoot at this
  simp only[Bool.or_eq_true,zD,decide_eq_true_eq,List.contains_eq_mem] at this
  rcases this with ⟨a1,_⟩|⟨_,a2⟩
  ·omega
  ·have e:r.1-PAR=j:=by omega
   rw[e] at a2
   exact ⟨(PAR+j,0,0),List.mem_map.2 ⟨j,by simpa using a2,rfl⟩,j,rfl,h5⟩
 ·have hlow:=(hm.arr b _ _ _ h2).1
  have:=hrs r h1
  unfold okRoot at this
  simp only[Bool.or_eq_true,zD,decide_eq_true_eq,Bool.not_eq_true'] at this
  rcases this with ⟨_,a2⟩|⟨a1,_⟩
  ·refine .inl ⟨?_, .inl (hm.fresh b _ (by rw[h2];rfl))⟩
   rw[finCol_arr h2]
   split
   ·rename_i hk
    have:=hkp _ _ _ r.2.2 hk
    rw[a2] at this
    cases this
   ·rfl
  ·omega
theorem fin_gd (hm:Mem k m) {kp:Nat×Nat×Nat→Bool} (hkp:∀s o n v,F.kA s o n=true→kp (s,o,v)=true) {s o n n':Nat} {rs:Rts} {js:List Nat} (hn:n≤n') (hrs:rcRoots kp n js rs=true) (hF:∀l,F.kA s o l=owns n l) {d:D} {v:Value}
  (h:O m.h (gd k m.col s o n' rs) d v):O m.h (gd k (finCol F m.col) (F.ren s) o n (jsR js)) d v:=by
 refine O.frame h fun π b hb=>⟨rfl,?_⟩
 unfold gd at hb ⊢
 by_cases o1:owns n π.length=true
 ·rw[if_pos o1]
  rw[if_pos (owns_le hn o1)] at hb
  rw[finCol_arr hb,hF,if_pos o1]
 ·rw[if_neg o1]
  have hnd:isDeep n=false:=by
   cases e:isDeep n with
   |false=>rfl
   |true=>exact absurd (deep_owns e) o1
  by_cases o2:owns n' π.length=true
  ·rw[if_pos o2] at hb
   refine .inl ⟨?_, .inl (hm.fresh b _ (by rw[hb];rfl))⟩
   rw[finCol_arr hb,hF,if_neg o1]
  ·rw[if_neg o2] at hb
   unfold rcRoots at hrs
   rw[hnd,Bool.false_or,zL] at hrs
   exact fin_deep hm hkp hrs hb
theorem fin_gl (hm:Mem k m) {kp:Nat×Nat×Nat→Bool} (hkp:∀s o n v,F.kA s o n=true→kp (s,o,v)=true) {u n n':Nat} {rs:Rts} {js:List Nat} (hn:n≤n') (hrs:rcRoots kp n js rs=true) (hF:∀l,F.kL u l=owns n l) {d:D} {v:Value}
  (h:Held k m u n' rs d v):O m.h (gl k (finCol F m.col) u n (jsR js)) d v:=by
 refine O.frame h fun π b hb=>⟨rfl,?_⟩
 unfold gl at hb ⊢
 by_cases o1:owns n π.length=true
 ·rw[if_pos o1]
  rw[if_pos (owns_le hn o1)] at hb
  rw[finCol_lim hb,hF,if_pos o1]
 ·rw[if_neg o1]
  have hnd:isDeep n=false:=by
   cases e:isDeep n with
   |false=>rfl
   |true=>exact absurd (deep_owns e) o1
  by_cases o2:owns n' π.length=true
  ·rw[if_pos o2] at hb
   refine .inl ⟨?_, .inl (hm.fresh b _ (by rw[hb];rfl))⟩
   rw[finCol_lim hb,hF,if_neg o1]
  ·rw[if_neg o2] at hb
   unfold rcRoots at hrs
   rw[hnd,Bool.false_or,zL] at hrs
   exact fin_deep hm hkp hrs hb
def rcN:RC→Nat
 |some (n,_)=>n
 |none=>0
theorem fin_tag (hm:Mem k m) {kp:Nat×Nat×Nat→Bool} (hkp:∀s o n v,F.kA s o n=true→kp (s,o,v)=true) {s o:Nat} {t:Tag} {rc:RC} (ht:tagRc kp g t rc=true) (hF:∀l,F.kA s o l=owns (rcN rc) l) {d:D} {v:Value}
  (h:CellOk k g m s o d v t):OutOk m.h (gd k (finCol F m.col) (F.ren s) o) d v rc:=by
 cases rc with
 |none=>cases t<;>simp[tagRc] at ht;exact h
 |some z=>
  obtain ⟨n,js⟩:=z
  cases t<;>simp[tagRc] at ht
  rename_i n' rs
  exact ⟨h.1,fin_gd hm hkp ht.1.1 ht.2 hF (h.2 ht.1.2)⟩
theorem tagRcs_get {kp:Nat×Nat×Nat→Bool}:∀{ts:List Tag} {rcs:List RC},tagRcs kp g ts rcs=true→ts.length=rcs.length∧∀(o:Nat) (rc:RC),rcs[o]? =some rc→∃t,ts[o]? =some t∧tagRc kp g t rc=true
 | [],[],_=>⟨rfl,fun o t' h=>by simp at h⟩
 | [],_::_,h=>by simp[tagRcs] at h
 |_::_,[],h=>by simp[tagRcs] at h
 |t::ts,t'::ts',hl=>by
  simp only[tagRcs,zD] at hl
  obtain ⟨h1,h2⟩:=tagRcs_get hl.2
  refine ⟨by simp[h1],fun o u hu=> ?_⟩
  cases o with
  |zero=>simp at hu;subst hu;exact ⟨t,by simp,hl.1⟩
  |succ o=>simpa using h2 o u (by simpa using hu)
theorem fin_cells (hm:Mem k m) {kp:Nat×Nat×Nat→Bool} (hkp:∀s o n v,F.kA s o n=true→kp (s,o,v)=true) {s:Nat} {ts:List Tag} {rcs:List RC} (ht:tagRcs kp g ts rcs=true) (hF:∀o rc,rcs[o]? =some rc→∀l,F.kA s o l=owns (rcN rc) l) {vs:List Value}
  (h:CellsOk k g m s ts vs):CellsOut m.h (fun o=>gd k (finCol F m.col) (F.ren s) o) rcs (m.σ s) vs:=by
 obtain ⟨h1,h2⟩:=tagRcs_get ht
 refine ⟨by rw[h.1,h1],by rw[h.2.1,h1],h.2.2.1,fun o rc d x a1 a2 a3=> ?_⟩
 obtain ⟨t,b1,b2⟩:=h2 o rc a1
 exact fin_tag hm hkp b2 (hF o rc a1) (h.2.2.2 o t d x b1 a2 a3)
def mutCells:List D→List PC→List D
 |d::ds,c::cs=>match c.out with
  |none=>mutCells ds cs
  |some _=>d::mutCells ds cs
 |_,_=>[]
def parOuts (σ:St):Nat→List PSig→List (List D)
 |_,[]=>[]
 |i, .v cs::ps=>if cs.all (fun c=>c.out.isNone) then parOuts σ (i+1) ps else mutCells (σ i) cs::parOuts σ (i+1) ps
 |i, .bx _ _ _::ps=>σ i::parOuts σ (i+1) ps
def parsHere (σ:St):Nat→List PSig→Bool
 |_,[]=>true
 |i, .v cs::ps=>(cs.all (fun c=>c.out.isNone)|| !(σ i).isEmpty)&&parsHere σ (i+1) ps
 |i, .bx _ _ _::ps=> !(σ i).isEmpty&&parsHere σ (i+1) ps
def parN (ps:List PSig) (s o:Nat):Nat:=match ps[s]? with
 |some (.bx _ _ ts)=>(match ts[o]? with|some rc=>rcN rc|none=>0)
 |some (.v cs)=>(match cs[o]? with|some c=>rcN c.out|none=>0)
 |none=>0
theorem mut_fin (hm:Mem k m) {kp:Nat×Nat×Nat→Bool} (hkp:∀s o n v,F.kA s o n=true→kp (s,o,v)=true) {i:Nat} (hren:F.ren i=i):∀{cs:List PC} {ts:List Tag} {q:Nat} {ds:List D} {vs:List Value},mutRcs kp g ts cs=true→ds.length=ts.length→vs.length=ts.length→
  (∀(o:Nat) (t:Tag) (d:D) (x:Value),ts[o]? =some t→ds[o]? =some d→vs[o]? =some x→CellOk k g m i (q+o) d x t)→(∀(o:Nat) (c:PC),cs[o]? =some c→∀l,F.kA i (q+o) l=owns (rcN c.out) l)→
  MutsOut k m.h (finCol F m.col) i q cs vs (mutCells ds cs)
 | [],[],q,ds,vs,_,h1,h2,_,_=>by
  cases vs with
  |cons=>simp at h2
  |nil=>cases ds<;>rfl
 | [],_::_,_,_,_,h,_,_,_,_=>by simp[mutRcs] at h
 |_::_,[],_,_,_,h,_,_,_,_=>by simp[mutRcs] at h
 |c::cs,t::ts,q,[],_,_,h1,_,_,_=>by simp at h1
 |c::cs,t::ts,q,_::_,[],_,_,h2,_,_=>by simp at h2
 |c::cs,t::ts,q,d::ds,v::vs,h,h1,h2,hc,hF=>by
  simp only[mutRcs,zD] at h
  simp at h1 h2
  have hrec:=mut_fin hm hkp hren (q:=q+1) h.2 h1 h2 (fun o t' d' x a1 a2 a3=>by have:=hc (o+1) t' d' x (by simpa using a1) (by simpa using a2) (by simpa using a3);rwa [show q+1+o=q+(o+1) by omega]) (fun o c' a1 l=>by
   have:=hF (o+1) c' (by simpa using a1) l;rwa [show q+1+o=q+(o+1) by omega])
  unfold MutsOut mutCells
  cases ho:c.out with
  |none=>exact hrec
  |some rc=>
   rw[ho] at h
   simp only at h
   refine ⟨d,_,rfl,?_,hrec⟩
   have:=fin_tag (rc:=some rc) hm hkp h.1 (s:=i) (o:=q) (fun l=>by have:=hF 0 c (by simp) l;rw[ho] at this;exact this) (hc 0 t d v (by simp) (by simp) (by simp))
   rw[hren] at this
   exact this
theorem pars_fin (hr:Rel k g m) {P:Program} {kp:Nat×Nat×Nat→Bool} (hkp:∀s o n v,F.kA s o n=true→kp (s,o,v)=true) {tys:List TypeId}:∀{ps:List PSig} {i:Nat} {shs:List Bool} {args:List Value},retPars P tys kp g i ps=true→parsHere m.σ i ps=true→
  shs=(tys.drop i).map (isAggB P)→args.length=ps.length→tys.length=i+ps.length→(∀j x,args[j]? =some x→(∀p,ps[j]? =some p→(∃a b c,p= .bx a b c)∨(∃cs,p= .v cs∧cs.all (fun c=>c.out.isNone)=false)→m.c (i+j)=x))→
  (∀j p,ps[j]? =some p→F.ren (i+j)=i+j∧(∀a b c,p= .bx a b c→F.kB (i+j)=true))→
  (∀j o l,(∃p,ps[j]? =some p)→F.kA (i+j) o l=owns (parN ps j o) l)→ParsOut k m.h (finCol F m.col) i ps shs args (parOuts m.σ i ps)
 | [],i,shs,args,_,_,_,hl,_,_,_,_=>rfl
 | .v cs::ps,i,shs,[],_,_,_,hl,_,_,_,_=>by simp at hl
 | .bx _ _ _::ps,i,shs,[],_,_,_,hl,_,_,_,_=>by simp at hl
 | .v cs::ps,i,shs,x::args,h,hh,hs,hl,ht,ha,hF,hN=>by
  simp only[retPars,parsHere,zD] at h hh
  simp at hl ht
  have hi:i<tys.length:=by omega
  have hdrop:tys.drop i=tys[i]::tys.drop (i+1):=List.drop_eq_getElem_cons hi
  rw[hdrop,List.map_cons] at hs
  subst hs
  have hrec:=pars_fin (i:=i+1) hr hkp h.2 hh.2 rfl hl (by omega) (fun j y a1 p a2 a3=>by rw[show i+1+j=i+(j+1) by omega];exact ha (j+1) y (by simpa using a1) p (by simpa using a2) a3) (fun j p a1=>by rw[show i+1+j=i+(j+1) by omega];exact hF (j+1) p (by simpa using a1)) (fun j o l a1=>by
   have:=hN (j+1) o l (by simpa using a1);rw[show i+1+j=i+(j+1) by omega,this];simp[parN])
  unfold ParsOut parOuts
  by_cases hall:cs.all (fun c=>c.out.isNone)=true
  ·rw[if_pos hall,if_pos hall];exact hrec
  ·rw[if_neg hall,if_neg hall]
   have hall':cs.all (fun c=>c.out.isNone)=false:=by simpa using hall
   rw[hall',Bool.false_or] at h hh
   refine ⟨_,_,rfl,?_,hrec⟩
   have hx:m.c i=x:=by have:=ha 0 x (by simp) (.v cs) (by simp) (.inr ⟨cs,rfl,hall'⟩);simpa using this
   obtain ⟨h1,_⟩:=h
   split at h1
   ·rename_i sh ts he
    rw[zD] at h1
    rw[zB hi] at h1
    simp only[beq_iff_eq] at h1
    have hE:=hr.ent i
    rw[he] at hE
    have hne:m.σ i≠[]:=fun e=>by rw[e] at hh;simp at hh
    rcases hE with hE|⟨vs,e1,e2⟩
    ·exact absurd hE hne
    ·refine ⟨vs,by rw[← hx];have:=h1.1;rw[this] at e1;exact e1,?_⟩
     refine mut_fin hr.mem hkp (hF 0 (.v cs) (by simp)).1 h1.2 e2.2.1 e2.1 (fun o t d y a1 a2 a3=>by rw[Nat.zero_add];exact e2.2.2.2 o t d y a1 a2 a3) fun o c a1 l=> ?_
     have:=hN 0 o l ⟨.v cs,by simp⟩
     rw[Nat.zero_add]
     simpa[parN,a1] using this
   ·cases h1
 | .bx ty tin ts::ps,i,shs,x::args,h,hh,hs,hl,ht,ha,hF,hN=>by
  simp only[retPars,parsHere,zD] at h hh
  simp at hl ht
  have hi:i<tys.length:=by omega
  have hdrop:tys.drop i=tys[i]::tys.drop (i+1):=List.drop_eq_getElem_cons hi
  rw[hdrop,List.map_cons] at hs
  subst hs
  have hrec:=pars_fin (i:=i+1) hr hkp h.2 hh.2 rfl hl (by omega) (fun j y a1 p a2 a3=>by rw[show i+1+j=i+(j+1) by omega];exact ha (j+1) y (by simpa using a1) p (by simpa using a2) a3) (fun j p a1=>by rw[show i+1+j=i+(j+1) by omega];exact hF (j+1) p (by simpa using a1)) (fun j o l a1=>by
   have:=hN (j+1) o l (by simpa using a1);rw[show i+1+j=i+(j+1) by omega,this];simp[parN])
  unfold ParsOut parOuts
  refine ⟨_,_,rfl,?_,hrec⟩
  have hx:m.c i=x:=by have:=ha 0 x (by simp) (.bx ty tin ts) (by simp) (.inl ⟨_,_,_,rfl⟩);simpa using this
  obtain ⟨h1,_⟩:=h
  split at h1
  ·rename_i ty' tags he
   rw[zD,beq_iff_eq] at h1
   obtain ⟨rfl,h1⟩:=h1
   have hE:=hr.ent i
   rw[he] at hE
   have hne:m.σ i≠[]:=fun e=>by have:=hh.1;rw[e] at this;simp at this
   rcases hE with hE|⟨blk,cs,e1,e2,e3,e4⟩
   ·exact absurd hE hne
   ·have hq:=hF 0 (.bx ty tin ts) (by simp)
    refine ⟨blk,cs,by rw[← hx,e1],?_,e3,?_⟩
    ·unfold finCol
     rw[e2]
     simp only
     have hk:=hq.2 _ _ _ rfl
     rw[Nat.add_zero] at hk hq
     rw[if_pos hk,hq.1]
    ·have:=fin_cells hr.mem hkp h1 (fun o rc a1 l=>by have:=hN 0 o l ⟨.bx ty tin ts,by simp⟩;simpa[parN,a1] using this) e4
     rw[Nat.add_zero] at hq
     rw[hq.1] at this
     exact this
  ·cases h1
end
theorem mapM_run {P:Program} {w:World} {f:ResultVar→Sem Value}:∀{l:List ResultVar} {vals:List Value},vals.length=l.length→(∀(j:Nat) (r:ResultVar) (v:Value),l[j]? =some r→vals[j]? =some v→(f r).run P w= .ok v w)→(l.mapM f).run P w= .ok vals w
 | [],[],_,_=>rfl
 | [],_::_,h,_=>by simp at h
 |_::_,[],h,_=>by simp at h
 |r::l,v::vals,h,hf=>by
  rw[List.mapM_cons]
  have h0:=hf 0 r v (by simp) (by simp)
  have h1:=mapM_run (l:=l) (vals:=vals) (by simpa using h) fun j r' v' a1 a2=>hf (j+1) r' v' (by simpa using a1) (by simpa using a2)
  simp[Sem.run_bind,h0,h1]
section
variable {k:K} {g:G} {m:M} {P:Program} {w:World}
def oneRes (c:Nat→Value):ResultVar→Sem Value
 | .tmp t=>pure (c t)
 | .cell a t=>do loadVar t (← asAddr (c a))
def rvReg:ResultVar→Nat
 | .tmp t=>t
 | .cell t _=>t
theorem one_val {agg:Bool} {n:Nat} {sh:Shape} {v:Value} {vs:List Value} (hs:sh=if agg then Shape.agg else Shape.one) (h:cellsV sh v=some vs) (hn:vs.length=n) {l:List (Bool×Nat)} {vals cells:List Value} (hr:tupCells l vals=some cells):
  tupCells ((agg,n)::l) (v::vals)=some (vs++cells):=by
 cases agg with
 |true=>
  simp only[if_true] at hs
  subst hs
  cases v<;>simp[cellsV] at h
  subst h
  simp at hn
  simp[tupCells,hn,hr]
 |false=>
  simp only[Bool.false_eq_true,if_false] at hs
  subst hs
  simp[cellsV] at h
  subst h
  simp at hn
  simp[tupCells,← hn,hr]
theorem resCels_ok (hr:Rel k g m) (hw:w.heap=m.h) {f:ResultVar→Sem Value}:∀{vs:List ResultVar} {rs:List RSig} {l:List Cel×List RC},resCels P g vs rs=some l→(∀v∈vs,m.σ (rvReg v)≠[])→(∀v∈vs,f v=oneRes m.c v)→
  ∃vals cells,(vs.mapM f).run P w= .ok vals w∧vals.length=rs.length∧tupCells (rs.map rsTup) vals=some cells∧CelsOk k g m l.1 cells∧l.2=resRC rs∧l.1.length=l.2.length∧∀ty ts,rs≠[.bx ty ts]
 | [],[],l,h,_,_=>by
  simp[resCels] at h
  subst h
  exact ⟨[],[],rfl,rfl,rfl,⟨rfl,fun i c h=>by simp at h⟩,rfl,rfl,fun _ _ h=>by cases h⟩
 | [],_::_,_,h,_,_=>by simp[resCels] at h
 | .tmp _::_,[],_,h,_,_=>by simp[resCels] at h
 | .cell _ _::_,[],_,h,_,_=>by simp[resCels] at h
 | .tmp _::_, .bx _ _::_,_,h,_,_=>by simp[resCels] at h
 | .cell _ _::_, .bx _ _::_,_,h,_,_=>by simp[resCels] at h
 | .tmp t::vs, .v agg ws::rs,l,h,hp,hf=>by
  rw[resCels,zA] at h
  obtain ⟨cs,hcs,h⟩:=h
  simp only[zA,guardO_some,beq_iff_eq] at h
  obtain ⟨l',hl',hlen,h⟩:=h
  cases h
  have hpt:m.σ t≠[]:=hp (.tmp t) (by simp)
  obtain ⟨vals,cells,h1,h2,h3,h4,h5,h6,_⟩:=resCels_ok hr hw hl' (fun v hv=>hp v (by simp[hv])) (fun v hv=>hf v (by simp[hv]))
  have key:∃sh vs',sh=(if agg then Shape.agg else Shape.one)∧cellsV sh (m.c t)=some vs'∧CelsOk k g m cs vs':=by
   split at hcs
   ·rename_i sh ts he
    rw[guardO_some,beq_iff_eq] at hcs
    obtain ⟨hsh,hcs⟩:=hcs
    cases hcs
    obtain ⟨vs',a1,a2⟩:=celsOf_ok hr (s:=t) (ts:=ts) (by rw[he];rfl) hpt
    rw[he] at a1
    exact ⟨sh,vs',hsh,a1,a2⟩
   ·rename_i hnv
    simp only[guardO_some,zA,zC,Bool.not_eq_true',beq_iff_eq] at hcs
    obtain ⟨hag,b,hb,hb0,c,hc,rfl⟩:=hcs
    subst hag
    obtain ⟨b1,b2⟩:=b
    simp only at hb0
    subst hb0
    have:cels P g 0 (.tmp t)=some (.one,[c]):=by
     have hc':boxCel g b1 (boxTags g b1)=some c:=hc
     cases e:g.ent t with
     |val sh ts=>exact absurd e (hnv sh ts)
     |_=>simp only[cels,e,hb,hc'];rfl
    obtain ⟨vs',a1,a2⟩:=cels_ok hr this fun t' e=>by cases e;exact hpt
    exact ⟨.one,vs',by simp,a1,a2⟩
  obtain ⟨sh,vs',k1,k2,k3⟩:=key
  refine ⟨m.c t::vals,vs'++cells,?_,by simp[h2],?_,k3.app h4,by simp[resRC,rsRC,h5],by simp[hlen,h6],by simp⟩
  ·have hone:(f (.tmp t)).run P w= .ok (m.c t) w:=by rw[hf (.tmp t) (by simp)];rfl
   simp[List.mapM_cons,Sem.run_bind,hone,h1]
  ·exact one_val k1 k2 (by rw[k3.1,hlen]) h3
 | .cell t ty::vs, .v agg ws::rs,l,h,hp,hf=>by
  rw[resCels,zA] at h
  obtain ⟨cs,hcs,h⟩:=h
  simp only[zA,guardO_some,beq_iff_eq] at h
  obtain ⟨l',hl',hlen,h⟩:=h
  cases h
  have hpt:m.σ t≠[]:=hp (.cell t ty) (by simp)
  obtain ⟨vals,cells,h1,h2,h3,h4,h5,h6,_⟩:=resCels_ok hr hw hl' (fun v hv=>hp v (by simp[hv])) (fun v hv=>hf v (by simp[hv]))
  split at hcs
  ·rename_i ty' ts he
   rw[guardO_some] at hcs
   obtain ⟨hc,hcs⟩:=hcs
   cases hcs
   simp only[zD,beq_iff_eq,bne_iff_ne,ne_eq,Bool.or_eq_true] at hc
   obtain ⟨⟨⟨⟨c1,c2⟩,c3⟩,c4⟩,c5⟩:=hc
   have hE:=hr.ent t
   rw[he] at hE
   rcases hE with hE|⟨blk,bs,e1,e2,e3,e4⟩
   ·exact absurd hE hpt
   obtain ⟨u,hu⟩:=Option.isSome_iff_exists.1 c5
   obtain ⟨i,hi⟩:=info_ne (P:=P) (e:=ty) (by rw[c2];exact c3)
   have hsz:i.size=ts.length:=by
    unfold Program.cellsOf at c2
    rw[hi] at c2
    simpa using c2
   have hbs:bs.size=ts.length:=by have:=e4.1;simpa using this
   obtain ⟨v,r1,r2⟩:=load_run (P:=P) (ty:=ty) (w:=w) (b:=blk) (off:=0) (cs:=bs) (tb:=ty') (fr:=(0,0)) (by rw[hw];exact e3) hu hi hsz (by omega) (fun ha=>by
    rw[c1,ha] at c4;simpa using c4)
   have hcs2:cellsAt bs 0 ts.length=bs.toList:=by
    rw[cellsAt_eq (by omega),List.drop_zero,← hbs]
    exact List.take_of_length_le (by simp)
   rw[hcs2] at r2
   obtain ⟨vs',a1,a2⟩:=celsOf_ok hr (s:=t) (ts:=ts) (by rw[he];rfl) hpt
   have hvs:vs'=bs.toList:=by
    rw[he] at a1
    simp[conc,boxCells,e1,e3] at a1
    exact a1.symm
   subst hvs
   refine ⟨v::vals,bs.toList++cells,?_,by simp[h2],?_,a2.app h4,by simp[resRC,rsRC,h5],by simp[hlen,h6],by simp⟩
   ·have hone:(f (.cell t ty)).run P w= .ok v w:=by
     rw[hf (.cell t ty) (by simp),← r1]
     simp[oneRes,e1,asAddr,Instr.loadAt,Instr.sureAddr]
    simp[List.mapM_cons,Sem.run_bind,hone,h1]
   ·exact one_val (sh:=shapeOf P ty) (by unfold shapeOf;rw[c1]) r2 (by rw[a2.1,hlen]) h3
  ·cases hcs
end
theorem rcN_keeps {t:Option RC} (h:(match t with|some rc=>rcN rc|none=>0)≠0):rcKeeps t=true:=by
 cases t with
 |none=>exact absurd rfl h
 |some rc=>
  cases rc with
  |none=>exact absurd rfl h
  |some z=>obtain ⟨n,js⟩:=z;simpa[rcKeeps,rcN] using h
theorem parN_kept {ps:List PSig} {b:Option (Nat×List RC)} {s o v:Nat} (h:parN ps s o≠0):keptR ps b (s,o,v)=true:=by
 unfold keptR
 unfold parN at h
 rw[Bool.or_eq_true]
 left
 simp only
 split at h
 ·rename_i e
  rw[e]
  exact rcN_keeps h
 ·rename_i cs e
  rw[e]
  simp only
  refine rcN_keeps ?_
  cases hc:cs[o]? with
  |none=>rw[hc] at h;exact h
  |some c=>rw[hc] at h;exact h
 ·exact absurd rfl h
theorem owns_ne {n l:Nat} (h:owns n l=true):n≠0:=fun e=>by rw[e,owns_zero] at h;cases h
theorem parOuts_congr {σ σ':St}:∀{ps:List PSig} {i:Nat},(∀j,j<i+ps.length→σ' j=σ j)→parOuts σ' i ps=parOuts σ i ps∧parsHere σ' i ps=parsHere σ i ps
 | [],i,_=>⟨rfl,rfl⟩
 | .v cs::ps,i,h=>by
  obtain ⟨h1,h2⟩:=parOuts_congr (ps:=ps) (i:=i+1) (σ:=σ) (σ':=σ') fun j hj=>h j (by simp;omega)
  have h3:=h i (by simp)
  simp only[parOuts,parsHere,h1,h2,h3,and_self]
 | .bx _ _ _::ps,i,h=>by
  obtain ⟨h1,h2⟩:=parOuts_congr (ps:=ps) (i:=i+1) (σ:=σ) (σ':=σ') fun j hj=>h j (by simp;omega)
  have h3:=h i (by simp)
  simp only[parOuts,parsHere,h1,h2,h3,and_self]
theorem retCels_get {kp:Nat×Nat×Nat→Bool} {g:G}:∀{cs:List Cel} {rs:List RC} {ms:List Mv},retCels kp g cs rs=some ms→ms.length=cs.length∧rs.length=cs.length∧
  ∀(i:Nat) (c:Cel) (rc:RC) (mv:Mv),cs[i]? =some c→rs[i]? =some rc→ms[i]? =some mv→retCel kp g c rc=some mv
 | [],[],ms,h=>by simp[retCels] at h;subst h;simp
 | [],_::_,_,h=>by simp[retCels] at h
 |_::_,[],_,h=>by simp[retCels] at h
 |c::cs,r::rs,ms,h=>by
  simp only[retCels,zA,zC] at h
  obtain ⟨m0,h1,ms',h2,rfl⟩:=h
  obtain ⟨a1,a2,a3⟩:=retCels_get h2
  refine ⟨by simp[a1],by simp[a2],fun i c' rc mv b1 b2 b3=> ?_⟩
  cases i with
  |zero=>simp at b1 b2 b3;subst b1 b2 b3;exact h1
  |succ i=>exact a3 i c' rc mv (by simpa using b1) (by simpa using b2) (by simpa using b3)
section
variable {k:K} {g:G} {m:M}
theorem retCel_ok (hr:Rel k g m) {kp:Nat×Nat×Nat→Bool} {c:Cel} {x:Value} (hc:CelOk k g m c x) {rc:RC} {mv:Mv} (h:retCel kp g c rc=some mv):
  (∀d,mv.src.ev m.σ=some d→MvOk k g m mv d x)∧∀n js,rc=some (n,js)→n≤mv.n∧rcRoots kp n js mv.rs=true:=by
 unfold retCel at h
 split at h
 ·rw[guardO_some] at h
  obtain ⟨h1,h⟩:=h
  cases h
  exact ⟨fun d hd=>⟨rfl, .inr fun h' good=>(sc_ok hc h1 hd).2 h' good⟩,fun n js e=>by cases e⟩
 ·rename_i js
  simp only[zA,guardO_some,zD] at h
  obtain ⟨mv',h1,⟨h2,_⟩,h⟩:=h
  cases h
  exact ⟨fun d hd=>(cp_ok hr hc h1 hd).1,fun n js' e=>by cases e;exact ⟨Nat.zero_le _,h2⟩⟩
 ·rename_i n js
  simp only[zA,guardO_some,zD,decide_eq_true_eq] at h
  obtain ⟨mv',h1,⟨⟨h2,h3⟩,_⟩,h⟩:=h
  cases h
  exact ⟨fun d hd=>mv_ok hr hc h1 hd,fun n' js' e=>by cases e;exact ⟨h2,h3⟩⟩
theorem chkRv_ok {env:Env} {is:List I} {σ σ':St}:∀{vs:List ResultVar},evIs env (chkRv vs++is) σ=some σ'→(∀v∈vs,σ (rvReg v)≠[])∧evIs env is σ=some σ'
 | [],h=>⟨fun v hv=>(by cases hv),h⟩
 |v::vs,h=>by
  have key:evIs env (.chk (rvReg v)::(chkRv vs++is)) σ=some σ':=by cases v<;>exact h
  simp only[evIs,I.ev,zA] at key
  obtain ⟨σ1,h1,h2⟩:=key
  split at h1
  ·cases h1
  ·rename_i hne
   cases h1
   obtain ⟨a1,a2⟩:=chkRv_ok h2
   refine ⟨fun v' hv=> ?_,a2⟩
   rcases List.mem_cons.1 hv with rfl|hv
   ·intro e;rw[e] at hne;simp at hne
   ·exact a1 v' hv
theorem one_shape {rs:List RSig} {vals cells:List Value} (h:tupCells (rs.map rsTup) vals=some cells) (hl:vals.length=rs.length) (hn:∀ty ts,rs≠[.bx ty ts]):
  cellsV (resShape rs) (if h:vals.toArray.size=1 then vals.toArray[0] else .tuple vals.toArray)=some cells:=by
 by_cases h1:vals.length=1
 ·obtain ⟨v,rfl⟩:∃v,vals=[v]:=by
   cases vals with
   |nil=>simp at h1
   |cons v l=>cases l with
    |nil=>exact ⟨v,rfl⟩
    |cons=>simp at h1
  cases rs with
  |nil=>simp at hl
  |cons r l=>
   cases l with
   |cons=>simp at hl
   |nil=>
    cases r with
    |bx ty ts=>exact absurd rfl (hn ty ts)
    |v agg ts=>
     simp only[List.size_toArray,List.length_singleton,dite_true]
     simp only[List.map_cons,List.map_nil,rsTup] at h
     unfold resShape
     cases agg with
     |true=>
      cases v<;>simp[tupCells] at h
      obtain ⟨_,h⟩:=h
      simp[cellsV,h]
     |false=>
      simp[tupCells] at h
      obtain ⟨_,h⟩:=h
      subst h
      simp[cellsV]
 ·have hr1:∀agg ts,rs≠[.v agg ts]:=fun agg ts e=>by rw[e] at hl;simp at hl;exact h1 hl
  have:resShape rs= .tup (rs.map rsTup):=by
   unfold resShape
   split
   ·rename_i agg ts;exact absurd rfl (hr1 agg ts)
   ·rfl
  rw[this,dif_neg (by simpa using h1)]
  simpa[cellsV] using h
structure ParsEnd (cx:Cx) (g:G) (m:M) (args:List Value):Prop where
 len:args.length=cx.sg.params.length
 tys:cx.tys.length=cx.sg.params.length
 c:∀j x,args[j]? =some x→protB cx.sg.params j=true→m.c j=x
def isBx (ps:List PSig) (s:Nat):Bool:=match ps[s]? with|some (.bx _ _ _)=>true|_=>false
theorem pars_end (hr:Rel k g m) {cx:Cx} {args:List Value} (hP:ParsEnd cx g m args) {b:Option (Nat×List RC)} (hret:retPars cx.P cx.tys (keptR cx.sg.params b) g 0 cx.sg.params=true) (hh:parsHere m.σ 0 cx.sg.params=true) {F:Fin}
  (hkp:∀s o n v,F.kA s o n=true→keptR cx.sg.params b (s,o,v)=true) (hren:∀s,s<cx.sg.params.length→F.ren s=s) (hB:∀s,isBx cx.sg.params s=true→F.kB s=true) (hA:∀s o l,s<cx.sg.params.length→F.kA s o l=owns (parN cx.sg.params s o) l):
  ParsOut k m.h (finCol F m.col) 0 cx.sg.params (cx.tys.map (isAggB cx.P)) args (parOuts m.σ 0 cx.sg.params):=by
 refine pars_fin hr hkp hret hh (by simp) hP.len (by rw[hP.tys];omega) (fun j x hx p hp hk=> ?_) (fun j p hp=> ?_) fun j o l hp=> ?_
 ·rw[Nat.zero_add]
  refine hP.c j x hx ?_
  unfold protB
  rw[hp]
  rcases hk with ⟨a,b',c,rfl⟩|⟨cs,rfl,hall⟩
  ·rfl
  ·simp only[List.any_eq_true]
   rw[List.all_eq_false] at hall
   obtain ⟨c,h1,h2⟩:=hall
   exact ⟨c,h1,by cases ho:c.out<;>simp[ho] at h2 ⊢⟩
 ·have hj:j<cx.sg.params.length:=(zE.1 hp).1
  rw[Nat.zero_add]
  exact ⟨hren j hj,fun a b' c e=>hB j (by unfold isBx;rw[hp,e])⟩
 ·obtain ⟨p,hp⟩:=hp
  have hj:j<cx.sg.params.length:=(zE.1 hp).1
  rw[Nat.zero_add]
  exact hA j o l hj
theorem ret_box {cx:Cx} (hr:Rel k g m) {args:List Value} (hP:ParsEnd cx g m args) (hnp:cx.np=cx.sg.params.length) (hpar:cx.base<PAR) {env:Env} {σ':St} {t ty:Nat} {ts:List RC} (hrv:cx.rv=[.tmp t]) (hsg:cx.sg.res=[.bx ty ts]) (hb0:cx.np≤cx.base) (hb1:cx.base≤100000) {is:List I}
  (h:retOps cx g=some is) (he:evIs env is m.σ=some σ') (hh:parsHere σ' 0 cx.sg.params=true):
  ∃col',FinOk k cx.sg (cx.tys.map (isAggB cx.P)) args (σ' (cx.base+60)::parOuts σ' 0 cx.sg.params) (m.c t) m.h col'∧t<cx.base:=by
 unfold retOps at h
 rw[hrv,hsg] at h
 simp only[zA,guardO_some,zD,beq_iff_eq,decide_eq_true_eq] at h
 obtain ⟨⟨b,off⟩,hb,⟨⟨⟨⟨⟨⟨c1,c2⟩,c3⟩,c4⟩,c5⟩,c6⟩,c7⟩,h⟩:=h
 cases h
 simp only at c1 c2 c3 c5 c6 c7
 subst c1
 simp only[evIs,I.ev,zA] at he
 obtain ⟨σ1,e1,σ2,e2,he⟩:=he
 split at e1
 ·cases e1
 ·rename_i hne
  cases e1
  split at e2
  ·cases e2
  ·rename_i hne2
   cases e2
   cases he
   have hpt:m.σ t≠[]:=fun e=>by rw[e] at hne;simp at hne
   have hpb:m.σ b≠[]:=fun e=>by rw[e] at hne2;simp at hne2
   obtain ⟨ty',tags,hent,hbox⟩:=boxAt_ok hr hb hpt
   obtain ⟨blk,cs,h1,h2,h3,h4,h5⟩:=hbox hpb
   have e1:boxTy g b=ty':=by unfold boxTy;rw[hent]
   have e2:boxTags g b=tags:=by unfold boxTags;rw[hent]
   rw[e1] at c5
   rw[e2] at c6
   subst c5
   obtain ⟨pc1,pc2⟩:=parOuts_congr (σ:=m.σ) (σ':=m.σ.upd (cx.base+60) (m.σ b)) (ps:=cx.sg.params) (i:=0) fun j hj=>by
    simp only[St.upd]
    rw[if_neg (by omega)]
   rw[pc2] at hh
   rw[pc1]
   let F:Fin:=⟨fun s o l=>if s=b then owns (match ts[o]? with|some rc=>rcN rc|none=>0) l else owns (parN cx.sg.params s o) l,fun s=>s==b||isBx cx.sg.params s,fun _ _=>false,fun s=>if s=b then RES else s⟩
   have hkp:∀s o n v,F.kA s o n=true→keptR cx.sg.params (some (b,ts)) (s,o,v)=true:=fun s o n v hk=>by
    simp only[F] at hk
    split at hk
    ·rename_i e
     subst e
     unfold keptR
     rw[Bool.or_eq_true]
     right
     simp[rcN_keeps (owns_ne hk)]
    ·exact parN_kept (owns_ne hk)
   have hnb:∀s,s<cx.sg.params.length→s≠b:=fun s hs=>by omega
   refine ⟨finCol F m.col,⟨fin_mem hr.mem fun s o n hk=> ?_,_,_,rfl,?_,?_⟩,c4⟩
   ·simp only[F]
    split
    ·unfold RES PAR;omega
    ·rename_i hsb
     by_cases hs:s<cx.sg.params.length
     ·omega
     ·exfalso
      simp only[F] at hk
      rw[if_neg hsb] at hk
      have:parN cx.sg.params s o=0:=by unfold parN;rw[zG (by omega)]
      rw[this,owns_zero] at hk
      cases hk
   ·rw[hsg]
    have hup:(m.σ.upd (cx.base+60) (m.σ b)) (cx.base+60)=m.σ b:=by simp[St.upd]
    rw[hup]
    refine ⟨blk,cs,h2,?_,h4,?_⟩
    ·unfold finCol
     rw[h3]
     simp[F]
    ·have:=fin_cells (F:=F) hr.mem hkp c6 (s:=b) (fun o rc a1 l=>by simp[F,a1]) h5
     simpa[F] using this
   ·refine pars_end hr hP c7 hh hkp (fun s hs=>by simp only[F];rw[if_neg (hnb s hs)]) (fun s hs=>by simp[F,hs]) fun s o l hs=>by simp only[F];rw[if_neg (hnb s hs)]
end
theorem flat_fl {fl:List Bool} {l:List D} (h:flat fl l=true) {i:Nat} {b:Bool} {d:D} (h1:fl[i]? =some b) (h2:l[i]? =some d):d.flat=b:=flat_get h h1 h2
section
variable {k:K} {g:G} {m:M}
theorem ret_val {cx:Cx} (hr:Rel k g m) (hlen:g.length=cx.base+61) {args:List Value} (hP:ParsEnd cx g m args) (hnp:cx.np=cx.sg.params.length) (hb0:cx.np≤cx.base) {env:Env} {σ':St} {is:List I}
  (hnb:∀t ty ts,cx.rv=[.tmp t]→cx.sg.res≠[.bx ty ts])
  (h:retOps cx g=some is) (he:evIs env is m.σ=some σ') (hh:parsHere σ' 0 cx.sg.params=true) {w:World} (hw:w.heap=m.h) {f:ResultVar→Sem Value} (hf:∀v∈cx.rv,rvReg v<cx.base→f v=oneRes m.c v):
  ∃vals col',(cx.rv.mapM f).run cx.P w= .ok vals w∧FinOk k cx.sg (cx.tys.map (isAggB cx.P)) args (σ' (cx.base+60)::parOuts σ' 0 cx.sg.params) (if h:vals.toArray.size=1 then vals.toArray[0] else .tuple vals.toArray) m.h col':=by
 unfold retOps at h
 split at h
 ·rename_i t ty ts hrv hsg
  exact absurd hsg (hnb t ty ts hrv)
 ·simp only[zA,guardO_some,zD,zL] at h
  obtain ⟨l,hl,ms,hms,⟨⟨hok,hrvb⟩,hret⟩,h⟩:=h
  cases h
  rw[List.append_assoc] at he
  obtain ⟨hpres,he⟩:=chkRv_ok he
  rw[evIs_append,zA] at he
  obtain ⟨σ1,he1,he2⟩:=he
  have he2:=evIs_one he2
  simp only[I.ev,zA] at he2
  obtain ⟨ds,hds,he2⟩:=he2
  split at he2
  ·rename_i hfl
   cases he2
   obtain ⟨vals,cells,r1,r2,r3,r4,r5,r6,r7⟩:=resCels_ok (P:=cx.P) (w:=w) (f:=f) hr hw hl hpres fun v hv=>hf v hv (by
    have:=hrvb v hv
    cases v<;>simpa[rvReg] using this)
   obtain ⟨c1,c2,c3⟩:=retCels_get hms
   obtain ⟨col2,S2,d1,hheld,hσ1,_,hleft,_,_⟩:=lifts_ok2 (env:=env) hr (ms:=ms) (xs:=cells) (base:=cx.base) (by omega) (fun i mv hi=>by
    have hil:i<ms.length:=(zE.1 hi).1
    have hcell:i<cells.length:=by rw[r4.1];omega
    refine ⟨cells[i],zB hcell,?_⟩
    have hci:i<l.1.length:=by omega
    have hri:i<l.2.length:=by omega
    obtain ⟨x,hx,hcel⟩:=r4.2 i _ (zB hci)
    rw[zB hcell] at hx
    cases hx
    exact (retCel_ok hr hcel (c3 i _ _ mv (zB hci) (zB hri) hi)).1) hok he1 hds (v:=PAR) (Nat.le_refl _)
   have hr2:=S2.rel hr
   generalize hg2:leaves cx.base g ms=g2 at S2 hr2 hret
   generalize hm2:(⟨σ1,m.c,m.h,col2⟩:M)=m2 at S2 hr2 hheld
   have m2σ:m2.σ=σ1:=by rw[← hm2]
   have m2c:m2.c=m.c:=by rw[← hm2]
   have m2h:m2.h=m.h:=by rw[← hm2]
   obtain ⟨pc1,pc2⟩:=parOuts_congr (σ:=m2.σ) (σ':=σ1.upd (cx.base+60) ds) (ps:=cx.sg.params) (i:=0) fun j hj=>by
    simp only[St.upd]
    rw[if_neg (by omega),m2σ]
   rw[pc2] at hh
   rw[pc1]
   have hup:(σ1.upd (cx.base+60) ds) (cx.base+60)=ds:=by simp[St.upd]
   rw[hup]
   let F:Fin:=⟨fun s o l=>owns (parN cx.sg.params s o) l,isBx cx.sg.params,fun u n=>if PAR≤u then owns (match l.2[u-PAR]? with|some rc=>rcN rc|none=>0) n else false,fun s=>s⟩
   have hkp:∀s o n v,F.kA s o n=true→keptR cx.sg.params none (s,o,v)=true:=fun s o n v hk=>parN_kept (owns_ne hk)
   refine ⟨vals,finCol F m2.col,r1,?_⟩
   rw[← m2h]
   refine ⟨fin_mem hr2.mem fun s o n hk=> ?_,ds,_,rfl,?_,?_⟩
   ·simp only[F]
    by_cases hs:s<cx.sg.params.length
    ·have:=hr.small;omega
    ·exfalso
     simp only[F] at hk
     have:parN cx.sg.params s o=0:=by unfold parN;rw[zG (by omega)]
     rw[this,owns_zero] at hk
     cases hk
   ·have hres:∃vs,cellsV (resShape cx.sg.res) (if h:vals.toArray.size=1 then vals.toArray[0] else .tuple vals.toArray)=some vs∧CellsOut m2.h (fun o=>gl k (finCol F m2.col) (PAR+o)) (resRC cx.sg.res) ds vs:=by
     refine ⟨cells,one_shape r3 r2 r7,?_⟩
     rw[← r5]
     refine ⟨by rw[r4.1,r6],by omega,r4.one,fun o rc d x a1 a2 a3=> ?_⟩
     have ho:o<l.2.length:=(zE.1 a1).1
     have hci:o<l.1.length:=by omega
     have hmi:o<ms.length:=by omega
     have hH:=(hheld o _ d x (zB hmi) a2 a3).1
     obtain ⟨x',hx,hcel⟩:=r4.2 o _ (zB hci)
     have hR:=(retCel_ok hr hcel (c3 o _ rc _ (zB hci) a1 (zB hmi))).2
     have hflat:=flat_fl hfl (i:=o) (b:=rc.isNone) (d:=d) (by simp[a1]) a2
     cases rc with
     |none=>exact ⟨hflat,hH.flat hflat⟩
     |some z=>
      obtain ⟨n,js⟩:=z
      obtain ⟨q1,q2⟩:=hR n js rfl
      refine ⟨hflat,fin_gl hr2.mem hkp q1 q2 (fun n'=> ?_) hH⟩
      simp only[F]
      rw[if_pos (by omega),show PAR+o-PAR=o by omega,a1]
      rfl
    unfold ResOut
    split
    ·rename_i ty ts e;exact absurd e (r7 ty ts)
    ·exact hres
   ·exact pars_end hr2 ⟨hP.len,hP.tys,fun j x a1 a2=>by rw[m2c];exact hP.c j x a1 a2⟩ hret hh hkp (fun s hs=>rfl) (fun s hs=>hs) fun s o n hs=>rfl
  ·cases he2
end
def runL (env:Env) (n:Nat) (l:L) (sg:Sig) (base:Nat) (ins:List (List D)):Option (List (List D)):=
 match l.ev env n (fun i=>ins.getD i []) with
 |some (.ret,σ)=>if parsHere σ 0 sg.params=true then some (σ (base+60)::parOuts σ 0 sg.params) else none
 |_=>none
structure FnOk (cx:Cx) (f:Nat) (fn:Func):Prop where
 func:cx.P.funcs[f]? =some fn
 base:cx.base=fn.ntmps
 big:cx.base≤100000
 np:cx.np=cx.sg.params.length
 params:fn.params.toList.length=cx.sg.params.length
 few:cx.sg.params.length≤cx.base
 rv:cx.rv=fn.results.toList
 tys:cx.tys=fn.params.toList
theorem curR_nil (j:Nat):curR [] [(PAR+j,0,0)]=true:=by simp[curR,G.ver,G.at]
theorem tagOf_wf {g:G} {j:Nat} {n:Option Nat}:TagWf g (tagOf j n):=by
 cases n with
 |none=>trivial
 |some n=>
  intro r hr
  split at hr
  ·cases hr
  ·simp at hr;rw[hr];exact Nat.zero_le _
theorem pEnts_get {P:Program}:∀{tys:List TypeId} {ps:List PSig} {j s:Nat} {e:Ent},(pEnts P j tys ps)[s]? =some e→∃j' ty p,e=pEnt P j' ty p
 | [],ps,j,s,e,h=>by cases ps<;>simp[pEnts] at h
 |_::_,[],j,s,e,h=>by simp[pEnts] at h
 |ty::tys,p::ps,j,s,e,h=>by
  rw[pEnts] at h
  cases s with
  |zero=>simp at h;exact ⟨j,ty,p,h.symm⟩
  |succ s=>exact pEnts_get (by simpa using h)
theorem pEnts_len {P:Program}:∀{tys:List TypeId} {ps:List PSig} {j:Nat},(pEnts P j tys ps).length≤ps.length
 | [],ps,j=>by cases ps<;>simp[pEnts]
 |_::_,[],j=>by simp[pEnts]
 |ty::tys,p::ps,j=>by
  rw[pEnts]
  have:=pEnts_len (P:=P) (tys:=tys) (ps:=ps) (j:=j+p.count)
  simp
  omega
theorem cell_entry {k:K} {g:G} {m:M} {s o j:Nat} {d:D} {v:Value} {n:Option Nat} (h:CellOk k [] m s o d v (tagOf j n)):CellOk k g m s o d v (tagOf j n):=by
 cases n with
 |none=>exact h
 |some n=>
  refine ⟨h.1,fun _=>h.2 ?_⟩
  split
  ·rfl
  ·exact curR_nil j
theorem cells_entry {k:K} {g:G} {m:M} {s:Nat} {ts:List Tag} {vs:List Value} (ht:∀t∈ts,∃j n,t=tagOf j n) (h:CellsOk k [] m s ts vs):CellsOk k g m s ts vs:=
 ⟨h.1,h.2.1,h.2.2.1,fun o t d v a1 a2 a3=>by
  obtain ⟨j,n,rfl⟩:=ht t (zF a1)
  exact cell_entry (h.2.2.2 o _ d v a1 a2 a3)⟩
theorem entry_ent {P:Program} {k:K} {g:G} {m:M} {s j:Nat} {ty:TypeId} {p:PSig} (h:EntOk k [] m s (pEnt P j ty p)):EntWf g (pEnt P j ty p)∧EntOk k g m s (pEnt P j ty p):=by
 cases p with
 |v cs=>
  have ht:∀t∈(cs.zipIdx.map fun x=>tagOf (j+x.2) x.1.n),∃j n,t=tagOf j n:=fun t ht=>by
   obtain ⟨x,_,rfl⟩:=List.mem_map.1 ht
   exact ⟨_,_,rfl⟩
  refine ⟨fun t h'=> ?_,h.imp id fun ⟨vs,h1,h2⟩=>⟨vs,h1,cells_entry ht h2⟩⟩
  obtain ⟨j',n,rfl⟩:=ht t h'
  exact tagOf_wf
 |bx ty' tin tout=>
  have ht:∀t∈(tin.zipIdx.map fun x=>tagOf (j+x.2) x.1),∃j n,t=tagOf j n:=fun t ht=>by
   obtain ⟨x,_,rfl⟩:=List.mem_map.1 ht
   exact ⟨_,_,rfl⟩
  refine ⟨fun t h'=> ?_,h.imp id fun ⟨b,cs,h1,h2,h3,h4⟩=>⟨b,cs,h1,h2,h3,cells_entry ht h4⟩⟩
  obtain ⟨j',n,rfl⟩:=ht t h'
  exact tagOf_wf
theorem g0_ent {cx:Cx} {fn:Func} {sig:Sig} (s:Nat):(g0 cx fn sig).ent s=(pEnts cx.P 0 fn.params.toList sig.params).getD s .none:=by
 unfold g0 G.ent G.at
 simp only
 rw[zM]
 by_cases hs:s<(pEnts cx.P 0 fn.params.toList sig.params).length
 ·rw[zI (by simpa using hs)]
  simp[hs]
 ·rw[zH (by simpa using hs)]
  rw[zG (l:=pEnts cx.P 0 fn.params.toList sig.params) (by omega)]
  rw[List.getElem?_replicate]
  split<;>rfl
theorem g0_len {cx:Cx} {fn:Func} {sig:Sig} (h:sig.params.length≤cx.base+61):(g0 cx fn sig).length=cx.base+61:=by
 have:=pEnts_len (P:=cx.P) (tys:=fn.params.toList) (ps:=sig.params) (j:=0)
 unfold g0
 simp
 omega
theorem fn_meets {cx:Cx} {f:Nat} {fn:Func} (hfn:FnOk cx f fn) {l:L} (hl:compFn cx fn=some l) {env:Env} (hE:∀f' sig,cx.sigs f'=some sig→Callable cx.P f'∧Meets cx.P f' sig (env f'))
  (hD:∀(k:K) (A:Nat→Value),k.P=cx.P→FxOk k→DrawsOk cx k A env) (n:Nat):Meets cx.P f cx.sg (runL env n l cx.sg cx.base):=by
 intro fn' k m w args ins outs hfn' hkP hfx hh0 hcol0 hw hal hσ hc hmem hnolim hents hF
 rw[hfn.func] at hfn'
 cases hfn'
 have hbig:=hfn.big
 have hpar:cx.base<PAR:=by unfold PAR;omega
 have hfew:=hfn.few
 unfold compFn at hl
 simp only[zA,guardO_some] at hl
 obtain ⟨c,hbody,x,hx,hend,hl⟩:=hl
 cases hl
 unfold runL at hF
 split at hF
 ·rename_i σ' hev
  split at hF
  ·rename_i hhere
   cases hF
   have hrel:Rel k (g0 cx fn cx.sg) m:=by
    refine ⟨by rw[g0_len (by omega)];unfold PAR;omega,hmem,fun s=> ?_,fun s=> ?_⟩
    ·rw[g0_ent]
     have:=hents s
     cases hq:(pEnts cx.P 0 fn.params.toList cx.sg.params)[s]? with
     |none=>rw[zM,hq];trivial
     |some e=>
      obtain ⟨j,ty,p,rfl⟩:=pEnts_get hq
      rw[zM,hq,Option.getD_some] at this ⊢
      exact (entry_ent this).1
    ·rw[g0_ent]
     have:=hents s
     cases hq:(pEnts cx.P 0 fn.params.toList cx.sg.params)[s]? with
     |none=>rw[zM,hq];trivial
     |some e=>
      obtain ⟨j,ty,p,rfl⟩:=pEnts_get hq
      rw[zM,hq,Option.getD_some] at this ⊢
      exact (entry_ent this).2
   have htm:∀t,(args.toArray++Array.replicate (fn.ntmps-args.toArray.size) undef).getD t undef=args.getD t undef:=fun t=>by
    rw[Array.getD_eq_getD_getElem?,zM]
    by_cases ht:t<args.length
    ·rw[Array.getElem?_append_left (by simpa using ht)];simp
    ·rw[Array.getElem?_append_right (by simpa using ht),zG (by omega)]
     simp[Array.getElem?_replicate]
     split<;>rfl
   have hfr:Fr cx.base {tmps:=args.toArray++Array.replicate (fn.ntmps-args.toArray.size) undef,defers:=[]} m.c:=
    ⟨rfl,by rw[hfn.base];simp;omega,fun t _=>by rw[hc];exact htm t⟩
   have hAt:At cx k (fun i=>args.getD i undef) (g0 cx fn cx.sg) (fun i=>ins.getD i []) w {tmps:=args.toArray++Array.replicate (fn.ntmps-args.toArray.size) undef,defers:=[]} w:=
    ⟨m,hrel,g0_len (by omega),hw,funext hσ,hfr, .refl w,fun d _=>htm d⟩
   refine calls_of_wp hfn.func hbody (wp_mono (comp_wp (env:=env) ⟨hkP,hfx,hE⟩ hpar (hD k _ hkP hfx) n c _ x _ .ret σ' _ w hx hev hAt) fun e a w' hq=> ?_)
   cases e with
   |normal=>exact absurd hq.1 (by simp)
   |exit id=>exact absurd hq.1 (by simp)
   |ret=>
    obtain ⟨_,gr,hgr,σr,is,⟨mr,r1,r2,r3,rfl,r5,r6,r7⟩,hret,hev'⟩:=hq
    obtain ⟨h',dr,rfl⟩:=r6
    have hheap:h'=mr.h:=r3
    subst hheap
    have hpe:∀g,ParsEnd cx g mr args:=fun g=>⟨hal,by rw[hfn.tys];exact hfn.params,fun j x hj hp=>by
     have hjl:j<args.length:=(zE.1 hj).1
     rw[← r5.eq j (by omega),r7 j hp]
     show args.getD j undef=x
     rw[zM,hj];rfl⟩
    have htys:fn.params.toList.map (isAggB cx.P)=cx.tys.map (isAggB cx.P):=by rw[hfn.tys]
    refine ⟨r5.defers,?_⟩
    by_cases hbx:∃t ty ts,cx.rv=[.tmp t]∧cx.sg.res=[.bx ty ts]
    ·obtain ⟨t,ty,ts,hrv,hsg⟩:=hbx
     obtain ⟨col',hfin,htb⟩:=ret_box r1 (hpe gr) hfn.np hpar hrv hsg (by rw[hfn.np];exact hfew) hbig hret hev' hhere
     refine ⟨mr.c t,?_,mr.c t,mr.h,dr,col',rfl,rfl,by rw[htys];exact hfin⟩
     have hres:fn.results= #[.tmp t]:=by
      apply Array.ext'
      rw[← hfn.rv,hrv]
     unfold results
     rw[hres]
     have:=r5.eq t htb
     simp[Array.getD_eq_getD_getElem?] at this
     simp[this]
    ·obtain ⟨vals,col',hrun,hfin⟩:=ret_val (w:={w with heap:=mr.h,drawn:=dr}) r1 r2 (hpe gr) hfn.np (by rw[hfn.np];exact hfew) (fun t ty ts h1 h2=>hbx ⟨t,ty,ts,h1,h2⟩) hret hev' hhere rfl
      (f:=fun v=>match v with| .tmp t=>pure (a.tmps.getD t undef)| .cell a' t=>do loadVar t (← asAddr (a.tmps.getD a' undef))) (fun v hv hb=>by
       cases v with
       |tmp t=>show pure (a.tmps.getD t undef)=_;rw[r5.eq t hb];rfl
       |cell a' t=>show (do loadVar t (← asAddr (a.tmps.getD a' undef)))=_;rw[r5.eq a' hb];rfl)
     refine ⟨_,?_,_,mr.h,dr,col',rfl,rfl,by rw[htys];exact hfin⟩
     unfold results
     rw[hfn.rv] at hrun
     rw[Sem.run_bind,Array.mapM_eq_mapM_toList,Sem.run_map]
     refine Eq.trans (congrArg (fun q=>(Result.andThen (Result.andThen q _) _)) (?_:_=Result.ok vals _)) rfl
     exact hrun
   |goto l=>exact hq.elim
   |panic ch=>exact hq.elim
   |outgrown=>exact hq.elim
  ·cases hF
 ·cases hF
section
variable {P:Program} {ops:Array Oper} {Q:Exit→Act→World→Prop} {md:Region.Mode}
abbrev Rq:=List (Nat×(World→Prop))
theorem getD_false_of {listed:Array Bool} {i:Nat} (h:listed.getD i true=false):listed.getD i false=false:=by
 rw[Array.getD_eq_getD_getElem?] at h ⊢
 cases hq:listed[i]? with
 |none=>rfl
 |some b=>rw[hq] at h;exact h
theorem mem_of_filter {α:Type} {p:α→Bool} {l:List α} {x:α} (h:x∈l.filter p):x∈l:=(List.mem_filter.1 h).1
inductive Waits (md:Region.Mode) (ops:Array Oper):Nat→Nat→Prop
 |one {j i:Nat} {o:Oper} {e:Edge} (ho:ops[j]? =some o) (he:e∈o.after) (hb:Region.binds md e=true) (hi:e.on=i):Waits md ops j i
 |more {j l i:Nat} {o:Oper} {e:Edge} (ho:ops[j]? =some o) (he:e∈o.after) (hb:Region.binds md e=true) (hl:e.on=l) (h:Waits md ops l i):Waits md ops j i
def Closed (md:Region.Mode) (ops:Array Oper) (listed:Array Bool):Prop:=∀j o,listed.getD j false=true→ops[j]? =some o→∀e∈o.after,Region.binds md e=true→listed.getD e.on false=true
theorem Closed.set {listed:Array Bool} (h:Closed md ops listed) {i:Nat} (hi:i∈Region.ready md ops listed):Closed md ops (listed.setIfInBounds i true):=by
 intro j o hj ho e he hb
 by_cases hij:i=j
 ·subst hij
  obtain ⟨_,o',ho',hall⟩:=mem_ready.1 hi
  rw[ho] at ho'
  cases ho'
  exact getD_set_true (hall e he hb)
 ·rw[getD_set_ne false hij] at hj
  exact getD_set_true (h j o hj ho e he hb)
theorem Waits.listed {listed:Array Bool} (hc:Closed md ops listed) {j i:Nat} (h:Waits md ops j i) (hj:∀o,ops[j]? =some o→∀e∈o.after,Region.binds md e=true→listed.getD e.on false=true):listed.getD i false=true:=by
 induction h with
 |one ho he hb hi=>rw[← hi];exact hj _ ho _ he hb
 |more ho he hb hl _ ih=>
  refine ih fun o' ho' e' he' hb'=>hc _ o' ?_ ho' e' he' hb'
  rw[← hl]
  exact hj _ ho _ he hb
theorem ready_waits {listed:Array Bool} (hc:Closed md ops listed) {j i:Nat} (hj:j∈Region.ready md ops listed) (hi:listed.getD i true=false):¬ Waits md ops j i:=fun h=>by
 obtain ⟨_,o,ho,hall⟩:=mem_ready.1 hj
 have:=h.listed hc fun o' ho' e he hb=>by rw[ho] at ho';cases ho';exact hall e he hb
 have h2:=getD_false_of hi
 rw[h2] at this
 cases this
def wpAnyR (P:Program) (md:Region.Mode) (ops:Array Oper) (Q:Exit→Act→World→Prop) (W:Nat→Nat→Bool):Nat→Rq→Array Bool→Act→World→Prop
 |0,_,listed,a,w=>Region.ready md ops listed=[]∧Q .normal a w
 |fuel+1,rq,listed,a,w=>
  (Region.ready md ops listed=[]→Q .normal a w)∧
  ∀i∈Region.ready md ops listed,wpOp P ops Q i (fun a' w'=>(∀q∈rq.filter (fun q=> !W i q.1),q.2 w')∧wpAnyR P md ops Q W fuel (rq.filter fun q=> !W i q.1) (listed.setIfInBounds i true) a' w') a w
theorem wpAny_of_R {W:Nat→Nat→Bool}:∀(fuel:Nat) (rq:Rq) (listed:Array Bool) (a:Act) (w:World),wpAnyR P md ops Q W fuel rq listed a w→wpAny P md ops Q fuel listed a w
 |0,_,_,_,_,h=>h
 |fuel+1,_,_,_,_,h=>⟨h.1,fun i hi=>wpOp_mono (fun a' w' h'=>wpAny_of_R fuel _ _ a' w' h'.2) (h.2 i hi)⟩
theorem wpAnyR_mono {W:Nat→Nat→Bool}:∀(fuel:Nat) (rq rq':Rq) (listed:Array Bool) (a:Act) (w:World),(∀q∈rq',q∈rq)→wpAnyR P md ops Q W fuel rq listed a w→wpAnyR P md ops Q W fuel rq' listed a w
 |0,_,_,_,_,_,_,h=>h
 |fuel+1,rq,rq',_,_,_,hs,h=>by
  have hs':∀i,∀q∈rq'.filter (fun q=> !W i q.1),q∈rq.filter (fun q=> !W i q.1):=fun i q hq=>by
   rw[List.mem_filter] at hq ⊢
   exact ⟨hs q hq.1,hq.2⟩
  exact ⟨h.1,fun i hi=>wpOp_mono (fun a' w' h'=>⟨fun q hq=>h'.1 q (hs' i q hq),wpAnyR_mono fuel _ _ _ a' w' (hs' i) h'.2⟩) (h.2 i hi)⟩
theorem wpAnyR_first {W:Nat→Nat→Bool} (hW:∀j i,W j i=true→Waits md ops j i) {i:Nat} {oi:Oper} {v:Value} {S:World→Prop} (hi:ops[i]? =some oi) (hsel:∀(j:Nat) (o:Oper) cs b,ops[j]? =some o→o.op≠ .select cs b)
  (hQ:∀c a w,Q (.panic c) (a.put oi.dst v) w→Q (.panic c) a w):
  ∀(fuel:Nat) (rq:Rq) (listed:Array Bool) (a:Act) (w:World),Closed md ops listed→
   (∀j oj,ops[j]? =some oj→j≠i→listed.getD j true=false→(∀e∈oj.after,Region.binds md e=true→e.on≠i)→oi.apart ops oj=true)→
   i∈Region.ready md ops listed→YieldsIf P ops S oi v a→S w→(∀q∈rq,q.2 w)→
   wpAnyR P md ops Q W fuel ((i,S)::rq) (listed.setIfInBounds i true) (a.put oi.dst v) w→wpAnyR P md ops Q W (fuel+1) rq listed a w:=by
 intro fuel
 induction fuel with
 |zero=>
  intro rq listed a w hc _ hr hy hS hq H
  refine ⟨fun h=>(by rw[h] at hr;cases hr),fun j hj=> ?_⟩
  by_cases hji:j=i
  ·subst hji;exact hy.wpOp hi hS ⟨fun q h=>hq q (mem_of_filter h),H⟩
  ·have:=ready_mono hj hji
   rw[H.1] at this
   cases this
 |succ fuel ih=>
  intro rq listed a w hc hfree hr hy hS hq H
  refine ⟨fun h=>(by rw[h] at hr;cases hr),fun j hj=> ?_⟩
  by_cases hji:j=i
  ·subst hji
   exact hy.wpOp hi hS ⟨fun q h=>hq q (mem_of_filter h),wpAnyR_mono _ _ _ _ _ _ (fun q h=>List.mem_cons_of_mem _ (mem_of_filter h)) H⟩
  ·have h1:=H.2 j (ready_mono hj hji)
   obtain ⟨hjun,oj,hoj,hall⟩:=mem_ready.1 hj
   have hiun:=(mem_ready.1 hr).1
   have hnot:∀e∈oj.after,Region.binds md e=true→e.on≠i:=fun e he hb heq=>by
    have h1:=hall e he hb
    rw[heq] at h1
    rw[getD_false_of hiun] at h1
    cases h1
   have hWji:W j i=false:=by
    cases h:W j i with
    |false=>rfl
    |true=>exact absurd (hW j i h) (ready_waits hc hj hiun)
   have hfilt:(((i,S)::rq:Rq).filter fun q=> !W j q.1)=(i,S)::rq.filter fun q=> !W j q.1:=by
    rw[List.filter_cons_of_pos (by simp[hWji])]
   rw[hfilt] at h1
   have h2:=wpOp_putIf hoj (hfree j oj hoj hji hjun hnot) (fun cs b=>hsel i oi cs b hi) (fun cs b=>hsel j oj cs b hoj) hQ hy h1
   have hfree':∀k ok,ops[k]? =some ok→k≠i→(listed.setIfInBounds j true).getD k true=false→
     (∀e∈ok.after,Region.binds md e=true→e.on≠i)→oi.apart ops ok=true:=fun k ok hk hki hun hno=>by
    refine hfree k ok hk hki ?_ hno
    by_cases hjk:j=k
    ·subst hjk;exact hjun
    ·rw[getD_set_ne true hjk] at hun;exact hun
   refine wpOp_mono (fun a' w' h3=> ?_) h2
   have hq':=h3.2.1
   refine ⟨fun q h=>hq' q (List.mem_cons_of_mem _ h),ih _ (listed.setIfInBounds j true) a' w' (hc.set hj) hfree' (ready_mono hr (Ne.symm hji)) h3.1 (hq' (i,S) (by simp)) (fun q h=>hq' q (List.mem_cons_of_mem _ h)) ?_⟩
   rw[Array.setIfInBounds_comm _ _ hji]
   exact h3.2.2
end
section
variable {k:K} {env:Env} {g:G} {m:M} {cx:Cx} {dst:Nat} {σ':St} {o:Oper} {r:Res}
theorem loadOp_local {ty:TypeId} {ks:List CK} (hk:kinds cx.P ty=some ks) (hn:cx.P.cellsOf ty=ks.length) {t:Nat} (ho:o.op= .load ty (.tmp t)) {b off:Nat} (hc:m.c t= .pointer (some ⟨b,off,none⟩))
  {cs:Array Value} {tb:Nat} {fr:Nat×Nat} (hle:off+ks.length≤cs.size):
  ∃v,∀w:World,w.heap[b]? =some (.cells cs tb fr)→(execOp (vl m) o).run cx.P w= .ok (.value v) w:=by
 obtain ⟨u,i,hu,hi⟩:=info_of hk
 have hsize:i.size=ks.length:=by rw[← hn];unfold Program.cellsOf;rw[hi];rfl
 have h1:isAggB cx.P ty=false→ks.length=1:=fun h=>kinds_one hk h
 by_cases ha:isAggB cx.P ty=true
 ·refine ⟨.agg (cellsAt cs off ks.length).toArray,fun w hw=> ?_⟩
  obtain ⟨v,h2,h3⟩:=load_run (P:=cx.P) (w:=w) hw hu hi hsize hle h1
  have:v= .agg (cellsAt cs off ks.length).toArray:=by
   unfold shapeOf at h3
   rw[if_pos ha] at h3
   cases v<;>simp[cellsV] at h3
   rw[← h3]
  subst this
  simp[execOp,ho,vl,hc,Sem.run_bind,h2]
 ·refine ⟨cs.getD off undef,fun w hw=> ?_⟩
  obtain ⟨v,h2,h3⟩:=load_run (P:=cx.P) (w:=w) hw hu hi hsize hle h1
  have hn1:=h1 (by simpa using ha)
  have:v=cs.getD off undef:=by
   unfold shapeOf at h3
   rw[if_neg ha,hn1] at h3
   simp[cellsV,cellsAt] at h3
   simpa using h3
  subst this
  simp[execOp,ho,vl,hc,Sem.run_bind,h2]
def Rooted (col:Nat→Color) (roots:List Nat) (b:Nat):Prop:=col b= .stable∨∃x∈roots,x<PAR∧((∃o π,col b= .arr x o π)∨col b= .box x)
theorem load_where (hr:Rel k g m) {share:Bool} {ty:TypeId} {t:Nat} (hp:m.σ t≠[]) (h:loadOp cx share g dst ty t=some r) (he:evIs env r.is m.σ=some σ'):
  ∃ks b off cs tb fr roots,kinds cx.P ty=some ks∧cx.P.cellsOf ty=ks.length∧m.c t= .pointer (some ⟨b,off,none⟩)∧m.h[b]? =some (.cells cs tb fr)∧off+ks.length≤cs.size∧loadRoots g t=some roots∧Rooted m.col roots b:=by
 unfold loadOp at h
 simp only[zA,guardO_some,zD,beq_iff_eq,bne_iff_ne,ne_eq] at h
 obtain ⟨ks,hk,⟨⟨hn,hn0⟩,htd⟩,h⟩:=h
 split at h
 ·rename_i rs off e
  simp only[guardO_some,zD] at h
  obtain ⟨⟨hcur,_⟩,h⟩:=h
  cases h
  obtain ⟨ds,hds,_,_⟩:=set_ev he
  have hE:=hr.ent t
  rw[e] at hE
  rcases hE with hE|hE
  ·exact absurd hE hp
  obtain ⟨b,o0,cs,tb,fr,h1,h2,h3,h4,h5⟩:=hE hcur
  obtain ⟨hdl,hdg⟩:=evs_get hds
  have hle:o0+off+ks.length≤cs.size:=by
   have hj:ks.length-1<ks.length:=by omega
   have hkj:ks[ks.length-1]? =some ks[ks.length-1]:=zB hj
   obtain ⟨d,a1,a2⟩:=hdg (ks.length-1) (.c t (off+(ks.length-1))) (by rw[zK,rptrTags_get,hkj];rfl)
   have hlt:off+(ks.length-1)<(m.σ t).length:=by
    rcases zJ (off+(ks.length-1)) (m.σ t).length with h'|h'
    ·exact h'
    ·change (m.σ t)[off+(ks.length-1)]? =some d at a2
     rw[zG h'] at a2;cases a2
   omega
  refine ⟨ks,b,o0+off,cs,tb,fr,rs.map (·.1),hk,hn,h2,h1,hle,by unfold loadRoots;rw[e],?_⟩
  rcases h3 with ⟨h3,_⟩|⟨q,h3,π,h6⟩
  ·exact .inl h3
  ·exact .inr ⟨q.1,List.mem_map.2 ⟨q,h3,rfl⟩,(hr.mem.arr b _ _ _ h6).1, .inl ⟨_,π,h6⟩⟩
 ·rename_i s q v w i iv off sz e
  simp only[guardO_some,zD,beq_iff_eq,bne_iff_ne,ne_eq,decide_eq_true_eq,zA] at h
  obtain ⟨⟨⟨⟨⟨hl,hv⟩,hs⟩,hi⟩,hoff⟩,x,how,⟨hown,_⟩,h⟩:=h
  obtain ⟨d0,v0,ix,rows,b,off1,len,cap,nn,g1,g2,g3,g4,g5,g6⟩:=eptr_fact hr e hp hl hv
  have hO:=O.at ix [] (root_own (n:=x.1) (rs:=x.2) hr g1 how) g3
  obtain ⟨a1,cap1,hsl1,_,_⟩:=hO.slice
  have hlen:len=rows.length:=by injection hsl1
  have hrow:rows[nn]? =some rows[nn]:=zB (by omega)
  obtain ⟨b',off',cap',cs,tb,fr,hx,hb,hg,hrl,_,hle,hcell⟩:=hO.row hrow
  injection hx with hx1 hx2 hx3
  injection hx1 with hx1
  injection hx1 with hx1 hx4 hx5
  subst hx1 hx4
  have hixl:ix.length=w.length:=by rw[wayOf_len g2,wayW_len]
  have hb0:m.col b= .arr s q ix:=by
   have hg':gd k m.col s q x.1 x.2 (ix++[]) b:=hg
   unfold gd at hg'
   simp only[List.append_nil,hixl,hown,if_true] at hg'
   exact hg'
  exact ⟨ks,b,off1+nn*sz+off,cs,tb,fr,[s],hk,hn,g6,hb,by omega,by unfold loadRoots;rw[e], .inr ⟨s,by simp,(hr.mem.arr b _ _ _ hb0).1, .inl ⟨q,ix,hb0⟩⟩⟩
 ·rename_i hne1 hne2
  simp only[zA,guardO_some,zD,beq_iff_eq,bne_iff_ne,ne_eq,zC] at h
  obtain ⟨⟨b,off⟩,hb,⟨hlen,hbd⟩,y,hlay,h⟩:=h
  subst h
  simp only[evIs,I.ev,zA] at he
  obtain ⟨σ1,e1,he⟩:=he
  split at e1
  ·cases e1
  ·rename_i hne
   cases e1
   simp only at hne hlen
   have hpb:m.σ b≠[]:=by intro e;rw[e] at hne;simp at hne
   obtain ⟨tb,ts,hent,hbox⟩:=boxAt_ok hr hb hp
   obtain ⟨blk,cs,h1,h2,h3,h4,h5⟩:=hbox hpb
   have hts:boxTags g b=ts:=by unfold boxTags;rw[hent]
   rw[hts] at hlen
   have hle:off+ks.length≤cs.size:=by
    have:=h5.1
    simp at this
    rw[List.length_take,List.length_drop,celsOf_len] at hlen
    omega
   refine ⟨ks,blk,off,cs,tb,(0,0),[b],hk,hn,h2,h4,hle,?_, .inr ⟨b,by simp,Nat.lt_of_lt_of_le (lt_of_ent (g:=g) (s:=b) (by rw[hent];simp)) hr.small, .inr h3⟩⟩
   unfold loadRoots
   split
   ·rename_i rs off' e;exact absurd e (hne1 rs off')
   ·rename_i s q v w i iv off' sz e;exact absurd e (hne2 s q v w i iv off' sz)
   ·rw[hb];rfl
theorem Rooted.step {g':G} {m':M} {T:Nat→Prop} (S:Step k g m g' m' T) {roots:List Nat} {b:Nat} (h:Rooted m.col roots b) (hT:∀x∈roots,x<PAR→¬ T x):m'.h[b]? =m.h[b]? ∧Rooted m'.col roots b:=by
 rcases h with h|⟨x,hx,hxp,h⟩
 ·have:=S.stays b h
  exact ⟨this.1, .inl this.2⟩
 ·have hph:=(S.rest x (hT x hx hxp)).2
  have hown:(m.col b).own=some x:=by rcases h with ⟨o,π,h⟩|h<;>rw[h]<;>rfl
  have:=hph.blk b hown
  exact ⟨this.1, .inr ⟨x,hx,hxp,by rw[this.2];exact h⟩⟩
end
section
variable {k:K} {env:Env} {g:G} {m:M} {cx:Cx} {σ':St} {o:Oper} {r:Res}
theorem compOp_load {share take bs:Bool} (h:compOp cx share take bs g o=some r) {ty:TypeId} {x:Operand} (ho:o.op= .load ty x):∃t,x= .tmp t∧loadOp cx share g (o.dst.getD (cx.base+60)) ty t=some r:=by
 unfold compOp at h
 simp only at h
 rw[guardO_some,ho] at h
 obtain ⟨_,h⟩:=h
 cases x with
 |tmp t=>exact ⟨t,rfl,h⟩
 |_=>cases h
def RqOne (base:Nat) (g:G) (m:M) (roots:List Nat) (S:World→Prop):Prop:=
 (∃(blk:Option Nat) (hk:Option Obj),(∀s∈roots,s<base∨PAR≤s)∧(∀w2:World,S w2↔∀b,blk=some b→w2.heap[b]? =hk)∧∀b,blk=some b→m.h[b]? =hk∧Rooted m.col roots b)∨
 ∃(b off blk:Nat) (v:Value) (d:D) (ty:Nat) (ts:List Tag),HEAD+b∈roots∧(∀w2:World,S w2↔∃cs tb fr,w2.heap[blk]? =some (.cells cs tb fr)∧off<cs.size∧cs.getD off undef=v)∧
  m.c b= .pointer (some ⟨blk,0,none⟩)∧g.ent b= .box ty ts∧root g m b off=some (d,v)∧d.flat=false
theorem box_root {k:K} {g:G} {m:M} {b ty:Nat} {ts:List Tag} {off blk:Nat} {d:D} {v:Value} (he:g.ent b= .box ty ts) (hc:m.c b= .pointer (some ⟨blk,0,none⟩)) (h:root g m b off=some (d,v)):
  ∃cs tb fr,m.h[blk]? =some (.cells cs tb fr)∧off<cs.size∧cs.getD off undef=v:=by
 unfold root at h
 rw[he] at h
 simp only[conc,hc,boxCells] at h
 split at h
 ·rename_i d' v' h1 h2
  cases h
  split at h2
  ·rename_i cs tb fr hb
   simp at h2
   have hlt:=(Array.getElem?_eq_some_iff.1 h2).1
   exact ⟨cs,tb,fr,hb,hlt,by simp[Array.getD_eq_getD_getElem?,h2]⟩
  ·simp at h2
 ·cases h
theorem RqOne.now {base:Nat} {k:K} {g:G} {m:M} {roots:List Nat} {S:World→Prop} (h:RqOne base g m roots S) {w:World} (hw:w.heap=m.h):S w:=by
 rcases h with ⟨blk,hk,_,h2,h3⟩|⟨b,off,blk,v,d,ty,ts,_,h2,h3,h4,h5,_⟩
 ·rw[h2]
  intro b hb
  rw[hw]
  exact (h3 b hb).1
 ·rw[h2,hw]
  exact box_root (k:=k) h4 h3 h5
theorem RqOne.step {base:Nat} {k:K} {g g':G} {m m':M} {T:Nat→Prop} {roots:List Nat} {S:World→Prop} (h:RqOne base g m roots S) (hr:Rel k g m) (St:Step k g m g' m' T)
  (hT:∀s∈roots,s<PAR→(s<base∨PAR≤s)→¬ T s)
  (hH:∀s∈roots,HEAD≤s→g'.hv (s-HEAD)=g.hv (s-HEAD)∧g'.idv (s-HEAD)=g.idv (s-HEAD)∧∃ty ts,g'.ent (s-HEAD)= .box ty ts):RqOne base g' m' roots S:=by
 rcases h with ⟨blk,hk,h1,h2,h3⟩|⟨b,off,blk,v,d,ty,ts,h1,h2,h3,h4,h5,h6⟩
 ·refine .inl ⟨blk,hk,h1,h2,fun b hb=> ?_⟩
  obtain ⟨h4,h5⟩:=h3 b hb
  obtain ⟨h6,h7⟩:=h5.step St (fun x hx hp=>hT x hx hp (h1 x hx))
  exact ⟨h6.trans h4,h7⟩
 ·obtain ⟨e1,e2,ty',ts',e3⟩:=hH (HEAD+b) h1 (by omega)
  rw[Nat.add_sub_cancel_left] at e1 e2 e3
  have hk:=St.keeps hr b
  obtain ⟨d',r1,r2⟩:=hk.hd e1 off d v h5 h6
  exact .inr ⟨b,off,blk,v,d',ty',ts',h1,h2,by rw[hk.id e2,h3],e3,r1,r2.flat⟩
theorem head_ok (hr:Rel k g m) {ty t b off:Nat} (hp:m.σ t≠[]) (hpb:m.σ b≠[]) (ho:o.op= .load ty (.tmp t)) (hh:isHead cx.P g o.op=some (b,off)):
  ∃(blk:Nat) (v:Value) (d:D) (tb:Nat) (ts:List Tag),isAggB cx.P ty=false∧(∃kk,kinds cx.P ty=some [kk])∧g.ent b= .box tb ts∧m.c b= .pointer (some ⟨blk,0,none⟩)∧m.c t= .pointer (some ⟨blk,off,none⟩)∧root g m b off=some (d,v)∧d.flat=false:=by
 unfold isHead at hh
 rw[ho] at hh
 simp only at hh
 split at hh
 ·cases hh
 ·cases hh
 ·simp only[zA] at hh
  obtain ⟨p,hb,hh⟩:=hh
  split at hh
  ·rename_i kk hk
   split at hh
   ·rename_i n rs htag
    rw[guardO_some] at hh
    obtain ⟨hc,hh⟩:=hh
    cases hh
    simp only[zD,Bool.not_eq_true'] at hc
    obtain ⟨tb,ts,hent,hbox⟩:=boxAt_ok hr hb hp
    obtain ⟨blk,cs,h1,h2,h3,h4,h5⟩:=hbox hpb
    have htag':ts.getD off .dead= .own n rs:=by
     unfold tagAt at htag
     rw[hent] at htag
     exact htag
    have hto:ts[off]? =some (.own n rs):=by
     rw[zM] at htag'
     cases hq:ts[off]? with
     |none=>rw[hq] at htag';cases htag'
     |some t'=>rw[hq] at htag';simp at htag';rw[htag']
    have hlt:off<ts.length:=(zE.1 hto).1
    obtain ⟨d,hd⟩:∃d,(m.σ b)[off]? =some d:=⟨_,zB (by rw[h5.2.1];exact hlt)⟩
    obtain ⟨v,hv⟩:∃v,cs.toList[off]? =some v:=⟨_,zB (by rw[h5.1];exact hlt)⟩
    have hcell:=h5.2.2.2 off _ _ _ hto hd hv
    refine ⟨blk,v,d,tb,ts,hc.1.2,⟨kk,hk⟩,hent,h1,h2,?_,hcell.1⟩
    unfold root
    rw[hent]
    simp only[conc,h1,boxCells,h4,Option.bind_some,hd,hv]
   ·cases hh
  ·cases hh
theorem loadOp_head {ty:TypeId} {kk:CK} (hk:kinds cx.P ty=some [kk]) (hn:cx.P.cellsOf ty=1) (ha:isAggB cx.P ty=false) {t:Nat} (ho:o.op= .load ty (.tmp t)) {b off:Nat} (hc:m.c t= .pointer (some ⟨b,off,none⟩))
  {v:Value} {w:World} (hw:∃cs tb fr,w.heap[b]? =some (.cells cs tb fr)∧off<cs.size∧cs.getD off undef=v):(execOp (vl m) o).run cx.P w= .ok (.value v) w:=by
 obtain ⟨cs,tb,fr,hb,hlt,rfl⟩:=hw
 obtain ⟨u,i,hu,hi⟩:=info_of hk
 have hsize:i.size=1:=by rw[← hn];unfold Program.cellsOf;rw[hi];rfl
 obtain ⟨v,h2,h3⟩:=load_run (P:=cx.P) (w:=w) (off:=off) hb hu hi hsize (by omega) (fun _=>rfl)
 have:v=cs.getD off undef:=by
  unfold shapeOf at h3
  rw[if_neg (by rw[ha];simp)] at h3
  simp[cellsV,cellsAt] at h3
  simpa using h3
 subst this
 simp[execOp,ho,vl,hc,Sem.run_bind,h2]
theorem loadOp_chk {share:Bool} {ty t dst:Nat} {r:Res} {b off:Nat} (ho:o.op= .load ty (.tmp t)) (hh:isHead cx.P g o.op=some (b,off)) (h:loadOp cx share g dst ty t=some r) (he:evIs env r.is m.σ=some σ'):m.σ b≠[]∧cx.P.cellsOf ty=1:=by
 unfold isHead at hh
 rw[ho] at hh
 simp only at hh
 unfold loadOp at h
 simp only[zA,guardO_some,zD,beq_iff_eq,bne_iff_ne,ne_eq] at h
 obtain ⟨ks,hk,⟨⟨hn,hn0⟩,htd⟩,h⟩:=h
 split at hh
 ·cases hh
 ·cases hh
 ·rename_i hne1 hne2
  simp only[zA] at hh
  obtain ⟨p,hb,hh⟩:=hh
  split at hh
  ·rename_i kk hk'
   rw[hk] at hk'
   cases hk'
   split at hh
   ·rw[guardO_some] at hh
    obtain ⟨_,hh⟩:=hh
    cases hh
    split at h
    ·rename_i rs off' e;exact absurd e (hne1 rs off')
    ·rename_i s q v w i iv off' sz e;exact absurd e (hne2 s q v w i iv off' sz)
    ·simp only[zA,guardO_some,zD,beq_iff_eq,bne_iff_ne,ne_eq,zC] at h
     obtain ⟨p',hb',_,y,hlay,h⟩:=h
     rw[hb] at hb'
     cases hb'
     subst h
     simp only[evIs,I.ev,zA] at he
     obtain ⟨σ1,e1,he⟩:=he
     split at e1
     ·cases e1
     ·rename_i hne
      exact ⟨fun e=>by rw[e] at hne;simp at hne,by simpa using hn⟩
   ·cases hh
  ·cases hh
theorem quiet_yields (hr:Rel k g m) (hlen:g.length=cx.base+61) {share take bs:Bool} (h:compOp cx share take bs g o=some r) (he:evIs env (chks o.op++r.is) m.σ=some σ') (hq:quietB cx.P o.op=true) (hrt:∀s∈rootsOf cx.P g o.op,s<cx.base∨PAR≤s) {w:World} (hw:w.heap=m.h):
  ∃v c' col' S,(∀w2:World,S w2→(execOp (vl m) o).run cx.P w2= .ok (.value v) w2)∧(∀t,t<cx.base→c' t=if o.dst=some t then v else m.c t)∧
   Step k g m r.g ⟨σ',c',m.h,col'⟩ (TT cx (o.dst.getD (cx.base+60)) r.t)∧RqOne cx.base g m (rootsOf cx.P g o.op) S:=by
 have hnb:∀c f,o.op= .call c→c.callee≠ .value (.func f):=fun c f hop hf=>by
  rw[hop] at hq
  simp[quietB,hf] at hq
 have D:=comp_done hr hlen h he hnb
 obtain ⟨n,v,h',dr,c',col',h1,h2,h3,h4⟩:=D.1 w hw
 by_cases hl:isLoad o.op=true
 ·obtain ⟨ty,x,hop⟩:∃ty x,o.op= .load ty x:=by
   unfold isLoad at hl
   split at hl
   ·rename_i ty x e;exact ⟨ty,x,e⟩
   ·cases hl
  obtain ⟨t,rfl,hld⟩:=compOp_load h hop
  obtain ⟨hh,he2⟩:=chks_here he
  have hp:m.σ t≠[]:=hh (fun c' a' b' e=>by rw[hop] at e;cases e) t (by simp[hop,Op.operands])
  obtain ⟨v2,S,hv2,hS⟩:∃v2 S,(∀w2:World,S w2→(execOp (vl m) o).run cx.P w2= .ok (.value v2) w2)∧RqOne cx.base g m (rootsOf cx.P g o.op) S:=by
   cases hhd:isHead cx.P g o.op with
   |none=>
    obtain ⟨ks,b,off,cs,tb,fr,roots,l1,l2,l3,l4,l5,l6,l7⟩:=load_where hr hp hld he2
    obtain ⟨v2,hv2⟩:=loadOp_local l1 l2 hop l3 (tb:=tb) (fr:=fr) l5
    refine ⟨v2,fun w2=>∀b',some b=some b'→w2.heap[b']? =m.h[b]?,fun w2 hS=>hv2 w2 (by rw[hS b rfl];exact l4), .inl ⟨some b,m.h[b]?,hrt,fun _=>Iff.rfl,fun b' hb'=> ?_⟩⟩
    cases hb'
    refine ⟨rfl,?_⟩
    unfold rootsOf
    rw[hhd,hop]
    simp only[l6,Option.getD_some]
    exact l7
   |some p=>
    obtain ⟨b,off⟩:=p
    obtain ⟨hpb,hcells⟩:=loadOp_chk hop hhd hld he2
    obtain ⟨blk,v2,d,tb,ts,l1,⟨kk,l2⟩,l3,l4,l5,l6,l7⟩:=head_ok (cx:=cx) hr hp hpb hop hhd
    refine ⟨v2,fun w2=>∃cs tb fr,w2.heap[blk]? =some (.cells cs tb fr)∧off<cs.size∧cs.getD off undef=v2,fun w2 hS=>loadOp_head l2 hcells l1 hop l5 hS, .inr ⟨b,off,blk,v2,d,tb,ts,?_,fun _=>Iff.rfl,l4,l3,l6,l7⟩⟩
    unfold rootsOf
    rw[hhd]
    simp
  have hrun:=hv2 w (hS.now (k:=k) hw)
  rw[hrun] at h2
  injection h2 with e1 e2
  have hh':h'=m.h:=by
   have:=congrArg World.heap e2
   simp at this
   rw[← this,hw]
  subst hh'
  rcases h1 with h1|⟨h1,_⟩
  ·rw[h1] at e1
   injection e1 with e1
   subst e1
   exact ⟨v2,c',col',S,hv2,h3,h4,hS⟩
  ·rw[h1] at e1;cases e1
 ·obtain ⟨v2,hv2⟩:=D.2 hq (by simpa using hl)
  have hrun:=hv2 w
  rw[hrun] at h2
  injection h2 with e1 e2
  have hh':h'=m.h:=by
   have:=congrArg World.heap e2
   simp at this
   rw[← this,hw]
  subst hh'
  rcases h1 with h1|⟨h1,_⟩
  ·rw[h1] at e1
   injection e1 with e1
   subst e1
   exact ⟨v2,c',col',fun w2=>∀b,(none:Option Nat)=some b→w2.heap[b]? =none,fun w2 _=>hv2 w2,h3,h4, .inl ⟨none,none,hrt,fun _=>Iff.rfl,fun b hb=>by cases hb⟩⟩
  ·rw[h1] at e1;cases e1
theorem early_step (hr:Rel k g m) (hlen:g.length=cx.base+61) {ops:List Oper} {share take:Bool} {done:List Nat} {gd:Option (Nat×Bool)} (h:OneOk cx ops share take done g o r gd) (hpar:cx.base<PAR) (hq:quietB cx.P o.op=true) (hrt:∀s∈rootsOf cx.P g o.op,s<cx.base∨PAR≤s)
  (he:LI.ev env m.σ ⟨gd,o.dst,nbOf ops o,chks o.op++r.is⟩=some σ') {a:Act} (hfr:Fr cx.base a m.c) (hnb:Nb cx.base m done) {w:World} (hw:w.heap=m.h):
  ∃v m' S,YieldsIf cx.P ops.toArray S o v a∧m'.σ=σ'∧m'.h=m.h∧Fr cx.base (a.put o.dst v) m'.c∧Step k g m r.g m' (TT cx (o.dst.getD (cx.base+60)) r.t)∧Nb cx.base m' (doneOf ops o done)∧
   RqOne cx.base g m (rootsOf cx.P g o.op) S:=by
 have hdone:∀d∈done,¬ TT cx (o.dst.getD (cx.base+60)) r.t d:=fun d hd ht=>by
  have hdb:=(hnb d hd).1
  rcases ht with ht|ht|ht|ht
  ·exact h.t d ht hd
  ·cases hq:o.dst with
   |none=>rw[hq] at ht;simp at ht;omega
   |some d'=>rw[hq] at ht;simp at ht;subst ht;exact (h.dst d hq).2 hd
  ·omega
  ·omega
 obtain ⟨hs,hcall⟩:=compOp_kind h.comp
 have hbi:∀c,o.op= .call c→∃b,c.callee= .builtin b:=fun c hop=>(hcall c hop).resolve_right (by
  rintro ⟨f,hf,_⟩
  rw[hop] at hq
  simp[quietB,hf] at hq)
 have hG:=guard_ok hr h.guard hnb hfr
 have run:Region.wanted o (yielded ops.toArray a.tmps)=true→LI.run env m.σ ⟨gd,o.dst,nbOf ops o,chks o.op++r.is⟩=some σ'→∃v m' S,YieldsIf cx.P ops.toArray S o v a∧m'.σ=σ'∧m'.h=m.h∧Fr cx.base (a.put o.dst v) m'.c∧Step k g m r.g m' (TT cx (o.dst.getD (cx.base+60)) r.t)∧Nb cx.base m' (doneOf ops o done)∧
   RqOne cx.base g m (rootsOf cx.P g o.op) S:=fun hw2 he=>by
  simp only[LI.run,zA] at he
  obtain ⟨σ1,he1,he2⟩:=he
  split at he2
  ·rename_i hnbk
   cases he2
   obtain ⟨v,c',col',S,q1,q2,q3,q4⟩:=quiet_yields hr hlen h.comp he1 hq hrt hw
   refine ⟨v,⟨σ',c',m.h,col'⟩,S, .inl ⟨hw2,fun w2 hS=>by rw[execOp_fr hfr h.opers hs hbi];exact q1 w2 hS⟩,rfl,rfl,hfr.put q2,q3,?_,q4⟩
   have hk:=hnb.keep q3 hdone
   unfold doneOf
   split
   ·rename_i hnbo
    intro d hd
    rcases zT.1 hd with hd|hd
    ·cases hqd:o.dst with
     |none=>rw[hqd] at hd;simp at hd
     |some d'=>
      rw[hqd] at hd
      simp at hd
      subst hd
      refine ⟨(h.dst d hqd).1,fun h0=> ?_⟩
      unfold LI.nbOk at hnbk
      simp only[hnbo,hqd] at hnbk
      simp only at h0
      rw[h0] at hnbk
      simp at hnbk
    ·exact hk d hd
   ·exact hk
  ·cases he2
 have skip:Region.wanted o (yielded ops.toArray a.tmps)=false→gd≠none→LI.skip m.σ ⟨gd,o.dst,nbOf ops o,chks o.op++r.is⟩=σ'→∃v m' S,YieldsIf cx.P ops.toArray S o v a∧m'.σ=σ'∧m'.h=m.h∧Fr cx.base (a.put o.dst v) m'.c∧Step k g m r.g m' (TT cx (o.dst.getD (cx.base+60)) r.t)∧Nb cx.base m' (doneOf ops o done)∧
   RqOne cx.base g m (rootsOf cx.P g o.op) S:=fun hw2 hg hsk=>by
  obtain ⟨d,hd,ht,hwf,hg'⟩:=h.skip hg
  have hdb:=(h.dst d hd).1
  have S:=Step.skip (v:=undef) hr (s:=d) (by rw[hlen];exact Nat.lt_of_lt_of_le hdb (by omega)) (e:=r.g.ent d) (by rw[← hg'];exact hwf)
  rw[← hg'] at S
  have S':Step k g m r.g ⟨m.σ.upd d [],updC m.c d undef,m.h,dropCol m.col d⟩ (TT cx (o.dst.getD (cx.base+60)) r.t):=S.mono hr fun x hx=>by
   rw[hd]
   rcases hx with hx|hx
   ·exact .inr (.inl hx)
   ·exact .inr (.inr (.inr hx))
  refine ⟨undef,⟨m.σ.upd d [],updC m.c d undef,m.h,dropCol m.col d⟩,fun w2=>∀b,(none:Option Nat)=some b→w2.heap[b]? =none, .inr ⟨hw2,rfl⟩,?_,rfl,?_,S',?_, .inl ⟨none,none,hrt,fun _=>Iff.rfl,fun b hb=>by cases hb⟩⟩
  ·rw[← hsk]
   unfold LI.skip
   simp only[hd]
  ·refine hfr.put fun t ht=> ?_
   rw[hd]
   simp only[updC,Option.some.injEq]
   by_cases e:t=d
   ·simp[e]
   ·rw[if_neg e,if_neg (fun e'=>e e'.symm)]
  ·have hk:=hnb.keep S' hdone
   unfold doneOf
   split
   ·intro d' hd'
    rcases zT.1 hd' with hd'|hd'
    ·rw[hd] at hd'
     simp at hd'
     subst hd'
     refine ⟨hdb,fun _ b=> ?_⟩
     simp[updC,undef]
    ·exact hk d' hd'
   ·exact hk
 unfold LI.ev at he
 cases gd with
 |none=>exact run hG he
 |some p=>
  obtain ⟨d,want⟩:=p
  simp only at he hG
  split at he
  ·rename_i b hb
   have h1:=hG.1 b hb
   split at he
   ·rename_i e
    exact run (by rw[h1,e];simp) he
   ·rename_i e
    exact skip (by rw[h1];simpa using e) (by simp) (zU he)
  ·rename_i h0
   exact skip (hG.2 h0) (by simp) (zU he)
  ·cases he
end
theorem depOn_mem {o:Oper} {i:Nat}:i∈depOn o↔∃e∈o.after,Region.binds .any e=true∧e.on=i:=by
 unfold depOn
 simp only[List.mem_filterMap]
 constructor
 ·rintro ⟨e,he,h⟩
  split at h
  ·rename_i hb
   exact ⟨e,by simpa using he,hb,by simpa using h⟩
  ·cases h
 ·rintro ⟨e,he,hb,rfl⟩
  exact ⟨e,by simpa using he,by rw[if_pos hb]⟩
theorem reach_ok {ops:List Oper} {R:Nat→Prop} (hR:∀j o,R j→ops[j]? =some o→∀d∈depOn o,R d):∀(f:Nat) (fr vis:List Nat),(∀j∈fr,R j)→(∀j∈vis,R j)→∀j∈reach ops f fr vis,R j
 |0,_,vis,_,hv,j,hj=>hv j hj
 |f+1,[],vis,_,hv,j,hj=>hv j hj
 |f+1,x::fr,vis,hf,hv,j,hj=>by
  rw[reach] at hj
  split at hj
  ·exact reach_ok hR f fr vis (fun y hy=>hf y (by simp[hy])) hv j hj
  ·refine reach_ok hR f _ _ (fun y hy=> ?_) (fun y hy=> ?_) j hj
   ·rcases zT.1 hy with hy|hy
    ·split at hy
     ·rename_i o ho;exact hR x o (hf x (by simp)) ho y hy
     ·cases hy
    ·exact hf y (by simp[hy])
   ·rcases List.mem_cons.1 hy with rfl|hy
    ·exact hf _ (by simp)
    ·exact hv y hy
theorem Waits.snoc {ops:Array Oper} {j i l:Nat} (h:Waits .any ops j i) {o:Oper} (ho:ops[i]? =some o) {e:Edge} (he:e∈o.after) (hb:Region.binds .any e=true) (hl:e.on=l):Waits .any ops j l:=by
 induction h with
 |one ho' he' hb' hi=>exact .more ho' he' hb' hi (.one ho he hb hl)
 |more ho' he' hb' hl' _ ih=>exact .more ho' he' hb' hl' (ih ho)
theorem waitsB_ok {ops:List Oper} {j i:Nat} (h:waitsB ops j i=true):Waits .any ops.toArray j i:=by
 unfold waitsB at h
 split at h
 ·rename_i o ho
  have ho':ops.toArray[j]? =some o:=by simpa using ho
  refine reach_ok (R:=fun l=>Waits .any ops.toArray j l) (fun l o' hl ho2 d hd=> ?_) 4000 (depOn o) [] (fun l hl=> ?_) (fun l hl=>by cases hl) i (by simpa using h)
  ·obtain ⟨e,he,hb,hd⟩:=depOn_mem.1 hd
   exact hl.snoc (by simpa using ho2) he hb hd
  ·obtain ⟨e,he,hb,hd⟩:=depOn_mem.1 hl
   exact .one ho' he hb hd
 ·cases h
structure Listed (ops:List Oper) (listed:List Nat) (arr:Array Bool):Prop where
 size:arr.size=ops.length
 mem:∀j,j<ops.length→arr.getD j true=listed.contains j
 low:∀j∈listed,j<ops.length
theorem Listed.getF {ops:List Oper} {listed:List Nat} {arr:Array Bool} (h:Listed ops listed arr) (j:Nat):arr.getD j false=listed.contains j:=by
 by_cases hj:j<ops.length
 ·have:=h.mem j hj
  rw[← this]
  have hs:j<arr.size:=by rw[h.size];exact hj
  simp[Array.getD_eq_getD_getElem?,hs]
 ·have hs:¬ j<arr.size:=by rw[h.size];exact hj
  have hn:listed.contains j=false:=by
   cases hc:listed.contains j with
   |false=>rfl
   |true=>exact absurd (h.low j (by simpa using hc)) hj
  rw[hn]
  simp[Array.getD_eq_getD_getElem?,Array.getElem?_eq_none (Nat.le_of_not_lt hs)]
theorem Listed.ready {ops:List Oper} {listed:List Nat} {arr:Array Bool} (h:Listed ops listed arr):Region.ready .any ops.toArray arr=(List.range ops.length).filter (readyB ops listed):=by
 unfold Region.ready
 simp only[List.size_toArray]
 apply List.filter_congr
 intro j hj
 rw[List.mem_range] at hj
 unfold readyB
 rw[h.mem j hj]
 congr 1
 have:ops.toArray[j]? =ops[j]? :=by simp
 rw[this]
 cases ho:ops[j]? with
 |none=>rfl
 |some o=>
  simp only[Option.map_some,Option.getD_some]
  rw[Bool.eq_iff_iff,Array.all_eq_true_iff_forall_mem,zL]
  constructor
  ·intro hh d hd
   obtain ⟨e,he,hb,rfl⟩:=depOn_mem.1 hd
   have:=hh e he
   rw[hb] at this
   rw[← h.getF]
   simpa using this
  ·intro hh e he
   cases hb:Region.binds .any e with
   |false=>rfl
   |true=>
    have:=hh e.on (depOn_mem.2 ⟨e,he,hb,rfl⟩)
    rw[h.getF,this]
    rfl
theorem Listed.set {ops:List Oper} {listed:List Nat} {arr:Array Bool} (h:Listed ops listed arr) {i:Nat} (hi:i<ops.length):Listed ops (i::listed) (arr.setIfInBounds i true):=by
 refine ⟨by simp[h.size],fun j hj=> ?_,fun j hj=> ?_⟩
 ·by_cases hij:i=j
  ·subst hij
   have hs:i<arr.size:=by rw[h.size];exact hi
   simp[Array.getD_eq_getD_getElem?,hs]
  ·rw[getD_set_ne true hij,h.mem j hj]
   simp[Ne.symm hij]
 ·rcases List.mem_cons.1 hj with rfl|hj
  ·exact hi
  ·exact h.low j hj
theorem looksB_eq {ops:List Oper} {o:Oper}:looksB ops o=o.looksAt ops.toArray:=by
 unfold looksB Oper.looksAt
 congr 1
 cases o.guard with
 |none=>rfl
 |some p=>
  obtain ⟨g,b⟩:=p
  have:ops.toArray[g]? =ops[g]? :=by simp
  simp only[this]
  cases ops[g]? <;>rfl
theorem apartB_eq {ops:List Oper} {x y:Oper}:apartB ops x y=x.apart ops.toArray y:=by
 unfold apartB Oper.apart
 rw[looksB_eq,looksB_eq]
 cases x.dst<;>cases y.dst<;>rfl
theorem freeB_ok {ops:List Oper} {listed:List Nat} {arr:Array Bool} (h:Listed ops listed arr) {i:Nat} {oi:Oper} (hf:freeB ops listed i oi=true) (j:Nat) (oj:Oper) (hj:ops.toArray[j]? =some oj) (hne:j≠i) (hun:arr.getD j true=false)
  (hno:∀e∈oj.after,Region.binds .any e=true→e.on≠i):oi.apart ops.toArray oj=true:=by
 have hj':ops[j]? =some oj:=by simpa using hj
 have hjl:j<ops.length:=(zE.1 hj').1
 unfold freeB at hf
 have:=zL.1 hf j (List.mem_range.2 hjl)
 rw[h.mem j hjl] at hun
 simp only[hj',hun,Bool.or_false,Bool.or_eq_true,beq_iff_eq,hne,false_or] at this
 rcases this with h1|h1
 ·have:i∈depOn oj:=by simpa using h1
  obtain ⟨e,he,hb,hi⟩:=depOn_mem.1 this
  exact absurd hi (hno e he hb)
 ·rw[← apartB_eq];exact h1
section
variable {cx:Cx} {k:K} {env:Env} {ops:List Oper} {share take:Bool} {Q:Exit→Act→World→Prop}
def RqOk (base:Nat) (g:G) (m:M) (rqR:List (Nat×List Nat)) (rqS:Rq):Prop:=
 ∀q∈rqS,∃roots,(q.1,roots)∈rqR∧RqOne base g m roots q.2
theorem apartR_ok {g g':G} {rq:List (Nat×List Nat)} {touched:List Nat} (h:apartR g g' rq touched=true) {x:Nat×List Nat} (hx:x∈rq) {s:Nat} (hs:s∈x.2):
  (HEAD≤s→g'.hv (s-HEAD)=g.hv (s-HEAD)∧g'.idv (s-HEAD)=g.idv (s-HEAD)∧∃ty ts,g'.ent (s-HEAD)= .box ty ts)∧(¬ HEAD≤s→s ∉ touched):=by
 have:=zL.1 (zL.1 h x hx) s hs
 refine ⟨fun hh=> ?_,fun hh=> ?_⟩
 ·rw[if_pos hh] at this
  simp only[zD,decide_eq_true_eq] at this
  refine ⟨this.1.1,this.1.2,?_⟩
  have h3:=this.2
  split at h3
  ·rename_i ty ts e;exact ⟨ty,ts,e⟩
  ·cases h3
 ·rw[if_neg hh] at this
  simpa using this
theorem RqOk.step {base:Nat} {g g':G} {m m':M} {T:Nat→Prop} {rqR rqR':List (Nat×List Nat)} {rqS rqS':Rq} (h:RqOk base g m rqR rqS) (hr:Rel k g m) (S:Step k g m g' m' T) (hs:∀q∈rqS',q∈rqS) (hR:∀q∈rqS',∀roots,(q.1,roots)∈rqR→(q.1,roots)∈rqR')
  (hT:∀x∈rqR',∀s∈x.2,s<PAR→(s<base∨PAR≤s)→¬ T s)
  (hH:∀x∈rqR',∀s∈x.2,HEAD≤s→g'.hv (s-HEAD)=g.hv (s-HEAD)∧g'.idv (s-HEAD)=g.idv (s-HEAD)∧∃ty ts,g'.ent (s-HEAD)= .box ty ts):RqOk base g' m' rqR' rqS':=fun q hq=>by
 obtain ⟨roots,h1,h2⟩:=h q (hs q hq)
 have hmem:=hR q hq roots h1
 exact ⟨roots,hmem,h2.step hr S (hT _ hmem) (hH _ hmem)⟩
theorem RqOk.now {base:Nat} {k:K} {g:G} {m:M} {rqR:List (Nat×List Nat)} {rqS:Rq} (h:RqOk base g m rqR rqS) {w:World} (hw:w.heap=m.h):∀q∈rqS,q.2 w:=fun q hq=>by
 obtain ⟨roots,_,h2⟩:=h q hq
 exact h2.now (k:=k) hw
theorem noSel_ok (h:noSel ops=true) (j:Nat) (o:Oper) (cs:Array SelectCase) (b:Bool) (ho:ops.toArray[j]? =some o):o.op≠ .select cs b:=fun e=>by
 have ho':ops[j]? =some o:=by simpa using ho
 have:=zL.1 h o (zF ho')
 rw[e] at this
 cases this
theorem nextOp_ok {P:Program} {listed:List Nat} {e:Bool} {i:Nat} (h:nextOp P ops listed=some (e,i)):readyB ops listed i=true∧i<ops.length∧(e=false→(List.range ops.length).filter (readyB ops listed)=[i])∧
  (e=true→∀o,ops[i]? =some o→quietB P o.op=true∧freeB ops listed i o=true):=by
 unfold nextOp at h
 split at h
 ·rename_i j hj
  cases h
  have hm:i∈(List.range ops.length).filter (readyB ops listed):=by rw[hj];simp
  rw[List.mem_filter,List.mem_range] at hm
  exact ⟨hm.2,hm.1,fun _=>hj,fun e=>(by cases e)⟩
 ·rw[zC] at h
  obtain ⟨j,hj,h⟩:=h
  cases h
  have hm:=List.mem_of_find?_eq_some hj
  have hp:=List.find?_some hj
  rw[List.mem_filter,List.mem_range] at hm
  refine ⟨hm.2,hm.1,fun e=>(by cases e),fun _ o ho=> ?_⟩
  rw[ho] at hp
  simpa using hp
end
theorem eqL_ok {α:Type} {f:α→α→Bool} (hf:∀a b,f a b=true→a=b):∀(l l':List α),eqL f l l'=true→l=l'
 | [],[],_=>rfl
 | [],_::_,h=>by cases h
 |_::_,[],h=>by cases h
 |x::xs,y::ys,h=>by
  rw[eqL,zD] at h
  rw[hf _ _ h.1,eqL_ok hf _ _ h.2]
theorem D.eqb0_ok:∀(a b:D),a.eqb0 b=true→a=b:=by
 intro a b h
 unfold D.eqb0 at h
 split at h<;>simp_all
theorem Src.eqb_ok:∀(a b:Src),a.eqb b=true→a=b:=by
 intro a b h
 unfold Src.eqb at h
 split at h
 ·rw[D.eqb0_ok _ _ h]
 all_goals simp_all [eqW]
theorem Arg.eqb_ok:∀(a b:Arg),a.eqb b=true→a=b:=by
 intro a b h
 unfold Arg.eqb at h
 split at h
 ·simp only[zD,decide_eq_true_eq,eqMu] at h
  rw[eqL_ok Src.eqb_ok _ _ h.1.1,h.1.2,h.2]
 all_goals simp_all
theorem I.eqv_ok:∀(a b:I),a.eqv b=true→a=b:=by
 intro a b h
 unfold I.eqv at h
 split at h<;>(try simp only[zD,decide_eq_true_eq,beq_iff_eq,eqW] at h)
 ·rw[h]
 ·rw[h.1.1,eqL_ok Src.eqb_ok _ _ h.1.2,h.2]
 ·rw[h.1,h.2]
 ·rw[h.1.1.1.1,h.1.1.1.2,h.1.1.2,eqL_ok Src.eqb_ok _ _ h.1.2,h.2]
 ·rw[h.1.1,h.1.2,h.2]
 ·rw[h.1.1.1,h.1.1.2,Src.eqb_ok _ _ h.1.2,Src.eqb_ok _ _ h.2]
 ·rw[h.1,Src.eqb_ok _ _ h.2]
 ·rw[h.1.1.1,h.1.1.2,Src.eqb_ok _ _ h.1.2,Src.eqb_ok _ _ h.2]
 ·rw[h.1.1.1,h.1.1.2,Src.eqb_ok _ _ h.1.2,Src.eqb_ok _ _ h.2]
 ·rw[h.1,Src.eqb_ok _ _ h.2]
 ·rw[h.1.1.1.1,h.1.1.1.2,Src.eqb_ok _ _ h.1.1.2,Src.eqb_ok _ _ h.1.2,h.2]
 ·rw[h.1.1,h.1.2,eqL_ok (eqL_ok Src.eqb_ok) _ _ h.2]
 ·rw[h.1.1,eqL_ok D.eqb0_ok _ _ h.1.2,Src.eqb_ok _ _ h.2]
 ·rw[h.1.1,eqL_ok Arg.eqb_ok _ _ h.1.2,h.2]
 ·cases h
theorem LI.eqb_ok {a b:LI} (h:a.eqb b=true):a=b:=by
 unfold LI.eqb at h
 simp only[zD,decide_eq_true_eq,beq_iff_eq] at h
 cases a;cases b
 simp only at h
 rw[h.1.1.1,h.1.1.2,h.1.2,eqL_ok I.eqv_ok _ _ h.2]
def Agr (rs:List Nat) (σ τ:St):Prop:=∀s∈rs,σ s=τ s
theorem Agr.sub {rs qs:List Nat} {σ τ:St} (h:Agr rs σ τ) (hs:∀s∈qs,s∈rs):Agr qs σ τ:=fun s hq=>h s (hs s hq)
theorem Agr.l {rs qs:List Nat} {σ τ:St} (h:Agr (rs++qs) σ τ):Agr rs σ τ:=h.sub fun _ hs=>List.mem_append_left _ hs
theorem Agr.r {rs qs:List Nat} {σ τ:St} (h:Agr (rs++qs) σ τ):Agr qs σ τ:=h.sub fun _ hs=>zQ _ hs
theorem Agr.hd {r:Nat} {qs:List Nat} {σ τ:St} (h:Agr (r::qs) σ τ):σ r=τ r:=h r (by simp)
theorem Agr.tl {r:Nat} {qs:List Nat} {σ τ:St} (h:Agr (r::qs) σ τ):Agr qs σ τ:=h.sub fun _ hs=>List.mem_cons_of_mem _ hs
theorem wayOf_agr {σ τ:St}:∀{w:List (Nat×Nat)},Agr (w.map (·.1)) σ τ→wayOf σ w=wayOf τ w
 | [],_=>rfl
 |(r,o)::w,h=>by
  simp only[List.map_cons] at h
  rw[wayOf,wayOf,wayOf_agr h.tl]
  unfold idxOf
  rw[h.hd]
theorem Src.agr {σ τ:St}:∀{x:Src},Agr x.reads σ τ→x.ev σ=x.ev τ
 | .cst d,_=>rfl
 | .c s k,h=>by simp only[Src.ev];rw[h.hd]
 | .p s k w,h=>by simp only[Src.ev];rw[h.hd,wayOf_agr h.tl]
 | .bx s,h=>by simp only[Src.ev];rw[h.hd]
theorem evs_agr {σ τ:St}:∀{xs:List Src},Agr (xs.flatMap Src.reads) σ τ→evs σ xs=evs τ xs
 | [],_=>rfl
 |x::xs,h=>by
  rw[List.flatMap_cons] at h
  rw[evs,evs,Src.agr h.l,evs_agr h.r]
theorem evLive_agr {σ τ:St} {xs:List Src} (h:Agr (xs.flatMap Src.reads) σ τ):evLive σ xs=evLive τ xs:=by
 unfold evLive
 rw[evs_agr h]
theorem mapM_agr {σ τ:St}:∀{rows:List (List Src)},Agr (rows.flatMap fun r=>r.flatMap Src.reads) σ τ→rows.mapM (evs σ)=rows.mapM (evs τ)
 | [],_=>rfl
 |x::xs,h=>by
  rw[List.flatMap_cons] at h
  simp only[List.mapM_cons]
  rw[evs_agr h.l,mapM_agr h.r]
theorem argIn_agr {σ τ:St}:∀{a:Arg},Agr a.reads σ τ→argIn σ a=argIn τ a
 | .v xs fl mu,h=>by simp only[argIn];rw[evLive_agr (h.sub fun s hs=>List.mem_append_left _ hs)]
 | .bx s,h=>by simp only[argIn];rw[h s (by simp[Arg.reads])]
theorem argsIn_agr {σ τ:St}:∀{l:List Arg},Agr (l.flatMap Arg.reads) σ τ→argsIn σ l=argsIn τ l
 | [],_=>rfl
 |a::l,h=>by
  rw[List.flatMap_cons] at h
  rw[argsIn,argsIn,argIn_agr h.l,argsIn_agr h.r]
def Sim (ws:List Nat) (a b:Option St):Prop:=match a,b with
 |none,none=>True
 |some σ,some τ=>Agr ws σ τ
 |_,_=>False
theorem Sim.none {ws:List Nat}:Sim ws none none:=trivial
theorem upd_agr {rs:List Nat} {σ τ:St} (h:Agr rs σ τ) (s:Nat) (xs:List D):Agr (rs++[s]) (σ.upd s xs) (τ.upd s xs):=fun t ht=>by
 unfold St.upd
 split
 ·rfl
 ·rename_i hne
  rcases zT.1 ht with ht|ht
  ·exact h t ht
  ·simp at ht;exact absurd ht hne
theorem upd_agr1 {σ τ:St} (s:Nat) (xs:List D):Agr [s] (σ.upd s xs) (τ.upd s xs):=fun t ht=>by
 simp at ht
 simp[St.upd,ht]
theorem upd_ne {σ:St} {s t:Nat} {xs:List D} (h:t≠s):(σ.upd s xs) t=σ t:=by simp[St.upd,h]
structure Loc (rs ws:List Nat) (f:St→Option St):Prop where
 sim:∀σ τ,Agr rs σ τ→∀A,Agr A σ τ→Sim (A++ws) (f σ) (f τ)
 frame:∀σ σ',f σ=some σ'→∀s,s ∉ ws→σ' s=σ s
theorem Loc.upd {rs:List Nat} {dst:Nat} {f:St→Option (List D)} (h:∀σ τ,Agr rs σ τ→f σ=f τ):Loc rs [dst] fun σ=>(f σ).map (σ.upd dst):=
 ⟨fun σ τ ha A hA=>by
   show Sim _ ((f σ).map _) ((f τ).map _)
   rw[h σ τ ha]
   cases f τ with
   |none=>trivial
   |some l=>exact upd_agr hA dst l,
  fun σ σ' he s hs=>by
   simp only[zC] at he
   obtain ⟨l,_,rfl⟩:=he
   exact upd_ne (by simpa using hs)⟩
theorem Loc.congr {rs ws:List Nat} {f g:St→Option St} (h:Loc rs ws f) (he:∀σ,g σ=f σ):Loc rs ws g:=by
 have:g=f:=funext he
 rw[this];exact h
theorem Loc.bind {rs ws rs' ws':List Nat} {f g:St→Option St} (h:Loc rs ws f) (h':Loc rs' ws' g):Loc (rs++rs') (ws++ws') fun σ=>(f σ).bind g:=
 ⟨fun σ τ ha A hA=>by
   have h1:=h.sim σ τ ha.l (A++rs') (fun s hs=>by
    rcases zT.1 hs with hs|hs
    ·exact hA s hs
    ·exact ha.r s hs)
   cases e1:f σ with
   |none=>
    rw[e1] at h1
    cases e2:f τ with
    |none=>simp[e1,e2,Sim]
    |some τ'=>rw[e2] at h1;exact h1.elim
   |some σ'=>
    rw[e1] at h1
    cases e2:f τ with
    |none=>rw[e2] at h1;exact h1.elim
    |some τ'=>
     rw[e2] at h1
     simp only[e1,e2,Option.bind_some]
     have h1':Agr ((A++rs')++ws) σ' τ':=h1
     have:=h'.sim σ' τ' (fun s hs=>h1' s (by simp[hs])) (A++ws) (fun s hs=>h1' s (by
      rcases zT.1 hs with hs|hs<;>simp[hs]))
     rw[List.append_assoc] at this
     exact this,
  fun σ σ' he s hs=>by
   simp only[zA] at he
   obtain ⟨σ1,e1,e2⟩:=he
   rw[zT,not_or] at hs
   rw[h'.frame _ _ e2 s hs.2,h.frame _ _ e1 s hs.1]⟩
theorem Loc.mono {rs ws rs':List Nat} {f:St→Option St} (h:Loc rs ws f) (hr:∀s∈rs,s∈rs'):Loc rs' ws f:=⟨fun σ τ ha=>h.sim σ τ (ha.sub hr),h.frame⟩
theorem Loc.test {rs:List Nat} {f:St→Bool} (h:∀σ τ,Agr rs σ τ→f σ=f τ):Loc rs [] fun σ=>if f σ=true then some σ else none:=
 ⟨fun σ τ ha A hA=>by
   show Sim _ (if f σ=true then some σ else none) (if f τ=true then some τ else none)
   rw[h σ τ ha]
   split
   ·rw[List.append_nil];exact hA
   ·trivial,
  fun σ σ' he s _=>by
   split at he
   ·cases he;rfl
   ·cases he⟩
theorem backMu_loc {mu:List (Nat×Nat×List (Nat×Nat))}:∀{ds:List D},Loc (mu.flatMap fun m=>m.1::m.2.2.map (·.1)) (mu.map (·.1)) fun σ=>backMu σ mu ds:=by
 induction mu with
 |nil=>
  intro ds
  cases ds with
  |nil=>exact ⟨fun σ τ _ A hA=>by simp only[backMu,Sim];simpa using hA,fun σ σ' he s _=>by simp[backMu] at he;rw[he]⟩
  |cons d ds=>exact ⟨fun _ _ _ _ _=>trivial,fun σ σ' he=>by simp[backMu] at he⟩
 |cons m mu ih=>
  obtain ⟨s,o,w⟩:=m
  intro ds
  cases ds with
  |nil=>exact ⟨fun _ _ _ _ _=>trivial,fun σ σ' he=>by simp[backMu] at he⟩
  |cons d ds=>
   have h1:Loc (s::w.map (·.1)) [s] fun σ=>((match (σ s)[o]?,wayOf σ w with
    |some x,some way=>(x.setAt way (backD w d)).map fun x'=>(σ s).set o x'
    |_,_=>none):Option (List D)).map (σ.upd s):=Loc.upd fun σ τ ha=>by rw[ha.hd,wayOf_agr ha.tl]
   have h2:=(h1.bind (ih (ds:=ds)))
   refine (Loc.congr h2 fun σ=> ?_)
   simp only[backMu]
   cases (σ s)[o]? with
   |none=>rfl
   |some x=>
    cases wayOf σ w with
    |none=>rfl
    |some way=>
     simp only
     cases x.setAt way (backD w d)<;>rfl
theorem backs_loc {l:List Arg}:∀{os:List (List D)},Loc (l.flatMap Arg.reads) (l.flatMap Arg.writes) fun σ=>backs σ l os:=by
 induction l with
 |nil=>
  intro os
  cases os with
  |nil=>exact ⟨fun σ τ _ A hA=>by simp only[backs,Sim];simpa using hA,fun σ σ' he s _=>by simp[backs] at he;rw[he]⟩
  |cons o os=>exact ⟨fun _ _ _ _ _=>trivial,fun σ σ' he=>by simp[backs] at he⟩
 |cons a l ih=>
  intro os
  cases a with
  |v xs fl mu=>
   cases mu with
   |nil=>
    refine (Loc.congr ((ih (os:=os)).mono fun s hs=> ?_) fun σ=>by simp only[backs])
    rw[List.flatMap_cons]
    exact zQ _ hs
   |cons m mu=>
    cases os with
    |nil=>exact ⟨fun _ _ _ _ _=>trivial,fun σ σ' he=>by simp[backs] at he⟩
    |cons o os=>
     refine Loc.congr (((backMu_loc (mu:=m::mu) (ds:=o)).bind (ih (os:=os))).mono fun s hs=> ?_) fun σ=> ?_
     ·rw[List.flatMap_cons]
      rcases zT.1 hs with hs|hs
      ·exact List.mem_append_left _ (zQ _ hs)
      ·exact zQ _ hs
     ·simp only[backs]
      cases backMu σ (m::mu) o<;>rfl
  |bx s=>
   cases os with
   |nil=>exact ⟨fun _ _ _ _ _=>trivial,fun σ σ' he=>by simp[backs] at he⟩
   |cons o os=>
    have h1:Loc [s] [s] fun σ=>(some o).map (St.upd σ s):=Loc.upd fun _ _ _=>rfl
    exact Loc.congr (h1.bind (ih (os:=os))) fun σ=>rfl
theorem I.loc {env:Env}:∀{i:I} {rs ws:List Nat},i.foot=some (rs,ws)→Loc rs ws (i.ev env):=by
 intro i rs ws h
 cases i with
 |chk t=>
  cases h
  exact (Loc.test (f:=fun σ=> !(σ t).isEmpty) fun σ τ ha=>by rw[ha.hd]).congr fun σ=>by simp only[I.ev];cases (σ t).isEmpty<;>rfl
 |set dst xs fl=>
  cases h
  exact (Loc.upd (f:=fun σ=>(evs σ xs).bind fun l=>if flat fl l then some l else none) fun σ τ ha=>by rw[evs_agr ha]).congr fun σ=>by
   simp only[I.ev]
   cases evs σ xs with
   |none=>rfl
   |some l=>simp only[Option.bind_some];split<;>rfl
 |cpy dst s=>
  cases h
  exact (Loc.upd (f:=fun σ=>if (σ s).isEmpty then none else some (σ s)) fun σ τ ha=>by rw[ha.hd]).congr fun σ=>by simp only[I.ev];split<;>rfl
 |put via s off xs fl=>
  cases h
  exact (Loc.upd (f:=fun σ=>if (σ via).isEmpty then none else (evs σ xs).bind fun l=>if off+l.length≤(σ s).length∧flat fl l=true then some (setCells (σ s) off l) else none)
   fun σ τ ha=>by rw[ha.hd,ha.tl.hd,evs_agr ha.tl.tl]).congr fun σ=>by
   simp only[I.ev]
   split
   ·rfl
   ·cases evs σ xs with
    |none=>rfl
    |some l=>simp only[Option.bind_some];split<;>rfl
 |hole s k w=>
  cases h
  exact (Loc.upd (f:=fun σ=>match (σ s)[k]?,wayOf σ w with|some d,some way=>(d.setAt way fun _=>some .dead).map fun d'=>(σ s).set k d'|_,_=>none) fun σ τ ha=>by rw[ha.hd,wayOf_agr ha.tl]).congr fun σ=>by
   simp only[I.ev]
   cases (σ s)[k]? with
   |none=>rfl
   |some d=>cases wayOf σ w with
    |none=>rfl
    |some way=>simp only[Option.map_map];cases d.setAt way (fun _=>some .dead)<;>rfl
 |bin op dst x y=>
  cases h
  exact (Loc.upd (f:=fun σ=>(x.ev σ).bind fun a=>(y.ev σ).bind fun b=>(evBin op a b).map fun r=>[r]) fun σ τ ha=>by rw[Src.agr ha.l,Src.agr ha.r]).congr fun σ=>by
   simp only[I.ev]
   cases x.ev σ with
   |none=>rfl
   |some a=>cases y.ev σ with
    |none=>rfl
    |some b=>simp only[Option.bind_some];cases evBin op a b<;>rfl
 |len dst x=>
  cases h
  exact (Loc.upd (f:=fun σ=>(x.ev σ).bind fun| .sl _ rows=>some [.int .i64 rows.length]|_=>none) fun σ τ ha=>by rw[Src.agr ha]).congr fun σ=>by
   simp only[I.ev]
   cases x.ev σ with
   |none=>rfl
   |some a=>simp only[Option.bind_some];cases a<;>rfl
 |idx dst sz x i=>
  cases h
  exact (Loc.upd (f:=fun σ=>(x.ev σ).bind fun a=>(i.ev σ).bind fun b=>match a,b with
   | .sl sz' rows, .int _ n=>if sz=sz'∧0≤n∧n<rows.length then some [.int .i64 n] else none
   |_,_=>none) fun σ τ ha=>by rw[Src.agr ha.l,Src.agr ha.r]).congr fun σ=>by
   simp only[I.ev]
   cases x.ev σ with
   |none=>rfl
   |some a=>cases i.ev σ with
    |none=>rfl
    |some b=>
     simp only[Option.bind_some]
     cases a<;>cases b<;>simp only[]<;>(try split)<;>rfl
 |row dst sz x i=>
  cases h
  exact (Loc.upd (f:=fun σ=>(x.ev σ).bind fun a=>(i.ev σ).bind fun b=>match a,b with
   | .sl sz' rows, .int _ n=>if sz=sz'∧0≤n then (rows[n.toNat]?) else none
   |_,_=>none) fun σ τ ha=>by rw[Src.agr ha.l,Src.agr ha.r]).congr fun σ=>by
   simp only[I.ev]
   cases x.ev σ with
   |none=>rfl
   |some a=>cases i.ev σ with
    |none=>rfl
    |some b=>
     simp only[Option.bind_some]
     cases a<;>cases b<;>simp only[]<;>(try split)<;>rfl
 |deref dst x=>
  cases h
  exact (Loc.upd (f:=fun σ=>(x.ev σ).bind fun| .pt [xs]=>some xs|_=>none) fun σ τ ha=>by rw[Src.agr ha]).congr fun σ=>by
   simp only[I.ev]
   cases x.ev σ with
   |none=>rfl
   |some a=>
    simp only[Option.bind_some]
    split<;>simp_all
 |app dst sz x y fl=>
  cases h
  exact (Loc.upd (f:=fun σ=>(x.ev σ).bind fun a=>(y.ev σ).bind fun b=>match a,b with
   | .sl sz1 xs, .sl sz2 ys=>if sz=sz1∧sz=sz2∧xs.length+ys.length≤most∧(!fl||(xs.all (·.all D.flat)&&ys.all (·.all D.flat)))=true then some [.sl sz (xs++ys)] else none
   |_,_=>none) fun σ τ ha=>by rw[Src.agr ha.l,Src.agr ha.r]).congr fun σ=>by
   simp only[I.ev]
   cases x.ev σ with
   |none=>rfl
   |some a=>cases y.ev σ with
    |none=>rfl
    |some b=>
     simp only[Option.bind_some]
     cases a<;>cases b<;>simp only[]<;>(try split)<;>rfl
 |lit dst sz rows=>
  cases h
  exact (Loc.upd (f:=fun σ=>(rows.mapM (evs σ)).map fun l=>[.sl sz l]) fun σ τ ha=>by rw[mapM_agr ha]).congr fun σ=>by
   simp only[I.ev]
   cases rows.mapM (evs σ)<;>rfl
 |mk dst zero n=>
  cases h
  exact (Loc.upd (f:=fun σ=>(n.ev σ).bind fun| .int _ i=>if 0≤i∧i≤most then some [.sl zero.length (List.replicate i.toNat zero)] else none|_=>none) fun σ τ ha=>by rw[Src.agr ha]).congr fun σ=>by
   simp only[I.ev]
   cases n.ev σ with
   |none=>rfl
   |some a=>
    simp only[Option.bind_some]
    cases a<;>(try split)<;>first|rfl|simp_all
 |call f args dst=>
  cases h
  refine ⟨fun σ τ ha A hA=> ?_,fun σ σ' he s hs=> ?_⟩
  ·simp only[I.ev]
   rw[argsIn_agr ha]
   cases argsIn τ args with
   |none=>trivial
   |some ins=>
    simp only[Option.bind_some]
    cases env f ins with
    |none=>trivial
    |some l=>
     simp only[Option.bind_some]
     cases l with
     |nil=>trivial
     |cons res os=>
      have h1:Sim _ (backs σ args os) (backs τ args os):=(backs_loc (l:=args) (os:=os)).sim σ τ ha A hA
      show Sim _ ((backs σ args os).map fun σ'=>σ'.upd dst res) ((backs τ args os).map fun σ'=>σ'.upd dst res)
      cases e1:backs σ args os with
      |none=>
       rw[e1] at h1
       cases e2:backs τ args os with
       |none=>trivial
       |some _=>rw[e2] at h1;exact h1.elim
      |some σ1=>
       rw[e1] at h1
       cases e2:backs τ args os with
       |none=>rw[e2] at h1;exact h1.elim
       |some τ1=>
        rw[e2] at h1
        have:=upd_agr (show Agr _ σ1 τ1 from h1) dst res
        rw[List.append_assoc] at this
        exact this
  ·rw[zT,not_or] at hs
   simp only[I.ev,zA] at he
   obtain ⟨ins,_,l,_,he⟩:=he
   split at he
   ·rw[zC] at he
    obtain ⟨σ1,h1,rfl⟩:=he
    rw[upd_ne (by simpa using hs.2),backs_loc.frame _ _ h1 s hs.1]
   ·cases he
 |_=>cases h
theorem evIs_loc {env:Env}:∀{l:List I} {rs ws:List Nat},footIs l=some (rs,ws)→Loc rs ws (evIs env l):=by
 intro l
 induction l with
 |nil=>
  intro rs ws h
  cases h
  exact ⟨fun σ τ _ A hA=>by simp only[evIs,Sim];simpa using hA,fun σ σ' he s _=>by simp[evIs] at he;rw[he]⟩
 |cons i l ih=>
  intro rs ws h
  unfold footIs at h
  split at h
  ·rename_i a b h1 h2
   cases h
   exact (I.loc (i:=i) h1).bind (ih h2)
  ·cases h
theorem Sim.sub {ws qs:List Nat} {a b:Option St} (h:Sim ws a b) (hs:∀s∈qs,s∈ws):Sim qs a b:=by
 cases a<;>cases b<;>first|trivial|exact h.elim|exact Agr.sub h hs
theorem LI.loc {env:Env} {x:LI} {rs ws:List Nat} (h:x.foot=some (rs,ws)):Loc rs ws (x.ev env):=by
 unfold LI.foot at h
 split at h
 ·rename_i a ha
  cases h
  have hI:=evIs_loc (env:=env) ha
  have hT:Loc x.dst.toList [] fun σ=>if x.nbOk σ=true then some σ else none:=Loc.test fun σ τ hg=>by
   unfold LI.nbOk
   cases x.nb with
   |false=>rfl
   |true=>
    cases hd:x.dst with
    |none=>rfl
    |some d=>rw[hd] at hg;simp only;rw[hg d (by simp)]
  have hR:Loc (a.1++x.dst.toList) (a.2++[]) (x.run env):=hI.bind hT
  have hrun:∀σ τ,Agr (a.1++x.dst.toList) σ τ→∀A,Agr A σ τ→Sim (A++(a.2++x.dst.toList)) (x.run env σ) (x.run env τ):=fun σ τ hg A hA=>
   (hR.sim σ τ hg (A++x.dst.toList) (fun s hs=>by
    rcases zT.1 hs with hs|hs
    ·exact hA s hs
    ·exact hg.r s hs)).sub fun s hs=>by
     simp only[zT,List.append_nil] at hs ⊢
     rcases hs with hs|hs|hs<;>simp[hs]
  have hrf:∀σ σ',x.run env σ=some σ'→∀s,s ∉ a.2++x.dst.toList→σ' s=σ s:=fun σ σ' he s hs=>by
   rw[zT,not_or] at hs
   exact hR.frame σ σ' he s (by simpa using hs.1)
  have hskip:∀σ τ,∀A,Agr A σ τ→Agr (a.2++x.dst.toList) σ τ→Sim (A++(a.2++x.dst.toList)) (some (x.skip σ)) (some (x.skip τ)):=fun σ τ A hA hg=>by
   have hg':Agr (A++(a.2++x.dst.toList)) σ τ:=fun s hs=>by
    rcases zT.1 hs with hs|hs
    ·exact hA s hs
    ·exact hg s hs
   unfold LI.skip
   cases hd:x.dst with
   |none=>rw[hd] at hg';exact hg'
   |some d=>rw[hd] at hg';exact (upd_agr hg' d []).sub fun s hs=>List.mem_append_left _ hs
  have hsf:∀σ s,s ∉ a.2++x.dst.toList→x.skip σ s=σ s:=fun σ s hs=>by
   unfold LI.skip
   cases hd:x.dst with
   |none=>rfl
   |some d=>
    rw[hd] at hs
    simp only[zT,not_or,Option.toList_some,List.mem_singleton] at hs
    exact upd_ne hs.2
  cases hgd:x.guard with
  |none=>
   have hev:x.ev env=x.run env:=funext fun σ=>by unfold LI.ev;rw[hgd]
   rw[hev]
   exact ⟨fun σ τ hg A hA=>hrun σ τ hg.l A hA,hrf⟩
  |some p=>
   obtain ⟨g,want⟩:=p
   have hev:∀σ,x.ev env σ=match σ g with
    | [.bool b]=>if b=want then x.run env σ else some (x.skip σ)
    | []=>some (x.skip σ)
    |_=>none:=fun σ=>by unfold LI.ev;rw[hgd];rfl
   refine ⟨fun σ τ hg A hA=> ?_,fun σ σ' he s hs=> ?_⟩
   ·rw[hev,hev,hg.r.hd]
    have hw:Agr (a.2++x.dst.toList) σ τ:=fun s hs=>by
     rcases zT.1 hs with hs|hs
     ·exact hg.r.tl s hs
     ·exact hg.l.r s hs
    split
    ·split
     ·exact hrun σ τ hg.l A hA
     ·exact hskip σ τ A hA hw
    ·exact hskip σ τ A hA hw
    ·trivial
   ·rw[hev] at he
    split at he
    ·split at he
     ·exact hrf σ σ' he s hs
     ·cases he;exact hsf σ s hs
    ·cases he;exact hsf σ s hs
    ·cases he
 ·cases h
theorem apartN_ok {a b:List Nat} (h:apartN a b=true) {s:Nat} (hs:s∈a):s ∉ b:=by
 have:=zL.1 h s hs
 simpa using this
theorem indep_ok {env:Env} {x y:LI} (h:indep x y=true) (σ:St):(x.ev env σ).bind (y.ev env)=(y.ev env σ).bind (x.ev env):=by
 unfold indep at h
 split at h
 ·rename_i a b ha hb
  simp only[zD] at h
  obtain ⟨⟨h1,h2⟩,h3⟩:=h
  have X:=LI.loc (env:=env) ha
  have Y:=LI.loc (env:=env) hb
  have hxy:∀{σ'},x.ev env σ=some σ'→Agr b.1 σ σ':=fun he s hs=>(X.frame _ _ he s fun hs'=>apartN_ok h1 hs' hs).symm
  have hyx:∀{σ'},y.ev env σ=some σ'→Agr a.1 σ σ':=fun he s hs=>(Y.frame _ _ he s fun hs'=>apartN_ok h3 hs' hs).symm
  cases ex:x.ev env σ with
  |none=>
   cases ey:y.ev env σ with
   |none=>rfl
   |some σy=>
    have:=X.sim σ σy (hyx ey) [] (fun s hs=>by cases hs)
    rw[ex] at this
    simp only[Option.bind_none,Option.bind_some]
    cases e:x.ev env σy with
    |none=>rfl
    |some _=>rw[e] at this;exact this.elim
  |some σx=>
   cases ey:y.ev env σ with
   |none=>
    have:=Y.sim σ σx (hxy ex) [] (fun s hs=>by cases hs)
    rw[ey] at this
    simp only[Option.bind_none,Option.bind_some]
    cases e:y.ev env σx with
    |none=>rfl
    |some _=>rw[e] at this;exact this.elim
   |some σy=>
    have s1:=X.sim σ σy (hyx ey) [] (fun s hs=>by cases hs)
    have s2:=Y.sim σ σx (hxy ex) [] (fun s hs=>by cases hs)
    rw[ex] at s1
    rw[ey] at s2
    simp only[Option.bind_some]
    cases e1:x.ev env σy with
    |none=>rw[e1] at s1;exact s1.elim
    |some σyx=>
     cases e2:y.ev env σx with
     |none=>rw[e2] at s2;exact s2.elim
     |some σxy=>
      rw[e1] at s1
      rw[e2] at s2
      congr 1
      funext s
      by_cases hx:s∈a.2
      ·rw[Y.frame _ _ e2 s (apartN_ok h2 hx)]
       exact s1 s (by simpa using hx)
      ·by_cases hy:s∈b.2
       ·rw[X.frame _ _ e1 s hx]
        exact (s2 s (by simpa using hy)).symm
       ·rw[Y.frame _ _ e2 s hy,X.frame _ _ ex s hx,X.frame _ _ e1 s hx,Y.frame _ _ ey s hy]
 ·cases h
theorem pull_ok {env:Env} {y:LI}:∀{l r:List LI},pull y l=some r→∀σ,evLs env l σ=evLs env (y::r) σ
 | [],_,h,_=>by cases h
 |x::l,r,h,σ=>by
  rw[pull] at h
  split at h
  ·rename_i he
   cases h
   rw[LI.eqb_ok he]
  ·split at h
   ·rename_i hi
    rw[zC] at h
    obtain ⟨r',h',rfl⟩:=h
    have ih:=pull_ok (env:=env) h'
    simp only[evLs] at ih ⊢
    have h1:(x.ev env σ).bind (evLs env l)=((x.ev env σ).bind (y.ev env)).bind (evLs env r'):=by
     rw[Option.bind_assoc]
     exact congrArg _ (funext ih)
    rw[h1,indep_ok hi,Option.bind_assoc]
   ·cases h
theorem permOk_ok {env:Env}:∀{l' l:List LI},permOk l l'=true→∀σ,evLs env l σ=evLs env l' σ
 | [],[],_,_=>rfl
 | [],_::_,h,_=>by simp[permOk] at h
 |y::l',l,h,σ=>by
  have h':(match pull y l with|some r=>permOk r l'|none=>false)=true:=by
   cases l<;>exact h
  split at h'
  ·rename_i r hr
   rw[pull_ok hr]
   simp only[evLs]
   exact congrArg _ (funext (permOk_ok h'))
  ·cases h'
section
variable {cx:Cx} {k:K} {env:Env} {ops:List Oper} {share take:Bool} {Q:Exit→Act→World→Prop}
theorem compD_wp (hE:EnvOk cx k env) (hpar:cx.base<PAR) (hns:noSel ops=true) (hQp:∀c a w,¬ Q (.panic c) a w):∀(f:Nat) (listed:List Nat) (rqR:List (Nat×List Nat)) (rqS:Rq) (done:List Nat) (g:G) (m:M) (a:Act) (w:World) (x:List LI×G) (σ':St) (arr:Array Bool),
  Rel k g m→g.length=cx.base+61→compD cx ops share take f listed rqR done g=some x→evLs env x.1 m.σ=some σ'→Fr cx.base a m.c→w.heap=m.h→Nb cx.base m done→Listed ops listed arr→Closed .any ops.toArray arr→RqOk cx.base g m rqR rqS→
  (∀a' w' m',Wd w w'→w'.heap=m'.h→m'.σ=σ'→Fr cx.base a' m'.c→(∀d,protB cx.sg.params d=true→a'.tmps.getD d undef=a.tmps.getD d undef)→Rel k x.2 m'→x.2.length=cx.base+61→Q .normal a' w')→
  wpAnyR cx.P .any ops.toArray Q (waitsB ops) f rqS arr a w:=by
 intro f
 induction f with
 |zero=>
  intro listed rqR rqS done g m a w x σ' arr hr hlen h he hfr hw hnb hL hC hR hQ
  rw[compD,guardO_some] at h
  obtain ⟨hall,h⟩:=h
  cases h
  simp[evLs] at he
  refine ⟨?_,hQ a w m (.refl w) hw he hfr (fun _ _=>rfl) hr hlen⟩
  rw[hL.ready,List.filter_eq_nil_iff]
  intro j hj
  have:=zL.1 hall j hj
  unfold readyB
  rw[this]
  simp
 |succ f ih=>
  intro listed rqR rqS done g m a w x σ' arr hr hlen h he hfr hw hnb hL hC hR hQ
  rw[compD,forceG_eq] at h
  have later:∀i y,readyB ops listed i=true→i<ops.length→oneD cx ops share take (compD cx ops share take f) listed rqR done g false i=some y→y.2=x.2→evLs env y.1 m.σ=some σ'→
    wpOp cx.P ops.toArray Q i (fun a' w'=>(∀q∈rqS.filter (fun q=> !waitsB ops i q.1),q.2 w')∧wpAnyR cx.P .any ops.toArray Q (waitsB ops) f (rqS.filter fun q=> !waitsB ops i q.1) (arr.setIfInBounds i true) a' w') a w:=by
   intro i y hrd hil h hy2 he
   unfold oneD at h
   simp only[zA,guardO_some] at h
   obtain ⟨o,ho,r,hc,gd,hg,y',hy,hchk,h⟩:=h
   cases h
   simp only[Bool.false_eq_true,if_false] at hy hchk
   rw[zD,zD] at hchk
   obtain ⟨⟨hone,hap⟩,hrt⟩:=hchk
   have hOne:OneOk cx ops share take done g o r gd:=oneOk_of hc hg hone
   simp only[evLs,zA] at he
   obtain ⟨σ1,he1,he2⟩:=he
   have ho':ops.toArray[i]? =some o:=by simpa using ho
   have hready:i∈Region.ready .any ops.toArray arr:=by rw[hL.ready,List.mem_filter,List.mem_range];exact ⟨hil,hrd⟩
   have hT:∀x∈rqR.filter (fun x=> !waitsB ops i x.1),∀s∈x.2,s<PAR→(s<cx.base∨PAR≤s)→¬ TT cx (o.dst.getD (cx.base+60)) r.t s:=fun x hx s hs hp hb ht=>by
    have h1:=(apartR_ok hap hx hs).2 (by unfold PAR at hp;unfold HEAD;omega)
    simp only[zT,not_or] at h1
    rcases ht with ht|ht|ht|ht
    ·exact h1.1 ht
    ·cases hd:o.dst with
     |none=>rw[hd] at ht;simp at ht;omega
     |some d=>rw[hd] at ht h1;simp at ht h1;exact h1.2 ht
    ·omega
    ·omega
   unfold wpOp
   simp only[ho']
   refine li_wp hr hlen hE hOne hpar he1 hfr hnb hw fun v w' m' b1 b2 b3 b4 b5 b6=> ?_
   have hR':RqOk cx.base r.g m' (rqR.filter fun x=> !waitsB ops i x.1) (rqS.filter fun q=> !waitsB ops i q.1):=hR.step hr b5 (fun q h=>mem_of_filter h) (fun q hq roots hm=>by
    rw[List.mem_filter] at hq ⊢
    exact ⟨hm,hq.2⟩) hT fun x hx s hs hh=>(apartR_ok hap hx hs).1 hh
   refine ⟨hR'.now (k:=k) b2,?_⟩
   refine ih (i::listed) _ _ (doneOf ops o done) r.g m' _ w' y' σ' _ (b5.rel hr) (by rw[b5.len,hlen]) hy (by rw[b3];exact he2) b4 b2 b6 (hL.set hil) (hC.set hready) hR' fun a' w'' m'' c1 c2 c3 c4 c5 c6 c7=> ?_
   exact hQ a' w'' m'' (b1.trans c1) c2 c3 c4 (fun d hd=>by rw[c5 d hd];exact put_prot (fun d' hd' e=>by rw[e] at hd';rw[hOne.prot d hd'] at hd;cases hd)) (hy2 ▸ c6) (hy2 ▸ c7)
  cases hnext:nextOp cx.P ops listed with
  |some p=>
   obtain ⟨e,i⟩:=p
   rw[hnext] at h
   simp only at h
   obtain ⟨hrd,hil,huniq,hearly⟩:=nextOp_ok hnext
   cases e with
   |false=>
    refine ⟨fun h0=>(by rw[hL.ready,huniq rfl] at h0;cases h0),fun j hj=> ?_⟩
    have hji:j=i:=by rw[hL.ready,huniq rfl] at hj;simpa using hj
    subst hji
    exact later j x hrd hil h rfl he
   |true=>
    unfold oneD at h
    simp only[zA,guardO_some] at h
    obtain ⟨o,ho,r,hc,gd,hg,y,hy,hchk,h⟩:=h
    cases h
    simp only[if_true] at hy hchk
    rw[zD,zD] at hchk
    obtain ⟨⟨hone,hap⟩,hrt⟩:=hchk
    have hOne:OneOk cx ops share take done g o r gd:=oneOk_of hc hg hone
    simp only[evLs,zA] at he
    obtain ⟨σ1,he1,he2⟩:=he
    have ho':ops.toArray[i]? =some o:=by simpa using ho
    have hready:i∈Region.ready .any ops.toArray arr:=by rw[hL.ready,List.mem_filter,List.mem_range];exact ⟨hil,hrd⟩
    obtain ⟨hq,hfree⟩:=hearly rfl o ho
    have hrt':∀s∈rootsOf cx.P g o.op,s<cx.base∨PAR≤s:=fun s hs=>by
     have:=zL.1 hrt s hs
     simpa using this
    obtain ⟨v,m',S,q1,q2,q3,q4,q5,q6,q7⟩:=early_step hr hlen hOne hpar hq hrt' he1 hfr hnb hw
    have hr':=q5.rel hr
    have hT:∀x∈(i,rootsOf cx.P g o.op)::rqR,∀s∈x.2,s<PAR→(s<cx.base∨PAR≤s)→¬ TT cx (o.dst.getD (cx.base+60)) r.t s:=fun x hx s hs hp hb ht=>by
     have h1:=(apartR_ok hap hx hs).2 (by unfold PAR at hp;unfold HEAD;omega)
     simp only[zT,not_or] at h1
     rcases ht with ht|ht|ht|ht
     ·exact h1.1 ht
     ·cases hd:o.dst with
      |none=>rw[hd] at ht;simp at ht;omega
      |some d=>rw[hd] at ht h1;simp at ht h1;exact h1.2 ht
     ·omega
     ·omega
    have hH:∀x∈(i,rootsOf cx.P g o.op)::rqR,∀s∈x.2,HEAD≤s→r.g.hv (s-HEAD)=g.hv (s-HEAD)∧r.g.idv (s-HEAD)=g.idv (s-HEAD)∧∃ty ts,r.g.ent (s-HEAD)= .box ty ts:=fun x hx s hs hh=>(apartR_ok hap hx hs).1 hh
    refine wpAnyR_first (fun j i h=>waitsB_ok h) ho' (noSel_ok hns) (fun c a w hp=>absurd hp (hQp c _ w)) f rqS arr a w hC (freeB_ok hL hfree) hready q1 (q7.now (k:=k) hw) (hR.now (k:=k) hw) ?_
    refine ih (i::listed) ((i,rootsOf cx.P g o.op)::rqR) _ (doneOf ops o done) r.g m' _ w y σ' _ hr' (by rw[q5.len,hlen]) hy (by rw[q2];exact he2) q4 (by rw[hw,q3]) q6 (hL.set hil) (hC.set hready) (fun q hq'=> ?_) fun a' w' m'' b1 b2 b3 b4 b5 b6 b7=> ?_
    ·rcases List.mem_cons.1 hq' with rfl|hq'
     ·exact ⟨rootsOf cx.P g o.op,by simp,q7.step hr q5 (hT (i,rootsOf cx.P g o.op) (by simp)) (hH (i,rootsOf cx.P g o.op) (by simp))⟩
     ·exact hR.step (rqR':=(i,rootsOf cx.P g o.op)::rqR) (rqS':=rqS) hr q5 (fun q h=>h) (fun q _ roots h=>List.mem_cons_of_mem _ h) hT hH q hq'
    ·exact hQ a' w' m'' b1 b2 b3 b4 (fun d hd=>by rw[b5 d hd];exact put_prot (fun d' hd' e=>by rw[e] at hd';rw[hOne.prot d hd'] at hd;cases hd)) b6 b7
  |none=>
   rw[hnext] at h
   simp only at h
   split at h
   ·cases h
   ·rename_i i l hrl
    simp only[zA,guardO_some] at h
    obtain ⟨x0,hx0,hall,h⟩:=h
    cases h
    refine ⟨fun h0=>(by rw[hL.ready,hrl] at h0;cases h0),fun j hj=> ?_⟩
    rw[hL.ready] at hj
    have hj':=hj
    rw[List.mem_filter,List.mem_range] at hj'
    rw[hrl] at hj
    rcases List.mem_cons.1 hj with rfl|hj
    ·exact later j x hj'.2 hj'.1 hx0 rfl he
    ·have h1:=zL.1 hall j hj
     split at h1
     ·rename_i y hy
      simp only[zD,decide_eq_true_eq] at h1
      exact later j y hj'.2 hj'.1 hy h1.2.symm (by rw[← permOk_ok h1.1];exact he)
     ·cases h1
end
theorem listed_nil (ops:List Oper):Listed ops [] (Array.replicate ops.length false):=by
 refine ⟨by simp,fun j hj=>by simp[Array.getD_eq_getD_getElem?,hj],fun j hj=>by cases hj⟩
theorem draws_ok {cx:Cx} {k:K} {A:Nat→Value} {env:Env} (hE:EnvOk cx k env) (hpar:cx.base<PAR) (hm:cx.P.follows .mixedOrders=true):DrawsOk cx k A env:=by
 intro id ops share take g x σ σ' w0 a w Q hns hsz h he hA hQ hQp
 obtain ⟨m,h1,h2,h3,rfl,h5,h6,h7⟩:=hA
 refine wp_region_any hm (wpAny_of_R (W:=waitsB ops.toList) _ [] _ _ _ ?_)
 have:=compD_wp (ops:=ops.toList) hE hpar hns hQp ops.toList.length [] [] [] [] g m a {w with drawn:=w.drawn+1} x σ' (Array.replicate ops.toList.length false) h1 h2 h he h5 h3 (fun d hd=>by cases hd) (listed_nil _) (fun j o hj=>by
  simp[Array.getD_eq_getD_getElem?,Array.getElem?_replicate] at hj
  split at hj<;>simp at hj) (fun q hq=>by cases hq) fun a' w' m' b1 b2 b3 b4 b5 b6 b7=>hQ a' w' ⟨m',b6,b7,b2,b3,b4,h6.trans (.trans ⟨w.heap,w.drawn+1,rfl⟩ b1),fun d hd=>by rw[b5 d hd,h7 d hd]⟩
 simpa using this
def EnvLe (E E':Env):Prop:=∀f ins r,E f ins=some r→E' f ins=some r
theorem I.mono {E E':Env} (h:EnvLe E E') {i:I} {σ σ':St} (he:i.ev E σ=some σ'):i.ev E' σ=some σ':=by
 cases i with
 |call f args dst=>
  simp only[I.ev,zA] at he ⊢
  obtain ⟨ins,h1,r,h2,h3⟩:=he
  exact ⟨ins,h1,r,h _ _ _ h2,h3⟩
 |_=>exact he
theorem evIs_mono {E E':Env} (h:EnvLe E E'):∀{l:List I} {σ σ':St},evIs E l σ=some σ'→evIs E' l σ=some σ'
 | [],_,_,he=>he
 |i::l,σ,σ',he=>by
  simp only[evIs,zA] at he ⊢
  obtain ⟨σ1,h1,h2⟩:=he
  exact ⟨σ1,I.mono h h1,evIs_mono h h2⟩
theorem LI.run_mono {E E':Env} (h:EnvLe E E') {x:LI} {σ σ':St} (he:x.run E σ=some σ'):x.run E' σ=some σ':=by
 simp only[LI.run,zA] at he ⊢
 obtain ⟨σ1,h1,h2⟩:=he
 exact ⟨σ1,evIs_mono h h1,h2⟩
theorem LI.mono {E E':Env} (h:EnvLe E E') {x:LI} {σ σ':St} (he:x.ev E σ=some σ'):x.ev E' σ=some σ':=by
 unfold LI.ev at he ⊢
 cases hg:x.guard with
 |none=>rw[hg] at he;exact LI.run_mono h he
 |some p=>
  obtain ⟨g,want⟩:=p
  rw[hg] at he
  simp only at he ⊢
  split at he
  ·split at he
   ·rename_i h2;rw[if_pos h2];exact LI.run_mono h he
   ·rename_i h2;rw[if_neg h2];exact he
  ·exact he
  ·cases he
theorem evLs_mono {E E':Env} (h:EnvLe E E'):∀{l:List LI} {σ σ':St},evLs E l σ=some σ'→evLs E' l σ=some σ'
 | [],_,_,he=>he
 |x::l,σ,σ',he=>by
  simp only[evLs,zA] at he ⊢
  obtain ⟨σ1,h1,h2⟩:=he
  exact ⟨σ1,LI.mono h h1,evLs_mono h h2⟩
theorem iter_mono {f g:St→Option (Out×St)} (h:∀σ r,f σ=some r→g σ=some r):∀{n m:Nat} {σ:St} {r},n≤m→iter f n σ=some r→iter g m σ=some r
 |0,_,_,_,_,he=>by cases he
 |n+1,0,_,_,hl,_=>absurd hl (Nat.not_succ_le_zero n)
 |n+1,m+1,σ,r,hl,he=>by
  rw[iter] at he ⊢
  cases hf:f σ with
  |none=>rw[hf] at he;cases he
  |some p=>
   rw[hf] at he
   rw[h σ p hf]
   obtain ⟨o,σ'⟩:=p
   cases o with
   |norm=>exact iter_mono h (Nat.le_of_succ_le_succ hl) he
   |_=>exact he
theorem L.mono {E E':Env} (h:EnvLe E E') {n m:Nat} (hnm:n≤m):∀{l:L} {σ:St} {r},L.ev E n l σ=some r→L.ev E' m l σ=some r:=by
 intro l
 induction l with
 |skip=>intro σ r he;exact he
 |ops l=>
  intro σ r he
  simp only[L.ev,zC] at he ⊢
  obtain ⟨σ',h1,h2⟩:=he
  exact ⟨σ',evLs_mono h h1,h2⟩
 |seq a b iha ihb=>
  intro σ r he
  rw[L.ev] at he ⊢
  cases ha:L.ev E n a σ with
  |none=>rw[ha] at he;cases he
  |some p=>
   rw[ha] at he
   rw[iha ha]
   obtain ⟨o,σ'⟩:=p
   cases o with
   |norm=>exact ihb he
   |_=>exact he
 |cond c a b iha ihb=>
  intro σ r he
  rw[L.ev] at he ⊢
  cases hc:c.ev σ with
  |none=>rw[hc] at he;cases he
  |some d=>
   rw[hc] at he
   cases d with
   |bool v=>cases v with
    |true=>exact iha he
    |false=>exact ihb he
   |_=>cases he
 |block id a iha=>
  intro σ r he
  rw[L.ev] at he ⊢
  cases ha:L.ev E n a σ with
  |none=>rw[ha] at he;cases he
  |some p=>
   rw[ha] at he
   rw[iha ha]
   exact he
 |loop a iha=>
  intro σ r he
  rw[L.ev] at he ⊢
  exact iter_mono (fun σ r=>iha) hnm he
 |exit id=>intro σ r he;exact he
 |ret=>intro σ r he;exact he
theorem runL_mono {E E':Env} (h:EnvLe E E') {n m:Nat} (hnm:n≤m) {l:L} {sg:Sig} {base:Nat} {ins r} (he:runL E n l sg base ins=some r):runL E' m l sg base ins=some r:=by
 unfold runL at he ⊢
 split at he
 ·rename_i σ h1
  rw[L.mono h hnm h1]
  exact he
 ·cases he
structure TFn where
 l:L
 sg:Sig
 base:Nat
section
variable (T:Nat→Option TFn) (X:Env)
def envN:Nat→Env
 |0,_,_=>none
 |n+1,f,ins=>match T f with
  |some t=>runL (envN n) n t.l t.sg t.base ins
  |none=>X f ins
theorem envN_succ:∀n,EnvLe (envN T X n) (envN T X (n+1))
 |0,_,_,_,h=>by cases h
 |n+1,f,ins,r,h=>by
  rw[envN] at h ⊢
  cases hT:T f with
  |none=>rw[hT] at h;exact h
  |some t=>
   rw[hT] at h
   exact runL_mono (envN_succ n) (Nat.le_succ n) h
theorem envN_le {n m:Nat} (h:n≤m):EnvLe (envN T X n) (envN T X m):=by
 induction h with
 |refl=>exact fun _ _ _ h=>h
 |step _ ih=>exact fun f ins r h=>envN_succ T X _ f ins r (ih f ins r h)
open Classical in
noncomputable def runF:Env:=fun f ins=>if h:∃r n,envN T X n f ins=some r then some h.choose else none
theorem run_iff {f:Nat} {ins r}:runF T X f ins=some r↔∃n,envN T X n f ins=some r:=by
 unfold runF
 constructor
 ·intro h
  split at h
  ·rename_i hx
   cases h
   exact hx.choose_spec
  ·cases h
 ·rintro ⟨n,hn⟩
  have hx:∃r n,envN T X n f ins=some r:=⟨r,n,hn⟩
  rw[dif_pos hx]
  obtain ⟨m,hm⟩:=hx.choose_spec
  have h1:=envN_le T X (Nat.le_max_left n m) _ _ _ hn
  have h2:=envN_le T X (Nat.le_max_right n m) _ _ _ hm
  rw[h1] at h2
  rw[zU h2]
theorem envN_run (n:Nat):EnvLe (envN T X n) (runF T X):=fun _ _ _ h=>(run_iff T X).2 ⟨n,h⟩
open Classical in
noncomputable def lev (l:L) (σ:St):Option (Out×St):=if h:∃r n,L.ev (envN T X n) n l σ=some r then some h.choose else none
theorem lev_iff {l:L} {σ:St} {r}:lev T X l σ=some r↔∃n,L.ev (envN T X n) n l σ=some r:=by
 unfold lev
 constructor
 ·intro h
  split at h
  ·rename_i hx
   cases h
   exact hx.choose_spec
  ·cases h
 ·rintro ⟨n,hn⟩
  have hx:∃r n,L.ev (envN T X n) n l σ=some r:=⟨r,n,hn⟩
  rw[dif_pos hx]
  obtain ⟨m,hm⟩:=hx.choose_spec
  have h1:=L.mono (envN_le T X (Nat.le_max_left n m)) (Nat.le_max_left n m) hn
  have h2:=L.mono (envN_le T X (Nat.le_max_right n m)) (Nat.le_max_right n m) hm
  rw[h1] at h2
  rw[zU h2]
theorem opt_ext {α:Type} {a b:Option α} (h:∀r,a=some r↔b=some r):a=b:=by
 cases a with
 |none=>cases b with
  |none=>rfl
  |some y=>exact absurd ((h y).2 rfl) (by simp)
 |some x=>exact ((h x).1 rfl).symm
theorem I.lim {i:I} {σ σ':St} (he:i.ev (runF T X) σ=some σ'):∃n,i.ev (envN T X n) σ=some σ':=by
 cases i with
 |call f args dst=>
  simp only[I.ev,zA] at he ⊢
  obtain ⟨ins,h1,r,h2,h3⟩:=he
  obtain ⟨n,hn⟩:=(run_iff T X).1 h2
  exact ⟨n,ins,h1,r,hn,h3⟩
 |_=>exact ⟨0,he⟩
theorem evIs_lim:∀{l:List I} {σ σ':St},evIs (runF T X) l σ=some σ'→∃n,evIs (envN T X n) l σ=some σ'
 | [],_,_,he=>⟨0,he⟩
 |i::l,σ,σ',he=>by
  simp only[evIs,zA] at he
  obtain ⟨σ1,h1,h2⟩:=he
  obtain ⟨n,hn⟩:=I.lim T X h1
  obtain ⟨m,hm⟩:=evIs_lim h2
  refine ⟨max n m,?_⟩
  simp only[evIs,zA]
  exact ⟨σ1,I.mono (envN_le T X (Nat.le_max_left n m)) hn,evIs_mono (envN_le T X (Nat.le_max_right n m)) hm⟩
theorem LI.run_lim {x:LI} {σ σ':St} (he:x.run (runF T X) σ=some σ'):∃n,x.run (envN T X n) σ=some σ':=by
 simp only[LI.run,zA] at he ⊢
 obtain ⟨σ1,h1,h2⟩:=he
 obtain ⟨n,hn⟩:=evIs_lim T X h1
 exact ⟨n,σ1,hn,h2⟩
theorem LI.lim {x:LI} {σ σ':St} (he:x.ev (runF T X) σ=some σ'):∃n,x.ev (envN T X n) σ=some σ':=by
 unfold LI.ev at he ⊢
 cases hg:x.guard with
 |none=>rw[hg] at he;exact LI.run_lim T X he
 |some p=>
  obtain ⟨g,want⟩:=p
  rw[hg] at he
  simp only at he ⊢
  split at he
  ·split at he
   ·rename_i h2;simp only[if_pos h2];exact LI.run_lim T X he
   ·rename_i h2;simp only[if_neg h2];exact ⟨0,he⟩
  ·exact ⟨0,he⟩
  ·cases he
theorem evLs_lim:∀{l:List LI} {σ σ':St},evLs (runF T X) l σ=some σ'→∃n,evLs (envN T X n) l σ=some σ'
 | [],_,_,he=>⟨0,he⟩
 |i::l,σ,σ',he=>by
  simp only[evLs,zA] at he
  obtain ⟨σ1,h1,h2⟩:=he
  obtain ⟨n,hn⟩:=LI.lim T X h1
  obtain ⟨m,hm⟩:=evLs_lim h2
  refine ⟨max n m,?_⟩
  simp only[evLs,zA]
  exact ⟨σ1,LI.mono (envN_le T X (Nat.le_max_left n m)) hn,evLs_mono (envN_le T X (Nat.le_max_right n m)) hm⟩
def thenL (r:Option (Out×St)) (k:St→Option (Out×St)):Option (Out×St):=match r with
 |some (.norm,σ)=>k σ
 |r=>r
def inBlock (id:Nat) (r:Option (Out×St)):Option (Out×St):=match r with
 |some (.exit i,σ)=>if i=id then some (.norm,σ) else some (.exit i,σ)
 |r=>r
def ifD {α:Type} (c:Option D) (a b:Option α):Option α:=match c with
 |some (.bool v)=>if v=true then a else b
 |_=>none
theorem lev_skip {σ:St}:lev T X .skip σ=some (.norm,σ):=(lev_iff T X).2 ⟨0,rfl⟩
theorem lev_exit {id:Nat} {σ:St}:lev T X (.exit id) σ=some (.exit id,σ):=(lev_iff T X).2 ⟨0,rfl⟩
theorem lev_ret {σ:St}:lev T X .ret σ=some (.ret,σ):=(lev_iff T X).2 ⟨0,rfl⟩
theorem lev_ops {l:List LI} {σ:St}:lev T X (.ops l) σ=(evLs (runF T X) l σ).map fun σ'=>(.norm,σ'):=by
 refine opt_ext fun r=> ?_
 rw[lev_iff]
 constructor
 ·rintro ⟨n,hn⟩
  simp only[L.ev,zC] at hn ⊢
  obtain ⟨σ',h1,h2⟩:=hn
  exact ⟨σ',evLs_mono (envN_run T X n) h1,h2⟩
 ·intro h
  simp only[zC] at h
  obtain ⟨σ',h1,h2⟩:=h
  obtain ⟨n,hn⟩:=evLs_lim T X h1
  exact ⟨n,by simp only[L.ev,zC];exact ⟨σ',hn,h2⟩⟩
theorem lev_seq {a b:L} {σ:St}:lev T X (.seq a b) σ=thenL (lev T X a σ) (lev T X b):=by
 refine opt_ext fun r=> ?_
 rw[lev_iff]
 constructor
 ·rintro ⟨n,hn⟩
  rw[L.ev] at hn
  cases ha:L.ev (envN T X n) n a σ with
  |none=>rw[ha] at hn;cases hn
  |some p=>
   rw[ha] at hn
   rw[(lev_iff T X).2 ⟨n,ha⟩]
   obtain ⟨o,σ'⟩:=p
   cases o with
   |norm=>exact (lev_iff T X).2 ⟨n,hn⟩
   |_=>exact hn
 ·intro h
  cases ha:lev T X a σ with
  |none=>rw[ha] at h;cases h
  |some p=>
   rw[ha] at h
   obtain ⟨n,hn⟩:=(lev_iff T X).1 ha
   obtain ⟨o,σ'⟩:=p
   cases o with
   |norm=>
    obtain ⟨m,hm⟩:=(lev_iff T X).1 (show lev T X b σ'=some r from h)
    refine ⟨max n m,?_⟩
    rw[L.ev,L.mono (envN_le T X (Nat.le_max_left n m)) (Nat.le_max_left n m) hn]
    exact L.mono (envN_le T X (Nat.le_max_right n m)) (Nat.le_max_right n m) hm
   |_=>exact ⟨n,by rw[L.ev,hn];exact h⟩
theorem lev_cond {c:Src} {a b:L} {σ:St}:lev T X (.cond c a b) σ=ifD (c.ev σ) (lev T X a σ) (lev T X b σ):=by
 refine opt_ext fun r=> ?_
 rw[lev_iff]
 constructor
 ·rintro ⟨n,hn⟩
  rw[L.ev] at hn
  cases hc:c.ev σ with
  |none=>rw[hc] at hn;cases hn
  |some d=>
   rw[hc] at hn
   cases d with
   |bool v=>cases v with
    |true=>exact (lev_iff T X).2 ⟨n,hn⟩
    |false=>exact (lev_iff T X).2 ⟨n,hn⟩
   |_=>cases hn
 ·intro h
  cases hc:c.ev σ with
  |none=>rw[hc] at h;cases h
  |some d=>
   rw[hc] at h
   cases d with
   |bool v=>cases v with
    |true=>
     obtain ⟨n,hn⟩:=(lev_iff T X).1 (show lev T X a σ=some r from h)
     exact ⟨n,by rw[L.ev,hc];exact hn⟩
    |false=>
     obtain ⟨n,hn⟩:=(lev_iff T X).1 (show lev T X b σ=some r from h)
     exact ⟨n,by rw[L.ev,hc];exact hn⟩
   |_=>cases h
theorem lev_block {id:Nat} {a:L} {σ:St}:lev T X (.block id a) σ=inBlock id (lev T X a σ):=by
 refine opt_ext fun r=> ?_
 rw[lev_iff]
 constructor
 ·rintro ⟨n,hn⟩
  rw[L.ev] at hn
  cases ha:L.ev (envN T X n) n a σ with
  |none=>rw[ha] at hn;cases hn
  |some p=>
   rw[ha] at hn
   rw[(lev_iff T X).2 ⟨n,ha⟩]
   obtain ⟨o,σ'⟩:=p
   cases o<;>exact hn
 ·intro h
  cases ha:lev T X a σ with
  |none=>rw[ha] at h;cases h
  |some p=>
   rw[ha] at h
   obtain ⟨n,hn⟩:=(lev_iff T X).1 ha
   refine ⟨n,?_⟩
   rw[L.ev,hn]
   obtain ⟨o,σ'⟩:=p
   cases o<;>exact h
theorem lev_loop {a:L} {σ:St}:lev T X (.loop a) σ=thenL (lev T X a σ) (lev T X (.loop a)):=by
 refine opt_ext fun r=> ?_
 rw[lev_iff]
 constructor
 ·rintro ⟨n,hn⟩
  rw[L.ev] at hn
  cases n with
  |zero=>cases hn
  |succ n=>
   rw[iter] at hn
   cases ha:L.ev (envN T X (n+1)) (n+1) a σ with
   |none=>rw[ha] at hn;cases hn
   |some p=>
    rw[ha] at hn
    rw[(lev_iff T X).2 ⟨n+1,ha⟩]
    obtain ⟨o,σ'⟩:=p
    cases o with
    |norm=>exact (lev_iff T X).2 ⟨n+1,by rw[L.ev];exact iter_mono (fun _ _ h=>h) (Nat.le_succ n) hn⟩
    |_=>exact hn
 ·intro h
  cases ha:lev T X a σ with
  |none=>rw[ha] at h;cases h
  |some p=>
   rw[ha] at h
   obtain ⟨n,hn⟩:=(lev_iff T X).1 ha
   obtain ⟨o,σ'⟩:=p
   cases o with
   |norm=>
    obtain ⟨m,hm⟩:=(lev_iff T X).1 (show lev T X (.loop a) σ'=some r from h)
    refine ⟨max n m+1,?_⟩
    rw[L.ev,iter,L.mono (envN_le T X (zS (Nat.le_max_left n m) (Nat.le_succ _))) (zS (Nat.le_max_left n m) (Nat.le_succ _)) hn]
    rw[L.ev] at hm
    exact iter_mono (fun _ _ h=>L.mono (envN_le T X (zS (Nat.le_max_right n m) (Nat.le_succ _))) (zS (Nat.le_max_right n m) (Nat.le_succ _)) h) (Nat.le_max_right n m) hm
   |_=>exact ⟨n+1,by rw[L.ev,iter,L.mono (envN_le T X (Nat.le_succ n)) (Nat.le_succ n) hn];exact h⟩
def finL (sg:Sig) (base:Nat) (r:Option (Out×St)):Option (List (List D)):=match r with
 |some (.ret,σ)=>if parsHere σ 0 sg.params=true then some (σ (base+60)::parOuts σ 0 sg.params) else none
 |_=>none
theorem run_fn {f:Nat} {t:TFn} (hT:T f=some t) (ins:List (List D)):runF T X f ins=finL t.sg t.base (lev T X t.l fun i=>ins.getD i []):=by
 refine opt_ext fun r=> ?_
 rw[run_iff]
 constructor
 ·rintro ⟨n,hn⟩
  cases n with
  |zero=>cases hn
  |succ n=>
   rw[envN,hT] at hn
   simp only[runL] at hn
   split at hn
   ·rename_i σ h1
    rw[(lev_iff T X).2 ⟨n,h1⟩]
    exact hn
   ·cases hn
 ·intro h
  cases hl:lev T X t.l (fun i=>ins.getD i []) with
  |none=>rw[hl] at h;cases h
  |some p=>
   rw[hl] at h
   obtain ⟨n,hn⟩:=(lev_iff T X).1 hl
   refine ⟨n+1,?_⟩
   rw[envN,hT]
   simp only[runL]
   rw[hn]
   obtain ⟨o,σ'⟩:=p
   cases o<;>first|exact h|cases h
theorem run_ext {f:Nat} (hT:T f=none) (ins:List (List D)):runF T X f ins=X f ins:=by
 refine opt_ext fun r=> ?_
 rw[run_iff]
 constructor
 ·rintro ⟨n,hn⟩
  cases n with
  |zero=>cases hn
  |succ n=>rw[envN,hT] at hn;exact hn
 ·intro h
  exact ⟨1,by rw[envN,hT];exact h⟩
end
theorem loop_go {T:Nat→Option TFn} {X:Env} {a:L} (n:Nat) (Inv:Nat→St→Prop) (Post:Out→St→Prop)
  (h:∀i σ,i≤n→Inv i σ→(i<n∧∃σ',lev T X a σ=some (.norm,σ')∧Inv (i+1) σ')∨∃o σ',o≠ .norm∧lev T X a σ=some (o,σ')∧Post o σ'):
  ∀σ,Inv 0 σ→∃o σ',o≠ .norm∧lev T X (.loop a) σ=some (o,σ')∧Post o σ':=by
 have key:∀k i σ,n-i=k→i≤n→Inv i σ→∃o σ',o≠ .norm∧lev T X (.loop a) σ=some (o,σ')∧Post o σ':=by
  intro k
  induction k with
  |zero=>
   intro i σ hk hi hI
   rcases h i σ hi hI with ⟨hlt,_⟩|⟨o,σ',h1,h2,h3⟩
   ·omega
   ·refine ⟨o,σ',h1,?_,h3⟩
    rw[lev_loop,h2]
    cases o<;>first|rfl|exact absurd rfl h1
  |succ k ih=>
   intro i σ hk hi hI
   rcases h i σ hi hI with ⟨hlt,σ',h2,h3⟩|⟨o,σ',h1,h2,h3⟩
   ·obtain ⟨o,σ2,a1,a2,a3⟩:=ih (i+1) σ' (by omega) (by omega) h3
    refine ⟨o,σ2,a1,?_,a3⟩
    rw[lev_loop,h2]
    exact a2
   ·refine ⟨o,σ',h1,?_,h3⟩
    rw[lev_loop,h2]
    cases o<;>first|rfl|exact absurd rfl h1
 exact fun σ hI=>key n 0 σ (by omega) (Nat.zero_le n) hI
inductive Ty where
 |i (k:IntKind)|b|s|l (sz:Nat)|p|m|x
 deriving DecidableEq,Inhabited,Repr
def Ty.ok:Ty→D→Bool
 | .i k, .int k' _=>decide (k=k')
 | .b, .bool _=>true
 | .s, .str _=>true
 | .l sz, .sl sz' _=>sz==sz'
 | .p, .pt _=>true
 | .m, .mp _=>true
 | .x,_=>true
 |_,_=>false
def tysOk:List Ty→List D→Bool
 | [],[]=>true
 |t::ts,d::ds=>t.ok d&&tysOk ts ds
 |_,_=>false
def outsOk:List (List Ty)→List (List D)→Bool
 | [],[]=>true
 |t::ts,d::ds=>tysOk t d&&outsOk ts ds
 |_,_=>false
inductive A where
 |v (n:Nat)
 |k (d:D)
 deriving Inhabited
def A.ev (ρ:List D):A→D
 | .v n=>ρ.getD n .dead
 | .k d=>d
def pushD:List D→List D→List D
 | [],ρ=>ρ
 |d::ds,ρ=>pushD ds (d::ρ)
inductive Op1 where
 |bin (op:BinOp)
 |eqs (neg:Bool) (n:Nat) (zs:List D)
 |eqb (neg:Bool)
 |isNil (neg:Bool)
 |not|ng|len|slen
 |idx (sz:Nat)
 |row (sz:Nat)
 |deref
 |sidx
 |ssl (lo hi:Bool)
 |sub (sz:Nat) (lo hi:Bool)
 |app (sz:Nat) (fl:Bool)
 |lit (sz:Nat) (lens:List Nat)
 |mk (zero:List D)
 |conv (k:IntKind)
 |b2s
 |mget
 |mput
 |mm (max:Bool)
 |at (os:List Nat)
 |setAt (os:List Nat)
 |hole (os:List Nat)
 |putp (os:List Nat) (off sz:Nat) (fl:Bool)
 |box
 deriving Inhabited
def mkWay:List Nat→List D→Option (List (Nat×Nat))
 | [],[]=>some []
 |o::os, .int .i64 i::ds=>if 0≤i then (mkWay os ds).map ((i.toNat,o)::·) else none
 |_,_=>none
def splitL:List Nat→List D→Option (List (List D))
 | [],[]=>some []
 | [],_::_=>none
 |n::ns,ds=>if n≤ds.length then (splitL ns (ds.drop n)).map (ds.take n::·) else none
def putpD (off sz:Nat) (fl:Bool) (n:Nat) (l:List D):D→Option D
 | .sl sz' rows=>(rows[n]?).bind fun row=>if sz=sz'∧off+l.length≤row.length∧(!fl||(((row.drop off).take l.length).all D.flat&&l.all D.flat))=true then some (.sl sz (rows.set n (setCells row off l))) else none
 |_=>none
def optD:Bool→Bool→List D→Option (Option D×Option D)
 |false,false,[]=>some (none,none)
 |true,false,[a]=>some (some a,none)
 |false,true,[b]=>some (none,some b)
 |true,true,[a,b]=>some (some a,some b)
 |_,_,_=>none
def Op1.ev:Op1→List D→Option (List D)
 | .bin op,[a,b]=>(evBin op a b).map ([·])
 | .eqs neg n zs,ds=>if (sames (ds.take n) zs).isSome then (sames (ds.take n) (ds.drop n)).map fun r=>[.bool (r !=neg)] else none
 | .eqb neg,[.bool a, .bool b]=>some [.bool ((a==b) !=neg)]
 | .isNil neg,[.pt rows]=>some [.bool (rows.isEmpty !=neg)]
 | .not,[.bool b]=>some [.bool (!b)]
 | .ng,[.int k n]=>some [.int k (k.wrap (0-n))]
 | .len,[.sl _ rows]=>some [.int .i64 rows.length]
 | .slen,[.str s]=>some [.int .i64 s.length]
 | .idx sz,[.sl sz' rows, .int _ n]=>if sz=sz'∧0≤n∧n<rows.length then some [.int .i64 n] else none
 | .row sz,[.sl sz' rows, .int _ n]=>if sz=sz'∧0≤n then rows[n.toNat]? else none
 | .deref,[.pt [xs]]=>some xs
 | .sidx,[.str s, .int _ n]=>if 0≤n then (s[n.toNat]?).map fun c=>[.int .u8 c.toNat] else none
 | .ssl lo hi, .str s::ds=>(optD lo hi ds).bind fun p=>(cut s p.1 p.2).map fun r=>[.str r]
 | .sub sz lo hi, .sl sz' rows::ds=>if sz=sz' then (optD lo hi ds).bind fun p=>(cut rows p.1 p.2).map fun r=>[.sl sz r] else none
 | .app sz fl,[.sl sz1 xs, .sl sz2 ys]=>if sz=sz1∧sz=sz2∧xs.length+ys.length≤most∧(!fl||(xs.all (·.all D.flat)&&ys.all (·.all D.flat)))=true then some [.sl sz (xs++ys)] else none
 | .lit sz lens,ds=>(splitL lens ds).map fun l=>[.sl sz l]
 | .mk zero,[.int _ i]=>if 0≤i∧i≤most then some [.sl zero.length (List.replicate i.toNat zero)] else none
 | .conv k,[.int _ n]=>some [.int k (k.wrap n)]
 | .b2s,[.sl 1 rows]=>(bytesOfRows rows).map fun s=>[.str s]
 | .mget,[.mp l, .int .i64 i]=>some [.bool (mapGet l i)]
 | .mput,[.mp l, .int .i64 i, .bool b]=>some [.mp (mapPut l i b)]
 | .mm max,[.int k i, .int _ j]=>some [.int k (if max then (if j>i then j else i) else (if j<i then j else i))]
 | .at os,d::ds=>(mkWay os ds).bind fun w=>(d.at w).map ([·])
 | .setAt os,d::v::ds=>(mkWay os ds).bind fun w=>(d.setAt w (backD w v)).map ([·])
 | .hole os,d::ds=>(mkWay os ds).bind fun w=>(d.setAt w fun _=>some .dead).map ([·])
 | .putp os off sz fl,d:: .int .i64 i::ds=>if 0≤i then (mkWay os (ds.take os.length)).bind fun w=>(d.setAt w (putpD off sz fl i.toNat (ds.drop os.length))).map ([·]) else none
 | .box,ds=>if ds.isEmpty then none else some [.pt [ds]]
 |_,_=>none
inductive T where
 |ret (outs:List (List A))
 |go (j:Nat) (args:List A)
 |ite (c:A) (t e:T)
 |op (o:Op1) (args:List A) (tys:List Ty) (t:T)
 |call (f:Nat) (args:List (List A)) (tys:List (List Ty)) (t:T)
 deriving Inhabited
abbrev Rs:=Option (List (List D))
def evT (env:Env) (go:Nat→List D→Rs):T→List D→Rs
 | .ret outs,ρ=>some (outs.map fun l=>l.map (A.ev ρ))
 | .go j args,ρ=>go j (args.map (A.ev ρ))
 | .ite c t e,ρ=>match c.ev ρ with
  | .bool v=>if v=true then evT env go t ρ else evT env go e ρ
  |_=>none
 | .op o args tys t,ρ=>(o.ev (args.map (A.ev ρ))).bind fun ds=>if tysOk tys ds=true then evT env go t (pushD ds ρ) else none
 | .call f args tys t,ρ=>(env f (args.map fun l=>l.map (A.ev ρ))).bind fun outs=>if outsOk tys outs=true then evT env go t (pushD outs.flatten ρ) else none
inductive SA where
 |a (lvl:Nat) (ty:Ty)
 |k (d:D)
 deriving Inhabited
abbrev SSt:=List (Nat×List SA)
def SSt.get:SSt→Nat→Option (List SA)
 | [],_=>none
 |(r,cs)::S,s=>if r=s then some cs else SSt.get S s
def SA.atom (d:Nat):SA→A
 | .a lvl _=> .v (d-1-lvl)
 | .k x=> .k x
def D.tyOf:D→Ty
 | .int k _=> .i k
 | .bool _=> .b
 | .str _=> .s
 | .sl sz _=> .l sz
 | .pt _=> .p
 | .mp _=> .m
 | .dead=> .x
def SA.ty:SA→Ty
 | .a _ t=>t
 | .k d=>d.tyOf
def Ty.flat:Ty→Option Bool
 | .i _| .b| .s=>some true
 | .l _| .p| .m=>some false
 | .x=>none
def SA.flat:SA→Option Bool
 | .a _ t=>t.flat
 | .k d=>some d.flat
def SA.live:SA→Bool
 | .a _ t=>decide (t≠ .x)
 | .k d=>d.live
def flatS:List Bool→List SA→Bool
 |b::fl,c::cs=>decide (c.flat=some b)&&flatS fl cs
 |_,_=>true
abbrev Pa:=List (Src×SA)
def Pa.get:Pa→Src→Option SA
 | [],_=>none
 |(y,c)::P,x=>if y.eqb x then some c else Pa.get P x
def srcS (S:SSt) (P:Pa):Src→Option SA
 | .cst d=>some (.k d)
 | .c s o=>(S.get s).bind (·[o]?)
 |x=>P.get x
def srcsS (S:SSt) (P:Pa):List Src→Option (List SA)
 | []=>some []
 |x::xs=>match srcS S P x,srcsS S P xs with
  |some c,some l=>some (c::l)
  |_,_=>none
def I.pure:I→Option (Nat×List Src×Op1)
 | .bin op dst x y=>some (dst,[x,y], .bin op)
 | .eqs neg dst xs ys zs=>some (dst,xs++ys, .eqs neg xs.length zs)
 | .eqb neg dst x y=>some (dst,[x,y], .eqb neg)
 | .isNil neg dst x=>some (dst,[x], .isNil neg)
 | .not dst x=>some (dst,[x], .not)
 | .ng dst x=>some (dst,[x], .ng)
 | .len dst x=>some (dst,[x], .len)
 | .slen dst x=>some (dst,[x], .slen)
 | .idx dst sz x i=>some (dst,[x,i], .idx sz)
 | .row dst sz x i=>some (dst,[x,i], .row sz)
 | .deref dst x=>some (dst,[x], .deref)
 | .sidx dst x i=>some (dst,[x,i], .sidx)
 | .ssl dst x lo hi=>some (dst,x::(lo.toList++hi.toList), .ssl lo.isSome hi.isSome)
 | .sub dst sz x lo hi=>some (dst,x::(lo.toList++hi.toList), .sub sz lo.isSome hi.isSome)
 | .app dst sz x y fl=>some (dst,[x,y], .app sz fl)
 | .lit dst sz rows=>some (dst,rows.flatten, .lit sz (rows.map List.length))
 | .mk dst zero n=>some (dst,[n], .mk zero)
 | .conv dst k x=>some (dst,[x], .conv k)
 | .b2s dst x=>some (dst,[x], .b2s)
 | .mm max dst x y=>some (dst,[x,y], .mm max)
 |_=>none
def Arg.srcs:Arg→List Src
 | .v xs _ _=>xs
 | .bx _=>[]
def I.srcs:I→List Src
 | .set _ xs _=>xs
 | .put _ _ _ xs _=>xs
 | .putp _ _ _ _ _ _ _ xs _=>xs
 | .pick _ _ x y=>[x,y]
 | .mget _ _ k=>[k]
 | .mput _ _ k v=>[k,v]
 | .call _ args _=>args.flatMap Arg.srcs
 |i=>match i.pure with|some p=>p.2.1|none=>[]
def I.key:I→Nat
 | .set d _ _| .pick d _ _ _| .mget d _ _| .call _ _ d=>d
 | .put v _ _ _ _| .putp v _ _ _ _ _ _ _ _| .mput v _ _ _=>v
 |i=>match i.pure with|some p=>p.1|none=>0
def missing (S:SSt) (P:Pa):Nat→List Src→Option (Nat×Src)
 |_,[]=>none
 |n,x::xs=>match x with
  | .p _ _ _| .bx _=>(match P.get x with|some _=>missing S P (n+1) xs|none=>some (n,x))
  |_=>missing S P (n+1) xs
inductive Key where
 |after (id:Nat)|jn (r:Nat)|head (id:Nat)|atc (r:Nat)
 deriving DecidableEq,Inhabited,Repr
structure Cfg where
 ty:Nat→Option (List Ty)
 pty:Nat→Nat→List Nat→Option Ty
 rty:Nat→Option (List (List Ty))
 labs:List (Key×List (Nat×List Ty))
 sg:Sig
 base:Nat
def labFrom (k:Key):Nat→List (Key×List (Nat×List Ty))→Option (Nat×List (Nat×List Ty))
 |_,[]=>none
 |n,(k',l)::r=>if k=k' then some (n,l) else labFrom k (n+1) r
def Cfg.lab (C:Cfg) (k:Key):Option (Nat×List (Nat×List Ty)):=labFrom k 0 C.labs
inductive Fm where
 |l (x:L)
 |is (x:List LI)
 |ins (P:Pa) (x:List I) (dst:Option Nat) (nb:Bool)
 |blk (id:Nat)
 |jn (r:Nat)
 deriving Inhabited
def one1 (S:SSt) (r:Nat):Option SA:=match S.get r with
 |some [c]=>some c
 |_=>none
def ways (S:SSt):List (Nat×Nat)→Option (List SA)
 | []=>some []
 |(r,_)::w=>match one1 S r,ways S w with
  |some c,some l=>if c.ty= .i .i64 then some (c::l) else none
  |_,_=>none
def here1 (S:SSt) (r:Nat):Bool:=match S.get r with
 |some (_::_)=>true
 |_=>false
def setC (l:List SA) (off:Nat) (xs:List SA):List SA:=l.take off++xs++l.drop (off+xs.length)
def argsS (S:SSt) (P:Pa):List Arg→Option (List (List SA))
 | []=>some []
 | .v xs fl _::l=>match srcsS S P xs,argsS S P l with
  |some cs,some r=>if cs.all SA.live&&flatS fl cs then some (cs::r) else none
  |_,_=>none
 | .bx s::l=>match S.get s,argsS S P l with
  |some (c::cs),some r=>some ((c::cs)::r)
  |_,_=>none
inductive R2 where
 |fail
 |done (S:SSt)
 |more (o:Op1) (args:List SA) (ty:Ty) (k:SA→R2)
def isL:Ty→Bool
 | .l _=>true
 |_=>false
def backMuR (S:SSt):List (Nat×Nat×List (Nat×Nat))→List SA→(SSt→R2)→R2
 | [],[],k=>k S
 |(s,o,[])::l,d::ds,k=>match S.get s with
  |some cs=>match cs[o]?,d.ty with
   |some c, .l sz=>if c.ty= .l sz then backMuR ((s,cs.set o d)::S) l ds k else .fail
   |_,_=> .fail
  |none=> .fail
 |(s,o,p::w)::l,d::ds,k=>match S.get s,ways S (p::w) with
  |some cs,some ws=>match cs[o]? with
   |some c=> .more (.setAt ((p::w).map (·.2))) (c::d::ws) c.ty fun n=>backMuR ((s,cs.set o n)::S) l ds k
   |none=> .fail
  |_,_=> .fail
 |_,_,_=> .fail
def backsR (S:SSt) (dst:Nat) (res:List SA):List Arg→List (List SA)→R2
 | [],[]=> .done ((dst,res)::S)
 | .v _ _ []::l,os=>backsR S dst res l os
 | .v _ _ (m::mu)::l,o::os=>backMuR S (m::mu) o fun S'=>backsR S' dst res l os
 | .bx s::l,o::os=>backsR ((s,o)::S) dst res l os
 |_,_=> .fail
inductive R1 where
 |fail
 |next (S:SSt)
 |split (lvl:Nat)
 |op (o:Op1) (args:List SA) (tys:List Ty) (k:List SA→Option SSt)
 |call (f:Nat) (args:List (List SA)) (tys:List (List Ty)) (k:List (List SA)→R2)
 |path (o:Op1) (args:List SA) (ty:Ty) (x:Src)
def Op1.tys (o:Op1) (a:List SA) (hint:Option (List Ty)):Option (List Ty):=match o with
 | .bin op=>(match op with
  | .eql| .neq| .lss| .leq| .gtr| .geq=>some [.b]
  |_=>a.head?.map fun c=>[c.ty])
 | .eqs _ _ _| .eqb _| .isNil _| .not| .mget=>some [.b]
 | .ng| .mm _=>a.head?.map fun c=>[c.ty]
 | .len| .slen| .idx _=>some [.i .i64]
 | .row _| .deref=>hint
 | .sidx=>some [.i .u8]
 | .ssl _ _| .b2s=>some [.s]
 | .sub sz _ _| .app sz _| .lit sz _=>some [.l sz]
 | .mk zero=>some [.l zero.length]
 | .conv k=>some [.i k]
 | .mput=>some [.m]
 | .box=>some [.p]
 | .at _| .setAt _| .hole _| .putp _ _ _ _=>none
def boolOf:SA→Option (Bool ⊕ Nat)
 | .k (.bool v)=>some (.inl v)
 | .a lvl .b=>some (.inr lvl)
 |_=>none
def sxI (C:Cfg) (S:SSt) (P:Pa) (i:I):R1:=
 match missing S P 0 i.srcs with
 |some (_, .p s o w)=>(match C.pty s o (w.map (·.2)),(S.get s).bind (·[o]?),ways S w with
  |some ty,some c,some ws=> .path (.at (w.map (·.2))) (c::ws) ty (.p s o w)
  |_,_,_=> .fail)
 |some (_, .bx s)=>(match S.get s with
  |some (c::cs)=> .path .box (c::cs) .p (.bx s)
  |_=> .fail)
 |some _=> .fail
 |none=>match i with
  | .chk t=>if here1 S t then .next S else .fail
  | .set dst xs fl=>(match srcsS S P xs with
   |some cs=>if flatS fl cs then .next ((dst,cs)::S) else .fail
   |none=> .fail)
  | .cpy dst s=>(match S.get s with
   |some (c::cs)=> .next ((dst,c::cs)::S)
   |_=> .fail)
  | .put via s off xs fl=>(match srcsS S P xs,S.get s with
   |some cs,some l=>if here1 S via&&decide (off+cs.length≤l.length)&&flatS fl cs then .next ((s,setC l off cs)::S) else .fail
   |_,_=> .fail)
  | .putp via s k w i off sz xs fl=>(match srcsS S P xs,S.get s,ways S ((i,0)::w) with
   |some cs,some l,some (ix::ws)=>(match l[k]? with
    |some c=>if here1 S via&&decide (c.ty≠ .x) then .op (.putp (w.map (·.2)) off sz fl) (c::ix::(ws++cs)) [c.ty] fun ns=>match ns with
      | [n]=>some ((s,l.set k n)::S)
      |_=>none
     else .fail
    |none=> .fail)
   |_,_,_=> .fail)
  | .hole s k []=>(match S.get s with
   |some l=>if k<l.length then .next ((s,l.set k (.k .dead))::S) else .fail
   |none=> .fail)
  | .hole s k w=>(match S.get s,ways S w with
   |some l,some ws=>(match l[k]? with
    |some c=> .op (.hole (w.map (·.2))) (c::ws) [c.ty] fun ns=>match ns with
      | [n]=>some ((s,l.set k n)::S)
      |_=>none
    |none=> .fail)
   |_,_=> .fail)
  | .pick dst c x y=>(match (srcS S P c).bind boolOf with
   |some (.inl v)=>(match srcS S P (if v then x else y) with
    |some a=> .next ((dst,[a])::S)
    |none=> .fail)
   |some (.inr lvl)=> .split lvl
   |none=> .fail)
  | .mnew dst=> .next ((dst,[.k (.mp [])])::S)
  | .mget dst m key=>(match one1 S m,srcS S P key with
   |some c,some k=> .op .mget [c,k] [.b] fun ns=>some ((dst,ns)::S)
   |_,_=> .fail)
  | .mput via m key val=>(match one1 S m,srcS S P key,srcS S P val with
   |some c,some k,some v=>if here1 S via then .op .mput [c,k,v] [.m] fun ns=>some ((m,ns)::S) else .fail
   |_,_,_=> .fail)
  | .call f args dst=>(match argsS S P args,C.rty f with
   |some cs,some tys=> .call f cs tys fun os=>match os with
     |res::os=>backsR S dst res args os
     | []=> .fail
   |_,_=> .fail)
  |i=>match i.pure with
   |some (dst,xs,o)=>(match srcsS S P xs with
    |some cs=>(match o.tys cs (C.ty dst) with
     |some tys=> .op o cs tys fun ns=>some ((dst,ns)::S)
     |none=> .fail)
    |none=> .fail)
   |none=> .fail
section force
variable {β:Type}
def forceA (c:SA) (k:SA→β):β:=match c with
 | .a lvl ty=>forceN lvl fun lvl=>(match ty with
  | .i q=>k (.a lvl (.i q))| .b=>k (.a lvl .b)| .s=>k (.a lvl .s)| .l sz=>forceN sz fun sz=>k (.a lvl (.l sz))| .p=>k (.a lvl .p)| .m=>k (.a lvl .m)| .x=>k (.a lvl .x))
 | .k d=>k (.k d)
def forceR (x:Nat×List SA) (k:Nat×List SA→β):β:=match x with
 |(r,cs)=>forceN r fun r=>forceL forceA cs fun cs=>k (r,cs)
def force1 (S:SSt) (k:SSt→β):β:=match S with
 | []=>k []
 |x::S=>forceR x fun x=>k (x::S)
def forceZ (S:SSt) (k:SSt→β):β:=forceL forceR S k
theorem forceA_eq (c:SA) (k:SA→β):forceA c k=k c:=by
 cases c with
 |a lvl ty=>cases ty<;>simp only[forceA,forceN_eq]
 |k d=>rfl
theorem forceR_eq (x:Nat×List SA) (k:Nat×List SA→β):forceR x k=k x:=by obtain ⟨r,cs⟩:=x;simp only[forceR,forceN_eq,forceL_eq forceA_eq]
theorem force1_eq (S:SSt) (k:SSt→β):force1 S k=k S:=by cases S<;>simp only[force1,forceR_eq]
theorem forceZ_eq (S:SSt) (k:SSt→β):forceZ S k=k S:=forceL_eq forceR_eq S k
end force
def newA (d:Nat):List Ty→List SA
 | []=>[]
 |t::ts=> .a d t::newA (d+1) ts
def newAs (d:Nat):List (List Ty)→List (List SA)
 | []=>[]
 |t::ts=>newA d t::newAs (d+t.length) ts
def substA (lvl:Nat) (v:Bool):SA→SA
 | .a l t=>if l=lvl then .k (.bool v) else .a l t
 |c=>c
def substS (lvl:Nat) (v:Bool) (S:SSt):SSt:=S.map fun x=>(x.1,x.2.map (substA lvl v))
def substP (lvl:Nat) (v:Bool) (P:Pa):Pa:=P.map fun x=>(x.1,substA lvl v x.2)
def substF (lvl:Nat) (v:Bool):List Fm→List Fm
 | .ins P is dst nb::ks=> .ins (substP lvl v P) is dst nb::ks
 |ks=>ks
def dropTo (id:Nat):List Fm→List Fm
 | []=>[]
 | .blk i::ks=>if i=id then .blk i::ks else dropTo id ks
 |_::ks=>dropTo id ks
def layCells:List Ty→List SA→Option (List SA)
 | [],[]=>some []
 |t::ts,c::cs=>if t= .x∨c.ty=t then (layCells ts cs).map (c::·) else none
 |_,_=>none
def layArgs (S:SSt):List (Nat×List Ty)→Option (List SA)
 | []=>some []
 |(s,tys)::l=>match S.get s with
  |some cs=>(match layCells tys cs,layArgs S l with
   |some a,some b=>some (a++b)
   |_,_=>none)
  |none=>none
def goAt (d:Nat) (S:SSt) (q:Nat×List (Nat×List Ty)):Option T:=(layArgs S q.2).map fun cs=> .go q.1 (cs.map (SA.atom d))
def mutS:List SA→List PC→List SA
 |d::ds,c::cs=>match c.out with
  |none=>mutS ds cs
  |some _=>d::mutS ds cs
 |_,_=>[]
def parOutsS (S:SSt):Nat→List PSig→Option (List (List SA))
 |_,[]=>some []
 |i, .v cs::ps=>if cs.all (fun c=>c.out.isNone) then parOutsS S (i+1) ps else (match S.get i,parOutsS S (i+1) ps with
  |some (x::xs),some r=>some (mutS (x::xs) cs::r)
  |_,_=>none)
 |i, .bx _ _ _::ps=>(match S.get i,parOutsS S (i+1) ps with
  |some (x::xs),some r=>some ((x::xs)::r)
  |_,_=>none)
def retS (C:Cfg) (d:Nat) (S:SSt):Option T:=match S.get (C.base+60),parOutsS S 0 C.sg.params with
 |some cs,some os=>some (.ret ((cs::os).map fun l=>l.map (SA.atom d)))
 |_,_=>none
def headKey:List Fm→Option Key
 | .blk id::_=>some (.head id)
 |_=>none
def runR (k:Nat→SSt→Option T):R2→Nat→Option T
 | .fail,_=>none
 | .done S,d=>k d S
 | .more o args ty f,d=>forceN (d+1) fun d'=>(runR k (f (.a d ty)) d').map (.op o (args.map (SA.atom d)) [ty])
def sx (C:Cfg):Nat→Bool→Nat→SSt→List Fm→Option T
 |0,_,_,_,_=>none
 |n+1,fresh,d,S,fs=>match fs with
  | []=>none
  | .blk id::ks=>(match C.lab (.after id) with
   |some q=>goAt d S q
   |none=>sx C n false d S ks)
  | .jn r::ks=>(match C.lab (.jn r) with
   |some q=>goAt d S q
   |none=>sx C n false d S ks)
  | .is []::ks=>sx C n false d S ks
  | .is (x::xs)::ks=>(match x.guard with
   |none=>sx C n false d S (.ins [] x.is x.dst x.nb:: .is xs::ks)
   |some (g,want)=>
    let skip:=sx C n false d (match x.dst with|some r=>(r,[])::S|none=>S) (.is xs::ks)
    match S.get g with
    |some [c]=>(match boolOf c with
     |some (.inl v)=>if v=want then sx C n false d S (.ins [] x.is x.dst x.nb:: .is xs::ks) else skip
     |some (.inr lvl)=>forceZ (substS lvl true S) fun S1=>forceZ (substS lvl false S) fun S0=>(match sx C n false d S1 fs,sx C n false d S0 fs with
      |some t,some e=>some (.ite (SA.atom d (.a lvl .b)) t e)
      |_,_=>none)
     |none=>none)
    |some []=>skip
    |_=>none)
  | .ins _ [] dst nb::ks=>(match nb,dst with
   |true,some r=>if here1 S r then sx C n false d S ks else none
   |_,_=>sx C n false d S ks)
  | .ins P (i::is) dst nb::ks=>(match sxI C S P i with
   | .fail=>none
   | .next S'=>force1 S' fun S'=>sx C n false d S' (.ins [] is dst nb::ks)
   | .split lvl=>forceZ (substS lvl true S) fun S1=>forceZ (substS lvl false S) fun S0=>
    (match sx C n false d S1 (substF lvl true fs),sx C n false d S0 (substF lvl false fs) with
    |some t,some e=>some (.ite (SA.atom d (.a lvl .b)) t e)
    |_,_=>none)
   | .op o args tys k=>(k (newA d tys)).bind fun S'=>forceN (d+tys.length) fun d'=>force1 S' fun S'=>(sx C n false d' S' (.ins [] is dst nb::ks)).map (.op o (args.map (SA.atom d)) tys)
   | .call f args tys k=>forceN (d+tys.flatten.length) fun d'=>(runR (fun d' S'=>forceZ S' fun S'=>sx C n false d' S' (.ins [] is dst nb::ks)) (k (newAs d tys)) d').map (.call f (args.map fun l=>l.map (SA.atom d)) tys)
   | .path o args ty x=>forceN (d+1) fun d'=>(sx C n false d' S (.ins ((x, .a d ty)::P) (i::is) dst nb::ks)).map (.op o (args.map (SA.atom d)) [ty]))
  | .l .skip::ks=>sx C n false d S ks
  | .l (.ops lis)::ks=>sx C n false d S (.is lis::ks)
  | .l (.seq a b)::ks=>sx C n false d S (.l a:: .l b::ks)
  | .l (.block id a)::ks=>sx C n false d S (.l a:: .blk id::ks)
  | .l (.exit id)::ks=>sx C n false d S (dropTo id ks)
  | .l .ret::_=>retS C d S
  | .l (.loop a)::ks=>if fresh then sx C n false d S (.l a:: .l (.loop a)::ks) else (match (headKey ks).bind C.lab with
   |some q=>goAt d S q
   |none=>none)
  | .l (.cond c a b)::ks=>match c with
   | .c r o=>(match if fresh then none else C.lab (.atc r) with
    |some q=>goAt d S q
    |none=>let ks':= .jn r::ks
     match (srcS S [] (.c r o)).bind boolOf with
     |some (.inl v)=>sx C n false d S (.l (if v then a else b)::ks')
     |some (.inr lvl)=>forceZ (substS lvl true S) fun S1=>forceZ (substS lvl false S) fun S0=>(match sx C n false d S1 (.l a::ks'),sx C n false d S0 (.l b::ks') with
      |some t,some e=>some (.ite (SA.atom d (.a lvl .b)) t e)
      |_,_=>none)
     |none=>none)
   |_=>none
def loc2 (k:Key):L→List Fm→Option (List Fm)
 | .seq a b,ks=>match loc2 k a (.l b::ks) with
  |some r=>some r
  |none=>loc2 k b ks
 | .cond c a b,ks=>match c with
  | .c r o=>if k= .atc r then some (.l (.cond (.c r o) a b)::ks) else if k= .jn r then some ks else (match loc2 k a (.jn r::ks) with
   |some q=>some q
   |none=>loc2 k b (.jn r::ks))
  |_=>none
 | .block i a,ks=>if k= .after i then some ks else loc2 k a (.blk i::ks)
 | .loop a,ks=>if some k=headKey ks then some (.l (.loop a)::ks) else loc2 k a (.l (.loop a)::ks)
 |_,_=>none
def keysOf:L→Option Key→List Key
 | .seq a b,h=>keysOf a none++keysOf b h
 | .cond c a b,_=>match c with
  | .c r _=> .atc r:: .jn r::(keysOf a none++keysOf b none)
  |_=>[]
 | .block i a,_=> .after i::keysOf a (some (.head i))
 | .loop a,h=>h.toList++keysOf a none
 |_,_=>[]
theorem pushD_eq:∀(ds ρ:List D),pushD ds ρ=ds.reverse++ρ
 | [],ρ=>rfl
 |d::ds,ρ=>by rw[pushD,pushD_eq ds];simp
def SA.den (ρ:List D):SA→D
 | .a lvl _=>ρ.getD (ρ.length-1-lvl) .dead
 | .k d=>d
def SA.good (ρ:List D):SA→Prop
 | .a lvl ty=>lvl<ρ.length∧ty.ok (ρ.getD (ρ.length-1-lvl) .dead)=true
 | .k _=>True
theorem SA.atom_ev {ρ:List D} {c:SA}:(c.atom ρ.length).ev ρ=c.den ρ:=by cases c<;>rfl
theorem atoms_ev {ρ:List D} (cs:List SA):(cs.map (SA.atom ρ.length)).map (A.ev ρ)=cs.map (SA.den ρ):=by
 rw[List.map_map]
 exact List.map_congr_left fun c _=>SA.atom_ev
theorem atomss_ev {ρ:List D} (cs:List (List SA)):(cs.map fun l=>l.map (SA.atom ρ.length)).map (fun l=>l.map (A.ev ρ))=cs.map fun l=>l.map (SA.den ρ):=by
 rw[List.map_map]
 exact List.map_congr_left fun c _=>atoms_ev c
theorem push_get {ρ ds:List D} {lvl:Nat} (h:lvl<ρ.length):(pushD ds ρ).getD ((pushD ds ρ).length-1-lvl) .dead=ρ.getD (ρ.length-1-lvl) .dead:=by
 rw[pushD_eq,zM,zM,zH (by simp;omega)]
 congr 2
 simp
 omega
theorem push_len {ρ ds:List D}:(pushD ds ρ).length=ρ.length+ds.length:=by rw[pushD_eq];simp;omega
theorem SA.push {ρ ds:List D} {c:SA} (h:c.good ρ):c.den (pushD ds ρ)=c.den ρ∧c.good (pushD ds ρ):=by
 cases c with
 |a lvl ty=>
  refine ⟨push_get h.1,?_,?_⟩
  ·rw[push_len];exact Nat.lt_of_lt_of_le h.1 (by omega)
  ·rw[push_get h.1];exact h.2
 |k d=>exact ⟨rfl,trivial⟩
theorem push_dens {ρ ds:List D} {cs:List SA} (h:∀c∈cs,c.good ρ):cs.map (SA.den (pushD ds ρ))=cs.map (SA.den ρ)∧∀c∈cs,c.good (pushD ds ρ):=
 ⟨List.map_congr_left fun c hc=>(SA.push (h c hc)).1,fun c hc=>(SA.push (h c hc)).2⟩
theorem tysOk_len:∀{ts:List Ty} {ds:List D},tysOk ts ds=true→ts.length=ds.length
 | [],[],_=>rfl
 | [],_::_,h=>by cases h
 |_::_,[],h=>by cases h
 |t::ts,d::ds,h=>by
  rw[tysOk,zD] at h
  simp[tysOk_len h.2]
theorem newA_ok:∀{ts:List Ty} {ds ρ:List D},tysOk ts ds=true→(newA ρ.length ts).map (SA.den (pushD ds ρ))=ds∧∀c∈newA ρ.length ts,c.good (pushD ds ρ)
 | [],[],_,_=>⟨rfl,fun c hc=>by cases hc⟩
 | [],_::_,_,h=>by cases h
 |_::_,[],_,h=>by cases h
 |t::ts,d::ds,ρ,h=>by
  rw[tysOk,zD] at h
  have ih:=newA_ok (ts:=ts) (ds:=ds) (ρ:=d::ρ) h.2
  have h0:SA.good (d::ρ) (.a ρ.length t):=⟨by simp,by simpa using h.1⟩
  have h1:=SA.push (ds:=ds) h0
  have hd:SA.den (d::ρ) (.a ρ.length t)=d:=by simp[SA.den]
  rw[newA,pushD]
  refine ⟨?_,fun c hc=> ?_⟩
  ·rw[List.map_cons,h1.1,hd]
   congr 1
   exact ih.1
  ·rcases List.mem_cons.1 hc with rfl|hc
   ·exact h1.2
   ·exact ih.2 c hc
theorem newAs_ok:∀{ts:List (List Ty)} {ds:List (List D)} {ρ:List D},outsOk ts ds=true→(newAs ρ.length ts).map (fun l=>l.map (SA.den (pushD ds.flatten ρ)))=ds∧∀l∈newAs ρ.length ts,∀c∈l,c.good (pushD ds.flatten ρ)
 | [],[],_,_=>⟨rfl,fun c hc=>by cases hc⟩
 | [],_::_,_,h=>by cases h
 |_::_,[],_,h=>by cases h
 |t::ts,d::ds,ρ,h=>by
  rw[outsOk,zD] at h
  have h1:=newA_ok (ρ:=ρ) h.1
  have hl:ρ.length+t.length=(pushD d ρ).length:=by rw[push_len,tysOk_len h.1]
  have ih:=newAs_ok (ts:=ts) (ds:=ds) (ρ:=pushD d ρ) h.2
  have hp:pushD (d::ds).flatten ρ=pushD ds.flatten (pushD d ρ):=by rw[pushD_eq,pushD_eq,pushD_eq];simp
  rw[newAs,hl,hp]
  have h2:=push_dens (ds:=ds.flatten) h1.2
  refine ⟨?_,fun l hl c hc=> ?_⟩
  ·rw[List.map_cons,h2.1,h1.1,ih.1]
  ·rcases List.mem_cons.1 hl with rfl|hl
   ·exact h2.2 c hc
   ·exact ih.2 l hl c hc
def Fit (S:SSt) (ρ:List D) (σ:St):Prop:=∀s cs,S.get s=some cs→σ s=cs.map (SA.den ρ)∧∀c∈cs,c.good ρ
def FitP (P:Pa) (ρ:List D) (σ:St):Prop:=∀x c,P.get x=some c→x.ev σ=some (c.den ρ)∧c.good ρ
theorem Fit.push {S:SSt} {ρ ds:List D} {σ:St} (h:Fit S ρ σ):Fit S (pushD ds ρ) σ:=fun s cs hs=>by
 have h1:=h s cs hs
 have h2:=push_dens (ds:=ds) h1.2
 exact ⟨by rw[h2.1];exact h1.1,h2.2⟩
theorem FitP.push {P:Pa} {ρ ds:List D} {σ:St} (h:FitP P ρ σ):FitP P (pushD ds ρ) σ:=fun x c hx=>by
 have h1:=h x c hx
 have h2:=SA.push (ds:=ds) h1.2
 exact ⟨by rw[h2.1];exact h1.1,h2.2⟩
theorem FitP.nil {ρ:List D} {σ:St}:FitP [] ρ σ:=fun _ _ h=>by cases h
theorem Fit.upd {S:SSt} {ρ:List D} {σ:St} (h:Fit S ρ σ) {s:Nat} {cs:List SA} {l:List D} (hl:l=cs.map (SA.den ρ)) (hg:∀c∈cs,c.good ρ):Fit ((s,cs)::S) ρ (σ.upd s l):=fun t c hc=>by
 unfold SSt.get at hc
 unfold St.upd
 split at hc
 ·rename_i e
  cases hc
  rw[if_pos e.symm]
  exact ⟨hl,hg⟩
 ·rename_i e
  rw[if_neg (fun e'=>e e'.symm)]
  exact h t c hc
theorem srcS_ok {S:SSt} {P:Pa} {ρ:List D} {σ:St} (h:Fit S ρ σ) (hP:FitP P ρ σ) {x:Src} {c:SA} (hx:srcS S P x=some c):x.ev σ=some (c.den ρ)∧c.good ρ:=by
 cases x with
 |cst d=>cases hx;exact ⟨rfl,trivial⟩
 |c s o=>
  simp only[srcS,zA] at hx
  obtain ⟨cs,h1,h2⟩:=hx
  have h3:=h s cs h1
  refine ⟨?_,h3.2 c (zF h2)⟩
  simp only[Src.ev]
  rw[h3.1,zK,h2]
  rfl
 |p s k w=>exact hP _ _ hx
 |bx s=>exact hP _ _ hx
theorem srcsS_ok {S:SSt} {P:Pa} {ρ:List D} {σ:St} (h:Fit S ρ σ) (hP:FitP P ρ σ):∀{xs:List Src} {cs:List SA},srcsS S P xs=some cs→evs σ xs=some (cs.map (SA.den ρ))∧∀c∈cs,c.good ρ
 | [],cs,hx=>by cases hx;exact ⟨rfl,fun c hc=>by cases hc⟩
 |x::xs,cs,hx=>by
  rw[srcsS] at hx
  split at hx
  ·rename_i c l h1 h2
   cases hx
   have a1:=srcS_ok h hP h1
   have a2:=srcsS_ok h hP h2
   refine ⟨by simp only[evs,a1.1,a2.1];rfl,fun c hc=> ?_⟩
   rcases List.mem_cons.1 hc with rfl|hc
   ·exact a1.2
   ·exact a2.2 c hc
  ·cases hx
theorem Ty.ok_flat {t:Ty} {d:D} {b:Bool} (h:t.ok d=true) (hf:t.flat=some b):d.flat=b:=by
 cases t<;>cases d<;>simp_all [Ty.ok,Ty.flat,D.flat]
theorem SA.flat_ok {ρ:List D} {c:SA} {b:Bool} (h:c.good ρ) (hf:c.flat=some b):(c.den ρ).flat=b:=by
 cases c with
 |a lvl ty=>exact Ty.ok_flat h.2 hf
 |k d=>exact zU hf
theorem flatS_ok {ρ:List D}:∀{fl:List Bool} {cs:List SA},(∀c∈cs,c.good ρ)→flatS fl cs=true→Go.Own.flat fl (cs.map (SA.den ρ))=true
 | [],_,_,_=>by simp[Go.Own.flat]
 |_::_,[],_,_=>by simp[Go.Own.flat]
 |b::fl,c::cs,hg,h=>by
  simp only[flatS,zD,decide_eq_true_eq] at h
  have h1:=SA.flat_ok (hg c (by simp)) h.1
  have ih:=flatS_ok (fl:=fl) (cs:=cs) (fun c hc=>hg c (by simp[hc])) h.2
  cases b<;>simp[Go.Own.flat,h1,ih]
theorem Ty.ok_live {t:Ty} {d:D} (h:t.ok d=true) (hf:t≠ .x):d.live=true:=by
 cases t<;>cases d<;>simp_all [Ty.ok,D.live]
theorem SA.live_ok {ρ:List D} {c:SA} (h:c.good ρ) (hf:c.live=true):(c.den ρ).live=true:=by
 cases c with
 |a lvl ty=>exact Ty.ok_live h.2 (by simpa[SA.live] using hf)
 |k d=>exact hf
theorem D.tyOf_ok (d:D):d.tyOf.ok d=true:=by cases d<;>simp[D.tyOf,Ty.ok]
theorem SA.ty_ok {ρ:List D} {c:SA} (h:c.good ρ):c.ty.ok (c.den ρ)=true:=by
 cases c with
 |a lvl ty=>exact h.2
 |k d=>exact D.tyOf_ok d
theorem here1_ok {S:SSt} {ρ:List D} {σ:St} (h:Fit S ρ σ) {s:Nat} (hs:here1 S s=true):(σ s).isEmpty=false:=by
 unfold here1 at hs
 split at hs
 ·rename_i c cs hg
  rw[(h s _ hg).1]
  rfl
 ·cases hs
theorem one1_ok {S:SSt} {ρ:List D} {σ:St} (h:Fit S ρ σ) {s:Nat} {c:SA} (hs:one1 S s=some c):σ s=[c.den ρ]∧c.good ρ:=by
 unfold one1 at hs
 split at hs
 ·rename_i c' hg
  cases hs
  exact ⟨(h s _ hg).1,(h s _ hg).2 _ (by simp)⟩
 ·cases hs
theorem i64_of {d:D} (h:Ty.ok (.i .i64) d=true):∃n,d= .int .i64 n:=by
 cases d<;>simp[Ty.ok] at h
 subst h
 exact ⟨_,rfl⟩
theorem ways_ok {S:SSt} {ρ:List D} {σ:St} (h:Fit S ρ σ):∀{w:List (Nat×Nat)} {ws:List SA},ways S w=some ws→wayOf σ w=mkWay (w.map (·.2)) (ws.map (SA.den ρ))∧(∀c∈ws,c.good ρ)∧ws.length=w.length
 | [],ws,hw=>by cases hw;exact ⟨rfl,(fun c hc=>by cases hc),rfl⟩
 |(r,o)::w,ws,hw=>by
  rw[ways] at hw
  split at hw
  ·rename_i c l h1 h2
   split at hw
   ·rename_i ht
    cases hw
    have a1:=one1_ok h h1
    obtain ⟨a2,a3,a4⟩:=ways_ok h h2
    have a5:=SA.ty_ok a1.2
    rw[ht] at a5
    obtain ⟨n,hn⟩:=i64_of a5
    refine ⟨?_,fun c hc=> ?_,by simp[a4]⟩
    ·simp only[wayOf,idxOf,a1.1,hn,List.map_cons,mkWay]
     rw[a2]
     by_cases h0:0≤n
     ·simp only[h0,if_true]
      cases mkWay (w.map (·.2)) (l.map (SA.den ρ))<;>rfl
     ·simp only[h0,if_false]
    ·rcases List.mem_cons.1 hc with rfl|hc
     ·exact a1.2
     ·exact a3 c hc
   ·cases hw
  ·cases hw
theorem evs_append {σ:St}:∀(xs ys:List Src),evs σ (xs++ys)=(evs σ xs).bind fun a=>(evs σ ys).map (a++·)
 | [],ys=>by simp[evs]
 |x::xs,ys=>by
  rw[List.cons_append,evs,evs_append xs ys,evs]
  cases x.ev σ with
  |none=>rfl
  |some d=>
   cases evs σ xs with
   |none=>rfl
   |some l=>simp only[Option.bind_some];cases evs σ ys<;>rfl
theorem evs_len {σ:St}:∀{xs:List Src} {ds:List D},evs σ xs=some ds→ds.length=xs.length
 | [],ds,h=>by cases h;rfl
 |x::xs,ds,h=>by
  rw[evs] at h
  split at h
  ·rename_i d l h1 h2
   cases h
   simp[evs_len h2]
  ·cases h
theorem mapM_split {σ:St}:∀(rows:List (List Src)),rows.mapM (evs σ)=(evs σ rows.flatten).bind (splitL (rows.map List.length))
 | []=>rfl
 |x::xs=>by
  rw[List.flatten_cons,evs_append,List.mapM_cons,mapM_split xs,List.map_cons]
  cases hx:evs σ x with
  |none=>rfl
  |some a=>
   have hl:=evs_len hx
   simp only[Option.bind_some,Option.bind_eq_bind,Option.pure_def]
   cases evs σ xs.flatten with
   |none=>rfl
   |some b=>
    simp only[Option.bind_some,Option.map_some,splitL]
    rw[if_pos (by simp;omega),← hl,List.drop_left,List.take_left]
    cases splitL (xs.map List.length) b<;>rfl
theorem optD_ok {α:Type} {σ:St} {lo hi:Option Src} {F:Option D→Option D→Option α}:((optEv σ lo).bind fun l=>(optEv σ hi).bind fun h=>F l h)=(evs σ (lo.toList++hi.toList)).bind fun ds=>(optD lo.isSome hi.isSome ds).bind fun p=>F p.1 p.2:=by
 cases lo with
 |none=>cases hi with
  |none=>rfl
  |some h=>simp only[optEv,Option.toList,List.nil_append,evs,Option.isSome,Option.bind_some];cases h.ev σ<;>rfl
 |some l=>cases hi with
  |none=>simp only[optEv,Option.toList,List.append_nil,evs,Option.isSome];cases l.ev σ<;>rfl
  |some h=>simp only[optEv,Option.toList,List.cons_append,List.nil_append,evs,Option.isSome];cases l.ev σ<;>cases h.ev σ<;>rfl
theorem pure_ok {env:Env} {σ:St} {i:I} {dst:Nat} {xs:List Src} {o:Op1} (h:i.pure=some (dst,xs,o)):i.ev env σ=(evs σ xs).bind fun ds=>(o.ev ds).map (σ.upd dst):=by
 cases i with
 |bin op d x y=>
  cases h
  simp only[I.ev,evs]
  cases x.ev σ with
  |none=>rfl
  |some a=>cases y.ev σ with
   |none=>rfl
   |some b=>simp only[Option.bind_some,Op1.ev];cases evBin op a b<;>rfl
 |eqs neg d xs ys zs=>
  cases h
  simp only[I.ev]
  rw[evs_append]
  cases hx:evs σ xs with
  |none=>rfl
  |some a=>
   have hl:=evs_len hx
   simp only[Option.bind_some]
   cases evs σ ys with
   |none=>rfl
   |some b=>
    simp only[Option.bind_some,Option.map_some,Op1.ev]
    rw[← hl,List.take_left,List.drop_left]
    split
    ·cases sames a b<;>rfl
    ·rfl
 |eqb neg d x y=>
  cases h
  simp only[I.ev,evs]
  cases x.ev σ with
  |none=>rfl
  |some a=>cases y.ev σ with
   |none=>rfl
   |some b=>cases a<;>cases b<;>rfl
 |isNil neg d x=>
  cases h
  simp only[I.ev,evs]
  cases x.ev σ with
  |none=>rfl
  |some a=>cases a<;>rfl
 |not d x=>
  cases h
  simp only[I.ev,evs]
  cases x.ev σ with
  |none=>rfl
  |some a=>cases a<;>rfl
 |ng d x=>
  cases h
  simp only[I.ev,evs]
  cases x.ev σ with
  |none=>rfl
  |some a=>cases a<;>rfl
 |len d x=>
  cases h
  simp only[I.ev,evs]
  cases x.ev σ with
  |none=>rfl
  |some a=>cases a<;>rfl
 |slen d x=>
  cases h
  simp only[I.ev,evs]
  cases x.ev σ with
  |none=>rfl
  |some a=>cases a<;>rfl
 |idx d sz x y=>
  cases h
  simp only[I.ev,evs]
  cases x.ev σ with
  |none=>rfl
  |some a=>cases y.ev σ with
   |none=>rfl
   |some b=>
    simp only[Option.bind_some]
    cases a<;>cases b<;>simp only[Op1.ev,Option.map_none]<;>split<;>rfl
 |row d sz x y=>
  cases h
  simp only[I.ev,evs]
  cases x.ev σ with
  |none=>rfl
  |some a=>cases y.ev σ with
   |none=>rfl
   |some b=>
    simp only[Option.bind_some]
    cases a<;>cases b<;>simp only[Op1.ev,Option.map_none]<;>split<;>rfl
 |deref d x=>
  cases h
  simp only[I.ev,evs]
  cases x.ev σ with
  |none=>rfl
  |some a=>
   simp only[Option.bind_some]
   cases a with
   |pt rows=>cases rows with
    |nil=>rfl
    |cons r rs=>cases rs<;>rfl
   |_=>rfl
 |sidx d x y=>
  cases h
  simp only[I.ev,evs]
  cases x.ev σ with
  |none=>rfl
  |some a=>cases y.ev σ with
   |none=>rfl
   |some b=>
    simp only[Option.bind_some]
    cases a<;>cases b<;>simp only[Op1.ev,Option.map_none]<;>split<;>(try simp only[Option.map_map,Option.map_none])<;>rfl
 |ssl d x lo hi=>
  cases h
  simp only[I.ev,evs]
  cases x.ev σ with
  |none=>rfl
  |some a=>
   simp only[Option.bind_some]
   rw[optD_ok]
   cases evs σ (lo.toList++hi.toList) with
   |none=>rfl
   |some ds=>
    simp only[Option.bind_some]
    cases a<;>simp only[Op1.ev]<;>cases optD lo.isSome hi.isSome ds<;>simp only[Option.bind_none,Option.bind_some,Option.map_none,Option.map_map]<;>rfl
 |sub d sz x lo hi=>
  cases h
  simp only[I.ev,evs]
  cases x.ev σ with
  |none=>rfl
  |some a=>
   simp only[Option.bind_some]
   rw[optD_ok]
   cases evs σ (lo.toList++hi.toList) with
   |none=>rfl
   |some ds=>
    simp only[Option.bind_some]
    cases a<;>simp only[Op1.ev]<;>cases optD lo.isSome hi.isSome ds<;>(try split)<;>simp only[Option.bind_none,Option.bind_some,Option.map_none,Option.map_map]<;>rfl
 |app d sz x y fl=>
  cases h
  simp only[I.ev,evs]
  cases x.ev σ with
  |none=>rfl
  |some a=>cases y.ev σ with
   |none=>rfl
   |some b=>
    simp only[Option.bind_some]
    cases a<;>cases b<;>simp only[Op1.ev,Option.map_none]<;>split<;>rfl
 |lit d sz rows=>
  cases h
  simp only[I.ev]
  rw[mapM_split]
  cases evs σ rows.flatten with
  |none=>rfl
  |some a=>simp only[Option.bind_some,Op1.ev,Option.map_map];rfl
 |mk d zero n=>
  cases h
  simp only[I.ev,evs]
  cases n.ev σ with
  |none=>rfl
  |some a=>
   simp only[Option.bind_some]
   cases a<;>simp only[Op1.ev,Option.map_none]<;>split<;>rfl
 |conv d k x=>
  cases h
  simp only[I.ev,evs]
  cases x.ev σ with
  |none=>rfl
  |some a=>cases a<;>rfl
 |b2s d x=>
  cases h
  simp only[I.ev,evs]
  cases x.ev σ with
  |none=>rfl
  |some a=>
   simp only[Option.bind_some]
   cases a with
   |sl sz rows=>
    by_cases hs:sz=1
    ·subst hs
     simp only[Op1.ev,Option.map_map]
     rfl
    ·have h1:Op1.ev .b2s [.sl sz rows]=none:=by
      unfold Op1.ev
      split<;>simp_all
     rw[h1]
     split
     ·rename_i e;injection e with e1 e2;exact absurd e1 hs
     ·rfl
   |_=>rfl
 |mm max d x y=>
  cases h
  simp only[I.ev,evs]
  cases x.ev σ with
  |none=>rfl
  |some a=>cases y.ev σ with
   |none=>rfl
   |some b=>cases a<;>cases b<;>rfl
 |_=>cases h
def R2Ok (env:Env) (σ:St) (i:I):R2→List D→Prop
 | .fail,_=>True
 | .done S,ρ=>∃σ',i.ev env σ=some σ'∧Fit S ρ σ'
 | .more o args ty f,ρ=>∀ds,o.ev (args.map (SA.den ρ))=some ds→tysOk [ty] ds=true→R2Ok env σ i (f (.a ρ.length ty)) (pushD ds ρ)
def R1Ok (env:Env) (P:Pa) (ρ:List D) (σ:St) (i:I):R1→Prop
 | .fail=>True
 | .next S'=>∃σ',i.ev env σ=some σ'∧Fit S' ρ σ'
 | .split lvl=>SA.good ρ (.a lvl .b)
 | .op o args tys k=>∀ds,o.ev (args.map (SA.den ρ))=some ds→tysOk tys ds=true→∀S',k (newA ρ.length tys)=some S'→∃σ',i.ev env σ=some σ'∧Fit S' (pushD ds ρ) σ'
 | .call f args tys k=>∀outs,env f (args.map fun l=>l.map (SA.den ρ))=some outs→outsOk tys outs=true→R2Ok env σ i (k (newAs ρ.length tys)) (pushD outs.flatten ρ)
 | .path o args ty x=>∀ds,o.ev (args.map (SA.den ρ))=some ds→tysOk [ty] ds=true→FitP ((x, .a ρ.length ty)::P) (pushD ds ρ) σ
section
variable {env:Env} {C:Cfg} {S:SSt} {P:Pa} {ρ:List D} {σ:St}
theorem Fit.upd_new (h:Fit S ρ σ) {ds:List D} {tys:List Ty} (ht:tysOk tys ds=true) (dst:Nat):Fit ((dst,newA ρ.length tys)::S) (pushD ds ρ) (σ.upd dst ds):=
 (h.push (ds:=ds)).upd (newA_ok ht).1.symm (newA_ok ht).2
theorem FitP.cons (hP:FitP P ρ σ) {x:Src} {ty:Ty} {v:D} (hx:x.ev σ=some v) (hv:ty.ok v=true):FitP ((x, .a ρ.length ty)::P) (pushD [v] ρ) σ:=fun y c hy=>by
 unfold Pa.get at hy
 split at hy
 ·rename_i e
  cases hy
  rw[← Src.eqb_ok _ _ e]
  refine ⟨by simp[SA.den,pushD,hx],by simp[pushD],?_⟩
  simpa[pushD] using hv
 ·exact hP.push y c hy
theorem boolOf_ok {c:SA} {q:Bool ⊕ Nat} (h:boolOf c=some q) (hg:c.good ρ):(∀v,q= .inl v→c.den ρ= .bool v)∧∀lvl,q= .inr lvl→c= .a lvl .b∧SA.good ρ (.a lvl .b):=by
 unfold boolOf at h
 split at h
 ·cases h
  exact ⟨fun v hv=>by cases hv;rfl,fun lvl hl=>by cases hl⟩
 ·cases h
  exact ⟨(fun v hv=>by cases hv),fun lvl hl=>by cases hl;exact ⟨rfl,hg⟩⟩
 ·cases h
theorem bool_of {d:D} (h:Ty.ok .b d=true):∃v,d= .bool v:=by
 cases d<;>simp[Ty.ok] at h
 exact ⟨_,rfl⟩
theorem setC_den (l cs:List SA) (off:Nat):(setC l off cs).map (SA.den ρ)=setCells (l.map (SA.den ρ)) off (cs.map (SA.den ρ)):=by
 unfold setC setCells
 simp[List.map_drop,List.map_take]
theorem setC_mem {l cs:List SA} {off:Nat} {c:SA} (h:c∈setC l off cs):c∈l∨c∈cs:=by
 unfold setC at h
 simp only[zT] at h
 rcases h with (h|h)|h
 ·exact .inl (List.mem_of_mem_take h)
 ·exact .inr h
 ·exact .inl (List.mem_of_mem_drop h)
theorem set_mem' {l:List SA} {k:Nat} {x c:SA} (h:c∈l.set k x):c∈l∨c=x:=by
 rw[List.mem_iff_getElem?] at h
 obtain ⟨j,hj⟩:=h
 rw[List.getElem?_set] at hj
 split at hj
 ·split at hj
  ·cases hj;exact .inr rfl
  ·cases hj
 ·exact .inl (zF hj)
theorem argsS_ok (h:Fit S ρ σ) (hP:FitP P ρ σ):∀{args:List Arg} {cs:List (List SA)},argsS S P args=some cs→argsIn σ args=some (cs.map fun l=>l.map (SA.den ρ))
 | [],cs,ha=>by cases ha;rfl
 | .v xs fl mu::l,cs,ha=>by
  rw[argsS] at ha
  split at ha
  ·rename_i c r h1 h2
   split at ha
   ·rename_i hc
    cases ha
    rw[zD] at hc
    have a1:=srcsS_ok h hP h1
    have a2:=argsS_ok h hP h2
    have hl:(c.map (SA.den ρ)).all D.live=true:=by
     rw[zL]
     intro d hd
     obtain ⟨q,hq,rfl⟩:=List.mem_map.1 hd
     exact SA.live_ok (a1.2 q hq) (zL.1 hc.1 q hq)
    have hf:=flatS_ok a1.2 hc.2
    simp only[argsIn,argIn,evLive,a1.1,Option.bind_some,hl,if_true,hf,a2]
    rfl
   ·cases ha
  ·cases ha
 | .bx s::l,cs,ha=>by
  rw[argsS] at ha
  split at ha
  ·rename_i c cs' r h1 h2
   cases ha
   have a1:=h s _ h1
   have a2:=argsS_ok h hP h2
   simp only[argsIn,argIn,a1.1,List.map_cons,List.isEmpty_cons,a2]
   rfl
  ·cases ha
theorem good_dens {ds:List SA} {v:List D} (h:∀c∈ds,c.good ρ):ds.map (SA.den (pushD v ρ))=ds.map (SA.den ρ)∧∀c∈ds,c.good (pushD v ρ):=push_dens h
theorem mkWay_len:∀{os:List Nat} {ds:List D} {w:List (Nat×Nat)},mkWay os ds=some w→w.length=os.length
 | [],[],w,h=>by cases h;rfl
 | [],_::_,w,h=>by cases h
 |_::_,[],w,h=>by cases h
 |o::os,d::ds,w,h=>by
  cases d with
  |int k i=>
   cases k<;>simp only[mkWay] at h<;>first|cases h|skip
   split at h
   ·rw[zC] at h
    obtain ⟨w',h',rfl⟩:=h
    simp[mkWay_len h']
   ·cases h
  |_=>cases h
theorem backMuR_ok {σ0:St} {i:I} {k:SSt→R2}:∀{mu:List (Nat×Nat×List (Nat×Nat))} {S:SSt} {σ:St} {ρ:List D} {ds:List SA},Fit S ρ σ→(∀c∈ds,c.good ρ)→
  (∀S' xs σ',backMu σ mu (ds.map (SA.den ρ))=some σ'→Fit S' (pushD xs ρ) σ'→R2Ok env σ0 i (k S') (pushD xs ρ))→R2Ok env σ0 i (backMuR S mu ds k) ρ:=by
 intro mu
 induction mu with
 |nil=>
  intro S σ ρ ds h hg hk
  cases ds with
  |nil=>exact hk S [] σ rfl h
  |cons d ds=>trivial
 |cons m mu ih=>
  intro S σ ρ ds h hg hk
  obtain ⟨s,o,w⟩:=m
  cases ds with
  |nil=>cases w<;>trivial
  |cons d ds=>
   have hdg:=hg d (by simp)
   have hg':∀c∈ds,c.good ρ:=fun c hc=>hg c (by simp[hc])
   cases w with
   |nil=>
    rw[backMuR]
    split
    ·rename_i cs hs
     split
     ·rename_i c sz hc hd
      split
      ·rename_i ht
       have h1:=h s cs hs
       have hcg:=h1.2 c (zF hc)
       have hct:=SA.ty_ok hcg
       have hdt:=SA.ty_ok hdg
       rw[ht] at hct
       rw[hd] at hdt
       obtain ⟨r1,e1⟩:∃rows,c.den ρ= .sl sz rows:=by cases hq:c.den ρ<;>rw[hq] at hct<;>simp[Ty.ok] at hct;exact ⟨_,by rw[hct]⟩
       obtain ⟨r2,e2⟩:∃rows,d.den ρ= .sl sz rows:=by cases hq:d.den ρ<;>rw[hq] at hdt<;>simp[Ty.ok] at hdt;exact ⟨_,by rw[hdt]⟩
       have hσ:(σ s)[o]? =some (c.den ρ):=by rw[h1.1,zK,hc];rfl
       have hset:(σ s).set o (d.den ρ)=(cs.set o d).map (SA.den ρ):=by rw[h1.1,List.map_set]
       refine ih (h.upd (s:=s) hset (fun x hx=>by
        rcases set_mem' hx with hx|rfl
        ·exact h1.2 x hx
        ·exact hdg)) hg' fun S' xs σ' hb=>hk S' xs σ' ?_
       simp only[List.map_cons,backMu,hσ,wayOf,D.setAt]
       rw[show backD [] (d.den ρ) (c.den ρ)=some (d.den ρ) from by rw[e1,e2];simp[backD]]
       exact hb
      ·trivial
     ·trivial
    ·trivial
   |cons p w=>
    rw[backMuR]
    split
    ·rename_i cs ws hs hw
     split
     ·rename_i c hc
      intro vs hvs hty
      have h1:=h s cs hs
      obtain ⟨c1,c2,c3⟩:=ways_ok h hw
      simp only[List.map_cons,Op1.ev,zA,zC] at hvs
      obtain ⟨way,hway,v,hv,rfl⟩:=hvs
      have hp:=h.push (ds:=[v])
      have h1':=hp s cs hs
      have hnew:=newA_ok (ρ:=ρ) hty
      have hds:=good_dens (v:=[v]) hg'
      have hσ:(σ s)[o]? =some (c.den ρ):=by rw[h1.1,zK,hc];rfl
      have hn:SA.den (pushD [v] ρ) (.a ρ.length c.ty)=v:=by
       have:=hnew.1
       simp only[newA,List.map_cons,List.map_nil] at this
       exact (List.cons.inj this).1
      refine ih (σ:=σ.upd s ((σ s).set o v)) (hp.upd (s:=s) (by rw[h1'.1,List.map_set,hn]) (fun x hx=>by
       rcases set_mem' hx with hx|rfl
       ·exact h1'.2 x hx
       ·exact hnew.2 _ (by simp[newA]))) hds.2 fun S' xs σ' hb hF=> ?_
      have:=hk S' (v::xs) σ' ?_ (by rw[pushD_eq] at hF ⊢;simpa[pushD] using hF)
      ·rw[pushD_eq] at this ⊢
       simpa[pushD] using this
      ·rw[hds.1] at hb
       replace c1:wayOf σ (p::w)=some way:=c1.trans hway
       have hbk:backD (p::w) (d.den ρ)=backD way (d.den ρ):=by
        have hl:=mkWay_len hway
        cases way with
        |nil=>simp at hl
        |cons q w'=>funext old;generalize d.den ρ=x;cases old<;>cases x<;>rfl
       simp only[List.map_cons,backMu,hσ,c1,hbk,hv]
       exact hb
     ·trivial
    ·trivial
theorem backsR_ok {σ0:St} {i:I} {dst:Nat} {res:List SA}:∀{args:List Arg} {S:SSt} {σ:St} {ρ:List D} {os:List (List SA)},Fit S ρ σ→(∀l∈os,∀c∈l,c.good ρ)→(∀c∈res,c.good ρ)→
  (∀σ',backs σ args (os.map fun l=>l.map (SA.den ρ))=some σ'→i.ev env σ0=some (σ'.upd dst (res.map (SA.den ρ))))→R2Ok env σ0 i (backsR S dst res args os) ρ:=by
 intro args
 induction args with
 |nil=>
  intro S σ ρ os h hg hr hk
  cases os with
  |nil=>exact ⟨_,hk σ rfl,h.upd rfl hr⟩
  |cons d ds=>trivial
 |cons a args ih=>
  intro S σ ρ os h hg hr hk
  cases a with
  |v xs fl mu=>
   cases mu with
   |nil=>
    have hb':backsR S dst res (.v xs fl []::args) os=backsR S dst res args os:=by cases os<;>rfl
    rw[hb']
    exact ih h hg hr fun σ' hb=>hk σ' (by cases os<;>exact hb)
   |cons m mu=>
    cases os with
    |nil=>trivial
    |cons o os=>
     rw[backsR]
     refine backMuR_ok h (hg o (by simp)) fun S' xs σ' hb hF=> ?_
     have hos:(os.map fun l=>l.map (SA.den (pushD xs ρ)))=os.map fun l=>l.map (SA.den ρ):=List.map_congr_left fun l hl=>(push_dens (ds:=xs) (hg l (by simp[hl]))).1
     have hrs:=push_dens (ds:=xs) hr
     refine ih hF (fun l hl=>(push_dens (ds:=xs) (hg l (by simp[hl]))).2) hrs.2 fun σ2 hb2=> ?_
     rw[hrs.1]
     refine hk σ2 ?_
     rw[hos] at hb2
     simp only[List.map_cons,backs,hb]
     exact hb2
  |bx s=>
   cases os with
   |nil=>trivial
   |cons o os=>
    rw[backsR]
    exact ih (h.upd (s:=s) rfl (hg o (by simp))) (fun l hl=>hg l (by simp[hl])) hr fun σ' hb=>hk σ' hb
theorem sxI_ok (h:Fit S ρ σ) (hP:FitP P ρ σ) (i:I):R1Ok env P ρ σ i (sxI C S P i):=by
 unfold sxI
 split
 ·rename_i n s o w hm
  split
  ·rename_i ty c ws h1 h2 h3
   intro ds hds hty
   simp only[zA] at h2
   obtain ⟨cs,h4,h5⟩:=h2
   obtain ⟨a1,a2,_⟩:=ways_ok h h3
   simp only[List.map_cons,Op1.ev,zA,zC] at hds
   obtain ⟨way,hw,v,hv,rfl⟩:=hds
   refine FitP.cons hP ?_ (by simpa[tysOk] using hty)
   simp only[Src.ev]
   rw[(h s cs h4).1,zK,h5,a1,hw]
   exact hv
  ·trivial
 ·rename_i n s hm
  split
  ·rename_i c cs h1
   intro ds hds hty
   simp only[List.map_cons,Op1.ev,List.isEmpty_cons] at hds
   cases hds
   refine FitP.cons hP ?_ (by simpa[tysOk] using hty)
   simp only[Src.ev]
   rw[(h s _ h1).1]
   rfl
  ·trivial
 ·trivial
 ·split
  ·split
   ·rename_i t hh
    refine ⟨σ,?_,h⟩
    simp[I.ev,here1_ok h hh]
   ·trivial
  ·split
   ·rename_i cs hcs
    split
    ·rename_i hf
     obtain ⟨a1,a2⟩:=srcsS_ok h hP hcs
     refine ⟨_,?_,h.upd rfl a2⟩
     simp only[I.ev,a1,Option.bind_some,flatS_ok a2 hf,if_true]
    ·trivial
   ·trivial
  ·split
   ·rename_i dst s hm0 y0 c cs h1
    have h2:=h s _ h1
    refine ⟨_,?_,h.upd h2.1 h2.2⟩
    simp[I.ev,h2.1]
   ·trivial
  ·split
   ·rename_i via s off xs fl hm0 y0 y1 cs l h1 h2
    split
    ·rename_i hc
     rw[zD,zD,decide_eq_true_eq] at hc
     obtain ⟨a1,a2⟩:=srcsS_ok h hP h1
     have h3:=h s _ h2
     refine ⟨_,?_,h.upd (setC_den l cs off).symm (fun c hc=> ?_)⟩
     ·simp only[I.ev,here1_ok h hc.1.1,a1,Option.bind_some,flatS_ok a2 hc.2,h3.1,List.length_map,hc.1.2]
      simp
     ·rcases setC_mem hc with hc|hc
      ·exact h3.2 c hc
      ·exact a2 c hc
    ·trivial
   ·trivial
  ·split
   ·rename_i via s k w i off sz xs fl hm0 y0 y1 y2 cs l ix ws h1 h2 h3
    split
    ·rename_i c hc
     split
     ·rename_i hcond
      rw[zD,decide_eq_true_eq] at hcond
      obtain ⟨a1,a2⟩:=srcsS_ok h hP h1
      obtain ⟨b1,b2,b3⟩:=ways_ok h h3
      have h4:=h s _ h2
      intro ds hds hty S' hS'
      have hnl:∃n0,newA ρ.length [c.ty]=[n0]:=⟨_,rfl⟩
      simp only[newA] at hS'
      cases hS'
      simp only[List.map_cons,wayOf,mkWay] at b1
      have hixt:∃n:Int,ix.den ρ= .int .i64 n:=by
       rw[ways] at h3
       split at h3
       ·rename_i c' l' q1 q2
        split at h3
        ·rename_i ht
         cases h3
         have:=SA.ty_ok (one1_ok h q1).2
         rw[ht] at this
         exact i64_of this
        ·cases h3
       ·cases h3
      obtain ⟨n,hn⟩:=hixt
      have hσi:σ i=[ix.den ρ]:=by
       rw[ways] at h3
       split at h3
       ·rename_i c' l' q1 q2
        split at h3
        ·cases h3;exact (one1_ok h q1).1
        ·cases h3
       ·cases h3
      have hways:ways S w=some ws:=by
       rw[ways] at h3
       split at h3
       ·rename_i c' l' q1 q2
        split at h3
        ·cases h3;exact q2
        ·cases h3
       ·cases h3
      obtain ⟨c1,c2,c3⟩:=ways_ok h hways
      simp only[List.map_cons,List.map_append,hn,Op1.ev] at hds
      split at hds
      ·rename_i h0
       rw[List.take_left' (by simp[c3]),List.drop_left' (by simp[c3])] at hds
       simp only[zA,zC] at hds
       obtain ⟨way,hw,d',hd',rfl⟩:=hds
       have hp:=h.push (ds:=[d'])
       have h4':=hp s _ h2
       have hnew:=newA_ok (ρ:=ρ) hty
       refine ⟨σ.upd s ((σ s).set k d'),?_,hp.upd ?_ (fun x hx=> ?_)⟩
       ·have e1:(σ s)[k]? =some (c.den ρ):=by rw[h4.1,zK,hc];rfl
        simp only[I.ev,here1_ok h hcond.1,a1,Option.bind_some,e1,c1,hw,idxOf,hσi,hn,if_pos h0]
        simp only[Bool.false_eq_true,if_false]
        refine (congrArg (Option.map _) (?_:_=some d')).trans rfl
        rw[← hd']
        congr 1
       ·rw[h4'.1,List.map_set]
        congr 1
        have:=hnew.1
        simp only[newA,List.map_cons,List.map_nil] at this
        exact (List.cons.inj this).1.symm
       ·rcases set_mem' hx with hx|rfl
        ·exact h4'.2 x hx
        ·exact hnew.2 _ (by simp[newA])
      ·cases hds
     ·trivial
    ·trivial
   ·trivial
  ·split
   ·rename_i s k hm0 y0 l h2
    split
    ·rename_i hk
     have h4:=h s _ h2
     refine ⟨_,?_,h.upd (s:=s) (l:=(σ s).set k .dead) (cs:=l.set k (.k .dead)) (by rw[h4.1,List.map_set];rfl) (fun x hx=> ?_)⟩
     ·have e1:(σ s)[k]? =some ((l[k]'hk).den ρ):=by rw[h4.1,zK,zB hk];rfl
      simp only[I.ev,e1,wayOf,D.setAt]
      rfl
     ·rcases set_mem' hx with hx|rfl
      ·exact h4.2 x hx
      ·trivial
    ·trivial
   ·trivial
  ·split
   ·rename_i s k w hm0 hw0 y0 y1 l ws h2 h3
    split
    ·rename_i c hc
     intro ds hds hty S' hS'
     simp only[newA] at hS'
     cases hS'
     have h4:=h s _ h2
     obtain ⟨c1,c2,c3⟩:=ways_ok h h3
     simp only[List.map_cons,Op1.ev,zA,zC] at hds
     obtain ⟨way,hw,d',hd',rfl⟩:=hds
     have hp:=h.push (ds:=[d'])
     have h4':=hp s _ h2
     have hnew:=newA_ok (ρ:=ρ) hty
     refine ⟨σ.upd s ((σ s).set k d'),?_,hp.upd ?_ (fun x hx=> ?_)⟩
     ·have e1:(σ s)[k]? =some (c.den ρ):=by rw[h4.1,zK,hc];rfl
      simp only[I.ev,e1,c1,hw,hd',Option.map_some]
     ·rw[h4'.1,List.map_set]
      congr 1
      have:=hnew.1
      simp only[newA,List.map_cons,List.map_nil] at this
      exact (List.cons.inj this).1.symm
     ·rcases set_mem' hx with hx|rfl
      ·exact h4'.2 x hx
      ·exact hnew.2 _ (by simp[newA])
    ·trivial
   ·trivial
  ·split
   ·rename_i dst c x y v hb
    simp only[zA] at hb
    obtain ⟨q,hq,hb⟩:=hb
    obtain ⟨a1,a2⟩:=srcS_ok h hP hq
    have hv:=(boolOf_ok hb a2).1 v rfl
    split
    ·rename_i a ha
     obtain ⟨b1,b2⟩:=srcS_ok h hP ha
     refine ⟨_,?_,h.upd (cs:=[a]) rfl (fun z hz=>by simp at hz;subst hz;exact b2)⟩
     simp only[I.ev,a1,Option.bind_some,hv]
     rw[b1]
     rfl
    ·trivial
   ·rename_i dst c x y lvl hb
    simp only[zA] at hb
    obtain ⟨q,hq,hb⟩:=hb
    obtain ⟨a1,a2⟩:=srcS_ok h hP hq
    exact ((boolOf_ok hb a2).2 lvl rfl).2
   ·trivial
  ·rename_i dst
   exact ⟨_,rfl,h.upd (cs:=[.k (.mp [])]) rfl (fun z hz=>by simp at hz;subst hz;trivial)⟩
  ·split
   ·rename_i dst m key hm0 y0 y1 c k h1 h2
    intro ds hds hty S' hS'
    cases hS'
    have b1:=one1_ok h h1
    obtain ⟨a1,a2⟩:=srcS_ok h hP h2
    refine ⟨_,?_,h.upd_new hty dst⟩
    simp only[I.ev,a1,Option.bind_some,b1.1]
    simp only[List.map_cons,List.map_nil] at hds
    cases hc:c.den ρ with
    |mp l=>cases hk:k.den ρ with
     |int kk n=>
      rw[hc,hk] at hds
      cases kk<;>simp only[Op1.ev] at hds<;>cases hds
      rfl
     |_=>rw[hc,hk] at hds;cases hds
    |_=>rw[hc] at hds;cases hds
   ·trivial
  ·split
   ·rename_i via m key val hm0 y0 y1 y2 c k v h1 h2 h3
    split
    ·rename_i hh
     intro ds hds hty S' hS'
     cases hS'
     have b1:=one1_ok h h1
     obtain ⟨a1,a2⟩:=srcS_ok h hP h2
     obtain ⟨a3,a4⟩:=srcS_ok h hP h3
     refine ⟨_,?_,h.upd_new hty m⟩
     simp only[I.ev,here1_ok h hh,a1,a3,Option.bind_some,b1.1]
     simp only[List.map_cons,List.map_nil] at hds
     cases hc:c.den ρ with
     |mp l=>cases hk:k.den ρ with
      |int kk n=>cases hv:v.den ρ with
       |bool b=>
        rw[hc,hk,hv] at hds
        cases kk<;>simp only[Op1.ev] at hds<;>cases hds
        rfl
       |_=>rw[hc,hk,hv] at hds;cases kk<;>cases hds
      |_=>rw[hc,hk] at hds;cases hds
     |_=>rw[hc] at hds;cases hds
    ·trivial
   ·trivial
  ·split
   ·rename_i f args dst hm0 y0 y1 cs tys h1 h2
    intro outs houts hty
    have hin:=argsS_ok h hP h1
    have hnew:=newAs_ok (ρ:=ρ) hty
    cases hn:newAs ρ.length tys with
    |nil=>trivial
    |cons res os=>
     rw[hn] at hnew
     simp only[List.map_cons] at hnew
     refine backsR_ok (h.push (ds:=outs.flatten)) (fun l hl=>hnew.2 l (by simp[hl])) (hnew.2 res (by simp)) fun σ' hb=> ?_
     cases outs with
     |nil=>cases hnew.1
     |cons r0 os0=>
      obtain ⟨e1,e2⟩:=List.cons.inj hnew.1
      rw[e2] at hb
      simp only[I.ev,hin,Option.bind_some,houts,hb,Option.map_some,e1]
   ·trivial
  ·split
   ·rename_i dst xs o hp
    split
    ·rename_i cs h1
     split
     ·rename_i tys h2
      intro ds hds hty S' hS'
      cases hS'
      obtain ⟨a1,a2⟩:=srcsS_ok h hP h1
      refine ⟨_,?_,h.upd_new hty dst⟩
      rw[pure_ok hp,a1]
      simp only[Option.bind_some,hds,Option.map_some]
     ·trivial
    ·trivial
   ·trivial
end
end Go.Own
