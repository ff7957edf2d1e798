/- A part of the proof that the last text of this folder tells of. -/
import Derived.Test.YthdgipjkbmmaoaaGreatDoorTac
import Derived.Below
import Derived.ChangeArms
import Derived.ChangeShapes
import Derived.DataReads
import Derived.Shelf.Strconv.Itoa3
namespace Go.Own
open Go
section
variable (Tb:Nat→Option TFn) (X:Env)
def nbOk1 (dst:Option Nat) (nb:Bool) (σ:St):Bool:=match nb,dst with
 |true,some d=> !(σ d).isEmpty
 |_,_=>true
noncomputable def contK (C:Cfg):List Fm→Option (Out×St)→Rs
 | [],r=>finL C.sg C.base r
 | .l x::ks,r=>contK C ks (thenL r (lev Tb X x))
 | .is x::ks,r=>contK C ks (thenL r fun σ=>(evLs (runF Tb X) x σ).map fun σ'=>(.norm,σ'))
 | .ins _ x dst nb::ks,r=>contK C ks (thenL r fun σ=>(evIs (runF Tb X) x σ).bind fun σ'=>if nbOk1 dst nb σ'=true then some (.norm,σ') else none)
 | .blk id::ks,r=>contK C ks (inBlock id r)
 | .jn _::ks,r=>contK C ks r
def WFl (L0:Key→Option (List Fm)) (Dz:Key→Bool) (l:L) (ks:List Fm):Prop:=((keysOf l (headKey ks)).filter Dz).Nodup∧∀k∈keysOf l (headKey ks),Dz k=true→loc2 k l ks=L0 k
def NoIns:List Fm→Prop
 | .ins _ _ _ _::_=>False
 |_=>True
def WF (L0:Key→Option (List Fm)) (Dz:Key→Bool):List Fm→Prop
 | []=>True
 | .l l::ks=>WFl L0 Dz l ks∧NoIns ks∧WF L0 Dz ks
 | .blk id::ks=>(Dz (.after id)=true→L0 (.after id)=some ks)∧NoIns ks∧WF L0 Dz ks
 | .jn r::ks=>(Dz (.jn r)=true→L0 (.jn r)=some ks)∧NoIns ks∧WF L0 Dz ks
 | .is _::ks=>NoIns ks∧WF L0 Dz ks
 | .ins _ _ _ _::ks=>NoIns ks∧WF L0 Dz ks
end
section
variable {Tb:Nat→Option TFn} {X:Env} {C:Cfg}
theorem contK_none:∀(ks:List Fm),contK Tb X C ks none=none
 | []=>rfl
 | .l x::ks=>contK_none ks
 | .is x::ks=>contK_none ks
 | .ins _ x _ _::ks=>contK_none ks
 | .blk id::ks=>contK_none ks
 | .jn _::ks=>contK_none ks
theorem contK_ret (σ:St):∀(ks:List Fm),contK Tb X C ks (some (.ret,σ))=finL C.sg C.base (some (.ret,σ))
 | []=>rfl
 | .l x::ks=>contK_ret σ ks
 | .is x::ks=>contK_ret σ ks
 | .ins _ x _ _::ks=>contK_ret σ ks
 | .blk id::ks=>contK_ret σ ks
 | .jn _::ks=>contK_ret σ ks
theorem contK_exit (id:Nat) (σ:St):∀(ks:List Fm),contK Tb X C ks (some (.exit id,σ))=contK Tb X C (dropTo id ks) (some (.norm,σ))
 | []=>rfl
 | .l x::ks=>contK_exit id σ ks
 | .is x::ks=>contK_exit id σ ks
 | .ins _ x _ _::ks=>contK_exit id σ ks
 | .blk i::ks=>by
  rw[dropTo]
  by_cases h:i=id
  ·rw[if_pos h]
   simp only[contK,inBlock,h,if_true]
  ·rw[if_neg h]
   have:=contK_exit id σ ks
   rw[← this]
   simp only[contK,inBlock]
   rw[if_neg (fun e=>h e.symm)]
 | .jn _::ks=>contK_exit id σ ks
theorem headKey_l {x:L} {ks:List Fm}:headKey (.l x::ks)=none:=rfl
theorem headKey_jn {r:Nat} {ks:List Fm}:headKey (.jn r::ks)=none:=rfl
theorem loc2_mem {k:Key}:∀{l:L} {ks:List Fm},(loc2 k l ks).isSome=true↔k∈keysOf l (headKey ks):=by
 intro l
 induction l with
 |seq a b iha ihb=>
  intro ks
  simp only[loc2,keysOf,zT]
  have ha:= @iha (.l b::ks)
  rw[headKey_l] at ha
  rw[← ha,← ihb]
  cases h:loc2 k a (.l b::ks) with
  |some r=>simp
  |none=>simp
 |cond c a b iha ihb=>
  intro ks
  cases c with
  |c r o=>
   simp only[loc2,keysOf,List.mem_cons,zT]
   have ha:= @iha (.jn r::ks)
   have hb:= @ihb (.jn r::ks)
   rw[headKey_jn] at ha hb
   by_cases h1:k= .atc r
   ·simp[h1]
   ·rw[if_neg h1]
    by_cases h2:k= .jn r
    ·simp[h2]
    ·rw[if_neg h2,← ha,← hb]
     cases h:loc2 k a (.jn r::ks) with
     |some q=>simp
     |none=>simp[h1,h2]
  |_=>simp[loc2,keysOf]
 |block i a iha=>
  intro ks
  simp only[loc2,keysOf,List.mem_cons]
  have ha:= @iha (.blk i::ks)
  simp only[headKey] at ha
  by_cases h1:k= .after i
  ·simp[h1]
  ·rw[if_neg h1,← ha]
   simp[h1]
 |loop a iha=>
  intro ks
  simp only[loc2,keysOf,zT]
  have ha:= @iha (.l (.loop a)::ks)
  rw[headKey_l] at ha
  by_cases h1:some k=headKey ks
  ·rw[if_pos h1,← h1];simp
  ·rw[if_neg h1,← ha]
   have:k ∉ (headKey ks).toList:=fun h=>by
    cases hk:headKey ks with
    |none=>rw[hk] at h;simp at h
    |some q=>rw[hk] at h h1;simp at h;exact h1 (by rw[h])
   simp[this]
 |_=>intro ks;simp[loc2,keysOf]
variable {L0:Key→Option (List Fm)} {Dz:Key→Bool}
theorem nodup_append {a b:List Key} (h:((a++b).filter Dz).Nodup):(a.filter Dz).Nodup∧(b.filter Dz).Nodup∧∀k∈a,Dz k=true→k ∉ b:=by
 rw[List.filter_append,List.nodup_append] at h
 exact ⟨h.1,h.2.1,fun k ha hd hb=>h.2.2 k (List.mem_filter.2 ⟨ha,hd⟩) k (List.mem_filter.2 ⟨hb,hd⟩) rfl⟩
theorem nodup_cons {k:Key} {l:List Key} (h:((k::l).filter Dz).Nodup):(l.filter Dz).Nodup∧(Dz k=true→k ∉ l):=by
 rw[List.filter_cons] at h
 split at h
 ·rw[List.nodup_cons] at h
  exact ⟨h.2,fun hd hk=>h.1 (List.mem_filter.2 ⟨hk,hd⟩)⟩
 ·rename_i hd
  exact ⟨h,fun hd'=>absurd hd' hd⟩
theorem WFl.seq {a b:L} {ks:List Fm} (h:WFl L0 Dz (.seq a b) ks):WFl L0 Dz a (.l b::ks)∧WFl L0 Dz b ks:=by
 obtain ⟨hn,hl⟩:=h
 simp only[keysOf] at hn hl
 obtain ⟨n1,n2,n3⟩:=nodup_append hn
 refine ⟨⟨n1,fun k hk hd=> ?_⟩,⟨n2,fun k hk hd=> ?_⟩⟩
 ·have:=hl k (List.mem_append_left _ hk) hd
  rw[← this]
  simp only[loc2]
  have h1:=(loc2_mem (k:=k) (l:=a) (ks:= .l b::ks)).2 hk
  cases hq:loc2 k a (.l b::ks) with
  |none=>rw[hq] at h1;cases h1
  |some r=>rfl
 ·have:=hl k (zQ _ hk) hd
  rw[← this]
  simp only[loc2]
  cases hq:loc2 k a (.l b::ks) with
  |none=>rfl
  |some r=>
   have h1:=(loc2_mem (k:=k) (l:=a) (ks:= .l b::ks)).1 (by simp[hq])
   exact absurd hk (n3 k h1 hd)
theorem WFl.cond {r o:Nat} {a b:L} {ks:List Fm} (h:WFl L0 Dz (.cond (.c r o) a b) ks):(Dz (.atc r)=true→L0 (.atc r)=some (.l (.cond (.c r o) a b)::ks))∧(Dz (.jn r)=true→L0 (.jn r)=some ks)∧WFl L0 Dz a (.jn r::ks)∧WFl L0 Dz b (.jn r::ks):=by
 obtain ⟨hn,hl⟩:=h
 simp only[keysOf] at hn hl
 obtain ⟨hn,m1⟩:=nodup_cons hn
 obtain ⟨hn,m2⟩:=nodup_cons hn
 obtain ⟨n1,n2,n3⟩:=nodup_append hn
 have hne:∀k,k∈keysOf a none∨k∈keysOf b none→Dz k=true→k≠ .atc r∧k≠ .jn r:=fun k hk hd=>⟨fun e=>m1 (by rw[← e];exact hd) (by rw[← e];simp only[List.mem_cons,zT];exact .inr hk),fun e=>m2 (by rw[← e];exact hd) (by rw[← e];simp only[zT];exact hk)⟩
 refine ⟨fun hd=> ?_,fun hd=> ?_,⟨n1,fun k hk hd=> ?_⟩,⟨n2,fun k hk hd=> ?_⟩⟩
 ·have:=hl (.atc r) (by simp) hd
  rw[← this]
  simp[loc2]
 ·have:=hl (.jn r) (by simp) hd
  rw[← this]
  simp[loc2]
 ·have hk':k∈keysOf a none:=hk
  have:=hl k (by simp[hk']) hd
  rw[← this]
  obtain ⟨e1,e2⟩:=hne k (.inl hk') hd
  simp only[loc2,if_neg e1,if_neg e2]
  have h1:=(loc2_mem (k:=k) (l:=a) (ks:= .jn r::ks)).2 hk
  cases hq:loc2 k a (.jn r::ks) with
  |none=>rw[hq] at h1;cases h1
  |some q=>rfl
 ·have hk':k∈keysOf b none:=hk
  have:=hl k (by simp[hk']) hd
  rw[← this]
  obtain ⟨e1,e2⟩:=hne k (.inr hk') hd
  simp only[loc2,if_neg e1,if_neg e2]
  cases hq:loc2 k a (.jn r::ks) with
  |none=>rfl
  |some q=>
   have h1:=(loc2_mem (k:=k) (l:=a) (ks:= .jn r::ks)).1 (by simp[hq])
   exact absurd hk' (n3 k h1 hd)
theorem WFl.block {i:Nat} {a:L} {ks:List Fm} (h:WFl L0 Dz (.block i a) ks):(Dz (.after i)=true→L0 (.after i)=some ks)∧WFl L0 Dz a (.blk i::ks):=by
 obtain ⟨hn,hl⟩:=h
 simp only[keysOf] at hn hl
 obtain ⟨hn,m1⟩:=nodup_cons hn
 refine ⟨fun hd=> ?_,⟨hn,fun k hk hd=> ?_⟩⟩
 ·have:=hl (.after i) (by simp) hd
  rw[← this]
  simp[loc2]
 ·have:=hl k (List.mem_cons_of_mem _ hk) hd
  rw[← this]
  simp only[loc2]
  rw[if_neg fun e=>m1 (by rw[← e];exact hd) (by rw[← e];exact hk)]
theorem WFl.loop {a:L} {ks:List Fm} (h:WFl L0 Dz (.loop a) ks):(∀k,headKey ks=some k→Dz k=true→L0 k=some (.l (.loop a)::ks))∧WFl L0 Dz a (.l (.loop a)::ks):=by
 obtain ⟨hn,hl⟩:=h
 simp only[keysOf] at hn hl
 obtain ⟨n1,n2,n3⟩:=nodup_append hn
 refine ⟨fun k hk hd=> ?_,⟨n2,fun k hk hd=> ?_⟩⟩
 ·have:=hl k (by rw[hk];simp) hd
  rw[← this]
  simp only[loc2]
  rw[if_pos hk.symm]
 ·have hk':k∈keysOf a none:=hk
  have:=hl k (zQ _ hk') hd
  rw[← this]
  simp only[loc2]
  rw[if_neg fun e=>n3 k (by rw[← e];simp) hd hk']
theorem WF.drop (id:Nat):∀{ks:List Fm},WF L0 Dz ks→WF L0 Dz (dropTo id ks)∧NoIns (dropTo id ks)
 | [],h=>⟨h,trivial⟩
 | .l x::ks,h=>WF.drop id (ks:=ks) h.2.2
 | .is x::ks,h=>WF.drop id (ks:=ks) h.2
 | .ins _ _ _ _::ks,h=>WF.drop id (ks:=ks) h.2
 | .jn _::ks,h=>WF.drop id (ks:=ks) h.2.2
 | .blk i::ks,h=>by
  rw[dropTo]
  split
  ·exact ⟨h,trivial⟩
  ·exact WF.drop id h.2.2
theorem loc2_wf {k:Key}:∀{l:L} {ks fs:List Fm},WFl L0 Dz l ks→NoIns ks→WF L0 Dz ks→loc2 k l ks=some fs→WF L0 Dz fs∧NoIns fs:=by
 intro l
 induction l with
 |seq a b iha ihb=>
  intro ks fs h hn hk hl
  obtain ⟨h1,h2⟩:=h.seq
  rw[loc2] at hl
  split at hl
  ·rename_i r hr
   cases hl
   exact iha h1 trivial ⟨h2,hn,hk⟩ hr
  ·exact ihb h2 hn hk hl
 |cond c a b iha ihb=>
  intro ks fs h hn hk hl
  cases c with
  |c r o=>
   obtain ⟨h0,h1,h2,h3⟩:=h.cond
   rw[loc2] at hl
   split at hl
   ·cases hl;exact ⟨⟨h,hn,hk⟩,trivial⟩
   ·split at hl
    ·cases hl;exact ⟨hk,hn⟩
    ·split at hl
     ·rename_i q hq
      cases hl
      exact iha h2 trivial ⟨h1,hn,hk⟩ hq
     ·exact ihb h3 trivial ⟨h1,hn,hk⟩ hl
  |_=>cases hl
 |block i a iha=>
  intro ks fs h hn hk hl
  obtain ⟨h1,h2⟩:=h.block
  rw[loc2] at hl
  split at hl
  ·cases hl;exact ⟨hk,hn⟩
  ·exact iha h2 trivial ⟨h1,hn,hk⟩ hl
 |loop a iha=>
  intro ks fs h hn hk hl
  obtain ⟨h1,h2⟩:=h.loop
  rw[loc2] at hl
  split at hl
  ·cases hl;exact ⟨⟨h,hn,hk⟩,trivial⟩
  ·exact iha h2 trivial ⟨h,hn,hk⟩ hl
 |_=>intro ks fs h hn hk hl;cases hl
def LayFit:List (Nat×List Ty)→List D→St→Prop
 | [],args,_=>args=[]
 |(s,tys)::l,args,σ=>∃a b,args=a++b∧tysOk tys a=true∧σ s=a∧LayFit l b σ
theorem layCells_ok {ρ:List D}:∀{tys:List Ty} {cs a:List SA},layCells tys cs=some a→(∀c∈cs,c.good ρ)→a=cs∧tysOk tys (cs.map (SA.den ρ))=true
 | [],[],_,h,_=>by cases h;exact ⟨rfl,rfl⟩
 | [],_::_,_,h,_=>by cases h
 |_::_,[],_,h,_=>by cases h
 |t::ts,c::cs,a,h,hg=>by
  rw[layCells] at h
  split at h
  ·rename_i ht
   rw[zC] at h
   obtain ⟨b,hb,rfl⟩:=h
   obtain ⟨h1,h2⟩:=layCells_ok hb fun c hc=>hg c (by simp[hc])
   refine ⟨by rw[h1],?_⟩
   rw[List.map_cons,tysOk,h2,Bool.and_true]
   rcases ht with rfl|rfl
   ·rfl
   ·exact SA.ty_ok (hg c (by simp))
  ·cases h
theorem layArgs_ok {S:SSt} {ρ:List D} {σ:St} (hF:Fit S ρ σ):∀{lay:List (Nat×List Ty)} {cs:List SA},layArgs S lay=some cs→LayFit lay (cs.map (SA.den ρ)) σ
 | [],cs,h=>by cases h;rfl
 |(s,tys)::l,cs,h=>by
  rw[layArgs] at h
  split at h
  ·rename_i c hc
   split at h
   ·rename_i a b ha hb
    cases h
    have h1:=hF s c hc
    obtain ⟨rfl,h2⟩:=layCells_ok ha h1.2
    exact ⟨_,_,by rw[List.map_append],h2,h1.1,layArgs_ok hF hb⟩
   ·cases h
  ·cases h
theorem mutS_den {ρ:List D}:∀(cs:List SA) (ps:List PC),(mutS cs ps).map (SA.den ρ)=mutCells (cs.map (SA.den ρ)) ps
 | [],_=>by simp[mutS,mutCells]
 |_::_,[]=>by simp[mutS,mutCells]
 |c::cs,p::ps=>by
  rw[mutS,List.map_cons,mutCells]
  cases p.out with
  |none=>exact mutS_den cs ps
  |some _=>simp only[List.map_cons];rw[mutS_den cs ps]
theorem parOutsS_ok {S:SSt} {ρ:List D} {σ:St} (hF:Fit S ρ σ):∀{ps:List PSig} {i:Nat} {os:List (List SA)},parOutsS S i ps=some os→parsHere σ i ps=true∧parOuts σ i ps=os.map fun l=>l.map (SA.den ρ)
 | [],i,os,h=>by cases h;exact ⟨rfl,rfl⟩
 | .v cs::ps,i,os,h=>by
  rw[parOutsS] at h
  rw[parsHere,parOuts]
  split at h
  ·rename_i hc
   obtain ⟨h1,h2⟩:=parOutsS_ok hF h
   exact ⟨by rw[hc,h1];rfl,by rw[if_pos hc];exact h2⟩
  ·rename_i hc
   split at h
   ·rename_i x xs r hg hr
    cases h
    obtain ⟨h1,h2⟩:=parOutsS_ok hF hr
    have h3:=(hF i _ hg).1
    refine ⟨by rw[h1,h3];simp,?_⟩
    rw[if_neg hc,h2,h3,← mutS_den]
    rfl
   ·cases h
 | .bx ty tin tout::ps,i,os,h=>by
  rw[parOutsS] at h
  rw[parsHere,parOuts]
  split at h
  ·rename_i x xs r hg hr
   cases h
   obtain ⟨h1,h2⟩:=parOutsS_ok hF hr
   have h3:=(hF i _ hg).1
   exact ⟨by rw[h1,h3];simp,by rw[h2,h3];rfl⟩
  ·cases h
theorem substA_ok {ρ:List D} {lvl:Nat} {v:Bool} (hv:SA.den ρ (.a lvl .b)= .bool v) {c:SA} (h:c.good ρ):(substA lvl v c).den ρ=c.den ρ∧(substA lvl v c).good ρ:=by
 cases c with
 |a l t=>
  by_cases hl:l=lvl
  ·subst hl
   have:substA l v (.a l t)= .k (.bool v):=by simp[substA]
   rw[this]
   exact ⟨hv.symm,trivial⟩
  ·have:substA lvl v (.a l t)= .a l t:=by simp[substA,hl]
   rw[this]
   exact ⟨rfl,h⟩
 |k d=>exact ⟨rfl,trivial⟩
theorem substS_get {lvl:Nat} {v:Bool}:∀(S:SSt) (s:Nat),(substS lvl v S).get s=(S.get s).map fun l=>l.map (substA lvl v)
 | [],s=>rfl
 |(r,cs)::S,s=>by
  show SSt.get ((r,cs.map (substA lvl v))::substS lvl v S) s=_
  rw[SSt.get,SSt.get]
  split
  ·rfl
  ·exact substS_get S s
theorem substS_ok {S:SSt} {ρ:List D} {σ:St} {lvl:Nat} {v:Bool} (hv:SA.den ρ (.a lvl .b)= .bool v) (h:Fit S ρ σ):Fit (substS lvl v S) ρ σ:=fun s cs hs=>by
 rw[substS_get,zC] at hs
 obtain ⟨l,hl,rfl⟩:=hs
 have h1:=h s l hl
 refine ⟨?_,fun c hc=> ?_⟩
 ·rw[h1.1,List.map_map]
  exact List.map_congr_left fun c hc=>(substA_ok hv (h1.2 c hc)).1.symm
 ·obtain ⟨q,hq,rfl⟩:=List.mem_map.1 hc
  exact (substA_ok hv (h1.2 q hq)).2
theorem substP_get {lvl:Nat} {v:Bool}:∀(P:Pa) (x:Src),(substP lvl v P).get x=(P.get x).map (substA lvl v)
 | [],x=>rfl
 |(y,c)::P,x=>by
  show Pa.get ((y,substA lvl v c)::substP lvl v P) x=_
  rw[Pa.get,Pa.get]
  split
  ·rfl
  ·exact substP_get P x
theorem substP_ok {P:Pa} {ρ:List D} {σ:St} {lvl:Nat} {v:Bool} (hv:SA.den ρ (.a lvl .b)= .bool v) (h:FitP P ρ σ):FitP (substP lvl v P) ρ σ:=fun x c hx=>by
 rw[substP_get,zC] at hx
 obtain ⟨q,hq,rfl⟩:=hx
 have h1:=h x q hq
 have h2:=substA_ok hv h1.2
 exact ⟨by rw[h2.1];exact h1.1,h2.2⟩
def FitK (ρ:List D) (σ:St):List Fm→Prop
 | .ins P _ _ _::_=>FitP P ρ σ
 |_=>True
theorem outsOk_len:∀{ts:List (List Ty)} {ds:List (List D)},outsOk ts ds=true→ts.flatten.length=ds.flatten.length
 | [],[],_=>rfl
 | [],_::_,h=>by cases h
 |_::_,[],h=>by cases h
 |t::ts,d::ds,h=>by
  rw[outsOk,zD] at h
  simp only[List.flatten_cons,List.length_append]
  rw[tysOk_len h.1,outsOk_len h.2]
theorem substF_cont (lvl:Nat) (v:Bool) (fs:List Fm) (r:Option (Out×St)):contK Tb X C (substF lvl v fs) r=contK Tb X C fs r:=by
 cases fs with
 |nil=>rfl
 |cons f ks=>cases f<;>rfl
theorem substF_wf {lvl:Nat} {v:Bool} {fs:List Fm} (h:WF L0 Dz fs):WF L0 Dz (substF lvl v fs):=by
 cases fs with
 |nil=>exact h
 |cons f ks=>cases f<;>exact h
theorem substF_fit {ρ:List D} {σ:St} {lvl:Nat} {v:Bool} (hv:SA.den ρ (.a lvl .b)= .bool v) {fs:List Fm} (h:FitK ρ σ fs):FitK ρ σ (substF lvl v fs):=by
 cases fs with
 |nil=>trivial
 |cons f ks=>cases f<;>first|exact substP_ok hv h|trivial
def GoOk (Tb:Nat→Option TFn) (X:Env) (C:Cfg) (L0:Key→Option (List Fm)) (go:Nat→List D→Rs):Prop:=
 ∀j args r,go j args=some r→∀k lay,C.labs[j]? =some (k,lay)→∀fs,L0 k=some fs→∀σ,LayFit lay args σ→contK Tb X C fs (some (.norm,σ))=some r
theorem labFrom_ok {k:Key}:∀{l:List (Key×List (Nat×List Ty))} {n:Nat} {q:Nat×List (Nat×List Ty)},labFrom k n l=some q→∃j,q.1=n+j∧l[j]? =some (k,q.2)
 | [],n,q,h=>by cases h
 |(k',lay)::l,n,q,h=>by
  rw[labFrom] at h
  split at h
  ·rename_i e
   cases h
   exact ⟨0,rfl,by rw[e];rfl⟩
  ·obtain ⟨j,h1,h2⟩:=labFrom_ok h
   exact ⟨j+1,by rw[h1];omega,h2⟩
theorem goAt_ok {go:Nat→List D→Rs} (hgo:GoOk Tb X C L0 go) {k:Key} {q:Nat×List (Nat×List Ty)} (hq:C.lab k=some q) {S:SSt} {ρ:List D} {σ:St} (hF:Fit S ρ σ) {t:T} (ht:goAt ρ.length S q=some t) {r:List (List D)}
  (he:evT (runF Tb X) go t ρ=some r) {fs:List Fm} (hfs:L0 k=some fs):contK Tb X C fs (some (.norm,σ))=some r:=by
 unfold goAt at ht
 rw[zC] at ht
 obtain ⟨cs,hcs,rfl⟩:=ht
 rw[evT,atoms_ev] at he
 obtain ⟨j,h1,h2⟩:=labFrom_ok hq
 rw[h1,Nat.zero_add] at he
 exact hgo j _ r he k q.2 h2 fs hfs σ (layArgs_ok hF hcs)
theorem ite_ok {env:Env} {go:Nat→List D→Rs} {ρ:List D} {lvl:Nat} {t e:T} {r:List (List D)} (hg:SA.good ρ (.a lvl .b)) (he:evT env go (.ite (SA.atom ρ.length (.a lvl .b)) t e) ρ=some r):
  ∃v,SA.den ρ (.a lvl .b)= .bool v∧evT env go (if v=true then t else e) ρ=some r:=by
 rw[evT,SA.atom_ev] at he
 obtain ⟨v,hv⟩:=bool_of (SA.ty_ok hg)
 have hv':SA.den ρ (.a lvl .b)= .bool v:=hv
 rw[hv'] at he
 refine ⟨v,hv',?_⟩
 cases v<;>simpa using he
theorem runR_ok {go:Nat→List D→Rs} {k:Nat→SSt→Option T} {i:I} {σ:St} {r:List (List D)}:∀{q:R2} {ρ:List D} {t:T},runR k q ρ.length=some t→R2Ok (runF Tb X) σ i q ρ→evT (runF Tb X) go t ρ=some r→
  ∃ρ' S' t',k ρ'.length S'=some t'∧(∃σ',i.ev (runF Tb X) σ=some σ'∧Fit S' ρ' σ')∧evT (runF Tb X) go t' ρ'=some r:=by
 intro q
 induction q with
 |fail=>intro ρ t h;cases h
 |done S=>intro ρ t h hq he;exact ⟨ρ,S,t,h,hq,he⟩
 |more o args ty f ih=>
  intro ρ t h hq he
  simp only[runR,forceN_eq,zC] at h
  obtain ⟨t',ht',rfl⟩:=h
  rw[evT,atoms_ev] at he
  simp only[zA] at he
  obtain ⟨ds,hds,he⟩:=he
  split at he
  ·rename_i hty
   have hl:ds.length=1:=by rw[← tysOk_len hty];rfl
   exact ih (.a ρ.length ty) (ρ:=pushD ds ρ) (by rw[push_len,hl];exact ht') (hq ds hds hty) he
  ·cases he
theorem FitK.of {ρ:List D} {σ:St} {ks:List Fm} (h:NoIns ks):FitK ρ σ ks:=by
 cases ks with
 |nil=>trivial
 |cons f ks=>cases f<;>first|trivial|exact h.elim
theorem sx_ok {go:Nat→List D→Rs} (hgo:GoOk Tb X C L0 go):∀(n:Nat) (fresh:Bool) (S:SSt) (fs:List Fm) (t:T) (ρ:List D) (σ:St) (r:List (List D)),
  sx C n fresh ρ.length S fs=some t→Fit S ρ σ→FitK ρ σ fs→WF L0 (fun k=>(C.lab k).isSome) fs→evT (runF Tb X) go t ρ=some r→contK Tb X C fs (some (.norm,σ))=some r:=by
 intro n
 induction n with
 |zero=>intro fresh S fs t ρ σ r h;cases h
 |succ n ih=>
  intro fresh S fs t ρ σ r h hF hK hW he
  cases fs with
  |nil=>cases h
  |cons f ks=>
   cases f with
   |blk id=>
    simp only[sx] at h
    simp only[contK,inBlock]
    split at h
    ·rename_i q hq
     exact goAt_ok hgo hq hF h he (hW.1 (by simp[hq]))
    ·exact ih false S ks t ρ σ r h hF (.of hW.2.1) hW.2.2 he
   |jn id=>
    simp only[sx] at h
    simp only[contK]
    split at h
    ·rename_i q hq
     exact goAt_ok hgo hq hF h he (hW.1 (by simp[hq]))
    ·exact ih false S ks t ρ σ r h hF (.of hW.2.1) hW.2.2 he
   |is l=>
    cases l with
    |nil=>
     simp only[sx] at h
     simp only[contK,thenL,evLs,Option.map_some]
     exact ih false S ks t ρ σ r h hF (.of hW.1) hW.2 he
    |cons x xs=>
     have goOn:∀{S':SSt} {σ':St},x.ev (runF Tb X) σ=some σ'→sx C n false ρ.length S' (.is xs::ks)=some t→Fit S' ρ σ'→contK Tb X C (.is (x::xs)::ks) (some (.norm,σ))=some r:=fun {S' σ'} hx h hF'=>by
      have:=ih false S' (.is xs::ks) t ρ σ' r h hF' trivial hW he
      simp only[contK,thenL] at this ⊢
      rw[evLs,hx]
      exact this
     have goRun:∀{S:SSt},Fit S ρ σ→x.ev (runF Tb X) σ=x.run (runF Tb X) σ→sx C n false ρ.length S (.ins [] x.is x.dst x.nb:: .is xs::ks)=some t→contK Tb X C (.is (x::xs)::ks) (some (.norm,σ))=some r:=fun {S} hF hx h=>by
      have:=ih false S (.ins [] x.is x.dst x.nb:: .is xs::ks) t ρ σ r h hF FitP.nil ⟨trivial,hW⟩ he
      simp only[contK,thenL] at this ⊢
      rw[evLs,hx]
      unfold LI.run
      cases hi:evIs (runF Tb X) x.is σ with
      |none=>rw[hi] at this;simp only[Option.bind_none] at this;rw[contK_none] at this;cases this
      |some σ1=>
       rw[hi] at this
       simp only[Option.bind_some] at this ⊢
       have hn:x.nbOk σ1=nbOk1 x.dst x.nb σ1:=by unfold LI.nbOk nbOk1;rfl
       rw[hn]
       by_cases hc:nbOk1 x.dst x.nb σ1=true
       ·rw[if_pos hc] at this ⊢
        exact this
       ·rw[if_neg hc] at this
        simp only at this
        rw[contK_none] at this;cases this
     simp only[sx] at h
     split at h
     ·rename_i hg
      exact goRun hF (by unfold LI.ev;rw[hg]) h
     ·rename_i g want hg
      have hev:x.ev (runF Tb X) σ=match σ g with
       | [.bool b]=>if b=want then x.run (runF Tb X) σ else some (x.skip σ)
       | []=>some (x.skip σ)
       |_=>none:=by unfold LI.ev;rw[hg];rfl
      have hskip:sx C n false ρ.length (match x.dst with|some r=>(r,[])::S|none=>S) (.is xs::ks)=some t→x.ev (runF Tb X) σ=some (x.skip σ)→contK Tb X C (.is (x::xs)::ks) (some (.norm,σ))=some r:=fun h hx=>by
       refine goOn hx h ?_
       unfold LI.skip
       cases x.dst with
       |none=>exact hF
       |some d=>exact hF.upd rfl (fun c hc=>by cases hc)
      split at h
      ·rename_i c hc
       have h1:=hF g _ hc
       have hcg:=h1.2 c (by simp)
       split at h
       ·rename_i v hv
        have h2:=(boolOf_ok hv hcg).1 v rfl
        have hσ:σ g=[.bool v]:=by rw[h1.1];simp[h2]
        split at h
        ·rename_i e
         exact goRun hF (by rw[hev,hσ];simp[e]) h
        ·rename_i e
         exact hskip h (by rw[hev,hσ];simp[e])
       ·rename_i lvl hv
        obtain ⟨rfl,hg'⟩:=(boolOf_ok hv hcg).2 lvl rfl
        rw[forceZ_eq,forceZ_eq] at h
        split at h
        ·rename_i t1 t0 e1 e0
         cases h
         obtain ⟨v,hv,he'⟩:=ite_ok hg' he
         cases v with
         |true=>exact ih false _ _ t1 ρ σ r e1 (substS_ok hv hF) trivial hW he'
         |false=>exact ih false _ _ t0 ρ σ r e0 (substS_ok hv hF) trivial hW he'
        ·cases h
       ·cases h
      ·rename_i hc
       have h1:=hF g _ hc
       exact hskip h (by rw[hev,h1.1];rfl)
      ·cases h
   |ins P l dst nb=>
    cases l with
    |nil=>
     simp only[sx] at h
     simp only[contK,thenL,evIs,Option.bind_some]
     split at h
     ·rename_i d
      split at h
      ·rename_i hh
       have:=here1_ok hF hh
       simp only[nbOk1,this,Bool.not_false,if_true]
       exact ih false S ks t ρ σ r h hF (.of hW.1) hW.2 he
      ·cases h
     ·rename_i hne
      have:nbOk1 dst nb σ=true:=by
       unfold nbOk1
       split
       ·rename_i d;exact absurd rfl (hne d rfl)
       ·rfl
      rw[if_pos this]
      exact ih false S ks t ρ σ r h hF (.of hW.1) hW.2 he
    |cons i is=>
     have hok:=sxI_ok (env:=runF Tb X) (C:=C) hF (show FitP P ρ σ from hK) i
     have goOn:∀{S':SSt} {σ':St} {ρ':List D} {t':T},i.ev (runF Tb X) σ=some σ'→sx C n false ρ'.length S' (.ins [] is dst nb::ks)=some t'→Fit S' ρ' σ'→evT (runF Tb X) go t' ρ'=some r→contK Tb X C (.ins P (i::is) dst nb::ks) (some (.norm,σ))=some r:=fun {S' σ' ρ' t'} hx h hF' he'=>by
      have:=ih false S' (.ins [] is dst nb::ks) t' ρ' σ' r h hF' FitP.nil hW he'
      simp only[contK,thenL] at this ⊢
      rw[evIs,hx]
      exact this
     simp only[sx] at h
     split at h
     ·cases h
     ·rename_i S' hr
      rw[hr] at hok
      obtain ⟨σ',h1,h2⟩:=hok
      rw[force1_eq] at h
      exact goOn h1 h h2 he
     ·rename_i lvl hr
      rw[hr] at hok
      rw[forceZ_eq,forceZ_eq] at h
      split at h
      ·rename_i t1 t0 e1 e0
       cases h
       obtain ⟨v,hv,he'⟩:=ite_ok hok he
       cases v with
       |true=>
        have:=ih false _ _ t1 ρ σ r e1 (substS_ok hv hF) (substF_fit hv hK) (substF_wf hW) he'
        rw[substF_cont] at this
        exact this
       |false=>
        have:=ih false _ _ t0 ρ σ r e0 (substS_ok hv hF) (substF_fit hv hK) (substF_wf hW) he'
        rw[substF_cont] at this
        exact this
      ·cases h
     ·rename_i o args tys k hr
      rw[hr] at hok
      simp only[zA,forceN_eq,force1_eq,zC] at h
      obtain ⟨S',hS',t',ht',rfl⟩:=h
      rw[evT,atoms_ev] at he
      simp only[zA] at he
      obtain ⟨ds,hds,he⟩:=he
      split at he
      ·rename_i hty
       obtain ⟨σ',h1,h2⟩:=hok ds hds hty S' hS'
       exact goOn h1 (by rw[push_len,← tysOk_len hty];exact ht') h2 he
      ·cases he
     ·rename_i f args tys k hr
      rw[hr] at hok
      simp only[forceN_eq,forceZ_eq,zC] at h
      obtain ⟨t',ht',rfl⟩:=h
      rw[evT,atomss_ev] at he
      simp only[zA] at he
      obtain ⟨outs,hds,he⟩:=he
      split at he
      ·rename_i hty
       rw[outsOk_len hty,← push_len] at ht'
       obtain ⟨ρ',S',t2,a1,⟨σ',a2,a3⟩,a4⟩:=runR_ok ht' (hok outs hds hty) he
       exact goOn a2 a1 a3 a4
      ·cases he
     ·rename_i o args ty x hr
      rw[hr] at hok
      simp only[forceN_eq,zC] at h
      obtain ⟨t',ht',rfl⟩:=h
      rw[evT,atoms_ev] at he
      simp only[zA] at he
      obtain ⟨ds,hds,he⟩:=he
      split at he
      ·rename_i hty
       have hP:=hok ds hds hty
       have hl:ds.length=1:=by rw[← tysOk_len hty];rfl
       exact ih false S (.ins ((x, .a ρ.length ty)::P) (i::is) dst nb::ks) t' (pushD ds ρ) σ r (by rw[push_len,hl];exact ht') hF.push hP hW he
      ·cases he
   |l x=>
    cases x with
    |skip=>
     simp only[sx] at h
     simp only[contK,thenL,lev_skip]
     exact ih false S ks t ρ σ r h hF (.of hW.2.1) hW.2.2 he
    |ops lis=>
     simp only[sx] at h
     have:=ih false S (.is lis::ks) t ρ σ r h hF trivial hW.2 he
     simp only[contK,thenL,lev_ops] at this ⊢
     exact this
    |seq a b=>
     simp only[sx] at h
     obtain ⟨w1,w2⟩:=WFl.seq hW.1
     have:=ih false S (.l a:: .l b::ks) t ρ σ r h hF trivial ⟨w1,trivial,w2,hW.2⟩ he
     simp only[contK,thenL] at this ⊢
     rw[lev_seq]
     exact this
    |block id a=>
     simp only[sx] at h
     obtain ⟨w1,w2⟩:=WFl.block hW.1
     have:=ih false S (.l a:: .blk id::ks) t ρ σ r h hF trivial ⟨w2,trivial,w1,hW.2⟩ he
     simp only[contK,thenL] at this ⊢
     rw[lev_block]
     exact this
    |exit id=>
     simp only[sx] at h
     simp only[contK,thenL,lev_exit]
     rw[contK_exit]
     obtain ⟨w1,w2⟩:=WF.drop id hW.2.2
     exact ih false S _ t ρ σ r h hF (.of w2) w1 he
    |ret=>
     simp only[sx] at h
     simp only[contK,thenL,lev_ret]
     rw[contK_ret]
     unfold retS at h
     split at h
     ·rename_i cs os hg ho
      cases h
      obtain ⟨h1,h2⟩:=parOutsS_ok hF ho
      rw[evT,atomss_ev] at he
      cases he
      unfold finL
      simp only
      rw[if_pos h1,h2,(hF _ _ hg).1]
      rfl
     ·cases h
    |loop a=>
     simp only[sx] at h
     obtain ⟨w1,w2⟩:=WFl.loop hW.1
     split at h
     ·have:=ih false S (.l a:: .l (.loop a)::ks) t ρ σ r h hF trivial ⟨w2,trivial,hW⟩ he
      simp only[contK,thenL] at this ⊢
      rw[lev_loop]
      exact this
     ·split at h
      ·rename_i q hq
       simp only[zA] at hq
       obtain ⟨k,hk,hq⟩:=hq
       exact goAt_ok hgo hq hF h he (w1 k hk (by simp[hq]))
      ·cases h
    |cond c a b=>
     cases c with
     |c rr o=>
      simp only[sx] at h
      obtain ⟨w0,w1,w2,w3⟩:=WFl.cond hW.1
      split at h
      ·rename_i q hq
       split at hq
       ·cases hq
       ·exact goAt_ok hgo hq hF h he (w0 (by simp[hq]))
      ·have branch:∀{v:Bool} {S':SSt} {t':T},Src.ev σ (.c rr o)=some (.bool v)→Fit S' ρ σ→sx C n false ρ.length S' (.l (if v=true then a else b):: .jn rr::ks)=some t'→evT (runF Tb X) go t' ρ=some r→contK Tb X C (.l (.cond (.c rr o) a b)::ks) (some (.norm,σ))=some r:=fun {v S' t'} hv hF' h he'=>by
        have:=ih false S' (.l (if v=true then a else b):: .jn rr::ks) t' ρ σ r h hF' trivial ⟨by cases v<;>assumption,trivial,w1,hW.2⟩ he'
        simp only[contK,thenL] at this ⊢
        rw[lev_cond,hv]
        cases v<;>exact this
       split at h
       ·rename_i v hb
        simp only[zA] at hb
        obtain ⟨q,hq,hb⟩:=hb
        obtain ⟨a1,a2⟩:=srcS_ok hF FitP.nil hq
        exact branch (by rw[a1,(boolOf_ok hb a2).1 v rfl]) hF h he
       ·rename_i lvl hb
        simp only[zA] at hb
        obtain ⟨q,hq,hb⟩:=hb
        obtain ⟨a1,a2⟩:=srcS_ok hF FitP.nil hq
        obtain ⟨rfl,hg'⟩:=(boolOf_ok hb a2).2 lvl rfl
        rw[forceZ_eq,forceZ_eq] at h
        split at h
        ·rename_i t1 t0 e1 e0
         cases h
         obtain ⟨v,hv,he'⟩:=ite_ok hg' he
         cases v with
         |true=>exact branch (v:=true) (by rw[a1,hv]) (substS_ok hv hF) e1 he'
         |false=>exact branch (v:=false) (by rw[a1,hv]) (substS_ok hv hF) e0 he'
        ·cases h
       ·cases h
     |_=>simp only[sx] at h;cases h
end
def CK.ty:CK→Ty
 | .flat (.int k _)=> .i k
 | .flat (.bool _)=> .b
 | .flat (.str _)=> .s
 | .flat _=> .x
 | .sl sz=> .l sz
 | .pt=> .p
 | .mp=> .m
def tysOf (P:Program) (t:TypeId):Option (List Ty):=(kinds P t).map fun ks=>ks.map CK.ty
def hintOf (P:Program) (o:Oper):Option (Nat×List Ty):=match o.dst with
 |none=>none
 |some d=>(match o.op with
  | .indexAddr t _ _=>(sliceElem P t).bind (tysOf P)
  | .nilCheck _=>(match P.underlying o.type with|some (.pointer e)=>tysOf P e|_=>none)
  |_=>tysOf P o.type).map fun ts=>(d,ts)
def hints (P:Program):Code→List (Nat×List Ty)
 | .region _ ops _=>ops.toList.filterMap (hintOf P)
 | .seq a b=>hints P a++hints P b
 | .cond _ a b=>hints P a++hints P b
 | .block _ a=>hints P a
 | .loop a=>hints P a
 |_=>[]
def resTys (P:Program):List TypeId→List RSig→Option (List Ty)
 | [],[]=>some []
 |t::ts,r::rs=>match (match r with| .v _ _=>tysOf P t| .bx ty _=>tysOf P ty),resTys P ts rs with
  |some a,some b=>some (a++b)
  |_,_=>none
 |_,_=>none
def mutTys:List Ty→List PC→List Ty
 |t::ts,c::cs=>if c.out.isNone then mutTys ts cs else t::mutTys ts cs
 |_,_=>[]
def parTys (P:Program):List TypeId→List PSig→Option (List (List Ty))
 | [],[]=>some []
 |t::ts, .v cs::ps=>if cs.all (fun c=>c.out.isNone) then parTys P ts ps else (match tysOf P t,parTys P ts ps with
  |some a,some b=>some (mutTys a cs::b)
  |_,_=>none)
 |_::ts, .bx ty _ _::ps=>(match tysOf P ty,parTys P ts ps with
  |some a,some b=>some (a::b)
  |_,_=>none)
 |_,_=>none
def rtyOf (P:Program) (sigs:Nat→Option Sig) (f:Nat):Option (List (List Ty)):=match P.funcs[f]?,sigs f with
 |some fn,some sg=>(match resTys P fn.resultTypes.toList sg.res,parTys P fn.params.toList sg.params with
  |some a,some b=>some (a::b)
  |_,_=>none)
 |_,_=>none
def entTys (P:Program):List TypeId→List PSig→Option (List (List Ty))
 | [],[]=>some []
 |t::ts,p::ps=>(match (match p with| .v _=>tysOf P t| .bx ty _ _=>tysOf P ty),entTys P ts ps with
  |some a,some b=>some (a::b)
  |_,_=>none)
 |_,_=>none
def assocTy:List (Nat×List Ty)→Nat→Option (List Ty)
 | [],_=>none
 |(r,ts)::l,s=>if r=s then some ts else assocTy l s
def assocP:List (Nat×Nat×List Nat×Ty)→Nat→Nat→List Nat→Option Ty
 | [],_,_,_=>none
 |(a,b,c,t)::l,s,o,w=>if a=s∧b=o∧c=w then some t else assocP l s o w
def entS:Nat→Nat→List (List Ty)→SSt
 |_,_,[]=>[]
 |i,d,t::ts=>(i,newA d t)::entS (i+1) (d+t.length) ts
def layS:Nat→List (Nat×List Ty)→SSt
 |_,[]=>[]
 |d,(s,t)::l=>(s,newA d t)::layS (d+t.length) l
def layTys (lay:List (Nat×List Ty)):List Ty:=(lay.map (·.2)).flatten
def Key.eqb:Key→Key→Bool
 | .after a, .after b| .jn a, .jn b| .head a, .head b| .atc a, .atc b=>a==b
 |_,_=>false
def nodupK:List Key→Bool
 | []=>true
 |k::l=>l.all (fun k'=> !k.eqb k')&&nodupK l
def nodupN:List Nat→Bool
 | []=>true
 |k::l=>l.all (fun k'=> !(k==k'))&&nodupN l
section force
variable {β:Type}
def forceTy (ty:Ty) (k:Ty→β):β:=match ty with
 | .i q=>k (.i q)| .b=>k .b| .s=>k .s| .l sz=>forceN sz fun sz=>k (.l sz)| .p=>k .p| .m=>k .m| .x=>k .x
def forceH (x:Nat×List Ty) (k:Nat×List Ty→β):β:=match x with
 |(r,ts)=>forceN r fun r=>forceL forceTy ts fun ts=>k (r,ts)
theorem forceTy_eq (c:Ty) (k:Ty→β):forceTy c k=k c:=by cases c<;>simp only[forceTy,forceN_eq]
theorem forceH_eq (x:Nat×List Ty) (k:Nat×List Ty→β):forceH x k=k x:=by obtain ⟨r,cs⟩:=x;simp only[forceH,forceN_eq,forceL_eq forceTy_eq]
end force
def FUEL:Nat:=1000000
def treeAt (C:Cfg) (l:L) (q:Key×List (Nat×List Ty)):Option T:=(loc2 q.1 l []).bind fun fs=>
 sx C FUEL (match q.1 with| .head _| .atc _=>true|_=>false) (layTys q.2).length (layS 0 q.2) fs
def treesAt (C:Cfg) (l:L):List (Key×List (Nat×List Ty))→Option (List T)
 | []=>some []
 |q::qs=>match treeAt C l q,treesAt C l qs with
  |some t,some ts=>some (t::ts)
  |_,_=>none
def treesOf (C:Cfg) (ent:List (List Ty)) (l:L):Option (T×List T):=
 guardO (nodupK ((keysOf l none).filter fun k=>(C.lab k).isSome)&&C.labs.all (fun q=>nodupN (q.2.map (·.1)))) (match sx C FUEL false ent.flatten.length (entS 0 0 ent) [.l l],treesAt C l C.labs with
  |some t,some ts=>some (t,ts)
  |_,_=>none)
def mkTrees (cx:Cx) (fn:Func) (ex:List (Nat×Nat×List Nat×Ty)) (labs:List (Key×List (Nat×List Ty))):Option (T×List T):=
 fn.body.bind fun c=>forceL forceH (hints cx.P c) fun hs=>(entTys cx.P fn.params.toList cx.sg.params).bind fun ent=>forceL (forceL forceTy) ent fun ent=>
  (compFn cx fn).bind fun l=>treesOf {ty:=assocTy hs,pty:=assocP ex,rty:=rtyOf cx.P cx.sigs,labs:=labs,sg:=cx.sg,base:=cx.base} ent l
theorem Key.eqb_ok {a b:Key} (h:a=b):a.eqb b=true:=by subst h;cases a<;>simp[Key.eqb]
theorem nodupK_ok:∀{l:List Key},nodupK l=true→l.Nodup
 | [],_=>List.nodup_nil
 |k::l,h=>by
  rw[nodupK,zD] at h
  rw[List.nodup_cons]
  refine ⟨fun hk=> ?_,nodupK_ok h.2⟩
  have:=zL.1 h.1 k hk
  rw[Key.eqb_ok rfl] at this
  cases this
theorem nodupN_ok:∀{l:List Nat},nodupN l=true→l.Nodup
 | [],_=>List.nodup_nil
 |k::l,h=>by
  rw[nodupN,zD] at h
  rw[List.nodup_cons]
  refine ⟨fun hk=> ?_,nodupN_ok h.2⟩
  have:=zL.1 h.1 k hk
  simp at this
section
variable (Tb:Nat→Option TFn) (X:Env)
open Classical in
noncomputable def goB (C:Cfg) (l:L) (j:Nat) (args:List D):Rs:=match C.labs[j]? with
 |none=>none
 |some (k,lay)=>match loc2 k l [] with
  |none=>none
  |some fs=>if h:∃r,∀σ,LayFit lay args σ→contK Tb X C fs (some (.norm,σ))=some r then some h.choose else none
variable {Tb X} {C:Cfg} {l:L}
theorem goB_ok:GoOk Tb X C (fun k=>loc2 k l []) (goB Tb X C l):=by
 intro j args r hj k lay hk fs hfs σ hσ
 unfold goB at hj
 rw[hk] at hj
 simp only at hj hfs
 rw[hfs] at hj
 simp only at hj
 split at hj
 ·rename_i h
  cases hj
  exact h.choose_spec σ hσ
 ·cases hj
def canon:List (Nat×List Ty)→List D→St
 | [],_=>fun _=>[]
 |(s,tys)::l,args=>(canon l (args.drop tys.length)).upd s (args.take tys.length)
theorem LayFit.upd {s:Nat} {a:List D}:∀{lay:List (Nat×List Ty)} {b:List D} {σ:St},LayFit lay b σ→s ∉ lay.map (·.1)→LayFit lay b (σ.upd s a)
 | [],_,_,h,_=>h
 |(r,tys)::lay,b,σ,⟨x,y,h1,h2,h3,h4⟩,hs=>by
  simp only[List.map_cons,List.mem_cons,not_or] at hs
  exact ⟨x,y,h1,h2,by rw[upd_ne (fun e=>hs.1 e.symm)];exact h3,h4.upd hs.2⟩
theorem tysOk_append:∀{ts us:List Ty} {ds:List D},tysOk (ts++us) ds=true→tysOk ts (ds.take ts.length)=true∧tysOk us (ds.drop ts.length)=true
 | [],us,ds,h=>by simpa[tysOk] using h
 |t::ts,us,[],h=>by cases h
 |t::ts,us,d::ds,h=>by
  rw[List.cons_append,tysOk,zD] at h
  obtain ⟨h1,h2⟩:=tysOk_append h.2
  simp only[List.length_cons,List.take_succ_cons,List.drop_succ_cons]
  exact ⟨by rw[tysOk,h.1,h1];rfl,h2⟩
theorem canon_fit:∀{lay:List (Nat×List Ty)} {args:List D},(lay.map (·.1)).Nodup→tysOk (layTys lay) args=true→LayFit lay args (canon lay args)
 | [],args,_,h=>by cases args with
  |nil=>rfl
  |cons d ds=>cases h
 |(s,tys)::lay,args,hn,h=>by
  rw[List.map_cons,List.nodup_cons] at hn
  simp only[layTys,List.map_cons,List.flatten_cons] at h
  obtain ⟨h1,h2⟩:=tysOk_append h
  refine ⟨args.take tys.length,args.drop tys.length,(List.take_append_drop _ _).symm,h1,by simp[canon,St.upd],(canon_fit hn.2 h2).upd hn.1⟩
theorem goB_of {j:Nat} {k:Key} {lay:List (Nat×List Ty)} {fs:List Fm} {args:List D} {r:List (List D)} (hj:C.labs[j]? =some (k,lay)) (hfs:loc2 k l []=some fs) (hn:(lay.map (·.1)).Nodup) (ht:tysOk (layTys lay) args=true)
  (h:∀σ,LayFit lay args σ→contK Tb X C fs (some (.norm,σ))=some r):goB Tb X C l j args=some r:=by
 unfold goB
 rw[hj]
 simp only
 rw[hfs]
 simp only
 have hx:∃r,∀σ,LayFit lay args σ→contK Tb X C fs (some (.norm,σ))=some r:=⟨r,h⟩
 rw[dif_pos hx]
 have h1:=hx.choose_spec _ (canon_fit hn ht)
 rw[h _ (canon_fit hn ht)] at h1
 exact h1.symm
theorem layS_fit:∀{lay:List (Nat×List Ty)} {args ρ:List D} {σ:St},LayFit lay args σ→Fit (layS ρ.length lay) (pushD args ρ) σ
 | [],args,ρ,σ,_=>fun s cs h=>by cases h
 |(s,tys)::lay,args,ρ,σ,⟨a,b,h1,h2,h3,h4⟩=>by
  intro s' cs hs
  have hl:ρ.length+tys.length=(pushD a ρ).length:=by rw[push_len,tysOk_len h2]
  have hp:pushD args ρ=pushD b (pushD a ρ):=by rw[h1,pushD_eq,pushD_eq,pushD_eq];simp
  rw[layS,SSt.get] at hs
  split at hs
  ·rename_i e
   cases hs
   have hn:=newA_ok (ρ:=ρ) h2
   have:=push_dens (ds:=b) hn.2
   rw[hp,← e,h3]
   exact ⟨by rw[this.1,hn.1],this.2⟩
  ·rw[hl] at hs
   rw[hp]
   exact layS_fit h4 s' cs hs
theorem entS_fit:∀{ent:List (List Ty)} {ins:List (List D)} {i:Nat} {ρ:List D} {σ:St},outsOk ent ins=true→(∀q,q<ins.length→σ (i+q)=ins.getD q [])→Fit (entS i ρ.length ent) (pushD ins.flatten ρ) σ
 | [],ins,i,ρ,σ,_,_=>fun s cs h=>by cases h
 |t::ts,[],_,_,_,h,_=>by cases h
 |t::ts,d::ds,i,ρ,σ,h,hσ=>by
  rw[outsOk,zD] at h
  intro s' cs hs
  have hl:ρ.length+t.length=(pushD d ρ).length:=by rw[push_len,tysOk_len h.1]
  have hp:pushD (d::ds).flatten ρ=pushD ds.flatten (pushD d ρ):=by rw[pushD_eq,pushD_eq,pushD_eq];simp
  rw[entS,SSt.get] at hs
  split at hs
  ·rename_i e
   cases hs
   have hn:=newA_ok (ρ:=ρ) h.1
   have:=push_dens (ds:=ds.flatten) hn.2
   have h0:=hσ 0 (by simp)
   simp at h0
   rw[hp,← e,h0]
   exact ⟨by rw[this.1,hn.1],this.2⟩
  ·rw[hl] at hs
   rw[hp]
   refine entS_fit h.2 (fun q hq=> ?_) s' cs hs
   have:=hσ (q+1) (by simp;omega)
   rw[show i+1+q=i+(q+1) by omega,this]
   simp
structure IsTree (Tb:Nat→Option TFn) (X:Env) (f:Nat) (ent:List (List Ty)) (labs:List (List Ty)) (t0:T) (ts:List T) (go:Nat→List D→Rs):Prop where
 fn:∀ins r,outsOk ent ins=true→evT (runF Tb X) go t0 (pushD ins.flatten [])=some r→runF Tb X f ins=some r
 go:∀j lay t args r,labs[j]? =some lay→ts[j]? =some t→tysOk lay args=true→evT (runF Tb X) go t (pushD args [])=some r→go j args=some r
theorem treesAt_get:∀{qs:List (Key×List (Nat×List Ty))} {ts:List T} {j:Nat} {q:Key×List (Nat×List Ty)},treesAt C l qs=some ts→qs[j]? =some q→∃t,ts[j]? =some t∧treeAt C l q=some t
 | [],_,_,_,_,h=>by simp at h
 |q::qs,ts,j,q',h,hj=>by
  rw[treesAt] at h
  split at h
  ·rename_i t ts' h1 h2
   cases h
   cases j with
   |zero=>cases hj;exact ⟨t,rfl,h1⟩
   |succ j=>simpa using treesAt_get (qs:=qs) (j:=j) h2 (by simpa using hj)
  ·cases h
theorem trees_ok {f:Nat} {ent:List (List Ty)} (hT:Tb f=some ⟨l,C.sg,C.base⟩) {t0:T} {ts:List T} (h:treesOf C ent l=some (t0,ts)):IsTree Tb X f ent (C.labs.map fun q=>layTys q.2) t0 ts (goB Tb X C l):=by
 unfold treesOf at h
 rw[guardO_some,zD] at h
 obtain ⟨⟨hn,hlab⟩,h⟩:=h
 split at h
 ·rename_i t0' ts' h0 h1
  cases h
  have hW0:WFl (fun k=>loc2 k l []) (fun k=>(C.lab k).isSome) l []:=⟨nodupK_ok hn,fun _ _ _=>rfl⟩
  constructor
  ·intro ins r hin he
   rw[run_fn Tb X hT]
   have:=sx_ok (Tb:=Tb) (X:=X) (C:=C) (L0:=fun k=>loc2 k l []) goB_ok FUEL false (entS 0 0 ent) [.l l] t0 (pushD ins.flatten []) (fun i=>ins.getD i []) r (by rw[push_len,← outsOk_len hin];simpa using h0)
    (entS_fit (ρ:=[]) (i:=0) hin fun q _=>by simp) trivial ⟨hW0,trivial,trivial⟩ he
   simpa[contK,thenL] using this
  ·intro j lay t args r hj ht hty he
   rw[zK,zC] at hj
   obtain ⟨⟨k,ly⟩,hj,rfl⟩:=hj
   obtain ⟨t',ht',hta⟩:=treesAt_get h1 hj
   rw[ht] at ht'
   cases ht'
   unfold treeAt at hta
   rw[zA] at hta
   obtain ⟨fs,hfs,hta⟩:=hta
   refine goB_of hj hfs (nodupN_ok (zL.1 hlab _ (zF hj))) hty fun σ hσ=> ?_
   have hlen:(pushD args []).length=(layTys ly).length:=by rw[push_len,tysOk_len hty];simp
   obtain ⟨w1,w2⟩:=loc2_wf (L0:=fun k=>loc2 k l []) hW0 trivial trivial hfs
   exact sx_ok goB_ok FUEL _ (layS 0 ly) fs t (pushD args []) σ r (by rw[hlen];exact hta) (layS_fit (ρ:=[]) hσ) (.of w2) w1 he
 ·cases h
theorem mkTrees_ok {cx:Cx} {fn:Func} {ex:List (Nat×Nat×List Nat×Ty)} {labs:List (Key×List (Nat×List Ty))} {t0:T} {ts:List T} (h:mkTrees cx fn ex labs=some (t0,ts)):∃l ent,compFn cx fn=some l∧entTys cx.P fn.params.toList cx.sg.params=some ent∧
  ∀{f:Nat},Tb f=some ⟨l,cx.sg,cx.base⟩→∃go,IsTree Tb X f ent (labs.map fun q=>layTys q.2) t0 ts go:=by
 unfold mkTrees at h
 simp only[zA,forceL_eq forceH_eq,forceL_eq (forceL_eq forceTy_eq)] at h
 obtain ⟨c,hc,ent,he,l,hl,h⟩:=h
 exact ⟨l,ent,hl,he,fun hT=>⟨_,trees_ok (C:={ty:=assocTy (hints cx.P c),pty:=assocP ex,rty:=rtyOf cx.P cx.sigs,labs:=labs,sg:=cx.sg,base:=cx.base}) hT h⟩⟩
end
abbrev tI:Ty:= .i .i64
abbrev tB:Ty:= .b
abbrev tS:Ty:= .s
abbrev tL (n:Nat):Ty:= .l n
abbrev tP:Ty:= .p
abbrev tM:Ty:= .m
abbrev tX:Ty:= .x
def mkC (P:Program) (sigs:Nat→Option Sig) (f:Func) (sg:Sig) (sh tk:List Nat):Cx:={P:=P,sigs:=sigs,base:=f.ntmps,np:=f.params.size,share:=sh,take:=tk,rv:=f.results.toList,sg:=sg,tys:=f.params.toList}
theorem fnOk_of {P:Program} {sigs:Nat→Option Sig} {fn:Func} {sg:Sig} {sh tk:List Nat} {f:Nat} (hf:P.funcs[f]? =some fn) (hb:(Nat.ble fn.ntmps 100000&&Nat.ble sg.params.length fn.ntmps&&Nat.beq fn.params.size sg.params.length)=true):FnOk (mkC P sigs fn sg sh tk) f fn:=by
 simp only[zD] at hb
 obtain ⟨⟨h1,h2⟩,h3⟩:=hb
 exact ⟨hf,rfl,Nat.le_of_ble_eq_true h1,Nat.eq_of_beq_eq_true h3,by simpa[mkC] using Nat.eq_of_beq_eq_true h3,Nat.le_of_ble_eq_true h2,rfl,rfl⟩
def GoodF (P:Program) (sigs:Nat→Option Sig) (Tb:Nat→Option TFn) (X:Env) (f:Nat) (sig:Sig):Prop:=
 Callable P f∧((∃fn sh tk l,Tb f=some ⟨l,sig,fn.ntmps⟩∧FnOk (mkC P sigs fn sig sh tk) f fn∧compFn (mkC P sigs fn sig sh tk) fn=some l)∨(Tb f=none∧Meets P f sig (X f)))
theorem Meets.none {P:Program} {f:Nat} {sig:Sig} {F:List (List D)→Option (List (List D))} (h:∀ins,F ins=none):Meets P f sig F:=by
 intro fn k m w args ins outs _ _ _ _ _ _ _ _ _ _ _ _ hF
 rw[h] at hF
 cases hF
theorem table_meets {P:Program} {sigs:Nat→Option Sig} {Tb:Nat→Option TFn} {X:Env} (hm:P.follows .mixedOrders=true) (hT:∀f sig,sigs f=some sig→GoodF P sigs Tb X f sig):
  ∀n f sig,sigs f=some sig→Meets P f sig (envN Tb X n f):=by
 intro n
 induction n with
 |zero=>intro f sig _;exact Meets.none fun _=>rfl
 |succ n ih=>
  intro f sig hs
  obtain ⟨hc,⟨fn,sh,tk,l,h1,h2,h3⟩|⟨h1,h2⟩⟩:=hT f sig hs
  ·have hE:∀f' sig',sigs f'=some sig'→Callable P f'∧Meets P f' sig' (envN Tb X n f'):=fun f' sig' h'=>⟨(hT f' sig' h').1,ih f' sig' h'⟩
   have hpar:(mkC P sigs fn sig sh tk).base<PAR:=Nat.lt_of_le_of_lt h2.big (by unfold PAR;omega)
   have:=fn_meets (cx:=mkC P sigs fn sig sh tk) h2 h3 (env:=envN Tb X n) hE (fun k A hk hfx=>draws_ok ⟨hk,hfx,hE⟩ hpar hm) n
   have he:envN Tb X (n+1) f=runL (envN Tb X n) n l sig fn.ntmps:=by
    funext ins
    rw[envN,h1]
   rw[he]
   exact this
  ·have he:envN Tb X (n+1) f=X f:=by
    funext ins
    rw[envN,h1]
   rw[he]
   exact h2
def AllSig (p:Nat→Sig→Prop):Nat→List (Option Sig)→Prop
 |_,[]=>True
 |i,none::l=>AllSig p (i+1) l
 |i,some s::l=>p i s∧AllSig p (i+1) l
theorem AllSig.get {p:Nat→Sig→Prop}:∀{l:List (Option Sig)} {i j:Nat} {s:Sig},AllSig p i l→l[j]? =some (some s)→p (i+j) s
 | [],_,_,_,_,h=>by simp at h
 |none::l,i,0,s,_,h=>by simp at h
 |none::l,i,j+1,s,ha,h=>by
  have:=AllSig.get (l:=l) (i:=i+1) (j:=j) ha (by simpa using h)
  rw[show i+(j+1)=i+1+j by omega]
  exact this
 |some x::l,i,0,s,ha,h=>by simp at h;rw[← h];exact ha.1
 |some x::l,i,j+1,s,ha,h=>by
  have:=AllSig.get (l:=l) (i:=i+1) (j:=j) ha.2 (by simpa using h)
  rw[show i+(j+1)=i+1+j by omega]
  exact this
theorem getD_of {α:Type} {x:Option α} {d a:α} (h:x=some a):x=some (x.getD d):=by rw[h];rfl
theorem good_of {P:Program} {sigs:Nat→Option Sig} {Tb:Nat→Option TFn} {X:Env} {fn:Func} {sg:Sig} {sh tk:List Nat} {f:Nat} {ex:List (Nat×Nat×List Nat×Ty)} {labs:List (Key×List (Nat×List Ty))} {q:T×List T}
  (hm:mkTrees (mkC P sigs fn sg sh tk) fn ex labs=some q) (hf:P.funcs[f]? =some fn) (hb:(Nat.ble fn.ntmps 100000&&Nat.ble sg.params.length fn.ntmps&&Nat.beq fn.params.size sg.params.length)=true)
  (hc:(fn.name== "runtime.NumGoroutine")=false) (hT:Tb f=some ⟨(compFn (mkC P sigs fn sg sh tk) fn).getD .skip,sg,fn.ntmps⟩):GoodF P sigs Tb X f sg:=by
 obtain ⟨l,ent,h1,h2,h3⟩:=mkTrees_ok (Tb:=Tb) (X:=X) (t0:=q.1) (ts:=q.2) hm
 have hbody:fn.body.isSome=true:=by
  unfold mkTrees at hm
  cases hb:fn.body with
  |none=>rw[hb] at hm;cases hm
  |some _=>rfl
 exact ⟨⟨fn,hf,hbody,hc⟩, .inl ⟨fn,sh,tk,_,hT,fnOk_of hf hb,getD_of h1⟩⟩
theorem tree_of {P:Program} {sigs:Nat→Option Sig} {Tb:Nat→Option TFn} {X:Env} {fn:Func} {sg:Sig} {sh tk:List Nat} {f:Nat} {ex:List (Nat×Nat×List Nat×Ty)} {labs:List (Key×List (Nat×List Ty))} {t0:T} {ts:List T} {ent:List (List Ty)} {lt:List (List Ty)}
  (hm:mkTrees (mkC P sigs fn sg sh tk) fn ex labs=some (t0,ts)) (he:entTys P fn.params.toList sg.params=some ent) (hl:(labs.map fun q=>layTys q.2)=lt)
  (hT:Tb f=some ⟨(compFn (mkC P sigs fn sg sh tk) fn).getD .skip,sg,fn.ntmps⟩):∃go,IsTree Tb X f ent lt t0 ts go:=by
 obtain ⟨l,ent',h1,h2,h3⟩:=mkTrees_ok (Tb:=Tb) (X:=X) hm
 have h2':entTys P fn.params.toList sg.params=some ent':=h2
 rw[he] at h2'
 cases h2'
 have hl':(compFn (mkC P sigs fn sg sh tk) fn).getD .skip=l:=by rw[h1];rfl
 rw[hl'] at hT
 rw[← hl]
 exact h3 hT
structure Tf (Tb:Nat→Option TFn) (X:Env) (f:Nat) (ent:List (List Ty)) (labs:List (List Ty)) (t0:T) (ts:List T) where
 go:Nat→List D→Rs
 it:IsTree Tb X f ent labs t0 ts go
theorem Tf.f {Tb:Nat→Option TFn} {X:Env} {f:Nat} {ent labs:List (List Ty)} {t0:T} {ts:List T} (q:Tf Tb X f ent labs t0 ts) {ins r} (h:outsOk ent ins=true) (h2:evT (runF Tb X) q.go t0 (pushD ins.flatten [])=some r):runF Tb X f ins=some r:=q.it.fn ins r h h2
theorem Tf.g {Tb:Nat→Option TFn} {X:Env} {f:Nat} {ent labs:List (List Ty)} {t0:T} {ts:List T} (q:Tf Tb X f ent labs t0 ts) (j:Nat) {lay t args r} (h1:labs[j]? =some lay) (h2:ts[j]? =some t) (h3:tysOk lay args=true) (h4:evT (runF Tb X) q.go t (pushD args [])=some r):q.go j args=some r:=q.it.go j lay t args r h1 h2 h3 h4
def ltOf (labs:List (Key×List (Nat×List Ty))):List (List Ty):=labs.map fun q=>layTys q.2
def sgAt (sigs:Nat→Option Sig) (i:Nat):Sig:=(sigs i).getD ⟨[],[]⟩
def mtAt (P:Program) (sigs:Nat→Option Sig) (i:Nat) (fn:Func) (sh tk:List Nat) (ex:List (Nat×Nat×List Nat×Ty)) (labs:List (Key×List (Nat×List Ty))):Option (T×List T):=mkTrees (mkC P sigs fn (sgAt sigs i) sh tk) fn ex labs
def leAt (P:Program) (sigs:Nat→Option Sig) (i:Nat) (fn:Func) (sh tk:List Nat):Option TFn:=some ⟨(compFn (mkC P sigs fn (sgAt sigs i) sh tk) fn).getD .skip,sgAt sigs i,fn.ntmps⟩
noncomputable def tf_of {P:Program} {sigs:Nat→Option Sig} {Tb:Nat→Option TFn} {X:Env} {i:Nat} {fn:Func} {sh tk:List Nat} {ex:List (Nat×Nat×List Nat×Ty)} {labs:List (Key×List (Nat×List Ty))} {t0:T} {ts:List T} (ent:List (List Ty))
  (hm:mtAt P sigs i fn sh tk ex labs=some (t0,ts)) (he:entTys P fn.params.toList (sgAt sigs i).params=some ent) (hT:Tb i=leAt P sigs i fn sh tk):Tf Tb X i ent (ltOf labs) t0 ts:=
 ⟨(tree_of hm he rfl hT).choose,(tree_of hm he rfl hT).choose_spec⟩
theorem good_at {P:Program} {sigs:Nat→Option Sig} {Tb:Nat→Option TFn} {X:Env} {i:Nat} {fn:Func} {sh tk:List Nat} {ex:List (Nat×Nat×List Nat×Ty)} {labs:List (Key×List (Nat×List Ty))} {q:T×List T}
  (hm:mtAt P sigs i fn sh tk ex labs=some q) (hf:P.funcs[i]? =some fn) (hb:(Nat.ble fn.ntmps 100000&&Nat.ble (sgAt sigs i).params.length fn.ntmps&&Nat.beq fn.params.size (sgAt sigs i).params.length&& !(fn.name== "runtime.NumGoroutine"))=true)
  (hT:Tb i=leAt P sigs i fn sh tk):GoodF P sigs Tb X i (sgAt sigs i):=by
 rw[zD] at hb
 exact good_of hm hf hb.1 (by simpa using hb.2) hT
end Go.Own
namespace Go.Own
open Go Go.RowKit
def LawArg (P:Program) (h:Array Obj) (ty:TypeId) (p:PSig) (v:Value) (ds:List D):Prop:=
 ∃cs vs,p= .v cs∧cellsV (if isAggB P ty then .agg else .one) v=some vs∧vs.length=cs.length∧ds.length=cs.length∧
  ∀(o:Nat) (c:PC) (d:D) (x:Value),cs[o]? =some c→ds[o]? =some d→vs[o]? =some x→c.out=none∧((c.n=none∧d.flat=true)∨(c.n=some 0∧d.flat=false))∧O h (fun _ b=>b<h.size) d x
inductive LawArgs (P:Program) (h:Array Obj):List TypeId→List PSig→List Value→List (List D)→Prop
 |nil:LawArgs P h [] [] [] []
 |cons {t ts p ps v vs d ds} (h1:LawArg P h t p v d) (h2:LawArgs P h ts ps vs ds):LawArgs P h (t::ts) (p::ps) (v::vs) (d::ds)
theorem LawArgs.len {P:Program} {h:Array Obj}:∀{ts ps vs ds},LawArgs P h ts ps vs ds→vs.length=ps.length
 |_,_,_,_, .nil=>rfl
 |_,_,_,_, .cons _ h2=>by simp[h2.len]
def lawCol (h:Array Obj):Nat→Color:=fun b=>if b<h.size then .stable else .free
def lawK (P:Program) (h:Array Obj):K:=⟨P,h,lawCol h,fun _ _=>True⟩
def lawM (h:Array Obj) (vs:List Value) (ds:List (List D)):M:=⟨fun i=>ds.getD i [],fun i=>vs.getD i undef,h,lawCol h⟩
theorem law_mem {P:Program} {h:Array Obj} {vs ds}:Mem (lawK P h) (lawM h vs ds):=by
 have own:∀b s,(lawCol h b).own≠some s:=fun b s=>by unfold lawCol;split<;>simp[Color.own]
 refine ⟨Nat.le_refl _,fun b=> ?_,fun b s hb=>absurd hb (own b s),fun b s o π hb=> ?_,fun b v π hb=> ?_,fun b s hb=> ?_,fun b hb=>⟨rfl,hb⟩⟩
 ·show h.size≤b↔lawCol h b= .free
  unfold lawCol
  split
  ·simp;omega
  ·simp;omega
 ·exact absurd (show (lawCol h b).own=some s by rw[show lawCol h b=_ from hb];rfl) (own b s)
 ·exact absurd (show (lawCol h b).own=some v by rw[show lawCol h b=_ from hb];rfl) (own b v)
 ·exact absurd (show (lawCol h b).own=some s by rw[show lawCol h b=_ from hb];rfl) (own b s)
theorem zipIdx_get {α:Type}:∀(l:List α) (n i:Nat),(l.zipIdx n)[i]? =(l[i]?).map fun x=>(x,n+i)
 | [],_,_=>by simp
 |x::t,n,0=>by simp
 |x::t,n,i+1=>by rw[List.zipIdx_cons,List.getElem?_cons_succ,zipIdx_get t (n+1) i,List.getElem?_cons_succ];congr 1;funext y;congr 1;omega
theorem law_ent {P:Program} {h:Array Obj} {ty:TypeId} {p:PSig} {v:Value} {ds:List D} (j:Nat) {m:M} {s:Nat} (hm:m.h=h) (hc:m.col=lawCol h) (hv:m.c s=v) (hd:m.σ s=ds) (ha:LawArg P h ty p v ds):EntOk (lawK P h) [] m s (pEnt P j ty p):=by
 obtain ⟨cs,vs,rfl,hvs,h1,h2,h3⟩:=ha
 refine .inr ⟨vs,by rw[hv];exact hvs,by rw[h1];simp,by rw[hd,h2];simp,fun x hx=> ?_,fun o t d x ht hd' hx=> ?_⟩
 ·obtain ⟨o,ho⟩:=zP hx
  have hlt:o<vs.length:=by
   rcases zJ o vs.length with g|g
   ·exact g
   ·rw[zG g] at ho;cases ho
  have e1:cs[o]? =some cs[o]:=zB (by omega)
  have e2:ds[o]? =some ds[o]:=zB (by omega)
  exact (h3 o _ _ _ e1 e2 ho).2.2.one
 ·rw[hd] at hd'
  rw[zK,zipIdx_get] at ht
  cases hcs:cs[o]? with
  |none=>rw[hcs] at ht;cases ht
  |some c=>
   rw[hcs] at ht
   simp only[Option.map_some,Option.some.injEq] at ht
   subst ht
   obtain ⟨_,hf,hO⟩:=h3 o c d x hcs hd' hx
   rcases hf with ⟨hn,hf⟩|⟨hn,hf⟩
   ·rw[hn]
    exact ⟨hf,by rw[hm];exact hO.flat hf⟩
   ·rw[hn]
    refine ⟨hf,fun _=> ?_⟩
    rw[hm]
    refine hO.mono fun π b hb=> ?_
    show gd (lawK P h) m.col s o 0 _ π b
    unfold gd
    have hw:owns 0 π.length=false:=by unfold owns;simp[DEEP]
    rw[hw]
    simp only[Bool.false_eq_true,if_false]
    refine .inl ⟨by rw[hc];unfold lawCol;rw[if_pos hb], .inr ⟨_,List.mem_singleton.2 rfl,_,rfl,trivial⟩⟩
theorem law_ents {P:Program} {h:Array Obj} {m:M} (hm:m.h=h) (hc:m.col=lawCol h):∀{ts ps vs ds} (_:LawArgs P h ts ps vs ds) (j n:Nat),(∀i,i<vs.length→m.c (n+i)=vs.getD i undef∧m.σ (n+i)=ds.getD i [])→∀i,EntOk (lawK P h) [] m (n+i) ((pEnts P j ts ps).getD i .none)
 |_,_,_,_, .nil,j,n,_,i=>by simp[pEnts,EntOk]
 |_,_,_,_, .cons (t:=t) (ts:=ts) (p:=p) (ps:=ps) (v:=v) (vs:=vs) (d:=d) (ds:=ds) h1 h2,j,n,hi,i=>by
  rw[pEnts]
  cases i with
  |zero=>
   obtain ⟨e1,e2⟩:=hi 0 (by simp)
   simp only[Nat.add_zero,List.getD_cons_zero] at e1 e2 ⊢
   exact law_ent j hm hc e1 e2 h1
  |succ i=>
   have:=law_ents hm hc h2 (j+p.count) (n+1) (fun i' hi'=>by
    have:=hi (i'+1) (by simp;omega)
    simp only[List.getD_cons_succ] at this
    rwa [show n+(i'+1)=n+1+i' by omega] at this) i
   rw[show n+(i+1)=n+1+i by omega]
   simpa using this
theorem law_calls {P:Program} {f:Nat} {sig:Sig} {F:List (List D)→Option (List (List D))} (hM:Meets P f sig F) {fn:Func} (hf:P.funcs[f]? =some fn) {w:World} {vs:List Value} {ds:List (List D)}
  (hres:sig.res=[.v false [none]]) (hfx:FxOk (lawK P w.heap)) (ha:LawArgs P w.heap fn.params.toList sig.params vs ds) (hF:F ds=some [[.bool true]]):
  Calls P f vs.toArray w fun e w'=>e= .returned (.bool true)∧Below w.heap.size w w':=by
 refine (hM fn (lawK P w.heap) (lawM w.heap vs ds) w vs ds _ hf rfl hfx rfl rfl rfl ha.len (fun _=>rfl) (fun _=>rfl) law_mem (fun b u π hb=> ?_) (fun i=> ?_) hF).mono ?_
 ·have:lawCol w.heap b= .lim u π:=hb
  unfold lawCol at this
  split at this<;>cases this
 ·have:=law_ents (m:=lawM w.heap vs ds) rfl rfl ha 0 0 (fun i _=>by rw[Nat.zero_add];exact ⟨rfl,rfl⟩) i
  rwa [Nat.zero_add] at this
 ·rintro e w' ⟨v,h',dr,col',rfl,rfl,hfin⟩
  obtain ⟨hmem,ds',os,he,hr,_⟩:=hfin
  have hv:v= .bool true:=by
   obtain ⟨rfl,_⟩:=List.cons.inj he
   rw[hres] at hr
   obtain ⟨xs,hxs,hcells⟩:=hr
   simp only[resShape,cellsV,Bool.false_eq_true,if_false,Option.some.injEq] at hxs
   subst hxs
   have:=hcells.cell 0 none (.bool true) v rfl rfl rfl
   obtain ⟨_,hO⟩:=this
   cases hO
   rfl
  refine ⟨by rw[hv],rfl,rfl,rfl,hmem.size,fun k hk=> ?_⟩
  have hk':(lawK P w.heap).col0 k= .stable:=by show lawCol w.heap k= .stable;unfold lawCol;rw[if_pos hk]
  exact (hmem.kept k hk').1
inductive Rds (h:Array Obj):List Value→List D→Prop
 |nil:Rds h [] []
 |cons {v d vs ds} (h1:O h (fun _ b=>b<h.size) d v) (h2:Rds h vs ds):Rds h (v::vs) (d::ds)
theorem Rds.len {h:Array Obj}:∀{vs ds},Rds h vs ds→vs.length=ds.length
 |_,_, .nil=>rfl
 |_,_, .cons _ h2=>by simp[h2.len]
theorem Rds.app {h:Array Obj}:∀{vs ds us es},Rds h vs ds→Rds h us es→Rds h (vs++us) (ds++es)
 |_,_,_,_, .nil,g=>g
 |_,_,_,_, .cons h1 h2,g=> .cons h1 (h2.app g)
theorem Rds.get {h:Array Obj}:∀{vs ds},Rds h vs ds→∀(o:Nat) (d:D),ds[o]? =some d→∃v,vs[o]? =some v∧O h (fun _ b=>b<h.size) d v
 |_,_, .nil,o,d,hd=>by simp at hd
 |_,_, .cons h1 h2,0,d,hd=>by simp at hd;subst hd;exact ⟨_,rfl,h1⟩
 |_,_, .cons h1 h2,o+1,d,hd=>by
  obtain ⟨v,hv,hO⟩:=h2.get o d (by simpa using hd)
  exact ⟨v,by simpa using hv,hO⟩
section
variable {H:Type} {enc:TypeId×Value→H} {P:Program} {w:World} {held:Bool}
def wOk (P:Program) (t:TypeId) (x:DataW H):Prop:=∀n∈x.weights P t,n≤reachBytes
def Reads (en:TypeId×Value→H) (P:Program) (w:World) (held:Bool) (fuel:Nat) (t:TypeId) {α:Type} (e:α→List D) (q:α→Prop):Prop:=
 ∀cs x,DataW.trod en P w 0 (fun _=>true) held fuel t cs=some x→wOk P t x.1→∃v,q v∧Rds w.heap cs (e v)
theorem Reads.imp {fuel:Nat} {t:TypeId} {α β:Type} {e:α→List D} {q:α→Prop} {e':β→List D} {q':β→Prop} (h:Reads enc P w held fuel t e q) (f:∀v,q v→∃u,q' u∧e' u=e v):Reads enc P w held fuel t e' q':=fun cs x hx hw=>by
 obtain ⟨v,hv,hr⟩:=h cs x hx hw
 obtain ⟨u,hu,he⟩:=f v hv
 exact ⟨u,hu,by rw[he];exact hr⟩
theorem reads_int {t:TypeId} {k:IntKind} (ht:P.underlying t=some (.int k)) (fuel:Nat):Reads enc P w held fuel t (fun n=>[.int k n]) (fun n=>(Lit.int k n).wf=true):=fun cs x hx _=>by
 obtain ⟨n,rfl,_,hw⟩:=DataW.trod_int ht hx
 exact ⟨n,hw, .cons .int .nil⟩
theorem reads_bool {t:TypeId} (ht:P.underlying t=some .bool) (fuel:Nat):Reads enc P w held fuel t (fun b=>[.bool b]) (fun _=>True):=fun cs x hx _=>by
 obtain ⟨b,rfl,_⟩:=DataW.trod_bool ht hx
 exact ⟨b,trivial, .cons .bool .nil⟩
theorem reach_lt:reachBytes<4611686018427387904:=by decide
theorem reads_str {t:TypeId} (ht:P.underlying t=some .string) (fuel:Nat):Reads enc P w held fuel t (fun s=>[.str s]) (fun s=>s.length<4611686018427387904):=fun cs x hx hw=>by
 obtain ⟨s,rfl,rfl,_⟩:=DataW.trod_string ht hx
 refine ⟨s.data.toList,?_, .cons ?_ .nil⟩
 ·have:=hw s.data.toList.length (by simp[DataW.weights])
  exact Nat.lt_of_le_of_lt this reach_lt
 ·have:s=⟨⟨s.data.toList⟩⟩:=by cases s;rfl
  generalize s.data.toList=l at this
  subst this
  exact .str
theorem list_pick {α:Type} {p:Nat→α→Prop}:∀(n:Nat),(∀i,i<n→∃v,p i v)→∃l:List α,l.length=n∧∀i v,l[i]? =some v→p i v
 |0,_=>⟨[],rfl,fun i v h=>by simp at h⟩
 |n+1,h=>by
  obtain ⟨l,hl,hp⟩:=list_pick n fun i hi=>h i (by omega)
  obtain ⟨v,hv⟩:=h n (by omega)
  refine ⟨l++[v],by simp[hl],fun i u hu=> ?_⟩
  rcases zJ i n with hi|hi
  ·rw[zI (by omega)] at hu;exact hp i u hu
  ·rw[zH (by omega)] at hu
   have:i-l.length=0:=by
    rcases Nat.eq_zero_or_pos (i-l.length) with h|h
    ·exact h
    ·rw[zG (by simp;omega)] at hu;cases hu
   rw[this] at hu
   simp at hu
   subst hu
   rw[show i=n by omega]
   exact hv
theorem weightsAll_mem {e:TypeId}:∀{l:List (DataW H)} {y:DataW H},y∈l→∀n∈y.weights P e,n∈DataW.weightsAll P e l
 |z::l,y,hy,n,hn=>by
  rw[DataW.weightsAll]
  rcases List.mem_cons.1 hy with rfl|hy
  ·exact zT.2 (.inl hn)
  ·exact zT.2 (.inr (weightsAll_mem hy n hn))
theorem cell_spot0 {a:Addr} {v:Value} (h:w.cell? (a.add 0)=some v):∃b off,a=⟨b,off,none⟩:=by
 have:=World.cell?_spot h
 simp[Addr.add] at this
 exact ⟨a.block,a.off,by cases a;simp at this;rw[this]⟩
theorem cell_block {b off:Nat} {v:Value} (h:w.cell? ⟨b,off,none⟩=some v):∃cs ty fr,w.heap[b]? =some (.cells cs ty fr)∧cs[off]? =some v:=by
 unfold World.cell? at h
 split at h
 ·rename_i c ty fr hb
  simp at h
  exact ⟨c,ty,fr,hb,h⟩
 ·cases h
theorem reads_sl {α:Type} {e:α→List D} {q:α→Prop} {t u:TypeId} {sz:Nat} (ht:P.underlying t=some (.slice u)) (hc:P.cellsOf u=sz) (hb:(Nat.ble 1 (P.bytesOf u)&&Nat.ble 1 sz)=true) {fuel:Nat}
  (he:∀f,f<fuel→Reads enc P w held f u e q):Reads enc P w held fuel t (fun l:List α=>[.sl sz (l.map e)]) (fun l=>l.length<4611686018427387904∧∀v∈l,q v):=fun cs x hx hw=>by
 simp only[zD] at hb
 have hb1:=Nat.le_of_ble_eq_true hb.1
 have hz1:=Nat.le_of_ble_eq_true hb.2
 rcases DataW.trod_slice ht hx with ⟨rfl,_⟩|⟨a,len,cap,elems,rest,n,rfl,rfl,rfl,_,hl,hm,hlen,hel,hsp,_⟩
 ·exact ⟨[],⟨by simp,by simp⟩, .cons .nil .nil⟩
 obtain ⟨hrl,hre⟩:=hsp rfl
 simp only[wOk,DataW.weights,ht] at hw
 have hwlen:=hw _ (List.mem_cons_self ..)
 rw[hc] at hel hre
 have each:∀i,i<len→∃v,q v∧∃cs',w.cells? 0 (a.add (i*sz)) sz=some cs'∧Rds w.heap cs' (e v):=fun i hi=>by
  have h1:=hel i hi
  have h2:elems[i]? =some elems[i]:=zB (by omega)
  rw[h2,zA] at h1
  obtain ⟨cs',hcs,hy⟩:=h1
  obtain ⟨v,hv,hr⟩:=he n (by omega) cs' _ hy fun m hm=>hw m (List.mem_cons.2 (.inr (zT.2 (.inl (weightsAll_mem (List.mem_map.2 ⟨_,zF h2,rfl⟩) m hm)))))
  exact ⟨v,hv,cs',hcs,hr⟩
 obtain ⟨l,hll,hlp⟩:=list_pick len each
 refine ⟨l,⟨?_,fun v hv=> ?_⟩, .cons ?_ .nil⟩
 ·have h1:len≤(elems.length+rest.length)*P.bytesOf u:=zS (by omega) (Nat.le_mul_of_pos_right _ hb1)
  simp only[List.length_map] at hwlen
  have:=reach_lt
  omega
 ·obtain ⟨i,hi⟩:=zP hv
  exact (hlp i v hi).1
 ·by_cases hcap:cap=0
  ·have:len=0:=by omega
   subst this hcap
   have:l=[]:=List.eq_nil_of_length_eq_zero hll
   subst this
   exact .emp
  have within:∀i,i<cap→∀o,o<sz→∃v,w.cell? ((a.add (i*sz)).add o)=some v:=fun i hi o ho=>by
   have:∃cs',w.cells? 0 (a.add (i*sz)) sz=some cs':=by
    by_cases hil:i<len
    ·obtain ⟨_,_,cs',h,_⟩:=each i hil
     exact ⟨cs',h⟩
    ·have h1:=hre (i-len) (by omega)
     rw[show len+(i-len)=i by omega] at h1
     have h2:rest[i-len]? =some (rest[i-len]'(by omega)):=zB (by omega)
     rw[h2,zA] at h1
     obtain ⟨cs',hcs,_⟩:=h1
     exact ⟨cs',hcs⟩
   obtain ⟨cs',hcs⟩:=this
   obtain ⟨_,hcl,hcc⟩:=World.cells?_some hcs
   exact ⟨cs'[o]'(by omega),by rw[hcc o ho];exact zB (by omega)⟩
  obtain ⟨v0,hv0⟩:=within 0 (by omega) 0 (by omega)
  rw[Nat.zero_mul] at hv0
  have hv0':w.cell? (a.add 0)=some v0:=by simpa[Addr.add] using hv0
  obtain ⟨b,off,rfl⟩:=cell_spot0 hv0'
  have hadd:∀i o,((⟨b,off,none⟩:Addr).add i).add o=⟨b,off+i+o,none⟩:=fun i o=>by rw[Addr.add_mid,Addr.add_mid]
  have h00:w.cell? ⟨b,off,none⟩=some v0:=by simpa[Addr.add] using hv0'
  obtain ⟨C,ty,fr,hbk,_⟩:=cell_block h00
  have hblt:b<w.heap.size:=(Array.getElem?_eq_some_iff.1 hbk).1
  have cellC:∀k v,w.cell? ⟨b,off+k,none⟩=some v→C[off+k]? =some v:=fun k v h=>by
   obtain ⟨C',ty',fr',hbk',hv'⟩:=cell_block h
   rw[hbk] at hbk'
   cases hbk'
   exact hv'
  refine .sl hblt hbk (by simp[hll]) hl ?_ (fun i row hrow=> ?_) (fun i o d hd=> ?_)
  ·obtain ⟨v1,hv1⟩:=within (cap-1) (by omega) (sz-1) (by omega)
   rw[hadd,Nat.add_assoc] at hv1
   have:=cellC _ _ hv1
   have hlt:=(Array.getElem?_eq_some_iff.1 this).1
   have e1:(cap-1)*sz+sz=cap*sz:=by
    have:cap*sz=(cap-1+1)*sz:=by congr 1;omega
    rw[this,Nat.add_mul];omega
   omega
  ·rw[zK] at hrow
   cases hv:l[i]? with
   |none=>rw[hv] at hrow;cases hrow
   |some v=>
    rw[hv] at hrow
    cases hrow
    obtain ⟨_,cs',hcs,hr⟩:=hlp i v hv
    rw[← hr.len,(World.cells?_some hcs).2.1]
  ·obtain ⟨row,hrow,hd'⟩:=cellAt_lt hd
   rw[zK] at hrow
   cases hv:l[i]? with
   |none=>rw[hv] at hrow;cases hrow
   |some v=>
    rw[hv] at hrow
    cases hrow
    obtain ⟨_,cs',hcs,hr⟩:=hlp i v hv
    obtain ⟨_,hcl,hcc⟩:=World.cells?_some hcs
    obtain ⟨u1,hu1,hO⟩:=hr.get o d hd'
    have ho:o<sz:=by have:=(zE.1 hu1).1;omega
    have h1:=hcc o ho
    rw[hu1,hadd,Nat.add_assoc] at h1
    have h2:=cellC _ _ h1
    have h3:C.getD (off+i*sz+o) undef=u1:=by
     rw[Nat.add_assoc,Array.getD_eq_getD_getElem?,h2]
     rfl
    rw[h3]
    exact hO.mono fun _ _ h=>h
inductive Parts (en:TypeId×Value→H) (P:Program) (w:World) (held:Bool) (n:Nat):List TypeId→List Value→Prop
 |nil:Parts en P w held n [] []
 |cons {t ts cs cs' x} (h:DataW.trod en P w 0 (fun _=>true) held n t cs=some x) (hw:wOk P t x.1) (r:Parts en P w held n ts cs'):Parts en P w held n (t::ts) (cs++cs')
def consec (P:Program):List Field→Nat→Nat→Bool
 | [],o,e=>Nat.beq o e
 |f::fs,o,e=>Nat.beq f.offset o&&consec P fs (o+P.cellsOf f.type) e
theorem parts_of {n:Nat} {cs:List Value}:∀(fs:List Field) (xs:List (DataW H×List MemPlace)) (o e:Nat),consec P fs o e=true→xs.length=fs.length→cs.length=e→o≤e→
  (∀(i:Nat) (f:Field),fs[i]? =some f→DataW.trod enc P w 0 (fun _=>true) held n f.type ((cs.drop f.offset).take (P.cellsOf f.type))=xs[i]?)→(∀m∈DataW.weightsEach P (fs.map (·.type)) (xs.map (·.1)),m≤reachBytes)→Parts enc P w held n (fs.map (·.type)) (cs.drop o)
 | [],xs,o,e,hc,hl,hcs,hoe,_,_=>by
  have:o=e:=Nat.eq_of_beq_eq_true hc
  rw[List.drop_eq_nil_of_le (by omega)]
  exact .nil
 |f::fs,[],_,_,_,hl,_,_,_,_=>by simp at hl
 |f::fs,x::xs,o,e,hc,hl,hcs,hoe,hx,hw=>by
  simp only[consec,zD] at hc
  obtain ⟨hc1,hc2⟩:=hc
  have ho:f.offset=o:=Nat.eq_of_beq_eq_true hc1
  have h0:=hx 0 f rfl
  rw[ho] at h0
  simp only[List.getElem?_cons_zero] at h0
  have hle:∀(fs:List Field) (o e:Nat),consec P fs o e=true→o≤e:=by
   intro fs
   induction fs with
   |nil=>intro o e h;exact Nat.le_of_eq (Nat.eq_of_beq_eq_true h)
   |cons g gs ih=>
    intro o e h
    simp only[consec,zD] at h
    have:=ih _ _ h.2
    omega
  have hoe':=hle _ _ _ hc2
  have hsplit:cs.drop o=(cs.drop o).take (P.cellsOf f.type)++cs.drop (o+P.cellsOf f.type):=by
   rw[← List.drop_drop,List.take_append_drop]
  rw[hsplit]
  simp only[List.map_cons,DataW.weightsEach] at hw
  exact .cons h0 (fun m hm=>hw m (zT.2 (.inl hm))) (parts_of fs xs _ e hc2 (by simpa using hl) hcs hoe' (fun i g hg=>by have:=hx (i+1) g (by simpa using hg);simpa using this) fun m hm=>hw m (zT.2 (.inr hm)))
theorem trod_parts {t:TypeId} {fs:Array Field} {fuel:Nat} {cs:List Value} {x:DataW H×List MemPlace} (ht:P.underlying t=some (.struct fs)) (hc:consec P fs.toList 0 (P.cellsOf t)=true)
  (h:DataW.trod enc P w 0 (fun _=>true) held fuel t cs=some x) (hw:wOk P t x.1):∃n,fuel=n+1∧Parts enc P w held n (fs.toList.map (·.type)) cs:=by
 obtain ⟨xs,n,hn,rfl,hl,hxl,hx⟩:=DataW.trod_struct ht h
 refine ⟨n,hn,?_⟩
 have:=parts_of (enc:=enc) (P:=P) (w:=w) (held:=held) (n:=n) (cs:=cs) fs.toList xs 0 _ hc (by simpa using hxl) hl (Nat.zero_le _) (fun i f hf=>hx i f (by simpa using hf)) (by
  intro m hm
  apply hw
  simp only[DataW.weights,ht]
  exact hm)
 simpa using this
theorem Parts.one {n:Nat} {t:TypeId} {ts:List TypeId} {cs:List Value} {α:Type} {e:α→List D} {q:α→Prop} (h:Parts enc P w held n (t::ts) cs) (hr:Reads enc P w held n t e q):
  ∃v cs1 cs2,q v∧Rds w.heap cs1 (e v)∧cs=cs1++cs2∧Parts enc P w held n ts cs2:=by
 cases h with
 |cons h hw r=>
  obtain ⟨v,hv,hR⟩:=hr _ _ h hw
  exact ⟨v,_,_,hv,hR,rfl,r⟩
theorem Parts.none {n:Nat} {cs:List Value} (h:Parts enc P w held n [] cs):cs=[]:=by cases h;rfl
end
end Go.Own
namespace Go.Own
open Go Go.Proofs Go.Shelf
def itoaF:List (List D)→Option (List (List D)):=fun ins=>match ins with
 | [[.int .i64 n]]=>if -9223372036854775808≤n∧n≤9223372036854775807 then some [[.str (Lib.itoa n)]] else none
 |_=>none
def itoaS:Sig:={params:=[.v [{n:=none,out:=none}]],res:=[.v false [none]]}
def newCol (col:Nat→Color) (a b:Nat):Nat→Color:=fun x=>if x<a then col x else if x<b then .stable else .free
theorem itoa_meets {P:Program} {ρ:Ren} (L:LaysM.n171 P ρ):Meets P (ρ.f 171) itoaS itoaF:=by
 intro fn k m w args ins outs hfn hP hfx hh0 hc0 hw hlen hσ hc hM hlim hent hF
 have hfe:fn=Body.n171 ρ:=zU (hfn.symm.trans L.f171)
 have hag:isAggB P (ρ.t 3)=false:=by unfold isAggB;rw[L.t3]
 have hpar:fn.params.toList=[ρ.t 3]:=by rw[hfe];rfl
 have h0:=hent 0
 rw[hpar] at h0
 have he:(pEnts P 0 [ρ.t 3] itoaS.params).getD 0 .none= .val .one [.sc]:=by
  show Ent.val (if isAggB P (ρ.t 3) then .agg else .one) _=_
  rw[hag]
  rfl
 rw[he] at h0
 unfold itoaF at hF
 split at hF
 ·rename_i n
  split at hF
  ·rename_i hb
   cases hF
   have hs0:m.σ 0=[.int .i64 n]:=by rw[hσ];rfl
   rcases h0 with h0|⟨vs,h1,h2⟩
   ·rw[hs0] at h0;cases h0
   have h1':[m.c 0]=vs:=by simpa[cellsV] using h1
   subst h1'
   have h3:=h2.2.2.2 0 .sc (.int .i64 n) (m.c 0) rfl (by rw[hs0];rfl) rfl
   have aux:∀y,O m.h (fun _ _=>False) (.int .i64 n) y→y= .int .i64 n:=fun y hy=>by cases hy;rfl
   have h4:=aux _ h3.2
   have ha:args=[.int .i64 n]:=by
    have hl:args.length=1:=hlen
    match args,hl with
    | [x],_=>rw[hc] at h4;simp at h4;rw[h4]
   subst ha
   have htab:Lib.TabIs P w "internal/strconv.uint64pow10" .u64 Lib.pow10Tab:=by
    obtain ⟨_,ty,fr,hcell⟩:=hfx _ (List.mem_singleton.2 rfl) (ρ.g 17) (by rw[hP];exact L.m17)
    unfold Lib.TabIs World.var?
    rw[L.m17]
    simp only[Option.bind_some]
    rw[hw,← hh0,hcell]
   refine (Any.strconv_Itoa L n hb.1 hb.2 w htab).mono ?_
   rintro e w' ⟨rfl,kk,os,rfl⟩
   refine ⟨_,w.heap++os,w.drawn+kk,newCol m.col m.h.size (m.h++os).size,rfl,rfl,?_,[.str (Lib.itoa n)],[],rfl,?_,by rw[hpar];simp[ParsOut,itoaS]⟩
   ·rw[hw]
    have hlt:∀b,b<m.h.size→newCol m.col m.h.size (m.h++os).size b=m.col b:=fun b hb=>by unfold newCol;rw[if_pos hb]
    have hge:∀b,m.h.size≤b→newCol m.col m.h.size (m.h++os).size b= .stable∨newCol m.col m.h.size (m.h++os).size b= .free:=fun b hb=>by
     unfold newCol
     rw[if_neg (by omega)]
     split
     ·exact .inl rfl
     ·exact .inr rfl
    have hcell:∀b,b<m.h.size→(m.h++os)[b]? =m.h[b]? :=fun b hb=>Array.getElem?_append_left hb
    have low:∀b c,newCol m.col m.h.size (m.h++os).size b=c→c≠ .stable→c≠ .free→b<m.h.size∧m.col b=c:=fun b c h1 h2 h3=>by
     rcases zJ b m.h.size with hb|hb
     ·exact ⟨hb,by rw[← hlt b hb];exact h1⟩
     ·rcases hge b hb with h|h<;>rw[h] at h1<;>subst h1<;>simp at h2 h3
    refine ⟨by have:=hM.size;simp;omega,fun b=> ?_,fun b s hb=> ?_,fun b s o π hb=> ?_,fun b v π hb=> ?_,fun b s hb=> ?_,fun b hb=> ?_⟩
    ·show (m.h++os).size≤b↔newCol m.col m.h.size (m.h++os).size b= .free
     constructor
     ·intro h
      unfold newCol
      rw[if_neg (by simp at h;omega),if_neg (by omega)]
     ·intro h
      rcases zJ b m.h.size with hb|hb
      ·rw[hlt b hb] at h
       have:=(hM.free b).2 h
       omega
      ·unfold newCol at h
       rw[if_neg (by omega)] at h
       split at h
       ·cases h
       ·omega
    ·refine hM.fresh b s ?_
     have hb:(newCol m.col m.h.size (m.h++os).size b).own=some s:=hb
     obtain ⟨_,h⟩:=low b _ rfl (fun e=>by rw[e] at hb;cases hb) (fun e=>by rw[e] at hb;cases hb)
     rw[h]
     exact hb
    ·obtain ⟨h1,h2⟩:=low b _ hb (by simp) (by simp)
     obtain ⟨h3,cs,ty,h4⟩:=hM.arr b s o π h2
     exact ⟨h3,cs,ty,by rw[hcell b h1];exact h4⟩
    ·obtain ⟨h1,h2⟩:=low b _ hb (by simp) (by simp)
     obtain ⟨h3,cs,ty,h4⟩:=hM.lm b v π h2
     exact ⟨h3,cs,ty,by rw[hcell b h1];exact h4⟩
    ·obtain ⟨h1,h2⟩:=low b _ hb (by simp) (by simp)
     obtain ⟨cs,ty,h4⟩:=hM.bx b s h2
     exact ⟨cs,ty,by rw[hcell b h1];exact h4⟩
    ·obtain ⟨h1,h2⟩:=hM.kept b hb
     have hbl:b<m.h.size:=by
      rcases zJ b m.h.size with h|h
      ·exact h
      ·have:=(hM.free b).1 h;rw[h2] at this;cases this
     exact ⟨by rw[hcell b hbl];exact h1,by show newCol _ _ _ b=_;rw[hlt b hbl];exact h2⟩
   ·refine ⟨[_],rfl,rfl,rfl,fun v hv=>by rw[List.mem_singleton.1 hv];rfl,fun o t d x ht hd hx=> ?_⟩
    cases o with
    |zero=>
     simp[resRC,rsRC,itoaS] at ht hd hx
     subst ht hd hx
     exact ⟨rfl, .str⟩
    |succ o=>simp at hd
  ·cases hF
 ·cases hF
theorem laid_tab {P:Program} {W:World} {name:String} {k:IntKind} {zs:List Int} {t e:TypeId} {n g:Nat} (hg:P.globalNamed name=some g) (hty:(P.globals[g]?).map (·.type)=some t) (ht:P.underlying t=some (.array n e)) (he:P.underlying e=some (.int k)) (hce:P.cellsOf e=1) (hct:P.cellsOf t=n):
  ∀{laid:List (String×DataW Unit)} {ps:List MemPlace},DataW.LaidVars P W laid ps→(name,Lib.tabData k zs)∈laid→∃ty fr,W.heap[g]? =some (.cells (zs.map fun z=>Value.int k z).toArray ty fr)
 | [],_,_,hm=>by cases hm
 |(nm,d)::rest,ps,h,hm=>by
  obtain ⟨g',t',cs,fuel,p,q,hg',ht',hvar,hd,hr,_⟩:=h
  rcases List.mem_cons.1 hm with e1|hm
  ·cases e1
   obtain rfl:=zU (hg.symm.trans hg')
   obtain rfl:=zU (hty.symm.trans ht')
   have hcs:=Lib.cells_of_tab ht he hce hct hd
   unfold World.var? at hvar
   rw[hg] at hvar
   simp only[Option.bind_some] at hvar
   split at hvar
   ·rename_i cs' ty fr hb
    cases hvar
    exact ⟨ty,fr,by rw[hb,← hcs]⟩
   ·cases hvar
  ·exact laid_tab hg hty ht he hce hct hr hm
theorem fx_of {P:Program} {W:World} {g:Nat} (hg:P.globalNamed "internal/strconv.uint64pow10" =some g) (h:∃ty fr,W.heap[g]? =some (.cells (Lib.pow10Tab.map fun z=>Value.int .u64 z).toArray ty fr)):FxOk (lawK P W.heap):=by
 intro q hq b hb
 obtain rfl:=List.mem_singleton.1 hq
 obtain rfl:=zU (hg.symm.trans hb)
 obtain ⟨ty,fr,h⟩:=h
 refine ⟨?_,ty,fr,h⟩
 show lawCol W.heap g= .stable
 unfold lawCol
 rw[if_pos (Array.getElem?_eq_some_iff.1 h).1]
theorem law_arg {P:Program} {h:Array Obj} {t:TypeId} {v:Value} {d:D} (ha:isAggB P t=false) (hr:Rds h [v] [d]) (hd:d.flat=false):LawArg P h t (.v [{n:=some 0,out:=none}]) v [d]:=by
 refine ⟨[{n:=some 0,out:=none}],[v],rfl,by rw[ha];rfl,rfl,rfl,fun o c d' x hc hd' hx=> ?_⟩
 cases o with
 |zero=>
  simp at hc hd' hx
  subst hc hd' hx
  cases hr with
  |cons h1 _=>exact ⟨rfl, .inr ⟨rfl,hd⟩,h1⟩
 |succ o=>simp at hc
theorem law_arg_flat {P:Program} {h:Array Obj} {t:TypeId} {v:Value} {d:D} (ha:isAggB P t=false) (hr:Rds h [v] [d]) (hd:d.flat=true):LawArg P h t (.v [{n:=none,out:=none}]) v [d]:=by
 refine ⟨[{n:=none,out:=none}],[v],rfl,by rw[ha];rfl,rfl,rfl,fun o c d' x hc hd' hx=> ?_⟩
 cases o with
 |zero=>
  simp at hc hd' hx
  subst hc hd' hx
  cases hr with
  |cons h1 _=>exact ⟨rfl, .inl ⟨rfl,hd⟩,h1⟩
 |succ o=>simp at hc
theorem table_run {P:Program} {sigs:Nat→Option Sig} {Tb:Nat→Option TFn} {X:Env} (hm:P.follows .mixedOrders=true) (hT:∀f sig,sigs f=some sig→GoodF P sigs Tb X f sig) {f:Nat} {sig:Sig} (hs:sigs f=some sig) {ds:List (List D)} {r:List (List D)} (hF:runF Tb X f ds=some r):
  ∃F:List (List D)→Option (List (List D)),Meets P f sig F∧F ds=some r:=by
 obtain ⟨n,hn⟩:=(run_iff Tb X).1 hF
 exact ⟨_,table_meets hm hT n f sig hs,hn⟩
end Go.Own
