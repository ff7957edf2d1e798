/- A part of the proof that the last text of this folder tells of. -/
import Derived.Test.YthdgipjkbmmaoaaGreatDoorTaa
import Derived.Great.BuildSlice
import Derived.Laws.Tables
import Derived.Deep.AppendSrc
import Derived.Laws.StructEq
import Derived.WalkSpells
import Derived.Laws.BytesString
import Derived.Lib.ItoaNum
import Derived.Lib.LaidTab
namespace Go.Own
open Go
section ops
variable {k:K} {env:Env} {g:G} {m:M} {cx:Cx} {dst:Nat} {σ':St} {o:Oper} {r:Res}
theorem eptr_fact (hr:Rel k g m) {t s q v i iv off sz:Nat} {w:List (Nat×Nat×Nat)} (he':g.ent t= .eptr s q v w i iv off sz) (hp:m.σ t≠[]) (hl:curL g s v w=true) (hv:g.ver i=iv):
  ∃d0 v0 ix rows b off1 len cap n,root g m s q=some (d0,v0)∧wayOf m.σ (wayW w)=some ix∧
   loc m.h m.col s q [] d0 v0 ix=some (.sl sz rows, .slice (some ⟨b,off1,none⟩) len cap)∧idxOf m.σ i=some n∧n<len∧m.c t= .pointer (some ⟨b,off1+n*sz+off,none⟩):=by
 have:=hr.ent t
 rw[he'] at this
 rcases this with h|h
 ·exact absurd h hp
 ·exact h hl hv
theorem tch_ver_ne {dst x:Nat} {e:Ent} (h:x≠dst):(g.tch dst e).ver x=g.ver x:=Turn.ver_ne .tch h
theorem efield_did (hr:Rel k g m) (hf:Fits cx g dst) {ty:TypeId} {a f s q v i iv off sz:Nat} {w:List (Nat×Nat×Nat)} (ho:o.op= .fieldAddr ty (.tmp a) f) {p:Nat×Nat} (hfld:fieldOf cx.P ty f=some p)
  (he':g.ent a= .eptr s q v w i iv off sz) (hp:m.σ a≠[]) (hl:curL g s v w=true) (hv:g.ver i=iv) (hs:s≠dst) (hi:i≠dst) (hw:∀y∈w,y.1≠dst)
  (he:evIs env (here dst) m.σ=some σ'):Did cx k g m ⟨here dst,g.tch dst (.eptr s q v w i iv (off+p.1) sz),[]⟩ σ' o dst:=by
 rw[here_ev he]
 obtain ⟨d0,v0,ix,rows,b,off1,len,cap,n,h1,h2,h3,h4,h5,h6⟩:=eptr_fact hr he' hp hl hv
 refine .pure _ _ (fun w'=>fieldAt_run ho hfld h6 w') (here_step hr hf ⟨⟨(curL_le hl).older (Turn.older .tch g dst _),?_⟩, .inr fun _ _=> ?_⟩)
 ·rw[tch_ver_ne hi,hv];exact Nat.le_refl _
 ·refine ⟨d0,v0,ix,rows,b,off1,len,cap,n,by rw[root_laid hs];exact h1,by show wayOf (m.σ.upd dst _) _=_;rw[way_upd hw];exact h2,loc_laid hs h3,?_,h5,by simp[updC,Nat.add_assoc]⟩
  unfold idxOf at h4 ⊢
  simp only[St.upd,hi,if_false]
  exact h4
theorem val_step (hr:Rel k g m) (hf:Fits cx g dst) {ts:List Tag} {ds:List D} {vs:List Value} {sh:Shape} {x:Value} (hv:cellsV sh x=some vs) (hlen:ds.length=ts.length) (hlen2:vs.length=ts.length)
  (hone:∀v∈vs,v.oneCell'=true) (hL:∀(o:Nat) (t:Tag) (d:D) (x:Value),ts[o]? =some t→ds[o]? =some d→vs[o]? =some x→LayOk k g m PAR o d x t) (hwf:∀t∈ts,TagWf g t):
  Step k g m (g.tch dst (.val sh (ts.map (frzTag dst)))) ⟨m.σ.upd dst ds,updC m.c dst x,m.h,laidCol m.col dst PAR ts.length fun _=> .free⟩ (TT cx dst []):=by
 have:=lay_step hr (dst:=dst) (v:=PAR) (Nat.le_refl _) (by rw[hf.len];have:=hf.dst;omega) (ts:=ts) (ds:=ds) (vs:=vs) (cv:=x) hlen hlen2 hone hL hwf .none (.val sh (ts.map (frzTag dst))) rfl
  (fun hc=> .inr ⟨vs,by simp[updC,hv],hc⟩)
 refine this.mono hr fun y hy=> ?_
 unfold TT
 rcases hy with hy|hy
 ·exact .inr (.inl hy)
 ·exact .inr (.inr (.inr hy))
theorem flat_of {ts:List Tag} {ds:List D} (h:Own.flat (flOf ts) ds=true) {i:Nat} {t:Tag} {d:D} (h1:ts[i]? =some t) (h2:ds[i]? =some d):d.flat=isScT t:=
 flat_get h (i:=i) (b:=isScT t) (by simp[flOf,h1]) h2
theorem set_ev {xs:List Src} {fl:List Bool} (he:evIs env [.set dst xs fl] m.σ=some σ'):∃ds,evs m.σ xs=some ds∧Own.flat fl ds=true∧σ'=m.σ.upd dst ds:=by
 have he:=evIs_one he
 simp only[I.ev,zA] at he
 obtain ⟨ds,h1,h2⟩:=he
 split at h2
 ·rename_i hf
  cases h2
  exact ⟨ds,h1,hf,rfl⟩
 ·cases h2
theorem info_of {P:Program} {t:TypeId} {ks:List CK} (h:kinds P t=some ks):∃u i,P.underlying t=some u∧P.info? t=some i:=by
 unfold kinds at h
 unfold kindsAt at h
 cases hu:P.underlying t with
 |none=>rw[hu] at h;simp at h
 |some u=>
  unfold Program.underlying at hu
  cases hi:P.info? t with
  |none=>rw[hi] at hu;simp at hu
  |some i=>exact ⟨u,i,rfl,rfl⟩
theorem loadOp_run {ty:TypeId} {ks:List CK} (hk:kinds cx.P ty=some ks) (hn:cx.P.cellsOf ty=ks.length) {t:Nat} (ho:o.op= .load ty (.tmp t)) {b off:Nat} (hc:m.c t= .pointer (some ⟨b,off,none⟩))
  {cs:Array Value} {tb:Nat} {fr:Nat×Nat} (hb:m.h[b]? =some (.cells cs tb fr)) (hle:off+ks.length≤cs.size):
  ∃v,(∀w:World,w.heap=m.h→(execOp (vl m) o).run cx.P w= .ok (.value v) w)∧cellsV (shapeOf cx.P ty) v=some (cellsAt cs off ks.length):=by
 obtain ⟨u,i,hu,hi⟩:=info_of hk
 have hsize:i.size=ks.length:=by rw[← hn];unfold Program.cellsOf;rw[hi];rfl
 have h1:isAggB cx.P ty=false→ks.length=1:=fun h=>kinds_one hk h
 by_cases ha:isAggB cx.P ty=true
 ·refine ⟨.agg (cellsAt cs off ks.length).toArray,fun w hw=> ?_,by unfold shapeOf;rw[if_pos ha];simp[cellsV]⟩
  obtain ⟨v,h2,h3⟩:=load_run (P:=cx.P) (w:=w) (by rw[hw];exact hb) hu hi hsize hle h1
  have:v= .agg (cellsAt cs off ks.length).toArray:=by
   unfold shapeOf at h3
   rw[if_pos ha] at h3
   cases v<;>simp[cellsV] at h3
   rw[← h3]
  rw[this] at h2
  simp[execOp,ho,vl,hc,h2]
 ·refine ⟨cs.getD off undef,fun w hw=> ?_,?_⟩
  ·obtain ⟨v,h2,h3⟩:=load_run (P:=cx.P) (w:=w) (by rw[hw];exact hb) hu hi hsize hle h1
   have:v=cs.getD off undef:=by
    unfold shapeOf at h3
    rw[if_neg ha] at h3
    simp[cellsV,cellsAt,h1 (by simpa using ha)] at h3
    simpa using h3
   rw[this] at h2
   simp[execOp,ho,vl,hc,h2]
  ·unfold shapeOf
   rw[if_neg ha]
   simp[cellsV,cellsAt,h1 (by simpa using ha)]
theorem rptrTags_get {t:Nat} {rs:Rts}:∀{ks:List CK} {j i:Nat},(rptrTags t rs j ks)[i]? =(ks[i]?).map fun k=>(if k.isFlat then Tag.sc else Tag.own 0 rs,Src.c t (j+i)):=by
 intro ks
 induction ks with
 |nil=>intro j i;simp[rptrTags]
 |cons k ks ih=>
  intro j i
  cases i with
  |zero=>simp[rptrTags]
  |succ i=>
   simp only[rptrTags,List.getElem?_cons_succ]
   rw[ih]
   have:j+1+i=j+(i+1):=by omega
   rw[this]
theorem rptrTags_len {t:Nat} {rs:Rts}:∀{ks:List CK} {j:Nat},(rptrTags t rs j ks).length=ks.length:=by
 intro ks
 induction ks with
 |nil=>intro j;rfl
 |cons k ks ih=>intro j;simp[rptrTags,ih]
theorem load_rptr_did (hr:Rel k g m) (hf:Fits cx g dst) {ty:TypeId} {ks:List CK} (hk:kinds cx.P ty=some ks) (hn:cx.P.cellsOf ty=ks.length) (hn0:ks.length≠0) {t off:Nat} {rs:Rts} (ho:o.op= .load ty (.tmp t)) (he':g.ent t= .rptr rs off)
  (hp:m.σ t≠[]) (hcur:curR g rs=true) (hrd:∀r∈rs,r.1≠dst)
  (he:evIs env [.set dst ((rptrTags t rs off ks).map (·.2)) (flOf ((rptrTags t rs off ks).map (·.1)))] m.σ=some σ'):
  Did cx k g m ⟨[.set dst ((rptrTags t rs off ks).map (·.2)) (flOf ((rptrTags t rs off ks).map (·.1)))],g.tch dst (.val (shapeOf cx.P ty) ((rptrTags t rs off ks).map (·.1))),[]⟩ σ' o dst:=by
 obtain ⟨ds,hds,hfl,rfl⟩:=set_ev he
 have hE:=hr.ent t
 rw[he'] at hE
 rcases hE with hE|hE
 ·exact absurd hE hp
 obtain ⟨b,o0,cs,tb,fr,h1,h2,h3,h4,h5⟩:=hE hcur
 obtain ⟨hdl,hdg⟩:=evs_get hds
 have hlen:ds.length=ks.length:=by rw[hdl];simp[rptrTags_len]
 have hd:∀j,j<ks.length→∃d,ds[j]? =some d∧(m.σ t)[off+j]? =some d:=fun j hj=>by
  have hkj:ks[j]? =some ks[j]:=zB hj
  obtain ⟨d,a1,a2⟩:=hdg j (.c t (off+j)) (by rw[zK,rptrTags_get,hkj];rfl)
  exact ⟨d,a1,a2⟩
 have hle:o0+off+ks.length≤cs.size:=by
  obtain ⟨d,a1,a2⟩:=hd (ks.length-1) (by omega)
  have hlt:off+(ks.length-1)<(m.σ t).length:=by
   rcases zJ (off+(ks.length-1)) (m.σ t).length with h'|h'
   ·exact h'
   ·rw[zG h'] at a2;cases a2
  omega
 obtain ⟨v,hrun,hcv⟩:=loadOp_run hk hn ho h2 h1 hle
 have hO:∀j,j<ks.length→∀d,ds[j]? =some d→O m.h (fun _=>deepOk k m.col rs) d (cs.getD (o0+off+j) undef):=fun j hj d hdj=>by
  obtain ⟨d',a1,a2⟩:=hd j hj
  rw[hdj] at a1
  cases a1
  have:=h5 (off+j) d a2
  rwa [← Nat.add_assoc] at this
 have hts:((rptrTags t rs off ks).map (·.1)).map (frzTag dst)=(rptrTags t rs off ks).map (·.1):=by
  apply List.ext_getElem?
  intro j
  simp only[List.map_map,zK,rptrTags_get]
  cases ks[j]? with
  |none=>rfl
  |some kk=>
   simp only[Option.map_some,Function.comp]
   congr 1
   split
   ·rfl
   ·exact frz_id hrd
 have:=val_step hr hf (ts:=(rptrTags t rs off ks).map (·.1)) (ds:=ds) (vs:=cellsAt cs (o0+off) ks.length) (sh:=shapeOf cx.P ty) (x:=v) hcv (by simp[rptrTags_len,hlen]) (by simp[rptrTags_len,cellsAt_len])
  (fun x hx=>by
   obtain ⟨j,hj⟩:=zP hx
   have hjl:j<ks.length:=by
    rcases zJ j ks.length with h'|h'
    ·exact h'
    ·rw[zG (by rw[cellsAt_len];exact h')] at hj;cases hj
   rw[cellsAt_get hjl] at hj
   cases hj
   obtain ⟨d,a1,_⟩:=hd j hjl
   exact (hO j hjl d a1).one)
  (fun j tg d x a1 a2 a3=>by
   rw[zK,rptrTags_get] at a1
   cases hkj:ks[j]? with
   |none=>rw[hkj] at a1;simp at a1
   |some kk=>
    have hjl:j<ks.length:=by
     rcases zJ j ks.length with h'|h'
     ·exact h'
     ·rw[zG h'] at hkj;cases hkj
    rw[cellsAt_get hjl] at a3
    cases a3
    rw[hkj] at a1
    simp at a1
    have hh:=hO j hjl d a2
    by_cases hkf:kk.isFlat=true
    ·rw[if_pos hkf] at a1
     subst a1
     have hfd:=flat_of hfl (i:=j) (t:= .sc) (by rw[zK,rptrTags_get,hkj];simp[hkf]) a2
     exact ⟨hfd,hh.flat hfd⟩
    ·rw[if_neg hkf] at a1
     subst a1
     exact ⟨flat_of hfl (i:=j) (t:= .own 0 rs) (by rw[zK,rptrTags_get,hkj];simp[hkf]) a2,hcur,hh.mono fun π b' hb'=>by unfold gl;rw[owns_zero];simpa using hb'⟩)
  (fun tg htg=>by
   rw[List.mem_map] at htg
   obtain ⟨p,hp1,rfl⟩:=htg
   obtain ⟨j,hj⟩:=zP hp1
   rw[rptrTags_get] at hj
   cases hkj:ks[j]? with
   |none=>rw[hkj] at hj;simp at hj
   |some kk=>
    rw[hkj] at hj
    simp at hj
    subst hj
    simp only
    split
    ·trivial
    ·intro q hq;exact Nat.le_of_eq (curR_iff.1 hcur q hq).symm)
 rw[hts] at this
 exact .pureH (.inl (by simp[ho,isLoad])) v _ hrun this
theorem wayOf_snoc {σ:St} {i j n:Nat} (hi:idxOf σ i=some n):∀{w ix:List (Nat×Nat)},wayOf σ w=some ix→wayOf σ (w++[(i,j)])=some (ix++[(n,j)]):=by
 intro w
 induction w with
 |nil=>intro ix h;simp[wayOf] at h;subst h;simp[wayOf,hi]
 |cons p w ih=>
  obtain ⟨r,q⟩:=p
  intro ix h
  simp only[wayOf] at h
  split at h
  ·rename_i a l h1 h2
   cases h
   simp only[List.cons_append,wayOf,h1,ih h2]
  ·cases h
theorem wayW_snoc {w:List (Nat×Nat×Nat)} {i iv j:Nat}:wayW (w++[(i,iv,j)])=wayW w++[(i,j)]:=by simp[wayW]
theorem at_snoc {n j:Nat} {sz:Nat} {rows:List (List D)}:∀{ix:List (Nat×Nat)} {d:D},d.at ix=some (.sl sz rows)→d.at (ix++[(n,j)])=cellAt rows n j:=by
 intro ix
 induction ix with
 |nil=>
  intro d h
  simp[D.at] at h
  subst h
  simp only[List.nil_append,D.at]
  cases cellAt rows n j<;>rfl
 |cons p ix ih=>
  obtain ⟨a,q⟩:=p
  intro d h
  cases d<;>simp only[D.at] at h<;>try cases h
  split at h
  ·rename_i d' hc
   simp only[List.cons_append,D.at,hc]
   exact ih h
  ·cases h
theorem loc_one {h:Array Obj} {col:Nat→Color} {s q:Nat} {π:List (Nat×Nat)} {sz n j b off len cap:Nat} {rows:List (List D)} {d:D} {cs:Array Value} {ty:Nat} {fr:Nat×Nat}
  (hok:okB col s q π b=true) (hc:cellAt rows n j=some d) (hb:h[b]? =some (.cells cs ty fr)):
  loc h col s q π (.sl sz rows) (.slice (some ⟨b,off,none⟩) len cap) [(n,j)]=some (d,cs.getD (off+n*sz+j) undef):=by
 simp only[loc,hok,if_true,hc,hb]
theorem elemTags_get {g:G} {s q i iv n:Nat} {w:List (Nat×Nat×Nat)} {rs:Rts}:∀{ks:List CK} {j p:Nat},(elemTags g s q w i iv n rs j ks)[p]? =(ks[p]?).map fun k=>
  if k.isFlat then (Tag.sc,Src.p s q (wayW w++[(i,j+p)])) else if owns n (w.length+1) then (.loan s q (g.dv s) (w++[(i,iv,j+p)]), .p s q (wayW w++[(i,j+p)])) else (.own 0 rs, .p s q (wayW w++[(i,j+p)])):=by
 intro ks
 induction ks with
 |nil=>intro j p;simp[elemTags]
 |cons k ks ih=>
  intro j p
  cases p with
  |zero=>cases k<;>simp[elemTags,CK.isFlat]
  |succ p=>
   simp only[elemTags,List.getElem?_cons_succ]
   rw[ih]
   have:j+1+p=j+(p+1):=by omega
   rw[this]
theorem elemTags_len {g:G} {s q i iv n:Nat} {w:List (Nat×Nat×Nat)} {rs:Rts}:∀{ks:List CK} {j:Nat},(elemTags g s q w i iv n rs j ks).length=ks.length:=by
 intro ks
 induction ks with
 |nil=>intro j;rfl
 |cons k ks ih=>intro j;simp[elemTags,ih]
theorem load_eptr (hr:Rel k g m) (hf:Fits cx g dst) {ty:TypeId} {ks:List CK} (hk:kinds cx.P ty=some ks) (hn:cx.P.cellsOf ty=ks.length) {t s q v i iv off sz:Nat} {w:List (Nat×Nat×Nat)} (ho:o.op= .load ty (.tmp t))
  (he':g.ent t= .eptr s q v w i iv off sz) (hp:m.σ t≠[]) (hl:curL g s v w=true) (hv:g.ver i=iv) (hoff:off+ks.length≤sz) {n:Nat} {rs:Rts} (how:ownAt g s q=some (n,rs)) (hown:owns n w.length=true)
  (hrd:∀r∈rs,r.1≠dst)
  (he:evIs env [.set dst ((elemTags g s q w i iv n rs off ks).map (·.2)) (flOf ((elemTags g s q w i iv n rs off ks).map (·.1)))] m.σ=some σ'):
  ∃v,(∀w:World,w.heap=m.h→(execOp (vl m) o).run cx.P w= .ok (.value v) w)∧
   Step k g m (g.tch dst (.val (shapeOf cx.P ty) ((elemTags g s q w i iv n rs off ks).map (·.1)))) ⟨σ',updC m.c dst v,m.h,laidCol m.col dst PAR ((elemTags g s q w i iv n rs off ks).map (·.1)).length fun _=> .free⟩ (TT cx dst []):=by
 obtain ⟨ds,hds,hfl,rfl⟩:=set_ev he
 obtain ⟨d0,v0,ix,rows,b,off1,len,cap,nn,g1,g2,g3,g4,g5,g6⟩:=eptr_fact hr he' hp hl hv
 obtain ⟨_,tsr,_,_,hcur⟩:=ownAt_ok how
 have hσs:(m.σ s)[q]? =some d0:=by
  unfold root at g1
  split at g1
  ·rename_i e _;simp at g1;rw[← g1.1];exact e
  ·cases g1
 have hO:=O.at ix [] (root_own hr g1 how) g3
 have hsl:=hO.slice
 obtain ⟨a1,cap1,hsl1,_,_⟩:=hsl
 have hlen:len=rows.length:=by injection hsl1
 have hrow:rows[nn]? =some rows[nn]:=zB (by omega)
 obtain ⟨b',off',cap',cs,tb,fr,hx,hb,hg,hrl,_,hle,hcell⟩:=hO.row hrow
 injection hx with hx1 hx2 hx3
 injection hx1 with hx1
 injection hx1 with hx1 hx4 hx5
 subst hx1 hx4
 have hixl:ix.length=w.length:=by rw[wayOf_len g2,wayW_len]
 have hb0:m.col b= .arr s q ix:=by
  have hg':gd k m.col s q n rs (ix++[]) b:=hg
  unfold gd at hg'
  simp only[List.append_nil,hixl,hown,if_true] at hg'
  exact hg'
 have hok:okB m.col s q ([]++ix) b=true:=by
  unfold okB
  simp[hb0]
 obtain ⟨hdl,hdg⟩:=evs_get hds
 have hdlen:ds.length=ks.length:=by rw[hdl];simp[elemTags_len]
 have hcellAt:∀j,j<ks.length→∃d,cellAt rows nn (off+j)=some d∧rows[nn][off+j]? =some d:=fun j hj=>by
  have hlt:off+j<rows[nn].length:=by rw[hrl];omega
  exact ⟨rows[nn][off+j],by simp[cellAt,hrow,zB hlt],zB hlt⟩
 have hat:∀j d,cellAt rows nn (off+j)=some d→d0.at (ix++[(nn,off+j)])=some d:=fun j d h=>by rw[at_snoc (loc_at ix [] g3)];exact h
 have hway:∀j,wayOf m.σ (wayW w++[(i,off+j)])=some (ix++[(nn,off+j)]):=fun j=>wayOf_snoc g4 g2
 have hsrc:∀j d,cellAt rows nn (off+j)=some d→(Src.p s q (wayW w++[(i,off+j)])).ev m.σ=some d:=fun j d h=>by
  simp only[Src.ev,hσs,hway]
  exact hat j d h
 have hval:off1+nn*sz+off+ks.length≤cs.size:=by omega
 obtain ⟨val,hrun,hcv⟩:=loadOp_run hk hn ho g6 hb hval
 refine ⟨val,hrun,?_⟩
 have hOj:∀j d,j<ks.length→cellAt rows nn (off+j)=some d→O m.h (fun π b=>gd k m.col s q n rs (ix++(nn,off+j)::π) b) d (cs.getD (off1+nn*sz+off+j) undef):=fun j d hj h=>by
  obtain ⟨d',c1,c2⟩:=hcellAt j hj
  rw[h] at c1
  cases c1
  have:=hcell (off+j) d c2
  rwa [← Nat.add_assoc] at this
 have hts:((elemTags g s q w i iv n rs off ks).map (·.1)).map (frzTag dst)=(elemTags g s q w i iv n rs off ks).map (·.1):=by
  apply List.ext_getElem?
  intro j
  simp only[List.map_map,zK,elemTags_get]
  cases ks[j]? with
  |none=>rfl
  |some kk=>
   simp only[Option.map_some,Function.comp]
   congr 1
   split
   ·rfl
   ·split
    ·rfl
    ·exact frz_id hrd
 have klt:∀{j:Nat} {kk:CK},ks[j]? =some kk→j<ks.length:=fun {j kk} h=>by
  rcases zJ j ks.length with h'|h'
  ·exact h'
  ·rw[zG h'] at h;cases h
 have:=val_step hr hf (ts:=(elemTags g s q w i iv n rs off ks).map (·.1)) (ds:=ds) (vs:=cellsAt cs (off1+nn*sz+off) ks.length) (sh:=shapeOf cx.P ty) (x:=val) hcv (by simp[elemTags_len,hdlen]) (by simp[elemTags_len,cellsAt_len])
  (fun x hx=>by
   obtain ⟨j,hj⟩:=zP hx
   have hjl:j<ks.length:=by
    rcases zJ j ks.length with h'|h'
    ·exact h'
    ·rw[zG (by rw[cellsAt_len];exact h')] at hj;cases hj
   rw[cellsAt_get hjl] at hj
   cases hj
   obtain ⟨d,c1,_⟩:=hcellAt j hjl
   exact (hOj j d hjl c1).one)
  (fun j tg d x a1 a2 a3=>by
   rw[zK,elemTags_get] at a1
   cases hkj:ks[j]? with
   |none=>rw[hkj] at a1;simp at a1
   |some kk=>
    have hjl:=klt hkj
    rw[cellsAt_get hjl] at a3
    cases a3
    rw[hkj] at a1
    simp only[Option.map_some,Option.some.injEq] at a1
    obtain ⟨d',c1,_⟩:=hcellAt j hjl
    have hO':=hOj j d' hjl c1
    have hev:∀p:Tag×Src,(elemTags g s q w i iv n rs off ks)[j]? =some p→p.2.ev m.σ=some d:=fun p hp'=>by
     obtain ⟨d2,e1,e2⟩:=hdg j p.2 (by rw[zK,hp'];rfl)
     rw[a2] at e1
     cases e1
     exact e2
    by_cases hkf:kk.isFlat=true
    ·rw[if_pos hkf] at a1
     subst a1
     have hd:=hev (Tag.sc,Src.p s q (wayW w++[(i,off+j)])) (by rw[elemTags_get,hkj];simp[hkf])
     rw[hsrc j d' c1] at hd
     obtain rfl:=zU hd
     have hfd:=flat_of hfl (i:=j) (t:= .sc) (by rw[zK,elemTags_get,hkj];simp[hkf]) a2
     exact ⟨hfd,hO'.flat hfd⟩
    ·rw[if_neg hkf] at a1
     by_cases how2:owns n (w.length+1)=true
     ·rw[if_pos how2] at a1
      subst a1
      intro _
      have hd:=hev (Tag.loan s q (g.dv s) (w++[(i,iv,off+j)]),Src.p s q (wayW w++[(i,off+j)])) (by rw[elemTags_get,hkj];simp[hkf,how2])
      rw[hsrc j d' c1] at hd
      obtain rfl:=zU hd
      refine ⟨d0,v0,ix++[(nn,off+j)],d',g1,by rw[wayW_snoc];exact hway j,?_,flat_of hfl (i:=j) (t:= .loan s q (g.dv s) (w++[(i,iv,off+j)])) (by rw[zK,elemTags_get,hkj];simp[hkf,how2]) a2⟩
      rw[loc_append ix _ [] g3]
      have:=loc_one (len:=len) (cap:=cap) hok c1 hb (off:=off1) (sz:=sz)
      rwa [← Nat.add_assoc] at this
     ·rw[if_neg how2] at a1
      subst a1
      have hd:=hev (Tag.own 0 rs,Src.p s q (wayW w++[(i,off+j)])) (by rw[elemTags_get,hkj];simp[hkf,how2])
      rw[hsrc j d' c1] at hd
      obtain rfl:=zU hd
      refine ⟨flat_of hfl (i:=j) (t:= .own 0 rs) (by rw[zK,elemTags_get,hkj];simp[hkf,how2]) a2,hcur,hO'.mono fun π b' hb'=> ?_⟩
      unfold gl
      rw[owns_zero]
      simp only[Bool.false_eq_true,if_false]
      unfold gd at hb'
      split at hb'
      ·rename_i ho'
       exact absurd (owns_mono ho' (by simp;omega)) how2
      ·exact hb')
  (fun tg htg=>by
   rw[List.mem_map] at htg
   obtain ⟨p,hp1,rfl⟩:=htg
   obtain ⟨j,hj⟩:=zP hp1
   rw[elemTags_get] at hj
   cases hkj:ks[j]? with
   |none=>rw[hkj] at hj;simp at hj
   |some kk=>
    rw[hkj] at hj
    simp only[Option.map_some,Option.some.injEq] at hj
    subst hj
    split
    ·trivial
    ·split
     ·refine ⟨by simp,fun y hy=> ?_⟩
      rcases zT.1 hy with hy|hy
      ·exact (curL_le hl).2 y hy
      ·simp at hy
       subst hy
       exact Nat.le_of_eq hv.symm
     ·intro r hr';exact Nat.le_of_eq (curR_iff.1 hcur r hr').symm)
 rw[hts] at this
 exact this
end ops
theorem CelsOk.cut {k:K} {g:G} {m:M} {cs:List Cel} {vs:List Value} (h:CelsOk k g m cs vs) (a n:Nat):CelsOk k g m ((cs.drop a).take n) ((vs.drop a).take n):=by
 refine ⟨by simp[h.1],fun i c hc=> ?_⟩
 rw[List.getElem?_take] at hc
 split at hc
 ·rename_i hi
  rw[List.getElem?_drop] at hc
  obtain ⟨x,h1,h2⟩:=h.2 (a+i) c hc
  exact ⟨x,by rw[List.getElem?_take,if_pos hi,List.getElem?_drop];exact h1,h2⟩
 ·cases hc
theorem CelsOk.one {k:K} {g:G} {m:M} {cs:List Cel} {vs:List Value} (h:CelsOk k g m cs vs):∀v∈vs,v.oneCell'=true:=by
 intro v hv
 obtain ⟨i,hi⟩:=zP hv
 have hlt:i<vs.length:=by
  rcases zJ i vs.length with h'|h'
  ·exact h'
  ·rw[zG h'] at hi;cases hi
 have hlt2:i<cs.length:=by rw[← h.1];exact hlt
 obtain ⟨x,h1,h2⟩:=h.2 i cs[i] (zB hlt2)
 rw[hi] at h1
 cases h1
 exact h2.one
theorem cells_of {P:Program} {t:TypeId} {v:Value} {vs:List Value} (h:cellsV (shapeOf P t) v=some vs) (h1:∀v∈vs,v.oneCell'=true):v.cells=vs.toArray:=by
 unfold shapeOf at h
 split at h
 ·cases v<;>simp[cellsV] at h
  rw[← h]
  simp[Value.cells]
 ·simp[cellsV] at h
  subst h
  have:=h1 v (by simp)
  cases v<;>first|rfl|simp[Value.oneCell'] at this
theorem cellsAt_eq {cs:Array Value} {off n:Nat} (h:off+n≤cs.size):cellsAt cs off n=(cs.toList.drop off).take n:=by
 apply List.ext_getElem?
 intro j
 by_cases hj:j<n
 ·rw[cellsAt_get hj,List.getElem?_take,if_pos hj,List.getElem?_drop]
  have:off+j<cs.size:=by omega
  simp[Array.getD,this]
 ·rw[zG (by rw[cellsAt_len];omega),List.getElem?_take,if_neg hj]
section ops
variable {k:K} {env:Env} {g:G} {m:M} {cx:Cx} {dst:Nat} {σ':St} {o:Oper} {r:Res}
theorem val_did (hr:Rel k g m) (hf:Fits cx g dst) {lo:Bool} {cs:List Cel} {vs:List Value} {sh:Shape} {x:Value} (h:Own.lay cx g dst lo cs (fun ts=> .val sh ts)=some r) (hcs:CelsOk k g m cs vs)
  (hv:cellsV sh x=some vs) (hrun:∀w:World,(execOp (vl m) o).run cx.P w= .ok (.value x) w) (he:evIs env r.is m.σ=some σ'):Did cx k g m r σ' o dst:=by
 obtain ⟨col',hs,_⟩:=lay_ok hr hf h hcs he (fun ts=>rfl) (NewOk.none (k:=k) (m:=m) (dst:=dst)) x (fun g' m' ts h1 h2 h3 h4=> .inr ⟨vs,by rw[h1];exact hv,h4⟩)
 exact .pure x col' hrun hs
theorem copy_val_did (hr:Rel k g m) (hf:Fits cx g dst) {lo:Bool} {t:Nat} {sh:Shape} {ts:List Tag} (ho:o.op= .move (.tmp t)∨o.op= .assign (.tmp t)) (he':g.ent t= .val sh ts) (hp:m.σ t≠[])
  (h:Own.lay cx g dst lo (celsOf t ts) (fun ts=> .val sh ts)=some r) (he:evIs env r.is m.σ=some σ'):Did cx k g m r σ' o dst:=by
 obtain ⟨vs,h1,h2⟩:=celsOf_ok hr (s:=t) (ts:=ts) (by rw[he'];rfl) hp
 rw[he'] at h1
 refine val_did hr hf h h2 h1 (fun w=> ?_) he
 rcases ho with ho|ho<;>simp[execOp,ho,vl]
theorem copy_any_did (hr:Rel k g m) (hf:Fits cx g dst) {lo:Bool} {ty:TypeId} {x:Operand} {y:Shape×List Cel} (ho:o.op= .move x∨o.op= .assign x) (hc:cels cx.P g ty x=some y) (hp:Here m x)
  (h:Own.lay cx g dst lo y.2 (fun ts=> .val y.1 ts)=some r) (he:evIs env r.is m.σ=some σ'):Did cx k g m r σ' o dst:=by
 obtain ⟨vs,h1,h2⟩:=cels_ok hr hc hp
 refine val_did hr hf h h2 h1 (fun w=> ?_) he
 rcases ho with ho|ho<;>simp[execOp,ho]
theorem load_box_did (hr:Rel k g m) (hf:Fits cx g dst) {ty:TypeId} {ks:List CK} (hk:kinds cx.P ty=some ks) (hn:cx.P.cellsOf ty=ks.length) (hn0:ks.length≠0) {t b off:Nat} (ho:o.op= .load ty (.tmp t)) (hb:boxAt g t=some (b,off)) (hp:m.σ t≠[])
  (hlen:(((celsOf b (boxTags g b)).drop off).take ks.length).length=ks.length)
  (h:Own.lay cx g dst true (((celsOf b (boxTags g b)).drop off).take ks.length) (fun ts=> .val (shapeOf cx.P ty) ts)=some r)
  (he:evIs env (.chk b::r.is) m.σ=some σ'):Did cx k g m ⟨.chk b::r.is,r.g,r.t⟩ σ' o dst:=by
 simp only[evIs,I.ev,zA] at he
 obtain ⟨σ1,e1,he⟩:=he
 split at e1
 ·cases e1
 ·rename_i hne
  cases e1
  have hpb:m.σ b≠[]:=by intro e;rw[e] at hne;simp at hne
  obtain ⟨tb,ts,hent,hbox⟩:=boxAt_ok hr hb hp
  obtain ⟨blk,cs,h1,h2,h3,h4,h5⟩:=hbox hpb
  have hts:boxTags g b=ts:=by unfold boxTags;rw[hent]
  rw[hts] at h hlen
  obtain ⟨vs,c1,c2⟩:=celsOf_ok hr (s:=b) (ts:=ts) (by rw[hent];rfl) hpb
  have hvs:vs=cs.toList:=by
   rw[hent] at c1
   simp[conc,boxCells,h1,h4] at c1
   exact c1.symm
  subst hvs
  have hle:off+ks.length≤cs.size:=by
   have:=h5.1
   simp at this
   rw[List.length_take,List.length_drop,celsOf_len] at hlen
   omega
  obtain ⟨v,hrun,hcv⟩:=loadOp_run hk hn ho h2 h4 hle
  rw[cellsAt_eq hle] at hcv
  obtain ⟨col',hs,_⟩:=lay_ok hr hf h (c2.cut off ks.length) he (fun ts=>rfl) (NewOk.none (k:=k) (m:=m) (dst:=dst)) v (fun g' m' ts h1 h2 h3 h4=> .inr ⟨_,by rw[h1];exact hcv,h4⟩)
  exact .pureH (.inl (by simp[ho,isLoad])) v col' hrun hs
theorem newOk_box {k:K} {m:M} {dst:Nat} {cs:Array Value} {ty:Nat}:NewOk k m dst (m.h.push (.cells cs ty)) fun b=>if b=m.h.size then .box dst else .free:=by
 refine ⟨by simp,fun b hb=>by simp[Array.getElem?_push,Nat.ne_of_lt hb],fun b hb=> ?_,fun b h1 h2=> ?_⟩
 ·simp at hb
  have:b≠m.h.size:=by omega
  simp[this]
 ·simp at h2
  have:b=m.h.size:=by omega
  subst this
  exact .inr (.inr ⟨.inl (by simp),cs,ty,by simp⟩)
theorem box_did (hr:Rel k g m) (hf:Fits cx g dst) {lo:Bool} {t:TypeId} {x:Operand} {y:Shape×List Cel} (ho:o.op= .box t x) (hc:cels cx.P g t x=some y) (hsh:y.1=shapeOf cx.P t) (hp:Here m x)
  (h:Own.lay cx g dst lo y.2 (fun ts=> .box t ts)=some r) (he:evIs env r.is m.σ=some σ'):Did cx k g m r σ' o dst:=by
 obtain ⟨vs,h1,h2⟩:=cels_ok hr hc hp
 rw[hsh] at h1
 have hcells:=cells_of h1 h2.one
 refine ⟨?_,fun h1 _=>by simp[ho,quietB] at h1⟩
 intro w hw
 obtain ⟨col',hs,_⟩:=lay_ok hr hf h h2 he (fun ts=>rfl) (newOk_box (k:=k) (m:=m) (dst:=dst) (cs:=vs.toArray) (ty:=t)) (.pointer (some ⟨m.h.size,0,none⟩))
  (fun g' m' ts a1 a2 a3 a4=> .inr ⟨m.h.size,vs.toArray,a1,by rw[a3 _ (Nat.le_refl _)];simp,by rw[a2];simp,by simpa using a4⟩)
 refine ⟨_, .pointer (some ⟨m.h.size,0,none⟩),_,w.drawn,col', .inl rfl,?_,hs⟩
 simp[execOp,ho,Instr.box,newVar,newRow,newObj,Sem.run_bind,Sem.run,hcells,hw]
theorem alloc_did (hr:Rel k g m) (hf:Fits cx g dst) {t:TypeId} {z:List CK×List D} (ho:o.op= .alloc t) (hz:zeros cx.P t=some z) (he:evIs env [.set dst (z.2.map .cst) []] m.σ=some σ'):
  Did cx k g m ⟨[.set dst (z.2.map .cst) []],g.tch dst (.box t (z.2.map zeroTag)),[]⟩ σ' o dst:=by
 obtain ⟨ds,hds,_,rfl⟩:=set_ev he
 unfold zeros at hz
 simp only[zA,guardO_some,zD] at hz
 obtain ⟨ks,_,ds0,_,i,hi,v,hv,⟨⟨hfit,_⟩,_⟩,hz⟩:=hz
 cases hz
 have hds0:ds=ds0:=by
  obtain ⟨a1,a2⟩:=evs_get hds
  apply List.ext_getElem?
  intro j
  cases hj:ds0[j]? with
  |none=>
   rw[zG]
   rw[a1]
   simp
   rcases zJ j ds0.length with h'|h'
   ·rw[zB h'] at hj;cases hj
   ·exact h'
  |some d=>
   obtain ⟨d',b1,b2⟩:=a2 j (.cst d) (by rw[zK,hj];rfl)
   simp[Src.ev] at b2
   rw[b1,b2]
 subst hds0
 obtain ⟨hl,hz⟩:=zerosFit_get hfit
 have hzd:∀(j:Nat) (d:D) (x:Value),ds[j]? =some d→v.cells.toList[j]? =some x→d.isZeroOf x=true:=fun j d x h1 h2=>by
  obtain ⟨x',b1,b2⟩:=hz j d h1
  rw[h2] at b1
  cases b1
  exact b2
 have hd:dst<g.length:=by rw[hf.len];have:=hf.dst;omega
 have hts:(ds.map zeroTag).map (frzTag dst)=ds.map zeroTag:=by
  rw[List.map_map]
  apply List.map_congr_left
  intro d _
  simp only[Function.comp,zeroTag]
  split<;>rfl
 refine ⟨?_,fun h1 _=>by simp[ho,quietB] at h1⟩
 intro w hw
 have S:=lay_step hr (dst:=dst) (v:=PAR) (Nat.le_refl _) hd (ts:=ds.map zeroTag) (ds:=ds) (vs:=v.cells.toList) (cv:= .pointer (some ⟨m.h.size,0,none⟩)) (by simp) (by rw[hl];simp)
  (fun x hx=>by
   obtain ⟨j,hj⟩:=zP hx
   have hlt:j<ds.length:=by
    rw[← hl]
    rcases zJ j v.cells.toList.length with h'|h'
    ·exact h'
    ·rw[zG h'] at hj;cases hj
   exact (isZeroOf_ok (hzd j ds[j] x (zB hlt) hj) #[] fun _ _=>True).one)
  (fun j t d x a1 a2 a3=>by
   rw[zK,a2] at a1
   cases a1
   have:=hzd j d x a2 a3
   unfold zeroTag
   split
   ·rename_i hfl
    exact ⟨hfl,isZeroOf_ok this _ _⟩
   ·rename_i hfl
    exact ⟨by simpa using hfl,rfl,isZeroOf_ok this _ _⟩)
  (fun t ht=>by
   rw[List.mem_map] at ht
   obtain ⟨d,_,rfl⟩:=ht
   unfold zeroTag
   split
   ·trivial
   ·intro r hr';cases hr')
  (newOk_box (k:=k) (m:=m) (dst:=dst) (cs:=v.cells) (ty:=t)) (.box t ((ds.map zeroTag).map (frzTag dst))) rfl
  (fun hc=> .inr ⟨m.h.size,v.cells,by simp[updC],(laidCol_free (col:=m.col) (dst:=dst) (v:=PAR) (n:=(ds.map zeroTag).length) (new:=fun b=>if b=m.h.size then .box dst else .free) ((hr.mem.free _).1 (Nat.le_refl _))).trans (by simp),by simp,hc⟩)
 rw[hts] at S
 refine ⟨_, .pointer (some ⟨m.h.size,0,none⟩),_,w.drawn,_, .inl rfl,?_,S.mono hr fun y hy=> ?_⟩
 ·simp[execOp,ho,Instr.alloc,zeroValue,typeInfo,hi,hv,newVar,newRow,newObj,Sem.run_bind,Sem.run,hw]
  unfold World.alloc
  rw[hw]
 ·unfold TT
  rcases hy with hy|hy
  ·exact .inr (.inl hy)
  ·exact .inr (.inr (.inr hy))
theorem tupCells_get:∀{l:List (Bool×Nat)} {vs cells:List Value} {i n:Nat} {a:Bool},tupCells l vs=some cells→l[i]? =some (a,n)→
  ∃v,vs[i]? =some v∧cellsV (if a then .agg else .one) v=some ((cells.drop ((l.take i).map (·.2)).sum).take n):=by
 intro l
 induction l with
 |nil=>intro vs cells i n a _ h;simp at h
 |cons p l ih=>
  obtain ⟨a0,n0⟩:=p
  intro vs cells i n a h hi
  cases vs with
  |nil=>cases a0<;>simp[tupCells] at h
  |cons v vs=>
   cases a0 with
   |true=>
    cases v<;>simp only[tupCells] at h<;>try cases h
    rename_i cs
    split at h
    ·rename_i hsz
     rw[zC] at h
     obtain ⟨rest,h1,rfl⟩:=h
     cases i with
     |zero=>
      simp at hi
      obtain ⟨rfl,rfl⟩:=hi
      exact ⟨_,rfl,by simp[cellsV,← hsz]⟩
     |succ i=>
      obtain ⟨v,h2,h3⟩:=ih h1 (by simpa using hi)
      refine ⟨v,by simpa using h2,?_⟩
      rw[h3]
      simp only[List.take_succ_cons,List.map_cons,List.sum_cons]
      have:(cs.toList++rest).drop (n0+((l.take i).map (·.2)).sum)=rest.drop ((l.take i).map (·.2)).sum:=by
       rw[List.drop_append]
       simp[← hsz]
      rw[this]
    ·cases h
   |false=>
    simp only[tupCells] at h
    split at h
    ·rename_i hsz
     rw[zC] at h
     obtain ⟨rest,h1,rfl⟩:=h
     subst hsz
     cases i with
     |zero=>
      simp at hi
      obtain ⟨rfl,rfl⟩:=hi
      exact ⟨v,rfl,by simp[cellsV]⟩
     |succ i=>
      obtain ⟨v',h2,h3⟩:=ih h1 (by simpa using hi)
      refine ⟨v',by simpa using h2,?_⟩
      rw[h3]
      simp only[List.take_succ_cons,List.map_cons,List.sum_cons]
      have:(v::rest).drop (1+((l.take i).map (·.2)).sum)=rest.drop ((l.take i).map (·.2)).sum:=by
       rw[Nat.add_comm]
       rfl
      rw[this]
    ·cases h
theorem extract_did (hr:Rel k g m) (hf:Fits cx g dst) {t i:Nat} (ho:o.op= .extract (.tmp t) i) {l:List (Bool×Nat)} {ts:List Tag} (he':g.ent t= .val (.tup l) ts) (hp:m.σ t≠[]) {x:Bool×Nat} (hx:l[i]? =some x)
  (h:Own.lay cx g dst false (((celsOf t ts).drop ((l.take i).map (·.2)).sum).take x.2) (fun ts=> .val (if x.1 then .agg else .one) ts)=some r) (he:evIs env r.is m.σ=some σ'):Did cx k g m r σ' o dst:=by
 obtain ⟨vs,h1,h2⟩:=celsOf_ok hr (s:=t) (ts:=ts) (by rw[he'];rfl) hp
 rw[he'] at h1
 have hform:∃xs,m.c t= .tuple xs∧tupCells l xs.toList=some vs:=by
  simp only[conc] at h1
  generalize m.c t=y at h1
  cases y<;>simp[cellsV] at h1
  exact ⟨_,rfl,h1⟩
 obtain ⟨xs,hc,htc⟩:=hform
 obtain ⟨v,h3,h4⟩:=tupCells_get htc (a:=x.1) (n:=x.2) hx
 refine val_did hr hf h (h2.cut _ _) h4 (fun w=> ?_) he
 have h3':xs[i]? =some v:=by simpa using h3
 simp[execOp,ho,vl,hc,Instr.extract,h3']
end ops
theorem Step.limbo {k:K} {g:G} {m m':M} (hr:Rel k g m) (hσ:m'.σ=m.σ) (hc:m'.c=m.c) (hmem:Mem k m')
  (hcol:∀b,b<m.h.size→(∀v,(m.col b).own=some v→v<PAR)→m'.h[b]? =m.h[b]? ∧m'.col b=m.col b):Step k g m g m' (fun x=>PAR≤x):=by
 have hlt:∀b,m.col b≠ .free→b<m.h.size:=fun b hb=>by
  rcases zJ b m.h.size with h|h
  ·exact h
  ·exact absurd ((hr.mem.free b).1 h) hb
 have hnone:∀x,PAR≤x→g.ent x= .none:=fun x hx=>by
  have:=hr.small
  unfold G.ent;rw[at_out (by omega)]
 refine ⟨.refl g,rfl,fun b hb=> ?_,hmem,fun x hx=> ?_,fun x hx=> ?_,fun x hx=> ?_⟩
 ·have:=hcol b (hlt b (by rw[hb];simp)) (by rw[hb];simp[Color.own])
  exact ⟨this.1,this.2.trans hb⟩
 ·refine ⟨rfl,by rw[hc],by rw[hσ],fun b hb=>hcol b (hlt b fun e=>by rw[e] at hb;simp[Color.own] at hb) fun v hv=> ?_⟩
  rw[hb] at hv
  cases hv
  omega
 ·have hroot:∀(m1:M) o,root g m1 x o=none:=fun m1 o=>by
   unfold root
   rw[hnone x hx]
   simp[conc]
  refine ⟨fun _=>by rw[hc],fun _ o d v h=>(by rw[hroot] at h;cases h),fun _ o d v ix d1 v1 h=>(by rw[hroot] at h;cases h),fun _=>⟨by rw[hσ],fun o=>by rw[hroot,hroot],fun b o π hb=> ?_⟩⟩
  have:=(hr.mem.arr b x o π hb).1
  omega
 ·rw[hnone x hx];exact ⟨trivial,trivial⟩
def relim (col:Nat→Color) (to:Nat→List (Nat×Nat)→Color) (new:Nat→Color):Nat→Color:=fun b=>
 match col b with
 | .lim u π=>to u π
 | .free=>new b
 |c=>c
theorem relim_lim {col:Nat→Color} {to:Nat→List (Nat×Nat)→Color} {new:Nat→Color} {b u:Nat} {π:List (Nat×Nat)} (h:col b= .lim u π):relim col to new b=to u π:=by
 unfold relim;rw[h]
theorem relim_free {col:Nat→Color} {to:Nat→List (Nat×Nat)→Color} {new:Nat→Color} {b:Nat} (h:col b= .free):relim col to new b=new b:=by
 unfold relim;rw[h]
theorem relim_same {col:Nat→Color} {to:Nat→List (Nat×Nat)→Color} {new:Nat→Color} {b:Nat} (h:col b≠ .free) (h1:∀u π,col b≠ .lim u π):relim col to new b=col b:=by
 unfold relim
 split
 ·rename_i u π e;exact absurd e (h1 u π)
 ·rename_i e;exact absurd e h
 ·rfl
structure ReOk (k:K) (m:M) (h':Array Obj) (to:Nat→List (Nat×Nat)→Color) (new:Nat→Color):Prop where
 size:m.h.size≤h'.size
 old:∀b,b<m.h.size→h'[b]? =m.h[b]? ∨((∃u π,m.col b= .lim u π)∧∃cs ty,h'[b]? =some (.cells cs ty (0,0)))
 free:∀b,h'.size≤b→new b= .free
 own:∀b,m.h.size≤b→b<h'.size→(∃u π,PAR≤u∧new b= .lim u π)∧∃cs ty,h'[b]? =some (.cells cs ty (0,0))
 to:∀u π,to u π= .stable∨∃u' π',PAR≤u'∧to u π= .lim u' π'
theorem Mem.relim {k:K} {m:M} (h:Mem k m) {h':Array Obj} {to:Nat→List (Nat×Nat)→Color} {new:Nat→Color} (hn:ReOk k m h' to new) (σ':St) (c':Nat→Value):
  Mem k ⟨σ',c',h',Own.relim m.col to new⟩:=by
 have hk:∀b,m.h.size≤b→k.fresh b:=fun b hb e=>by
  have:=(h.kept b e).2
  rw[(h.free b).1 hb] at this
  cases this
 have hlt:∀b,m.col b≠ .free→b<m.h.size:=fun b hb=>by
  rcases zJ b m.h.size with h'|h'
  ·exact h'
  ·exact absurd ((h.free b).1 h') hb
 have keep:∀b,(∃cs ty,m.h[b]? =some (.cells cs ty (0,0)))→b<m.h.size→∃cs ty,h'[b]? =some (.cells cs ty (0,0)):=fun b hb hlt=>by
  rcases hn.old b hlt with e|⟨_,e⟩
  ·rw[e];exact hb
  ·exact e
 have cases4:∀b,(m.col b= .free∧h'.size≤b∧Own.relim m.col to new b= .free)∨(m.col b= .free∧b<h'.size∧(∃u π,PAR≤u∧Own.relim m.col to new b= .lim u π)∧∃cs ty,h'[b]? =some (.cells cs ty (0,0)))∨
   ((∃u π,m.col b= .lim u π)∧(Own.relim m.col to new b= .stable∨∃u π,PAR≤u∧Own.relim m.col to new b= .lim u π))∨(m.col b≠ .free∧(∀u π,m.col b≠ .lim u π)∧Own.relim m.col to new b=m.col b):=fun b=>by
  by_cases h1:m.col b= .free
  ·rcases zJ b h'.size with h2|h2
   ·obtain ⟨⟨u,π,h3,h4⟩,h5⟩:=hn.own b ((h.free b).2 h1) h2
    exact .inr (.inl ⟨h1,h2,⟨u,π,h3,by rw[relim_free h1,h4]⟩,h5⟩)
   ·exact .inl ⟨h1,h2,by rw[relim_free h1];exact hn.free b h2⟩
  ·by_cases h2:∃u π,m.col b= .lim u π
   ·refine .inr (.inr (.inl ⟨h2,?_⟩))
    obtain ⟨u,π,h2⟩:=h2
    rw[relim_lim h2]
    exact hn.to u π
   ·have h3:∀u π,m.col b≠ .lim u π:=fun u π e=>h2 ⟨u,π,e⟩
    exact .inr (.inr (.inr ⟨h1,h3,relim_same h1 h3⟩))
 refine ⟨zS h.size hn.size,fun b=> ?_,fun b s hb=> ?_,fun b s o π hb=> ?_,fun b u π hb=> ?_,fun b s hb=> ?_,fun b hb=> ?_⟩
 ·show h'.size≤b↔Own.relim m.col to new b= .free
  have hs:=hn.size
  rcases cases4 b with ⟨_,e1,e2⟩|⟨_,e1,⟨u,π,_,e2⟩,_⟩|⟨⟨u,π,e0⟩,e⟩|⟨e0,_,e⟩
  ·exact ⟨fun _=>e2,fun _=>e1⟩
  ·rw[e2];simp;omega
  ·have:=hlt b (by rw[e0];simp)
   rcases e with e|⟨u',π',_,e⟩<;>(rw[e];simp;omega)
  ·have:=hlt b e0
   rw[e];simp[e0];omega
 ·change (Own.relim m.col to new b).own=some s at hb
  rcases cases4 b with ⟨e0,_,e2⟩|⟨e0,_,_,_⟩|⟨⟨u,π,e0⟩,_⟩|⟨_,_,e⟩
  ·exact hk b ((h.free b).2 e0)
  ·exact hk b ((h.free b).2 e0)
  ·exact h.fresh b u (by rw[e0];rfl)
  ·rw[e] at hb;exact h.fresh b s hb
 ·change Own.relim m.col to new b=_ at hb
  rcases cases4 b with ⟨_,_,e2⟩|⟨_,_,⟨u,π',_,e2⟩,_⟩|⟨_,e|⟨u',π',_,e⟩⟩|⟨e0,_,e⟩
  ·rw[hb] at e2;cases e2
  ·rw[hb] at e2;cases e2
  ·rw[hb] at e;cases e
  ·rw[hb] at e;cases e
  ·rw[e] at hb
   exact ⟨(h.arr b s o π hb).1,keep b (h.arr b s o π hb).2 (hlt b e0)⟩
 ·change Own.relim m.col to new b=_ at hb
  rcases cases4 b with ⟨_,_,e2⟩|⟨_,_,⟨u1,π1,e4,e5⟩,e3⟩|⟨⟨u',π',e0⟩,e|⟨u1,π1,e4,e5⟩⟩|⟨_,e1,e⟩
  ·rw[hb] at e2;cases e2
  ·rw[hb] at e5;injection e5 with e5;exact ⟨by rw[e5];exact e4,e3⟩
  ·rw[hb] at e;cases e
  ·rw[hb] at e5;injection e5 with e5;exact ⟨by rw[e5];exact e4,keep b (h.lm b u' π' e0).2 (hlt b (by rw[e0];simp))⟩
  ·rw[e] at hb;exact absurd hb (e1 u π)
 ·change Own.relim m.col to new b=_ at hb
  rcases cases4 b with ⟨_,_,e2⟩|⟨_,_,⟨u,π',_,e2⟩,_⟩|⟨_,e|⟨u',π',_,e⟩⟩|⟨e0,_,e⟩
  ·rw[hb] at e2;cases e2
  ·rw[hb] at e2;cases e2
  ·rw[hb] at e;cases e
  ·rw[hb] at e;cases e
  ·rw[e] at hb
   exact keep b (h.bx b s hb) (hlt b e0)
 ·obtain ⟨h1,h2⟩:=h.kept b hb
  have hb':=hlt b (by rw[h2];simp)
  refine ⟨?_,?_⟩
  ·rcases hn.old b hb' with e|⟨⟨u,π,e⟩,_⟩
   ·show h'[b]? =_;rw[e,h1]
   ·rw[h2] at e;cases e
  ·show Own.relim m.col to new b=_
   rw[relim_same (by rw[h2];simp) (fun u π e=>by rw[h2] at e;cases e)]
   exact h2
theorem Step.relim {k:K} {g:G} {m:M} (hr:Rel k g m) {h':Array Obj} {to:Nat→List (Nat×Nat)→Color} {new:Nat→Color} (hn:ReOk k m h' to new):
  Step k g m g ⟨m.σ,m.c,h',Own.relim m.col to new⟩ (fun x=>PAR≤x):=by
 refine Step.limbo hr rfl rfl (hr.mem.relim hn _ _) fun b hb hown=> ?_
 have h1:∀u π,m.col b≠ .lim u π:=fun u π e=>by
  have:=(hr.mem.lm b u π e).1
  have:=hown u (by rw[e];rfl)
  omega
 refine ⟨?_,relim_same (fun e=>by have:=(hr.mem.free b).2 e;omega) h1⟩
 rcases hn.old b hb with e|⟨⟨u,π,e⟩,_⟩
 ·exact e
 ·exact absurd e (h1 u π)
theorem chunk_get {α:Type} {n:Nat}:∀{k i:Nat} {l:List α},(chunk n k l)[i]? =if i<k then some ((l.drop (i*n)).take n) else none:=by
 intro k
 induction k with
 |zero=>intro i l;simp[chunk]
 |succ k ih=>
  intro i l
  cases i with
  |zero=>simp[chunk]
  |succ i=>
   simp only[chunk,List.getElem?_cons_succ]
   rw[ih]
   have:(l.drop n).drop (i*n)=l.drop ((i+1)*n):=by rw[List.drop_drop,Nat.add_mul];congr 1;omega
   rw[this]
   by_cases h:i<k
   ·rw[if_pos h,if_pos (by omega)]
   ·rw[if_neg h,if_neg (by omega)]
theorem evs_app {σ:St}:∀{xs ys:List Src} {a b:List D},evs σ xs=some a→evs σ ys=some b→evs σ (xs++ys)=some (a++b):=by
 intro xs
 induction xs with
 |nil=>intro ys a b h1 h2;simp[evs] at h1;subst h1;exact h2
 |cons x xs ih=>
  intro ys a b h1 h2
  simp only[evs] at h1
  split at h1
  ·rename_i d l e1 e2
   cases h1
   simp only[List.cons_append,evs,e1,ih e2 h2]
  ·cases h1
theorem evs_chunk {σ:St} {n:Nat}:∀{k:Nat} {xs:List Src} {l:List (List D)},(chunk n k xs).mapM (evs σ)=some l→xs.length=k*n→∃ds,evs σ xs=some ds∧l=chunk n k ds:=by
 intro k
 induction k with
 |zero=>
  intro xs l h hl
  simp[chunk] at h
  subst h
  have:xs=[]:=by simpa using hl
  subst this
  exact ⟨[],rfl,rfl⟩
 |succ k ih=>
  intro xs l h hl
  simp only[chunk,List.mapM_cons,Option.bind_eq_bind,zA,Option.pure_def,Option.some.injEq] at h
  obtain ⟨a,h1,l',h2,rfl⟩:=h
  have hn:n≤xs.length:=by rw[hl,Nat.add_mul];omega
  obtain ⟨ds,h3,rfl⟩:=ih h2 (by rw[List.length_drop,hl,Nat.add_mul];omega)
  refine ⟨a++ds,?_,?_⟩
  ·have:=evs_app h1 h3
   rwa [List.take_append_drop] at this
  ·have hal:a.length=n:=by rw[(evs_get h1).1,List.length_take];omega
   simp only[chunk]
   rw[List.take_left' hal,List.drop_left' hal]
theorem rows_held {k:K} {g:G} {m:M} (hr:Rel k g m) {n len:Nat} {ds:List D} {xs:List Value} (hds:ds.length=len*n) (hxs:xs.length=len*n) (hn:n≠0) {ns:Nat→Nat} {rss:Nat→Rts}
  (hheld:∀(idx:Nat) (d:D) (x:Value),ds[idx]? =some d→xs[idx]? =some x→Held k m (PAR+idx) (ns idx) (rss idx) d x) {N:Nat} {R:Rts} (hN0:owns N 0=true)
  (hN:∀idx a,idx<len*n→owns N (a+1)=true→owns (ns idx) a=true) (hR:∀idx,idx<len*n→∀r∈rss idx,r∈R) (e:TypeId):
  ∃col',Step k g m g ⟨m.σ,m.c,m.h.push (.cells xs.toArray e),col'⟩ (fun x=>PAR≤x)∧
   Held k ⟨m.σ,m.c,m.h.push (.cells xs.toArray e),col'⟩ (PAR+len*n) N R (.sl n (chunk n len ds)) (.slice (some ⟨m.h.size,0,none⟩) len len):=by
 let to:Nat→List (Nat×Nat)→Color:=fun u π=>if u-PAR<len*n∧PAR≤u∧owns N (π.length+1)=true then .lim (PAR+len*n) (((u-PAR) / n,(u-PAR) % n)::π) else .stable
 let new:Nat→Color:=fun b=>if b=m.h.size then .lim (PAR+len*n) [] else .free
 have hok:ReOk k m (m.h.push (.cells xs.toArray e)) to new:=by
  refine ⟨by simp,fun b hb=> .inl (by simp[Array.getElem?_push,Nat.ne_of_lt hb]),fun b hb=> ?_,fun b h1 h2=> ?_,fun u π=> ?_⟩
  ·simp at hb
   have:b≠m.h.size:=by omega
   simp[new,this]
  ·simp at h2
   have:b=m.h.size:=by omega
   subst this
   exact ⟨⟨PAR+len*n,[],Nat.le_add_right _ _,by simp[new]⟩,xs.toArray,e,by simp⟩
  ·by_cases h:u-PAR<len*n∧PAR≤u∧owns N (π.length+1)=true
   ·exact .inr ⟨PAR+len*n,((u-PAR) / n,(u-PAR) % n)::π,Nat.le_add_right _ _,by simp only[to,if_pos h]⟩
   ·exact .inl (by simp only[to,if_neg h])
 have S:=Step.relim hr hok
 refine ⟨_,S,?_⟩
 have hlt:∀b,m.col b≠ .free→b<m.h.size:=fun b hb=>by
  rcases zJ b m.h.size with h|h
  ·exact h
  ·exact absurd ((hr.mem.free b).1 h) hb
 have hrow:∀i row,(chunk n len ds)[i]? =some row→i<len∧row=(ds.drop (i*n)).take n∧row.length=n:=fun i row h=>by
  rw[chunk_get] at h
  split at h
  ·rename_i hi
   cases h
   refine ⟨hi,rfl,?_⟩
   have:(i+1)*n≤len*n:=zR n hi
   rw[Nat.add_mul] at this
   simp
   omega
  ·cases h
 refine .sl (cs:=xs.toArray) (ty:=e) (fr:=(0,0)) ?_ (by simp) ?_ (Nat.le_refl _) (by simp[hxs]) (fun i row h=>(hrow i row h).2.2) fun i o d h=> ?_
 ·unfold gl
  simp only[List.length_nil,hN0,if_true]
  show Own.relim m.col to new m.h.size=_
  rw[relim_free ((hr.mem.free _).1 (Nat.le_refl _))]
  simp[new]
 ·apply Eq.symm
  have:∀k (l:List D),(chunk n k l).length=k:=by
   intro k
   induction k with
   |zero=>intro l;rfl
   |succ k ih=>intro l;simp[chunk,ih]
  exact this len ds
 ·obtain ⟨row,h1,h2⟩:=cellAt_lt h
  obtain ⟨hi,rfl,hl⟩:=hrow i row h1
  have ho:o<n:=by
   rw[← hl]
   rcases zJ o ((ds.drop (i*n)).take n).length with h'|h'
   ·exact h'
   ·rw[zG h'] at h2;cases h2
  rw[List.getElem?_take,if_pos ho,List.getElem?_drop] at h2
  have hidx:i*n+o<len*n:=by
   have:(i+1)*n≤len*n:=zR n hi
   rw[Nat.add_mul] at this
   omega
  have hx:xs[i*n+o]? =some (xs.toArray.getD (0+i*n+o) undef):=by
   have hlt:i*n+o<xs.length:=by rw[hxs];exact hidx
   simp[Array.getD,hlt]
  have hH:=hheld (i*n+o) d _ h2 hx
  have hdiv:(i*n+o) / n=i∧(i*n+o) % n=o:=by
   constructor
   ·rw[Nat.mul_comm,Nat.mul_add_div (by omega),Nat.div_eq_of_lt ho];omega
   ·rw[Nat.mul_comm,Nat.mul_add_mod,Nat.mod_eq_of_lt ho]
  refine O.frame hH fun π b hb=> ?_
  unfold gl at hb
  have hpush:∀b,b<m.h.size→(m.h.push (.cells xs.toArray e))[b]? =m.h[b]? :=fun b hb=>by simp[Array.getElem?_push,Nat.ne_of_lt hb]
  have hdeep:∀rs,(∀r∈rs,r∈R)→deepOk k m.col rs b→(m.h.push (.cells xs.toArray e))[b]? =m.h[b]? ∧deepOk k (Own.relim m.col to new) R b:=fun rs hrs hb=>by
   rcases hb with ⟨hc,hf⟩|⟨r,hr',π',hc⟩
   ·refine ⟨hpush b (hlt b (by rw[hc];simp)), .inl ⟨?_,?_⟩⟩
    ·rw[relim_same (by rw[hc];simp) (fun u π e=>by rw[hc] at e;cases e)];exact hc
    ·rcases hf with hf|⟨r,hr',j,hj⟩
     ·exact .inl hf
     ·exact .inr ⟨r,hrs r hr',j,hj⟩
   ·refine ⟨hpush b (hlt b (by rw[hc];simp)), .inr ⟨r,hrs r hr',π',?_⟩⟩
    rw[relim_same (by rw[hc];simp) (fun u π e=>by rw[hc] at e;cases e)];exact hc
  show _∧gl k (Own.relim m.col to new) (PAR+len*n) N R ((i,o)::π) b
  unfold gl
  have hll:((i,o)::π).length=π.length+1:=rfl
  rw[hll]
  by_cases hown:owns (ns (i*n+o)) π.length=true
  ·simp only[hown,if_true] at hb
   refine ⟨hpush b (hlt b (by rw[hb];simp)),?_⟩
   have hto:Own.relim m.col to new b=to (PAR+(i*n+o)) π:=relim_lim hb
   have hsub:PAR+(i*n+o)-PAR=i*n+o:=by omega
   by_cases hNo:owns N (π.length+1)=true
   ·simp only[hNo,if_true]
    rw[hto]
    have hc:PAR+(i*n+o)-PAR<len*n∧PAR≤PAR+(i*n+o)∧owns N (π.length+1)=true:=⟨by omega,by omega,hNo⟩
    simp only[to,if_pos hc,hsub,hdiv.1,hdiv.2]
   ·simp only[hNo,if_false,Bool.false_eq_true]
    refine .inl ⟨?_, .inl (hr.mem.fresh b _ (by rw[hb];rfl))⟩
    rw[hto]
    have hc:¬ (PAR+(i*n+o)-PAR<len*n∧PAR≤PAR+(i*n+o)∧owns N (π.length+1)=true):=fun h=>hNo h.2.2
    simp only[to,if_neg hc]
  ·simp only[hown,if_false,Bool.false_eq_true] at hb
   have hNo:¬ owns N (π.length+1)=true:=fun h=>hown (hN _ _ hidx h)
   simp only[hNo,if_false,Bool.false_eq_true]
   exact hdeep _ (hR _ hidx) hb
theorem stayAt_step {k:K} {g:G} {m:M} (hr:Rel k g m) (s o n':Nat):∃col',Step k g m (stayAt g s o n') ⟨m.σ,m.c,m.h,col'⟩ (·=s):=by
 unfold stayAt
 cases h:ownAt g s o with
 |none=>exact ⟨m.col,(Step.refl hr).mono hr fun x h=>h.elim⟩
 |some p=>
  obtain ⟨n,rs⟩:=p
  obtain ⟨_,ts,h1,h2,_⟩:=ownAt_ok h
  by_cases ho:owns n n'=true
  ·simp only[ho,if_true]
   refine ⟨_,Step.stay hr h1 h2 fun q hq=> ?_⟩
   unfold owns at*
   simp only[Bool.or_eq_true,decide_eq_true_eq] at*
   omega
  ·simp only[ho,if_false,Bool.false_eq_true]
   exact ⟨m.col,(Step.refl hr).mono hr fun x h=>h.elim⟩
theorem stayCel_step {k:K} {g:G} {m:M} (hr:Rel k g m) (c:Cel):∃col',Step k g m (stayCel g c) ⟨m.σ,m.c,m.h,col'⟩ (fun x=>x∈staySlots [c]):=by
 have refl:∃col',Step k g m g ⟨m.σ,m.c,m.h,col'⟩ (fun x=>x∈staySlots [c]):=⟨m.col,(Step.refl hr).mono hr fun x h=>h.elim⟩
 unfold stayCel
 cases ht:c.tag with
 |own n rs=>
  cases hs:c.src with
  |c s o=>
   obtain ⟨col',h⟩:=stayAt_step hr s o 0
   exact ⟨col',h.mono hr fun x hx=>by subst hx;simp[staySlots,ht,hs]⟩
  |_=>exact refl
 |loan s o v w=>
  by_cases hl:curL g s v w=true
  ·simp only[hl,if_true]
   obtain ⟨col',h⟩:=stayAt_step hr s o w.length
   exact ⟨col',h.mono hr fun x hx=>by subst hx;simp[staySlots,ht]⟩
  ·simp only[hl,if_false,Bool.false_eq_true]
   exact refl
 |_=>exact refl
theorem stays_step {k:K}:∀(cs:List Cel) {g:G} {m:M},Rel k g m→∃col',Step k g m (stays g cs) ⟨m.σ,m.c,m.h,col'⟩ (fun x=>x∈staySlots cs):=by
 intro cs
 induction cs with
 |nil=>intro g m hr;exact ⟨m.col,(Step.refl hr).mono hr fun x h=>h.elim⟩
 |cons c cs ih=>
  intro g m hr
  obtain ⟨col1,h1⟩:=stayCel_step hr c
  obtain ⟨col2,h2⟩:=ih (h1.rel hr)
  refine ⟨col2,(h1.trans hr h2).mono hr fun x hx=> ?_⟩
  have e:staySlots (c::cs)=staySlots [c]++staySlots cs:=by
   show List.filterMap _ ([c]++cs)=_
   rw[List.filterMap_append]
   rfl
  rw[e,zT]
  exact hx
theorem setAll_toList:∀(vs:List Value) (off:Nat) (cells:Array Value) (j0:Nat),off+j0+vs.length≤cells.size→
  ((vs.zipIdx j0).foldl (fun (cs:Array Value) (p:Value×Nat)=>cs.setIfInBounds (off+p.2) p.1) cells).toList=cells.toList.take (off+j0)++vs++cells.toList.drop (off+j0+vs.length):=by
 intro vs
 induction vs with
 |nil=>intro off cells j0 _;simp
 |cons v vs ih=>
  intro off cells j0 h
  simp only[List.zipIdx_cons,List.foldl_cons]
  simp at h
  rw[ih off _ (j0+1) (by simp;omega)]
  simp only[Array.toList_setIfInBounds,List.length_cons]
  have h1:(cells.toList.set (off+j0) v).take (off+(j0+1))=cells.toList.take (off+j0)++[v]:=by
   have hlt:off+j0<cells.toList.length:=by simp;omega
   have e:off+(j0+1)=off+j0+1:=by omega
   rw[e,List.take_add_one]
   simp[zO hlt,List.take_set_of_le]
  have h2:(cells.toList.set (off+j0) v).drop (off+(j0+1)+vs.length)=cells.toList.drop (off+j0+(vs.length+1)):=by
   have e:off+(j0+1)+vs.length=off+j0+(vs.length+1):=by omega
   rw[e,List.drop_set_of_lt (by omega)]
  rw[h1,h2]
  simp
theorem CelsOk.app {k:K} {g:G} {m:M} {cs cs':List Cel} {vs vs':List Value} (h:CelsOk k g m cs vs) (h':CelsOk k g m cs' vs'):CelsOk k g m (cs++cs') (vs++vs'):=by
 refine ⟨by simp[h.1,h'.1],fun i c hc=> ?_⟩
 rcases zJ i cs.length with hi|hi
 ·rw[zI hi] at hc
  rw[zI (by rw[h.1];exact hi)]
  exact h.2 i c hc
 ·rw[zH hi] at hc
  rw[zH (by rw[h.1];exact hi),h.1]
  exact h'.2 _ c hc
theorem CelsOk.take {k:K} {g:G} {m:M} {cs:List Cel} {vs:List Value} (h:CelsOk k g m cs vs) (n:Nat):CelsOk k g m (cs.take n) (vs.take n):=by
 have:=h.cut 0 n
 simpa using this
theorem CelsOk.drop {k:K} {g:G} {m:M} {cs:List Cel} {vs:List Value} (h:CelsOk k g m cs vs) (n:Nat):CelsOk k g m (cs.drop n) (vs.drop n):=by
 refine ⟨by simp[h.1],fun i c hc=> ?_⟩
 rw[List.getElem?_drop] at hc ⊢
 exact h.2 _ c hc
theorem fill_ok {k:K} {g:G} {m:M} (hr:Rel k g m) {P:Program} {fields:Nat→Option (Nat×Nat×Nat)} {place:Nat→Option (Nat×Nat)} (hplace:∀i p,fields i=some p→place i=some (p.1,p.2.1)):
  ∀(ps:List (Nat×Operand)) (cs:List Cel) (cells:Array Value) (cs':List Cel),fillParts P g fields cs ps=some cs'→CelsOk k g m cs cells.toList→(∀p∈ps,Here m p.2)→
   ∃cells',Instr.fill place cells (ps.map fun p=>(p.1,vl m p.2))=some cells'∧CelsOk k g m cs' cells'.toList:=by
 intro ps
 induction ps with
 |nil=>intro cs cells cs' h hc _;simp[fillParts] at h;subst h;exact ⟨cells,rfl,hc⟩
 |cons p ps ih=>
  obtain ⟨i,x⟩:=p
  intro cs cells cs' h hc hp
  simp only[fillParts,zA,guardO_some,zD,beq_iff_eq,decide_eq_true_eq] at h
  obtain ⟨p,h1,y,h2,⟨⟨h3,h4⟩,h5⟩,h6⟩:=h
  obtain ⟨vs,h7,h8⟩:=cels_ok hr h2 (hp (i,x) (by simp))
  have hsh:y.1=shapeOf P p.2.2:=by simpa using h5
  rw[hsh] at h7
  have hcells:=cells_of h7 h8.one
  have hsize:(vl m x).cells.size=p.2.1:=by rw[hcells];simp[h8.1,h3]
  have hcl:cells.toList.length=cs.length:=hc.1
  have hle:p.1+p.2.1≤cells.size:=by simp at hcl;omega
  have hset:=setAll_toList vs p.1 cells 0 (by rw[h8.1,h3];omega)
  have hfold:((vl m x).cells.zipIdx.foldl (fun (cs:Array Value) (q:Value×Nat)=>cs.setIfInBounds (p.1+q.2) q.1) cells).toList=cells.toList.take p.1++vs++cells.toList.drop (p.1+p.2.1):=by
   rw[hcells,← Array.foldl_toList]
   simp only[Array.toList_zipIdx]
   rw[hset,h8.1,h3]
   simp
  obtain ⟨cells',h9,h10⟩:=ih _ ((vl m x).cells.zipIdx.foldl (fun (cs:Array Value) (q:Value×Nat)=>cs.setIfInBounds (p.1+q.2) q.1) cells) cs' h6
   (by rw[hfold];exact ((hc.take _).app h8).app (hc.drop _)) (fun q hq=>hp q (by simp[hq]))
  refine ⟨cells',?_,h10⟩
  simp only[List.map_cons,Instr.fill,hplace i p h1]
  have hno:¬ ((vl m x).cells.size≠p.2.1∨p.1+(vl m x).cells.size>cells.size):=by rw[hsize];omega
  rw[if_neg (by simpa using hno)]
  exact h9
section ops
variable {k:K} {env:Env} {g:G} {m:M} {cx:Cx} {dst:Nat} {σ':St} {o:Oper} {r:Res}
theorem zeros_ok {P:Program} {t:TypeId} {z:List CK×List D} (h:zeros P t=some z):∃u i v,P.underlying t=some u∧P.info? t=some i∧i.zero=some v∧zerosFit z.2 v.cells.toList=true∧i.size=z.2.length∧
  (isAggB P t=true→∃cs,v= .agg cs):=by
 unfold zeros at h
 simp only[zA,guardO_some,zD] at h
 obtain ⟨ks,hk,ds,_,i,hi,v,hv,⟨⟨h1,h2⟩,h3⟩,h4⟩:=h
 cases h4
 obtain ⟨u,i',hu,_⟩:=info_of hk
 refine ⟨u,i,v,hu,hi,hv,h1,by simpa using h2,fun ha=> ?_⟩
 rw[ha] at h3
 cases v<;>simp at h3
 exact ⟨_,rfl⟩
theorem run_zeroValue {P:Program} {t:TypeId} {i:TypeInfo} {v:Value} (hi:P.info? t=some i) (hv:i.zero=some v) (w:World):(zeroValue t).run P w= .ok v w:=by
 simp[zeroValue,typeInfo,Sem.run_bind,hi,hv]
theorem places_known {P:Program}:∀(fs:List Field),(∀f∈fs,(P.info? f.type).isSome=true)→
  fs.mapM (fun f=>(P.info? f.type).map fun i=>(f.offset,i.size))=some (fs.map fun f=>(f.offset,P.cellsOf f.type)):=by
 intro fs
 induction fs with
 |nil=>intro _;rfl
 |cons f fs ih=>
  intro h
  have hf:=h f (by simp)
  cases hi:P.info? f.type with
  |none=>rw[hi] at hf;cases hf
  |some i=>
   have hs:P.cellsOf f.type=i.size:=by unfold Program.cellsOf;rw[hi];rfl
   simp[List.mapM_cons,hi,ih fun f' hf'=>h f' (by simp[hf']),hs]
theorem build_did (hr:Rel k g m) (hf:Fits cx g dst) {t:TypeId} {ps:Array (Nat×Operand)} {z:List CK×List D} {cs:List Cel} {fs:Array Field} (ho:o.op= .build t ps) (hz:zeros cx.P t=some z) (hu:cx.P.underlying t=some (.struct fs))
  (hfs:∀f∈fs.toList,(cx.P.info? f.type).isSome=true) (hfill:fillParts cx.P g (structPlace cx.P t) (zeroCels z.2) ps.toList=some cs) (hp:∀p∈ps.toList,Here m p.2)
  (h:Own.lay cx g dst false cs (fun ts=> .val .agg ts)=some r) (he:evIs env r.is m.σ=some σ'):Did cx k g m r σ' o dst:=by
 obtain ⟨u,i,v,hu',hi,hv,hfit,_,_⟩:=zeros_ok hz
 have hplace:∀j p,structPlace cx.P t j=some p→((fs.toList.map fun f=>(f.offset,cx.P.cellsOf f.type)).toArray[·]?) j=some (p.1,p.2.1):=fun j p hj=>by
  unfold structPlace at hj
  rw[hu] at hj
  simp only[zC] at hj
  obtain ⟨f,h1,rfl⟩:=hj
  simp[h1]
 obtain ⟨cells',h1,h2⟩:=fill_ok hr (place:=((fs.toList.map fun f=>(f.offset,cx.P.cellsOf f.type)).toArray[·]?)) hplace ps.toList _ v.cells cs hfill (zeroCels_ok hfit) hp
 refine val_did hr hf h h2 (x:= .agg cells') rfl (fun w=> ?_) he
 have hb:cx.P.built t (ps.map fun (i,x)=>(i,vl m x)).toList=some cells':=by
  unfold Program.built
  simp only[hi,hu,hv,places_known fs.toList hfs]
  simpa using h1
 have:=run_build w t (ps.map fun (i,x)=>(i,vl m x)) cells' hb
 simp only[execOp,ho,Sem.run_bind,this,Result.andThen_ok]
 rfl
theorem flatten_rep_get {α:Type} {l:List α} (hl:l.length≠0):∀(k i:Nat),(List.replicate k l).flatten[i]? =if i<k*l.length then l[i % l.length]? else none:=by
 intro k
 induction k with
 |zero=>intro i;simp
 |succ k ih=>
  intro i
  rw[List.replicate_succ,List.flatten_cons]
  rcases zJ i l.length with h|h
  ·rw[zI h,Nat.mod_eq_of_lt h,if_pos (by rw[Nat.add_mul];omega)]
  ·rw[zH h,ih,← Nat.mod_eq_sub_mod h]
   by_cases hk:i-l.length<k*l.length
   ·rw[if_pos hk,if_pos (by rw[Nat.add_mul];omega)]
   ·rw[if_neg hk,if_neg (by rw[Nat.add_mul];omega)]
theorem rep_cells {cs:Array Value} {k:Nat} (h:cs.size≠0):((Array.range (k*cs.size)).map (cs[· % cs.size]!)).toList=(List.replicate k cs.toList).flatten:=by
 apply List.ext_getElem?
 intro i
 rw[flatten_rep_get (by simpa using h)]
 simp only[Array.length_toList,Array.getElem?_toList,Array.getElem?_map]
 by_cases hi:i<k*cs.size
 ·have hm:i % cs.size<cs.size:=Nat.mod_lt _ (by omega)
  rw[if_pos hi]
  simp[hi,hm]
 ·rw[if_neg hi]
  simp[hi]
theorem CelsOk.rep {cs:List Cel} {vs:List Value} (h:CelsOk k g m cs vs):∀n,CelsOk k g m (List.replicate n cs).flatten (List.replicate n vs).flatten:=by
 intro n
 induction n with
 |zero=>exact ⟨rfl,fun i c hc=>by simp at hc⟩
 |succ n ih=>
  rw[List.replicate_succ,List.replicate_succ,List.flatten_cons,List.flatten_cons]
  exact h.app ih
end ops
theorem minN_le:∀{ms:List Mv} {i:Nat} {mv:Mv},ms[i]? =some mv→minN ms≤mv.n:=by
 intro ms
 induction ms with
 |nil=>intro i mv h;simp at h
 |cons m ms ih=>
  intro i mv h
  cases i with
  |zero=>simp at h;subst h;exact Nat.min_le_left _ _
  |succ i=>exact zS (Nat.min_le_right _ _) (ih (by simpa using h))
theorem allR_mem:∀{ms:List Mv} {i:Nat} {mv:Mv},ms[i]? =some mv→∀r∈mv.rs,r∈allR ms:=by
 intro ms
 induction ms with
 |nil=>intro i mv h;simp at h
 |cons m ms ih=>
  intro i mv h r hr
  cases i with
  |zero=>simp at h;subst h;exact mem_unionR.2 (.inl hr)
  |succ i=>exact mem_unionR.2 (.inr (ih (by simpa using h) r hr))
theorem allR_of:∀{ms:List Mv} {r:Nat×Nat×Nat},r∈allR ms→∃mv∈ms,r∈mv.rs:=by
 intro ms
 induction ms with
 |nil=>intro r h;simp[allR] at h
 |cons m ms ih=>
  intro r h
  rcases mem_unionR.1 h with h|h
  ·exact ⟨m,by simp,h⟩
  ·obtain ⟨mv,h1,h2⟩:=ih h
   exact ⟨mv,by simp[h1],h2⟩
theorem rowMvs_get {g:G} {share:Bool}:∀{cs:List Cel} {ms:List Mv},rowMvs g share cs=some ms→ms.length=cs.length∧∀(i:Nat) (mv:Mv),ms[i]? =some mv→∃c,cs[i]? =some c∧(if share then c.cp g else c.mv g)=some mv:=by
 intro cs
 induction cs with
 |nil=>intro ms h;simp[rowMvs] at h;subst h;simp
 |cons c cs ih=>
  intro ms h
  simp only[rowMvs,zA,zC] at h
  obtain ⟨mv,h1,ms',h2,rfl⟩:=h
  obtain ⟨h3,h4⟩:=ih h2
  refine ⟨by simp[h3],fun i mv' hi=> ?_⟩
  cases i with
  |zero=>simp at hi;subst hi;exact ⟨c,rfl,h1⟩
  |succ i=>exact h4 i mv' (by simpa using hi)
theorem rowMv_ok {k:K} {g:G} {m:M} (hr:Rel k g m) {share:Bool} {c:Cel} {x:Value} (h:CelOk k g m c x) {mv:Mv} (hm:(if share then c.cp g else c.mv g)=some mv) {d:D} (hd:mv.src.ev m.σ=some d):MvOk k g m mv d x:=by
 cases share with
 |true=>exact (cp_ok hr h hm hd).1
 |false=>exact mv_ok hr h hm hd
section ops
variable {k:K} {env:Env} {g:G} {m:M} {cx:Cx} {dst:Nat} {σ':St} {o:Oper} {r:Res}
theorem made_step (hr:Rel k g m) (hf:Fits cx g dst) {share:Bool} {cs:List Cel} {ms:List Mv} {cells:Array Value} {n len:Nat} (hcs:CelsOk k g m cs cells.toList) (hms:rowMvs g share cs=some ms) (hok:mvsOk cx.base ms=true)
  (hn:n≠0) (hlen:cs.length=len*n) (hrd:∀r∈allR ms,r.1≠dst) (e:TypeId)
  (he:evIs env ((lifts cx.base ms).1++[I.lit dst n (chunk n len (lifts cx.base ms).2)]) m.σ=some σ'):
  ∃col',Step k g m ((leaves cx.base g ms).tch dst (.val .one [.own (addN (minN ms) 1) (allR ms)])) ⟨σ',updC m.c dst (.slice (some ⟨m.h.size,0,none⟩) len len),m.h.push (.cells cells e),col'⟩ (TT cx dst (leftSlots ms)):=by
 rw[evIs_append,zA] at he
 obtain ⟨σ1,he1,he2⟩:=he
 have he2:=evIs_one he2
 simp only[I.ev,zC] at he2
 obtain ⟨l,hl,rfl⟩:=he2
 obtain ⟨hml,hmg⟩:=rowMvs_get hms
 have hll:(lifts cx.base ms).2.length=len*n:=by
  unfold lifts
  split
  ·simp[hml,hlen]
  ·simp[liftRegs_len,hml,hlen]
 obtain ⟨ds,hds,rfl⟩:=evs_chunk hl hll
 have hcell:∀(i:Nat) (mv:Mv),ms[i]? =some mv→∃x,cells.toList[i]? =some x∧∀d,mv.src.ev m.σ=some d→MvOk k g m mv d x:=fun i mv hi=>by
  obtain ⟨c,h1,h2⟩:=hmg i mv hi
  obtain ⟨x,h3,h4⟩:=hcs.2 i c h1
  exact ⟨x,h3,fun d hd=>rowMv_ok hr h4 h2 hd⟩
 obtain ⟨col1,S1,hdl,hheld,_,_,_,hver⟩:=lifts_ok hr (ms:=ms) (xs:=cells.toList) (base:=cx.base) (by rw[hf.len];omega) hcell hok he1 hds (v:=PAR) (Nat.le_refl _)
 have hr1:=S1.rel hr
 have hcl:cells.toList.length=len*n:=by rw[hcs.1,hlen]
 have hcur:curR (leaves cx.base g ms) (allR ms)=true:=by
  rw[curR_iff]
  intro r hr'
  obtain ⟨mv,h1,h2⟩:=allR_of hr'
  rw[hver mv h1 r h2]
  obtain ⟨i,hi⟩:=zP h1
  have hlt:i<ds.length:=by
   rw[hdl]
   rcases zJ i ms.length with h'|h'
   ·exact h'
   ·rw[zG h'] at hi;cases hi
  obtain ⟨x,h3,h4⟩:=hcell i mv hi
  obtain ⟨_,h5⟩:=hheld i mv ds[i] x hi (zB hlt) h3
  exact curR_iff.1 (h4 _ h5).cur r h2
 have hidx:∀idx,idx<len*n→∃mv,ms[idx]? =some mv:=fun idx h=>⟨ms[idx]'(by rw[hml,hlen];exact h),zB _⟩
 obtain ⟨col2,S2,hH⟩:=rows_held hr1 (n:=n) (len:=len) (ds:=ds) (xs:=cells.toList) (by rw[hdl,hml,hlen]) hcl hn (ns:=fun i=>(ms.getD i deadMv).n) (rss:=fun i=>(ms.getD i deadMv).rs)
  (fun idx d x h1 h2=>by
   have hlt:idx<len*n:=by
    rw[← hcl]
    rcases zJ idx cells.toList.length with h'|h'
    ·exact h'
    ·rw[zG h'] at h2;cases h2
   obtain ⟨mv,hmv⟩:=hidx idx hlt
   have:ms.getD idx deadMv=mv:=by rw[zM,hmv];rfl
   rw[this]
   exact (hheld idx mv d x hmv h1 h2).1)
  (N:=addN (minN ms) 1) (R:=allR ms) (by unfold owns;have:=addN_ne (n:=minN ms);simp;omega)
  (fun idx a h1 h2=>by
   obtain ⟨mv,hmv⟩:=hidx idx h1
   have:ms.getD idx deadMv=mv:=by rw[zM,hmv];rfl
   rw[this]
   exact owns_le (minN_le hmv) (owns_add h2))
  (fun idx h1 r hr'=>by
   obtain ⟨mv,hmv⟩:=hidx idx h1
   have:ms.getD idx deadMv=mv:=by rw[zM,hmv];rfl
   rw[this] at hr'
   exact allR_mem hmv r hr') e
 have hr2:=S2.rel hr1
 have hf2:Fits cx (leaves cx.base g ms) dst:=⟨by rw[S1.len];exact hf.len,hf.dst⟩
 have S3:=one_step_at hr2 hf2 (v:=PAR+len*n) (Nat.le_add_right _ _) (t:= .own (addN (minN ms) 1) (allR ms)) (x:= .slice (some ⟨m.h.size,0,none⟩) len len) rfl ⟨rfl,hcur,hH⟩
  (fun r hr'=>Nat.le_of_eq (curR_iff.1 hcur r hr').symm) (frz_id hrd) .none
 refine ⟨_,((S1.trans hr S2).trans hr S3).mono hr fun x hx=> ?_⟩
 unfold TT at hx ⊢
 rcases hx with (hx|hx)|hx
 ·rcases hx with hx|hx
  ·exact .inl hx
  ·exact .inr (.inr (.inl hx))
 ·exact .inr (.inr (.inr hx))
 ·rcases hx with hx|hx
  ·cases hx
  ·exact .inr hx
theorem fillParts_len {P:Program} {g:G} {fields:Nat→Option (Nat×Nat×Nat)}:∀(ps:List (Nat×Operand)) {cs cs':List Cel},fillParts P g fields cs ps=some cs'→cs'.length=cs.length:=by
 intro ps
 induction ps with
 |nil=>intro cs cs' h;simp[fillParts] at h;rw[h]
 |cons p ps ih=>
  obtain ⟨i,x⟩:=p
  intro cs cs' h
  simp only[fillParts,zA,guardO_some,zD,beq_iff_eq,decide_eq_true_eq] at h
  obtain ⟨p,_,y,_,⟨⟨h3,h4⟩,_⟩,h6⟩:=h
  rw[ih h6]
  simp
  omega
theorem lit_did (hr:Rel k g m) (hf:Fits cx g dst) {share:Bool} {t e:TypeId} {len:Nat} {ps:Array (Nat×Operand)} {z:List CK×List D} {cs0 cs:List Cel} {ms:List Mv} (ho:o.op= .buildSlice t len ps) (hu:cx.P.underlying t=some (.slice e))
  (hz:zeros cx.P e=some z) (hn:z.2.length≠0) (hl60:len≤60) (hn60:z.2.length≤60)
  (hfill:fillParts cx.P (if share then stays g cs0 else g) (fun i=>if i<len then some (i*z.2.length,z.2.length,e) else none) ((List.replicate len (zeroCels z.2)).flatten) ps.toList=some cs)
  (hp:∀p∈ps.toList,Here m p.2) (hms:rowMvs (if share then stays g cs0 else g) share cs=some ms) (hok:mvsOk cx.base ms=true) (hrd:∀r∈allR ms,r.1≠dst)
  (he:evIs env ((lifts cx.base ms).1++[I.lit dst z.2.length (chunk z.2.length len (lifts cx.base ms).2)]) m.σ=some σ'):
  Did cx k g m ⟨(lifts cx.base ms).1++[I.lit dst z.2.length (chunk z.2.length len (lifts cx.base ms).2)],
   (leaves cx.base (if share then stays g cs0 else g) ms).tch dst (.val .one [.own (addN (minN ms) 1) (allR ms)]),leftSlots ms++if share then staySlots cs0 else []⟩ σ' o dst:=by
 obtain ⟨u,i,v,hu',hi,hv,hfit,hsize,_⟩:=zeros_ok hz
 have hS0:∃col0,Step k g m (if share then stays g cs0 else g) ⟨m.σ,m.c,m.h,col0⟩ (fun x=>x∈if share then staySlots cs0 else []):=by
  cases share with
  |true=>exact stays_step cs0 hr
  |false=>exact ⟨m.col,(Step.refl hr).mono hr fun x h=>h.elim⟩
 obtain ⟨col0,S0⟩:=hS0
 have hr0:=S0.rel hr
 have hvs:v.cells.size=z.2.length:=by have:=(zerosFit_get hfit).1;simpa using this
 have hz0:CelsOk k (if share then stays g cs0 else g) ⟨m.σ,m.c,m.h,col0⟩ ((List.replicate len (zeroCels z.2)).flatten) ((Array.range (len*v.cells.size)).map (v.cells[· % v.cells.size]!)).toList:=by
  rw[rep_cells (by rw[hvs];exact hn)]
  exact (zeroCels_ok hfit).rep len
 obtain ⟨cells',h1,h2⟩:=fill_ok hr0 (place:=fun j=>some (j*i.size,i.size)) (fun j p hj=>by
  split at hj
  ·cases hj;rw[hsize]
  ·cases hj) ps.toList _ _ cs hfill hz0 hp
 have hcl:cs.length=len*z.2.length:=by
  rw[fillParts_len ps.toList hfill]
  simp[zeroCels]
 obtain ⟨col',S1⟩:=made_step hr0 (dst:=dst) ⟨by rw[S0.len];exact hf.len,hf.dst⟩ h2 hms hok hn hcl hrd e he
 refine ⟨?_,fun h1 _=>by simp[ho,quietB] at h1⟩
 intro w hw
 refine ⟨_, .slice (some ⟨m.h.size,0,none⟩) len len,m.h.push (.cells cells' e),w.drawn,col', .inl rfl,?_,(S0.trans hr S1).mono hr fun x hx=> ?_⟩
 ·by_cases h0:len=0
  ·subst h0
   have hps:ps.toList=[]:=by
    cases hq:ps.toList with
    |nil=>rfl
    |cons p l=>rw[hq] at hfill;obtain ⟨j,x⟩:=p;simp[fillParts] at hfill
   have hps':ps= #[]:=by simpa using hps
   subst hps'
   simp[Instr.fill] at h1
   subst h1
   simp[execOp,ho,Instr.buildSlice,Sem.run_bind,run_underlying hu,sizeOf,typeInfo,hi,Instr.fill,newRow,newObj,Sem.run]
   unfold World.alloc
   rw[hw]
   have hr00:Array.range 0= #[]:=rfl
   exact ⟨rfl,by rw[hr00];simp only[Array.map_empty]⟩
  ·have hpos:¬ len*i.size=0:=Nat.mul_ne_zero h0 (by rw[hsize];exact hn)
   have hsmall:¬ len*i.size>2 ^ 24:=by
    rw[hsize]
    have:len*z.2.length≤60*60:=Nat.mul_le_mul hl60 hn60
    omega
   have hsz:v.cells.size=i.size:=by rw[hvs,hsize]
   rw[hsz] at h1
   have:=run_buildSlice w t e len (ps.map fun (i,x)=>(i,vl m x)) cells' i v hu hi hv hsmall hpos (by
    rw[hsz,Array.toList_map]
    exact h1)
   simp only[execOp,ho,Sem.run_bind,this,Result.andThen_ok]
   unfold World.alloc
   rw[hw]
   rfl
 ·unfold TT at hx ⊢
  rcases hx with hx|hx
  ·exact .inl (zQ _ hx)
  ·rcases hx with hx|hx
   ·exact .inl (List.mem_append_left _ hx)
   ·exact .inr hx
end ops
section ops
variable {k:K} {env:Env} {g:G} {m:M} {cx:Cx} {dst:Nat} {σ':St} {o:Oper} {r:Res}
theorem curL_same {s0:Nat} {e:Ent} {s v:Nat} {w:List (Nat×Nat×Nat)}:curL (g.same s0 e) s v w=curL g s v w:=by
 unfold curL curW
 rw[(Older.same g s0 e s).2.1,(Older.same g s0 e s).2.2.1]
 congr 2
 funext x
 rw[(Older.same g s0 e x.1).1]
theorem curR_same {s0:Nat} {e:Ent} {rs:Rts}:curR (g.same s0 e) rs=curR g rs:=by
 unfold curR
 congr 1
 funext x
 rw[(Older.same g s0 e x.1).1]
theorem ownAt_stay {s q n n':Nat} {rs:Rts} (h:ownAt g s q=some (n,rs)):ownAt (reTag G.same g s q (.own n' rs)) s q=some (n',rs):=by
 obtain ⟨hb,ts,h1,h2,h3⟩:=ownAt_ok h
 have hs:s<g.length:=lt_of_ent fun e=>by rw[e] at h1;cases h1
 rw[reTag_eq h1]
 have hent:(g.same s ((g.ent s).withTags (ts.set q (.own n' rs)))).ent s=(g.ent s).withTags (ts.set q (.own n' rs)):=Turn.ent_self .same hs
 have hlt:q<ts.length:=by
  rcases zJ q ts.length with h'|h'
  ·exact h'
  ·rw[zG h'] at h2;cases h2
 unfold ownAt
 rw[if_neg hb]
 have htag:tagAt (g.same s ((g.ent s).withTags (ts.set q (.own n' rs)))) s q= .own n' rs:=by
  unfold tagAt
  rw[hent]
  cases he:g.ent s<;>rw[he] at h1<;>simp[entTags] at h1<;>subst h1<;>simp[Ent.withTags,hlt]
 rw[htag]
 simp only[curR_same,h3,if_true]
theorem load_share_did (hr:Rel k g m) (hf:Fits cx g dst) {ty:TypeId} {ks:List CK} (hk:kinds cx.P ty=some ks) (hn:cx.P.cellsOf ty=ks.length) {t s q v i iv off sz:Nat} {w:List (Nat×Nat×Nat)} (ho:o.op= .load ty (.tmp t))
  (he':g.ent t= .eptr s q v w i iv off sz) (hp:m.σ t≠[]) (hl:curL g s v w=true) (hv:g.ver i=iv) (hoff:off+ks.length≤sz) {n:Nat} {rs:Rts} (how:ownAt g s q=some (n,rs)) (hown:owns n w.length=true)
  (hrd:∀r∈rs,r.1≠dst) {n':Nat} (hn1:n'≤n) (hn2:owns n' w.length=true) {g':G} (hg':g'=reTag G.same g s q (.own n' rs))
  (he:evIs env [.set dst ((elemTags g' s q w i iv n' rs off ks).map (·.2)) (flOf ((elemTags g' s q w i iv n' rs off ks).map (·.1)))] m.σ=some σ'):
  Did cx k g m ⟨[.set dst ((elemTags g' s q w i iv n' rs off ks).map (·.2)) (flOf ((elemTags g' s q w i iv n' rs off ks).map (·.1)))],g'.tch dst (.val (shapeOf cx.P ty) ((elemTags g' s q w i iv n' rs off ks).map (·.1))),[s]⟩ σ' o dst:=by
 subst hg'
 obtain ⟨_,ts,h1,h2,_⟩:=ownAt_ok how
 have S1:=Step.stay hr h1 h2 (n':=n') fun a ha=>owns_le hn1 ha
 have hr1:=S1.rel hr
 have hts:t≠s:=fun e=>by rw[e] at he';rw[he'] at h1;cases h1
 have how':=ownAt_stay (n':=n') how
 have e1:=reTag_eq (f:=G.same) (o:=q) (t:= .own n' rs) h1
 have hent:(reTag G.same g s q (.own n' rs)).ent t=g.ent t:=by rw[e1];exact Turn.ent_ne .same hts
 obtain ⟨val,hrun,S2⟩:=load_eptr hr1 (dst:=dst) ⟨by rw[S1.len];exact hf.len,hf.dst⟩ hk hn ho (hent.trans he') hp (by rw[e1,curL_same];exact hl) (by rw[e1,(Older.same g s _ i).1];exact hv) hoff how' hn2 hrd he
 refine .pureH (.inl (by simp[ho,isLoad])) val _ hrun ((S1.trans hr S2).mono hr fun x hx=> ?_)
 unfold TT at hx ⊢
 rcases hx with hx|hx
 ·exact .inl (by simp[hx])
 ·rcases hx with hx|hx
  ·cases hx
  ·exact .inr hx
end ops
theorem chunk_rep {α:Type} {l:List α}:∀k,chunk l.length k (List.replicate k l).flatten=List.replicate k l:=by
 intro k
 induction k with
 |zero=>rfl
 |succ k ih=>
  rw[List.replicate_succ,List.flatten_cons]
  simp only[chunk]
  rw[List.take_left' rfl,List.drop_left' rfl,ih]
theorem makeSlice_run {P:Program} {t e:TypeId} {i:TypeInfo} {z:Value} (ht:P.underlying t=some (.slice e)) (hi:P.info? e=some i) (hz:i.zero=some z) (hs:i.size≠0) (hby:i.bytes≤32768) {kk kc:IntKind} {n:Nat} (hn:n≤most) (w:World):
  (Instr.makeSlice t (.int kk (n:Int)) (.int kc (n:Int))).run P w= .ok (.slice (some ⟨w.heap.size,0,none⟩) n n) (w.alloc (.cells ((Array.range (n*i.size)).map (z.cells[· % z.cells.size]!)) e)):=by
 unfold most at hn
 have hb:i.bytes*n≤32768*4294967296:=Nat.mul_le_mul hby hn
 have hb':(i.bytes:Int)*(n:Int)≤140737488355328:=by
  have:((i.bytes*n:Nat):Int)≤140737488355328:=by omega
  rwa [Int.natCast_mul] at this
 have wl:IntKind.i64.wrap (n:Int)=n:=by rw[IntKind.wrap_i64];omega
 have n1:¬ ((n:Int)<0):=by omega
 have n2:¬ (281474976710656<(i.bytes:Int)*n):=by omega
 by_cases hn0:n=0
 ·subst hn0
  have w0:IntKind.i64.wrap 0=0:=by decide
  have hr00:Array.range 0= #[]:=rfl
  simp[Instr.makeSlice,run_underlying ht,asInt,asIntOf,typeInfo,hi,sizeOf,w0,newRow,askRoom,roomBytes,hr00]
 ·have hne:¬ (n*i.size=0):=Nat.mul_ne_zero hn0 hs
  simp[Instr.makeSlice,run_underlying ht,asInt,asIntOf,typeInfo,hi,sizeOf,zeroValue,hz,wl,n1,n2,newRow,askRoom,roomBytes]
  exact fun h=>absurd h hne
theorem sameLC_ok {m:M} {l c:Operand} (h:sameLC l c=true) {k:IntKind} {n:Int} (hl:vl m l= .int k n):∃k',vl m c= .int k' n:=by
 unfold sameLC at h
 split at h
 ·have:∀i j:Nat,(i==j)=true→i=j:=fun i j h=>by simpa using h
  have e:=this _ _ h
  subst e
  exact ⟨k,hl⟩
 ·rename_i k1 i k2 j
  have e:i=j:=by simpa using h
  subst e
  simp[vl] at hl
  exact ⟨k2,by simp[vl,hl]⟩
 ·cases h
theorem mk_did {k:K} {env:Env} {g:G} {m:M} {cx:Cx} {dst:Nat} {σ':St} {o:Oper} (hr:Rel k g m) (hf:Fits cx g dst) {t e:TypeId} {l c:Operand} {z:List CK×List D} {a:Src} {ty:TypeId} (ho:o.op= .makeSlice t l c) (hu:cx.P.underlying t=some (.slice e))
  (hz:zeros cx.P e=some z) (hby:cx.P.bytesOf e≤32768) (hn:z.2.length≠0) (hlc:sameLC l c=true) (h1:scSrc cx.P g ty l=some a) (he:evIs env [.mk dst z.2 a] m.σ=some σ'):
  Did cx k g m ⟨[.mk dst z.2 a],g.tch dst (.val .one [.own DEEP []]),[]⟩ σ' o dst:=by
 have he:=evIs_one he
 simp only[I.ev,zA] at he
 obtain ⟨d,e1,e2⟩:=he
 split at e2
 ·rename_i kk ii
  split at e2
  ·rename_i hb
   cases e2
   obtain ⟨u,i,v,hu',hi,hv,hfit,hsize,_⟩:=zeros_ok hz
   have hvl:=flat_int ((scSrc_ok hr h1 e1).2 #[] fun _ _=>True)
   have hii:ii=(ii.toNat:Int):=by omega
   generalize hN:ii.toNat=N at*
   subst hii
   obtain ⟨kc,hvc⟩:=sameLC_ok hlc hvl
   have hvs:v.cells.size=z.2.length:=by have:=(zerosFit_get hfit).1;simpa using this
   have hcells:((Array.range (N*i.size)).map (v.cells[· % v.cells.size]!)).toList=(List.replicate N v.cells.toList).flatten:=by
    rw[show i.size=v.cells.size by rw[hvs,hsize]]
    exact rep_cells (by rw[hvs];exact hn)
   obtain ⟨col2,S2,hH⟩:=rows_held hr (n:=z.2.length) (len:=N) (ds:=(List.replicate N z.2).flatten) (xs:=(List.replicate N v.cells.toList).flatten) (by simp) (by simp[hvs]) hn (ns:=fun _=>DEEP) (rss:=fun _=>[])
    (fun idx d x h1 h2=>by
     rw[flatten_rep_get hn] at h1
     rw[flatten_rep_get (by simpa[hvs] using hn)] at h2
     split at h1
     ·split at h2
      ·obtain ⟨x',b1,b2⟩:=(zerosFit_get hfit).2 _ d h1
       have hl:v.cells.toList.length=z.2.length:=by simpa using hvs
       rw[hl,b1] at h2
       cases h2
       exact isZeroOf_ok b2 _ _
      ·cases h2
     ·cases h1) (N:=DEEP) (R:=[]) (by simp[owns]) (fun _ _ _ _=>by simp[owns]) (fun _ _ r h=>by cases h) e
   rw[chunk_rep] at hH
   have S3:=one_step_at (S2.rel hr) hf (v:=PAR+N*z.2.length) (Nat.le_add_right _ _) (t:= .own DEEP []) (x:= .slice (some ⟨m.h.size,0,none⟩) N N) rfl ⟨rfl,rfl,hH⟩ (fun r hr'=>by cases hr') rfl .none
   refine ⟨?_,fun h1 _=>by simp[ho,quietB] at h1⟩
   intro w hw
   refine ⟨_, .slice (some ⟨m.h.size,0,none⟩) N N,_,w.drawn,_, .inl rfl,?_,(S2.trans hr S3).mono hr fun x hx=> ?_⟩
   ·have:=makeSlice_run (P:=cx.P) hu hi hv (by rw[hsize];exact hn) (by unfold Program.bytesOf at hby;rw[hi] at hby;exact hby) (kk:=kk) (kc:=kc) (n:=N) (by unfold most at*;omega) w
    simp only[execOp,ho,hvl,hvc,Sem.run_bind,this,Result.andThen_ok]
    unfold World.alloc
    rw[hw,← hcells]
    rfl
   ·unfold TT at hx ⊢
    rcases hx with hx|hx
    ·exact .inr (.inr (.inr hx))
    ·exact hx
  ·cases e2
 ·cases e2
def spl (cs:Array Value) (off:Nat) (vs:List Value):Array Value:=(cs.toList.take off++vs++cs.toList.drop (off+vs.length)).toArray
theorem spl_size {cs:Array Value} {off:Nat} {vs:List Value} (h:off+vs.length≤cs.size):(spl cs off vs).size=cs.size:=by
 simp[spl];omega
theorem spl_get {cs:Array Value} {off j:Nat} {vs:List Value} (h:off+vs.length≤cs.size):
  (spl cs off vs).toList[j]? =if j<off then cs.toList[j]? else if j<off+vs.length then vs[j-off]? else cs.toList[j]? :=by
 simp only[spl]
 by_cases h1:j<off
 ·rw[if_pos h1,zI (by simp;omega),zI (by simp;omega),List.getElem?_take,if_pos h1]
 ·rw[if_neg h1]
  by_cases h2:j<off+vs.length
  ·rw[if_pos h2,zI (by simp;omega),zH (by simp;omega)]
   congr 1
   simp;omega
  ·rw[if_neg h2,zH (by simp;omega),List.getElem?_drop]
   congr 1
   simp;omega
theorem getD_toList {cs:Array Value} {j:Nat}:cs.getD j undef=(cs.toList[j]?).getD undef:=by
 simp[Array.getD_eq_getD_getElem?]
theorem spl_in {cs:Array Value} {off j:Nat} {vs:List Value} {v:Value} (h:off+vs.length≤cs.size) (hv:vs[j]? =some v):(spl cs off vs).getD (off+j) undef=v:=by
 have hj:j<vs.length:=by
  rcases zJ j vs.length with h'|h'
  ·exact h'
  ·rw[zG h'] at hv;cases hv
 rw[getD_toList,spl_get h,if_neg (by omega),if_pos (by omega)]
 have:off+j-off=j:=by omega
 rw[this,hv]
 rfl
theorem spl_out {cs:Array Value} {off j:Nat} {vs:List Value} (h:off+vs.length≤cs.size) (hj:j<off∨off+vs.length≤j):(spl cs off vs).getD j undef=cs.getD j undef:=by
 rw[getD_toList,getD_toList,spl_get h]
 rcases hj with hj|hj
 ·rw[if_pos hj]
 ·rw[if_neg (by omega),if_neg (by omega)]
theorem setCells_block {b ty:Nat} {fr:Nat×Nat}:∀(vs:List Value) (off:Nat) (w:World) (cs:Array Value),w.heap[b]? =some (.cells cs ty fr)→off+vs.length≤cs.size→
  w.setCells b off vs={w with heap:=w.heap.setIfInBounds b (.cells (spl cs off vs) ty fr)}:=by
 intro vs
 induction vs with
 |nil=>
  intro off w cs hb h
  have:spl cs off []=cs:=by apply Array.ext';simp[spl]
  rw[this,World.setCells]
  have hlt:b<w.heap.size:=(Array.getElem?_eq_some_iff.1 hb).1
  have he:w.heap.setIfInBounds b (.cells cs ty fr)=w.heap:=by
   apply Array.ext_getElem?
   intro i
   by_cases e:b=i
   ·subst e;rw[Array.getElem?_setIfInBounds_self_of_lt hlt,hb]
   ·rw[Array.getElem?_setIfInBounds_ne e]
  rw[he]
 |cons v r ih=>
  intro off w cs hb h
  simp only[List.length_cons] at h
  have hlt:b<w.heap.size:=(Array.getElem?_eq_some_iff.1 hb).1
  have h1:w.setCell ⟨b,off,none⟩ v={w with heap:=w.heap.setIfInBounds b (.cells (cs.setIfInBounds off v) ty fr)}:=by
   unfold World.setCell
   congr 1
   apply Array.ext_getElem?
   intro i
   rw[Array.getElem?_modify]
   by_cases e:b=i
   ·subst e;rw[Array.getElem?_setIfInBounds_self_of_lt hlt,if_pos rfl,hb];rfl
   ·rw[Array.getElem?_setIfInBounds_ne e,if_neg e]
  rw[World.setCells,h1,ih (off+1) _ (cs.setIfInBounds off v) (by simp only;rw[Array.getElem?_setIfInBounds_self_of_lt hlt]) (by simp;omega)]
  have h2:spl (cs.setIfInBounds off v) (off+1) r=spl cs off (v::r):=by
   apply Array.ext'
   simp only[spl,Array.toList_setIfInBounds]
   apply List.ext_getElem?
   intro j
   have e1:=spl_get (cs:=cs.setIfInBounds off v) (off:=off+1) (vs:=r) (j:=j) (by simp;omega)
   have e2:=spl_get (cs:=cs) (off:=off) (vs:=v::r) (j:=j) (by simp;omega)
   simp only[spl,Array.toList_setIfInBounds] at e1 e2
   rw[e1,e2]
   by_cases c1:j<off
   ·rw[if_pos (by omega),if_pos c1,zN (by omega)]
   ·rw[if_neg c1]
    by_cases c2:j=off
    ·subst c2
     rw[if_pos (by omega),if_pos (by simp),zO (by simp;omega)]
     simp
    ·rw[if_neg (by omega)]
     by_cases c3:j<off+(v::r).length
     ·rw[if_pos (by simp at c3;omega),if_pos c3]
      have:j-off=(j-(off+1))+1:=by omega
      rw[this,List.getElem?_cons_succ]
     ·rw[if_neg (by simp at c3;omega),if_neg c3,zN (by omega)]
  rw[h2]
  simp
theorem store_run {P:Program} {ty:TypeId} {i:TypeInfo} {w:World} {b off tb:Nat} {cs:Array Value} {vs:List Value} {v:Value} (hb:w.heap[b]? =some (.cells cs tb (0,0))) (hi:P.info? ty=some i)
  (hn:i.size=vs.length) (hv:v.cells=vs.toArray) (hone:∀v∈vs,v.oneCell'=true) (ho:off+vs.length≤cs.size):
  (Instr.storeAt ty (.pointer (some ⟨b,off,none⟩)) v).run P w= .ok () {w with heap:=w.heap.setIfInBounds b (.cells (spl cs off vs) tb (0,0))}:=by
 have hcell:∀j,j<vs.length→(w.cell? ⟨b,off+0+j,none⟩).isSome=true:=fun j hj=>by
  have:off+j<cs.size:=by omega
  simp[World.cell?,hb,this]
 have hfrz:∀j,j<vs.length→w.frozen? ⟨b,off+0+j,none⟩=false:=fun j hj=>by
  simp[World.frozen?,hb]
 have:=run_storeCells_cells (P:=P) b off vs 0 w hcell hfrz hone
 rw[Nat.add_zero,setCells_block vs off w cs hb ho] at this
 simp[Instr.storeAt,Instr.sureAddr,Sem.run_bind,storeVar,sizeOf,typeInfo,hi,hn,hv,this]
theorem lt_size {k:K} {m:M} (h:Mem k m) {b:Nat} (hb:m.col b≠ .free):b<m.h.size:=by
 rcases zJ b m.h.size with h'|h'
 ·exact h'
 ·exact absurd ((h.free b).1 h') hb
section turn1
variable {k:K} {g:G} {m m':M}
theorem turn1_keeps (hr:Rel k g m) {s:Nat} (hs:s<g.length) (u:Turn) {e:Ent} (hσ:∀x,x≠s→m'.σ x=m.σ x) (hc:∀x,x≠s→m'.c x=m.c x)
  (hcol:∀b,b<m.h.size→(∀v,(m.col b).own=some v→v≠s∧v<PAR)→m'.h[b]? =m.h[b]? ∧m'.col b=m.col b) (hkeep:Keep g (u.of g s e) m m' s):
  (∀x,Keep g (u.of g s e) m m' x)∧Stays m m'∧∀x,x≠s→x<PAR→Phys m m' x:=by
 have hstays:Stays m m':=fun b hb=>by
  have:=hcol b (lt_size hr.mem (by rw[hb];simp)) (by rw[hb];simp[Color.own])
  exact ⟨this.1,this.2.trans hb⟩
 have hphys:∀x,x≠s→x<PAR→Phys m m' x:=fun x hx hp=>⟨hc x hx,hσ x hx,fun b hb=>hcol b (lt_size hr.mem fun e=>by rw[e] at hb;simp[Color.own] at hb) fun v hv=>by
  rw[hb] at hv;cases hv;exact ⟨hx,hp⟩⟩
 refine ⟨fun x=> ?_,hstays,hphys⟩
 by_cases hx:x=s
 ·subst hx;exact hkeep
 rcases zJ x PAR with hp|hp
 ·exact (hphys x hx hp).keep hr (u.at_ne hx) hstays
 ·have hnone:g.ent x= .none:=by
   have:=hr.small
   unfold G.ent;rw[at_out (by omega)]
  have hroot:∀o,root g m x o=none:=fun o=>by
   unfold root
   rw[hnone]
   simp[conc]
  have hroot':∀o,root (u.of g s e) m' x o=none:=fun o=>by
   unfold root
   rw[u.ent_ne hx,hnone]
   simp[conc]
  refine ⟨fun _=>hc x hx,fun _ o d v h=>(by rw[hroot] at h;cases h),fun _ o d v ix d1 v1 h=>(by rw[hroot] at h;cases h),fun _=>⟨hσ x hx,fun o=>by rw[hroot,hroot'],fun b o π hb=> ?_⟩⟩
  have:=(hr.mem.arr b x o π hb).1
  omega
theorem Step.turn1 (hr:Rel k g m) {s:Nat} (hs:s<g.length) (u:Turn) {e:Ent} (hσ:∀x,x≠s→m'.σ x=m.σ x) (hc:∀x,x≠s→m'.c x=m.c x) (hmem:Mem k m')
  (hcol:∀b,b<m.h.size→(∀v,(m.col b).own=some v→v≠s∧v<PAR)→m'.h[b]? =m.h[b]? ∧m'.col b=m.col b) (hkeep:Keep g (u.of g s e) m m' s)
  (hent:EntWf (u.of g s e) e∧EntOk k (u.of g s e) m' s e):Step k g m (u.of g s e) m' (fun x=>x=s∨PAR≤x):=by
 obtain ⟨h1,h2,h3⟩:=turn1_keeps hr hs u hσ hc hcol hkeep
 refine ⟨u.older g s e,u.length,h2,hmem,fun x hx=> ?_,fun x _=>h1 x,fun x hx=> ?_⟩
 ·simp only[not_or] at hx
  exact ⟨u.at_ne hx.1,h3 x hx.1 (by omega)⟩
 ·by_cases hxs:x=s
  ·subst hxs
   rw[u.ent_self hs]
   exact hent
  ·have hp:PAR≤x:=by rcases hx with hx|hx;exact absurd hx hxs;exact hx
   have hnone:g.ent x= .none:=by
    have:=hr.small
    unfold G.ent;rw[at_out (by omega)]
   rw[u.ent_ne hxs,hnone]
   exact ⟨trivial,trivial⟩
end turn1
theorem Mem.set {k:K} {m:M} (h:Mem k m) {b s ty:Nat} {cs':Array Value} (hown:(m.col b).own=some s):
  Mem k {m with h:=m.h.setIfInBounds b (.cells cs' ty (0,0))}:=by
 have hlt:b<m.h.size:=lt_size h (fun e=>by rw[e] at hown;simp[Color.own] at hown)
 have key:∀b':Nat,(∃cs ty,m.h[b']? =some (Obj.cells cs ty (0,0)))→∃cs ty',(m.h.setIfInBounds b (Obj.cells cs' ty (0,0)))[b']? =some (Obj.cells cs ty' (0,0)):=by
  rintro b' ⟨cs,ty',hb⟩
  by_cases e:b=b'
  ·subst e;exact ⟨cs',ty,Array.getElem?_setIfInBounds_self_of_lt hlt⟩
  ·exact ⟨cs,ty',by rw[Array.getElem?_setIfInBounds_ne e,hb]⟩
 refine ⟨by simpa using h.size,fun b'=>by simpa using h.free b',h.fresh,fun b' s o π hb=>⟨(h.arr b' s o π hb).1,key b' (h.arr b' s o π hb).2⟩,fun b' v π hb=>⟨(h.lm b' v π hb).1,key b' (h.lm b' v π hb).2⟩,
  fun b' s hb=>key b' (h.bx b' s hb),fun b' hb=> ?_⟩
 obtain ⟨h1,h2⟩:=h.kept b' hb
 refine ⟨?_,h2⟩
 have e:b≠b':=fun e=>by subst e;rw[h2] at hown;simp[Color.own] at hown
 show (m.h.setIfInBounds b _)[b']? =_
 rw[Array.getElem?_setIfInBounds_ne e,h1]
theorem conc_same {k:K} {g:G} {m:M} (hr:Rel k g m) {s:Nat} {h':Array Obj} (hbx:∀b,m.col b= .box s→h'[b]? =m.h[b]?) (hp:m.σ s≠[]):conc h' (g.ent s) (m.c s)=conc m.h (g.ent s) (m.c s):=by
 have hE:=hr.ent s
 cases e:g.ent s<;>rw[e] at hE<;>try rfl
 rcases hE with hE|⟨b,cs,h1,h2,h3,h4⟩
 ·exact absurd hE hp
 ·simp only[conc,boxCells,h1,hbx b h2]
theorem EntOk.recells' {k:K} {g g':G} {m m':M} {s:Nat} {e:Ent} {ts ts':List Tag} (he:entTags e=some ts) (h:EntOk k g m s e)
  (hc:m'.c s=m.c s) (hσ:m.σ s=[]→m'.σ s=[]) (hb:∀b,m.col b= .box s→m'.h[b]? =m.h[b]? ∧m'.col b= .box s)
  (hcs:∀vs,conc m.h e (m.c s)=some vs→CellsOk k g m s ts vs→CellsOk k g' m' s ts' vs):EntOk k g' m' s (e.withTags ts'):=by
 cases e<;>simp[entTags] at he
 ·subst he
  rcases h with h|⟨vs,h1,h2⟩
  ·exact .inl (hσ h)
  ·exact .inr ⟨vs,by rw[hc];exact h1,hcs vs h1 h2⟩
 ·subst he
  rcases h with h|⟨b,cs,h1,h2,h3,h4⟩
  ·exact .inl (hσ h)
  ·exact .inr ⟨b,cs,by rw[hc];exact h1,(hb b h2).2,by rw[(hb b h2).1];exact h3,hcs _ (by simp[conc,boxCells,h1,h3]) h4⟩
theorem root_split {g:G} {m:M} {s o:Nat} {d:D} {v:Value} (h:root g m s o=some (d,v)):(m.σ s)[o]? =some d∧(conc m.h (g.ent s) (m.c s)).bind (·[o]?)=some v:=by
 unfold root at h
 split at h
 ·rename_i e1 e2;simp at h;exact ⟨by rw[e1,h.1],by rw[e2,h.2]⟩
 ·cases h
def elemCol (col:Nat→Color) (s o:Nat) (ix:List (Nat×Nat)) (i off v len N:Nat):Nat→Color:=fun b=>
 match col b with
 | .lim u π=>if v≤u∧u<v+len then (if owns N (ix.length+1+π.length)=true then .arr s o (ix++(i,off+(u-v))::π) else .stable) else .lim u π
 | .arr s' o' π=>if s'=s∧o'=o∧owns N π.length=false then .stable else .arr s' o' π
 |c=>c
section elemCol
variable {col:Nat→Color} {s o i off v len N b:Nat} {ix:List (Nat×Nat)}
theorem elemCol_same (h1:(col b).own≠some s) (h2:∀u π,col b= .lim u π→u<v):elemCol col s o ix i off v len N b=col b:=by
 unfold elemCol
 split
 ·rename_i u π e
  have:=h2 u π e
  rw[if_neg (by omega),e]
 ·rename_i s' o' π e
  rw[if_neg,e]
  rintro ⟨rfl,_⟩
  exact h1 (by rw[e];rfl)
 ·rfl
theorem elemCol_arr {π:List (Nat×Nat)} {o':Nat} (h:col b= .arr s o' π) (hn:o'≠o∨owns N π.length=true):elemCol col s o ix i off v len N b= .arr s o' π:=by
 unfold elemCol
 rw[h]
 simp only
 rw[if_neg]
 rintro ⟨_,e1,e2⟩
 rcases hn with hn|hn
 ·exact hn e1
 ·rw[hn] at e2;cases e2
theorem elemCol_low {π:List (Nat×Nat)} (h:col b= .arr s o π) (hn:owns N π.length=false):elemCol col s o ix i off v len N b= .stable:=by
 unfold elemCol
 rw[h]
 simp[hn]
theorem elemCol_lim {π:List (Nat×Nat)} {j:Nat} (h:col b= .lim (v+j) π) (hj:j<len):
  elemCol col s o ix i off v len N b=if owns N (ix.length+1+π.length)=true then .arr s o (ix++(i,off+j)::π) else .stable:=by
 unfold elemCol
 rw[h]
 simp only
 rw[if_pos (by omega)]
 have:v+j-v=j:=by omega
 rw[this]
end elemCol
theorem setAt_sl {d d':D} {ix:List (Nat×Nat)} {f:D→Option D} {sz0:Nat} {rows0:List (List D)} (hd:d= .sl sz0 rows0) (h:d.setAt ix f=some d')
  (hf:ix=[]→∀x,f d=some x→∃rows',x= .sl sz0 rows'):∃rows',d'= .sl sz0 rows':=by
 subst hd
 cases ix with
 |nil=>exact hf rfl d' (by simpa[D.setAt] using h)
 |cons p ix=>
  obtain ⟨i,o⟩:=p
  simp only[D.setAt] at h
  split at h
  ·split at h
   ·split at h
    ·simp at h;exact ⟨_,h.symm⟩
    ·cases h
   ·cases h
  ·cases h
theorem loc_sl {h:Array Obj} {col:Nat→Color} {s o:Nat} {π ix:List (Nat×Nat)} {d:D} {v:Value} {sz:Nat} {rows:List (List D)} {x:Value} (hl:loc h col s o π d v ix=some (.sl sz rows,x)):∃sz0 rows0,d= .sl sz0 rows0:=by
 cases ix with
 |nil=>rw[loc_nil] at hl;simp at hl;exact ⟨_,_,hl.1⟩
 |cons p ix=>
  unfold loc at hl
  split at hl
  ·simp_all
  ·exact ⟨_,_,rfl⟩
  ·cases hl
theorem set_cells {row:List D} {off:Nat} {ds:List D} (h:off+ds.length≤row.length) {q:Nat}:(setCells row off ds)[q]? =if q<off then row[q]? else if q<off+ds.length then ds[q-off]? else row[q]? :=by
 simp only[setCells]
 by_cases h1:q<off
 ·rw[if_pos h1,zI (by simp;omega),zI (by simp;omega),List.getElem?_take,if_pos h1]
 ·rw[if_neg h1]
  by_cases h2:q<off+ds.length
  ·rw[if_pos h2,zI (by simp;omega),zH (by simp;omega)]
   congr 1
   simp;omega
  ·rw[if_neg h2,zH (by simp;omega),List.getElem?_drop]
   congr 1
   simp;omega
theorem set_cells_len {row:List D} {off:Nat} {ds:List D} (h:off+ds.length≤row.length):(setCells row off ds).length=row.length:=by
 simp[setCells];omega
theorem O.written {h h':Array Obj} {good good':Good} {sz:Nat} {rows:List (List D)} {b off1 len cap:Nat} {cs:Array Value} {ty:Nat} {fr fr':Nat×Nat} (ho:O h good (.sl sz rows) (.slice (some ⟨b,off1,none⟩) len cap)) (hb:h[b]? =some (.cells cs ty fr))
  {i off:Nat} {row:List D} (hrow:rows[i]? =some row) {ds:List D} {xs:List Value} (hlen:xs.length=ds.length) (hoff:off+ds.length≤row.length) (hb':h'[b]? =some (.cells (spl cs (off1+i*sz+off) xs) ty fr')) (hg:good' [] b)
  (hold:∀i' q π b',(i'≠i∨q<off∨off+ds.length≤q)→good ((i',q)::π) b'→h'[b']? =h[b']? ∧good' ((i',q)::π) b')
  (hnew:∀j d x,ds[j]? =some d→xs[j]? =some x→O h' (good'.sub i (off+j)) d x):O h' good' (.sl sz (rows.set i (setCells row off ds))) (.slice (some ⟨b,off1,none⟩) len cap):=by
 have hi:i<rows.length:=(zE.1 hrow).1
 cases ho with
 |emp=>simp at hi
 |sl _ hb0 hl hc hsz hr he=>
  rw[hb] at hb0
  cases hb0
  have hrl:row.length=sz:=hr i row hrow
  have hcap:i*sz+sz≤cap*sz:=by
   have:=zR sz (show i+1≤cap by omega)
   rw[Nat.add_mul] at this
   omega
  have hspl:off1+i*sz+off+xs.length≤cs.size:=by omega
  refine .sl hg hb' (by simpa using hl) hc (by rw[spl_size hspl];exact hsz) ?_ ?_
  ·intro j r hj
   by_cases e:i=j
   ·subst e
    rw[zO hi] at hj
    simp at hj
    subst hj
    rw[set_cells_len hoff];exact hrl
   ·rw[zN e] at hj
    exact hr j r hj
  ·intro i' q d hd
   obtain ⟨r,hr1,hr2⟩:=cellAt_lt hd
   have hq:q<sz:=by
    have hql:q<r.length:=(zE.1 hr2).1
    by_cases e:i=i'
    ·subst e
     rw[zO hi] at hr1
     simp at hr1
     subst hr1
     rw[set_cells_len hoff] at hql
     omega
    ·rw[zN e] at hr1
     have:=hr i' r hr1
     omega
   by_cases e:i'=i
   ·subst e
    rw[zO hi] at hr1
    simp at hr1
    subst hr1
    rw[set_cells hoff] at hr2
    by_cases c1:q<off
    ·rw[if_pos c1] at hr2
     rw[spl_out hspl (by omega)]
     exact (he i' q d (by simp[cellAt,hrow,hr2])).frame fun π b' hg'=>hold i' q π b' (by omega) hg'
    ·rw[if_neg c1] at hr2
     by_cases c2:q<off+ds.length
     ·rw[if_pos c2] at hr2
      have hx:xs[q-off]? =some (xs[q-off]'(by omega)):=zB (by omega)
      have e1:off1+i'*sz+q=off1+i'*sz+off+(q-off):=by omega
      have e2:q=off+(q-off):=by omega
      rw[e1,spl_in hspl hx]
      have:=hnew (q-off) d _ hr2 hx
      rw[← e2] at this
      exact this
     ·rw[if_neg c2] at hr2
      rw[spl_out hspl (by omega)]
      exact (he i' q d (by simp[cellAt,hrow,hr2])).frame fun π b' hg'=>hold i' q π b' (by omega) hg'
   ·rw[zN (Ne.symm e)] at hr1
    have hout:off1+i'*sz+q<off1+i*sz+off∨off1+i*sz+off+xs.length≤off1+i'*sz+q:=by
     rcases zJ i' i with h1|h1
     ·left
      have:=zR sz (show i'+1≤i by omega)
      rw[Nat.add_mul] at this
      omega
     ·right
      have:=zR sz (show i+1≤i' by omega)
      rw[Nat.add_mul] at this
      omega
    rw[spl_out hspl hout]
    exact (he i' q d (by simp[cellAt,hr1,hr2])).frame fun π b' hg'=>hold i' q π b' (by omega) hg'
section
variable {k:K} {g:G} {m:M}
theorem Step.elem (hr:Rel k g m) {s o n N:Nat} {rs R:Rts} {ts:List Tag} (ht:entTags (g.ent s)=some ts) (hto:ts[o]? =some (.own n rs)) {ix:List (Nat×Nat)} {d0:D} {v0:Value} (hroot:root g m s o=some (d0,v0))
  {sz:Nat} {rows:List (List D)} {b off1 len cap:Nat} (hloc:loc m.h m.col s o [] d0 v0 ix=some (.sl sz rows, .slice (some ⟨b,off1,none⟩) len cap)) (hcur:curR g rs=true)
  {i off:Nat} {row:List D} (hrow:rows[i]? =some row) {ds:List D} {xs:List Value} (hlen:xs.length=ds.length) (hoff:off+ds.length≤row.length) (hone:∀x∈xs,x.oneCell'=true) {v:Nat} (hv:PAR≤v) {ns:Nat→Nat} {rss:Nat→Rts}
  (held:∀(j:Nat) (d:D) (x:Value),ds[j]? =some d→xs[j]? =some x→Held k m (v+j) (ns j) (rss j) d x)
  (hN:∀a,owns N a=true→owns n a=true) (hN1:owns N ix.length=true) (hN2:∀j a,j<ds.length→owns N (ix.length+1+a)=true→owns (ns j) a=true)
  (hR1:∀r∈rs,r∈R) (hR2:∀j,j<ds.length→∀r∈rss j,r∈R) (hRw:WfR g R)
  {f:D→Option D} (hf:f (.sl sz rows)=some (.sl sz (rows.set i (setCells row off ds)))) {d0':D} (hset:d0.setAt ix f=some d0') {cs:Array Value} {tb:Nat} (hb:m.h[b]? =some (.cells cs tb (0,0))):
  Step k g m (Turn.elm.of g s ((g.ent s).withTags (ts.set o (.own N R))))
   ⟨m.σ.upd s ((m.σ s).set o d0'),m.c,m.h.setIfInBounds b (.cells (spl cs (off1+i*sz+off) xs) tb (0,0)),elemCol m.col s o ix i off v ds.length N⟩ (fun x=>x=s∨PAR≤x):=by
 have hs:s<g.length:=lt_of_ent fun e=>by rw[e] at ht;cases ht
 have hsp:s<PAR:=Nat.lt_of_lt_of_le hs hr.small
 have hO0:=(root_cell hr hroot ht hto).2 hcur
 have hnode:=O.at ix [] hO0 hloc
 have hcb:m.col b= .arr s o ix:=by
  have hg:gd k m.col s o n rs (ix++[]) b:=by cases hnode with|sl hg=>exact hg|emp=>simp at hrow
  unfold gd at hg
  simp only[List.append_nil,hN _ hN1,if_true] at hg
  exact hg
 have hbl:b<m.h.size:=lt_size hr.mem (by rw[hcb];simp)
 generalize hC:elemCol m.col s o ix i off v ds.length N=col'
 generalize hH:m.h.setIfInBounds b (Obj.cells (spl cs (off1+i*sz+off) xs) tb (0,0))=h'
 have hne:∀b':Nat,b'≠b→h'[b']? =m.h[b']? :=fun b' e=>by rw[← hH,Array.getElem?_setIfInBounds_ne (Ne.symm e)]
 have hself:h'[b]? =some (Obj.cells (spl cs (off1+i*sz+off) xs) tb (0,0)):=by rw[← hH,Array.getElem?_setIfInBounds_self_of_lt hbl]
 obtain ⟨hσ0,hv0⟩:=root_split hroot
 have hol:o<(m.σ s).length:=(zE.1 hσ0).1
 have hpres:m.σ s≠[]:=fun e=>by rw[e] at hol;simp at hol
 have holder:=Turn.older .elm g s ((g.ent s).withTags (ts.set o (.own N R)))
 have hmem':=entTags_mem hr ht
 have hcolo:∀b',(∀v',(m.col b').own=some v'→v'≠s∧v'<PAR)→h'[b']? =m.h[b']? ∧col' b'=m.col b':=fun b' hown=>by
  refine ⟨hne b' fun e=> ?_,?_⟩
  ·subst e;exact (hown s (by rw[hcb];rfl)).1 rfl
  ·rw[← hC]
   exact elemCol_same (fun e=>(hown s e).1 rfl) fun u π e=>by have:=(hown u (by rw[e];rfl)).2;omega
 have hbx:∀b',m.col b'= .box s→h'[b']? =m.h[b']? ∧col' b'= .box s:=fun b' hb'=>by
  refine ⟨hne b' (fun e=>by subst e;rw[hcb] at hb';cases hb'),?_⟩
  rw[← hC]
  unfold elemCol
  rw[hb']
 have hroots:∀q,root (Turn.elm.of g s ((g.ent s).withTags (ts.set o (.own N R)))) ⟨m.σ.upd s ((m.σ s).set o d0'),m.c,h',col'⟩ s q=
   match ((m.σ s).set o d0')[q]?,(conc m.h (g.ent s) (m.c s)).bind (·[q]?) with|some d,some v=>some (d,v)|_,_=>none:=fun q=>by
  unfold root
  rw[Turn.ent_self .elm hs,conc_withTags ht,conc_same hr (fun b' hb'=>(hbx b' hb').1) hpres]
  simp[St.upd]
  rfl
 obtain ⟨sz0,rows0,hd0⟩:=loc_sl hloc
 have hkin:∃rows',d0'= .sl sz0 rows':=setAt_sl hd0 hset fun e x hx=>by
  subst e
  rw[loc_nil] at hloc
  simp at hloc
  rw[hloc.1,hf] at hx
  cases hx
  have:=hd0.symm.trans hloc.1
  cases this
  exact ⟨_,rfl⟩
 obtain ⟨rows0',hd0'⟩:=hkin
 have hkeep:Keep g (Turn.elm.of g s ((g.ent s).withTags (ts.set o (.own N R)))) m ⟨m.σ.upd s ((m.σ s).set o d0'),m.c,h',col'⟩ s:=Keep.elmSelf hs rfl fun q d x h hfl=>by
  rw[hroots]
  obtain ⟨e1,e2⟩:=root_split h
  by_cases hq:q=o
  ·subst hq
   rw[hσ0] at e1
   cases e1
   rw[zO hol,e2]
   refine ⟨d0',rfl,by rw[hd0'];rfl,fun sz' r' e=> ?_⟩
   rw[hd0] at e
   cases e
   exact ⟨rows0',hd0'⟩
  ·rw[zN (Ne.symm hq),e1,e2]
   exact ⟨d,rfl, .refl hfl⟩
 have hmem:Mem k ⟨m.σ.upd s ((m.σ s).set o d0'),m.c,h',col'⟩:=by
  have h1:Mem k {m with h:=h'}:=by rw[← hH];exact hr.mem.set (s:=s) (by rw[hcb];rfl)
  refine h1.turn rfl fun b'=> ?_
  show col' b'=m.col b'∨((m.col b').own≠none∧(col' b'= .stable∨((col' b').celled∧(m.col b').celled)))
  rw[← hC]
  cases e:m.col b' with
  |lim u π=>
   by_cases hu:v≤u∧u<v+ds.length
   ·have e':m.col b'= .lim (v+(u-v)) π:=by rw[e];congr 1;omega
    refine .inr ⟨by simp[Color.own],?_⟩
    rw[elemCol_lim e' (by omega)]
    split
    ·exact .inr ⟨.inl ⟨s,o,_,hsp,rfl⟩, .inr (.inl ⟨u,π,by omega,rfl⟩)⟩
    ·exact .inl rfl
   ·left;unfold elemCol;rw[e];simp only;rw[if_neg hu]
  |arr s' o' π=>
   by_cases hc:s'=s∧o'=o∧owns N π.length=false
   ·refine .inr ⟨by simp[Color.own], .inl ?_⟩
    unfold elemCol;rw[e];simp only;rw[if_pos hc]
   ·left;unfold elemCol;rw[e];simp only;rw[if_neg hc]
  |free=>left;unfold elemCol;rw[e]
  |stable=>left;unfold elemCol;rw[e]
  |box s'=>left;unfold elemCol;rw[e]
  |mp s'=>left;unfold elemCol;rw[e]
 have hσo:∀x,x≠s→(m.σ.upd s ((m.σ s).set o d0')) x=m.σ x:=fun x hx=>by simp[St.upd,hx]
 obtain ⟨hks,hstays,_⟩:=turn1_keeps (m':=⟨m.σ.upd s ((m.σ s).set o d0'),m.c,h',col'⟩) hr hs .elm hσo (fun _ _=>rfl) (fun b' _=>hcolo b') hkeep
 refine Step.turn1 hr hs .elm hσo (fun _ _=>rfl) hmem (fun b' _=>hcolo b') hkeep ⟨?_,?_⟩
 ·have:∀t∈ts.set o (.own N R),TagWf (Turn.elm.of g s ((g.ent s).withTags (ts.set o (.own N R)))) t:=by
   intro t h
   rcases List.mem_or_eq_of_mem_set h with h|rfl
   ·exact (hmem' t h).older holder
   ·exact TagWf.older (t:= .own N R) holder hRw
  cases he:g.ent s<;>rw[he] at ht this<;>simp[entTags] at ht<;>exact this
 ·refine EntOk.recells' ht (hr.ent s) rfl (fun h=>absurd h hpres) hbx fun vs hconc hcs=> ?_
  refine ⟨by simpa using hcs.1,by simpa[St.upd] using hcs.2.1,hcs.2.2.1,fun q t d x h1 h2 h3=> ?_⟩
  simp only[St.upd,if_true] at h2
  by_cases hq:q=o
  ·subst hq
   have:=set_same_len h1
   subst this
   have hd:=set_same_len h2
   subst hd
   refine ⟨by rw[hd0'];rfl,fun hcR=> ?_⟩
   obtain ⟨c1,c2⟩:=curR_back holder hRw hcR
   have hne2:∀r∈R,r.1≠s:=fun r hr' e=>by
    have:=c2 r hr'
    rw[e] at this
    exact Turn.ver_self .elm (by simp) hs this
   have hx:x=v0:=by
    rw[hconc] at hv0
    simp only[Option.bind_some] at hv0
    rw[h3] at hv0
    exact zU hv0
   subst hx
   have deep:∀b' rs',(∀r∈rs',r∈R)→deepOk k m.col rs' b'→h'[b']? =m.h[b']? ∧deepOk k col' R b':=fun b' rs' hsub hd=>by
    rcases hd with ⟨e1,e2⟩|⟨r,e1,π',e2⟩
    ·have:=hcolo b' (by rw[e1];simp[Color.own])
     refine ⟨this.1, .inl ⟨this.2.trans e1,?_⟩⟩
     rcases e2 with e2|⟨r,e3,j,e4⟩
     ·exact .inl e2
     ·exact .inr ⟨r,hsub r e3,j,e4⟩
    ·have hrp:=(hr.mem.arr b' _ _ _ e2).1
     have:=hcolo b' (fun v' hv'=>by rw[e2] at hv';cases hv';exact ⟨hne2 r (hsub r e1),hrp⟩)
     exact ⟨this.1, .inr ⟨r,hsub r e1,π',this.2.trans e2⟩⟩
   have arrs:∀b' π',m.col b'= .arr s q π'→(owns N π'.length=true→col' b'= .arr s q π')∧(owns N π'.length=false→col' b'= .stable):=fun b' π' hb'=>by
    rw[← hC]
    exact ⟨fun h=>elemCol_arr hb' (.inr h),fun h=>elemCol_low hb' h⟩
   have old:∀π' b',π'≠ix→gd k m.col s q n rs π' b'→h'[b']? =m.h[b']? ∧gd k col' s q N R π' b':=fun π' b' hπ hg=>by
    unfold gd at hg ⊢
    by_cases o1:owns n π'.length=true
    ·rw[if_pos o1] at hg
     have hbne:b'≠b:=fun e=>by subst e;rw[hcb] at hg;cases hg;exact hπ rfl
     refine ⟨hne b' hbne,?_⟩
     by_cases o2:owns N π'.length=true
     ·rw[if_pos o2];exact (arrs b' π' hg).1 o2
     ·rw[if_neg o2]
      exact .inl ⟨(arrs b' π' hg).2 (by simpa using o2), .inl (hr.mem.fresh b' s (by rw[hg];rfl))⟩
    ·rw[if_neg o1] at hg
     have o2:¬ owns N π'.length=true:=fun h=>o1 (hN _ h)
     rw[if_neg o2]
     exact deep b' rs hR1 hg
   refine O.node ix [] hO0 hloc hset (fun π' b' hp hg=> ?_) fun d1' hd1=> ?_
   ·exact old π' b' (fun e=>hp (e ▸ List.prefix_refl _)) hg
   ·rw[hf] at hd1
    cases hd1
    refine O.written hnode hb hrow hlen hoff hself ?_ (fun i' q' π' b' _ hg=> ?_) fun j d x hd hx=> ?_
    ·show gd k col' s q N R (ix++[]) b
     unfold gd
     rw[List.append_nil,if_pos hN1]
     exact (arrs b ix hcb).1 hN1
    ·exact old _ b' (by simp) hg
    ·have hj:j<ds.length:=(zE.1 hd).1
     refine (held j d x hd hx).frame fun π' b' hg=> ?_
     show h'[b']? =m.h[b']? ∧gd k col' s q N R (ix++(i,off+j)::π') b'
     unfold gl at hg
     unfold gd
     have hl:(ix++(i,off+j)::π').length=ix.length+1+π'.length:=by simp;omega
     rw[hl]
     by_cases o1:owns (ns j) π'.length=true
     ·rw[if_pos o1] at hg
      have hbne:b'≠b:=fun e=>by subst e;rw[hcb] at hg;cases hg
      refine ⟨hne b' hbne,?_⟩
      have e1:=elemCol_lim (s:=s) (o:=q) (i:=i) (off:=off) (N:=N) (ix:=ix) hg hj
      rw[hC] at e1
      by_cases o2:owns N (ix.length+1+π'.length)=true
      ·rw[if_pos o2] at e1 ⊢;exact e1
      ·rw[if_neg o2] at e1 ⊢
       exact .inl ⟨e1, .inl (hr.mem.fresh b' _ (by rw[hg];rfl))⟩
     ·rw[if_neg o1] at hg
      have o2:¬ owns N (ix.length+1+π'.length)=true:=fun h=>o1 (hN2 j _ hj h)
      rw[if_neg o2]
      exact deep b' _ (hR2 j hj) hg
  ·rw[zN (Ne.symm hq)] at h1 h2
   refine CellOk.keep (m:=m) hr.mem holder hks hstays (fun b' π hb'=> ?_) (hmem' t (zF h1)) (hcs.2.2.2 q t d x h1 h2 h3)
   refine ⟨hne b' (fun e=>by subst e;rw[hcb] at hb';cases hb';exact hq rfl),?_⟩
   rw[hb',← hC]
   exact elemCol_arr hb' (.inl hq)
end
theorem loc_frame2 {h h':Array Obj} {col:Nat→Color} {s o:Nat}:∀(jx π:List (Nat×Nat)) {d d1:D} {v v1:Value},loc h col s o π d v jx=some (d1,v1)→
  (∀ρ b,π<+:ρ→okB col s o ρ b=true→h'[b]? =h[b]?)→loc h' col s o π d v jx=some (d1,v1):=by
 intro jx
 induction jx with
 |nil=>intro π d d1 v v1 hl _;rw[loc_nil] at hl ⊢;exact hl
 |cons p jx ih=>
  obtain ⟨i,q⟩:=p
  intro π d d1 v v1 hl hf
  unfold loc at hl
  split at hl
  ·simp_all
  ·rename_i π' sz rows a _ _ i' o' w heq
   simp at heq
   obtain ⟨⟨rfl,rfl⟩,rfl⟩:=heq
   split at hl
   ·rename_i hok
    split at hl
    ·rename_i d2 cs _ _ hc hb
     have e:=hf _ _ (List.prefix_refl _) hok
     rw[← e] at hb
     simp only[loc,hok,if_true,hc,hb]
     exact ih _ hl fun ρ b hp=>hf ρ b ((List.prefix_append _ _).trans hp)
    ·cases hl
   ·cases hl
  ·cases hl
theorem loc_flat {h:Array Obj} {col:Nat→Color} {s o:Nat} {π jx:List (Nat×Nat)} {d d1:D} {v v1:Value} (hf:d.flat=true) (hl:loc h col s o π d v jx=some (d1,v1)):d1.flat=true:=by
 cases jx with
 |nil=>rw[loc_nil] at hl;simp at hl;rw[← hl.1];exact hf
 |cons p jx=>cases d<;>simp[D.flat] at hf<;>simp[loc] at hl
theorem okB_eq {col:Nat→Color} {s o b:Nat} {ρ ρ':List (Nat×Nat)} (h:okB col s o ρ b=true) (hc:col b= .arr s o ρ'):ρ=ρ':=by
 unfold okB at h
 rw[hc] at h
 simp at h
 exact h.symm
theorem loc_written {h h':Array Obj} {col:Nat→Color} {s o:Nat} {sz:Nat} {rows:List (List D)} {b off1 len cap:Nat} {cs cs':Array Value} {ty ty':Nat} {fr fr':Nat×Nat} (hb:h[b]? =some (.cells cs ty fr)) (hb':h'[b]? =some (.cells cs' ty' fr'))
  (hne:∀b':Nat,b'≠b→h'[b']? =h[b']?) {f:D→Option D} {rows':List (List D)} (hf:f (.sl sz rows)=some (.sl sz rows'))
  (hcell:∀i q d,cellAt rows i q=some d→d.flat=false→cellAt rows' i q=some d∧cs'.getD (off1+i*sz+q) undef=cs.getD (off1+i*sz+q) undef):
  ∀(ix π jx:List (Nat×Nat)) {d d' d1:D} {v v1:Value},loc h col s o π d v ix=some (.sl sz rows, .slice (some ⟨b,off1,none⟩) len cap)→col b= .arr s o (π++ix)→d.setAt ix f=some d'→
   loc h col s o π d v jx=some (d1,v1)→d1.flat=false→∃d1',loc h' col s o π d' v jx=some (d1',v1)∧Kin d1 d1':=by
 intro ix
 induction ix with
 |nil=>
  intro π jx d d' d1 v v1 hl hcb hset hj hfl
  rw[loc_nil] at hl
  simp at hl
  obtain ⟨rfl,rfl⟩:=hl
  have hd':d'= .sl sz rows':=by
   have:f (.sl sz rows)=some d':=by simpa[D.setAt] using hset
   rw[hf] at this
   exact (zU this).symm
  subst hd'
  rw[List.append_nil] at hcb
  cases jx with
  |nil=>
   rw[loc_nil] at hj ⊢
   simp at hj
   obtain ⟨rfl,rfl⟩:=hj
   exact ⟨_,rfl,rfl,fun sz' r e=>by cases e;exact ⟨rows',rfl⟩⟩
  |cons p jx=>
   obtain ⟨i,q⟩:=p
   simp only[loc] at hj
   split at hj
   ·rename_i hok
    split at hj
    ·rename_i d2 cs2 _ _ hc hb2
     rw[hb] at hb2
     cases hb2
     have hfl2:d2.flat=false:=by
      cases e:d2.flat with
      |false=>rfl
      |true=>rw[loc_flat e hj] at hfl;exact hfl
     obtain ⟨h1,h2⟩:=hcell i q d2 hc hfl2
     refine ⟨d1,?_, .refl hfl⟩
     simp only[loc,hok,if_true,h1,hb',h2]
     refine loc_frame2 jx _ hj fun ρ b' hp hok'=>hne b' fun e=> ?_
     subst e
     have:=okB_eq hok' hcb
     subst this
     have:=hp.length_le
     simp at this
     omega
    ·cases hj
   ·cases hj
 |cons p ix ih=>
  obtain ⟨i,q⟩:=p
  intro π jx d d' d1 v v1 hl hcb hset hj hfl
  cases jx with
  |nil=>
   rw[loc_nil] at hj
   simp at hj
   obtain ⟨rfl,rfl⟩:=hj
   obtain ⟨sz0,rows0,e⟩:=loc_sl hl
   obtain ⟨rows1,e1⟩:=setAt_sl e hset fun e=>by cases e
   exact ⟨d',loc_nil _ _ _,by rw[e1];rfl,fun sz' r e'=>by rw[e] at e';cases e';exact ⟨rows1,e1⟩⟩
  |cons p2 jx=>
   obtain ⟨i2,q2⟩:=p2
   unfold loc at hl
   split at hl
   ·simp_all
   ·rename_i π' sz0 rows0 a _ _ i' o' w heq
    simp at heq
    obtain ⟨⟨rfl,rfl⟩,rfl⟩:=heq
    split at hl
    ·rename_i hok
     split at hl
     ·rename_i x cs0 ty0 fr0 hc hb0
      have hab:a.block≠b:=fun e=>by
       rw[e] at hok
       have:=okB_eq hok hcb
       simp at this
      have hb0':h'[a.block]? =some (.cells cs0 ty0 fr0):=by rw[hne _ hab,hb0]
      obtain ⟨row,hr1,hr2⟩:=cellAt_lt hc
      simp only[D.setAt,hr1,hr2] at hset
      split at hset
      ·rename_i x' hx'
       cases hset
       have hil:i<rows0.length:=(zE.1 hr1).1
       have hql:q<row.length:=(zE.1 hr2).1
       simp only[loc,hok,if_true] at hj
       by_cases e:(i2,q2)=(i,q)
       ·cases e
        simp only[hc,hb0] at hj
        obtain ⟨d1',g1,g2⟩:=ih _ jx hl (by simpa using hcb) hx' hj hfl
        refine ⟨d1',?_,g2⟩
        have hc':cellAt (rows0.set i (row.set q x')) i q=some x':=by simp[cellAt,hil,hql]
        simp only[loc,hok,if_true,hc',hb0']
        exact g1
       ·split at hj
        ·rename_i d2 cs2 _ _ hc2 hb2
         rw[hb0] at hb2
         cases hb2
         have hc':cellAt (rows0.set i (row.set q x')) i2 q2=some d2:=by
          obtain ⟨row2,a1,a2⟩:=cellAt_lt hc2
          by_cases e2:i=i2
          ·subst e2
           rw[hr1] at a1
           cases a1
           have:q≠q2:=fun e3=>e (by rw[e3])
           simp[cellAt,hil,zN this,a2]
          ·simp[cellAt,zN e2,a1,a2]
         refine ⟨d1,?_, .refl hfl⟩
         simp only[loc,hok,if_true,hc',hb0']
         refine loc_frame2 jx _ hj fun ρ b' hp hok'=>hne b' fun e3=> ?_
         subst e3
         have:=okB_eq hok' hcb
         subst this
         obtain ⟨t,ht⟩:=hp
         simp at ht
         exact e (by simp[ht.1])
        ·cases hj
      ·cases hset
     ·cases hl
    ·cases hl
   ·cases hl
section
variable {k:K} {g:G} {m:M}
theorem Step.elemFlat (hr:Rel k g m) {s o n:Nat} {rs:Rts} {ts:List Tag} (ht:entTags (g.ent s)=some ts) (hto:ts[o]? =some (.own n rs)) {ix:List (Nat×Nat)} {d0:D} {v0:Value} (hroot:root g m s o=some (d0,v0))
  {sz:Nat} {rows:List (List D)} {b off1 len cap:Nat} (hloc:loc m.h m.col s o [] d0 v0 ix=some (.sl sz rows, .slice (some ⟨b,off1,none⟩) len cap)) (hcur:curR g rs=true) (hown:owns n ix.length=true)
  {i off:Nat} {row:List D} (hrow:rows[i]? =some row) {ds:List D} {xs:List Value} (hlen:xs.length=ds.length) (hoff:off+ds.length≤row.length)
  (hold:∀q d,off≤q→q<off+ds.length→row[q]? =some d→d.flat=true)
  (hnew:∀(j:Nat) (d:D) (x:Value),ds[j]? =some d→xs[j]? =some x→∀(mem:Array Obj) (good:Good),O mem good d x)
  {f:D→Option D} (hf:f (.sl sz rows)=some (.sl sz (rows.set i (setCells row off ds)))) {d0':D} (hset:d0.setAt ix f=some d0') {cs:Array Value} {tb:Nat} (hb:m.h[b]? =some (.cells cs tb (0,0))):
  Step k g m (Turn.scal.of g s (g.ent s)) ⟨m.σ.upd s ((m.σ s).set o d0'),m.c,m.h.setIfInBounds b (.cells (spl cs (off1+i*sz+off) xs) tb (0,0)),m.col⟩ (fun x=>x=s∨PAR≤x):=by
 have hs:s<g.length:=lt_of_ent fun e=>by rw[e] at ht;cases ht
 have hO0:=(root_cell hr hroot ht hto).2 hcur
 have hnode:=O.at ix [] hO0 hloc
 have hcb:m.col b= .arr s o ix:=by
  have hg:gd k m.col s o n rs (ix++[]) b:=by cases hnode with|sl hg=>exact hg|emp=>simp at hrow
  unfold gd at hg
  simp only[List.append_nil,hown,if_true] at hg
  exact hg
 have hbl:b<m.h.size:=lt_size hr.mem (by rw[hcb];simp)
 generalize hH:m.h.setIfInBounds b (Obj.cells (spl cs (off1+i*sz+off) xs) tb (0,0))=h'
 have hne:∀b':Nat,b'≠b→h'[b']? =m.h[b']? :=fun b' e=>by rw[← hH,Array.getElem?_setIfInBounds_ne (Ne.symm e)]
 have hself:h'[b]? =some (Obj.cells (spl cs (off1+i*sz+off) xs) tb (0,0)):=by rw[← hH,Array.getElem?_setIfInBounds_self_of_lt hbl]
 obtain ⟨hσ0,hv0⟩:=root_split hroot
 have hol:o<(m.σ s).length:=(zE.1 hσ0).1
 have hpres:m.σ s≠[]:=fun e=>by rw[e] at hol;simp at hol
 have holder:=Turn.older .scal g s (g.ent s)
 have hmem':=entTags_mem hr ht
 have hcolo:∀b',(∀v',(m.col b').own=some v'→v'≠s∧v'<PAR)→h'[b']? =m.h[b']? ∧m.col b'=m.col b':=fun b' hown=>
  ⟨hne b' fun e=>by subst e;exact (hown s (by rw[hcb];rfl)).1 rfl,rfl⟩
 have hbx:∀b',m.col b'= .box s→h'[b']? =m.h[b']? ∧m.col b'= .box s:=fun b' hb'=>
  ⟨hne b' (fun e=>by subst e;rw[hcb] at hb';cases hb'),hb'⟩
 have hroots:∀q,root (Turn.scal.of g s (g.ent s)) ⟨m.σ.upd s ((m.σ s).set o d0'),m.c,h',m.col⟩ s q=
   match ((m.σ s).set o d0')[q]?,(conc m.h (g.ent s) (m.c s)).bind (·[q]?) with|some d,some v=>some (d,v)|_,_=>none:=fun q=>by
  unfold root
  rw[Turn.ent_self .scal hs,conc_same hr (fun b' hb'=>(hbx b' hb').1) hpres]
  simp[St.upd]
  rfl
 obtain ⟨sz0,rows0,hd0⟩:=loc_sl hloc
 have hkin:∃rows',d0'= .sl sz0 rows':=setAt_sl hd0 hset fun e x hx=>by
  subst e
  rw[loc_nil] at hloc
  simp at hloc
  rw[hloc.1,hf] at hx
  cases hx
  have:=hd0.symm.trans hloc.1
  cases this
  exact ⟨_,rfl⟩
 obtain ⟨rows0',hd0'⟩:=hkin
 have hi:i<rows.length:=(zE.1 hrow).1
 have hcells:∀i' q d,cellAt rows i' q=some d→d.flat=false→cellAt (rows.set i (setCells row off ds)) i' q=some d∧(spl cs (off1+i*sz+off) xs).getD (off1+i'*sz+q) undef=cs.getD (off1+i'*sz+q) undef:=by
  intro i' q d hd hfl
  obtain ⟨r,hr1,hr2⟩:=cellAt_lt hd
  have hsl:(∀(i:Nat) (row:List D),rows[i]? =some row→row.length=sz)∧rows.length≤cap∧off1+cap*sz≤cs.size:=by
   cases hnode with
   |emp=>simp at hrow
   |sl _ hb0 hl hc hsz hrr _=>rw[hb] at hb0;cases hb0;exact ⟨hrr,by omega,hsz⟩
  obtain ⟨k1,k2,k3⟩:=hsl
  have hrl:=k1 i row hrow
  have hrl':=k1 i' r hr1
  have hq:q<sz:=by have:=(zE.1 hr2).1;omega
  have hcap:i*sz+sz≤cap*sz:=by
   have:=zR sz (show i+1≤cap by omega)
   rw[Nat.add_mul] at this
   omega
  have hspl:off1+i*sz+off+xs.length≤cs.size:=by omega
  by_cases e:i'=i
  ·subst e
   rw[hrow] at hr1
   cases hr1
   have hout:q<off∨off+ds.length≤q:=by
    by_cases c1:q<off
    ·exact .inl c1
    ·by_cases c2:q<off+ds.length
     ·rw[hold q d (by omega) c2 hr2] at hfl;cases hfl
     ·exact .inr (by omega)
   refine ⟨?_,spl_out hspl (by omega)⟩
   simp only[cellAt,zO hi,Option.bind_some]
   rw[set_cells hoff]
   rcases hout with c|c
   ·rw[if_pos c,hr2]
   ·rw[if_neg (by omega),if_neg (by omega),hr2]
  ·refine ⟨by simp only[cellAt,zN (Ne.symm e),hr1];exact hr2,spl_out hspl ?_⟩
   rcases zJ i' i with h1|h1
   ·left
    have:=zR sz (show i'+1≤i by omega)
    rw[Nat.add_mul] at this
    omega
   ·right
    have:=zR sz (show i+1≤i' by omega)
    rw[Nat.add_mul] at this
    omega
 have hkeep:Keep g (Turn.scal.of g s (g.ent s)) m ⟨m.σ.upd s ((m.σ s).set o d0'),m.c,h',m.col⟩ s:=by
  refine ⟨fun _=>rfl,fun _ q d x h hfl=> ?_,fun _ q d x jx d1 v1 h hl hfl=> ?_,fun e=>absurd e (Turn.ver_self .scal (by simp) hs)⟩
  ·rw[hroots]
   obtain ⟨e1,e2⟩:=root_split h
   by_cases hq:q=o
   ·subst hq
    rw[hσ0] at e1
    cases e1
    rw[zO hol,e2]
    refine ⟨d0',rfl,by rw[hd0'];rfl,fun sz' r' e=> ?_⟩
    rw[hd0] at e
    cases e
    exact ⟨rows0',hd0'⟩
   ·rw[zN (Ne.symm hq),e1,e2]
    exact ⟨d,rfl, .refl hfl⟩
  ·rw[hroots]
   obtain ⟨e1,e2⟩:=root_split h
   by_cases hq:q=o
   ·subst hq
    rw[hσ0] at e1
    cases e1
    rw[hv0] at e2
    cases e2
    rw[zO hol,hv0]
    obtain ⟨d1',g1,g2⟩:=loc_written hb hself hne hf hcells ix [] jx hloc (by simpa using hcb) hset hl hfl
    exact ⟨d0',d1',rfl,g1,g2⟩
   ·rw[zN (Ne.symm hq),e1,e2]
    refine ⟨d,d1,rfl,loc_frame2 jx [] hl fun ρ b' _ hok=>hne b' fun e=> ?_, .refl hfl⟩
    subst e
    unfold okB at hok
    rw[hcb] at hok
    simp at hok
    exact hq hok.1.symm
 have hmem:Mem k ⟨m.σ.upd s ((m.σ s).set o d0'),m.c,h',m.col⟩:=by
  have h1:Mem k {m with h:=h'}:=by rw[← hH];exact hr.mem.set (s:=s) (by rw[hcb];rfl)
  exact h1.turn rfl fun b'=> .inl rfl
 have hσo:∀x,x≠s→(m.σ.upd s ((m.σ s).set o d0')) x=m.σ x:=fun x hx=>by simp[St.upd,hx]
 obtain ⟨hks,hstays,_⟩:=turn1_keeps (m':=⟨m.σ.upd s ((m.σ s).set o d0'),m.c,h',m.col⟩) hr hs .scal hσo (fun _ _=>rfl) (fun b' _=>hcolo b') hkeep
 refine Step.turn1 hr hs .scal hσo (fun _ _=>rfl) hmem (fun b' _=>hcolo b') hkeep ⟨(hr.wf s).older holder,?_⟩
 have hE:=EntOk.recells' (g':=Turn.scal.of g s (g.ent s)) (m':=⟨m.σ.upd s ((m.σ s).set o d0'),m.c,h',m.col⟩) (ts':=ts) ht (hr.ent s) rfl (fun h=>absurd h hpres) hbx fun vs hconc hcs=> ?_
 ·rwa [withTags_self ht] at hE
 refine ⟨hcs.1,by simpa[St.upd] using hcs.2.1,hcs.2.2.1,fun q t d x h1 h2 h3=> ?_⟩
 simp only[St.upd,if_true] at h2
 by_cases hq:q=o
 ·subst hq
  rw[hto] at h1
  cases h1
  have hd:=set_same_len h2
  subst hd
  refine ⟨by rw[hd0'];rfl,fun hcR=> ?_⟩
  obtain ⟨c1,c2⟩:=curR_back holder (hmem' _ (zF hto)) hcR
  have hx:x=v0:=by
   rw[hconc] at hv0
   simp only[Option.bind_some] at hv0
   rw[h3] at hv0
   exact zU hv0
  subst hx
  have old:∀π' b',π'≠ix→gd k m.col s q n rs π' b'→h'[b']? =m.h[b']? ∧gd k m.col s q n rs π' b':=fun π' b' hπ hg=>by
   refine ⟨hne b' fun e=> ?_,hg⟩
   subst e
   unfold gd at hg
   split at hg
   ·rw[hcb] at hg;cases hg;exact hπ rfl
   ·rcases hg with ⟨e1,_⟩|⟨r,hr',π2,e1⟩
    ·rw[hcb] at e1;cases e1
    ·rw[hcb] at e1
     cases e1
     exact Turn.ver_self .scal (by simp) hs (c2 r hr')
  refine O.node ix [] hO0 hloc hset (fun π' b' hp hg=>old π' b' (fun e=>hp (e ▸ List.prefix_refl _)) hg) fun d1' hd1=> ?_
  rw[hf] at hd1
  cases hd1
  refine O.written hnode hb hrow hlen hoff hself ?_ (fun i' q' π' b' _ hg=>old _ b' (by simp) hg) fun j d x hd hx=>hnew j d x hd hx _ _
  show gd k m.col s q n rs (ix++[]) b
  unfold gd
  rw[List.append_nil,if_pos hown]
  exact hcb
 ·rw[zN (Ne.symm hq)] at h2
  refine CellOk.keep (m:=m) hr.mem holder hks hstays (fun b' π hb'=> ?_) (hmem' t (zF h1)) (hcs.2.2.2 q t d x h1 h2 h3)
  exact ⟨hne b' (fun e=>by subst e;rw[hcb] at hb';cases hb';exact hq rfl),rfl⟩
end
def DidS (cx:Cx) (k:K) (g:G) (m:M) (r:Res) (σ':St) (o:Oper):Prop:=
 ∀w:World,w.heap=m.h→∃(h':Array Obj) (dr:Nat) (col':Nat→Color),
  (execOp (vl m) o).run cx.P w= .ok .skip {w with heap:=h',drawn:=dr}∧Step k g m r.g ⟨σ',m.c,h',col'⟩ (TT cx (cx.base+60) r.t)
theorem setAt_at:∀{ix:List (Nat×Nat)} {d d' d1:D} {f:D→Option D},d.setAt ix f=some d'→d.at ix=some d1→∃d1',f d1=some d1':=by
 intro ix
 induction ix with
 |nil=>intro d d' d1 f h h1;simp[D.at] at h1;subst h1;exact ⟨d',by simpa[D.setAt] using h⟩
 |cons p ix ih=>
  obtain ⟨i,o⟩:=p
  intro d d' d1 f h h1
  cases d with
  |sl sz rows=>
   simp only[D.at] at h1
   split at h1
   ·rename_i x hx
    obtain ⟨row,a1,a2⟩:=cellAt_lt hx
    simp only[D.setAt,a1,a2] at h
    split at h
    ·rename_i x' hx'
     exact ih hx' h1
    ·cases h
   ·cases h1
  |_=>simp[D.at] at h1
theorem owns_addN {n l a:Nat} (h:owns (addN n (l+1)) (l+1+a)=true):owns n a=true:=by
 unfold owns addN at*
 simp only[Bool.or_eq_true,decide_eq_true_eq] at*
 split at h<;>omega
theorem lifts_len {base:Nat} {ms:List Mv}:(lifts base ms).2.length=ms.length:=by
 unfold lifts
 split
 ·simp
 ·simp[liftRegs_len]
theorem storeAt_run {P:Program} {m:M} {o:Oper} {ty:TypeId} {t:Nat} {x:Operand} (ho:o.op= .store ty (.tmp t) x) {sh:Shape} {vs:List Value} (hsh:sh=shapeOf P ty) (hcv:cellsV sh (vl m x)=some vs) (hone:∀v∈vs,v.oneCell'=true)
  (hlen:P.cellsOf ty=vs.length) (h0:vs.length≠0) {b off tb:Nat} {cs:Array Value} (hc:m.c t= .pointer (some ⟨b,off,none⟩)) (hb:m.h[b]? =some (.cells cs tb (0,0))) (hle:off+vs.length≤cs.size) (w:World) (hw:w.heap=m.h):
  (execOp (vl m) o).run P w= .ok .skip {w with heap:=m.h.setIfInBounds b (.cells (spl cs off vs) tb (0,0)),drawn:=w.drawn}:=by
 subst hsh
 have hi:∃i,P.info? ty=some i∧i.size=vs.length:=by
  unfold Program.cellsOf at hlen
  cases hq:P.info? ty with
  |none=>simp[hq] at hlen;omega
  |some i=>simp[hq] at hlen;exact ⟨i,rfl,hlen⟩
 obtain ⟨i,hi1,hi2⟩:=hi
 have:=store_run (P:=P) (w:=w) (by rw[hw];exact hb) hi1 hi2 (cells_of hcv hone) hone hle
 have hv:vl m (.tmp t)= .pointer (some ⟨b,off,none⟩):=hc
 simp only[execOp,ho,hv,Sem.run_bind,this,Result.andThen_ok,hw]
 rfl
theorem allR_cur {k:K} {g g1:G} {m:M} {ms:List Mv} {xs:List Value} {ds:List D} (hdl:ds.length=ms.length)
  (hmv:∀(i:Nat) (mv:Mv),ms[i]? =some mv→∃x,xs[i]? =some x∧∀d,mv.src.ev m.σ=some d→MvOk k g m mv d x)
  (hsrc:∀(i:Nat) (mv:Mv) (d:D) (x:Value),ms[i]? =some mv→ds[i]? =some d→xs[i]? =some x→mv.src.ev m.σ=some d)
  (hver:∀mv∈ms,∀r∈mv.rs,g1.ver r.1=g.ver r.1):curR g1 (allR ms)=true:=by
 rw[curR_iff]
 intro r hr'
 obtain ⟨mv,h1,h2⟩:=allR_of hr'
 rw[hver mv h1 r h2]
 obtain ⟨i,hi⟩:=zP h1
 have hlt:i<ds.length:=by rw[hdl];exact (zE.1 hi).1
 obtain ⟨x,h3,h4⟩:=hmv i mv hi
 exact curR_iff.1 (h4 _ (hsrc i mv _ x hi (zB hlt) h3)).cur r h2
theorem own_of {g:G} {s o n:Nat} {rs:Rts} (h:ownAt g s o=some (n,rs)):∃ts,entTags (g.ent s)=some ts∧ts[o]? =some (.own n rs)∧curR g rs=true:=(ownAt_ok h).2
theorem curL_hv {g:G} {s v:Nat} {w:List (Nat×Nat×Nat)} (h:curL g s v w=true):curW g w=true:=by
 unfold curL at h
 rw[zD] at h
 exact h.2
section ops
variable {k:K} {env:Env} {g:G} {m:M} {cx:Cx} {σ':St} {o:Oper} {r:Res}
theorem stays_opt (hr:Rel k g m) (share:Bool) (cs:List Cel):∃col0,Step k g m (if share then stays g cs else g) ⟨m.σ,m.c,m.h,col0⟩ (fun x=>x∈if share then staySlots cs else []):=by
 cases share with
 |true=>exact stays_step cs hr
 |false=>exact ⟨m.col,(Step.refl hr).mono hr fun x h=>h.elim⟩
theorem store_elem_did (hr:Rel k g m) (hlen:g.length=cx.base+61) {ty:TypeId} {t:Nat} {x:Operand} {share:Bool} (ho:o.op= .store ty (.tmp t) x) (hpx:Here m x) {s q v i iv off sz:Nat} {w:List (Nat×Nat×Nat)}
  (hent:g.ent t= .eptr s q v w i iv off sz) (h:storeOp cx g ty t x share=some r) (he:evIs env r.is m.σ=some σ'):DidS cx k g m r σ' o:=by
 unfold storeOp at h
 rw[hent] at h
 simp only[zA] at h
 obtain ⟨y0,_,y,hy,ms,hms,z,hz,h⟩:=h
 rw[guardO_some] at h
 simp only[zD,beq_iff_eq,decide_eq_true_eq,bne_iff_ne,ne_eq,Option.some.injEq] at h
 obtain ⟨⟨⟨⟨⟨⟨⟨⟨⟨hl,hi⟩,hte⟩,hoff⟩,hcells⟩,hn0⟩,hshape⟩,hok⟩,hown⟩,rfl⟩:=h
 simp only at he
 obtain ⟨col0,S0⟩:=stays_opt hr share y0.2
 have hr0:=S0.rel hr
 generalize hg0:(if share then stays g y0.2 else g)=g0 at*
 obtain ⟨vs,hcv,hcs⟩:=cels_ok hr0 hy (by intro t' e;exact hpx t' e)
 rw[evIs_append,zA] at he
 obtain ⟨σ1,he1,he2⟩:=he
 have he2:=evIs_one he2
 simp only[I.ev] at he2
 split at he2
 ·cases he2
 rename_i hvia
 rw[zA] at he2
 obtain ⟨ds,hds,he2⟩:=he2
 split at he2
 ·rename_i d0 ix n e1 e2 e3
  rw[zC] at he2
  obtain ⟨d0',hset,rfl⟩:=he2
  obtain ⟨hml,hmg⟩:=rowMvs_get hms
  have hmv:∀(i:Nat) (mv:Mv),ms[i]? =some mv→∃x,vs[i]? =some x∧∀d,mv.src.ev m.σ=some d→MvOk k g0 ⟨m.σ,m.c,m.h,col0⟩ mv d x:=fun i mv hi=>by
   obtain ⟨c,a1,a2⟩:=hmg i mv hi
   obtain ⟨x',a3,a4⟩:=hcs.2 i c a1
   exact ⟨x',a3,fun d hd=>rowMv_ok hr0 a4 a2 hd⟩
  obtain ⟨col1,S1,hdl,hheld,_,_,_,hver⟩:=lifts_ok hr0 (ms:=ms) (xs:=vs) (base:=cx.base) (by rw[S0.len,hlen];omega) hmv hok he1 hds (v:=PAR) (Nat.le_refl _)
  have hr1:=S1.rel hr0
  generalize hg1:leaves cx.base g0 ms=g1 at*
  have hE:=hr1.ent t
  rw[hte] at hE
  rcases hE with hE|hE
  ·rw[show σ1 t=[] from hE] at hvia;exact absurd rfl hvia
  obtain ⟨d0r,v0,ix',rows,b,off1,len,cap,n',h1,h2,h3,h4,h5,h6⟩:=hE hl hi
  obtain ⟨hσ0,_⟩:=root_split h1
  have:d0r=d0:=by rw[show σ1 s=(⟨σ1,m.c,m.h,col1⟩:M).σ s from rfl] at e1;rw[hσ0] at e1;exact zU e1
  subst this
  have:ix'=ix:=by rw[show wayOf σ1 (wayW w)=some ix' from h2] at e2;exact zU e2
  subst this
  have:n'=n:=by rw[show idxOf σ1 i=some n' from h4] at e3;exact zU e3
  subst this
  obtain ⟨zn,zr⟩:=z
  obtain ⟨ts,ht,hto,hcur⟩:=own_of hz
  have hO0:=(root_cell hr1 h1 ht hto).2 hcur
  have hnode:=O.at ix' [] hO0 h3
  obtain ⟨d1',hf⟩:=setAt_at hset (loc_at ix' [] h3)
  have hf0:=hf
  simp only[zA] at hf
  obtain ⟨row,hrow,hf⟩:=hf
  split at hf
  ·rename_i hcond
   obtain ⟨_,hoffl,hflat⟩:=hcond
   cases hf
   have hixl:ix'.length=w.length:=by rw[wayOf_len h2,wayW_len]
   have hvl:vs.length=ds.length:=by rw[hcs.1,hdl,hml]
   have hbl:∃cs tb,m.h[b]? =some (.cells cs tb (0,0))∧off1+cap*sz≤cs.size∧rows.length≤cap:=by
    have hgb:col1 b= .arr s q ix':=by
     have hgd:gd k col1 s q zn zr (ix'++[]) b:=by cases hnode with|sl hgd=>exact hgd|emp=>simp at hrow
     unfold gd at hgd
     have hown':owns zn w.length=true:=by
      split at hown
      ·exact hown
      ·exact owns_le (Nat.min_le_left _ _) hown
     simp only[List.append_nil,hixl,hown',if_true] at hgd
     exact hgd
    obtain ⟨_,cs,tb,hb⟩:=hr1.mem.arr b _ _ _ hgb
    cases hnode with
    |emp=>simp at hrow
    |sl _ hb0 hl' hc' hsz' _ _=>
     rw[hb] at hb0;cases hb0
     exact ⟨cs,tb,hb,hsz',by omega⟩
   obtain ⟨cs,tb,hb,hbs,hbc⟩:=hbl
   have hnl:n'<rows.length:=(zE.1 hrow).1
   have hfit:off1+n'*sz+off+vs.length≤cs.size:=by
    have hcap:n'*sz+sz≤cap*sz:=by
     have:=zR sz (show n'+1≤cap by omega)
     rw[Nat.add_mul] at this
     omega
    rw[hcs.1]
    omega
   have hrun:=fun w hw=>storeAt_run (P:=cx.P) (m:=m) ho hshape hcv hcs.one (by rw[hcells,hcs.1]) (by rw[hcs.1];exact hn0) (b:=b) (off:=off1+n'*sz+off) h6 hb hfit w hw
   have hmd:∀idx,idx<ds.length→∃mv,ms[idx]? =some mv:=fun idx h=>⟨ms[idx]'(by omega),zB _⟩
   by_cases hfl:(y.2.all fun c=>isScT c.tag)=true
   ·simp only[hfl,if_true] at hown ⊢
    rw[hfl] at hflat
    simp only[Bool.not_true,Bool.false_or,zD] at hflat
    obtain ⟨hfo,hfn⟩:=hflat
    have S2:=Step.elemFlat (k:=k) hr1 ht hto h1 h3 hcur (by rw[hixl];exact hown) hrow (ds:=ds) (xs:=vs) hvl hoffl (off:=off)
     (fun p d a1 a2 a3=>by
      rw[zL] at hfo
      refine hfo d (zF (i:=p-off) ?_)
      rw[List.getElem?_take,if_pos (by omega),List.getElem?_drop]
      have:off+(p-off)=p:=by omega
      rw[this,a3])
     (fun j d x' a1 a2 mem good=>by
      rw[zL] at hfn
      obtain ⟨mv,hmv'⟩:=hmd j (zE.1 a1).1
      exact O.flat (hfn d (zF a1)) (hheld j mv d x' hmv' a1 a2).1)
     hf0 hset hb
    intro w' hw'
    refine ⟨_,w'.drawn,_,hrun w' hw',((S0.trans hr S1).trans hr S2).mono hr fun x' hx=> ?_⟩
    unfold TT
    rcases hx with (hx|hx)|hx
    ·exact .inl (by simp[hx])
    ·rcases hx with hx|hx
     ·exact .inl (by simp[hx])
     ·exact .inr (.inr (.inl hx))
    ·rcases hx with hx|hx
     ·exact .inl (by simp[hx])
     ·exact .inr (.inr (.inr hx))
   ·simp only[hfl,if_false,Bool.false_eq_true] at hown ⊢
    have hRc:=allR_cur (g1:=g1) (ds:=ds) hdl hmv (fun i mv d x' a1 a2 a3=>(hheld i mv d x' a1 a2 a3).2) hver
    have S2:=Step.elem (k:=k) hr1 ht hto h1 h3 hcur hrow (ds:=ds) (xs:=vs) hvl hoffl hcs.one (v:=PAR) (Nat.le_refl _) (ns:=fun j=>(ms.getD j deadMv).n) (rss:=fun j=>(ms.getD j deadMv).rs)
     (fun j d x' a1 a2=>by
      obtain ⟨mv,hmv'⟩:=hmd j (zE.1 a1).1
      have:ms.getD j deadMv=mv:=by rw[zM,hmv'];rfl
      rw[this]
      exact (hheld j mv d x' hmv' a1 a2).1)
     (N:=min zn (addN (minN ms) (w.length+1))) (R:=unionR zr (allR ms)) (fun a ha=>owns_le (Nat.min_le_left _ _) ha) (by rw[hixl];exact hown)
     (fun j a a1 a2=>by
      obtain ⟨mv,hmv'⟩:=hmd j a1
      have:ms.getD j deadMv=mv:=by rw[zM,hmv'];rfl
      rw[this]
      rw[hixl] at a2
      exact owns_le (minN_le hmv') (owns_addN (owns_le (Nat.min_le_right _ _) a2)))
     (fun p hp=>mem_unionR.2 (.inl hp))
     (fun j a1 p hp=>by
      obtain ⟨mv,hmv'⟩:=hmd j a1
      have:ms.getD j deadMv=mv:=by rw[zM,hmv'];rfl
      rw[this] at hp
      exact mem_unionR.2 (.inr (allR_mem hmv' p hp)))
     (fun p hp=>by
      rcases mem_unionR.1 hp with hp|hp
      ·exact Nat.le_of_eq (curR_iff.1 hcur p hp).symm
      ·exact Nat.le_of_eq (curR_iff.1 hRc p hp).symm)
     hf0 hset hb
    intro w' hw'
    have e0:reTag G.elm g1 s q (.own (min zn (addN (minN ms) (w.length+1))) (unionR zr (allR ms)))=Turn.elm.of g1 s ((g1.ent s).withTags (ts.set q (.own (min zn (addN (minN ms) (w.length+1))) (unionR zr (allR ms))))):=reTag_eq ht
    rw[e0]
    refine ⟨_,w'.drawn,_,hrun w' hw',((S0.trans hr S1).trans hr S2).mono hr fun x' hx=> ?_⟩
    unfold TT
    rcases hx with (hx|hx)|hx
    ·exact .inl (by simp[hx])
    ·rcases hx with hx|hx
     ·exact .inl (by simp[hx])
     ·exact .inr (.inr (.inl hx))
    ·rcases hx with hx|hx
     ·exact .inl (by simp[hx])
     ·exact .inr (.inr (.inr hx))
  ·cases hf
 ·cases he2
end ops
def putCol (col:Nat→Color) (s off v len:Nat):Nat→Color:=fun b=>
 match col b with
 | .lim u π=>if v≤u∧u<v+len then .arr s (off+(u-v)) π else .lim u π
 | .arr s' o' π=>if s'=s∧off≤o'∧o'<off+len then .stable else .arr s' o' π
 |c=>c
section putCol
variable {col:Nat→Color} {s off v len b:Nat}
theorem putCol_same (h1:(col b).own≠some s) (h2:∀u π,col b= .lim u π→u<v):putCol col s off v len b=col b:=by
 unfold putCol
 split
 ·rename_i u π e
  have:=h2 u π e
  rw[if_neg (by omega),e]
 ·rename_i s' o' π e
  rw[if_neg,e]
  rintro ⟨rfl,_⟩
  exact h1 (by rw[e];rfl)
 ·rfl
theorem putCol_out {π:List (Nat×Nat)} {o':Nat} (h:col b= .arr s o' π) (hn:o'<off∨off+len≤o'):putCol col s off v len b= .arr s o' π:=by
 unfold putCol
 rw[h]
 simp only
 rw[if_neg]
 rintro ⟨_,e1,e2⟩
 omega
theorem putCol_in {π:List (Nat×Nat)} {o':Nat} (h:col b= .arr s o' π) (h1:off≤o') (h2:o'<off+len):putCol col s off v len b= .stable:=by
 unfold putCol
 rw[h]
 simp[h1,h2]
theorem putCol_lim {π:List (Nat×Nat)} {j:Nat} (h:col b= .lim (v+j) π) (hj:j<len):putCol col s off v len b= .arr s (off+j) π:=by
 unfold putCol
 rw[h]
 simp only
 rw[if_pos (by omega)]
 have:v+j-v=j:=by omega
 rw[this]
end putCol
section
variable {k:K} {g:G} {m:M}
theorem setCells_len {l:List D} {off:Nat} {ds:List D} (h:off+ds.length≤l.length):(setCells l off ds).length=l.length:=set_cells_len h
theorem mix_get {α:Type} {l m:List α} {off j:Nat} (h:off+m.length≤l.length):(l.take off++m++l.drop (off+m.length))[j]? =if j<off then l[j]? else if j<off+m.length then m[j-off]? else l[j]? :=by
 by_cases h1:j<off
 ·rw[if_pos h1,zI (by simp;omega),zI (by simp;omega),List.getElem?_take,if_pos h1]
 ·rw[if_neg h1]
  by_cases h2:j<off+m.length
  ·rw[if_pos h2,zI (by simp;omega),zH (by simp;omega)]
   congr 1
   simp;omega
  ·rw[if_neg h2,zH (by simp;omega),List.getElem?_drop]
   congr 1
   simp;omega
theorem Step.put (hr:Rel k g m) {v:Nat} (hv:PAR≤v) {s tb blk off:Nat} {old:List Tag} (he:g.ent s= .box tb old) {cs:Array Value} (hc:m.c s= .pointer (some ⟨blk,0,none⟩)) (hcb:m.col blk= .box s) (hb:m.h[blk]? =some (.cells cs tb (0,0)))
  (hcells:CellsOk k g m s old cs.toList) {ts:List Tag} {ds:List D} {xs:List Value} (hlt:ts.length=ds.length) (hlx:xs.length=ds.length) (hoff:off+ds.length≤old.length) (h0:ds.length≠0) (hone:∀x∈xs,x.oneCell'=true)
  (hL:∀(j:Nat) (t:Tag) (d:D) (x:Value),ts[j]? =some t→ds[j]? =some d→xs[j]? =some x→LayOk k g m v j d x t) (hwf:∀t∈ts,TagWf g t)
  (hfrz:frzOk s off ds.length ts=true) (hloan:loansOff s ts=true)
  {u:Turn} (hu:u= .trn∨(u= .scal∧∀q t,off≤q→q<off+ds.length→old[q]? =some t→t= .sc)):
  Step k g m (u.of g s (.box tb (old.take off++ts.map (frzTag s)++old.drop (off+ds.length))))
   ⟨m.σ.upd s (setCells (m.σ s) off ds),m.c,m.h.setIfInBounds blk (.cells (spl cs off xs) tb (0,0)),putCol m.col s off v ds.length⟩ (fun x=>x=s∨PAR≤x):=by
 have hs:s<g.length:=lt_of_ent fun e=>by rw[e] at he;cases he
 have hsp:s<PAR:=Nat.lt_of_lt_of_le hs hr.small
 have hun:u≠ .same:=by rcases hu with h|⟨h,_⟩<;>rw[h]<;>simp
 have hbl:blk<m.h.size:=lt_size hr.mem (by rw[hcb];simp)
 have hcsz:cs.size=old.length:=by have:=hcells.1;simpa using this
 have hσl:(m.σ s).length=old.length:=hcells.2.1
 generalize hC:putCol m.col s off v ds.length=col'
 generalize hH:m.h.setIfInBounds blk (Obj.cells (spl cs off xs) tb (0,0))=h'
 generalize hE:Ent.box tb (old.take off++ts.map (frzTag s)++old.drop (off+ds.length))=e'
 have hne:∀b':Nat,b'≠blk→h'[b']? =m.h[b']? :=fun b' e=>by rw[← hH,Array.getElem?_setIfInBounds_ne (Ne.symm e)]
 have hself:h'[blk]? =some (Obj.cells (spl cs off xs) tb (0,0)):=by rw[← hH,Array.getElem?_setIfInBounds_self_of_lt hbl]
 have hspl:off+xs.length≤cs.size:=by omega
 have hpres:m.σ s≠[]:=fun e=>by rw[e] at hσl;simp at hσl;omega
 have holder:=u.older g s e'
 have hcolo:∀b',(∀v',(m.col b').own=some v'→v'≠s∧v'<PAR)→h'[b']? =m.h[b']? ∧col' b'=m.col b':=fun b' hown=>by
  refine ⟨hne b' fun e=> ?_,?_⟩
  ·subst e;exact (hown s (by rw[hcb];rfl)).1 rfl
  ·rw[← hC]
   exact putCol_same (fun e=>(hown s e).1 rfl) fun u π e=>by have:=(hown u (by rw[e];rfl)).2;omega
 have hroot:∀q,root g m s q=match (m.σ s)[q]?,cs.toList[q]? with|some d,some v=>some (d,v)|_,_=>none:=fun q=>by
  unfold root
  rw[he]
  simp only[conc,boxCells,hc,hb,Option.bind_some]
  rfl
 have hroot':∀q,root (u.of g s e') ⟨m.σ.upd s (setCells (m.σ s) off ds),m.c,h',col'⟩ s q=match (setCells (m.σ s) off ds)[q]?,(spl cs off xs).toList[q]? with|some d,some v=>some (d,v)|_,_=>none:=fun q=>by
  unfold root
  rw[u.ent_self hs,← hE]
  simp only[conc,boxCells,hc,hself,Option.bind_some,St.upd,if_true]
  rfl
 have hout:∀q,q<off∨off+ds.length≤q→root (u.of g s e') ⟨m.σ.upd s (setCells (m.σ s) off ds),m.c,h',col'⟩ s q=root g m s q:=fun q hq=>by
  rw[hroot,hroot',set_cells (by omega),spl_get hspl,hlx]
  rcases hq with hq|hq
  ·rw[if_pos hq,if_pos hq]
  ·rw[if_neg (by omega),if_neg (by omega),if_neg (by omega),if_neg (by omega)]
 have hkeep:Keep g (u.of g s e') m ⟨m.σ.upd s (setCells (m.σ s) off ds),m.c,h',col'⟩ s:=by
  rcases hu with rfl|⟨rfl,hsc⟩
  ·exact ⟨fun _=>rfl,fun h=>absurd h (Turn.hv_self (.inr rfl) hs),fun h=>absurd h (Turn.dv_self .trn (by simp) (by simp) hs),fun h=>absurd h (Turn.ver_self .trn (by simp) hs)⟩
  ·have key:∀q d x,root g m s q=some (d,x)→d.flat=false→q<off∨off+ds.length≤q:=fun q d x h hfl=>by
    obtain ⟨e1,e2⟩:=root_split h
    rcases zJ q off with c|c
    ·exact .inl c
    ·rcases zJ q (off+ds.length) with c2|c2
     ·have hql:q<old.length:=by omega
      have hsq:=hsc q old[q] c c2 (zB hql)
      have:=root_cell hr h (by rw[he];rfl) (t:= .sc) (by rw[zB hql,hsq])
      rw[this.1] at hfl
      cases hfl
     ·exact .inr c2
   refine ⟨fun _=>rfl,fun _ q d x h hfl=>⟨d,by rw[hout q (key q d x h hfl),h], .refl hfl⟩,fun _ q d x jx d1 v1 h hl hfl=> ?_,fun e=>absurd e (Turn.ver_self .scal (by simp) hs)⟩
   have hdf:d.flat=false:=by
    cases e:d.flat with
    |false=>rfl
    |true=>rw[loc_flat e hl] at hfl;exact hfl
   have hq:=key q d x h hdf
   refine ⟨d,d1,by rw[hout q hq,h],?_, .refl hfl⟩
   refine loc_frame jx [] hl (fun b' π hb'=> ?_) fun b' hb'=> ?_
   ·have e1:b'≠blk:=fun e=>by subst e;rw[hcb] at hb';cases hb'
    exact ⟨hne b' e1, .inl (by rw[hb',← hC];exact putCol_out hb' hq)⟩
   ·have:=hcolo b' (by rw[hb'];simp[Color.own])
    exact ⟨this.1,this.2.trans hb'⟩
 have hmem:Mem k ⟨m.σ.upd s (setCells (m.σ s) off ds),m.c,h',col'⟩:=by
  have h1:Mem k {m with h:=h'}:=by rw[← hH];exact hr.mem.set (s:=s) (by rw[hcb];rfl)
  refine h1.turn rfl fun b'=> ?_
  show col' b'=m.col b'∨((m.col b').own≠none∧(col' b'= .stable∨((col' b').celled∧(m.col b').celled)))
  rw[← hC]
  cases e:m.col b' with
  |lim u π=>
   by_cases hu:v≤u∧u<v+ds.length
   ·have e':m.col b'= .lim (v+(u-v)) π:=by rw[e];congr 1;omega
    refine .inr ⟨by simp[Color.own], .inr ?_⟩
    rw[putCol_lim e' (by omega)]
    exact ⟨.inl ⟨s,_,π,hsp,rfl⟩, .inr (.inl ⟨u,π,by omega,rfl⟩)⟩
   ·left;unfold putCol;rw[e];simp only;rw[if_neg hu]
  |arr s' o' π=>
   by_cases hc:s'=s∧off≤o'∧o'<off+ds.length
   ·refine .inr ⟨by simp[Color.own], .inl ?_⟩
    unfold putCol;rw[e];simp only;rw[if_pos hc]
   ·left;unfold putCol;rw[e];simp only;rw[if_neg hc]
  |free=>left;unfold putCol;rw[e]
  |stable=>left;unfold putCol;rw[e]
  |box s'=>left;unfold putCol;rw[e]
  |mp s'=>left;unfold putCol;rw[e]
 have hσo:∀x,x≠s→(m.σ.upd s (setCells (m.σ s) off ds)) x=m.σ x:=fun x hx=>by simp[St.upd,hx]
 obtain ⟨hks,hstays,_⟩:=turn1_keeps (m':=⟨m.σ.upd s (setCells (m.σ s) off ds),m.c,h',col'⟩) hr hs u hσo (fun _ _=>rfl) (fun b' _=>hcolo b') hkeep
 have hwfo:∀t∈old,TagWf g t:=entTags_mem hr (by rw[he];rfl)
 refine Step.turn1 hr hs u hσo (fun _ _=>rfl) hmem (fun b' _=>hcolo b') hkeep ⟨?_,?_⟩
 ·rw[← hE]
  intro t ht
  rw[hE]
  simp only[zT] at ht
  rcases ht with (ht|ht)|ht
  ·exact (hwfo t (List.mem_of_mem_take ht)).older holder
  ·rw[List.mem_map] at ht
   obtain ⟨t0,h1,rfl⟩:=ht
   exact frzTag_wf ((hwf t0 h1).older holder)
  ·exact (hwfo t (List.mem_of_mem_drop ht)).older holder
 ·have hbox:m.c s= .pointer (some ⟨blk,0,none⟩)∧col' blk= .box s:=⟨hc,by rw[← hC];unfold putCol;rw[hcb]⟩
  have htl:(ts.map (frzTag s)).length=ds.length:=by simp[hlt]
  have hg:∀q,(old.take off++ts.map (frzTag s)++old.drop (off+ds.length))[q]? =if q<off then old[q]? else if q<off+ds.length then (ts.map (frzTag s))[q-off]? else old[q]? :=fun q=>by
   have:=mix_get (l:=old) (m:=ts.map (frzTag s)) (off:=off) (j:=q) (by omega)
   rw[htl] at this
   exact this
  have hall:CellsOk k (u.of g s e') ⟨m.σ.upd s (setCells (m.σ s) off ds),m.c,h',col'⟩ s (old.take off++ts.map (frzTag s)++old.drop (off+ds.length)) (spl cs off xs).toList:=by
   have hlen:(old.take off++ts.map (frzTag s)++old.drop (off+ds.length)).length=old.length:=by simp[hlt];omega
   refine ⟨by rw[hlen];simp only[Array.length_toList];rw[spl_size hspl,hcsz],by rw[hlen];simp only[St.upd,if_true];rw[setCells_len (by omega),hσl],fun x hx=> ?_,fun q t d x h1 h2 h3=> ?_⟩
   ·obtain ⟨q,hq⟩:=zP hx
    rw[spl_get hspl] at hq
    split at hq
    ·exact hcells.2.2.1 x (zF hq)
    ·split at hq
     ·exact hone x (zF hq)
     ·exact hcells.2.2.1 x (zF hq)
   ·rw[hg q] at h1
    simp only[St.upd,if_true] at h2
    rw[set_cells (by omega)] at h2
    rw[spl_get hspl,hlx] at h3
    have keepOld:(q<off∨off+ds.length≤q)→old[q]? =some t→(m.σ s)[q]? =some d→cs.toList[q]? =some x→CellOk k (u.of g s e') ⟨m.σ.upd s (setCells (m.σ s) off ds),m.c,h',col'⟩ s q d x t:=fun hq a1 a2 a3=>by
     refine CellOk.keep (m:=m) hr.mem holder hks hstays (fun b' π hb'=> ?_) (hwfo t (zF a1)) (hcells.2.2.2 q t d x a1 a2 a3)
     refine ⟨hne b' (fun e=>by subst e;rw[hcb] at hb';cases hb'),?_⟩
     rw[hb',← hC]
     exact putCol_out hb' hq
    by_cases c1:q<off
    ·rw[if_pos c1] at h1 h2 h3
     exact keepOld (.inl c1) h1 h2 h3
    ·rw[if_neg c1] at h1 h2 h3
     by_cases c2:q<off+ds.length
     ·rw[if_pos c2] at h1 h2 h3
      rw[zK] at h1
      cases h4:ts[q-off]? with
      |none=>rw[h4] at h1;simp at h1
      |some t0=>
       rw[h4] at h1
       simp only[Option.map_some,Option.some.injEq] at h1
       subst h1
       have hL':=hL (q-off) t0 d x h4 h2 h3
       have hw:=hwf t0 (zF h4)
       have hmt:=zF h4
       cases t0 with
       |own n rs=>
        obtain ⟨hfl,hcur,hh⟩:=hL'
        refine ⟨hfl,fun _=>O.frame hh fun π b' hb'=> ?_⟩
        unfold gl at hb'
        unfold gd
        by_cases ho:owns n π.length=true
        ·rw[if_pos ho] at hb' ⊢
         refine ⟨hne b' (fun e=>by subst e;rw[hcb] at hb';cases hb'),?_⟩
         have:=putCol_lim (s:=s) (off:=off) (len:=ds.length) hb' (by omega)
         rw[hC] at this
         have e:off+(q-off)=q:=by omega
         show col' b'=_
         rw[this,e]
        ·rw[if_neg ho] at hb' ⊢
         rcases hb' with ⟨e1,e2⟩|⟨r,e1,π',e2⟩
         ·have:=hcolo b' (by rw[e1];simp[Color.own])
          refine ⟨this.1, .inl ⟨this.2.trans e1,?_⟩⟩
          rcases e2 with e2|⟨r,e3,j,e4,e5⟩
          ·exact .inl e2
          ·refine .inr ⟨r,?_,j,e4,e5⟩
           simp only[List.mem_filter,bne_iff_ne]
           exact ⟨e3,by omega⟩
         ·by_cases hrs:r.1=s
          ·have hin:off≤r.2.1∧r.2.1<off+ds.length:=by
            unfold frzOk at hfrz
            rw[zL] at hfrz
            have:=hfrz _ hmt
            simp only[zL] at this
            have:=this r e1
            simpa[hrs] using this
           rw[hrs] at e2
           refine ⟨hne b' (fun e=>by subst e;rw[hcb] at e2;cases e2), .inl ⟨?_, .inl (hr.mem.fresh b' s (by rw[e2];rfl))⟩⟩
           show col' b'=_
           rw[← hC]
           exact putCol_in e2 hin.1 hin.2
          ·have hrp:=(hr.mem.arr b' _ _ _ e2).1
           have:=hcolo b' (fun v' hv'=>by rw[e2] at hv';cases hv';exact ⟨hrs,hrp⟩)
           refine ⟨this.1, .inr ⟨r,?_,π',this.2.trans e2⟩⟩
           simp only[List.mem_filter,bne_iff_ne]
           exact ⟨e1,hrs⟩
       |dead=>trivial
       |sc=>exact ⟨hL'.1,hL'.2.flat hL'.1⟩
       |loan s' o' v' w=>exact CellOk.keepLoan (s:=0) (o:=0) (t:= .loan s' o' v' w) holder hks hw (fun _ _ e=>by cases e) hL'
       |pre s' o' v'=>exact CellOk.keepLoan (s:=0) (o:=0) (t:= .pre s' o' v') holder hks hw (fun _ _ e=>by cases e) hL'
     ·rw[if_neg c2] at h1 h2 h3
      exact keepOld (.inr (by omega)) h1 h2 h3
  rw[← hE] at hall ⊢
  exact .inr ⟨blk,spl cs off xs,hbox.1,hbox.2,hself,hall⟩
end
section ops
variable {k:K} {env:Env} {g:G} {m:M} {cx:Cx} {σ':St} {o:Oper} {r:Res}
theorem store_box_did (hr:Rel k g m) (hlen:g.length=cx.base+61) {ty:TypeId} {t:Nat} {x:Operand} {share:Bool} (ho:o.op= .store ty (.tmp t) x) (hpx:Here m x)
  (hent:∀s q v w i iv off sz,g.ent t≠ .eptr s q v w i iv off sz) (h:storeOp cx g ty t x share=some r) (he:evIs env r.is m.σ=some σ'):DidS cx k g m r σ' o:=by
 unfold storeOp at h
 split at h
 ·rename_i e;exact absurd e (hent _ _ _ _ _ _ _ _)
 simp only[zA] at h
 obtain ⟨b,_,y,hy,l,hl,h⟩:=h
 rw[guardO_some] at h
 simp only[zD,beq_iff_eq,decide_eq_true_eq,bne_iff_ne,ne_eq,Option.some.injEq] at h
 obtain ⟨⟨⟨⟨⟨⟨⟨⟨hcells,hn0⟩,hshape⟩,hok⟩,hba⟩,hoff⟩,hfrz⟩,hloan⟩,rfl⟩:=h
 simp only at he
 obtain ⟨vs,hcv,hcs⟩:=cels_ok hr hy (by intro t' e;exact hpx t' e)
 rw[evIs_append,zA] at he
 obtain ⟨σ1,he1,he2⟩:=he
 have he2:=evIs_one he2
 simp only[I.ev] at he2
 split at he2
 ·cases he2
 rename_i hvia
 rw[zA] at he2
 obtain ⟨ds,hds,he2⟩:=he2
 split at he2
 ·rename_i hcond
  obtain ⟨hcl,hflat⟩:=hcond
  cases he2
  obtain ⟨hll,hlg⟩:=carries_get hl
  have hcell:∀(i:Nat) (p:Tag×Mv),l[i]? =some p→∃c x,y.2[i]? =some c∧carry g (if b.1<cx.np then [b.1,ALL] else [b.1]) false c=some p∧vs[i]? =some x∧CelOk k g m c x:=fun i p hp=>by
   obtain ⟨c,h1,h2⟩:=hlg i p hp
   obtain ⟨x,h3,h4⟩:=hcs.2 i c h1
   exact ⟨c,x,h1,h2,h3,h4⟩
  have hmv:∀(i:Nat) (mv:Mv),(l.map (·.2))[i]? =some mv→∃x,vs[i]? =some x∧∀d,mv.src.ev m.σ=some d→MvOk k g m mv d x:=fun i mv hi=>by
   rw[zK] at hi
   cases hp:l[i]? with
   |none=>simp[hp] at hi
   |some p=>
    simp[hp] at hi
    subst hi
    obtain ⟨c,x,_,h2,h3,h4⟩:=hcell i p hp
    exact ⟨x,h3,(carry_ok hr h4 h2).1⟩
  obtain ⟨col1,S1,hdl,hheld,_,_,_,hver⟩:=lifts_ok hr (ms:=l.map (·.2)) (xs:=vs) (base:=cx.base) (by rw[hlen];omega) hmv hok he1 hds (v:=PAR) (Nat.le_refl _)
  have hr1:=S1.rel hr
  generalize hg1:leaves cx.base g (l.map (·.2))=g1 at*
  obtain ⟨b,off⟩:=b
  have hvia':(⟨σ1,m.c,m.h,col1⟩:M).σ t≠[]:=fun e=>by rw[show σ1 t=[] from e] at hvia;exact hvia rfl
  obtain ⟨tb,old,he',hbx⟩:=boxAt_ok hr1 hba hvia'
  have hold:boxTags g1 b=old:=by unfold boxTags;rw[he']
  have htb:boxTy g1 b=tb:=by unfold boxTy;rw[he']
  simp only[hold,htb] at hoff ⊢
  have hdly:ds.length=y.2.length:=by rw[hdl];simp[hll]
  have hσb:(⟨σ1,m.c,m.h,col1⟩:M).σ b≠[]:=fun e=>by rw[show σ1 b=[] from e] at hcl;simp only[List.length_nil] at hcl;omega
  obtain ⟨blk,cs,h1,h2,h3,h4,h5⟩:=hbx hσb
  have hcsz:cs.size=old.length:=by have:=h5.1;simpa using this
  have hone:∀x∈vs,x.oneCell'=true:=fun v hv=>by
   obtain ⟨i,hi⟩:=zP hv
   have hlt:i<y.2.length:=by rw[← hcs.1];exact (zE.1 hi).1
   obtain ⟨x,h1,h2⟩:=hcs.2 i y.2[i] (zB hlt)
   rw[hi] at h1
   cases h1
   exact h2.one
  have hrun:=fun w hw=>storeAt_run (P:=cx.P) (m:=m) ho hshape hcv hone (by rw[hcells,hcs.1]) (by rw[hcs.1];exact hn0) (b:=blk) (off:=off) h2 h4 (by rw[hcs.1,hcsz];exact hoff) w hw
  have hu:(if (l.map (·.1)).all isScT=true∧((old.drop off).take y.2.length).all isScT=true then g1.scal b (.box tb (old.take off++(l.map (·.1)).map (frzTag b)++old.drop (off+y.2.length))) else g1.trn b (.box tb (old.take off++(l.map (·.1)).map (frzTag b)++old.drop (off+y.2.length))))=
    (if (l.map (·.1)).all isScT=true∧((old.drop off).take y.2.length).all isScT=true then Turn.scal else Turn.trn).of g1 b (.box tb (old.take off++(l.map (·.1)).map (frzTag b)++old.drop (off+y.2.length))):=by
   split<;>rfl
  have hcl':off+ds.length≤old.length:=by rw[hdly];exact hoff
  have S2:=Step.put (k:=k) hr1 (v:=PAR) (Nat.le_refl _) he' h1 h3 h4 h5 (ts:=l.map (·.1)) (ds:=ds) (xs:=vs) (off:=off) (by rw[hdl];simp) (by rw[hcs.1,hdly]) hcl' (by rw[hdly];exact hn0) hone
   (fun j t d x a1 a2 a3=>by
    rw[zK] at a1
    cases hp:l[j]? with
    |none=>simp[hp] at a1
    |some p=>
     simp[hp] at a1
     subst a1
     obtain ⟨c,x',_,b2,b3,b4⟩:=hcell j p hp
     rw[a3] at b3
     cases b3
     have hmi:(l.map (·.2))[j]? =some p.2:=by simp[hp]
     obtain ⟨c1,c2⟩:=hheld j p.2 d x hmi a2 a3
     refine (carry_ok hr b4 b2).2.2 _ _ _ _ j d S1 c2 ?_ c1 ?_
     ·rw[curR_iff]
      intro q hq
      rw[hver p.2 (zF hmi) q hq]
      exact curR_iff.1 ((carry_ok hr b4 b2).1 d c2).cur q hq
     ·exact fun hs=>(flat_of hflat (i:=j) (t:=p.1) (by simp[hp]) a2).trans hs)
   (fun t ht=>by
    rw[List.mem_map] at ht
    obtain ⟨p,h1,rfl⟩:=ht
    obtain ⟨j,hp⟩:=zP h1
    obtain ⟨c,x',_,b2,b3,b4⟩:=hcell j p hp
    exact ((carry_ok hr b4 b2).2.1).older S1.older)
   (by rw[hdly];exact hfrz) hloan (u:=if (l.map (·.1)).all isScT=true∧((old.drop off).take y.2.length).all isScT=true then Turn.scal else Turn.trn)
   (by
    split
    ·rename_i hsc
     refine .inr ⟨rfl,fun q t a1 a2 a3=> ?_⟩
     have:=hsc.2
     rw[zL] at this
     have:=this t (zF (i:=q-off) (by
      rw[List.getElem?_take,if_pos (by omega),List.getElem?_drop]
      have:off+(q-off)=q:=by omega
      rw[this,a3]))
     cases t<;>first|rfl|cases this
    ·exact .inl rfl)
  rw[hdly] at S2
  intro w' hw'
  rw[hu]
  refine ⟨_,w'.drawn,_,hrun w' hw',(S1.trans hr S2).mono hr fun x' hx=> ?_⟩
  unfold TT
  rcases hx with hx|hx
  ·rcases hx with hx|hx
   ·exact .inl (by simp[hx])
   ·exact .inr (.inr (.inl hx))
  ·rcases hx with hx|hx
   ·exact .inl (by simp[hx])
   ·exact .inr (.inr (.inr hx))
 ·cases he2
end ops
theorem cellAt_append {xs ys:List (List D)} {i q:Nat} {d:D} (h:cellAt (xs++ys) i q=some d):(i<xs.length∧cellAt xs i q=some d)∨(xs.length≤i∧cellAt ys (i-xs.length) q=some d):=by
 obtain ⟨row,h1,h2⟩:=cellAt_lt h
 rcases zJ i xs.length with hi|hi
 ·rw[zI hi] at h1
  exact .inl ⟨hi,by simp[cellAt,h1,h2]⟩
 ·rw[zH hi] at h1
  exact .inr ⟨hi,by simp[cellAt,h1,h2]⟩
theorem O.cells {h:Array Obj} {good:Good} {sz:Nat} {rows:List (List D)} {a:Option Addr} {len cap:Nat} (ho:O h good (.sl sz rows) (.slice a len cap)):
  (rows=[]∧len=0∧cap=0)∨∃b off,a=some ⟨b,off,none⟩∧∃cs ty fr,h[b]? =some (.cells cs ty fr)∧good [] b∧len=rows.length∧len≤cap∧off+cap*sz≤cs.size∧(∀(i:Nat) (row:List D),rows[i]? =some row→row.length=sz)∧
   ∀(i o:Nat) (d:D),cellAt rows i o=some d→O h (good.sub i o) d (cs.getD (off+i*sz+o) undef):=by
 cases ho with
 |nil=>exact .inl ⟨rfl,rfl,rfl⟩
 |emp=>exact .inl ⟨rfl,rfl,rfl⟩
 |sl hg hb hl hc hsz hr he=>exact .inr ⟨_,_,rfl,_,_,_,hb,hg,hl,hc,hsz,hr,he⟩
def joinTo (v n N:Nat):Nat→List (Nat×Nat)→Color:=fun u π=>
 if u=v then (if owns N π.length=true then .lim v π else .stable)
 else if u=v+1 then (match π with| []=> .lim (v+1) []|(j,q)::π'=>if owns N (π'.length+1)=true then .lim v ((n+j,q)::π') else .stable)
 else if PAR≤u then .lim u π else .stable
theorem joinTo_ok {v n N:Nat} (hv:PAR≤v) (u:Nat) (π:List (Nat×Nat)):joinTo v n N u π= .stable∨∃u' π',PAR≤u'∧joinTo v n N u π= .lim u' π':=by
 unfold joinTo
 split
 ·split
  ·exact .inr ⟨v,π,hv,rfl⟩
  ·exact .inl rfl
 ·split
  ·split
   ·exact .inr ⟨v+1,[],by omega,rfl⟩
   ·split
    ·exact .inr ⟨v,_,hv,rfl⟩
    ·exact .inl rfl
  ·split
   ·rename_i h;exact .inr ⟨u,π,h,rfl⟩
   ·exact .inl rfl
def rowsFlat (rows:List (List D)):Prop:=∀(i q:Nat) (d:D),cellAt rows i q=some d→d.flat=true
theorem rowsFlat_of {rows:List (List D)} (h:rows.all (·.all D.flat)=true):rowsFlat rows:=fun i q d hd=>by
 obtain ⟨row,h1,h2⟩:=cellAt_lt hd
 rw[zL] at h
 have:=h row (zF h1)
 rw[zL] at this
 exact this d (zF h2)
section
variable {k:K} {g:G} {m:M}
theorem deepOk_relim {to:Nat→List (Nat×Nat)→Color} {new:Nat→Color} {ra R:Rts} {b:Nat} (hs:∀r∈ra,r∈R) (h:deepOk k m.col ra b):deepOk k (Own.relim m.col to new) R b∧∀u π,m.col b≠ .lim u π:=by
 rcases h with ⟨h1,h2⟩|⟨r,h1,π,h2⟩
 ·refine ⟨.inl ⟨by rw[relim_same (by rw[h1];simp) (by rw[h1];simp),h1],?_⟩,by rw[h1];simp⟩
  rcases h2 with h2|⟨r,h3,j,h4⟩
  ·exact .inl h2
  ·exact .inr ⟨r,hs r h3,j,h4⟩
 ·exact ⟨.inr ⟨r,hs r h1,π,by rw[relim_same (by rw[h2];simp) (by rw[h2];simp),h2]⟩,by rw[h2];simp⟩
theorem join_left (hr:Rel k g m) {v n N na:Nat} (hv:PAR≤v) {ra R:Rts} {new:Nat→Color} {h':Array Obj} {i q:Nat} {d:D} {x:Value} (ho:O m.h ((gl k m.col v na ra).sub i q) d x)
  (hh:∀b,(m.col b= .lim v []→False)→b<m.h.size→h'[b]? =m.h[b]?) (hA:d.flat=true∨((∀l,owns N l=true→owns na l=true)∧∀r∈ra,r∈R)):
  O h' ((gl k (Own.relim m.col (joinTo v n N) new) v N R).sub i q) d x:=by
 rcases hA with hA|⟨hN,hR⟩
 ·exact ho.flat hA
 refine ho.frame fun π b hb=> ?_
 change gl k m.col v na ra ((i,q)::π) b at hb
 show h'[b]? =m.h[b]? ∧gl k (Own.relim m.col (joinTo v n N) new) v N R ((i,q)::π) b
 unfold gl at hb ⊢
 by_cases o1:owns na ((i,q)::π).length=true
 ·rw[if_pos o1] at hb
  have hlt:b<m.h.size:=lt_size hr.mem (by rw[hb];simp)
  refine ⟨hh b (fun e=>by rw[hb] at e;cases e) hlt,?_⟩
  have hc:Own.relim m.col (joinTo v n N) new b=joinTo v n N v ((i,q)::π):=relim_lim hb
  unfold joinTo at hc
  rw[if_pos rfl] at hc
  by_cases o2:owns N ((i,q)::π).length=true
  ·rw[if_pos o2] at hc ⊢;exact hc
  ·rw[if_neg o2] at hc ⊢;exact .inl ⟨hc, .inl (hr.mem.fresh b v (by rw[hb];rfl))⟩
 ·rw[if_neg o1] at hb
  rw[if_neg fun h=>o1 (hN _ h)]
  obtain ⟨h1,h2⟩:=deepOk_relim (to:=joinTo v n N) (new:=new) hR hb
  have hlt:b<m.h.size:=lt_size hr.mem (by rcases hb with ⟨e,_⟩|⟨r,_,π',e⟩<;>rw[e]<;>simp)
  exact ⟨hh b (fun e=>h2 _ _ e) hlt,h1⟩
theorem join_right (hr:Rel k g m) {v n N nb:Nat} (hv:PAR≤v) {rb R:Rts} {new:Nat→Color} {h':Array Obj} {i q:Nat} {d:D} {x:Value} (ho:O m.h ((gl k m.col (v+1) nb rb).sub i q) d x)
  (hh:∀b,(m.col b= .lim v []→False)→b<m.h.size→h'[b]? =m.h[b]?) (hB:d.flat=true∨((∀l,owns N (l+1)=true→owns nb (l+1)=true)∧∀r∈rb,r∈R)):
  O h' ((gl k (Own.relim m.col (joinTo v n N) new) v N R).sub (n+i) q) d x:=by
 rcases hB with hB|⟨hN,hR⟩
 ·exact ho.flat hB
 refine ho.frame fun π b hb=> ?_
 change gl k m.col (v+1) nb rb ((i,q)::π) b at hb
 show h'[b]? =m.h[b]? ∧gl k (Own.relim m.col (joinTo v n N) new) v N R ((n+i,q)::π) b
 unfold gl at hb ⊢
 by_cases o1:owns nb ((i,q)::π).length=true
 ·rw[if_pos o1] at hb
  have hlt:b<m.h.size:=lt_size hr.mem (by rw[hb];simp)
  refine ⟨hh b (fun e=>by rw[hb] at e;injection e with e;omega) hlt,?_⟩
  have hc:Own.relim m.col (joinTo v n N) new b=joinTo v n N (v+1) ((i,q)::π):=relim_lim hb
  unfold joinTo at hc
  rw[if_neg (by omega),if_pos rfl] at hc
  simp only[List.length_cons] at hc ⊢
  by_cases o2:owns N (π.length+1)=true
  ·rw[if_pos o2] at hc ⊢;exact hc
  ·rw[if_neg o2] at hc ⊢;exact .inl ⟨hc, .inl (hr.mem.fresh b (v+1) (by rw[hb];rfl))⟩
 ·rw[if_neg o1] at hb
  rw[if_neg (c:=owns N ((n+i,q)::π).length=true) fun h=>o1 (hN _ h)]
  obtain ⟨h1,h2⟩:=deepOk_relim (to:=joinTo v n N) (new:=new) hR hb
  have hlt:b<m.h.size:=lt_size hr.mem (by rcases hb with ⟨e,_⟩|⟨r,_,π',e⟩<;>rw[e]<;>simp)
  exact ⟨hh b (fun e=>h2 _ _ e) hlt,h1⟩
theorem mul_lt_of {i n sz q:Nat} (hi:i<n) (hq:q<sz):i*sz+q<n*sz:=by
 have:=zR sz (show i+1≤n by omega)
 rw[Nat.add_mul] at this
 omega
theorem list_cells (cs:Array Value) (off n:Nat) (w:World) {b ty:Nat} {fr:Nat×Nat} (hb:w.heap[b]? =some (.cells cs ty fr)) (h:off+n≤cs.size):∀(j:Nat) (u:Value),(cellsAt cs off n)[j]? =some u→w.cell? ((⟨b,off,none⟩:Addr).add j)=some u:=by
 intro j u hu
 have hj:j<n:=by have:=(zE.1 hu).1;rwa [cellsAt_len] at this
 rw[cellsAt_get hj] at hu
 cases hu
 have:off+j<cs.size:=by omega
 simp[Addr.add_mid,World.cell?,hb,Array.getD,this]
theorem app_step (hr:Rel k g m) {v:Nat} (hv:PAR≤v) {P:Program} {t ty e:TypeId} {i:TypeInfo} {z:Value} {sz:Nat} (ht:P.underlying t=some (.slice e)) {t2:TypeId} (ht2:P.underlying t2=some (.slice e)) (hi:P.info? e=some i) (hz:i.zero=some z) (hsz:i.size=sz) (hzs:z.cells.size=sz) (hb0:i.bytes≤32768) (hsz0:sz≠0)
  {xs ys:List (List D)} {va vb:Value} {na nb:Nat} {ra rb:Rts} (ha:Held k m v na ra (.sl sz xs) va) (hbd:Held k m (v+1) nb rb (.sl sz ys) vb) (hna:owns na 0=true) (hmost:xs.length+ys.length≤most)
  {N:Nat} {R:Rts} (hN0:owns N 0=true) (hA:rowsFlat xs∨((∀l,owns N l=true→owns na l=true)∧∀r∈ra,r∈R)) (hB:rowsFlat ys∨((∀l,owns N (l+1)=true→owns nb (l+1)=true)∧∀r∈rb,r∈R))
  (w:World) (hw:w.heap=m.h):
  ∃(x:Value) (h':Array Obj) (dr:Nat) (col':Nat→Color),(Builtin.append_ #[t,t2] ty #[va,vb]).run P w= .ok x {w with heap:=h',drawn:=dr}∧x.oneCell'=true∧
   Step k g m g ⟨m.σ,m.c,h',col'⟩ (fun x=>PAR≤x)∧Held k ⟨m.σ,m.c,h',col'⟩ v N R (.sl sz (xs++ys)) x:=by
 subst hsz
 have hmost':(xs.length+ys.length)*i.bytes≤140737488355328:=by
  have:=Nat.mul_le_mul hmost hb0
  unfold most at this
  omega
 have hA':∀i' q d,cellAt xs i' q=some d→d.flat=true∨((∀l,owns N l=true→owns na l=true)∧∀r∈ra,r∈R):=fun i' q d hd=>hA.imp (fun h=>h i' q d hd) id
 have hB':∀i' q d,cellAt ys i' q=some d→d.flat=true∨((∀l,owns N (l+1)=true→owns nb (l+1)=true)∧∀r∈rb,r∈R):=fun i' q d hd=>hB.imp (fun h=>h i' q d hd) id
 obtain ⟨ao,capa,hva,hca,hnone⟩:=O.slice ha
 obtain ⟨bo,capb,hvb,hcb,hnoneb⟩:=O.slice hbd
 subst hva hvb
 have hsrc:∃news,_root_.Go.Src P i.size t2 (.slice bo ys.length capb) ys.length news w∧news.length=ys.length*i.size∧∀i' q d,cellAt ys i' q=some d→∃u,news[i'*i.size+q]? =some u∧O m.h ((gl k m.col (v+1) nb rb).sub i' q) d u:=by
  rcases O.cells hbd with ⟨h1,_,h2⟩|⟨b',off',rfl,cs,ty',fr,h1,_,_,_,h4,h5,h6⟩
  ·subst h1 h2
   cases bo with
   |none=>exact ⟨[],_root_.Go.Src.ofNil w ht2 0,by simp,fun i' q d hd=>by rw[cellAt_nil] at hd;cases hd⟩
   |some b=>exact ⟨[],_root_.Go.Src.ofSlice w ht2 b 0 0 [] (by simp) (fun j u h=>by simp at h) (fun u h=>by cases h),by simp,fun i' q d hd=>by rw[cellAt_nil] at hd;cases hd⟩
  ·have hfit:off'+ys.length*i.size≤cs.size:=by
    have:=zR i.size hcb
    omega
   refine ⟨cellsAt cs off' (ys.length*i.size),_root_.Go.Src.ofSlice w ht2 _ _ _ _ cellsAt_len (list_cells cs off' _ w (by rw[hw];exact h1) hfit) (fun u hu=> ?_),cellsAt_len,fun i' q d hd=> ?_⟩
   ·obtain ⟨j,hj⟩:=zP hu
    have hjl:j<ys.length*i.size:=by have:=(zE.1 hj).1;rwa [cellsAt_len] at this
    rw[cellsAt_get hjl] at hj
    cases hj
    have hq:j % i.size<i.size:=Nat.mod_lt _ (by omega)
    have hdv:j / i.size<ys.length:=(Nat.div_lt_iff_lt_mul (by omega)).2 hjl
    have hrow:ys[j / i.size]? =some ys[j / i.size]:=zB hdv
    have hrl:=h5 _ _ hrow
    have hd:cellAt ys (j / i.size) (j % i.size)=some (ys[j / i.size][j % i.size]'(by rw[hrl];exact hq)):=by simp[cellAt,hrow]
    have:=(h6 _ _ _ hd).one
    have e:off'+j / i.size*i.size+j % i.size=off'+j:=by have:=Nat.div_add_mod j i.size;rw[Nat.mul_comm] at this;omega
    rwa [e] at this
   ·obtain ⟨row,a1,a2⟩:=cellAt_lt hd
    have hi':i'<ys.length:=(zE.1 a1).1
    have hq:q<i.size:=by have:=(zE.1 a2).1;rwa [h5 _ _ a1] at this
    refine ⟨_,cellsAt_get (mul_lt_of hi' hq),?_⟩
    have:=h6 i' q d hd
    rwa [Nat.add_assoc] at this
 obtain ⟨news,hsrc,hnl,hnews⟩:=hsrc
 by_cases hroom:xs.length+ys.length≤capa
 ·rcases O.cells ha with ⟨h1,_,h2⟩|⟨blk,off,rfl,cs,ty',fr,h1,hg,_,_,h4,h5,h6⟩
  ·subst h1 h2
   have hy:ys=[]:=by
    have:ys.length=0:=by simp only[List.length_nil] at hroom;omega
    exact List.eq_nil_of_length_eq_zero this
   subst hy
   have hn:news=[]:=List.eq_nil_of_length_eq_zero (by rw[hnl];simp)
   subst hn
   have hrun:(Builtin.append_ #[t,t2] ty #[.slice ao 0 0, .slice bo 0 capb]).run P w= .ok (.slice ao 0 0) w:=by
    have h1:=hsrc.len w
    have h2:=hsrc.cells
    simp only[List.length_nil] at h1 h2
    cases ao<;>simp[Builtin.append_,run_underlying ht,run_underlying ht2,sizeOf,typeInfo,hi,h1,h2,storeCells]
   exact ⟨_,m.h,w.drawn,m.col,by rw[← hw];exact hrun,rfl,(Step.refl hr).mono hr fun x h=>h.elim,by cases ao;exact .nil;exact .emp⟩
  ·have hcb':m.col blk= .lim v []:=by unfold gl at hg;simpa[hna] using hg
   have hbl:blk<m.h.size:=lt_size hr.mem (by rw[hcb'];simp)
   obtain ⟨_,cs0,ty0,hb0⟩:=hr.mem.lm blk v [] hcb'
   rw[h1] at hb0
   cases hb0
   have hfit:off+xs.length*i.size+news.length≤cs.size:=by
    have:=zR i.size hroom
    rw[Nat.add_mul] at this
    omega
   have hrun:=run_append_room_src (P:=P) w t t2 ty e i ht hi blk off xs.length capa (.slice bo ys.length capb) ys.length news hsrc hroom
    (fun j hj=>by
     have:off+xs.length*i.size+j<cs.size:=by omega
     simp[World.cell?,hw,h1,this])
    (fun j hj=>by simp[World.frozen?,hw,h1])
   rw[setCells_block news _ w cs (by rw[hw];exact h1) hfit,hw] at hrun
   generalize hH:m.h.setIfInBounds blk (Obj.cells (spl cs (off+xs.length*i.size) news) ty' (0,0))=h' at hrun
   have hne:∀b':Nat,b'≠blk→h'[b']? =m.h[b']? :=fun b' e=>by rw[← hH,Array.getElem?_setIfInBounds_ne (Ne.symm e)]
   have hself:h'[blk]? =some (Obj.cells (spl cs (off+xs.length*i.size) news) ty' (0,0)):=by rw[← hH,Array.getElem?_setIfInBounds_self_of_lt hbl]
   have hhs:h'.size=m.h.size:=by rw[← hH];simp
   have hhh:∀b,(m.col b= .lim v []→False)→b<m.h.size→h'[b]? =m.h[b]? :=fun b' h _=>hne b' fun e=>by subst e;exact h hcb'
   have S:=Step.relim hr (h':=h') (to:=joinTo v xs.length N) (new:=fun _=> .free)
    ⟨by rw[hhs];exact Nat.le_refl _,fun b' _=>by
     by_cases e:b'=blk
     ·subst e;exact .inr ⟨⟨v,[],hcb'⟩,_,_,hself⟩
     ·exact .inl (hne b' e),fun _ _=>rfl,fun b' h1 h2=>by omega,joinTo_ok hv⟩
   refine ⟨.slice (some ⟨blk,off,none⟩) (xs.length+ys.length) capa,h',w.drawn,_,hrun,rfl,S,?_⟩
   have hcn:Own.relim m.col (joinTo v xs.length N) (fun _=>Color.free) blk= .lim v []:=by
    rw[relim_lim hcb']
    unfold joinTo
    rw[if_pos rfl]
    simp[hN0]
   refine .sl (cs:=spl cs (off+xs.length*i.size) news) (ty:=ty') (fr:=(0,0)) ?_ hself (by simp) (by simpa using hroom) (by rw[spl_size hfit];exact h4) (fun j row hj=> ?_) (fun j q d hd=> ?_)
   ·show gl k _ v N R [] blk
    unfold gl
    rw[if_pos (by simpa using hN0)]
    exact hcn
   ·rcases zJ j xs.length with c|c
    ·rw[zI c] at hj;exact h5 j row hj
    ·rw[zH c] at hj
     rcases O.cells hbd with ⟨g1,_,_⟩|⟨_,_,_,_,_,_,_,_,_,_,_,g5,_⟩
     ·rw[g1] at hj;simp at hj
     ·exact g5 _ row hj
   ·rcases cellAt_append hd with ⟨c1,c2⟩|⟨c1,c2⟩
    ·obtain ⟨row,a1,a2⟩:=cellAt_lt c2
     have hq:q<i.size:=by have:=(zE.1 a2).1;rwa [h5 _ _ a1] at this
     have:=mul_lt_of c1 hq
     rw[spl_out hfit (by omega)]
     exact join_left hr hv (h6 j q d c2) hhh (hA' j q d c2)
    ·obtain ⟨u,b1,b2⟩:=hnews _ q d c2
     have e1:off+j*i.size+q=off+xs.length*i.size+((j-xs.length)*i.size+q):=by
      have:j*i.size=xs.length*i.size+(j-xs.length)*i.size:=by rw[← Nat.add_mul];congr 1;omega
      omega
     rw[e1,spl_in hfit b1]
     have:=join_right hr hv (n:=xs.length) (new:=fun _=>Color.free) b2 hhh (hB' _ q d c2)
     have e2:xs.length+(j-xs.length)=j:=by omega
     rw[e2] at this
     exact this
 ·
  have hold:∃olds:List Value,(Builtin.firstCells i.size xs.length (.slice ao xs.length capa)).run P w.drew= .ok olds.toArray w.drew∧olds.length=xs.length*i.size∧∀i' q d,cellAt xs i' q=some d→∃u,olds[i'*i.size+q]? =some u∧O m.h ((gl k m.col v na ra).sub i' q) d u:=by
   rcases O.cells ha with ⟨h1,_,h2⟩|⟨b',off',rfl,cs,ty',fr,h1,_,_,_,h4,h5,h6⟩
   ·subst h1 h2
    cases ao with
    |none=>exact ⟨[],run_firstCells_none w.drew i.size 0 0 0,by simp,fun i' q d hd=>by rw[cellAt_nil] at hd;cases hd⟩
    |some b=>exact ⟨[],run_firstCells_some w.drew i.size 0 b 0 0 [] (by simp) (fun j u h=>by simp at h),by simp,fun i' q d hd=>by rw[cellAt_nil] at hd;cases hd⟩
   ·have hfit:off'+xs.length*i.size≤cs.size:=by
     have:=zR i.size hca
     omega
    refine ⟨cellsAt cs off' (xs.length*i.size),run_firstCells_some w.drew i.size _ _ _ _ _ cellsAt_len (list_cells cs off' _ w.drew (by rw[show w.drew.heap=w.heap from rfl,hw];exact h1) hfit),cellsAt_len,fun i' q d hd=> ?_⟩
    obtain ⟨row,a1,a2⟩:=cellAt_lt hd
    have hi':i'<xs.length:=(zE.1 a1).1
    have hq:q<i.size:=by have:=(zE.1 a2).1;rwa [h5 _ _ a1] at this
    refine ⟨_,cellsAt_get (mul_lt_of hi' hq),?_⟩
    have:=h6 i' q d hd
    rwa [Nat.add_assoc] at this
  obtain ⟨olds,hold,hol,holds⟩:=hold
  have hrun:=run_append_grow_src (P:=P) w t t2 ty e i z ht hi hz ao xs.length capa olds hold (.slice bo ys.length capb) ys.length news hsrc (by omega)
   (by unfold most at hmost;omega) (growslice_fits (by omega) hmost')
  have hge:=grownCap_ge w (xs.length+ys.length) capa e
  generalize hG:grownCap w (xs.length+ys.length) capa e=G at hrun hge
  generalize hC:(olds++news).toArray++Builtin.zeroCells z.cells (G-(xs.length+ys.length))=C at hrun
  have hCs:C.size=G*i.size:=by
   rw[← hC]
   simp only[Array.size_append,List.size_toArray,List.length_append,size_zeroCells,hzs,hol,hnl]
   rw[← Nat.add_mul,← Nat.add_mul]
   congr 1
   omega
  have hCg:∀j u,(olds++news)[j]? =some u→C.getD j undef=u:=fun j u hu=>by
   rw[getD_toList,← hC,Array.toList_append,zI (by simpa using (zE.1 hu).1)]
   simp[hu]
  have S:=Step.relim hr (h':=m.h.push (.cells C e)) (to:=joinTo v xs.length N) (new:=fun b=>if b=m.h.size then .lim v [] else .free)
   ⟨by simp,fun b' hb'=> .inl (by rw[Array.getElem?_push,if_neg (by omega)]),fun b' hb'=>by simp at hb';rw[if_neg (by omega)],fun b' h1 h2=>by
    simp at h2
    have:b'=m.h.size:=by omega
    subst this
    exact ⟨⟨v,[],hv,by simp⟩,C,e,by simp⟩,joinTo_ok hv⟩
  have hhh:∀b,(m.col b= .lim v []→False)→b<m.h.size→(m.h.push (Obj.cells C e))[b]? =m.h[b]? :=fun b' _ hb'=>by rw[Array.getElem?_push,if_neg (by omega)]
  have hcn:Own.relim m.col (joinTo v xs.length N) (fun b=>if b=m.h.size then Color.lim v [] else .free) m.h.size= .lim v []:=by
   rw[relim_free ((hr.mem.free _).1 (Nat.le_refl _))]
   simp
  refine ⟨.slice (some ⟨m.h.size,0,none⟩) (xs.length+ys.length) G,m.h.push (.cells C e),w.drawn+1,_,by rw[hrun];unfold World.alloc World.drew;simp only[hw],rfl,S,?_⟩
  refine .sl (cs:=C) (ty:=e) (fr:=(0,0)) ?_ (by simp) (by simp) hge (by rw[hCs];omega) (fun j row hj=> ?_) (fun j q d hd=> ?_)
  ·show gl k _ v N R [] m.h.size
   unfold gl
   rw[if_pos (by simpa using hN0)]
   exact hcn
  ·rcases zJ j xs.length with c|c
   ·rw[zI c] at hj
    rcases O.cells ha with ⟨g1,_,_⟩|⟨_,_,_,_,_,_,_,_,_,_,_,g5,_⟩
    ·rw[g1] at hj;simp at hj
    ·exact g5 _ row hj
   ·rw[zH c] at hj
    rcases O.cells hbd with ⟨g1,_,_⟩|⟨_,_,_,_,_,_,_,_,_,_,_,g5,_⟩
    ·rw[g1] at hj;simp at hj
    ·exact g5 _ row hj
  ·rcases cellAt_append hd with ⟨c1,c2⟩|⟨c1,c2⟩
   ·obtain ⟨u,b1,b2⟩:=holds j q d c2
    rw[Nat.zero_add,hCg _ u (by rw[zI (zE.1 b1).1];exact b1)]
    exact join_left hr hv b2 hhh (hA' j q d c2)
   ·obtain ⟨u,b1,b2⟩:=hnews _ q d c2
    have e1:j*i.size+q=olds.length+((j-xs.length)*i.size+q):=by
     have:j*i.size=xs.length*i.size+(j-xs.length)*i.size:=by rw[← Nat.add_mul];congr 1;omega
     omega
    rw[Nat.zero_add,e1,hCg _ u (by rw[zH (by omega)];simpa using b1)]
    have:=join_right hr hv (n:=xs.length) (new:=fun b=>if b=m.h.size then Color.lim v [] else .free) b2 hhh (hB' _ q d c2)
    have e2:xs.length+(j-xs.length)=j:=by omega
    rw[e2] at this
    exact this
end
section ops
variable {k:K} {env:Env} {g:G} {m:M} {cx:Cx} {dst:Nat} {σ':St} {o:Oper} {r:Res}
theorem evs_two {σ:St} {l:List Src} {x y:D} (hl:l.length=2) (hx:(l.getD 0 default).ev σ=some x) (hy:(l.getD 1 default).ev σ=some y):evs σ l=some [x,y]:=by
 match l,hl with
 | [a,b],_=>
  simp at hx hy
  simp[evs,hx,hy]
theorem app_did (hr:Rel k g m) (hf:Fits cx g dst) {take:Bool} {ty yty:TypeId} {x y:Operand} {c:Call} (ho:o.op= .call c) (hc:c.callee= .builtin .append) (ha:c.args= #[x,y]) (hty:c.argTypes= #[ty,yty])
  (hpx:Here m x) (hpy:Here m y) (h:appOp cx take g dst ty x y yty=some r) (he:evIs env r.is m.σ=some σ'):Did cx k g m r σ' o dst:=by
 unfold appOp at h
 simp only[zA] at h
 obtain ⟨e,hu,e',hu',z,hz,h⟩:=h
 rw[guardO_some] at h
 obtain ⟨hcond,h⟩:=h
 simp only[zD,beq_iff_eq,decide_eq_true_eq,bne_iff_ne,ne_eq] at hcond
 obtain ⟨⟨⟨⟨hby,hby0⟩,hc0⟩,hee⟩,hzl⟩:=hcond
 subst hee
 simp only[zA] at h
 obtain ⟨a,hca,b,hcb,ma,hma,mb,hmb,h⟩:=h
 rw[guardO_some] at h
 obtain ⟨hcond,h⟩:=h
 simp only[zD,Bool.not_eq_true',bne_iff_ne,ne_eq,zL] at hcond
 obtain ⟨⟨⟨hman,hok⟩,hleft⟩,hrs⟩:=hcond
 cases h
 simp only at he
 have hca':=cel1_ok hr hca hpx
 have hcb':=cel1_ok hr hcb hpy
 obtain ⟨u,i,zv,hu2,hi,hzv,hfit,hsize,_⟩:=zeros_ok hz
 have hus:cx.P.underlying ty=some (.slice e'):=by
  unfold sliceElem at hu
  split at hu
  ·rename_i q;cases hu;exact q
  ·cases hu
 have hus':cx.P.underlying yty=some (.slice e'):=by
  unfold sliceElem at hu'
  split at hu'
  ·rename_i q;cases hu';exact q
  ·cases hu'
 have hisz:i.size=cx.P.cellsOf e':=by unfold Program.cellsOf;rw[hi];rfl
 have hibytes:i.bytes=cx.P.bytesOf e':=by unfold Program.bytesOf;rw[hi];rfl
 have hzvs:zv.cells.size=cx.P.cellsOf e':=by rw[← hzl];have:=(zerosFit_get hfit).1;simpa using this
 rw[evIs_append,zA] at he
 obtain ⟨σ1,he1,he2⟩:=he
 have he2:=evIs_one he2
 simp only[I.ev,zA] at he2
 obtain ⟨da,hda,db,hdb,he2⟩:=he2
 have hmvb:∀d,mb.src.ev m.σ=some d→MvOk k g m mb d (vl m y):=fun d hd=>by
  split at hmb
  ·exact mv_ok hr hcb' hmb hd
  ·split at hmb
   ·exact mv_ok hr hcb' hmb hd
   ·exact (cp_ok hr hcb' hmb hd).1
 have hmv:∀(j:Nat) (mv:Mv),[ma,mb][j]? =some mv→∃v,[vl m x,vl m y][j]? =some v∧∀d,mv.src.ev m.σ=some d→MvOk k g m mv d v:=fun j mv hj=>by
  match j with
  |0=>simp at hj;subst hj;exact ⟨_,rfl,fun d hd=>mv_ok hr hca' hma hd⟩
  |1=>simp at hj;subst hj;exact ⟨_,rfl,hmvb⟩
  |j+2=>simp at hj
 have hds:=evs_two (σ:=σ1) (l:=(lifts cx.base [ma,mb]).2) (by rw[lifts_len];rfl) hda hdb
 obtain ⟨col1,S1,hdl,hheld,_,_,_,hver⟩:=lifts_ok hr (ms:=[ma,mb]) (xs:=[vl m x,vl m y]) (base:=cx.base) (by rw[hf.len];omega) hmv hok he1 hds (v:=PAR) (Nat.le_refl _)
 have hr1:=S1.rel hr
 split at he2
 ·rename_i sz1 xs sz2 ys
  split at he2
  ·rename_i hcond
   obtain ⟨e1,e2,hmost,hflat⟩:=hcond
   cases he2
   subst e1
   subst e2
   obtain ⟨hha,hsa⟩:=hheld 0 ma _ _ rfl rfl rfl
   obtain ⟨hhb,hsb⟩:=hheld 1 mb _ _ rfl rfl rfl
   have hcurA:=(mv_ok hr hca' hma hsa).cur
   have hcurB:=(hmvb _ hsb).cur
   generalize hN:(if flatKinds cx.P e'=true then DEEP else min ma.n (if mb.n=0 then 1 else mb.n))=N at*
   generalize hR:unionR ma.rs (if flatKinds cx.P e'=true then [] else mb.rs)=R at*
   have hfl:flatKinds cx.P e'=true→rowsFlat xs∧rowsFlat ys:=fun hk=>by
    rw[hk] at hflat
    simp only[Bool.not_true,Bool.false_or,zD] at hflat
    exact ⟨rowsFlat_of hflat.1,rowsFlat_of hflat.2⟩
   have hN0:owns N 0=true:=by
    rw[← hN]
    unfold owns DEEP
    split
    ·simp
    ·simp only[Bool.or_eq_true,decide_eq_true_eq]
     right
     have:0<ma.n:=Nat.pos_of_ne_zero hman
     split<;>omega
   have hcurR:curR (leaves cx.base g [ma,mb]) R=true:=by
    rw[curR_iff]
    intro q hq
    rw[← hR] at hq
    rcases mem_unionR.1 hq with hq|hq
    ·rw[hver ma (by simp) q hq];exact curR_iff.1 hcurA q hq
    ·split at hq
     ·cases hq
     ·rw[hver mb (by simp) q hq];exact curR_iff.1 hcurB q hq
   have hna:owns ma.n 0=true:=by unfold owns;simp;omega
   have hA:rowsFlat xs∨((∀l,owns N l=true→owns ma.n l=true)∧∀q∈ma.rs,q∈R):=by
    by_cases hk:flatKinds cx.P e'=true
    ·exact .inl (hfl hk).1
    ·refine .inr ⟨fun l hl=> ?_,fun q hq=>by rw[← hR];exact mem_unionR.2 (.inl hq)⟩
     rw[← hN,if_neg hk] at hl
     exact owns_le (Nat.min_le_left _ _) hl
   have hB:rowsFlat ys∨((∀l,owns N (l+1)=true→owns mb.n (l+1)=true)∧∀q∈mb.rs,q∈R):=by
    by_cases hk:flatKinds cx.P e'=true
    ·exact .inl (hfl hk).2
    ·refine .inr ⟨fun l hl=> ?_,fun q hq=>by rw[← hR,if_neg hk];exact mem_unionR.2 (.inr hq)⟩
     rw[← hN,if_neg hk] at hl
     have hl:=owns_le (Nat.min_le_right _ _) hl
     split at hl
     ·unfold owns DEEP at hl;simp at hl
     ·exact hl
   refine ⟨?_,fun h1 _=>by simp[ho,quietB,hc] at h1⟩
   intro w hw
   obtain ⟨v,h',dr,col2,hrun,hone,S2,hH⟩:=app_step hr1 (v:=PAR) (Nat.le_refl _) (ty:=o.type) hus hus' hi hzv hisz hzvs (by rw[hibytes];exact hby) hc0 hha hhb hna hmost hN0 hA hB w hw
   have hr2:=S2.rel hr1
   have hf1:Fits cx (leaves cx.base g [ma,mb]) dst:=⟨by rw[S1.len];exact hf.len,hf.dst⟩
   have S3:=one_step_at hr2 hf1 (v:=PAR) (Nat.le_refl _) (t:= .own N R) hone ⟨rfl,hcurR,hH⟩ (fun q hq=>Nat.le_of_eq (curR_iff.1 hcurR q hq).symm) (frz_id (fun q hq=>by simpa using hrs q hq)) .none
   refine ⟨.value v,v,h',dr,_, .inl rfl,?_,((S1.trans hr S2).trans hr S3).mono hr fun q hq=> ?_⟩
   ·simp only[execOp,ho,Sem.run_bind]
    simp only[resolve,hc,ha,invoke,builtin,hty]
    simp only[Sem.run_bind,Sem.run_pure,Result.andThen_ok]
    have hrun':=hrun
    simp only[List.map_toArray,List.map_cons,List.map_nil] at hrun' ⊢
    rw[hrun']
    rfl
   ·unfold TT at hq ⊢
    rcases hq with (hq|hq)|hq
    ·rcases hq with hq|hq
     ·exact .inl hq
     ·exact .inr (.inr (.inl hq))
    ·exact .inr (.inr (.inr hq))
    ·rcases hq with hq|hq
     ·cases hq
     ·exact .inr hq
  ·cases he2
 ·cases he2
end ops
def fits:List D→List Value→Prop
 | [],[]=>True
 |d::ds,x::xs=>(d.flat=true∧O #[] (fun _ _=>True) d x)∧fits ds xs
 |_,_=>False
theorem fits_len:∀{ds:List D} {xs:List Value},fits ds xs→ds.length=xs.length
 | [],[],_=>rfl
 |_::ds,_::xs,h=>by simp[fits_len h.2]
 | [],_::_,h=>h.elim
 |_::_,[],h=>h.elim
theorem fits_drop:∀{n:Nat} {ds:List D} {xs:List Value},fits ds xs→fits (ds.drop n) (xs.drop n)
 |0,_,_,h=>h
 |n+1,[],[],h=>by simpa using h
 |n+1,_::ds,_::xs,h=>by simpa using fits_drop (n:=n) h.2
 |n+1,[],_::_,h=>h.elim
 |n+1,_::_,[],h=>h.elim
theorem fits_take:∀{n:Nat} {ds:List D} {xs:List Value},fits ds xs→fits (ds.take n) (xs.take n)
 |0,_,_,h=>by simp[fits]
 |n+1,[],[],h=>by simp[fits]
 |n+1,_::ds,_::xs,h=>⟨h.1,fits_take (n:=n) h.2⟩
 |n+1,[],_::_,h=>h.elim
 |n+1,_::_,[],h=>h.elim
theorem sames_split:∀{n:Nat} {ds es:List D} {r:Bool},sames ds es=some r→∃a b,sames (ds.take n) (es.take n)=some a∧sames (ds.drop n) (es.drop n)=some b∧r=(a&&b)
 |0,ds,es,r,h=>⟨true,r,by simp[sames],by simpa using h,by simp⟩
 |n+1,[],[],r,h=>⟨true,r,by simp[sames],by simpa using h,by simp⟩
 |n+1,[],_::_,_,h=>by simp[sames] at h
 |n+1,_::_,[],_,h=>by simp[sames] at h
 |n+1,x::ds,y::es,r,h=>by
  simp only[sames] at h
  split at h
  ·rename_i a b h1 h2
   cases h
   obtain ⟨c,d,h3,h4,h5⟩:=sames_split (n:=n) h2
   refine ⟨a&&c,d,?_,by simpa using h4,by rw[h5,Bool.and_assoc]⟩
   simp only[List.take_succ_cons,sames,h1,h3]
  ·cases h
section
variable {P:Program}
theorem eqZs_one {f:Nat} {t:TypeId} {zs:List D} (h:eqZs P f t=some zs) (ha:isAggB P t=false):zs.length=1:=by
 cases f with
 |zero=>simp[eqZs] at h
 |succ f=>
  unfold eqZs at h
  unfold isAggB at ha
  split at h<;>first|(cases h;rfl)|(rename_i hu;rw[hu] at ha;cases ha)|cases h
theorem eqZs_known {f:Nat} {t:TypeId} {zs:List D} (h:eqZs P f t=some zs):∃u,P.underlying t=some u:=by
 cases f with
 |zero=>simp[eqZs] at h
 |succ f=>
  unfold eqZs at h
  split at h<;>first|exact ⟨_,by assumption⟩|cases h
theorem eqZsFs_len {g:TypeId→Option (List D)}:∀{fs:List Field} {acc zs:List D},eqZsFs P g fs acc=some zs→∃ws,zs=acc++ws
 | [],acc,zs,h=>by simp[eqZsFs] at h;exact ⟨[],by simp[h]⟩
 |fd::fs,acc,zs,h=>by
  simp only[eqZsFs,guardO_some,zA] at h
  obtain ⟨_,ws,_,_,h⟩:=h
  obtain ⟨vs,h⟩:=eqZsFs_len h
  exact ⟨ws++vs,by rw[h,List.append_assoc]⟩
theorem part_run {t:TypeId} {xs:List Value} {off n:Nat} (hn:P.cellsOf t=n) (hle:off+n≤xs.length) (h1:isAggB P t=false→n=1) {u:TypeDesc} (hu:P.underlying t=some u) (h0:n≠0) (w:World):
  ∃v,(part t xs.toArray off).run P w= .ok v w∧cellsV (shapeOf P t) v=some ((xs.drop off).take n):=by
 have hi:∃i,P.info? t=some i∧i.size=n:=by
  unfold Program.cellsOf at hn
  cases hq:P.info? t with
  |none=>simp[hq] at hn;omega
  |some i=>simp[hq] at hn;exact ⟨i,rfl,hn⟩
 obtain ⟨i,hi1,hi2⟩:=hi
 have hagg:(isAgg t).run P w= .ok (isAggB P t) w:=by
  unfold isAgg isAggB
  rw[Sem.run_bind,run_underlying hu w,hu]
  cases u<;>rfl
 by_cases ha:isAggB P t=true
 ·refine ⟨.agg (xs.toArray.extract off (off+n)),by simp[part,Sem.run_bind,hagg,ha,sizeOf,typeInfo,hi1,hi2],?_⟩
  unfold shapeOf
  rw[if_pos ha]
  simp only[cellsV]
  congr 1
  simp[List.extract_eq_take_drop]
 ·have ha':isAggB P t=false:=by simpa using ha
  have hn1:=h1 ha'
  subst hn1
  have hx:xs[off]? =some (xs[off]'(by omega)):=zB (by omega)
  refine ⟨xs[off]'(by omega),by simp[part,Sem.run_bind,hagg,ha',hx],?_⟩
  unfold shapeOf
  rw[if_neg ha]
  simp only[cellsV]
  congr 1
  apply List.ext_getElem?
  intro j
  rw[List.getElem?_take]
  cases j with
  |zero=>simp
  |succ j=>simp
theorem sames_len:∀{ds es:List D} {r:Bool},sames ds es=some r→ds.length=es.length
 | [],[],_,_=>rfl
 | [],_::_,_,h=>by simp[sames] at h
 |_::_,[],_,h=>by simp[sames] at h
 |x::ds,y::es,r,h=>by
  simp only[sames] at h
  split at h
  ·rename_i a b h1 h2;simp[sames_len h2]
  ·cases h
theorem equalIn_ok:∀(f:Nat) (t:TypeId) (zs:List D),eqZs P f t=some zs→∀(d:Nat),f≤d→∀(va vb:Value) (xs ys:List Value) (ds es:List D) (r r':Bool) (w:World),
  cellsV (shapeOf P t) va=some xs→cellsV (shapeOf P t) vb=some ys→fits ds xs→fits es ys→sames ds zs=some r'→sames ds es=some r→(Op.equalIn d t va vb).run P w= .ok r w:=by
 intro f
 induction f with
 |zero=>intro t n h;simp[eqZs] at h
 |succ f ih=>
  intro t zs h d hd va vb xs ys ds es r r' w hva hvb hfx hfy hz hs
  obtain ⟨d,rfl⟩:∃d',d=d'+1:=⟨d-1,by omega⟩
  have one:∀{v:Value} {zs:List Value} {qs:List D},shapeOf P t= .one→cellsV (shapeOf P t) v=some zs→fits qs zs→qs.length=1→∃q,qs=[q]∧O #[] (fun _ _=>True) q v:=by
   intro v zs qs hsh hv hf hl
   rw[hsh] at hv
   simp[cellsV] at hv
   subst hv
   match qs,hl,hf with
   | [q],_,hf=>exact ⟨q,rfl,hf.1.2⟩
   | [],hl,_=>simp at hl
   |_::_::_,hl,_=>simp at hl
  have hl1:=sames_len hz
  have hl2:=sames_len hs
  unfold eqZs at h
  split at h
  ·rename_i kk hu
   cases h
   have hsh:shapeOf P t= .one:=by unfold shapeOf isAggB;rw[hu];rfl
   obtain ⟨q,rfl,o1⟩:=one hsh hva hfx hl1
   obtain ⟨q',rfl,o2⟩:=one hsh hvb hfy (by rw[← hl2];rfl)
   cases o1 with
   |int=>
    cases o2 with
    |int=>
     rename_i k1 n1 k2 n2
     by_cases hk:k1=k2
     ·subst hk
      simp[sames,D.same] at hs
      subst hs
      simp[Op.equalIn,Sem.run_bind,run_underlying hu]
     ·simp[sames,D.same,hk] at hs
    |_=>simp[sames,D.same] at hs
   |_=>simp[sames,D.same] at hz
  ·rename_i hu
   cases h
   have hsh:shapeOf P t= .one:=by unfold shapeOf isAggB;rw[hu];rfl
   obtain ⟨q,rfl,o1⟩:=one hsh hva hfx hl1
   obtain ⟨q',rfl,o2⟩:=one hsh hvb hfy (by rw[← hl2];rfl)
   cases o1<;>simp[sames,D.same] at hz
   cases o2<;>simp[sames,D.same] at hs
   subst hs
   simp[Op.equalIn,Sem.run_bind,run_underlying hu]
  ·rename_i hu
   cases h
   have hsh:shapeOf P t= .one:=by unfold shapeOf isAggB;rw[hu];rfl
   obtain ⟨q,rfl,o1⟩:=one hsh hva hfx hl1
   obtain ⟨q',rfl,o2⟩:=one hsh hvb hfy (by rw[← hl2];rfl)
   cases o1<;>simp[sames,D.same] at hz
   cases o2<;>simp[sames,D.same] at hs
   subst hs
   rw[run_equalIn_string w d t _ _ hu,ByteArray.toList_eq,ByteArray.toList_eq]
  ·rename_i fs hu
   rw[guardO_some] at h
   obtain ⟨hst,h⟩:=h
   have hsh:shapeOf P t= .agg:=by unfold shapeOf isAggB;rw[hu];rfl
   rw[hsh] at hva hvb
   have agg:∀{v:Value} {zs:List Value},cellsV .agg v=some zs→v= .agg zs.toArray:=by
    intro v zs hv
    cases v<;>simp[cellsV] at hv
    subst hv
    simp
   have hva:=agg hva
   have hvb:=agg hvb
   subst hva hvb
   have hfo:P.fieldsOf t=fs:=by unfold Program.fieldsOf;rw[hu]
   rw[run_equalIn_struct w d t _ _ (by rw[hfo];exact hu) (by simpa using hst),hfo]
   have key:∀(l:List Field) (acc:List D),eqZsFs P (eqZs P f) l acc=some zs→∀r',sames (ds.drop acc.length) (es.drop acc.length)=some r'→(∃q,sames (ds.drop acc.length) (zs.drop acc.length)=some q)→(Op.eqFields d xs.toArray ys.toArray l).run P w= .ok r' w:=by
    intro l
    induction l with
    |nil=>
     intro acc h r' h1 h2
     simp[eqZsFs] at h
     subst h
     obtain ⟨q,h2⟩:=h2
     have e1:=sames_len h2
     have e2:=sames_len h1
     simp at e1
     have hd0:ds.drop acc.length=[]:=List.eq_nil_of_length_eq_zero (by simp;omega)
     have he0:es.drop acc.length=[]:=List.eq_nil_of_length_eq_zero (by rw[← e2,hd0];rfl)
     rw[hd0,he0] at h1
     simp[sames] at h1
     subst h1
     simp[Op.eqFields]
    |cons fd l ihl=>
     intro acc h r' h1 h2
     have h0:=h
     simp only[eqZsFs,guardO_some,zA,zD,beq_iff_eq,bne_iff_ne,ne_eq] at h
     obtain ⟨⟨hnm,hoff⟩,ws,hws,⟨hsz,hw0⟩,h⟩:=h
     obtain ⟨vs,hvs⟩:=eqZsFs_len h
     obtain ⟨a,b,h3,h4,rfl⟩:=sames_split (n:=ws.length) h1
     obtain ⟨q,h2⟩:=h2
     obtain ⟨qa,qb,h5,h6,_⟩:=sames_split (n:=ws.length) h2
     rw[hvs] at h5 h6
     rw[List.append_assoc,List.drop_append_of_le_length (Nat.le_refl _),List.drop_length,List.nil_append,List.take_append_of_le_length (Nat.le_refl _),List.take_length] at h5
     have hlen:=sames_len h5
     obtain ⟨u,huf⟩:=eqZs_known hws
     have hfl:=fits_len hfx
     have hfl2:=fits_len hfy
     have hlen2:=sames_len h3
     simp only[List.length_take,List.length_drop] at hlen hlen2
     obtain ⟨pa,hpa,hca⟩:=part_run (xs:=xs) (off:=acc.length) hsz (by omega) (fun ha=>eqZs_one hws ha) huf hw0 w
     obtain ⟨pb,hpb,hcb⟩:=part_run (xs:=ys) (off:=acc.length) hsz (by omega) (fun ha=>eqZs_one hws ha) huf hw0 w
     have hr:=ih fd.type ws hws d (by omega) pa pb _ _ _ _ a qa w hca hcb (fits_take (fits_drop hfx)) (fits_take (fits_drop hfy)) h5 h3
     simp only[Op.eqFields,hnm,ne_eq,not_false_eq_true,if_true,Sem.run_bind,hoff,hpa,hpb,Result.andThen_ok,hr]
     cases a
     ·simp
     ·simp only[Bool.not_true,Bool.false_eq_true,if_false,Bool.true_and]
      refine ihl (acc++ws) h b ?_ ⟨qb,?_⟩
      ·rw[List.drop_drop,List.drop_drop] at h4;simpa using h4
      ·rw[List.drop_drop,List.drop_drop] at h6
       rw[hvs]
       simpa using h6
   refine key fs.toList [] h r (by simpa using hs) ⟨r',by simpa using hz⟩
  ·cases h
end
section ops
variable {k:K} {env:Env} {g:G} {m:M} {cx:Cx} {dst:Nat} {σ':St} {o:Oper} {r:Res}
theorem fits_of (hr:Rel k g m):∀{cs:List Cel} {vs:List Value} {ds:List D},CelsOk k g m cs vs→(cs.all fun c=>isScT c.tag)=true→evs m.σ (cs.map (·.src))=some ds→fits ds vs
 | [],vs,ds,h,_,he=>by
  simp[evs] at he
  subst he
  have:vs=[]:=List.eq_nil_of_length_eq_zero (by rw[h.1];rfl)
  subst this
  trivial
 |c::cs,vs,ds,h,hs,he=>by
  simp only[List.map_cons,evs] at he
  split at he
  ·rename_i d l h1 h2
   cases he
   cases vs with
   |nil=>have:=h.1;simp at this
   |cons v vs=>
    simp only[List.all_cons,zD] at hs
    obtain ⟨x,h3,h4⟩:=h.2 0 c rfl
    simp at h3
    subst h3
    obtain ⟨h5,h6⟩:=sc_ok h4 hs.1 h1
    refine ⟨⟨h5,h6 _ _⟩,fits_of hr ⟨by have:=h.1;simpa using this,fun i c' hc'=> ?_⟩ hs.2 h2⟩
    obtain ⟨x,h7,h8⟩:=h.2 (i+1) c' (by simpa using hc')
    exact ⟨x,by simpa using h7,h8⟩
  ·cases he
theorem eqs_did (hr:Rel k g m) (hf:Fits cx g dst) {op:BinOp} {ty yt:TypeId} {x y:Operand} (ho:o.op= .binOp op ty x y yt) {fs:Array Field} (hu:cx.P.underlying ty=some (.struct fs)) (hop:op= .eql∨op= .neq)
  {xs ys:Shape×List Cel} (hx:cels cx.P g ty x=some xs) (hy:cels cx.P g ty y=some ys) (hpx:Here m x) (hpy:Here m y) {zs:List D} (hz:eqZs cx.P 12 ty=some zs) (hsx:(xs.2.all fun c=>isScT c.tag)=true) (hsy:(ys.2.all fun c=>isScT c.tag)=true)
  (hax:xs.1= .agg) (hay:ys.1= .agg) (hgd:cx.P.eqGuardType cx.P.depth ty=false) (he:evIs env [.eqs (op== .neq) dst (xs.2.map (·.src)) (ys.2.map (·.src)) zs] m.σ=some σ'):
  Did cx k g m ⟨[.eqs (op== .neq) dst (xs.2.map (·.src)) (ys.2.map (·.src)) zs],g.tch dst (.val .one [.sc]),[]⟩ σ' o dst:=by
 have he:=evIs_one he
 simp only[I.ev,zA] at he
 obtain ⟨ds,e1,es,e2,e3⟩:=he
 split at e3
 ·rename_i hsm
  rw[zC] at e3
  obtain ⟨q,e3,rfl⟩:=e3
  obtain ⟨q',hq'⟩:=Option.isSome_iff_exists.1 hsm
  obtain ⟨vx,hvx,hcx⟩:=cels_ok hr hx hpx
  obtain ⟨vy,hvy,hcy⟩:=cels_ok hr hy hpy
  have f1:=fits_of hr hcx hsx e1
  have f2:=fits_of hr hcy hsy e2
  have hsh:shapeOf cx.P ty= .agg:=by unfold shapeOf isAggB;rw[hu];rfl
  rw[hax] at hvx
  rw[hay] at hvy
  have heq:=fun w=>equalIn_ok 12 ty zs hz Op.maxDepth (by decide) (vl m x) (vl m y) vx vy ds es q q' w (by rw[hsh];exact hvx) (by rw[hsh];exact hvy) f1 f2 hq' e3
  have agg:∀{v:Value} {zs:List Value},cellsV .agg v=some zs→v= .agg zs.toArray:=by
   intro v zs hv
   cases v<;>simp[cellsV] at hv
   subst hv
   simp
  have hvx':=agg hvx
  have hvy':=agg hvy
  refine sc_did hr hf (.bool (q !=(op== .neq))) rfl (fun _ _=> .bool) fun w=> ?_
  have hgr:(eqGuard op ty x y (vl m x) (vl m y)).run cx.P w= .ok () w:=by
   rw[hvx',hvy']
   rcases hop with rfl|rfl<;>simp[eqGuard,Sem.run_bind,hgd]
  have hbin:(binOp op ty (vl m x) (vl m y)).run cx.P w= .ok (.bool (q !=(op== .neq))) w:=by
   have h1:=heq w
   rw[hvx',hvy'] at h1 ⊢
   rcases hop with rfl|rfl
   ·simp[binOp,Op.equal,Sem.run_bind,h1];cases q<;>rfl
   ·simp[binOp,Op.equal,Sem.run_bind,h1]
  simp only[execOp,ho,Sem.run_bind,hgr,hbin,Result.andThen_ok]
  rfl
 ·cases e3
theorem field_did (hr:Rel k g m) (hf:Fits cx g dst) {t:TypeId} {x:Operand} {f:Nat} (ho:o.op= .field t x f) {p:Nat×Nat} (hp:fieldOf cx.P t f=some p) {y:Shape×List Cel} (hy:cels cx.P g t x=some y) (hpx:Here m x)
  (hlen:((y.2.drop p.1).take p.2).length=p.2) (hag:y.1= .agg) {ft:TypeId} (hft:∀fs fd,cx.P.underlying t=some (.struct fs)→fs[f]? =some fd→shapeOf cx.P fd.type=shapeOf cx.P ft∧∃u,cx.P.underlying fd.type=some u)
  (h1:∀fs fd,cx.P.underlying t=some (.struct fs)→fs[f]? =some fd→isAggB cx.P fd.type=false→p.2=1)
  (h:Own.lay cx g dst true ((y.2.drop p.1).take p.2) (fun ts=> .val (shapeOf cx.P ft) ts)=some r) (he:evIs env r.is m.σ=some σ'):Did cx k g m r σ' o dst:=by
 obtain ⟨vs,hvs,hcs⟩:=cels_ok hr hy hpx
 rw[hag] at hvs
 have hvx:vl m x= .agg vs.toArray:=by
  generalize vl m x=v at hvs
  cases v<;>simp[cellsV] at hvs
  subst hvs
  simp
 unfold fieldOf at hp
 split at hp
 ·rename_i fs hu
  simp only[zA,guardO_some] at hp
  obtain ⟨fd,hfd,hc0,hp⟩:=hp
  cases hp
  simp only[bne_iff_ne,ne_eq] at hc0
  obtain ⟨hsh,u,hu2⟩:=hft fs fd hu hfd
  have hle:fd.offset+cx.P.cellsOf fd.type≤vs.length:=by
   rw[hcs.1]
   simp at hlen
   omega
  have hagg1:=h1 fs fd hu hfd
  have hrun:=fun w=>part_run (P:=cx.P) (t:=fd.type) (xs:=vs) (off:=fd.offset) rfl hle hagg1 hu2 hc0 w
  obtain ⟨v,_,hcv⟩:=hrun default
  refine val_did hr hf h ((hcs.drop _).take _) (sh:=shapeOf cx.P ft) (x:=v) (by rw[← hsh];exact hcv) (fun w=> ?_) he
  obtain ⟨v',hv',hcv'⟩:=hrun w
  have:v'=v:=by
   unfold shapeOf at hcv hcv'
   split at hcv
   ·rename_i ha
    rw[if_pos ha] at hcv'
    cases v'<;>simp[cellsV] at hcv'
    cases v<;>simp[cellsV] at hcv
    rename_i a b
    congr 1
    apply Array.ext'
    rw[hcv,hcv']
   ·rename_i ha
    rw[if_neg ha] at hcv'
    simp[cellsV] at hcv hcv'
    rw[← hcv] at hcv'
    simpa using hcv'
  rw[this] at hv'
  simp[execOp,ho,Instr.field,Sem.run_bind,run_underlying hu,hfd,hvx,asAgg,hv']
 ·cases hp
theorem bytesOfRows_get:∀{rows:List (List D)} {s:List UInt8},bytesOfRows rows=some s→∃ns:List Int,rows=ns.map (fun n=>[.int .u8 n])∧s=ns.map fun n=>UInt8.ofNat n.toNat
 | [],s,h=>by simp[bytesOfRows] at h;subst h;exact ⟨[],rfl,rfl⟩
 |row::rows,s,h=>by
  unfold bytesOfRows at h
  split at h
  ·simp_all
  ·rename_i n rs heq
   injection heq with e1 e2
   subst e1 e2
   rw[zC] at h
   obtain ⟨s',h1,rfl⟩:=h
   obtain ⟨ns,h2,h3⟩:=bytesOfRows_get h1
   exact ⟨n::ns,by simp[h2],by simp[h3]⟩
  ·cases h
theorem foldl_push (ns:List Int):∀(s:ByteArray),ns.foldl (fun r n=>r.push (UInt8.ofNat n.toNat)) s=⟨(s.data.toList++ns.map fun n=>UInt8.ofNat n.toNat).toArray⟩:=by
 induction ns with
 |nil=>intro s;simp
 |cons n ns ih=>
  intro s
  rw[List.foldl_cons,ih]
  simp[ByteArray.push]
theorem b2s_did (hr:Rel k g m) (hf:Fits cx g dst) {s d e:TypeId} {x:Operand} (ho:o.op= .convert s d x) (hs:cx.P.underlying s=some (.slice e)) (hd:cx.P.underlying d=some .string) (hu:cx.P.underlying e=some (.int .u8))
  {a:Src} {rs:Rts} (h1:slSrc cx.P g s x=some (a,rs)) (hp:Here m x) (he:evIs env [.b2s dst a] m.σ=some σ'):Did cx k g m ⟨[.b2s dst a],g.tch dst (.val .one [.sc]),[]⟩ σ' o dst:=by
 have he:=evIs_one he
 simp only[I.ev,zA] at he
 obtain ⟨da,e1,e2⟩:=he
 split at e2
 ·rename_i rows
  rw[zC] at e2
  obtain ⟨str,e2,rfl⟩:=e2
  have hv:=(slSrc_ok hr h1 hp).2 _ e1
  obtain ⟨ns,hn1,hn2⟩:=bytesOfRows_get e2
  refine sc_didH hr hf (.inr (by simp[ho,quietB,hs])) (.string ⟨⟨str⟩⟩) rfl (fun _ _=> .str) fun w hw=> ?_
  obtain ⟨ao,cap,hx,_,hnone⟩:=hv.slice
  have hconv:=run_convert_bytes_string (P:=cx.P) w s d e ao rows.length cap hs hu hd
  have hres:(Conv.bytesToString (.slice ao rows.length cap)).run cx.P w= .ok (.string ⟨⟨str⟩⟩) w:=by
   cases ao with
   |none=>
    obtain ⟨h3,_⟩:=hnone rfl
    have:ns=[]:=by cases ns with|nil=>rfl|cons a b=>rw[h3] at hn1;simp at hn1
    subst this
    simp at hn2
    subst hn2
    simp[Conv.bytesToString]
    rfl
   |some b=>
    rw[hx] at hv
    rcases O.cells hv with ⟨h3,_,_⟩|⟨b',off',hbb,cs,ty,fr,g1,_,_,g3,g4,g5,g6⟩
    ·have:ns=[]:=by cases ns with|nil=>rfl|cons a b=>rw[h3] at hn1;simp at hn1
     subst this
     simp at hn2
     subst hn2
     have hl:=run_loadCells_list (P:=cx.P) w b [] (fun j v h=>by simp at h)
     rw[h3]
     simp at hl
     simp[Conv.bytesToString,hl]
     rfl
    cases hbb
    have hcell:∀j v,(ns.map (Value.int .u8))[j]? =some v→w.cell? ((⟨b',off',none⟩:Addr).add j)=some v:=fun j v hj=>by
     rw[zK] at hj
     cases hq:ns[j]? with
     |none=>rw[hq] at hj;simp at hj
     |some n=>
      rw[hq] at hj
      simp at hj
      subst hj
      have hd0:cellAt rows j 0=some (.int .u8 n):=by rw[hn1];simp[cellAt,hq]
      have:=g6 j 0 _ hd0
      have hval:=flat_int this
      have hjl:j<rows.length:=by rw[hn1];simpa using (zE.1 hq).1
      have hlt:off'+j<cs.size:=by omega
      simp only[Nat.mul_one,Nat.add_zero] at hval
      rw[Addr.add_mid]
      simp only[World.cell?,hw,g1]
      simp only[Array.getD,hlt,dite_true] at hval
      simp[hlt]
      exact hval
    have hl:=run_loadCells_list (P:=cx.P) w ⟨b',off',none⟩ (ns.map (Value.int .u8)) hcell
    have hnl:rows.length=ns.length:=by rw[hn1];simp
    rw[hnl]
    simp only[List.length_map] at hl
    rw[run_bytesToString w _ ns.length cap ns hl,foldl_push,hn2]
    rfl
  have hx':vl m x= .slice ao rows.length cap:=hx
  simp only[execOp,ho,hx',Sem.run_bind,hconv,hres,Result.andThen_ok]
  rfl
 ·cases e2
end ops
theorem Mem.setMap {k:K} {m:M} (h:Mem k m) {b s:Nat} {ob:Obj} (hown:m.col b= .mp s):
  Mem k {m with h:=m.h.setIfInBounds b ob}:=by
 have key:∀b':Nat,b'≠b→(m.h.setIfInBounds b ob)[b']? =m.h[b']? :=fun b' e=>Array.getElem?_setIfInBounds_ne (Ne.symm e)
 refine ⟨by simpa using h.size,fun b'=>by simpa using h.free b',h.fresh,fun b' s o π hb=>⟨(h.arr b' s o π hb).1,?_⟩,fun b' v π hb=>⟨(h.lm b' v π hb).1,?_⟩,fun b' s hb=> ?_,fun b' hb=> ?_⟩
 ·show∃cs ty,(m.h.setIfInBounds b ob)[b']? =_
  rw[key b' (fun e=>by subst e;rw[show m.col b'=_ from hown] at hb;cases hb)];exact (h.arr b' s o π hb).2
 ·show∃cs ty,(m.h.setIfInBounds b ob)[b']? =_
  rw[key b' (fun e=>by subst e;rw[show m.col b'=_ from hown] at hb;cases hb)];exact (h.lm b' v π hb).2
 ·show∃cs ty,(m.h.setIfInBounds b ob)[b']? =_
  rw[key b' (fun e=>by subst e;rw[show m.col b'=_ from hown] at hb;cases hb)];exact h.bx b' s hb
 ·obtain ⟨h1,h2⟩:=h.kept b' hb
  refine ⟨?_,h2⟩
  show (m.h.setIfInBounds b ob)[b']? =_
  rw[key b' (fun e=>by subst e;rw[h2] at hown;cases hown),h1]
theorem run_checkKey_int {P:Program} {t:TypeId} {kk kv:IntKind} {i:Int} (hu:P.underlying t=some (.int kk)) (b:Bool) (w:World):(Instr.checkKey b 10000 t (.int kv i)).run P w= .ok () w:=by
 have:∀n,(Instr.checkKey b (n+1) t (.int kv i)).run P w= .ok () w:=fun n=>by simp[Instr.checkKey,run_underlying hu]
 exact this 9999
theorem findNow_ok {d:TypeDesc} {kk:IntKind} (hd:d= .int kk) {i:Int}:∀{es:List MapEntry} {l:List (Int×Bool)} (n:Nat),es.map (fun e=>(e.key,e.val))=l.map (fun x=>(Value.int .i64 x.1,Value.bool x.2))→
  ∃r,Instr.findNow d (.int .i64 i) es n=some r∧((∃j,r=some (n+j, .bool (mapGet l i))∧j<l.length∧(l.map (·.1))[j]? =some i∧((l.map (·.1)).take j).all (fun k=> !(k==i))=true)∨(r=none∧mapGet l i=false∧(l.map (·.1)).all (fun k=> !(k==i))=true)):=by
 intro es
 induction es with
 |nil=>
  intro l n h
  have:l=[]:=by cases l with|nil=>rfl|cons=>simp at h
  subst this
  exact ⟨none,rfl, .inr ⟨rfl,rfl,rfl⟩⟩
 |cons e es ih=>
  intro l n h
  cases l with
  |nil=>simp at h
  |cons x l=>
   simp only[List.map_cons,List.cons.injEq,Prod.mk.injEq] at h
   obtain ⟨⟨h1,h2⟩,h3⟩:=h
   obtain ⟨r,g1,g2⟩:=ih (n+1) h3
   subst hd
   obtain ⟨xk,xv⟩:=x
   by_cases hk:i=xk
   ·subst hk
    refine ⟨some (n, .bool xv),by simp[Instr.findNow,Instr.sameNow,h1,h2], .inl ⟨0,by simp[mapGet],by simp,by simp,by simp⟩⟩
   ·have hk':(i==xk)=false:=by simpa using hk
    have hk2:(xk==i)=false:=by simpa using fun e=>hk e.symm
    refine ⟨r,by simp[Instr.findNow,Instr.sameNow,h1,hk',g1],?_⟩
    rcases g2 with ⟨j,a1,a2,a3,a4⟩|⟨a1,a2,a3⟩
    ·refine .inl ⟨j+1,?_,by simpa using a2,by simpa using a3,by simp[hk2];simpa using a4⟩
     rw[a1]
     simp[mapGet,hk]
     omega
    ·exact .inr ⟨a1,by simp[mapGet,hk,a2],by simp[hk2];simpa using a3⟩
theorem mapPut_at {i:Int} {b:Bool}:∀{l:List (Int×Bool)} {j:Nat},(l.map (·.1))[j]? =some i→((l.map (·.1)).take j).all (fun k=> !(k==i))=true→mapPut l i b=l.set j (i,b)
 | [],j,h,_=>by simp at h
 |(k,v)::l,0,h,_=>by simp at h;subst h;simp[mapPut]
 |(k,v)::l,j+1,h,h2=>by
  simp only[List.map_cons,List.take_succ_cons,List.all_cons,zD,Bool.not_eq_true'] at h2
  have hk:¬ i=k:=fun e=>by subst e;simp at h2
  simp only[mapPut,if_neg hk,List.set_cons_succ]
  rw[mapPut_at (by simpa using h) h2.2]
theorem mapPut_new {i:Int} {b:Bool}:∀{l:List (Int×Bool)},(l.map (·.1)).all (fun k=> !(k==i))=true→mapPut l i b=l++[(i,b)]
 | [],_=>rfl
 |(k,v)::l,h=>by
  simp only[List.map_cons,List.all_cons,zD,Bool.not_eq_true'] at h
  have hk:¬ i=k:=fun e=>by subst e;simp at h
  simp only[mapPut,if_neg hk,List.cons_append]
  rw[mapPut_new h.2]
theorem isIntBoolMap_ok {P:Program} {t:TypeId} (h:isIntBoolMap P t=true):∃k e i,P.underlying t=some (.map k e)∧P.underlying k=some (.int .i64)∧P.underlying e=some .bool∧P.info? e=some i∧i.zero=some (.bool false):=by
 unfold isIntBoolMap at h
 split at h
 ·rename_i k e hu
  split at h
  ·rename_i i h1 h2 h3
   split at h
   ·rename_i h4;exact ⟨k,e,i,hu,h1,h2,h3,h4⟩
   ·cases h
  ·cases h
 ·cases h
section ops
variable {k:K} {env:Env} {g:G} {m:M} {cx:Cx} {dst:Nat} {σ':St} {o:Oper} {r:Res}
theorem mapAt_ok (hr:Rel k g m) {t s:Nat} (h:mapAt g t=some s) (hp:m.σ t≠[]):g.ent s= .map∧m.c t=m.c s:=by
 unfold mapAt at h
 have hE:=hr.ent t
 split at h
 ·rename_i e;cases h;exact ⟨e,rfl⟩
 ·rename_i s' v e
  rw[e] at hE
  split at h
  ·rename_i hv
   split at h
   ·rename_i e2
    cases h
    rcases hE with hE|hE
    ·exact absurd hE hp
    ·exact ⟨e2,hE hv⟩
   ·cases h
  ·cases h
 ·cases h
theorem map_alias_did (hr:Rel k g m) (hf:Fits cx g dst) {s v:Nat} {x:Value} (hs:s≠dst) (hv:v≤g.idv s) (hx:g.idv s=v→x=m.c s) (hrun:∀w:World,(execOp (vl m) o).run cx.P w= .ok (.value x) w)
  (he:evIs env (here dst) m.σ=some σ'):Did cx k g m ⟨here dst,g.tch dst (.mal s v),[]⟩ σ' o dst:=by
 rw[here_ev he]
 refine .pure x _ hrun (here_step hr hf ⟨zS hv ((Turn.older .tch g dst _).idv s), .inr fun hc=> ?_⟩)
 have h1:(g.tch dst (.mal s v)).idv s=g.idv s:=by
  unfold G.idv
  have:(g.tch dst (.mal s v)).at s=g.at s:=Turn.at_ne .tch hs
  rw[this]
 simp only[updC,if_true,hs,if_false]
 exact hx (h1.symm.trans hc)
def newMap (n dst:Nat):Nat→Color:=fun b=>if b=n then .mp dst else .free
theorem mnew_did (hr:Rel k g m) (hf:Fits cx g dst) {t:TypeId} (ho:o.op= .makeMap t none) (he:evIs env [.mnew dst] m.σ=some σ'):Did cx k g m ⟨[.mnew dst],g.tch dst .map,[]⟩ σ' o dst:=by
 have he:=evIs_one he
 simp only[I.ev] at he
 cases he
 have hd:dst<g.length:=by rw[hf.len];have:=hf.dst;omega
 have hdp:dst<PAR:=Nat.lt_of_lt_of_le hd hr.small
 have hn:NewOk k m dst (m.h.push (.map #[] 0)) (newMap m.h.size dst):=
  ⟨by simp,fun b hb=>by rw[Array.getElem?_push,if_neg (by omega)],fun b hb=>by simp at hb;unfold newMap;rw[if_neg (by omega)],fun b h1 h2=>by
   simp at h2
   have:b=m.h.size:=by omega
   subst this
   exact .inr (.inl (by unfold newMap;simp))⟩
 refine ⟨?_,fun h1 _=>by simp[ho,quietB] at h1⟩
 intro w hw
 refine ⟨.value (.map (some m.h.size)), .map (some m.h.size),m.h.push (.map #[] 0),w.drawn,laidCol m.col dst PAR 0 (newMap m.h.size dst), .inl rfl,?_,?_⟩
 ·simp[execOp,ho,Instr.makeMap,Sem.run_bind,newObj,Sem.run,hw]
 ·have:=Step.lay (m':=⟨m.σ.upd dst [.mp []],updC m.c dst (.map (some m.h.size)),m.h.push (.map #[] 0),laidCol m.col dst PAR 0 (newMap m.h.size dst)⟩) (e:= .map) hr hd (fun y hy=>by simp[St.upd,hy]) (fun y hy=>by simp[updC,hy])
   (hr.mem.laid hdp hn _ _) (fun b hb hown=>⟨hn.old b hb,laidCol_same (n:=0) (new:=newMap m.h.size dst) (fun e=>by have:=(hr.mem.free b).2 e;omega) (fun e=>(hown dst e).1 rfl) fun u π e=>(hown u (by rw[e];rfl)).2⟩)
   ⟨trivial, .inr ⟨m.h.size,[], #[],0,by simp[St.upd],by simp[updC],by
    show laidCol m.col dst PAR 0 (newMap m.h.size dst) m.h.size=_
    rw[laidCol_free ((hr.mem.free _).1 (Nat.le_refl _))]
    unfold newMap
    simp,by simp,rfl⟩⟩
  refine this.mono hr fun y hy=> ?_
  unfold TT
  rcases hy with hy|hy
  ·exact .inr (.inl hy)
  ·exact .inr (.inr (.inr hy))
theorem mget_did (hr:Rel k g m) (hf:Fits cx g dst) {t:TypeId} {a s:Nat} {x:Operand} (ho:o.op= .lookup t (.tmp a) x false) (ht:isIntBoolMap cx.P t=true) {kx:Src} (h1:scSrc cx.P g cx.P.rt.int x=some kx) (hm:mapAt g a=some s) (hp:m.σ a≠[])
  (he:evIs env [.mget dst s kx] m.σ=some σ'):Did cx k g m ⟨[.mget dst s kx],g.tch dst (.val .one [.sc]),[]⟩ σ' o dst:=by
 have he:=evIs_one he
 simp only[I.ev,zA] at he
 obtain ⟨d,e1,e2⟩:=he
 split at e2
 ·rename_i l i hl
  cases e2
  obtain ⟨h2,h3⟩:=mapAt_ok hr hm hp
  have hE:=hr.ent s
  rw[h2] at hE
  rcases hE with hE|⟨rr,l',es,clk,a1,a2,a3,a4,a5⟩
  ·rw[hE] at hl;cases hl
  rw[hl] at a1
  cases a1
  have hv:=flat_int ((scSrc_ok hr h1 e1).2 #[] fun _ _=>True)
  obtain ⟨kt,et,inf,b1,b2,b3,b4,b5⟩:=isIntBoolMap_ok ht
  refine sc_didH hr hf (.inr (by simp[ho,quietB])) (.bool (mapGet l i)) rfl (fun _ _=> .bool) fun w hw=> ?_
  have hval:vl m (.tmp a)= .map (some rr):=by show m.c a=_;rw[h3,a2]
  obtain ⟨q,c1,c2⟩:=findNow_ok (d:= .int .i64) rfl (i:=i) 0 a5
  have hget:w.heap[rr]? =some (.map es clk):=by rw[hw];exact a4
  have hck:=run_checkKey_int (P:=cx.P) (i:=i) (kv:= .i64) b2 es.isEmpty w
  simp only[execOp,ho,Instr.lookup,Sem.run_bind,run_underlying b1,Result.andThen_ok,hval,hv]
  rcases c2 with ⟨j,g1,_⟩|⟨g1,g2,_⟩
  ·rw[g1] at c1
   simp[getObj,Sem.run,hget,hck,Instr.findKey,Sem.run_bind,run_underlying b2,c1]
  ·rw[g1] at c1
   simp[getObj,Sem.run,hget,hck,Instr.findKey,Sem.run_bind,run_underlying b2,c1,zeroValue,typeInfo,b4,b5,g2]
 ·cases e2
theorem sameBits_int (n:Nat) (kk:IntKind) (i:Int):Instr.sameBits n (.int kk i) (.int kk i)=true:=by
 cases n<;>simp[Instr.sameBits]
theorem MapOk.get {l:List (Int×Bool)} {es:Array MapEntry} (h:MapOk l es) (j:Nat):(es.toList[j]?).map (fun e=>(e.key,e.val))=(l[j]?).map (fun x=>(Value.int .i64 x.1,Value.bool x.2)):=by
 have:=congrArg (·[j]?) h
 simpa using this
theorem MapOk.set {l:List (Int×Bool)} {es:Array MapEntry} (h:MapOk l es) {j:Nat} {i:Int} {b:Bool} (hj:j<l.length):MapOk (l.set j (i,b)) (es.modify j fun e=>{e with key:= .int .i64 i,val:= .bool b}):=by
 unfold MapOk
 apply List.ext_getElem?
 intro q
 have hq:=h.get q
 simp only[zK,Array.toList_modify,List.getElem?_modify,List.getElem?_set]
 by_cases e:j=q
 ·subst e
  simp only[if_true,hj]
  rw[zB hj] at hq
  cases hes:es.toList[j]? with
  |none=>rw[hes] at hq;simp at hq
  |some x=>simp
 ·simp only[if_neg e,id]
  rw[← hq]
  cases es.toList[q]? <;>simp
theorem mput_did (hr:Rel k g m) {t:TypeId} {a s:Nat} {x y:Operand} (ho:o.op= .mapUpdate t (.tmp a) x y) (ht:isIntBoolMap cx.P t=true) {kx vx:Src} (h1:scSrc cx.P g cx.P.rt.int x=some kx) (h2:scSrc cx.P g cx.P.rt.bool y=some vx) (hm:mapAt g a=some s)
  (he:evIs env [.mput a s kx vx] m.σ=some σ'):DidS cx k g m ⟨[.mput a s kx vx],g.trn s .map,[s]⟩ σ' o:=by
 have he:=evIs_one he
 simp only[I.ev] at he
 split at he
 ·cases he
 rename_i hvia
 simp only[zA] at he
 obtain ⟨dk,e1,dv,e2,e3⟩:=he
 split at e3
 ·rename_i l i b hl
  cases e3
  obtain ⟨he',h3⟩:=mapAt_ok hr hm (fun e=>by rw[e] at hvia;exact hvia rfl)
  have hE:=hr.ent s
  rw[he'] at hE
  rcases hE with hE|⟨rr,l',es,clk,a1,a2,a3,a4,a5⟩
  ·rw[hE] at hl;cases hl
  rw[hl] at a1
  cases a1
  have hv:=flat_int ((scSrc_ok hr h1 e1).2 #[] fun _ _=>True)
  have hv2:=flat_bool ((scSrc_ok hr h2 e2).2 #[] fun _ _=>True)
  obtain ⟨kt,et,inf,b1,b2,b3,b4,b5⟩:=isIntBoolMap_ok ht
  have hs:s<g.length:=lt_of_ent fun e=>by rw[e] at he';cases he'
  have hsp:s<PAR:=Nat.lt_of_lt_of_le hs hr.small
  have hrl:rr<m.h.size:=lt_size hr.mem (by rw[a3];simp)
  have key:∃es' clk',MapOk (mapPut l i b) es'∧∀w:World,w.heap=m.h→(execOp (vl m) o).run cx.P w= .ok .skip {w with heap:=m.h.setIfInBounds rr (.map es' clk'),drawn:=w.drawn}:=by
   obtain ⟨q,c1,c2⟩:=findNow_ok (d:= .int .i64) rfl (i:=i) 0 a5
   have hval:vl m (.tmp a)= .map (some rr):=by show m.c a=_;rw[h3,a2]
   have hck:=fun w=>run_checkKey_int (P:=cx.P) (i:=i) (kv:= .i64) b2 false w
   rcases c2 with ⟨j,g1,g2,g3,g4⟩|⟨g1,g2,g3⟩
   ·refine ⟨es.modify j fun e=>{e with key:= .int .i64 i,val:= .bool b},clk,by rw[mapPut_at g3 g4];exact a5.set g2,fun w hw=> ?_⟩
    have hget:w.heap[rr]? =some (.map es clk):=by rw[hw];exact a4
    rw[g1,Nat.zero_add] at c1
    have hold:((es[j]?).map (·.key)).getD (.int .i64 i)= .int .i64 i:=by
     have:=a5.get j
     rw[zK] at g3
     cases hlj:l[j]? with
     |none=>rw[hlj] at g3;simp at g3
     |some p=>
      rw[hlj] at g3 this
      simp at g3
      cases hes:es.toList[j]? with
      |none=>rw[hes] at this;simp at this
      |some ee=>
       rw[hes] at this
       simp at this
       have:es[j]? =some ee:=by simpa using hes
       rw[this]
       simp_all
    simp only[execOp,ho,Instr.mapUpdate,Sem.run_bind,run_underlying b1,Result.andThen_ok,hval,hv,hv2]
    simp[getObj,setObj,Sem.run,hget,hck,Instr.findKey,Sem.run_bind,run_underlying b2,c1,hold,Instr.keyThatStays,sameBits_int,hw,a4]
   ·refine ⟨es.push {key:= .int .i64 i,val:= .bool b,born:=clk},clk+1,by rw[mapPut_new g3];unfold MapOk at a5 ⊢;simp[a5],fun w hw=> ?_⟩
    have hget:w.heap[rr]? =some (.map es clk):=by rw[hw];exact a4
    rw[g1] at c1
    simp only[execOp,ho,Instr.mapUpdate,Sem.run_bind,run_underlying b1,Result.andThen_ok,hval,hv,hv2]
    simp[getObj,setObj,Sem.run,hget,hck,Instr.findKey,Sem.run_bind,run_underlying b2,c1,hw,a4]
  obtain ⟨es',clk',hok,hrun⟩:=key
  intro w hw
  have hne:∀b':Nat,b'≠rr→(m.h.setIfInBounds rr (.map es' clk'))[b']? =m.h[b']? :=fun b' e=>Array.getElem?_setIfInBounds_ne (Ne.symm e)
  have hself:(m.h.setIfInBounds rr (.map es' clk'))[rr]? =some (.map es' clk'):=Array.getElem?_setIfInBounds_self_of_lt hrl
  have hmem:Mem k ⟨m.σ.upd s [.mp (mapPut l i b)],m.c,m.h.setIfInBounds rr (.map es' clk'),m.col⟩:=(hr.mem.setMap (ob:= .map es' clk') a3).turn rfl fun b'=> .inl rfl
  have S:=Step.turn1 (m':=⟨m.σ.upd s [.mp (mapPut l i b)],m.c,m.h.setIfInBounds rr (.map es' clk'),m.col⟩) hr hs .trn (e:= .map) (fun x hx=>by simp[St.upd,hx]) (fun _ _=>rfl) hmem
   (fun b' _ hown=>⟨hne b' (fun e=>by subst e;exact (hown s (by rw[a3];rfl)).1 rfl),rfl⟩)
   ⟨fun _=>rfl,fun h=>absurd h (Turn.hv_self (.inr rfl) hs),fun h=>absurd h (Turn.dv_self .trn (by simp) (by simp) hs),fun h=>absurd h (Turn.ver_self .trn (by simp) hs)⟩
   ⟨trivial, .inr ⟨rr,mapPut l i b,es',clk',by simp[St.upd],a2,a3,hself,hok⟩⟩
  refine ⟨_,w.drawn,_,hrun w hw,S.mono hr fun y hy=> ?_⟩
  unfold TT
  rcases hy with hy|hy
  ·exact .inl (by simp[hy])
  ·exact .inr (.inr (.inr hy))
 ·cases e3
end ops
def Done (cx:Cx) (k:K) (g:G) (m:M) (r:Res) (σ':St) (o:Oper):Prop:=
 (∀w:World,w.heap=m.h→∃(n:Next) (v:Value) (h':Array Obj) (dr:Nat) (c':Nat→Value) (col':Nat→Color),(n= .value v∨(n= .skip∧v=undef))∧
  (execOp (vl m) o).run cx.P w= .ok n {w with heap:=h',drawn:=dr}∧(∀t,t<cx.base→c' t=if o.dst=some t then v else m.c t)∧
  Step k g m r.g ⟨σ',c',h',col'⟩ (TT cx (o.dst.getD (cx.base+60)) r.t))∧
  (quietB cx.P o.op=true→isLoad o.op=false→Quiet cx m o)
section
variable {k:K} {env:Env} {g:G} {m:M} {cx:Cx} {σ':St} {o:Oper} {r:Res}
theorem Done.of_did (h:Did cx k g m r σ' o (o.dst.getD (cx.base+60))):Done cx k g m r σ' o:=by
 refine ⟨fun w hw=> ?_,h.2⟩
 obtain ⟨n,v,h',dr,col',h1,h2,h3⟩:=h.1 w hw
 refine ⟨n,v,h',dr,_,col',h1,h2,fun t ht=> ?_,h3⟩
 unfold updC
 cases hd:o.dst with
 |none=>simp;omega
 |some d=>simp;by_cases e:t=d<;>simp[e,eq_comm]
theorem Done.of_didS (hq:quietB cx.P o.op=false) (hd:o.dst=none) (h:DidS cx k g m r σ' o):Done cx k g m r σ' o:=by
 refine ⟨fun w hw=> ?_,fun h1=>by rw[hq] at h1;cases h1⟩
 obtain ⟨h',dr,col',h1,h2⟩:=h w hw
 exact ⟨.skip,undef,h',dr,m.c,col', .inr ⟨rfl,rfl⟩,h1,fun t _=>by simp[hd],by rw[hd];exact h2⟩
theorem sliceElem_ok {P:Program} {t e:TypeId} (h:sliceElem P t=some e):P.underlying t=some (.slice e):=by
 unfold sliceElem at h
 split at h
 ·rename_i q;cases h;exact q
 ·cases h
theorem info_ne {P:Program} {e:TypeId} (h:P.cellsOf e≠0):∃i,P.info? e=some i:=by
 unfold Program.cellsOf at h
 cases hq:P.info? e with
 |none=>simp[hq] at h
 |some i=>exact ⟨i,rfl⟩
theorem all_ne {rs:Rts} {d:Nat} (h:(rs.all fun r=>r.1 !=d)=true):∀r∈rs,r.1≠d:=fun r hr=>by
 rw[zL] at h
 simpa using h r hr
theorem all_ne' {w:List (Nat×Nat×Nat)} {d:Nat} (h:(w.all fun y=>y.1 !=d)=true):∀r∈w,r.1≠d:=all_ne h
theorem run_move {dst:Nat} {x:Operand} (ho:o.op= .move x∨o.op= .assign x) (w:World):(execOp (vl m) o).run cx.P w= .ok (.value (vl m x)) w:=by
 rcases ho with ho|ho<;>simp[execOp,ho]
theorem box_ptr (hr:Rel k g m) {t ty:Nat} {ts:List Tag} (he:g.ent t= .box ty ts) (hp:m.σ t≠[]):∃blk,m.c t= .pointer (some ⟨blk,0,none⟩):=by
 have:=hr.ent t
 rw[he] at this
 rcases this with h|⟨b,cs,h1,_⟩
 ·exact absurd h hp
 ·exact ⟨b,h1⟩
theorem moveOp_did {dst:Nat} (hr:Rel k g m) (hf:Fits cx g dst) {ty:TypeId} {x:Operand} (ho:o.op= .move x) (hp:Here m x) (h:moveOp cx g dst ty x=some r) (he:evIs env r.is m.σ=some σ'):Did cx k g m r σ' o dst:=by
 unfold moveOp at h
 split at h
 ·rename_i t
  rw[guardO_some] at h
  obtain ⟨htd,h⟩:=h
  simp only[bne_iff_ne,ne_eq] at htd
  have hpt:m.σ t≠[]:=hp t rfl
  split at h
  ·rename_i sh ts e
   exact copy_val_did hr hf (.inl ho) e hpt h he
  ·rename_i e
   cases h
   exact move_box_did hr hf ho htd e hpt he
  ·rename_i b v off e
   rw[guardO_some] at h
   obtain ⟨hb,h⟩:=h
   cases h
   exact ptr_copy_did hr hf e hpt (by simpa using hb) (fun w=>run_move (dst:=dst) (.inl ho) w) he
  ·rename_i rs off e
   rw[guardO_some,zD] at h
   obtain ⟨⟨h1,h2⟩,h⟩:=h
   cases h
   exact rptr_did (p:=0) hr hf e hpt (all_ne h1) (fun w b o0 hc=>by rw[run_move (dst:=dst) (.inl ho) w];show Result.ok (Next.value (m.c t)) w=_;rw[hc];rfl) h2 he
  ·rename_i e
   cases h
   exact map_alias_did (s:=t) hr hf htd (Nat.le_refl _) (fun _=>rfl) (fun w=>run_move (dst:=dst) (.inl ho) w) he
  ·rename_i s v e
   rw[guardO_some] at h
   obtain ⟨hs,h⟩:=h
   cases h
   have hw:=hr.wf t
   have hE:=hr.ent t
   rw[e] at hw hE
   refine map_alias_did (x:=m.c t) hr hf (by simpa using hs) hw (fun hv=> ?_) (fun w=>run_move (dst:=dst) (.inl ho) w) he
   rcases hE with hE|hE
   ·exact absurd hE hpt
   ·exact hE hv
  ·cases h
 ·rw[zA] at h
  obtain ⟨y,h1,h2⟩:=h
  exact copy_any_did hr hf (.inl ho) h1 hp h2 he
theorem assignOp_did {dst:Nat} (hr:Rel k g m) (hf:Fits cx g dst) {ty:TypeId} {x:Operand} (ho:o.op= .assign x) (hp:Here m x) (h:assignOp cx g dst ty x=some r) (he:evIs env r.is m.σ=some σ'):Did cx k g m r σ' o dst:=by
 unfold assignOp at h
 split at h
 ·rename_i t
  rw[guardO_some] at h
  obtain ⟨htd,h⟩:=h
  simp only[bne_iff_ne,ne_eq] at htd
  have hpt:m.σ t≠[]:=hp t rfl
  split at h
  ·rename_i sh ts e
   exact copy_val_did hr hf (.inr ho) e hpt h he
  ·rename_i e
   cases h
   obtain ⟨blk,hc⟩:=box_ptr hr e hpt
   exact ptr_did hr hf htd hc (fun w=>by rw[run_move (dst:=dst) (.inr ho) w];show Result.ok (Next.value (m.c t)) w=_;rw[hc]) he
  ·rename_i b v off e
   rw[guardO_some] at h
   obtain ⟨hb,h⟩:=h
   cases h
   exact ptr_copy_did hr hf e hpt (by simpa using hb) (fun w=>run_move (dst:=dst) (.inr ho) w) he
  ·rename_i e
   cases h
   exact map_alias_did (s:=t) hr hf htd (Nat.le_refl _) (fun _=>rfl) (fun w=>run_move (dst:=dst) (.inr ho) w) he
  ·rename_i s v e
   rw[guardO_some] at h
   obtain ⟨hs,h⟩:=h
   cases h
   have hw:=hr.wf t
   have hE:=hr.ent t
   rw[e] at hw hE
   refine map_alias_did (x:=m.c t) hr hf (by simpa using hs) hw (fun hv=> ?_) (fun w=>run_move (dst:=dst) (.inr ho) w) he
   rcases hE with hE|hE
   ·exact absurd hE hpt
   ·exact hE hv
  ·cases h
 ·rw[zA] at h
  obtain ⟨y,h1,h2⟩:=h
  exact copy_any_did hr hf (.inr ho) h1 hp h2 he
theorem ownAt_n {g:G} {s q n:Nat} {rs:Rts} (h:ownAt g s q=some (n,rs)):curR g rs=true:=by
 obtain ⟨_,_,_,_,h⟩:=ownAt_ok h
 exact h
theorem owns_min {a b l:Nat} (h:owns a l=true) (h2:owns b l=true):owns (min a b) l=true:=by
 unfold owns at*
 simp only[Bool.or_eq_true,decide_eq_true_eq] at*
 omega
theorem loadOp_did {dst:Nat} (hr:Rel k g m) (hf:Fits cx g dst) {share:Bool} {ty:TypeId} {t:Nat} (ho:o.op= .load ty (.tmp t)) (hp:m.σ t≠[]) (h:loadOp cx share g dst ty t=some r) (he:evIs env r.is m.σ=some σ'):Did cx k g m r σ' o dst:=by
 unfold loadOp at h
 rw[zA] at h
 obtain ⟨ks,hk,h⟩:=h
 rw[guardO_some] at h
 obtain ⟨hc,h⟩:=h
 simp only[zD,beq_iff_eq,bne_iff_ne,ne_eq] at hc
 obtain ⟨⟨hn,hn0⟩,htd⟩:=hc
 split at h
 ·rename_i rs off e
  rw[guardO_some,zD] at h
  obtain ⟨⟨h1,h2⟩,h⟩:=h
  cases h
  exact load_rptr_did hr hf hk hn hn0 ho e hp h1 (all_ne h2) he
 ·rename_i s q v w i iv off sz e
  rw[guardO_some] at h
  obtain ⟨hc,h⟩:=h
  simp only[zD,beq_iff_eq,bne_iff_ne,ne_eq,decide_eq_true_eq] at hc
  obtain ⟨⟨⟨⟨hl,hv⟩,hs⟩,hi⟩,hoff⟩:=hc
  rw[zA] at h
  obtain ⟨⟨n,rs⟩,how,h⟩:=h
  rw[guardO_some,zD] at h
  obtain ⟨⟨hown,hrd⟩,h⟩:=h
  cases share with
  |true=>
   simp only[if_true] at h
   cases h
   exact load_share_did hr hf hk hn ho e hp hl hv hoff how hown (all_ne hrd) (Nat.min_le_left _ _) (owns_min hown (by unfold owns;simp)) rfl he
  |false=>
   simp only[Bool.false_eq_true,if_false] at h
   cases h
   obtain ⟨val,h1,h2⟩:=load_eptr hr hf hk hn ho e hp hl hv hoff how hown (all_ne hrd) he
   exact .pureH (.inl (by simp[ho,isLoad])) val _ h1 h2
 ·rw[zA] at h
  obtain ⟨b,hb,h⟩:=h
  rw[guardO_some] at h
  obtain ⟨hc,h⟩:=h
  simp only[zD,beq_iff_eq,bne_iff_ne,ne_eq] at hc
  rw[zC] at h
  obtain ⟨r0,h,rfl⟩:=h
  exact load_box_did hr hf hk hn hn0 ho hb hp hc.1 h he
theorem idxOp_did {dst:Nat} (hr:Rel k g m) (hf:Fits cx g dst) {t:TypeId} {x i:Operand} (ho:o.op= .indexAddr t x i) (hpx:Here m x) (h:idxOp cx g dst t x i=some r) (he:evIs env r.is m.σ=some σ'):Did cx k g m r σ' o dst:=by
 unfold idxOp at h
 rw[zA] at h
 obtain ⟨e,hu,h⟩:=h
 simp only[guardO_some,bne_iff_ne,ne_eq,zA] at h
 obtain ⟨hsz,n,hn,c,hc,rr,hrd,h⟩:=h
 have hu':=sliceElem_ok hu
 obtain ⟨inf,hi⟩:=info_ne hsz
 have hcel:=cel1_ok hr hc hpx
 have hO:∀d,rr.1.ev m.σ=some d→O m.h (fun _=>deepOk k m.col rr.2) d (vl m x):=(rd_ok hr hcel (src:=rr.1) (rs:=rr.2) hrd).2
 have row:guardO (rr.2.all fun r=>r.1 !=dst) (some (⟨[.row dst (cx.P.cellsOf e) rr.1 n],g.tch dst (.rptr rr.2 0),[]⟩:Res))=some r→Did cx k g m r σ' o dst:=fun h=>by
  rw[guardO_some] at h
  obtain ⟨h1,h⟩:=h
  obtain rfl:=zU h
  exact row_did hr hf ho hu' hi hn (rs:=rr.2) (by unfold slSrc;rw[hc];exact hrd) hpx (all_ne h1) he
 split at h
 ·rename_i kk rs ht
  split at h
  ·rename_i s q hsrc
   split at h
   ·exact row h
   ·rename_i hk0
    rw[guardO_some] at h
    obtain ⟨h1,h⟩:=h
    obtain rfl:=zU h
    refine idx_did hr hf ho hu' hi hn (by simpa using h1) (fun y hy=>by cases hy) (fun d hd=>⟨by simp[curL,curW],?_⟩) (fun d hd=>⟨_,hO d hd⟩) he
    have hcsrc:rr.1=c.src:=by
     unfold Cel.rd at hrd
     rw[ht] at hrd
     simp only[guardO_some,hsrc] at hrd
     obtain ⟨_,hrd⟩:=hrd
     cases hrd
     exact hsrc.symm
    cases hcel with
    | @c s' o' ts d' x' tag ht' hto hd' hx _ hc'=>
     simp at hsrc
     obtain ⟨rfl,rfl⟩:=hsrc
     simp only at hcsrc
     rw[hcsrc] at hd
     simp only[Src.ev] at hd
     rw[hd'] at hd
     cases hd
     exact ⟨d,vl m x,[],by unfold root;rw[hd',hx],rfl,loc_nil _ _ _⟩
    |cst=>simp at hsrc
    |bx=>simp at hsrc
  ·cases h
 ·rename_i a b v w ht
  rw[zA] at h
  obtain ⟨mm,how,h⟩:=h
  split at h
  ·rename_i hown
   rw[guardO_some,zD] at h
   obtain ⟨⟨h1,h2⟩,h⟩:=h
   obtain rfl:=zU h
   have hcur:curL g a v w=true∧rr.1=(if w.isEmpty then Src.c a b else .p a b (wayW w)):=by
    unfold Cel.rd at hrd
    rw[ht] at hrd
    simp only[guardO_some,zC] at hrd
    obtain ⟨hl,p,_,hrd⟩:=hrd
    cases hrd
    exact ⟨hl,rfl⟩
   refine idx_did hr hf ho hu' hi hn (by simpa using h1) (all_ne' h2) (fun d hd=>⟨hcur.1,?_⟩) (fun d hd=>⟨_,hO d hd⟩) he
   cases hcel with
   | @c s' o' ts d' x' tag ht' hto hd' hx _ hc'=>
    simp only at ht
    subst ht
    obtain ⟨e0,e1,e2,e3,f1,f2,f3,_⟩:=hc' hcur.1
    have g1:=(root_split f1).1
    have hat:=loc_at e2 [] f3
    have hev:rr.1.ev m.σ=some e3:=by
     rw[hcur.2]
     split
     ·rename_i hw
      have:w=[]:=by simpa using hw
      subst this
      simp[wayW,wayOf] at f2
      subst f2
      rw[loc_nil] at f3
      simp at f3
      simp only[Src.ev,g1,f3.1]
     ·simp only[Src.ev,g1,f2];exact hat
    rw[hd] at hev
    obtain rfl:=zU hev
    exact ⟨e0,e1,e2,f1,f2,f3⟩
   |cst h0=>rcases h0 with ⟨e,_⟩|e<;>(simp only at ht;rw[e] at ht;cases ht)
   |bx=>simp at ht
  ·exact row h
 ·cases h
theorem subOp_did {dst:Nat} (hr:Rel k g m) (hf:Fits cx g dst) {ty:TypeId} {x:Operand} {lo hi:Option Operand} {base:Bool} (ho:o.op= .slice ty x lo hi none) (hpx:Here m x) (h:subOp cx g dst ty x lo hi base=some r) (he:evIs env r.is m.σ=some σ'):Did cx k g m r σ' o dst:=by
 unfold subOp at h
 simp only[zA] at h
 obtain ⟨l,hl,hh,hhi,h⟩:=h
 split at h
 ·rename_i hu
  rw[zC] at h
  obtain ⟨s,hs,rfl⟩:=h
  exact ssl_did hr hf ho hu hs hl hhi he
 ·rename_i e hu
  simp only[guardO_some,bne_iff_ne,ne_eq,zA] at h
  obtain ⟨hsz,c,hc,rr,hrd,h⟩:=h
  obtain ⟨i,hi'⟩:=info_ne hsz
  split at h
  ·rename_i s q v hb ht
   rw[guardO_some] at h
   obtain ⟨h1,h⟩:=h
   obtain rfl:=zU h
   rw[zD] at hb
   have hlo:lo=none:=by cases lo with|none=>rfl|some=>simp at hb
   subst hlo
   exact pre_did hr hf ho hu hi' hc ht (src:=rr.1) (rs:=rr.2) hrd hpx hl hhi (by simpa using h1) he
  ·rw[guardO_some] at h
   obtain ⟨h1,h⟩:=h
   obtain rfl:=zU h
   exact sub_did hr hf ho hu hsz hi' hc (src:=rr.1) (rs:=rr.2) hrd hpx hl hhi (all_ne h1) he
 ·cases h
theorem binOpd_did {dst:Nat} (hr:Rel k g m) (hf:Fits cx g dst) {op:BinOp} {ty yty:TypeId} {x y:Operand} (ho:o.op= .binOp op ty x y yty) (hpx:Here m x) (hpy:Here m y) (h:binOpd cx g dst op ty x y yty=some r) (he:evIs env r.is m.σ=some σ'):Did cx k g m r σ' o dst:=by
 unfold binOpd at h
 split at h
 ·rename_i hu
  simp only[guardO_some,Bool.or_eq_true,beq_iff_eq,zA,zC] at h
  obtain ⟨hop,a,h1,b,h2,rfl⟩:=h
  exact eqb_did hr hf ho hu hop h1 h2 he
 ·rename_i hu
  simp only[zA,zC] at h
  obtain ⟨a,h1,b,h2,rfl⟩:=h
  exact bin_did hr hf ho h1 h2 he
 ·rename_i hu
  simp only[zA,zC] at h
  obtain ⟨a,h1,b,h2,rfl⟩:=h
  exact bin_did hr hf ho h1 h2 he
 ·rename_i fs hu
  simp only[guardO_some,zA,zD,Bool.or_eq_true,beq_iff_eq,Bool.not_eq_true'] at h
  obtain ⟨xs,hx,ys,hy,zs,hz,⟨⟨⟨⟨⟨hop,hsx⟩,hsy⟩,hax⟩,hay⟩,hgd⟩,h⟩:=h
  cases h
  exact eqs_did hr hf ho hu hop hx hy hpx hpy hz hsx hsy hax hay hgd he
 ·rename_i e hu
  split at h
  ·simp only[guardO_some,Bool.or_eq_true,beq_iff_eq,zC] at h
   obtain ⟨hop,a,h1,rfl⟩:=h
   exact isNil_did hr hf ho hu hop (a:=a.1) (rs:=a.2) h1 hpx he
  ·cases h
 ·cases h
theorem sliceLit_did {dst:Nat} (hr:Rel k g m) (hf:Fits cx g dst) {share:Bool} {t len:Nat} {ps:Array (Nat×Operand)} (ho:o.op= .buildSlice t len ps) (hp:∀p∈ps.toList,Here m p.2) (h:sliceLitOp cx share g dst t len ps.toList=some r) (he:evIs env r.is m.σ=some σ'):Did cx k g m r σ' o dst:=by
 unfold sliceLitOp at h
 simp only[zA,guardO_some,zD,decide_eq_true_eq,bne_iff_ne,ne_eq,Bool.not_eq_true'] at h
 obtain ⟨e,hu,z,hz,cs0,hfill0,cs,hfill,ms,hms,⟨⟨⟨⟨⟨hl60,hn60⟩,hn⟩,hok⟩,_⟩,hrd⟩,h⟩:=h
 cases h
 exact lit_did hr hf ho (sliceElem_ok hu) hz hn hl60 hn60 hfill hp hms hok (all_ne hrd) he
theorem extractOp_did {dst:Nat} (hr:Rel k g m) (hf:Fits cx g dst) {t i:Nat} (ho:o.op= .extract (.tmp t) i) (hp:m.σ t≠[]) (h:extractOp cx g dst t i=some r) (he:evIs env r.is m.σ=some σ'):Did cx k g m r σ' o dst:=by
 unfold extractOp at h
 split at h
 ·rename_i l ts e
  simp only[zA,guardO_some] at h
  obtain ⟨x,hx,_,h⟩:=h
  exact extract_did hr hf ho e hp hx h he
 ·cases h
end
section
variable {k:K} {env:Env} {g:G} {m:M} {cx:Cx} {σ σ':St} {o:Oper} {r:Res}
theorem chk_list {is:List I}:∀{l:List Operand},evIs env ((l.filterMap fun x=>match x with| .tmp t=>some (I.chk t)|_=>none)++is) σ=some σ'→(∀t, .tmp t∈l→σ t≠[])∧evIs env is σ=some σ'
 | [],h=>⟨(fun t ht=>by cases ht),h⟩
 |x::l,h=>by
  cases x with
  |tmp t=>
   simp only[List.filterMap_cons,List.cons_append,evIs,I.ev] at h
   split at h
   ·simp at h
   ·rename_i hne
    simp only[Option.bind_some] at h
    obtain ⟨h1,h2⟩:=chk_list h
    refine ⟨fun t' ht'=> ?_,h2⟩
    rcases List.mem_cons.1 ht' with e|e
    ·cases e;intro e;rw[e] at hne;exact hne rfl
    ·exact h1 t' e
  |_=>
   simp only[List.filterMap_cons] at h
   obtain ⟨h1,h2⟩:=chk_list h
   refine ⟨fun t' ht'=> ?_,h2⟩
   rcases List.mem_cons.1 ht' with e|e
   ·cases e
   ·exact h1 t' e
theorem chks_here {op:Op} {is:List I} (h:evIs env (chks op++is) σ=some σ'):((∀c a b,op≠ .pick c a b)→∀t, .tmp t∈op.operands.toList→σ t≠[])∧evIs env is σ=some σ':=by
 by_cases hp:∃c a b,op= .pick c a b
 ·obtain ⟨c,a,b,rfl⟩:=hp
  simp only[chks,List.nil_append] at h
  exact ⟨fun h'=>absurd rfl (h' c a b),h⟩
 ·have hnp:∀c a b,op≠ .pick c a b:=fun c a b e=>hp ⟨c,a,b,e⟩
  have hc:chks op=op.operands.toList.filterMap fun x=>match x with| .tmp t=>some (I.chk t)|_=>none:=by
   unfold chks
   split
   ·exact absurd rfl (hnp _ _ _)
   ·rfl
  rw[hc] at h
  obtain ⟨h1,h2⟩:=chk_list h
  exact ⟨fun _=>h1,h2⟩
theorem fieldTyOk_ok {P:Program} {t:TypeId} {f:Nat} {ty:TypeId} {n:Nat} (h:fieldTyOk P t f ty n=true):(∀fs fd,P.underlying t=some (.struct fs)→fs[f]? =some fd→shapeOf P fd.type=shapeOf P ty∧∃u,P.underlying fd.type=some u)∧
  (∀fs fd,P.underlying t=some (.struct fs)→fs[f]? =some fd→isAggB P fd.type=false→n=1):=by
 unfold fieldTyOk at h
 split at h
 ·rename_i fs hu
  split at h
  ·rename_i fd hfd
   simp only[zD,Bool.or_eq_true,beq_iff_eq] at h
   obtain ⟨⟨h1,h2⟩,h3⟩:=h
   refine ⟨fun fs' fd' e1 e2=> ?_,fun fs' fd' e1 e2 ha=> ?_⟩<;>(rw[hu] at e1;cases e1;rw[hfd] at e2;cases e2)
   ·exact ⟨h1,Option.isSome_iff_exists.1 h2⟩
   ·rcases h3 with h3|h3
    ·rw[h3] at ha;cases ha
    ·exact h3
  ·cases h
 ·cases h
theorem structs_ok {P:Program} {t:TypeId} (h:isStructB P t=true) (h2:fieldsKnown P t=true):∃fs,P.underlying t=some (.struct fs)∧∀f∈fs.toList,(P.info? f.type).isSome=true:=by
 unfold isStructB at h
 split at h
 ·rename_i fs hu
  unfold fieldsKnown at h2
  rw[hu] at h2
  simp only at h2
  rw[zL] at h2
  exact ⟨fs,hu,h2⟩
 ·cases h
theorem comp_done (hr:Rel k g m) (hlen:g.length=cx.base+61) {share take bs:Bool} (h:compOp cx share take bs g o=some r) (he:evIs env (chks o.op++r.is) m.σ=some σ')
  (hnc:∀c f,o.op= .call c→c.callee≠ .value (.func f)):Done cx k g m r σ' o:=by
 obtain ⟨hh,he⟩:=chks_here he
 unfold compOp at h
 simp only at h
 rw[guardO_some] at h
 obtain ⟨hd,h⟩:=h
 simp only[zD,Bool.or_eq_true,decide_eq_true_eq,beq_iff_eq] at hd
 have hf:Fits cx g (o.dst.getD (cx.base+60)):=⟨hlen,hd.2⟩
 have here:∀{x:Operand},(∀c a b,o.op≠ .pick c a b)→(x∈o.op.operands.toList)→Here m x:=fun {x} h1 h2 t e=>hh h1 t (e ▸ h2)
 split at h
 ·rename_i x ho
  exact .of_did (moveOp_did hr hf ho (here (by simp[ho]) (by simp[ho,Op.operands])) h he)
 ·rename_i x ho
  exact .of_did (assignOp_did hr hf ho (here (by simp[ho]) (by simp[ho,Op.operands])) h he)
 ·rename_i c a b ho
  simp only[zA,zC] at h
  obtain ⟨cs,h1,as,h2,bs,h3,rfl⟩:=h
  exact .of_did (pick_did hr hf ho h1 h2 h3 he)
 ·rename_i t ho
  rw[zC] at h
  obtain ⟨z,hz,rfl⟩:=h
  exact .of_did (alloc_did hr hf ho hz he)
 ·rename_i t x ho
  simp only[zA,guardO_some,zD,beq_iff_eq] at h
  obtain ⟨y,hy,⟨_,hsh⟩,h⟩:=h
  exact .of_did (box_did hr hf ho hy hsh (here (by simp[ho]) (by simp[ho,Op.operands])) h he)
 ·rename_i t ps ho
  simp only[zA,guardO_some,zD] at h
  obtain ⟨z,hz,⟨hs,hk⟩,cs,hfill,h⟩:=h
  obtain ⟨fs,hu,hfs⟩:=structs_ok hs hk
  exact .of_did (build_did hr hf ho hz hu hfs hfill (fun p hp=>here (by simp[ho]) (by simp[ho,Op.operands];exact ⟨p.1,by simpa using hp⟩)) h he)
 ·rename_i t len ps ho
  exact .of_did (sliceLit_did hr hf ho (fun p hp=>here (by simp[ho]) (by simp[ho,Op.operands];exact ⟨p.1,by simpa using hp⟩)) h he)
 ·rename_i t a ho
  exact .of_did (loadOp_did hr hf ho (hh (by simp[ho]) a (by simp[ho,Op.operands])) h he)
 ·rename_i t a v ho
  rw[guardO_some] at h
  obtain ⟨hdn,h⟩:=h
  have hdn:o.dst=none:=by cases hq:o.dst with|none=>rfl|some=>rw[hq] at hdn;cases hdn
  have hpv:=here (x:=v) (by simp[ho]) (by simp[ho,Op.operands])
  by_cases hE:∃s q w i iv off sz ww,g.ent a= .eptr s q w ww i iv off sz
  ·obtain ⟨s,q,w,i,iv,off,sz,ww,hE⟩:=hE
   exact .of_didS (by simp[ho,quietB]) hdn (store_elem_did hr hlen ho hpv hE h he)
  ·exact .of_didS (by simp[ho,quietB]) hdn (store_box_did hr hlen ho hpv (fun s q v w i iv off sz e=>hE ⟨s,q,v,i,iv,off,sz,w,e⟩) h he)
 ·rename_i t ho
  rw[guardO_some] at h
  obtain ⟨htd,h⟩:=h
  simp only[bne_iff_ne,ne_eq] at htd
  have hpt:m.σ t≠[]:=hh (by simp[ho]) t (by simp[ho,Op.operands])
  split at h
  ·rename_i e
   cases h
   obtain ⟨blk,hc⟩:=box_ptr hr e hpt
   exact .of_did (ptr_did hr hf htd hc (fun w=>nilCheck_run ho hc w) he)
  ·rename_i b v off e
   rw[guardO_some] at h
   obtain ⟨hb,h⟩:=h
   cases h
   simp only[zD,beq_iff_eq,bne_iff_ne,ne_eq] at hb
   obtain ⟨hb,hv⟩:=hb
   ·obtain ⟨blk,h1,h2⟩:=ptr_fact hr e hpt hv
    exact .of_did (ptr_copy_did hr hf e hpt hb (fun w=>by rw[nilCheck_run ho h2 w,h2]) he)
  ·rename_i e
   simp only[zA,guardO_some] at h
   obtain ⟨rr,hs,h1,h⟩:=h
   cases h
   exact .of_did (deref_did hr hf ho (src:=rr.1) (rs:=rr.2) hs hpt (all_ne h1) he)
  ·cases h
 ·rename_i op t x y yt ho
  exact .of_did (binOpd_did hr hf ho (here (by simp[ho]) (by simp[ho,Op.operands])) (here (by simp[ho]) (by simp[ho,Op.operands])) h he)
 ·rename_i t x ho
  rw[zC] at h
  obtain ⟨a,h1,rfl⟩:=h
  exact .of_did (not_did hr hf ho h1 he)
 ·rename_i t x ho
  rw[zC] at h
  obtain ⟨a,h1,rfl⟩:=h
  exact .of_did (neg_did hr hf ho h1 he)
 ·rename_i s d x ho
  split at h
  ·rename_i hs hd'
   rw[zC] at h
   obtain ⟨a,h1,rfl⟩:=h
   exact .of_did (conv_did hr hf ho hs hd' h1 he)
  ·rename_i e hs hd'
   split at h
   ·rename_i hu
    rw[zC] at h
    obtain ⟨a,h1,rfl⟩:=h
    exact .of_did (b2s_did hr hf ho hs hd' hu (a:=a.1) (rs:=a.2) h1 (here (by simp[ho]) (by simp[ho,Op.operands])) he)
   ·cases h
  ·cases h
 ·rename_i t l c ho
  simp only[zA,guardO_some,zD,decide_eq_true_eq,bne_iff_ne,ne_eq,zC] at h
  obtain ⟨e,hu,z,hz,⟨⟨⟨hby,_⟩,hn⟩,hlc⟩,a,h1,rfl⟩:=h
  exact .of_did (mk_did hr hf ho (sliceElem_ok hu) hz hby hn hlc h1 he)
 ·rename_i t x lo hi ho
  exact .of_did (subOp_did hr hf ho (here (by simp[ho]) (by simp[ho,Op.operands])) h he)
 ·rename_i t a f ho
  simp only[zA,guardO_some,bne_iff_ne,ne_eq] at h
  obtain ⟨p,hp,had,h⟩:=h
  have hpa:m.σ a≠[]:=hh (by simp[ho]) a (by simp[ho,Op.operands])
  split at h
  ·rename_i s q v w i iv off sz e
   rw[guardO_some] at h
   obtain ⟨hc,h⟩:=h
   simp only[zD,beq_iff_eq,bne_iff_ne,ne_eq] at hc
   obtain ⟨⟨⟨⟨hl,hv⟩,hs⟩,hi⟩,hw⟩:=hc
   cases h
   exact .of_did (efield_did hr hf ho hp e hpa hl hv hs hi (all_ne' hw) he)
  ·rename_i rs q e
   rw[guardO_some,zD] at h
   obtain ⟨⟨h1,h2⟩,h⟩:=h
   cases h
   exact .of_did (rptr_did hr hf e hpa (all_ne h1) (fun w b o0 hc=>by
    have:=fieldAt_run (cx:=cx) (m:=m) ho hp (show vl m (.tmp a)=_ from hc) w
    rw[this,Nat.add_assoc]) h2 he)
  ·simp only[zA,guardO_some,bne_iff_ne,ne_eq] at h
   obtain ⟨b,hb,hbd,h⟩:=h
   cases h
   exact .of_did (field_ptr_did hr hf ho hp hb hpa hbd he)
 ·rename_i t x f ho
  simp only[zA,guardO_some,zD,beq_iff_eq] at h
  obtain ⟨p,hp,y,hy,⟨⟨hl,hft⟩,hag⟩,h⟩:=h
  obtain ⟨h1,h2⟩:=fieldTyOk_ok hft
  exact .of_did (field_did hr hf ho hp hy (here (by simp[ho]) (by simp[ho,Op.operands])) hl hag h1 h2 h he)
 ·rename_i t x i ho
  exact .of_did (idxOp_did hr hf ho (here (by simp[ho]) (by simp[ho,Op.operands])) h he)
 ·rename_i t x i ho
  split at h
  ·rename_i hu
   simp only[zA,zC] at h
   obtain ⟨a,h1,n,h2,rfl⟩:=h
   exact .of_did (sidx_did hr hf ho hu h1 h2 he)
  ·cases h
 ·rename_i t ho
  cases h
  exact .of_did (mnew_did hr hf ho he)
 ·rename_i t a i ho
  simp only[zA,guardO_some] at h
  obtain ⟨ht,kx,h1,s,hm,_,h⟩:=h
  cases h
  exact .of_did (mget_did hr hf ho ht h1 hm (hh (by simp[ho]) a (by simp[ho,Op.operands])) he)
 ·rename_i t a i v ho
  simp only[zA,guardO_some,zD,zC] at h
  obtain ⟨⟨hdn,ht⟩,kx,h1,vx,h2,s,hm,rfl⟩:=h
  have hdn:o.dst=none:=by cases hq:o.dst with|none=>rfl|some=>rw[hq] at hdn;cases hdn
  exact .of_didS (by simp[ho,quietB]) hdn (mput_did hr ho ht h1 h2 hm he)
 ·rename_i t i ho
  exact .of_did (extractOp_did hr hf ho (hh (by simp[ho]) t (by simp[ho,Op.operands])) h he)
 ·rename_i c ho
  have hh':∀x∈c.args.toList,Here m x:=fun x hx=>here (by simp[ho]) (by simp[ho,Op.operands,Call.operands];exact .inr (by simpa using hx))
  split at h
  ·rename_i x hc ha
   have ha':c.args= #[x]:=by apply Array.ext';simpa using ha
   rw[zA] at h
   obtain ⟨t,ht,h⟩:=h
   split at h
   ·rename_i hu
    rw[zC] at h
    obtain ⟨a,h1,rfl⟩:=h
    exact .of_did (slen_did hr hf ho hc ha' ht hu h1 he)
   ·rename_i e hu
    rw[zC] at h
    obtain ⟨a,h1,rfl⟩:=h
    exact .of_did (len_did hr hf ho hc ha' ht hu (a:=a.1) (rs:=a.2) h1 (hh' x (by simp[ha])) he)
   ·cases h
  ·rename_i x y hc ha
   have ha':c.args= #[x,y]:=by apply Array.ext';simpa using ha
   split at h
   ·rename_i t1 t2 hty
    have hty':c.argTypes= #[t1,t2]:=by apply Array.ext';simpa using hty
    exact .of_did (app_did hr hf ho hc ha' hty' (hh' x (by simp[ha])) (hh' y (by simp[ha])) h he)
   ·cases h
  ·rename_i x y hc ha
   have ha':c.args= #[x,y]:=by apply Array.ext';simpa using ha
   simp only[zA,zC] at h
   obtain ⟨a,h1,b,h2,rfl⟩:=h
   exact .of_did (mm_did (max:=false) hr hf ho (by simpa using hc) ha' h1 h2 he)
  ·rename_i x y hc ha
   have ha':c.args= #[x,y]:=by apply Array.ext';simpa using ha
   simp only[zA,zC] at h
   obtain ⟨a,h1,b,h2,rfl⟩:=h
   exact .of_did (mm_did (max:=true) hr hf ho (by simpa using hc) ha' h1 h2 he)
  ·rename_i _ _ f hc
   exact absurd hc (hnc c f ho)
  ·cases h
 ·cases h
end
def jsR (js:List Nat):Rts:=js.map fun j=>(PAR+j,0,0)
def RES:Nat:=900000
def OutOk (h:Array Obj) (good:Nat→Rts→Good) (d:D) (x:Value):RC→Prop
 |none=>d.flat=true∧O h (fun _ _=>False) d x
 |some (n,js)=>d.flat=false∧O h (good n (jsR js)) d x
structure CellsOut (h:Array Obj) (good:Nat→Nat→Rts→Good) (ts:List RC) (ds:List D) (vs:List Value):Prop where
 len1:vs.length=ts.length
 len2:ds.length=ts.length
 one:∀v∈vs,v.oneCell'=true
 cell:∀(o:Nat) (t:RC) (d:D) (x:Value),ts[o]? =some t→ds[o]? =some d→vs[o]? =some x→OutOk h (good o) d x t
def rsTup:RSig→Bool×Nat
 | .v a ts=>(a,ts.length)
 | .bx _ _=>(false,1)
def resShape:List RSig→Shape
 | [.v agg _]=>if agg then .agg else .one
 |rs=> .tup (rs.map rsTup)
def rsRC:RSig→List RC
 | .v _ ts=>ts
 | .bx _ ts=>ts
def resRC (rs:List RSig):List RC:=rs.flatMap rsRC
def ResOut (k:K) (h:Array Obj) (col:Nat→Color) (rs:List RSig) (v:Value) (ds:List D):Prop:=
 match rs with
 | [.bx ty ts]=>∃(blk:Nat) (cs:Array Value),v= .pointer (some ⟨blk,0,none⟩)∧col blk= .box RES∧h[blk]? =some (.cells cs ty (0,0))∧CellsOut h (fun o=>gd k col RES o) ts ds cs.toList
 |rs=>∃vs,cellsV (resShape rs) v=some vs∧CellsOut h (fun o=>gl k col (PAR+o)) (resRC rs) ds vs
def MutsOut (k:K) (h:Array Obj) (col:Nat→Color) (i:Nat):Nat→List PC→List Value→List D→Prop
 |_,[],[],o=>o=[]
 |q,c::cs,v::vs,o=>match c.out with
  |none=>MutsOut k h col i (q+1) cs vs o
  |some rc=>∃d o',o=d::o'∧OutOk h (gd k col i q) d v (some rc)∧MutsOut k h col i (q+1) cs vs o'
 |_,_,_,_=>False
def ParsOut (k:K) (h:Array Obj) (col:Nat→Color):Nat→List PSig→List Bool→List Value→List (List D)→Prop
 |_,[],_,_,os=>os=[]
 |i, .v cs::ps,agg::shs,x::xs,os=>if cs.all (fun c=>c.out.isNone) then ParsOut k h col (i+1) ps shs xs os
  else∃o os',os=o::os'∧(∃vs,cellsV (if agg then .agg else .one) x=some vs∧MutsOut k h col i 0 cs vs o)∧ParsOut k h col (i+1) ps shs xs os'
 |i, .bx ty _ ts::ps,_::shs,x::xs,os=>∃o os',os=o::os'∧(∃(blk:Nat) (cs:Array Value),x= .pointer (some ⟨blk,0,none⟩)∧col blk= .box i∧h[blk]? =some (.cells cs ty (0,0))∧CellsOut h (fun q=>gd k col i q) ts o cs.toList)∧
  ParsOut k h col (i+1) ps shs xs os'
 |_,_,_,_,_=>False
structure FinOk (k:K) (sig:Sig) (shs:List Bool) (args:List Value) (outs:List (List D)) (v:Value) (h:Array Obj) (col:Nat→Color):Prop where
 mem:Mem k ⟨fun _=>[],fun _=>undef,h,col⟩
 res:∃ds os,outs=ds::os∧ResOut k h col sig.res v ds∧ParsOut k h col 0 sig.params shs args os
def FX:List (String×IntKind×List Int):=[("internal/strconv.uint64pow10", .u64,Lib.pow10Tab)]
def FxOk (k:K):Prop:=∀q∈FX,∀b,k.P.globalNamed q.1=some b→k.col0 b= .stable∧∃ty fr,k.h0[b]? =some (.cells (q.2.2.map fun z=>Value.int q.2.1 z).toArray ty fr)
def Meets (P:Program) (f:Nat) (sig:Sig) (F:List (List D)→Option (List (List D))):Prop:=
 ∀(fn:Func) (k:K) (m:M) (w:World) (args:List Value) (ins outs:List (List D)),P.funcs[f]? =some fn→k.P=P→FxOk k→k.h0=m.h→k.col0=m.col→w.heap=m.h→args.length=sig.params.length→
  (∀i,m.σ i=ins.getD i [])→(∀i,m.c i=args.getD i undef)→Mem k m→(∀b u π,m.col b≠ .lim u π)→
  (∀i,EntOk k [] m i ((pEnts P 0 fn.params.toList sig.params).getD i .none))→F ins=some outs→
  Calls P f args.toArray w fun e w'=>∃(v:Value) (h':Array Obj) (dr:Nat) (col':Nat→Color),e= .returned v∧w'={w with heap:=h',drawn:=dr}∧
   FinOk k sig (fn.params.toList.map (isAggB P)) args outs v h' col'
def retCol:Color→Color
 | .lim u π=>if PAR≤u∧u<PAR+1000 then .lim u π else .stable
 | .box s=>if s=RES then .lim (PAR+600000) [] else .lim (PAR+100000+s*1000) []
 | .arr s o π=>if s=RES then .lim (PAR+600001+o) π else .lim (PAR+100001+s*1000+o) π
 | .free=> .free
 | .stable=> .stable
 | .mp _=> .stable
structure Hand where
 c:Nat→Option (Nat×Nat×Nat)
 b:Nat→Option Nat
def handCol (H:Hand) (col:Nat→Color):Nat→Color:=fun b=>
 match col b with
 | .lim u π=>match H.c u with
  |some (p,o,n)=>if owns n π.length=true then .arr p o π else .stable
  |none=>match H.b u with
   |some p=>if π=[] then .box p else .stable
   |none=> .stable
 | .free=> .free
 |_=> .stable
def backCol (H:Hand) (col colF:Nat→Color):Nat→Color:=fun b=>
 if handCol H col b= .stable then (match col b with| .lim _ _=> .stable|c=>c) else retCol (colF b)
section
variable {k:K} {g:G} {m:M} {H:Hand}
theorem handCol_free {b:Nat}:handCol H m.col b= .free↔m.col b= .free:=by
 unfold handCol
 split
 ·rename_i u π e
  rw[e]
  split
  ·split<;>simp
  ·split
   ·split<;>simp
   ·simp
 ·rename_i e;simp[e]
 ·rename_i e1 e2;simp;exact fun e=>e2 e
def calleeK (k:K) (m:M) (H:Hand) (cls:Nat→Rts) (lu:Nat→Nat):K:=
 ⟨k.P,m.h,handCol H m.col,fun j b=>deepOk k m.col (cls j) b∨∃π,m.col b= .lim (lu j) π⟩
theorem callee_mem (hm:Mem k m) {cls:Nat→Rts} {lu:Nat→Nat} (hp:∀u p o n,H.c u=some (p,o,n)→p<PAR) (σ:St) (c:Nat→Value):
  Mem (calleeK k m H cls lu) ⟨σ,c,m.h,handCol H m.col⟩:=by
 have lim:∀b c',handCol H m.col b=c'→c'≠ .stable→c'≠ .free→∃u π,m.col b= .lim u π:=fun b c' h h1 h2=>by
  unfold handCol at h
  split at h
  ·rename_i u π e;exact ⟨u,π,e⟩
  ·exact absurd h.symm h2
  ·exact absurd h.symm h1
 refine ⟨Nat.le_refl _,fun b=>by rw[show (⟨σ,c,m.h,handCol H m.col⟩:M).h=m.h from rfl,hm.free b];exact handCol_free.symm,fun b s hb e=> ?_,fun b s o π hb=> ?_,fun b u π hb=> ?_,fun b s hb=> ?_,fun b hb=>⟨rfl,hb⟩⟩
 ·change handCol H m.col b= .stable at e
  rw[show (⟨σ,c,m.h,handCol H m.col⟩:M).col b=handCol H m.col b from rfl,e] at hb
  simp[Color.own] at hb
 ·change handCol H m.col b=_ at hb
  obtain ⟨u,ρ,e⟩:=lim b _ hb (by simp) (by simp)
  refine ⟨?_,(hm.lm b u ρ e).2⟩
  unfold handCol at hb
  rw[e] at hb
  simp only at hb
  split at hb
  ·rename_i p o' n hc
   split at hb
   ·cases hb;exact hp _ _ _ _ hc
   ·cases hb
  ·split at hb
   ·split at hb<;>cases hb
   ·cases hb
 ·change handCol H m.col b=_ at hb
  unfold handCol at hb
  split at hb
  ·split at hb
   ·split at hb<;>cases hb
   ·split at hb
    ·split at hb<;>cases hb
    ·cases hb
  ·cases hb
  ·cases hb
 ·change handCol H m.col b=_ at hb
  obtain ⟨u,ρ,e⟩:=lim b _ hb (by simp) (by simp)
  exact (hm.lm b u ρ e).2
theorem hand_cell {cls:Nat→Rts} {lu:Nat→Nat} {u n' j p o n:Nat} {rs:Rts} {d:D} {x:Value} (hh:Held k m u n' rs d x) (hn:n≤n') (hc:n'≠0→H.c u=some (p,o,n)) (hj:cls j=rs) (hl:n'≠0→lu j=u):
  O m.h (gd (calleeK k m H cls lu) (handCol H m.col) p o n (if isDeep n then [] else [(PAR+j,0,0)])) d x:=by
 refine O.frame hh fun π b hb=>⟨rfl,?_⟩
 unfold gl at hb
 unfold gd
 by_cases o1:owns n π.length=true
 ·rw[if_pos o1]
  have o2:=owns_le hn o1
  rw[if_pos o2] at hb
  have hn0:n'≠0:=fun e=>by rw[e,owns_zero] at o2;cases o2
  unfold handCol
  rw[hb]
  simp only[hc hn0,o1,if_true]
 ·rw[if_neg o1]
  have hnd:isDeep n=false:=by
   cases e:isDeep n with
   |false=>rfl
   |true=>exfalso;apply o1;unfold isDeep at e;unfold owns;simp at e ⊢;exact .inl e
  have hcol:handCol H m.col b= .stable∧(deepOk k m.col (cls j) b∨∃π,m.col b= .lim (lu j) π):=by
   by_cases o2:owns n' π.length=true
   ·rw[if_pos o2] at hb
    have hn0':n'≠0:=fun e=>by rw[e,owns_zero] at o2;cases o2
    refine ⟨?_, .inr ⟨π,by rw[hl hn0'];exact hb⟩⟩
    unfold handCol
    rw[hb]
    simp only[hc hn0',o1,if_false,Bool.false_eq_true]
   ·rw[if_neg o2] at hb
    refine ⟨?_, .inl (by rw[hj];exact hb)⟩
    unfold handCol
    rcases hb with ⟨e,_⟩|⟨r,_,π',e⟩<;>rw[e]
  rw[hnd]
  exact .inl ⟨hcol.1, .inr ⟨(PAR+j,0,0),by simp,j,rfl,hcol.2⟩⟩
theorem backCol_old {colF:Nat→Color} {b:Nat} (h:handCol H m.col b= .stable) (hl:∀u π,m.col b≠ .lim u π):backCol H m.col colF b=m.col b:=by
 unfold backCol
 rw[if_pos h]
 split
 ·rename_i u π e;exact absurd e (hl u π)
 ·rfl
theorem backCol_lim {colF:Nat→Color} {b u:Nat} {π:List (Nat×Nat)} (h:handCol H m.col b= .stable) (hl:m.col b= .lim u π):backCol H m.col colF b= .stable:=by
 unfold backCol
 rw[if_pos h,hl]
theorem backCol_new {colF:Nat→Color} {b:Nat} (h:handCol H m.col b≠ .stable):backCol H m.col colF b=retCol (colF b):=by
 unfold backCol
 rw[if_neg h]
theorem retCol_celled {c:Color}:retCol c= .stable∨retCol c= .free∨∃u π,PAR≤u∧retCol c= .lim u π:=by
 unfold retCol
 split
 ·rename_i u π
  split
  ·rename_i h;exact .inr (.inr ⟨u,π,h.1,rfl⟩)
  ·exact .inl rfl
 ·split
  ·exact .inr (.inr ⟨_,_,by omega,rfl⟩)
  ·exact .inr (.inr ⟨_,_,by omega,rfl⟩)
 ·split
  ·exact .inr (.inr ⟨_,_,by omega,rfl⟩)
  ·exact .inr (.inr ⟨_,_,by omega,rfl⟩)
 ·exact .inr (.inl rfl)
 ·exact .inl rfl
 ·exact .inl rfl
theorem retCol_free {c:Color}:retCol c= .free↔c= .free:=by
 unfold retCol
 cases c<;>simp
 all_goals split<;>simp
variable {cls:Nat→Rts} {lu:Nat→Nat} {h':Array Obj} {colF:Nat→Color}
theorem other_stable {b:Nat} (h1:∀u π,m.col b≠ .lim u π) (h2:m.col b≠ .free):handCol H m.col b= .stable:=by
 unfold handCol
 split
 ·rename_i u π e;exact absurd e (h1 u π)
 ·rename_i e;exact absurd e h2
 ·rfl
theorem call_step (hr:Rel k g m) (hF:Mem (calleeK k m H cls lu) ⟨fun _=>[],fun _=>undef,h',colF⟩):
  Step k g m g ⟨m.σ,m.c,h',backCol H m.col colF⟩ (fun x=>PAR≤x):=by
 have hsz:m.h.size≤h'.size:=hF.size
 have hkept:∀b,handCol H m.col b= .stable→h'[b]? =m.h[b]? ∧colF b= .stable:=hF.kept
 have hfree:∀b,h'.size≤b↔colF b= .free:=hF.free
 have hnf:∀b,m.col b= .free→k.fresh b:=fun b hb e=>by
  have:=(hr.mem.kept b e).2
  rw[hb] at this
  cases this
 have fresh:∀b,handCol H m.col b≠ .stable→k.fresh b:=fun b hb=>by
  by_cases hf:m.col b= .free
  ·exact hnf b hf
  ·by_cases hl:∃u π,m.col b= .lim u π
   ·obtain ⟨u,π,e⟩:=hl
    exact hr.mem.fresh b u (by rw[e];rfl)
   ·exact absurd (other_stable (fun u π e=>hl ⟨u,π,e⟩) hf) hb
 have cells:∀b u π,backCol H m.col colF b= .lim u π→PAR≤u∧∃cs ty,h'[b]? =some (.cells cs ty (0,0)):=fun b u π e=>by
  by_cases hs:handCol H m.col b= .stable
  ·by_cases hl:∃u π,m.col b= .lim u π
   ·obtain ⟨u',π',e'⟩:=hl
    rw[backCol_lim hs e'] at e;cases e
   ·rw[backCol_old hs (fun u π e=>hl ⟨u,π,e⟩)] at e
    exact absurd ⟨u,π,e⟩ hl
  ·rw[backCol_new hs] at e
   refine ⟨?_,?_⟩
   ·rcases retCol_celled (c:=colF b) with h|h|⟨u',π',h1,h2⟩
    ·rw[h] at e;cases e
    ·rw[h] at e;cases e
    ·rw[h2] at e;cases e;exact h1
   ·cases hc:colF b with
    |arr s o ρ=>exact (hF.arr b s o ρ hc).2
    |lim v ρ=>exact (hF.lm b v ρ hc).2
    |box s=>exact hF.bx b s hc
    |free=>rw[hc] at e;cases e
    |stable=>rw[hc] at e;cases e
    |mp s=>rw[hc] at e;cases e
 have oldcol:∀b c',backCol H m.col colF b=c'→(∀u π,c'≠ .lim u π)→c'≠ .stable→c'≠ .free→m.col b=c'∧h'[b]? =m.h[b]? :=fun b c' e h1 h2 h3=>by
  by_cases hs:handCol H m.col b= .stable
  ·by_cases hl:∃u π,m.col b= .lim u π
   ·obtain ⟨u',π',e'⟩:=hl
    rw[backCol_lim hs e'] at e;exact absurd e.symm h2
   ·rw[backCol_old hs (fun u π e=>hl ⟨u,π,e⟩)] at e
    exact ⟨e,(hkept b hs).1⟩
  ·rw[backCol_new hs] at e
   rcases retCol_celled (c:=colF b) with h|h|⟨u',π',_,h⟩
   ·rw[h] at e;exact absurd e.symm h2
   ·rw[h] at e;exact absurd e.symm h3
   ·rw[h] at e;exact absurd e.symm (h1 _ _)
 have hmem:Mem k ⟨m.σ,m.c,h',backCol H m.col colF⟩:=by
  refine ⟨zS hr.mem.size hsz,fun b=> ?_,fun b s hb=> ?_,fun b s o π hb=> ?_,fun b u π hb=>cells b u π hb,fun b s hb=> ?_,fun b hb=> ?_⟩
  ·show h'.size≤b↔backCol H m.col colF b= .free
   by_cases hs:handCol H m.col b= .stable
   ·constructor
    ·intro hle
     have:=(hfree b).1 hle
     rw[(hkept b hs).2] at this
     cases this
    ·intro e
     by_cases hl:∃u π,m.col b= .lim u π
     ·obtain ⟨u',π',e'⟩:=hl
      rw[backCol_lim hs e'] at e;cases e
     ·rw[backCol_old hs (fun u π e=>hl ⟨u,π,e⟩)] at e
      rw[handCol_free.2 e] at hs;cases hs
   ·rw[backCol_new hs,retCol_free,hfree b]
  ·by_cases hs:handCol H m.col b= .stable
   ·by_cases hl:∃u π,m.col b= .lim u π
    ·obtain ⟨u',π',e'⟩:=hl
     exact hr.mem.fresh b u' (by rw[e'];rfl)
    ·change (backCol H m.col colF b).own=some s at hb
     rw[backCol_old hs (fun u π e=>hl ⟨u,π,e⟩)] at hb
     exact hr.mem.fresh b s hb
   ·exact fresh b hs
  ·obtain ⟨e1,e2⟩:=oldcol b _ hb (by simp) (by simp) (by simp)
   obtain ⟨a1,cs,ty,a2⟩:=hr.mem.arr b s o π e1
   exact ⟨a1,cs,ty,by rw[show (⟨m.σ,m.c,h',backCol H m.col colF⟩:M).h=h' from rfl,e2,a2]⟩
  ·obtain ⟨e1,e2⟩:=oldcol b _ hb (by simp) (by simp) (by simp)
   obtain ⟨cs,ty,a2⟩:=hr.mem.bx b s e1
   exact ⟨cs,ty,by rw[show (⟨m.σ,m.c,h',backCol H m.col colF⟩:M).h=h' from rfl,e2,a2]⟩
  ·obtain ⟨a1,a2⟩:=hr.mem.kept b hb
   have hs:=other_stable (H:=H) (m:=m) (b:=b) (by rw[a2];simp) (by rw[a2];simp)
   exact ⟨by rw[show (⟨m.σ,m.c,h',backCol H m.col colF⟩:M).h=h' from rfl,(hkept b hs).1,a1],by
    show backCol H m.col colF b=_
    rw[backCol_old hs (by rw[a2];simp),a2]⟩
 refine Step.limbo hr rfl rfl hmem fun b hb hown=> ?_
 have h1:∀u π,m.col b≠ .lim u π:=fun u π e=>by
  have:=hown u (by rw[e];rfl)
  have:=(hr.mem.lm b u π e).1
  omega
 have h2:m.col b≠ .free:=fun e=>by have:=(hr.mem.free b).2 e;omega
 have hs:=other_stable (H:=H) h1 h2
 exact ⟨(hkept b hs).1,backCol_old hs h1⟩
theorem back_deep (hr:Rel k g m) (hF:Mem (calleeK k m H cls lu) ⟨fun _=>[],fun _=>undef,h',colF⟩) {js:List Nat} {R:Rts} (hR:∀j∈js,∀r∈cls j,r∈R) {b:Nat}
  (h:deepOk (calleeK k m H cls lu) colF (jsR js) b):deepOk k (backCol H m.col colF) R b:=by
 rcases h with ⟨h1,h2⟩|⟨r,h1,π,h2⟩
 ·by_cases hs:handCol H m.col b= .stable
  ·rcases h2 with h2|⟨r,h3,j,h4,h5⟩
   ·exact absurd hs h2
   ·have hj:j∈js:=by
     simp only[jsR,List.mem_map] at h3
     obtain ⟨j',h6,rfl⟩:=h3
     simp at h4
     rw[← h4];exact h6
    rcases h5 with h5|⟨π,h5⟩
    ·rcases h5 with ⟨e1,e2⟩|⟨q,e1,π,e2⟩
     ·refine .inl ⟨by rw[backCol_old hs (by rw[e1];simp),e1],?_⟩
      rcases e2 with e2|⟨q,e3,i,e4⟩
      ·exact .inl e2
      ·exact .inr ⟨q,hR j hj q e3,i,e4⟩
     ·exact .inr ⟨q,hR j hj q e1,π,by rw[backCol_old hs (by rw[e2];simp),e2]⟩
    ·exact .inl ⟨backCol_lim hs h5, .inl (hr.mem.fresh b (lu j) (by rw[h5];rfl))⟩
  ·refine .inl ⟨by rw[backCol_new hs,h1];rfl, .inl ?_⟩
   by_cases hf:m.col b= .free
   ·intro e
    have:=(hr.mem.kept b e).2
    rw[hf] at this
    cases this
   ·by_cases hl:∃u π,m.col b= .lim u π
    ·obtain ⟨u,π,e⟩:=hl
     exact hr.mem.fresh b u (by rw[e];rfl)
    ·exact absurd (other_stable (fun u π e=>hl ⟨u,π,e⟩) hf) hs
 ·simp only[jsR,List.mem_map] at h1
  obtain ⟨j,_,rfl⟩:=h1
  have:PAR+j<PAR:=(hF.arr b _ _ _ h2).1
  omega
theorem not_hand {b:Nat} (hF:Mem (calleeK k m H cls lu) ⟨fun _=>[],fun _=>undef,h',colF⟩) (h:colF b≠ .stable):handCol H m.col b≠ .stable:=fun e=>h (hF.kept b e).2
theorem back_res (hr:Rel k g m) (hF:Mem (calleeK k m H cls lu) ⟨fun _=>[],fun _=>undef,h',colF⟩) {i n:Nat} (hi:i<1000) {js:List Nat} {R:Rts} (hR:isDeep n=false→∀j∈js,∀r∈cls j,r∈R) {d:D} {x:Value}
  (h:O h' (gl (calleeK k m H cls lu) colF (PAR+i) n (jsR js)) d x) (σ:St):Held k ⟨σ,m.c,h',backCol H m.col colF⟩ (PAR+i) n R d x:=by
 refine O.frame h fun π b hb=>⟨rfl,?_⟩
 unfold gl at hb ⊢
 by_cases o1:owns n π.length=true
 ·rw[if_pos o1] at hb ⊢
  show backCol H m.col colF b=_
  rw[backCol_new (not_hand hF (by rw[hb];simp)),hb]
  unfold retCol
  simp only
  rw[if_pos ⟨by omega,by omega⟩]
 ·rw[if_neg o1] at hb ⊢
  have hnd:isDeep n=false:=by
   cases e:isDeep n with
   |false=>rfl
   |true=>exfalso;apply o1;unfold isDeep at e;unfold owns;simp at e ⊢;exact .inl e
  exact back_deep hr hF (hR hnd) hb
theorem back_par (hr:Rel k g m) (hF:Mem (calleeK k m H cls lu) ⟨fun _=>[],fun _=>undef,h',colF⟩) {i o n:Nat} {js:List Nat} {R:Rts} (hR:isDeep n=false→∀j∈js,∀r∈cls j,r∈R) {d:D} {x:Value}
  (h:O h' (gd (calleeK k m H cls lu) colF i o n (jsR js)) d x) (σ:St):Held k ⟨σ,m.c,h',backCol H m.col colF⟩ (if i=RES then PAR+600001+o else PAR+100001+i*1000+o) n R d x:=by
 refine O.frame h fun π b hb=>⟨rfl,?_⟩
 unfold gd at hb
 unfold gl
 by_cases o1:owns n π.length=true
 ·rw[if_pos o1] at hb ⊢
  show backCol H m.col colF b=_
  rw[backCol_new (not_hand hF (by rw[hb];simp)),hb]
  unfold retCol
  simp only
  split<;>rfl
 ·rw[if_neg o1] at hb ⊢
  have hnd:isDeep n=false:=by
   cases e:isDeep n with
   |false=>rfl
   |true=>exfalso;apply o1;unfold isDeep at e;unfold owns;simp at e ⊢;exact .inl e
  exact back_deep hr hF (hR hnd) hb
theorem back_box (hF:Mem (calleeK k m H cls lu) ⟨fun _=>[],fun _=>undef,h',colF⟩) {i b:Nat} (h:colF b= .box i):backCol H m.col colF b=if i=RES then .lim (PAR+600000) [] else .lim (PAR+100000+i*1000) []:=by
 rw[backCol_new (not_hand hF (by rw[h];simp)),h]
 rfl
end
section
variable {k:K} {g g':G} {m m':M}
theorem Held.turn {T:Nat→Prop} {u n:Nat} {rs:Rts} {d:D} {x:Value} (h:Held k m u n rs d x) (hr:Rel k g m) (S:Step k g m g' m' T) (hh:m'.h=m.h) (hu:∀b π,m.col b= .lim u π→m'.col b= .lim u π)
  (hrs:∀r∈rs,g'.ver r.1=g.ver r.1):Held k m' u n rs d x:=by
 refine O.frame h fun π b hb=>⟨by rw[hh],?_⟩
 unfold gl at hb ⊢
 by_cases o1:owns n π.length=true
 ·rw[if_pos o1] at hb ⊢;exact hu b π hb
 ·rw[if_neg o1] at hb ⊢;exact (deepOk_keep hr.mem (S.keeps hr) S.stays hrs hb).2
def giveCol (col:Nat→Color) (s v:Nat):Nat→Color:=fun b=>
 match col b with
 | .box s'=>if s'=s then .lim v [] else .box s'
 | .arr s' o π=>if s'=s then .lim (v+1+o) π else .arr s' o π
 |c=>c
theorem giveCol_own {col:Nat→Color} {s v b:Nat} (h:(col b).own≠some s):giveCol col s v b=col b:=by
 unfold giveCol
 split
 ·rename_i s' e
  rw[if_neg (fun e2=>h (by rw[e,e2];rfl)),e]
 ·rename_i s' o π e
  rw[if_neg (fun e2=>h (by rw[e,e2];rfl)),e]
 ·rfl
theorem giveCol_arr {col:Nat→Color} {s v b o:Nat} {π:List (Nat×Nat)} (h:col b= .arr s o π):giveCol col s v b= .lim (v+1+o) π:=by
 unfold giveCol;rw[h];simp
theorem giveCol_box {col:Nat→Color} {s v b:Nat} (h:col b= .box s):giveCol col s v b= .lim v []:=by
 unfold giveCol;rw[h];simp
theorem Step.giveBox (hr:Rel k g m) {s ty:Nat} {ts:List Tag} (he:g.ent s= .box ty ts) {v:Nat} (hv:PAR≤v):
  Step k g m (g.trn s .none) {m with col:=giveCol m.col s v} (·=s):=by
 have hs:s<g.length:=lt_of_ent fun e=>by rw[e] at he;cases he
 refine Step.ghost hr .trn hs (σ':=m.σ) (fun _ _=>rfl) (fun b hb=>giveCol_own hb) (hr.mem.turn rfl fun b=> ?_) ?_ ⟨trivial,trivial⟩
 ·by_cases h1:m.col b= .box s
  ·refine .inr ⟨by rw[h1];simp[Color.own], .inr ⟨?_, .inr (.inr ⟨s,h1⟩)⟩⟩
   show (giveCol m.col s v b).celled
   rw[giveCol_box h1];exact .inr (.inl ⟨v,_,hv,rfl⟩)
  ·by_cases h2:∃o π,m.col b= .arr s o π
   ·obtain ⟨o,π,h2⟩:=h2
    refine .inr ⟨by rw[h2];simp[Color.own], .inr ⟨?_, .inl ⟨s,o,π,(hr.mem.arr b s o π h2).1,h2⟩⟩⟩
    show (giveCol m.col s v b).celled
    rw[giveCol_arr h2];exact .inr (.inl ⟨_,_,by omega,rfl⟩)
   ·left
    show giveCol m.col s v b=_
    unfold giveCol
    split
    ·rename_i s' e
     rw[if_neg (fun e2=>h1 (by rw[e,e2])),e]
    ·rename_i s' o π e
     rw[if_neg (fun e2=>h2 ⟨o,π,by rw[e,e2]⟩),e]
    ·rfl
 ·exact ⟨fun _=>rfl,fun h=>absurd h (Turn.hv_self (.inr rfl) hs),fun h=>absurd h (Turn.dv_self .trn (by simp) (by simp) hs),fun h=>absurd h (Turn.ver_self .trn (by simp) hs)⟩
theorem give_cell (hr:Rel k g m) {s o n v:Nat} {rs:Rts} {d:D} {x:Value} (h:CellOk k g m s o d x (.own n rs)) (hc:curR g rs=true) (hrs:∀r∈rs,r.1≠s):
  Held k {m with col:=giveCol m.col s v} (v+1+o) n rs d x:=by
 refine O.frame (h.2 hc) fun π b hb=>⟨rfl,?_⟩
 unfold gd at hb
 unfold gl
 by_cases o1:owns n π.length=true
 ·rw[if_pos o1] at hb ⊢;exact giveCol_arr hb
 ·rw[if_neg o1] at hb ⊢
  rcases hb with ⟨e1,e2⟩|⟨r,e1,π',e2⟩
  ·exact .inl ⟨by rw[show ({m with col:=giveCol m.col s v}:M).col b=giveCol m.col s v b from rfl,giveCol_own (by rw[e1];simp[Color.own])];exact e1,e2⟩
  ·exact .inr ⟨r,e1,π',by rw[show ({m with col:=giveCol m.col s v}:M).col b=giveCol m.col s v b from rfl,giveCol_own (by rw[e2];simp[Color.own];exact hrs r e1)];exact e2⟩
theorem giveCol_lim {col:Nat→Color} {s v b u:Nat} {π:List (Nat×Nat)} (h:col b= .lim u π):giveCol col s v b= .lim u π:=by
 unfold giveCol;rw[h]
def takeCol (col:Nat→Color) (s v len:Nat):Nat→Color:=fun b=>
 match col b with
 | .lim u π=>if u=v then (if π=[] then .box s else .stable) else if v+1≤u∧u<v+1+len then .arr s (u-(v+1)) π else .lim u π
 |c=>if c.own=some s then .stable else c
section takeCol
variable {col:Nat→Color} {s v len b:Nat}
theorem takeCol_same (h1:(col b).own≠some s) (h2:∀u π,col b= .lim u π→u<v∨v+1+len≤u):takeCol col s v len b=col b:=by
 unfold takeCol
 split
 ·rename_i u π e
  have:=h2 u π e
  rw[if_neg (by omega),if_neg (by omega),e]
 ·rw[if_neg h1]
theorem takeCol_box (h:col b= .lim v []):takeCol col s v len b= .box s:=by
 unfold takeCol;rw[h];simp
theorem takeCol_arr {o:Nat} {π:List (Nat×Nat)} (h:col b= .lim (v+1+o) π) (ho:o<len):takeCol col s v len b= .arr s o π:=by
 unfold takeCol
 rw[h]
 simp only
 rw[if_neg (by omega),if_pos ⟨by omega,by omega⟩]
 congr 1
 omega
theorem takeCol_own (h1:(col b).own=some s) (h2:∀u π,col b≠ .lim u π):takeCol col s v len b= .stable:=by
 unfold takeCol
 split
 ·rename_i u π e;exact absurd e (h2 u π)
 ·rw[if_pos h1]
end takeCol
theorem deepOk_take {s v len:Nat} {rs:Rts} {b:Nat} (hrs:∀r∈rs,r.1≠s) (h:deepOk k m.col rs b):deepOk k (takeCol m.col s v len) rs b:=by
 rcases h with ⟨e1,e2⟩|⟨r,e1,π',e2⟩
 ·exact .inl ⟨by rw[takeCol_same (by rw[e1];simp[Color.own]) (fun u π e=>by rw[e1] at e;cases e)];exact e1,e2⟩
 ·exact .inr ⟨r,e1,π',by rw[takeCol_same (by rw[e2];simp[Color.own];exact hrs r e1) (fun u π e=>by rw[e2] at e;cases e)];exact e2⟩
theorem Step.layBox (hr:Rel k g m) {s:Nat} (hs:s<g.length) {u:Turn} {c':Nat→Value} (hc:∀x,x≠s→c' x=m.c x) (hu:u= .tch∨(u= .trn∧c' s=m.c s)) {v:Nat} (hv:PAR≤v) {ty blk:Nat} {cs:Array Value}
  (hcs:c' s= .pointer (some ⟨blk,0,none⟩)) (hcol:m.col blk= .lim v []) (hb:m.h[blk]? =some (.cells cs ty (0,0))) {ts:List Tag} {ds:List D} (hl1:cs.size=ts.length) (hl2:ds.length=ts.length) (hone:∀x∈cs.toList,x.oneCell'=true)
  (hL:∀(o:Nat) (t:Tag) (d:D) (x:Value),ts[o]? =some t→ds[o]? =some d→cs.toList[o]? =some x→(t= .sc∧d.flat=true∧∀(h:Array Obj) (good:Good),O h good d x)∨
   ∃n rs,t= .own n rs∧d.flat=false∧curR g rs=true∧(∀r∈rs,r.1≠s)∧Held k m (v+1+o) n rs d x):
  Step k g m (u.of g s (.box ty ts)) ⟨m.σ.upd s ds,c',m.h,takeCol m.col s v ts.length⟩ (fun x=>x=s∨PAR≤x):=by
 have hsp:s<PAR:=Nat.lt_of_lt_of_le hs hr.small
 have hun:u≠ .same∧u≠ .scal∧(u= .tch∨u= .trn):=by rcases hu with h|⟨h,_⟩<;>rw[h]<;>simp
 have hmem:Mem k ⟨m.σ.upd s ds,c',m.h,takeCol m.col s v ts.length⟩:=by
  refine hr.mem.turn rfl fun b=> ?_
  show takeCol m.col s v ts.length b=m.col b∨((m.col b).own≠none∧(takeCol m.col s v ts.length b= .stable∨((takeCol m.col s v ts.length b).celled∧(m.col b).celled)))
  cases e:m.col b with
  |lim w π=>
   have hcell:(Color.lim w π).celled:= .inr (.inl ⟨w,π,(hr.mem.lm b w π e).1,rfl⟩)
   by_cases h1:w=v
   ·subst h1
    refine .inr ⟨by simp[Color.own],?_⟩
    by_cases h2:π=[]
    ·subst h2;exact .inr ⟨by rw[takeCol_box e];exact .inr (.inr ⟨s,rfl⟩),hcell⟩
    ·left;unfold takeCol;rw[e];simp[h2]
   ·by_cases h2:v+1≤w∧w<v+1+ts.length
    ·have e':m.col b= .lim (v+1+(w-(v+1))) π:=by rw[e];congr 1;omega
     refine .inr ⟨by simp[Color.own], .inr ⟨?_,hcell⟩⟩
     rw[takeCol_arr e' (by omega)]
     exact .inl ⟨s,_,π,hsp,rfl⟩
    ·left;unfold takeCol;rw[e];simp only;rw[if_neg h1,if_neg h2]
  |_=>
   by_cases h1:(m.col b).own=some s
   ·refine .inr ⟨by rw[← e,h1];simp, .inl (takeCol_own h1 (by rw[e];simp))⟩
   ·exact .inl (by rw[← e];exact takeCol_same h1 (by rw[e];simp))
 refine Step.turn1 (m':=⟨m.σ.upd s ds,c',m.h,takeCol m.col s v ts.length⟩) hr hs u (fun x hx=>by simp[St.upd,hx]) hc hmem (fun b _ hown=>⟨rfl,takeCol_same (fun e=>(hown s e).1 rfl) fun w π e=> ?_⟩) ?_ ⟨?_,?_⟩
 ·have:=(hown w (by rw[e];rfl)).2;left;omega
 ·refine ⟨fun h=> ?_,fun h=>absurd h (Turn.hv_self hun.2.2 hs),fun h=>absurd h (u.dv_self hun.1 hun.2.1 hs),fun h=>absurd h (u.ver_self hun.1 hs)⟩
  rcases hu with rfl|⟨rfl,h2⟩
  ·exact absurd h (Turn.idv_self hs)
  ·exact h2
 ·intro t ht
  obtain ⟨o,ho⟩:=zP ht
  have hol:o<ts.length:=(zE.1 ho).1
  rcases hL o t (ds[o]'(by omega)) (cs.toList[o]'(by simp;omega)) ho (zB (by omega)) (zB (by simp;omega)) with ⟨rfl,_⟩|⟨n,rs,rfl,_,h1,_⟩
  ·trivial
  ·intro r hr'
   exact zS (Nat.le_of_eq (curR_iff.1 h1 r hr').symm) ((u.older g s _).ver r.1)
 ·refine .inr ⟨blk,cs,hcs,takeCol_box hcol,hb,by simpa using hl1,by simpa[St.upd] using hl2,hone,fun o t d x h1 h2 h3=> ?_⟩
  simp only[St.upd,if_true] at h2
  have hol:o<ts.length:=(zE.1 h1).1
  rcases hL o t d x h1 h2 h3 with ⟨rfl,e1,e2⟩|⟨n,rs,rfl,e1,e2,e3,e4⟩
  ·exact ⟨e1,e2 _ _⟩
  ·refine ⟨e1,fun _=>O.frame e4 fun π b hb'=>⟨rfl,?_⟩⟩
   unfold gl at hb'
   unfold gd
   by_cases o1:owns n π.length=true
   ·rw[if_pos o1] at hb' ⊢;exact takeCol_arr hb' hol
   ·rw[if_neg o1] at hb' ⊢;exact deepOk_take e3 hb'
def fillCol (col:Nat→Color) (s o:Nat) (ix:List (Nat×Nat)) (u:Nat):Nat→Color:=fun b=>
 match col b with
 | .lim w π=>if w=u then .arr s o (ix++π) else .lim w π
 |c=>c
theorem fillCol_same {col:Nat→Color} {s o u b:Nat} {ix:List (Nat×Nat)} (h:∀π,col b≠ .lim u π):fillCol col s o ix u b=col b:=by
 unfold fillCol
 split
 ·rename_i w π e
  rw[if_neg (fun e2=>h π (by rw[e,e2])),e]
 ·rfl
theorem fillCol_lim {col:Nat→Color} {s o u b:Nat} {ix π:List (Nat×Nat)} (h:col b= .lim u π):fillCol col s o ix u b= .arr s o (ix++π):=by
 unfold fillCol;rw[h];simp
theorem deep_owns {n a:Nat} (h:isDeep n=true):owns n a=true:=by
 unfold isDeep at h;unfold owns;simp at h ⊢;exact .inl h
theorem Step.fill (hr:Rel k g m) {s o:Nat} {ts:List Tag} (ht:entTags (g.ent s)=some ts) {v0 x:Value} {ix:List (Nat×Nat)} {d0 dh:D} (hroot:root g m s o=some (d0,v0)) (hloc:loc m.h m.col s o [] d0 v0 ix=some (dh,x)) (ho:o<ts.length)
  {u:Nat} (hu:PAR≤u) {d:D} (held:Held k m u DEEP [] d x) {d0':D} (hset:d0.setAt ix (fun _=>some d)=some d0') (hfl:d0'.flat=false) (hkin:∀sz rows,d0= .sl sz rows→∃rows',d0'= .sl sz rows')
  {t':Tag} (hix:(ix=[]∧t'= .own DEEP [])∨(ix≠[]∧∃n rs,ts[o]? =some (.own n rs)∧isDeep n=true∧curR g rs=true∧t'= .own n rs)):
  Step k g m (Turn.elm.of g s ((g.ent s).withTags (ts.set o t'))) ⟨m.σ.upd s ((m.σ s).set o d0'),m.c,m.h,fillCol m.col s o ix u⟩ (fun x=>x=s∨PAR≤x):=by
 have hs:s<g.length:=lt_of_ent fun e=>by rw[e] at ht;cases ht
 have hsp:s<PAR:=Nat.lt_of_lt_of_le hs hr.small
 obtain ⟨hσ0,hv0⟩:=root_split hroot
 have hol:o<(m.σ s).length:=(zE.1 hσ0).1
 have hpres:m.σ s≠[]:=fun e=>by rw[e] at hol;simp at hol
 generalize hE:(g.ent s).withTags (ts.set o t')=e'
 have holder:=Turn.older .elm g s e'
 have hmem':=entTags_mem hr ht
 have hcolo:∀b',(∀v',(m.col b').own=some v'→v'≠s∧v'<PAR)→m.h[b']? =m.h[b']? ∧fillCol m.col s o ix u b'=m.col b':=fun b' hown=>
  ⟨rfl,fillCol_same fun π e=>by have:=(hown u (by rw[e];rfl)).2;omega⟩
 have hbx:∀b',m.col b'= .box s→m.h[b']? =m.h[b']? ∧fillCol m.col s o ix u b'= .box s:=fun b' hb'=>⟨rfl,by rw[fillCol_same (by rw[hb'];simp),hb']⟩
 have hroots:∀q,root (Turn.elm.of g s e') ⟨m.σ.upd s ((m.σ s).set o d0'),m.c,m.h,fillCol m.col s o ix u⟩ s q=
   match ((m.σ s).set o d0')[q]?,(conc m.h (g.ent s) (m.c s)).bind (·[q]?) with|some d,some v=>some (d,v)|_,_=>none:=fun q=>by
  unfold root
  rw[Turn.ent_self .elm hs,← hE,conc_withTags ht]
  simp[St.upd]
  rfl
 have hkeep:Keep g (Turn.elm.of g s e') m ⟨m.σ.upd s ((m.σ s).set o d0'),m.c,m.h,fillCol m.col s o ix u⟩ s:=Keep.elmSelf hs rfl fun q d x h hfl'=>by
  rw[hroots]
  obtain ⟨e1,e2⟩:=root_split h
  by_cases hq:q=o
  ·subst hq
   rw[hσ0] at e1
   cases e1
   rw[zO hol,e2]
   exact ⟨d0',rfl,hfl,hkin⟩
  ·rw[zN (Ne.symm hq),e1,e2]
   exact ⟨d,rfl, .refl hfl'⟩
 have hmem:Mem k ⟨m.σ.upd s ((m.σ s).set o d0'),m.c,m.h,fillCol m.col s o ix u⟩:=by
  refine hr.mem.turn rfl fun b'=> ?_
  show fillCol m.col s o ix u b'=m.col b'∨((m.col b').own≠none∧(fillCol m.col s o ix u b'= .stable∨((fillCol m.col s o ix u b').celled∧(m.col b').celled)))
  by_cases hl:∃π,m.col b'= .lim u π
  ·obtain ⟨π,e⟩:=hl
   refine .inr ⟨by rw[e];simp[Color.own], .inr ⟨?_,by rw[e];exact .inr (.inl ⟨u,π,hu,rfl⟩)⟩⟩
   rw[fillCol_lim e]
   exact .inl ⟨s,o,_,hsp,rfl⟩
  ·exact .inl (fillCol_same fun π e=>hl ⟨π,e⟩)
 have hσo:∀x,x≠s→(m.σ.upd s ((m.σ s).set o d0')) x=m.σ x:=fun x hx=>by simp[St.upd,hx]
 obtain ⟨hks,hstays,_⟩:=turn1_keeps (m':=⟨m.σ.upd s ((m.σ s).set o d0'),m.c,m.h,fillCol m.col s o ix u⟩) hr hs .elm hσo (fun _ _=>rfl) (fun b' _=>hcolo b') hkeep
 have hwt:TagWf g t':=by
  rcases hix with ⟨_,rfl⟩|⟨_,n,rs,_,_,h3,rfl⟩
  ·intro r hr';cases hr'
  ·intro r hr';exact Nat.le_of_eq (curR_iff.1 h3 r hr').symm
 refine Step.turn1 hr hs .elm hσo (fun _ _=>rfl) hmem (fun b' _=>hcolo b') hkeep ⟨?_,?_⟩
 ·have:∀t∈ts.set o t',TagWf (Turn.elm.of g s e') t:=by
   intro t h
   rcases List.mem_or_eq_of_mem_set h with h|rfl
   ·exact (hmem' t h).older holder
   ·exact hwt.older holder
  rw[← hE] at this ⊢
  cases he:g.ent s<;>rw[he] at ht this<;>simp[entTags] at ht<;>exact this
 ·rw[← hE]
  refine EntOk.recells' ht (hr.ent s) rfl (fun h=>absurd h hpres) hbx fun vs hconc hcs=> ?_
  rw[hE]
  refine ⟨by simpa using hcs.1,by simpa[St.upd] using hcs.2.1,hcs.2.2.1,fun q t d1 y h1 h2 h3=> ?_⟩
  simp only[St.upd,if_true] at h2
  have newgood:∀(n:Nat) (rs:Rts),isDeep n=true→O m.h ((gd k (fillCol m.col s o ix u) s o n rs).subs ix) d x:=fun n rs hn=>O.frame held fun π b hb=>⟨rfl,by
   show gd k (fillCol m.col s o ix u) s o n rs (ix++π) b
   unfold gl at hb
   unfold gd
   rw[if_pos (deep_owns hn)]
   rw[if_pos (by unfold owns;simp)] at hb
   exact fillCol_lim hb⟩
  by_cases hq:q=o
  ·subst hq
   have e1:=set_same_len h1
   have e2:=set_same_len h2
   subst e1 e2
   have hx0:y=v0:=by
    rw[hconc] at hv0
    simp only[Option.bind_some] at hv0
    rw[h3] at hv0
    exact zU hv0
   subst hx0
   rcases hix with ⟨rfl,rfl⟩|⟨hne,n,rs,hto,hdp,hcur,rfl⟩
   ·rw[loc_nil] at hloc
    simp at hloc
    obtain ⟨_,rfl⟩:=hloc
    have hd0:d1=d:=by
     have:some d=some d1:=by cases d0<;>simpa[D.setAt] using hset
     exact (zU this).symm
    subst hd0
    exact ⟨hfl,fun _=>newgood DEEP [] (by unfold isDeep;simp)⟩
   ·refine ⟨hfl,fun hcR=> ?_⟩
    have hO0:=(root_cell hr hroot ht hto).2 hcur
    refine O.node ix [] hO0 hloc hset (fun π b hp hg=>⟨rfl,?_⟩) fun d1' hd1=> ?_
    ·unfold gd at hg ⊢
     rw[if_pos (deep_owns hdp)] at hg ⊢
     exact (fillCol_same (by rw[hg];simp)).trans hg
    ·cases hd1
     exact newgood n rs hdp
  ·rw[zN (Ne.symm hq)] at h1 h2
   refine CellOk.keep (m:=m) hr.mem holder hks hstays (fun b' π hb'=>⟨rfl,?_⟩) (hmem' t (zF h1)) (hcs.2.2.2 q t d1 y h1 h2 h3)
   exact fillCol_same (by rw[hb'];simp)
end
section
variable {k:K} {g g':G} {m m':M}
theorem boxFits_get:∀{tin:List (Option Nat)} {ts:List Tag} {rs:List Rts},boxFits g tin ts=some rs→tin.length=ts.length∧rs.length=ts.length∧
  ∀(o:Nat) (t:Tag) (w:Option Nat) (q:Rts),ts[o]? =some t→tin[o]? =some w→rs[o]? =some q→(t= .sc∧w=none)∨∃n mm,t= .own mm q∧w=some n∧n≤mm∧curR g q=true
 | [],[],rs,h=>by simp[boxFits] at h;subst h;simp
 | [],_::_,_,h=>by simp[boxFits] at h
 |none::_,[],_,h=>by simp[boxFits] at h
 |some _::_,[],_,h=>by simp[boxFits] at h
 |none::tin,t::ts,rs,h=>by
  cases t with
  |sc=>
   simp only[boxFits,zC] at h
   obtain ⟨rs',h,rfl⟩:=h
   obtain ⟨h1,h2,h3⟩:=boxFits_get h
   refine ⟨by simp[h1],by simp[h2],fun o t w q a1 a2 a3=> ?_⟩
   cases o with
   |zero=>simp at a1 a2 a3;subst a1 a2 a3;exact .inl ⟨rfl,rfl⟩
   |succ o=>exact h3 o t w q (by simpa using a1) (by simpa using a2) (by simpa using a3)
  |_=>simp[boxFits] at h
 |some n::tin,t::ts,rs,h=>by
  cases t with
  |own mm q0=>
   simp only[boxFits,guardO_some,zD,decide_eq_true_eq,zC] at h
   obtain ⟨⟨e1,e2⟩,rs',h,rfl⟩:=h
   obtain ⟨h1,h2,h3⟩:=boxFits_get h
   refine ⟨by simp[h1],by simp[h2],fun o t w q a1 a2 a3=> ?_⟩
   cases o with
   |zero=>simp at a1 a2 a3;subst a1 a2 a3;exact .inr ⟨n,mm,rfl,rfl,e1,e2⟩
   |succ o=>exact h3 o t w q (by simpa using a1) (by simpa using a2) (by simpa using a3)
  |_=>simp[boxFits] at h
theorem boxFits_sc:∀{tin:List (Option Nat)} {ts:List Tag} {rs:List Rts},boxFits g tin ts=some rs→∀{o:Nat} {r:Rts},ts[o]? =some .sc→rs[o]? =some r→r=[]
 | [],[],rs,h,o,r,h1,h2=>by simp at h1
 | [],_::_,_,h,_,_,_,_=>by simp[boxFits] at h
 |none::_,[],_,h,_,_,_,_=>by simp[boxFits] at h
 |some _::_,[],_,h,_,_,_,_=>by simp[boxFits] at h
 |none::tin,t::ts,rs,h,o,r,h1,h2=>by
  cases t with
  |sc=>
   simp only[boxFits,zC] at h
   obtain ⟨rs',h,rfl⟩:=h
   cases o with
   |zero=>simpa using h2
   |succ o=>exact boxFits_sc h (o:=o) (by simpa using h1) (by simpa using h2)
  |_=>simp[boxFits] at h
 |some n::tin,t::ts,rs,h,o,r,h1,h2=>by
  cases t with
  |own mm q0=>
   simp only[boxFits,guardO_some,zD,decide_eq_true_eq,zC] at h
   obtain ⟨_,rs',h,rfl⟩:=h
   cases o with
   |zero=>simp at h1
   |succ o=>exact boxFits_sc h (o:=o) (by simpa using h1) (by simpa using h2)
  |_=>simp[boxFits] at h
def GivenCell (k:K) (m:M) (u:Nat) (d:D) (x:Value):Tag→Prop
 | .sc=>d.flat=true∧∀(h:Array Obj) (good:Good),O h good d x
 | .own n rs=>d.flat=false∧Held k m u n rs d x
 |_=>False
structure Given (k:K) (m:M) (p s ty:Nat) (ts:List Tag) (blk:Nat) (cs:Array Value):Prop where
 ptr:m.c s= .pointer (some ⟨blk,0,none⟩)
 col:m.col blk= .lim (PAR+100000+p*1000) []
 blk:m.h[blk]? =some (.cells cs ty (0,0))
 len:cs.size=ts.length
 len2:(m.σ s).length=ts.length
 one:∀x∈cs.toList,x.oneCell'=true
 cell:∀(o:Nat) (t:Tag) (d:D) (x:Value),ts[o]? =some t→(m.σ s)[o]? =some d→cs.toList[o]? =some x→GivenCell k m (PAR+100000+p*1000+1+o) d x t
theorem Given.turn {T:Nat→Prop} {p s ty blk:Nat} {ts:List Tag} {cs:Array Value} (h:Given k m p s ty ts blk cs) (hr:Rel k g m) (S:Step k g m g' m' T) (hs:¬ T s) (hh:m'.h=m.h) (hu:∀b u π,m.col b= .lim u π→m'.col b= .lim u π)
  (hrs:∀n rs, .own n rs∈ts→∀r∈rs,g'.ver r.1=g.ver r.1):Given k m' p s ty ts blk cs:=by
 have hp:=(S.rest s hs).2
 refine ⟨by rw[hp.c,h.ptr],hu _ _ _ h.col,by rw[hh];exact h.blk,h.len,by rw[hp.σ];exact h.len2,h.one,fun o t d x a1 a2 a3=> ?_⟩
 rw[hp.σ] at a2
 have:=h.cell o t d x a1 a2 a3
 cases t with
 |sc=>exact this
 |own n rs=>exact ⟨this.1,this.2.turn hr S hh (fun b π hb=>hu b _ π hb) (hrs n rs (zF a1))⟩
 |_=>exact this
theorem flat_any {d:D} {x:Value} {h:Array Obj} {good:Good} (hf:d.flat=true) (ho:O h good d x):∀(h:Array Obj) (good:Good),O h good d x:=fun _ _=>ho.flat hf
theorem given_of (hr:Rel k g m) {s ty p:Nat} {ts:List Tag} (he:g.ent s= .box ty ts) (hp:m.σ s≠[]) (hts:∀t∈ts,t= .sc∨∃n rs,t= .own n rs∧curR g rs=true∧∀r∈rs,r.1≠s):
  ∃blk cs,Given k {m with col:=giveCol m.col s (PAR+100000+p*1000)} p s ty ts blk cs:=by
 have hE:=hr.ent s
 rw[he] at hE
 rcases hE with hE|⟨blk,cs,h1,h2,h3,h4⟩
 ·exact absurd hE hp
 refine ⟨blk,cs,h1,giveCol_box h2,h3,by have:=h4.1;simpa using this,h4.2.1,h4.2.2.1,fun o t d x a1 a2 a3=> ?_⟩
 have hc:=h4.2.2.2 o t d x a1 a2 a3
 rcases hts t (zF a1) with rfl|⟨n,rs,rfl,e1,e2⟩
 ·exact ⟨hc.1,flat_any hc.1 hc.2⟩
 ·exact ⟨hc.1,give_cell hr hc e1 e2⟩
theorem mem_paBoxes {s ty:Nat} {tout:List RC}:∀{pas:List PA},PA.bx s ty tout∈pas→s∈paBoxes pas
 | [],h=>by simp at h
 | .bx s' ty' tout'::l,h=>by
  rcases List.mem_cons.1 h with e|h
  ·cases e;simp[paBoxes]
  ·simp[paBoxes,mem_paBoxes h]
 | .v fl mus::l,h=>by
  rcases List.mem_cons.1 h with e|h
  ·cases e
  ·simpa[paBoxes] using mem_paBoxes h
theorem gives_ok {B:List Nat}:∀(pas:List PA) (p:Nat) (g:G) (m:M),Rel k g m→nodupB (paBoxes pas)=true→(∀s∈paBoxes pas,s∈B)→
  (∀s ty tout, .bx s ty tout∈pas→∃ts,g.ent s= .box ty ts∧m.σ s≠[]∧∀t∈ts,t= .sc∨∃n rs,t= .own n rs∧curR g rs=true∧∀r∈rs,r.1 ∉ B)→
  ∃col',Step k g m (giveBoxes (paBoxes pas) g) {m with col:=col'} (fun x=>x∈paBoxes pas)∧(∀b u π,m.col b= .lim u π→col' b= .lim u π)∧
   ∀q s ty tout ts,pas[q]? =some (.bx s ty tout)→g.ent s= .box ty ts→∃blk cs,Given k {m with col:=col'} (p+q) s ty ts blk cs
 | [],p,g,m,hr,_,_,_=>⟨m.col,(Step.refl hr).mono hr fun x h=>h.elim,fun _ _ _ h=>h,fun q s ty tout ts h=>by simp at h⟩
 | .v fl mus::pas,p,g,m,hr,hn,hB,hbx=>by
  obtain ⟨col',h1,h2,h3⟩:=gives_ok pas (p+1) g m hr hn hB fun s ty tout h=>hbx s ty tout (List.mem_cons_of_mem _ h)
  refine ⟨col',h1,h2,fun q s ty tout ts a1 a2=> ?_⟩
  cases q with
  |zero=>simp at a1
  |succ q=>
   obtain ⟨blk,cs,h⟩:=h3 q s ty tout ts (by simpa using a1) a2
   refine ⟨blk,cs,?_⟩
   have e:p+1+q=p+(q+1):=by omega
   rwa [e] at h
 | .bx s ty tout::pas,p,g,m,hr,hn,hB,hbx=>by
  simp only[paBoxes,nodupB,zD,Bool.not_eq_true',List.contains_eq_mem,decide_eq_false_iff_not] at hn
  obtain ⟨hns,hn⟩:=hn
  have hsB:=hB s (by simp[paBoxes])
  obtain ⟨ts,he,hp,hts⟩:=hbx s ty tout (by simp)
  have S1:=Step.giveBox hr he (v:=PAR+100000+p*1000) (by omega)
  have hr1:=S1.rel hr
  obtain ⟨blk,cs,hgiven⟩:=given_of (p:=p) hr he hp (fun t ht=>(hts t ht).imp id fun ⟨n,rs,e1,e2,e3⟩=>⟨n,rs,e1,e2,fun r hr' e=>e3 r hr' (e ▸ hsB)⟩)
  have hver:∀r:Nat×Nat×Nat,r.1 ∉ B→(g.trn s .none).ver r.1=g.ver r.1:=fun r hr'=>Turn.ver_ne .trn (e:= .none) (fun e=>hr' (e ▸ hsB))
  obtain ⟨col',h1,h2,h3⟩:=gives_ok pas (p+1) (g.trn s .none) {m with col:=giveCol m.col s (PAR+100000+p*1000)} hr1 hn (fun s' h=>hB s' (by simp[paBoxes,h])) fun s' ty' tout' h=>by
   have hm:s'∈paBoxes pas:=mem_paBoxes h
   have hne:s'≠s:=fun e=>hns (e ▸ hm)
   obtain ⟨ts',a1,a2,a3⟩:=hbx s' ty' tout' (by simp[h])
   exact ⟨ts',(Turn.ent_ne .trn (e:= .none) hne).trans a1,a2,fun t ht=>(a3 t ht).imp id fun ⟨n,rs,e1,e2,e3⟩=>⟨n,rs,e1,by rw[curR_iff] at e2 ⊢;intro r hr';rw[hver r (e3 r hr')];exact e2 r hr',e3⟩⟩
  refine ⟨col',(S1.trans hr h1).mono hr fun x hx=> ?_,fun b u π hb=>h2 b u π (giveCol_lim hb),fun q s' ty' tout' ts' a1 a2=> ?_⟩
  ·rcases hx with rfl|hx
   ·simp[paBoxes]
   ·simp[paBoxes,hx]
  ·cases q with
   |zero=>
    simp at a1
    obtain ⟨rfl,rfl,rfl⟩:=a1
    rw[he] at a2
    cases a2
    refine ⟨blk,cs,hgiven.turn hr1 h1 hns rfl (fun b u π hb=>h2 b u π hb) fun n rs hm r hr'=> ?_⟩
    rcases hts _ hm with e|⟨n',rs',e1,_,e3⟩
    ·cases e
    ·cases e1
     have hnb:r.1 ∉ paBoxes pas:=fun hh=>e3 r hr' (hB _ (by simp[paBoxes,hh]))
     have:=(h1.rest r.1 hnb).1
     unfold G.ver
     rw[this]
   |succ q=>
    have hm:s'∈paBoxes pas:=mem_paBoxes (zF (i:=q) (by simpa using a1))
    have hne:s'≠s:=fun e=>hns (e ▸ hm)
    obtain ⟨blk',cs',h⟩:=h3 q s' ty' tout' ts' (by simpa using a1) ((Turn.ent_ne .trn (e:= .none) hne).trans a2)
    refine ⟨blk',cs',?_⟩
    have e:p+1+q=p+(q+1):=by omega
    rwa [e] at h
structure CellArg (k:K) (g:G) (m:M) (pc:PC) (e:Mv×Option Mu) (x:Value):Prop where
 mv:∀d,e.1.src.ev m.σ=some d→MvOk k g m e.1 d x
 non:pc.n=none→e.1.n=DEEP∧e.1.frm=none
 som:∀n,pc.n=some n→n≤e.1.n
 mu0:pc.out=none→e.2=none
 mu1:∀rc,pc.out=Option.some rc→∃s o w,e.2=Option.some ⟨s,o,w⟩∧e.1.frm=Option.some (s,o,wayW w)∧o≠BOX∧isDeep e.1.n=true∧isDeepRC (Option.some rc)=true∧(∃n,pc.n=Option.some n∧isDeep n=true)∧
  ∀d,e.1.src.ev m.σ=Option.some d→∃ix v0,wayOf m.σ (wayW w)=Option.some ix∧LocAt g m s o ix v0 x
theorem argCel_ok (hr:Rel k g m) {pc:PC} {c:Cel} {e:Mv×Option Mu} {x:Value} (h:argCel g pc c=some e) (hc:CelOk k g m c x):CellArg k g m pc e x:=by
 unfold argCel at h
 split at h
 ·rename_i e1 e2
  rw[guardO_some] at h
  obtain ⟨h1,h⟩:=h
  cases h
  refine ⟨fun d hd=>⟨rfl, .inr fun h' good=>(sc_ok hc h1 hd).2 h' good⟩,fun _=>⟨rfl,rfl⟩,fun n hn=>(by rw[e1] at hn;cases hn),fun _=>rfl,fun rc hrc=>(by rw[e2] at hrc;cases hrc)⟩
 ·rename_i e1 e2
  rw[zC] at h
  obtain ⟨q,h,rfl⟩:=h
  obtain ⟨a1,a2⟩:=rd_ok hr hc (src:=q.1) (rs:=q.2) h
  refine ⟨fun d hd=>⟨a1, .inl ⟨rfl,a2 d hd⟩⟩,fun hn=>(by rw[e1] at hn;cases hn),fun n hn=>(by rw[e1] at hn;cases hn;exact Nat.le_refl _),fun _=>rfl,fun rc hrc=>(by rw[e2] at hrc;cases hrc)⟩
 ·rename_i n e1 e2
  simp only[zA,guardO_some,decide_eq_true_eq] at h
  obtain ⟨mv,h1,h2,h⟩:=h
  cases h
  refine ⟨fun d hd=>mv_ok hr hc h1 hd,fun hn=>(by rw[e1] at hn;cases hn),fun n' hn=>(by rw[e1] at hn;cases hn;exact h2),fun _=>rfl,fun rc hrc=>(by rw[e2] at hrc;cases hrc)⟩
 ·rename_i n rc e1 e2
  simp only[guardO_some,zD,zA] at h
  obtain ⟨⟨hd1,hd2⟩,mv,h1,w,hw,h⟩:=h
  split at h
  ·rename_i s o w' hfrm
   simp only[guardO_some,zD,decide_eq_true_eq,bne_iff_ne,ne_eq,beq_iff_eq] at h
   obtain ⟨⟨⟨⟨hn,hdm⟩,hbox⟩,hww⟩,h⟩:=h
   cases h
   refine ⟨fun d hd=>mv_ok hr hc h1 hd,fun hn=>(by rw[e1] at hn;cases hn),fun n' hn'=>(by rw[e1] at hn';cases hn';exact hn),fun hn=>(by rw[e2] at hn;cases hn),fun rc' hrc=> ?_⟩
   rw[e2] at hrc
   cases hrc
   refine ⟨s,o,w,rfl,by rw[hfrm,hww],hbox,hdm,hd2,⟨n,e1,hd1⟩,fun d hd=> ?_⟩
   unfold muW at hw
   split at hw
   ·rename_i n' rs ht
    cases hw
    cases hc with
    | @c s' o' ts d' x' tag ht' hto hd' hx _ hc'=>
     simp only at ht
     subst ht
     unfold Cel.mv at h1
     simp only[guardO_some] at h1
     obtain ⟨_,_,h1⟩:=h1
     cases h1
     simp only at hfrm
     split at hfrm
     ·cases hfrm
     ·cases hfrm
      exact ⟨[],x,rfl,d',d',by unfold root;rw[hd',hx],loc_nil _ _ _⟩
    |cst ht' ho'=>
     unfold Cel.mv at h1
     simp only at ht
     rw[ht] at h1
     simp only[guardO_some] at h1
     obtain ⟨_,h1⟩:=h1
     cases h1
     cases hfrm
    |bx he ht'=>
     unfold Cel.mv at h1
     simp only[guardO_some] at h1
     obtain ⟨_,_,h1⟩:=h1
     cases h1
     cases hfrm
     exact absurd rfl hbox
   ·rename_i s' o' v w2 ht
    cases hw
    cases hc with
    | @c s0 o0 ts d' x' tag ht' hto hd' hx _ hc'=>
     simp only at ht
     subst ht
     unfold Cel.mv at h1
     simp only[guardO_some,zC] at h1
     obtain ⟨hl,q,hq,h1⟩:=h1
     obtain ⟨d0,v0,ix,d1,f1,f2,f3,_⟩:=hc' hl
     have hso:s'=s∧o'=o:=by
      subst h1
      split at hfrm
      ·split at hfrm
       ·cases hfrm
       ·cases hfrm;exact ⟨rfl,rfl⟩
      ·split at hfrm
       ·cases hfrm;exact ⟨rfl,rfl⟩
       ·cases hfrm
     obtain ⟨rfl,rfl⟩:=hso
     exact ⟨ix,v0,f2,d0,d1,f1,f3⟩
    |cst h0=>rcases h0 with ⟨e,_⟩|e<;>(simp only at ht;rw[e] at ht;cases ht)
    |bx=>simp at ht
   ·cases hw
  ·cases h
 ·cases h
end
section
variable {k:K} {g g':G} {m m':M}
theorem backD_eq {w:List (Nat×Nat)} {d old x:D} (h:backD w d old=some x):x=d:=by
 unfold backD at h
 split at h
 ·split at h
  ·exact (zU h).symm
  ·cases h
 ·exact (zU h).symm
 ·cases h
theorem setAt_const {f:D→Option D} {d:D} (hf:∀old x,f old=some x→x=d):∀(ix:List (Nat×Nat)) {d0 d0':D},d0.setAt ix f=some d0'→d0.setAt ix (fun _=>some d)=some d0'
 | [],d0,d0',h=>by
  have e:d0.setAt [] f=f d0:=by cases d0<;>rfl
  rw[e] at h
  have:=hf _ _ h
  subst this
  cases d0<;>rfl
 |(i,o)::ix,d0,d0',h=>by
  cases d0 with
  |sl sz rows=>
   simp only[D.setAt] at h ⊢
   split at h
   ·rename_i row hr
    split at h
    ·rename_i y hy
     split at h
     ·rename_i y' hy'
      cases h
      simp only[hr,hy,setAt_const hf ix hy']
     ·cases h
    ·cases h
   ·cases h
  |_=>simp[D.setAt] at h
theorem setAt_nil {f:D→Option D} {d0:D}:d0.setAt [] f=f d0:=by cases d0<;>rfl
theorem setAt_cons {f:D→Option D} {p:Nat×Nat} {ix:List (Nat×Nat)} {d0 d0':D} (h:d0.setAt (p::ix) f=some d0'):∃sz rows rows',d0= .sl sz rows∧d0'= .sl sz rows':=by
 cases d0 with
 |sl sz rows=>
  simp only[D.setAt] at h
  split at h
  ·split at h
   ·split at h
    ·cases h;exact ⟨_,_,_,rfl,rfl⟩
    ·cases h
   ·cases h
  ·cases h
 |_=>simp[D.setAt] at h
theorem root_tags (hr:Rel k g m) {s o:Nat} {d:D} {v:Value} (h:root g m s o=some (d,v)):∃ts,entTags (g.ent s)=some ts∧o<ts.length:=by
 obtain ⟨h1,h2⟩:=root_split h
 have hl:o<(m.σ s).length:=(zE.1 h1).1
 have hE:=hr.ent s
 cases e:g.ent s with
 |val sh ts=>
  rw[e] at hE
  rcases hE with hE|⟨vs,_,hcs⟩
  ·rw[hE] at hl;simp at hl
  ·exact ⟨ts,rfl,by rw[← hcs.2.1];exact hl⟩
 |box ty ts=>
  rw[e] at hE
  rcases hE with hE|⟨b,cs,_,_,_,hcs⟩
  ·rw[hE] at hl;simp at hl
  ·exact ⟨ts,rfl,by rw[← hcs.2.1];exact hl⟩
 |_=>rw[e] at h2;simp[conc] at h2
theorem fill_loc (hr:Rel k g m) {s o:Nat} {ts ts':List Tag} (ht:entTags (g.ent s)=some ts) {d0 d0':D} (hd0:(m.σ s)[o]? =some d0) {ix:List (Nat×Nat)} {f:D→Option D} (hset:d0.setAt ix f=some d0') {u:Nat} {o2:Nat} {ix2:List (Nat×Nat)} {v0 x:Value}
  (hap:o2≠o∨¬ ix<+:ix2) (h:LocAt g m s o2 ix2 v0 x):LocAt (Turn.elm.of g s ((g.ent s).withTags ts')) ⟨m.σ.upd s ((m.σ s).set o d0'),m.c,m.h,fillCol m.col s o ix u⟩ s o2 ix2 v0 x:=by
 have hs:s<g.length:=lt_of_ent fun e=>by rw[e] at ht;cases ht
 obtain ⟨da,db,h1,h2⟩:=h
 have hok:∀ρ b,okB m.col s o2 ρ b=true→okB (fillCol m.col s o ix u) s o2 ρ b=true:=fun ρ b hb=>by
  unfold okB at hb ⊢
  simp only[Bool.or_eq_true,decide_eq_true_eq] at hb ⊢
  rcases hb with e|e
  ·left;rw[fillCol_same (by rw[e];simp)];exact e
  ·right;rw[fillCol_same (by rw[e];simp)];exact e
 have hol:o<(m.σ s).length:=(zE.1 hd0).1
 have hroot:root (Turn.elm.of g s ((g.ent s).withTags ts')) ⟨m.σ.upd s ((m.σ s).set o d0'),m.c,m.h,fillCol m.col s o ix u⟩ s o2=
   match ((m.σ s).set o d0')[o2]?,(conc m.h (g.ent s) (m.c s)).bind (·[o2]?) with|some d,some v=>some (d,v)|_,_=>none:=by
  unfold root
  rw[Turn.ent_self .elm hs,conc_withTags ht]
  simp[St.upd]
  rfl
 obtain ⟨e1,e2⟩:=root_split h1
 by_cases ho:o2=o
 ·subst ho
  rw[hd0] at e1
  cases e1
  obtain ⟨d1',a1⟩:=loc_hole (col':=fillCol m.col s o2 ix u) ix [] ix2 h2 hset (hap.elim (fun e=>absurd rfl e) .inl) fun ρ b _ hb=>hok ρ b hb
  exact ⟨d0',d1',by rw[hroot,zO hol,e2],a1⟩
 ·exact ⟨da,db,by rw[hroot,zN (Ne.symm ho),e1,e2],loc_frame3 _ _ h2 fun ρ b _ hb=>hok ρ b hb⟩
theorem isDeep_DEEP:isDeep DEEP=true:=by unfold isDeep;simp
theorem wayW_nil {w:List (Nat×Nat×Nat)} (h:wayW w=[]):w=[]:=by
 cases w with
 |nil=>rfl
 |cons a l=>simp[wayW] at h
theorem takeMu_step (hr:Rel k g m) {mu:Mu} (h:takeMu g mu=some g') {x0 x' d:D} {way:List (Nat×Nat)} (h0:(m.σ mu.s)[mu.o]? =some x0) (hw:wayOf m.σ (wayW mu.w)=some way)
  (hs:x0.setAt way (backD (wayW mu.w) d)=some x') {u:Nat} (hu:PAR≤u) {x v0:Value} (held:Held k m u DEEP [] d x) (hl:LocAt g m mu.s mu.o way v0 x):
  Step k g m g' ⟨m.σ.upd mu.s ((m.σ mu.s).set mu.o x'),m.c,m.h,fillCol m.col mu.s mu.o way u⟩ (fun x=>x=mu.s∨PAR≤x)∧
   ∀o2 ix2 v1 y,(o2≠mu.o∨¬ way<+:ix2)→LocAt g m mu.s o2 ix2 v1 y→LocAt g' ⟨m.σ.upd mu.s ((m.σ mu.s).set mu.o x'),m.c,m.h,fillCol m.col mu.s mu.o way u⟩ mu.s o2 ix2 v1 y:=by
 obtain ⟨d0,d1,hroot,hloc⟩:=hl
 obtain ⟨ts,ht,ho⟩:=root_tags hr hroot
 have hx0:x0=d0:=by rw[(root_split hroot).1] at h0;exact (zU h0).symm
 subst hx0
 have hset:=setAt_const (d:=d) (fun old x hx=>backD_eq hx) way hs
 cases hwe:mu.w with
 |nil=>
  have hway:way=[]:=by rw[hwe] at hw;simpa[wayW,wayOf] using hw.symm
  subst hway
  rw[hwe] at hs
  rw[setAt_nil] at hs
  have hd:x'=d:=backD_eq hs
  subst hd
  have hsl:∃a ra rb,x0= .sl a ra∧x'= .sl a rb:=by
   unfold backD at hs
   split at hs
   ·split at hs
    ·rename_i e;subst e;exact ⟨_,_,_,rfl,rfl⟩
    ·cases hs
   ·rename_i e;cases e
   ·cases hs
  obtain ⟨a,ra,rb,rfl,rfl⟩:=hsl
  unfold takeMu at h
  rw[hwe] at h
  simp only[guardO_some] at h
  obtain ⟨_,h⟩:=h
  cases h
  rw[reTag_eq ht]
  refine ⟨Step.fill hr ht hroot hloc ho hu held hset rfl (fun sz rows e=>by cases e;exact ⟨rb,rfl⟩) (.inl ⟨rfl,rfl⟩),fun o2 ix2 v1 y hap hl2=>fill_loc hr ht h0 hset hap hl2⟩
 |cons p w=>
  have hne:way≠[]:=fun e=>by
   subst e
   have:=wayOf_len hw
   rw[hwe] at this
   simp[wayW] at this
  unfold takeMu at h
  rw[hwe] at h
  simp only[zA,guardO_some] at h
  obtain ⟨z,hz,hzd,h⟩:=h
  cases h
  obtain ⟨_,ts',ht',hto,hcur⟩:=ownAt_ok (n:=z.1) (rs:=z.2) hz
  rw[ht] at ht'
  cases ht'
  have htt:ts.set mu.o (.own z.1 z.2)=ts:=by
   obtain ⟨h1,h2⟩:=zE.1 hto
   rw[← h2]
   exact List.set_getElem_self h1
  obtain ⟨q,way',rfl⟩:∃q way',way=q::way':=by cases way with|nil=>exact absurd rfl hne|cons q l=>exact ⟨q,l,rfl⟩
  obtain ⟨sz,rows,rows',rfl,rfl⟩:=setAt_cons hset
  have S:=Step.fill hr ht hroot hloc ho hu held hset rfl (fun sz rows e=>by cases e;exact ⟨rows',rfl⟩) (t':= .own z.1 z.2) (.inr ⟨by simp,z.1,z.2,hto,hzd,hcur,rfl⟩)
  have L:=fun o2 ix2 v1 y hap hl2=>fill_loc (u:=u) (ts':=ts.set mu.o (.own z.1 z.2)) (o2:=o2) (ix2:=ix2) (v0:=v1) (x:=y) hr ht h0 hset hap hl2
  rw[htt,withTags_self ht] at S L
  exact ⟨S,L⟩
end
def Mu.frm (mu:Mu):Nat×Nat×List (Nat×Nat):=(mu.s,mu.o,wayW mu.w)
def limP (p q:Nat):Nat:=PAR+100001+p*1000+q
section
variable {k:K} {g g':G} {m m':M}
structure MuOk (k:K) (g:G) (m:M) (u:Nat) (mu:Mu) (d:D):Prop where
 out:∃x v0 ix,Held k m u DEEP [] d x∧wayOf m.σ (wayW mu.w)=some ix∧LocAt g m mu.s mu.o ix v0 x
def MusOk (k:K) (g:G) (m:M) (p:Nat):Nat→List Mu→List D→Prop
 |_,[],[]=>True
 |q,mu::mus,d::ds=>∃q',q≤q'∧q'<900∧MuOk k g m (limP p q') mu d∧MusOk k g m p (q'+1) mus ds
 |_,_,_=>False
structure Kept (k:K) (g:G) (m:M) (g':G) (m':M) (U:Nat→Prop) (W:Nat×Nat×List (Nat×Nat)→Prop):Prop where
 lim:∀b u π,U u→m.col b= .lim u π→m'.col b= .lim u π
 held:∀u d x,U u→Held k m u DEEP [] d x→Held k m' u DEEP [] d x
 loc:∀s o w ix v0 x,W (s,o,w)→wayOf m.σ w=some ix→LocAt g m s o ix v0 x→wayOf m'.σ w=some ix∧LocAt g' m' s o ix v0 x
theorem MusOk.turn {U:Nat→Prop} {W:Nat×Nat×List (Nat×Nat)→Prop} (K:Kept k g m g' m' U W) {p:Nat}:∀{q:Nat} {mus:List Mu} {ds:List D},MusOk k g m p q mus ds→(∀q',q≤q'→q'<900→U (limP p q'))→(∀mu∈mus,W mu.frm)→MusOk k g' m' p q mus ds
 |_,[],[],_,_,_=>trivial
 |_,[],_::_,h,_,_=>h.elim
 |_,_::_,[],h,_,_=>h.elim
 |q,mu::mus,d::ds,⟨q',h1,h2,h3,h4⟩,hU,hW=>by
  obtain ⟨x,v0,ix,a1,a2,a3⟩:=h3.out
  obtain ⟨b1,b2⟩:=K.loc _ _ _ _ _ _ (hW mu (by simp)) a2 a3
  exact ⟨q',h1,h2,⟨x,v0,ix,K.held _ _ _ (hU q' h1 h2) a1,b1,b2⟩,h4.turn K (fun q2 e1 e2=>hU q2 (by omega) e2) fun mu' hm=>hW mu' (by simp[hm])⟩
theorem backMu_cons {σ σ':St} {s o:Nat} {w:List (Nat×Nat)} {l:List (Nat×Nat×List (Nat×Nat))} {d:D} {ds:List D} (h:backMu σ ((s,o,w)::l) (d::ds)=some σ'):
  ∃x way x',(σ s)[o]? =some x∧wayOf σ w=some way∧x.setAt way (backD w d)=some x'∧backMu (σ.upd s ((σ s).set o x')) l ds=some σ':=by
 rw[backMu] at h
 split at h
 ·rename_i x way e1 e2
  split at h
  ·rename_i x' e3
   exact ⟨x,way,x',e1,e2,e3,h⟩
  ·cases h
 ·cases h
theorem takeMus_ok {p:Nat} {B:Nat→Prop}:∀(mus:List Mu) (q:Nat) (g g':G) (m:M) (ds:List D) (σ':St),Rel k g m→takeMus mus g=some g'→backMu m.σ (mus.map Mu.frm) ds=some σ'→MusOk k g m p q mus ds→
  (∀mu∈mus,B mu.s∧∀y∈wayW mu.w,¬ B y.1)→(∀x,B x→x<PAR)→(mus.map Mu.frm).Pairwise (fun a b=>frmApart a b=true)→
  ∃col',Step k g m g' ⟨σ',m.c,m.h,col'⟩ (fun x=>x∈mus.map (·.s)∨PAR≤x)∧
   Kept k g m g' ⟨σ',m.c,m.h,col'⟩ (fun u=>∀q',q≤q'→q'<900→u≠limP p q') (fun f=>(∀y∈f.2.2,¬ B y.1)∧∀mu∈mus,frmApart mu.frm f=true)
 | [],q,g,g',m,ds,σ',hr,h,he,hm,_,_,_=>by
  cases h
  cases ds with
  |cons d ds=>exact hm.elim
  |nil=>
   cases he
   exact ⟨m.col,(Step.refl hr).mono hr fun x h=>h.elim,⟨fun _ _ _ _ h=>h,fun _ _ _ _ h=>h,fun _ _ _ _ _ _ _ h1 h2=>⟨h1,h2⟩⟩⟩
 |mu::mus,q,g,g',m,ds,σ',hr,h,he,hm,hB,hlow,hap=>by
  cases ds with
  |nil=>exact hm.elim
  |cons d ds=>
  obtain ⟨q',hq1,hq2,hmu,hm⟩:=hm
  obtain ⟨x,v0,ix,held,hway,hloc⟩:=hmu.out
  simp only[List.map_cons,Mu.frm] at he
  obtain ⟨x0,way,x',e1,e2,e3,he⟩:=backMu_cons he
  rw[hway] at e2
  cases e2
  rw[takeMus,zA] at h
  obtain ⟨g1,h1,h⟩:=h
  have hu:PAR≤limP p q':=by unfold limP;omega
  obtain ⟨S1,L1⟩:=takeMu_step hr h1 e1 hway e3 hu held hloc
  have hr1:=S1.rel hr
  have hap':(∀a∈mus,frmApart mu.frm a.frm=true)∧(mus.map Mu.frm).Pairwise (fun a b=>frmApart a b=true):=by simpa using hap
  have hBs:=hB mu (by simp)
  have hsP:=hlow _ hBs.1
  generalize hm1:(⟨m.σ.upd mu.s ((m.σ mu.s).set mu.o x'),m.c,m.h,fillCol m.col mu.s mu.o ix (limP p q')⟩:M)=m1 at S1 L1 hr1
  have hlim:∀b u π,u≠limP p q'→m.col b= .lim u π→m1.col b= .lim u π:=fun b u π hu' hb=>by
   rw[← hm1]
   show fillCol m.col mu.s mu.o ix (limP p q') b=_
   rw[fillCol_same (fun π' e=>by rw[hb] at e;cases e;exact hu' rfl),hb]
  have K1:Kept k g m g1 m1 (fun u=>u≠limP p q') (fun f=>(∀y∈f.2.2,¬ B y.1)∧frmApart mu.frm f=true):=by
   refine ⟨hlim,fun u d x hu' hh=>hh.turn hr S1 (by rw[← hm1]) (fun b π hb=>hlim b u π hu' hb) (by simp),fun s o w ix2 v1 y hW hw hl=> ?_⟩
   have hw':wayOf m1.σ w=some ix2:=by
    rw[← hw]
    refine wayOf_keep fun z hz=> ?_
    rw[← hm1]
    simp only[St.upd]
    rw[if_neg fun e=>hW.1 z hz (by rw[e];exact hBs.1)]
   refine ⟨hw',?_⟩
   by_cases hss:s=mu.s
   ·subst hss
    refine L1 o ix2 v1 y ?_ hl
    rcases frmApart_spec hW.2 with e|⟨e,_,_⟩|⟨_,e⟩
    ·exact absurd rfl e
    ·exact .inl (Ne.symm e)
    ·exact .inr (by simpa using wayApart_spec e hway hw [])
   ·refine hl.keep hr S1 ?_
    rintro (e|e)
    ·exact hss e
    ·obtain ⟨d0,d1,f1,f2⟩:=hl
     obtain ⟨ts,f3,_⟩:=root_tags hr f1
     have:=lt_of_ent (g:=g) (s:=s) fun e=>by rw[e] at f3;cases f3
     have:=hr.small
     omega
  have hm1m:MusOk k g1 m1 p (q'+1) mus ds:=hm.turn K1 (fun q2 a1 a2=>by unfold limP;omega) fun mu2 h2=>⟨(hB mu2 (by simp[h2])).2,hap'.1 mu2 h2⟩
  have he1:backMu m1.σ (mus.map Mu.frm) ds=some σ':=by rw[← hm1];exact he
  obtain ⟨col',S2,K2⟩:=takeMus_ok mus (q'+1) g1 g' m1 ds σ' hr1 h he1 hm1m (fun mu2 h2=>hB mu2 (by simp[h2])) hlow hap'.2
  have e1':m1.c=m.c:=by rw[← hm1]
  have e2':m1.h=m.h:=by rw[← hm1]
  rw[e1',e2'] at S2 K2
  refine ⟨col',(S1.trans hr S2).mono hr fun y hy=> ?_,⟨fun b u π hU hb=>K2.lim b u π (fun q2 a1 a2=>hU q2 (by omega) a2) (K1.lim b u π (hU q' hq1 hq2) hb),
   fun u d x hU hh=>K2.held u d x (fun q2 a1 a2=>hU q2 (by omega) a2) (K1.held u d x (hU q' hq1 hq2) hh),fun s o w ix2 v1 y hW hw hl=> ?_⟩⟩
  ·rcases hy with (rfl|h)|(h|h)
   ·exact .inl (by simp)
   ·exact .inr h
   ·exact .inl (by simp at h ⊢;exact .inr h)
   ·exact .inr h
  ·obtain ⟨a1,a2⟩:=K1.loc s o w ix2 v1 y ⟨hW.1,hW.2 mu (by simp)⟩ hw hl
   exact K2.loc s o w ix2 v1 y ⟨hW.1,fun mu2 h2=>hW.2 mu2 (by simp[h2])⟩ a1 a2
structure BoxBack (k:K) (m:M) (cls:List Rts) (v s ty:Nat) (tout:List RC) (o:List D):Prop where
 out:∃(blk:Nat) (cs:Array Value),m.c s= .pointer (some ⟨blk,0,none⟩)∧m.col blk= .lim v []∧m.h[blk]? =some (.cells cs ty (0,0))∧cs.size=tout.length∧o.length=tout.length∧(∀x∈cs.toList,x.oneCell'=true)∧
  ∀(q:Nat) (t:RC) (d:D) (x:Value),tout[q]? =some t→o[q]? =some d→cs.toList[q]? =some x→GivenCell k m (v+1+q) d x (outTag cls t)
def Pend (k:K) (g:G) (m:M) (cls:List Rts):Nat→List PA→List (List D)→Prop
 |_,[],[]=>True
 |p, .v _ []::l,os=>Pend k g m cls (p+1) l os
 |p, .v _ (mu::mus)::l,o::os=>MusOk k g m p 0 (mu::mus) o∧Pend k g m cls (p+1) l os
 |p, .bx s ty tout::l,o::os=>tout.length<900∧BoxBack k m cls (PAR+100000+p*1000) s ty tout o∧Pend k g m cls (p+1) l os
 |_,_,_=>False
theorem GivenCell.turn {T:Nat→Prop} {u:Nat} {d:D} {x:Value} {t:Tag} (h:GivenCell k m u d x t) (hr:Rel k g m) (S:Step k g m g' m' T) (hh:m'.h=m.h) (hu:∀b π,m.col b= .lim u π→m'.col b= .lim u π)
  (hrs:∀n rs,t= .own n rs→∀r∈rs,g'.ver r.1=g.ver r.1):GivenCell k m' u d x t:=by
 cases t with
 |sc=>exact h
 |own n rs=>exact ⟨h.1,h.2.turn hr S hh hu (hrs n rs rfl)⟩
 |_=>exact h
theorem Pend.turn {T:Nat→Prop} {W:Nat×Nat×List (Nat×Nat)→Prop} {cls:List Rts} {P0:Nat} (hr:Rel k g m) (S:Step k g m g' m' T) (hh:m'.h=m.h) (K:Kept k g m g' m' (fun u=>PAR+100000+P0*1000≤u∧u<PAR+600000) W)
  (hcls:∀t n rs,outTag cls t= .own n rs→∀r∈rs,g'.ver r.1=g.ver r.1):∀{p:Nat} {pas:List PA} {os:List (List D)},Pend k g m cls p pas os→P0≤p→p+pas.length<400→(∀mu∈paMus pas,W mu.frm)→(∀s∈paBoxes pas,¬ T s)→Pend k g' m' cls p pas os
 |_,[],[],_,_,_,_,_=>trivial
 |_,[],_::_,h,_,_,_,_=>h.elim
 |p, .v fl []::l,os,h,hp,hl,hW,hT=>by
  have:Pend k g m cls (p+1) l os:=by cases os<;>exact h
  have:=Pend.turn hr S hh K hcls this (by omega) (by simp at hl;omega) (fun mu hm=>hW mu (by simp[paMus,hm])) (fun s hs=>hT s (by simpa[paBoxes] using hs))
  cases os<;>exact this
 |p, .v fl (mu::mus)::l,[],h,_,_,_,_=>h.elim
 |p, .v fl (mu::mus)::l,o::os,h,hp,hl,hW,hT=>
  ⟨h.1.turn K (fun q' _ h2=>by simp at hl;unfold limP;omega) fun mu hm=>hW mu (by simp[paMus] at hm ⊢;rcases hm with h|h<;>simp[h]),
   Pend.turn hr S hh K hcls h.2 (by omega) (by simp at hl;omega) (fun mu hm=>hW mu (by simp[paMus,hm])) (fun s hs=>hT s (by simpa[paBoxes] using hs))⟩
 |p, .bx s ty tout::l,[],h,_,_,_,_=>h.elim
 |p, .bx s ty tout::l,o::os,h,hp,hl,hW,hT=>by
  refine ⟨h.1,?_,Pend.turn hr S hh K hcls h.2.2 (by omega) (by simp at hl;omega) (fun mu hm=>hW mu (by simp[paMus,hm])) (fun s hs=>hT s (by simp[paBoxes,hs]))⟩
  simp at hl
  obtain ⟨blk,cs,a1,a2,a3,a4,a5,a6,a7⟩:=h.2.1.out
  refine ⟨blk,cs,by rw[(S.rest s (hT s (by simp[paBoxes]))).2.c,a1],K.lim _ _ _ (by omega) a2,by rw[hh];exact a3,a4,a5,a6,fun q t d x b1 b2 b3=> ?_⟩
  have hq:q<tout.length:=(zE.1 b1).1
  have:=h.1
  exact (a7 q t d x b1 b2 b3).turn hr S hh (fun b π hb=>K.lim b _ π (by omega) hb) fun n rs e=>hcls t n rs e
end
end Go.Own
