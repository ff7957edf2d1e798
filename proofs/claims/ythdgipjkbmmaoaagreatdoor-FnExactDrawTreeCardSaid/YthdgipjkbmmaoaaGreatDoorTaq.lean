/- A part of the proof that the last text of this folder tells of. -/
import Derived.Test.YthdgipjkbmmaoaaGreatDoorTap
import Derived.Test.YthdgipjkbmmaoaaGreatDoorTad
set_option maxRecDepth 100000
namespace Go.Own
open Go
@[simp] theorem op_mget {l:List (Int×Bool)} {i:Int}:Op1.ev .mget [.mp l, .int .i64 i]=some [.bool (mapGet l i)]:=Eq.trans rfl rfl
@[simp] theorem op_mput {l:List (Int×Bool)} {i:Int} {b:Bool}:Op1.ev .mput [.mp l, .int .i64 i, .bool b]=some [.mp (mapPut l i b)]:=Eq.trans rfl rfl
theorem mapGet_put (l:List (Int×Bool)) (i j:Int) (b:Bool):mapGet (mapPut l i b) j=if j=i then b else mapGet l j:=by
 induction l with
 |nil=>simp[mapPut,mapGet]
 |cons x t ih=>
  obtain ⟨k,v⟩:=x
  unfold mapPut
  split
  ·rename_i h
   subst h
   simp only[mapGet]
   split<;>rfl
  ·rename_i h
   simp only[mapGet,ih]
   split
   ·rename_i h2
    rw[if_neg (by omega)]
   ·rfl
theorem J4110 (P:List Comp) (S:List Cell) (st:DS) (pl:List Slt) (hpl:pl.length<most) (t:Tmpl) (x:Tmpl) (hx:t.kids[0]? =some x) (e e':VE) (out:List Tre) (m:List (Int×Bool)) (cnt i key sub:Int) (hi:0≤i∧i≤1000) (w:Nat) (hw:w=x.wt) (hout:out.length+w≤most)
  (hT:Asked P S x e' (pl++[⟨0,sub⟩]) st) (r:List (List D))
  (h:q110.go 2 (aIn P S (x.draw e' (pl++[⟨0,sub⟩]) st).2 pl t e [.sl 5 ((out++setKey key (x.draw e' (pl++[⟨0,sub⟩]) st).1).map Tre.enc), .bool true, .mp m, .int .i64 cnt, .int .i64 (i+1)])=some r):
  q110.go 4 (aIn P S st pl t e (.sl 5 (out.map Tre.enc):: .bool true::(e'.enc++[.int .i64 sub, .int .i64 key, .mp m, .int .i64 cnt, .int .i64 i])))=some r:=by
 have hgr:=(draw_grew x e' (pl++[⟨0,sub⟩]) st).nodes
 have hbel:=R111 pl hpl 0 sub
 have hwi:IntKind.wrap .i64 (i+1)=i+1:=wrap64 (by omega) (by omega)
 unfold Asked at hT
 generalize hz:x.draw e' (pl++[⟨0,sub⟩]) st=z at*
 generalize pl++[(⟨0,sub⟩:Slt)]=pl2 at*
 obtain ⟨zl,zs⟩:=z
 simp only at hT h hgr
 have hte:=Tmpl.enc_eq t
 have hxe:=Tmpl.enc_eq x
 obtain ⟨h0,hg⟩:=get_of hx
 have hap:=fun (ys:List Tre) (hy:ys.length=zl.length)=>op_app_f (sz:=5) (xs:=out.map Tre.enc) (ys:=ys.map Tre.enc) (by simp[hy];omega)
 unfold aIn at h ⊢
 rw[hte] at h ⊢
 rw[hxe] at hT
 unfold VE.enc AS at hT h ⊢
 refine q110.g 4 rfl rfl rfl ?_
 cases zl with
 |nil=>
  have hap:=hap [] rfl
  simp[setKey] at h hT hap
  by_cases c2:key= -1
  ·subst c2
   simp[t110_5,h0,hg,hxe,hbel,hT,hap,hwi,h]
  ·simp[t110_5,h0,hg,hxe,hbel,hT,hap,hwi,c2,h]
 |cons y q=>
  obtain ⟨tg,ky,tx,ps,ks⟩:=y
  have hye:(Tre.mk tg ky tx ps ks).enc=_:=Tre.enc_eq _
  simp only[Tre.tag_mk,Tre.key_mk,Tre.text_mk,Tre.props_mk,Tre.kids_mk] at hye
  have hp:=put_key (l:=Tre.mk tg ky tx ps ks::q) (k:=key) rfl
  by_cases c2:key= -1
  ·subst c2
   have hap:=hap (Tre.mk tg ky tx ps ks::q) rfl
   simp[setKey,hye] at h hT hap
   simp[t110_5,h0,hg,hxe,hbel,hT,hap,hwi,h]
  ·by_cases c1:tg= -1
   ·subst c1
    have hap:=hap (Tre.mk (-1) ky tx ps ks::q) rfl
    simp[setKey,hye] at h hT hap
    simp[t110_5,h0,hg,hxe,hbel,hT,hap,hwi,c2,h]
   ·have hap:=hap (Tre.mk tg key tx ps ks::q) rfl
    have hye2:(Tre.mk tg key tx ps ks).enc=_:=Tre.enc_eq _
    simp only[Tre.tag_mk,Tre.key_mk,Tre.text_mk,Tre.props_mk,Tre.kids_mk] at hye2
    simp[setKey,c1,c2,hye,hye2] at h hT hap hp
    simp[t110_5,h0,hg,hxe,hbel,hT,hap,hp,hwi,c1,c2,h]
theorem G2110 (P:List Comp) (S:List Cell) (pl:List Slt) (hpl:pl.length<most) (t x:Tmpl) (hx:t.kids[0]? =some x) (e:VE) (p s it:Int) (he:e.Fits p s it) (hil:e.items.length≤100) (hky:t.key.length=0∨formOk t.key p s (it+1)=true)
  (cnt:Int) (hc:cnt≤4) (hT:∀(i sub:Int) st,0≤i→i≤4→Room x.wt st→Asked P S x (itemE e i) (pl++[⟨0,sub⟩]) st):∀(n:Nat) (i:Int) (st:DS) (out:List Tre) (seen:List Int) (m:List (Int×Bool)),0≤i→i+n=cnt→Room (n*x.wt) st→out.length+n*x.wt≤most→(∀k,mapGet m k=decide (k∈seen))→
  q110.go 2 (aIn P S st pl t e [.sl 5 (out.map Tre.enc), .bool true, .mp m, .int .i64 cnt, .int .i64 i])=some [[.sl 5 ((out++(eachD x.draw t.key e pl n i seen st).1).map Tre.enc)],AS P S (eachD x.draw t.key e pl n i seen st).2]:=by
 intro n
 induction n with
 |zero=>
  intro i st out seen m hi hn hr ho hs
  have hlt:¬ i<cnt:=by omega
  rw[eachD,List.append_nil]
  have hte:=Tmpl.enc_eq t
  unfold aIn
  rw[hte]
  unfold VE.enc AS
  refine q110.g 2 rfl rfl rfl ?_
  simp[t110_3,hlt]
 |succ n ih=>
  intro i st out seen m hi hn hr ho hs
  have hi3:i≤3:=by omega
  have hlt:i<cnt:=by omega
  have hmul:(n+1)*x.wt=x.wt+n*x.wt:=by rw[Nat.add_mul];omega
  rw[hmul] at hr ho
  have hwi:IntKind.wrap .i64 (i+1)=i+1:=wrap64 (by omega) (by omega)
  have hit:=fits_item he hil (i:=i) ⟨hi,by omega⟩
  have a1:=op_app_t (sz:=1) (xs:=[]) (ys:=e.items.map encI) (by simp;unfold most;omega) rfl (flat_ints _)
  have a2:=op_app_t (sz:=1) (xs:=e.items.map encI) (ys:=[[.int .i64 i]]) (by simp;unfold most;omega) (flat_ints _) rfl
  rw[List.nil_append] at a1
  have hJ:=fun key sub m' r h=>J4110 P S st pl hpl t x hx e (itemE e i) out m' cnt i key sub ⟨hi,by omega⟩ x.wt rfl (by omega) (hT i sub st hi (by omega) (hr.less (by omega))) r h
  have hgr:=fun sub=>draw_grew x (itemE e i) (pl++[⟨0,sub⟩]) st
  have hnext:=fun (key sub:Int) (seen':List Int) (m':List (Int×Bool)) (hs':∀k,mapGet m' k=decide (k∈seen'))=>ih (i+1) (x.draw (itemE e i) (pl++[⟨0,sub⟩]) st).2 (out++setKey key (x.draw (itemE e i) (pl++[⟨0,sub⟩]) st).1) seen' m' (by omega) (by omega) (hr.next (hgr sub)) (by have:=(hgr sub).nodes;rw[List.length_append,setKey_len];omega) hs'
  have hte:=Tmpl.enc_eq t
  have hplain:eachKey t.key (itemE e i)= -1→q110.go 4 (aIn P S st pl t e (.sl 5 (out.map Tre.enc):: .bool true::((itemE e i).enc++[.int .i64 i, .int .i64 (-1), .mp m, .int .i64 cnt, .int .i64 i])))=some [[.sl 5 ((out++(eachD x.draw t.key e pl (n+1) i seen st).1).map Tre.enc)],AS P S (eachD x.draw t.key e pl (n+1) i seen st).2]:=by
   intro hkk
   rw[eachD,hkk]
   simp only[ne_eq,not_true_eq_false,false_and,if_false]
   rw[← List.append_assoc]
   exact hJ (-1) i m _ (hnext (-1) i seen m hs)
  by_cases hk0:t.key.length=0
  ·have hkk:eachKey t.key (itemE e i)= -1:=by unfold eachKey;rw[if_neg (by omega)]
   have hkp:¬ 0<t.key.length:=by omega
   have hj:=hplain hkk
   generalize eachD x.draw t.key e pl (n+1) i seen st=q at*
   unfold aIn at hj ⊢
   rw[hte] at hj ⊢
   unfold itemE VE.enc AS at hj
   unfold VE.enc AS
   refine q110.g 2 rfl rfl rfl ?_
   simp at hj a2
   simp[t110_3,hlt,a1,a2,hkp,hj]
  ·have hkp:0<t.key.length:=by omega
   have hkf:formOk t.key p s (it+1)=true:=hky.resolve_left hk0
   have hke:=R137 (itemE e i) p s (it+1) hit t.key hkf
   have hkk:eachKey t.key (itemE e i)=keyV (valF (itemE e i) t.key):=by unfold eachKey;rw[if_pos hkp]
   rw[hkk] at hplain
   by_cases hv1:(valF (itemE e i) t.key).kind=1
   ·cases hv2:inR (valF (itemE e i) t.key).num 0 99
    ·have hj:=hplain (by unfold keyV;rw[if_neg (by rw[hv2];simp)])
     generalize valF (itemE e i) t.key=wk at*
     generalize eachD x.draw t.key e pl (n+1) i seen st=q at*
     unfold aIn at hj ⊢
     rw[hte] at hj ⊢
     unfold itemE VE.enc AS at hj
     unfold itemE VE.enc at hke
     unfold VE.enc AS
     refine q110.g 2 rfl rfl rfl ?_
     simp[hv1] at hj a2 hke
     simp[t110_3,hlt,a1,a2,hkp,hke,hv2,R63,hj]
    ·obtain ⟨v0,v99⟩:=inR_iff.1 hv2
     have hkv:keyV (valF (itemE e i) t.key)=(valF (itemE e i) t.key).num:=by unfold keyV;rw[if_pos ⟨hv1,hv2⟩]
     rw[hkv] at hkk
     have hmg:=hs (valF (itemE e i) t.key).num
     have hnx:=hnext (valF (itemE e i) t.key).num (4+(valF (itemE e i) t.key).num) (seen++[(valF (itemE e i) t.key).num]) (mapPut m (valF (itemE e i) t.key).num true) (fun k=>by
      rw[mapGet_put,hs k]
      by_cases hkq:k=(valF (itemE e i) t.key).num<;>simp[hkq])
     have hj:=hJ (valF (itemE e i) t.key).num (4+(valF (itemE e i) t.key).num) _ _ hnx
     have hsk:=ih (i+1) st out seen m (by omega) (by omega) (hr.less (by omega)) (by omega) hs
     rw[eachD,hkk]
     generalize valF (itemE e i) t.key=wk at*
     have hne:wk.num≠ -1:=by omega
     have hw4:IntKind.wrap .i64 (4+wk.num)=4+wk.num:=wrap64 (by omega) (by omega)
     by_cases hm:wk.num∈seen
     ·rw[if_pos ⟨hne,hm⟩]
      generalize eachD x.draw t.key e pl n (i+1) seen st=q at*
      unfold aIn at hsk ⊢
      rw[hte] at hsk ⊢
      unfold itemE VE.enc at hke
      unfold VE.enc AS at hsk ⊢
      refine q110.g 2 rfl rfl rfl ?_
      simp[hv1] at hsk a2 hke
      simp[t110_3,hlt,a1,a2,hkp,hke,hv2,R63,hw4,hmg,hm,hwi,hsk]
     ·rw[if_neg (fun h=>hm h.2)]
      simp only[ne_eq,hne,not_false_eq_true,if_true]
      rw[← List.append_assoc]
      generalize hq:x.draw (itemE e i) (pl++[⟨0,4+wk.num⟩]) st=q at*
      generalize (out++setKey wk.num q.1)++_=out2 at*
      generalize (eachD x.draw t.key e pl n (i+1) (seen++[wk.num]) q.2).2=st2 at*
      unfold aIn at hj ⊢
      rw[hte] at hj ⊢
      unfold itemE VE.enc AS at hj
      unfold itemE VE.enc at hke
      unfold VE.enc AS
      refine q110.g 2 rfl rfl rfl ?_
      simp[hv1] at hj a2 hke
      simp[t110_3,hlt,a1,a2,hkp,hke,hv2,R63,hw4,hmg,hm,hj]
   ·have hj:=hplain (by unfold keyV;rw[if_neg (fun h=>hv1 h.1)])
    generalize valF (itemE e i) t.key=wk at*
    generalize eachD x.draw t.key e pl (n+1) i seen st=q at*
    unfold aIn at hj ⊢
    rw[hte] at hj ⊢
    unfold itemE VE.enc AS at hj
    unfold itemE VE.enc at hke
    unfold VE.enc AS
    refine q110.g 2 rfl rfl rfl ?_
    simp at hj a2 hke
    simp[t110_3,hlt,a1,a2,hkp,hke,hv1,hj]
set_option maxRecDepth 100000
theorem G3110 (P:List Comp) (S:List Cell) (e:VE) (p s it:Int) (he:e.Fits p s it) (args:List (List Stp)) (hal:args.length≤most) (hf:(args.all fun f=>formOk f p s it)=true) (st:DS) (hc:st.calls.length<most) (pl:List Slt) (tg:Int) (ys:List Val):∀(sa:List (List Stp)) (n:Nat) (acc:List Val),n≤args.length→args.drop n=sa→acc.length≤n→
  q110.go 3 (AS P S st++(e.enc++[.sl 2 (pl.map Slt.enc), .int .i64 tg, .sl 3 (acc.map Val.enc), .sl 3 (ys.map Val.enc), .sl 1 (args.map encF), .int .i64 args.length, .int .i64 n]))=
   some [[.sl 5 [(Tre.mk (-2) (-1) [] [] []).enc]],AS P S ⟨st.calls++[⟨pl,tg,acc++sa.map (valF e),ys⟩],st.heard,st.n⟩]:=by
 intro sa
 induction sa with
 |nil=>
  intro n acc hn hd ha
  have:=drop_nil hd hn
  subst this
  have htr:=Tre.enc_eq (.mk (-2) (-1) [] [] [])
  simp only[Tre.tag_mk,Tre.key_mk,Tre.text_mk,Tre.props_mk,Tre.kids_mk] at htr
  rw[List.map_nil,List.append_nil,htr]
  have a2:=op_app_f (sz:=4) (xs:=st.calls.map Cal.enc) (ys:=[(⟨pl,tg,acc,ys⟩:Cal).enc]) (by simp;omega)
  have hce:(⟨pl,tg,acc,ys⟩:Cal).enc=[.sl 2 (pl.map Slt.enc), .int .i64 tg, .sl 3 (acc.map Val.enc), .sl 3 (ys.map Val.enc)]:=rfl
  unfold VE.enc AS
  refine q110.g 3 rfl rfl rfl ?_
  simp[hce] at a2
  simp[t110_4,a2,hce]
 |cons f q ih=>
  intro n acc hn hd ha
  obtain ⟨hx,hlt,hd'⟩:=drop_cons hd
  obtain ⟨_,hg⟩:=get_of hx
  have hw:=most_wrap (n:=n) (by omega) (by omega)
  have hev:=R137 e p s it he f (zL.1 hf f (zF hx))
  have hih:=ih (n+1) (acc++[valF e f]) hlt hd' (by simp;omega)
  have hap:=op_app1 (l:=acc) (v:=valF e f) (by omega)
  have hpv:acc++(f::q).map (valF e)=(acc++[valF e f])++q.map (valF e):=by simp
  rw[hpv]
  generalize (acc++[valF e f])++q.map (valF e)=out at*
  generalize acc++[valF e f]=acc2 at*
  generalize valF e f=w at*
  generalize st.calls++[(⟨pl,tg,out,ys⟩:Cal)]=calls2 at*
  unfold VE.enc AS at hih ⊢
  unfold VE.enc at hev
  refine q110.g 3 rfl rfl rfl ?_
  simp at hih hev
  simp[t110_4,hlt,hg,hev,hap,hw,hih]
theorem count_int2 (v:Val) (h:v.ok=true):(countV v:Int)=if v.kind=1 then (if (4:Int)<(if v.num<0 then 0 else v.num) then 4 else (if v.num<0 then 0 else v.num)) else 0:=by
 unfold countV
 by_cases k:v.kind=1
 ·rw[if_pos k]
  split<;>split<;>omega
 ·rw[if_neg k]
  unfold Val.ok at h
  have:v.num=0:=by
   by_cases k0:v.kind=0
   ·rw[if_pos k0] at h;simp at h;exact h.1
   ·rw[if_neg k0,if_neg k] at h
    split at h
    ·simp at h;exact h.1
    ·cases h
  rw[this]
  rfl
theorem asked (P:List Comp) (S:List Cell) (i:Nat) (c:Comp):∀(t:Tmpl) (d it:Int) (e:VE) (pl:List Slt) (st:DS),t.ok P i c d it=true→t.bulk≤BULK→Stand P i c d it e pl→Room t.wt st→Asked P S t e pl st:=by
 refine Tmpl.ind fun k tg ns ar ky os ks ih d it e pl st ho hb hs hr=> ?_
 have ihk:∀x∈(Tmpl.mk k tg ns ar ky os ks).kids,∀(d it:Int) (e:VE) (pl:List Slt) (st:DS),x.ok P i c d it=true→x.bulk≤BULK→Stand P i c d it e pl→Room x.wt st→Asked P S x e pl st:=ih
 clear ih
 generalize Tmpl.mk k tg ns ar ky os ks=t at*
 clear k tg ns ar ky os ks
 have r:=Tmpl.right ho
 have hsm:=sm_of_bulk hb
 have hd4:=r.dep
 have hpl:pl.length<most:=by have:=hs.pl;unfold most;omega
 have hil:e.items.length≤100:=by have:=hs.items;omega
 have hbel:=fun i s=>R111 pl hpl i s
 have hkid:∀x∈t.kids,∀(e':VE) (y:Slt) (st:DS),t.kind≠3→Stand P i c d it e' pl→Room x.wt st→Asked P S x e' (pl++[y]) st:=fun x hx e' y st k3 hs' hr'=>by
  have h:=r.kids x hx
  unfold itIn at h
  rw[if_neg k3] at h
  exact ihk x hx _ _ _ _ _ h (kid_bulk hb hx) (hs'.kid y) hr'
 have hwt:=Tmpl.wt_eq t
 have hmk:1≤mulK t.kind:=by unfold mulK;split<;>omega
 have hmul:=zR (t.kids.map Tmpl.wt).sum hmk
 have hte:=Tmpl.enc_eq t
 have hdw:=t.draw_eq
 have hmain:q110.go 0 (aIn P S st pl t e (if t.kind=1∨t.kind=4 then Val.zero else valF e (t.args.getD 0 [])).enc)=some [[.sl 5 ((t.draw e pl st).1.map Tre.enc)],AS P S (t.draw e pl st).2]:=by
  rw[hdw]
  unfold drawN
  by_cases k1:t.kind=1
  ·have hh:=r.head
   unfold goodHead at hh
   rw[if_neg (by omega),if_pos k1] at hh
   simp at hh
   have hr1:Room (t.kids.map Tmpl.wt).sum (hear st t.ons):=by
    have hhl:(hear st t.ons).heard.length≤st.heard.length+1:=by unfold hear;simp only;split<;>simp
    obtain ⟨a,b,c,d⟩:=hr
    exact ⟨by unfold hear;simp only;omega,by omega,by unfold hear;simp only;omega,by unfold hear;simp only;omega⟩
   have hT:=R139 P S t e pl hpl hsm.2.2.2.2 (fun x hx n st hr'=>hkid x hx e ⟨n,0⟩ st (by omega) hs hr') (hear st t.ons) hr1
   have hG:=G1110 P S e _ _ it hs.fits pl t hsm hh.2.1 r.forms st (hr.less (by omega)) t.tag _ hT t.names t.args 0 [] (by omega) rfl rfl (by simp)
   rw[List.nil_append] at hG
   rw[if_pos (show t.kind=1∨t.kind=4 from Or.inl k1),if_neg (show ¬ t.kind=0 by omega),if_pos k1]
   show _=some [[.sl 5 [(Tre.mk t.tag (-1) [] (prpsV e t.names t.args) (drawAll e pl (t.kids.map Tmpl.draw) 0 (hear st t.ons)).1).enc]],AS P S (drawAll e pl (t.kids.map Tmpl.draw) 0 (hear st t.ons)).2]
   generalize drawAll e pl (t.kids.map Tmpl.draw) 0 (hear st t.ons)=z at*
   generalize (Tre.mk t.tag (-1) [] (prpsV e t.names t.args) z.1).enc=te at*
   unfold aIn at hG ⊢
   rw[hte,k1] at hG ⊢
   unfold VE.enc AS at hG ⊢
   refine q110.g 0 rfl rfl rfl ?_
   simp at hG
   simp[t110_1,hG]
  by_cases k4:t.kind=4
  ·have hv1:=R141 pl (by omega)
   have hv2:=R136 e.pay (by have:=hs.pay;unfold most;omega)
   have hG:=G3110 P S e _ _ it hs.fits t.args hsm.2.1 r.forms st (by have:=hr.calls;unfold most;omega) pl t.tag e.pay t.args 0 [] (by omega) rfl (by simp)
   rw[List.nil_append] at hG
   rw[if_pos (show t.kind=1∨t.kind=4 from Or.inr k4),if_neg (show ¬ t.kind=0 by omega),if_neg k1,if_neg (show ¬ t.kind=2 by omega),if_neg (show ¬ t.kind=3 by omega),if_pos k4]
   simp only[List.map_cons,List.map_nil]
   generalize (Tre.mk (-2) (-1) [] [] []).enc=te at*
   generalize st.calls++[(⟨pl,t.tag,t.args.map (valF e),e.pay⟩:Cal)]=calls2 at*
   unfold aIn
   rw[hte,k4]
   unfold VE.enc AS at hG ⊢
   refine q110.g 0 rfl rfl rfl ?_
   simp at hG
   simp[t110_1,hv1,hv2,hG]
  obtain ⟨f,hf⟩:=args_one r.head k1 k4
  have hff:formOk f c.props c.states.length it=true:=by have:=r.forms;rw[hf] at this;simpa using this
  obtain ⟨_,hok⟩:=R147 e _ _ it hs.fits f hff
  rw[if_neg (show ¬ (t.kind=1∨t.kind=4) by omega),hf]
  simp only[List.getD_cons_zero]
  by_cases k0:t.kind=0
  ·have hsh:=R138 _ hok
   rw[if_pos k0]
   generalize valF e f=w at*
   have htr:=Tre.enc_eq (.mk (-1) (-1) (showV w) [] [])
   simp only[Tre.tag_mk,Tre.key_mk,Tre.text_mk,Tre.props_mk,Tre.kids_mk] at htr
   unfold aIn
   rw[hte,k0]
   unfold VE.enc AS
   refine q110.g 0 rfl rfl rfl ?_
   simp at hsh htr
   simp[t110_1,hsh,htr]
  rw[if_neg k0,if_neg k1]
  by_cases k2:t.kind=2
  ·have htr:=R140 _ hok
   rw[if_pos k2]
   generalize valF e f=w at*
   have hn:=r.n
   cases hks:t.kids with
   |nil=>rw[hks,k2] at hn;exact absurd hn (by decide)
   |cons x q=>
    simp only[List.map_cons]
    have hxe:=Tmpl.enc_eq x
    rw[hks] at hmul hwt
    simp only[List.map_cons,List.sum_cons] at hmul hwt
    have h1:=hkid x (by rw[hks];simp) e ⟨0,0⟩ st (by omega) hs (hr.less (by omega))
    have hb1:=hbel 0 0
    unfold Asked at h1
    unfold aIn
    rw[hte,k2,hks,hf]
    by_cases hw:trueV w=true
    ·rw[if_pos hw]
     generalize x.draw e (pl++[⟨0,0⟩]) st=z at*
     generalize pl++[(⟨0,0⟩:Slt)]=pl1 at*
     rw[hxe] at h1
     unfold VE.enc AS at h1 ⊢
     refine q110.g 0 rfl rfl rfl ?_
     simp at htr
     simp[t110_1,htr,hw,hxe,hb1,h1]
    ·rw[if_neg hw]
     cases q with
     |nil=>
      simp only[List.map_nil]
      unfold VE.enc AS
      refine q110.g 0 rfl rfl rfl ?_
      simp at htr
      simp[t110_1,htr,hw]
     |cons y q=>
      simp only[List.map_cons,List.sum_cons] at hmul hwt ⊢
      have hye:=Tmpl.enc_eq y
      have h2:=hkid y (by rw[hks];simp) e ⟨1,0⟩ st (by omega) hs (hr.less (by omega))
      have hb2:=hbel 1 0
      have h11:(1:Int)<q.length+1+1:=by omega
      unfold Asked at h2
      generalize y.draw e (pl++[⟨1,0⟩]) st=z at*
      generalize pl++[(⟨1,0⟩:Slt)]=pl1 at*
      rw[hye] at h2
      unfold VE.enc AS at h2 ⊢
      refine q110.g 0 rfl rfl rfl ?_
      simp at htr
      simp[t110_1,htr,hw,hxe,hye,hb2,h2,h11]
  rw[if_neg k2]
  by_cases k3:t.kind=3
  ·rw[if_pos k3]
   have hn:=r.n
   cases hks:t.kids with
   |nil=>rw[hks,k3] at hn;exact absurd hn (by decide)
   |cons x q=>
    simp only[List.map_cons]
    rw[hks] at hwt
    simp only[List.map_cons,List.sum_cons] at hwt
    have hmk3:mulK t.kind=4:=by rw[k3];rfl
    rw[hmk3] at hwt
    have hxm:x∈t.kids:=by rw[hks];simp
    have hc4:countV (valF e f)≤4:=by unfold countV;omega
    have hm4:=zR x.wt hc4
    have hea:=G2110 P S pl hpl t x (by rw[hks];rfl) e _ _ it hs.fits hil (r.key k3) (countV (valF e f)) (by omega) (fun n sub st h0 h4 hr'=>by
     have h:=r.kids x hxm
     unfold itIn at h
     rw[if_pos k3] at h
     exact ihk x hxm _ _ _ _ _ h (kid_bulk hb hxm) (hs.item hd4 ⟨h0,h4⟩ _) hr') (countV (valF e f)) 0 st [] [] [] (by omega) (by omega) (hr.less (by omega)) (by have:=hr.calls;unfold most;simp;omega) (fun k=>by simp[mapGet])
    rw[List.nil_append] at hea
    generalize eachD x.draw t.key e pl (countV (valF e f)) 0 [] st=z at*
    have hci:=count_int2 (valF e f) hok
    generalize (countV (valF e f):Int)=cn at*
    generalize valF e f=w at*
    unfold aIn at hea ⊢
    rw[hte,hks,hf,k3] at hea
    rw[hte,hks,hf,k3]
    unfold VE.enc AS at hea ⊢
    refine q110.g 0 rfl rfl rfl ?_
    simp at hea
    by_cases hk:w.kind=1
    ·rw[if_pos hk] at hci
     simp[t110_1,hk,← hci,hea]
    ·rw[if_neg hk] at hci
     subst hci
     simp[t110_1,hk,hea]
  rw[if_neg k3,if_neg k4]
  obtain ⟨k5,g0,g1⟩:=head_kind r.head k0 k1 k2 k3 k4
  have hs':=hs.give (n:=t.tag.toNat) hok
  have hT:=R139 P S t _ pl hpl hsm.2.2.2.2 (fun x hx n st hr'=>hkid x hx _ ⟨n,0⟩ st (by omega) hs' hr') st (hr.less (by omega))
  have hy:=hs.fits.y
  have hv2:=R136 e.pay (by have:=hs.pay;unfold most;omega)
  have hp:=put_val (l:=e.pay) (n:=t.tag.toNat) (v:=valF e f) (by omega)
  generalize valF e f=w at*
  generalize drawAll _ pl (t.kids.map Tmpl.draw) 0 st=z at*
  generalize hpy:e.pay.set t.tag.toNat w=pay at*
  unfold aIn
  rw[hte,k5] at hT ⊢
  unfold VE.enc AS at hT ⊢
  have hi:t.tag<e.pay.length:=by omega
  refine q110.g 0 rfl rfl rfl ?_
  simp[t110_1,hT,hv2,hp,g0,hi]
 unfold Asked
 generalize t.draw e pl st=z at*
 by_cases k14:t.kind=1∨t.kind=4
 ·rw[if_pos k14] at hmain
  unfold aIn at hmain
  unfold VE.enc AS at hmain ⊢
  rcases k14 with k|k
  ·rw[hte,k] at hmain ⊢
   refine q110.f rfl ?_
   simp[Val.zero] at hmain
   simp[t110_0,hmain]
  ·rw[hte,k] at hmain ⊢
   refine q110.f rfl ?_
   simp[Val.zero] at hmain
   simp[t110_0,hmain]
 ·rw[if_neg k14] at hmain
  obtain ⟨f,hf⟩:=args_one r.head (by omega) (by omega)
  have hff:formOk f c.props c.states.length it=true:=by have:=r.forms;rw[hf] at this;simpa using this
  have hev:=R137 e _ _ it hs.fits f hff
  have k1:t.kind≠1:=by omega
  have k4:t.kind≠4:=by omega
  rw[hf] at hmain
  simp only[List.getD_cons_zero] at hmain
  generalize valF e f=w at*
  unfold aIn at hmain
  rw[hte,hf] at hmain ⊢
  unfold VE.enc at hev
  unfold VE.enc AS at hmain ⊢
  refine q110.f rfl ?_
  simp at hmain hev
  simp[t110_0,k1,k4,hev,hmain]
set_option maxRecDepth 100000
def Tre.cnt:Tre→Nat
 | .mk _ _ _ _ ks=>1+(ks.map Tre.cnt).sum
def Tre.holes:Tre→Nat
 | .mk tg _ _ _ ks=>if tg= -2 then 1 else (ks.map Tre.holes).sum
def cntL (l:List Tre):Nat:=(l.map Tre.cnt).sum
def holesL (l:List Tre):Nat:=(l.map Tre.holes).sum
inductive Tre.nice:Tre→Prop
 |mk {tg ky:Int} {tx:List UInt8} {ps:List Prp} {ks:List Tre} (h1:ps.length≤4) (h2:∀x∈ks,Tre.nice x):Tre.nice (.mk tg ky tx ps ks)
theorem Tre.nice_mk {tg ky:Int} {tx:List UInt8} {ps:List Prp} {ks:List Tre}:(Tre.mk tg ky tx ps ks).nice↔ps.length≤4∧∀x∈ks,x.nice:=⟨fun h=>by cases h with|mk a b=>exact ⟨a,b⟩,fun h=> .mk h.1 h.2⟩
theorem cnt_mk {tg ky:Int} {tx:List UInt8} {ps:List Prp} {ks:List Tre}:(Tre.mk tg ky tx ps ks).cnt=1+cntL ks:=by rw[Tre.cnt];rfl
theorem holes_mk {tg ky:Int} {tx:List UInt8} {ps:List Prp} {ks:List Tre}:(Tre.mk tg ky tx ps ks).holes=if tg= -2 then 1 else holesL ks:=by rw[Tre.holes];rfl
@[simp] theorem cntL_nil:cntL []=0:=rfl
@[simp] theorem holesL_nil:holesL []=0:=rfl
@[simp] theorem cntL_cons {x:Tre} {l:List Tre}:cntL (x::l)=x.cnt+cntL l:=by unfold cntL;simp
@[simp] theorem holesL_cons {x:Tre} {l:List Tre}:holesL (x::l)=x.holes+holesL l:=by unfold holesL;simp
@[simp] theorem cntL_app {a b:List Tre}:cntL (a++b)=cntL a+cntL b:=by unfold cntL;simp
@[simp] theorem holesL_app {a b:List Tre}:holesL (a++b)=holesL a+holesL b:=by unfold holesL;simp
theorem len_cntL (l:List Tre):l.length≤cntL l:=by
 induction l with
 |nil=>simp
 |cons x t ih=>cases x;rw[cntL_cons,cnt_mk];simp;omega
theorem setKey_facts (k:Int) (l:List Tre):cntL (setKey k l)=cntL l∧holesL (setKey k l)=holesL l∧((∀x∈l,x.nice)→∀x∈setKey k l,x.nice):=by
 cases l with
 |nil=>exact ⟨rfl,rfl,fun h=>h⟩
 |cons x t=>
  obtain ⟨tg,ky,tx,ps,ks⟩:=x
  rw[setKey]
  split
  ·refine ⟨by simp[cnt_mk],by simp[holes_mk],fun h x hx=> ?_⟩
   rcases List.mem_cons.1 hx with rfl|hx
   ·have:=h (.mk tg ky tx ps ks) (by simp)
    exact Tre.nice_mk.2 (Tre.nice_mk.1 this)
   ·exact h x (by simp[hx])
  ·exact ⟨rfl,rfl,fun h=>h⟩
structure Cal.Good (P:List Comp) (i:Nat) (c:Cal):Prop where
 comp:∃(j:Nat) (k:Comp),c.comp=j∧i<j∧P[j]? =some k∧(c.props.length:Int)=k.props∧c.place.length≤10*j
 vp:∀v∈c.props,v.ok=true
 y:2≤c.pay.length∧c.pay.length≤1000
 vy:∀v∈c.pay,v.ok=true
structure Drew (P:List Comp) (σ:Nat→Nat) (i w:Nat) (st:DS) (r:List Tre×DS):Prop where
 ex:∃(cs:List Cal) (hs:List Hrd),r.2.calls=st.calls++cs∧r.2.heard=st.heard++hs∧holesL r.1=cs.length∧cntL r.1+(cs.map fun c=>σ c.comp.toNat).sum≤w∧(∀c∈cs,c.Good P i)∧∀x∈r.1,x.nice
theorem Drew.nil {P:List Comp} {σ:Nat→Nat} {i w:Nat} {st:DS}:Drew P σ i w st ([],st):=⟨[],[],by simp,by simp,rfl,by simp,by simp,by simp⟩
theorem Drew.mono {P:List Comp} {σ:Nat→Nat} {i w v:Nat} {st:DS} {r:List Tre×DS} (h:Drew P σ i w st r) (hw:w≤v):Drew P σ i v st r:=by
 obtain ⟨cs,hs,a,b,c,d,e⟩:=h.ex
 exact ⟨cs,hs,a,b,c,by omega,e⟩
theorem Drew.app {P:List Comp} {σ:Nat→Nat} {i w v:Nat} {st:DS} {r q:List Tre×DS} (h:Drew P σ i w st r) (g:Drew P σ i v r.2 q) {k:Int}:Drew P σ i (w+v) st (setKey k r.1++q.1,q.2):=by
 obtain ⟨cs,hs,a1,a2,a3,a4,a5,a6⟩:=h.ex
 obtain ⟨cs',hs',b1,b2,b3,b4,b5,b6⟩:=g.ex
 obtain ⟨k1,k2,k3⟩:=setKey_facts k r.1
 refine ⟨cs++cs',hs++hs',by rw[b1,a1,List.append_assoc],by rw[b2,a2,List.append_assoc],by simp[k2,a3,b3],by simp[k1];omega,fun c hc=> ?_,fun x hx=> ?_⟩
 ·rcases zT.1 hc with h|h
  ·exact a5 c h
  ·exact b5 c h
 ·rcases zT.1 hx with h|h
  ·exact k3 a6 x h
  ·exact b6 x h
theorem setKey_none (l:List Tre):setKey (-1) l=l:=by
 cases l with
 |nil=>rfl
 |cons x t=>obtain ⟨tg,ky,tx,ps,ks⟩:=x;rw[setKey,if_neg (fun h=>h.2 rfl)]
theorem Drew.app0 {P:List Comp} {σ:Nat→Nat} {i w v:Nat} {st:DS} {r q:List Tre×DS} (h:Drew P σ i w st r) (g:Drew P σ i v r.2 q):Drew P σ i (w+v) st (r.1++q.1,q.2):=by
 have:=h.app g (k:= -1)
 rwa [setKey_none] at this
theorem names_inc:∀(l:List Int) (n:Int),n≤3→namesFrom (some n) l=true→n+l.length≤3
 | [],n,hn,_=>by simpa using hn
 |x::t,n,hn,h=>by
  unfold namesFrom incOk at h
  simp at h
  obtain ⟨h1,h2⟩:=inR_iff.1 h.1
  have:=names_inc t x h2 h.2.2
  simp
  omega
theorem names_len {l:List Int} (h:namesFrom none l=true):l.length≤4:=by
 cases l with
 |nil=>simp
 |cons x t=>
  unfold namesFrom at h
  simp at h
  obtain ⟨h1,h2⟩:=inR_iff.1 h.1
  have:=names_inc t x h2 h.2.2
  simp
  omega
theorem drawAll_drew {P:List Comp} {σ:Nat→Nat} {i:Nat} (e:VE) (pl:List Slt):∀(ks:List Tmpl),(∀x∈ks,∀(n:Nat) st,Drew P σ i (x.size σ) st (x.draw e (pl++[⟨n,0⟩]) st))→∀n st,Drew P σ i (ks.map (Tmpl.size σ)).sum st (drawAll e pl (ks.map Tmpl.draw) n st)
 | [],_,_,_=>Drew.nil
 |x::t,h,n,st=>by
  rw[List.map_cons,List.map_cons,List.sum_cons,drawAll]
  exact (h x (by simp) n st).app0 (drawAll_drew e pl t (fun y hy=>h y (by simp[hy])) (n+1) _)
theorem eachD_drew {P:List Comp} {σ:Nat→Nat} {j:Nat} (f:DFn) (ky:List Stp) (e:VE) (pl:List Slt) (w m:Nat) (hf:∀(n:Int),0≤n∧n<m→∀(x:Slt) st,Drew P σ j w st (f (itemE e n) (pl++[x]) st)):∀(n:Nat) (i:Int) seen st,0≤i→i+n=m→Drew P σ j (n*w) st (eachD f ky e pl n i seen st):=by
 intro n
 induction n with
 |zero=>intro i seen st _ _;exact Drew.nil
 |succ n ih=>
  intro i seen st h0 hm
  rw[eachD]
  rw[show (n+1)*w=w+n*w by rw[Nat.add_mul];omega]
  split
  ·exact (ih _ _ _ (by omega) (by omega)).mono (by omega)
  ·exact (hf i ⟨h0,by omega⟩ _ _).app (ih _ _ _ (by omega) (by omega))
theorem prpsV_len (e:VE) (ns:List Int) (ar:List (List Stp)):(prpsV e ns ar).length≤ns.length:=by
 unfold prpsV
 simp
 omega
theorem draw_drew {P:List Comp} {σ:Nat→Nat} {i:Nat} {c:Comp}:∀(t:Tmpl) (d it:Int) (e:VE) (pl:List Slt) (st:DS),t.ok P i c d it=true→Stand P i c d it e pl→(pl.length:Int)≤10*i+2+d→Drew P σ i (t.size σ) st (t.draw e pl st):=by
 refine Tmpl.ind fun k tg ns ar ky os ks ih d it e pl st ho hs hp=> ?_
 have ihk:∀x∈(Tmpl.mk k tg ns ar ky os ks).kids,∀(d it:Int) (e:VE) (pl:List Slt) (st:DS),x.ok P i c d it=true→Stand P i c d it e pl→(pl.length:Int)≤10*i+2+d→Drew P σ i (x.size σ) st (x.draw e pl st):=ih
 clear ih
 generalize Tmpl.mk k tg ns ar ky os ks=t at*
 clear k tg ns ar ky os ks
 have r:=Tmpl.right ho
 have hd4:=r.dep
 have hkid:∀x∈t.kids,∀(e':VE) (y:Slt) (st:DS),t.kind≠3→Stand P i c d it e' pl→Drew P σ i (x.size σ) st (x.draw e' (pl++[y]) st):=fun x hx e' y st k3 hs'=>by
  have h:=r.kids x hx
  unfold itIn at h
  rw[if_neg k3] at h
  exact ihk x hx _ _ _ _ _ h (hs'.kid y) (by simp;omega)
 have hsz:=Tmpl.size_eq σ t
 have hmk:1≤mulK t.kind:=by unfold mulK;split<;>omega
 have hmul:=zR (t.kids.map (Tmpl.size σ)).sum hmk
 have hall:=fun (e':VE) (hs':Stand P i c d it e' pl) (k3:t.kind≠3)=>drawAll_drew (P:=P) (σ:=σ) (i:=i) e' pl t.kids (fun x hx n st=>hkid x hx e' ⟨n,0⟩ st k3 hs') 0
 have hval:=fun f (hf:f∈t.args)=>(R147 e _ _ it hs.fits f (zL.1 r.forms f hf)).2
 have hz:1+mulK t.kind*(t.kids.map (Tmpl.size σ)).sum≤t.size σ:=by rw[hsz];exact Nat.le_add_right _ _
 rw[Tmpl.draw_eq]
 unfold drawN
 generalize t.size σ=w at*
 split
 ·exact ⟨[],[],by simp,by simp,by simp[holes_mk],by simp[cnt_mk];omega,by simp,fun x hx=>by
   rw[List.mem_singleton.1 hx]
   exact Tre.nice_mk.2 ⟨by simp,by simp⟩⟩
 split
 ·rename_i k0 k1
  have hh:=r.head
  unfold goodHead at hh
  rw[if_neg (by omega),if_pos k1] at hh
  simp at hh
  have htg:=inR_iff.1 hh.1
  obtain ⟨cs,hs',a1,a2,a3,a4,a5,a6⟩:=(hall e hs (by omega) ⟨st.calls,if 0<t.ons.length then st.heard++[⟨st.n,t.ons⟩] else st.heard,st.n+1⟩).ex
  have hn:=names_len hh.2.2.1
  have hpv:=prpsV_len e t.names t.args
  refine ⟨cs,(if 0<t.ons.length then [⟨st.n,t.ons⟩] else [])++hs',a1,?_,?_,?_,a5,fun x hx=> ?_⟩
  ·simp only[a2]
   split<;>simp
  ·simp only[holesL_cons,holes_mk,holesL_nil]
   rw[if_neg (by omega)]
   omega
  ·simp only[cntL_cons,cnt_mk,cntL_nil]
   omega
  ·rw[List.mem_singleton.1 hx]
   exact Tre.nice_mk.2 ⟨by omega,a6⟩
 split
 ·rename_i k0 k1 k2
  split
  ·cases hks:t.kids with
   |nil=>exact Drew.nil
   |cons x q=>
    refine (hkid x (by rw[hks];simp) e _ st (by omega) hs).mono ?_
    rw[hks] at hmul hz
    simp only[List.map_cons,List.sum_cons] at hmul hz
    omega
  ·cases hks:t.kids with
   |nil=>exact Drew.nil
   |cons x q=>cases q with
    |nil=>exact Drew.nil
    |cons y q=>
     refine (hkid y (by rw[hks];simp) e _ st (by omega) hs).mono ?_
     rw[hks] at hmul hz
     simp only[List.map_cons,List.sum_cons] at hmul hz
     omega
 split
 ·rename_i k0 k1 k2 k3
  cases hks:t.kids with
  |nil=>exact Drew.nil
  |cons x q=>
   have hxm:x∈t.kids:=by rw[hks];simp
   have hc:countV (valF e (t.args.getD 0 []))≤4:=by unfold countV;omega
   refine (eachD_drew x.draw t.key e pl (x.size σ) (countV (valF e (t.args.getD 0 []))) (fun n hn y st=> ?_) _ 0 [] st (by omega) (by omega)).mono ?_
   ·have h:=r.kids x hxm
    unfold itIn at h
    rw[if_pos k3] at h
    exact ihk x hxm _ _ _ _ _ h (hs.item hd4 ⟨hn.1,by omega⟩ _) (by simp;omega)
   ·have:=zR (x.size σ) hc
    have hm4:mulK t.kind=4:=by rw[k3];rfl
    rw[hks,hm4] at hz
    simp only[List.map_cons,List.sum_cons] at hz
    omega
 split
 ·rename_i k0 k1 k2 k3 k4
  obtain ⟨j,hj,hij,hjl,hpr⟩:=right_tag r.head k4
  rw[hj] at hpr
  unfold propsAt at hpr
  rw[Int.toNat_natCast,zB hjl] at hpr
  simp at hpr
  refine ⟨[⟨pl,t.tag,t.args.map (valF e),e.pay⟩],[],by simp,by simp,by simp[holes_mk],?_,fun x hx=> ?_,fun x hx=> ?_⟩
  ·rw[if_pos k4] at hsz
   simp[cnt_mk]
   omega
  ·rw[List.mem_singleton.1 hx]
   refine ⟨⟨j,_,hj,hij,zB hjl,by simp[hpr],by simp only;omega⟩,fun v hv=> ?_,⟨hs.fits.y,hs.pay⟩,hs.fits.vy⟩
   obtain ⟨f,hf,rfl⟩:=List.mem_map.1 hv
   exact hval f hf
  ·rw[List.mem_singleton.1 hx]
   exact Tre.nice_mk.2 ⟨by simp,by simp⟩
 ·rename_i k0 k1 k2 k3 k4
  have hok:(valF e (t.args.getD 0 [])).ok=true:=by
   obtain ⟨f,hf⟩:=args_one r.head k1 k4
   rw[hf]
   exact hval f (by rw[hf];simp)
  exact (hall _ (hs.give (n:=t.tag.toNat) hok) (by omega) st).mono (by omega)
set_option maxRecDepth 100000
structure Dft where
 call:Cal
 states:List Val
 trees:List Tre
 calls:List Cal
 heard:List Hrd
def Dft.enc (d:Dft):List D:=[.sl 2 (d.call.place.map Slt.enc), .int .i64 d.call.comp, .sl 3 (d.call.props.map Val.enc), .sl 3 (d.call.pay.map Val.enc), .sl 3 (d.states.map Val.enc), .sl 5 (d.trees.map Tre.enc), .sl 4 (d.calls.map Cal.enc), .sl 2 (d.heard.map Hrd.enc)]
def zeroC:Comp:=⟨0,[],[], .mk 0 0 [] [] [] [] []⟩
def compAt (P:List Comp) (n:Int):Comp:=P.getD n.toNat zeroC
def callE (S:List Cell) (k:Comp) (c:Cal):VE:=⟨c.props,stAt S k c.place,[],c.pay⟩
def callD (S:List Cell) (k:Comp) (c:Cal):List Tre×DS:=k.body.draw (callE S k c) (c.place++[⟨0,0⟩]) ⟨[],[],0⟩
def draftOf (P:List Comp) (S:List Cell) (c:Cal):Dft:=
 ⟨c,stAt S (compAt P c.comp) c.place,(callD S (compAt P c.comp) c).1,(callD S (compAt P c.comp) c).2.calls,(callD S (compAt P c.comp) c).2.heard⟩
structure Sound (P:List Comp) (S:List Cell) (σ:Nat→Nat):Prop where
 fine:FineP P
 bP:sumL Comp.bulk P≤BULK
 bS:sumL Cell.bulk S≤BULK
 okS:storeOk S=true
 sz:IsSizes P σ
 small:σ 0<200
theorem states_ok {S:List Cell} (hS:storeOk S=true) {k:Comp} (hk:k.states.length≤3∧∀v∈k.states,v.ok=true) (p:List Slt):(stAt S k p).length=k.states.length∧∀v∈stAt S k p,v.ok=true:=by
 unfold stAt
 cases hf:found S p with
 |none=>exact ⟨rfl,hk.2⟩
 |some x=>
  simp only
  split
  ·rename_i h
   refine ⟨h,?_⟩
   unfold found at hf
   have hx:=List.mem_of_find?_eq_some hf
   have:∀(l:List Cell) (pr:Option (List Slt)),storeFrom pr l=true→∀x∈l,cellOk x=true:=by
    intro l
    induction l with
    |nil=>intro pr _ x hx;cases hx
    |cons y t ih=>
     intro pr h x hx
     unfold storeFrom at h
     obtain ⟨h1,h2⟩:=andT.1 h
     obtain ⟨_,h3⟩:=andT.1 h2
     rcases List.mem_cons.1 hx with rfl|hx
     ·exact h1
     ·exact ih _ h3 x hx
   have hc:=this S none (andT.1 hS).2 x hx
   unfold cellOk at hc
   exact fun v hv=>zL.1 (andT.1 (andT.1 hc).2).2 v hv
  ·exact ⟨rfl,hk.2⟩
theorem comp_states {P:List Comp} (h:FineP P) {k:Comp} (hk:k∈P):(k.states.length≤3∧∀v∈k.states,v.ok=true)∧0≤k.props:=by
 have hc:=h.comps k hk
 unfold compV at hc
 obtain ⟨h1,h2⟩:=andT.1 hc
 obtain ⟨h3,h4⟩:=andT.1 h2
 exact ⟨⟨of_decide_eq_true h3,fun v hv=>zL.1 (andT.1 h4).1 v hv⟩,(inR_iff.1 h1).1⟩
theorem compAt_eq {P:List Comp} {j:Nat} {k:Comp} (h:P[j]? =some k):compAt P (j:Int)=k:=by
 unfold compAt
 rw[Int.toNat_natCast,zM,h]
 rfl
structure Leads (P:List Comp) (S:List Cell) (σ:Nat→Nat) (j:Nat) (k:Comp) (c:Cal):Prop where
 comp:c.comp=j
 get:P[j]? =some k
 stand:Stand P j k 1 0 (callE S k c) (c.place++[⟨0,0⟩])
 drew:Drew P σ j (σ j) ⟨[],[],0⟩ (callD S k c)
 room:Room k.body.wt ⟨[],[],0⟩
 body:k.body.ok P j k 1 0=true
 bulk:k.body.bulk≤BULK
 st:k.states.length≤3
 pl:c.place.length≤30
theorem leads {P:List Comp} {S:List Cell} {σ:Nat→Nat} (h:Sound P S σ) {c:Cal} (hc:∃(j:Nat) (k:Comp),c.comp=j∧P[j]? =some k∧(c.props.length:Int)=k.props∧c.place.length≤10*j) (vp:∀v∈c.props,v.ok=true) (y:2≤c.pay.length∧c.pay.length≤1000) (vy:∀v∈c.pay,v.ok=true):∃(j:Nat) (k:Comp),Leads P S σ j k c:=by
 obtain ⟨j,k,hj,hk,hp,hl⟩:=hc
 have hm:=zF hk
 obtain ⟨hs,hp0⟩:=comp_states h.fine hm
 obtain ⟨s1,s2⟩:=states_ok h.okS hs c.place
 have hle:=h.fine.le
 obtain ⟨hlt,_⟩:=get_of hk
 have hb:k.body.bulk≤BULK:=by
  have:=sumL_mem h.bP hm
  unfold Comp.bulk at this
  omega
 have hok:=h.fine.bodies j k hk
 have hst:Stand P j k 1 0 (callE S k c) (c.place++[⟨0,0⟩]):=⟨by omega,⟨by unfold callE;simp only;omega,by unfold callE;simp only;omega,by unfold callE;simp,y.1,vp,s2,fun n hn=>by unfold callE at hn;simp at hn,vy,by unfold callE;simp⟩,by unfold callE;simp,y.2,by simp;omega⟩
 have hw:=wt_small (by omega) hok
 have hd:=draw_drew (σ:=σ) k.body 1 0 (callE S k c) (c.place++[⟨0,0⟩]) ⟨[],[],0⟩ hok hst (by simp;omega)
 rw[← (h.sz j k hk).1] at hd
 exact ⟨j,k,hj,hk,hst,hd,⟨by simp;omega,by simp;omega,by simp,by simp;omega⟩,hok,hb,hs.1,by omega⟩
theorem Cal.enc_eq (c:Cal):c.enc=[.sl 2 (c.place.map Slt.enc), .int .i64 c.comp, .sl 3 (c.props.map Val.enc), .sl 3 (c.pay.map Val.enc)]:=rfl
theorem R94 {P:List Comp} {S:List Cell} {σ:Nat→Nat} {j:Nat} {k:Comp} {c:Cal} (h:Leads P S σ j k c):
  R 94 [[.sl 10 (P.map Comp.enc)],c.enc,[.sl 3 ((stAt S k c.place).map Val.enc)]]=some [(draftOf P S c).enc]:=by
 have hT:=told P j k k.body 1 0 _ _ _ h.body h.bulk h.stand h.room
 have hbel:=R128 c.place (by have:=h.pl;unfold most;omega) 0 0
 have hca:compAt P c.comp=k:=by rw[h.comp];exact compAt_eq h.get
 unfold draftOf Dft.enc
 rw[hca]
 unfold Told at hT
 unfold callD callE at*
 generalize k.body.draw _ (c.place++[⟨0,0⟩]) ⟨[],[],0⟩=z at*
 obtain ⟨hlt,hg⟩:=get_of h.get
 have hke:=Comp.enc_eq k
 have hbe:=Tmpl.enc_eq k.body
 have hcm:=h.comp
 rw[Cal.enc_eq]
 rw[hbe] at hT
 unfold VE.enc DS.enc at hT
 refine q94.f rfl ?_
 simp at hT
 simp[t94_0,hcm,hlt,hg,hke,hbel,hT]
theorem R72 {P:List Comp} {S:List Cell} {σ:Nat→Nat} (hw:Sound P S σ) {j:Nat} {k:Comp} {c:Cal} (h:Leads P S σ j k c):
  R 72 [[.sl 10 (P.map Comp.enc)],[.sl 2 (S.map Cell.enc)],c.enc]=some [(draftOf P S c).enc]:=by
 have hT:=asked P S j k k.body 1 0 _ _ _ h.body h.bulk h.stand h.room
 have hbel:=R111 c.place (by have:=h.pl;unfold most;omega) 0 0
 have hst:=R109 P S hw.bS c.place j k h.get h.st
 have hca:compAt P c.comp=k:=by rw[h.comp];exact compAt_eq h.get
 unfold draftOf Dft.enc
 rw[hca]
 unfold Asked at hT
 unfold callD callE at*
 generalize k.body.draw _ (c.place++[⟨0,0⟩]) ⟨[],[],0⟩=z at*
 obtain ⟨hlt,hg⟩:=get_of h.get
 have hke:=Comp.enc_eq k
 have hbe:=Tmpl.enc_eq k.body
 have hcm:=h.comp
 rw[Cal.enc_eq]
 rw[hbe] at hT
 unfold VE.enc AS at hT
 refine q72.f rfl ?_
 simp at hT
 simp[t72_0,hcm,hlt,hg,hke,hbel,hst,hT]
set_option maxRecDepth 100000
def dAll (P:List Comp) (S:List Cell):Nat→Cal→List Dft
 |0,_=>[]
 |n+1,c=>draftOf P S c::(draftOf P S c).calls.flatMap (dAll P S n)
abbrev FillF:=List (List Tre)→List Tre×List (List Tre)
def fillAll:List FillF→FillF
 | [],os=>([],os)
 |f::t,os=>((f os).1++(fillAll t (f os).2).1,(fillAll t (f os).2).2)
def fillH (ky:Int):FillF
 |o::r=>(setKey ky o,r)
 | []=>([],[])
def Tre.fill (kl:List Tre→List Tre):Tre→FillF
 | .mk tg ky tx ps ks=>fun os=>if tg= -2 then fillH ky os else ([.mk tg ky tx ps (kl (fillAll (ks.map (Tre.fill kl)) os).1)],(fillAll (ks.map (Tre.fill kl)) os).2)
def fillL (kl:List Tre→List Tre) (ts:List Tre):FillF:=fillAll (ts.map (Tre.fill kl))
theorem Tre.fill_mk (kl:List Tre→List Tre) {tg ky:Int} {tx:List UInt8} {ps:List Prp} {ks:List Tre} (os:List (List Tre)):(Tre.mk tg ky tx ps ks).fill kl os=if tg= -2 then fillH ky os else ([.mk tg ky tx ps (kl (fillL kl ks os).1)],(fillL kl ks os).2):=by
 rw[Tre.fill]
 rfl
theorem fillL_nil (kl:List Tre→List Tre) (os:List (List Tre)):fillL kl [] os=([],os):=rfl
theorem fillL_cons (kl:List Tre→List Tre) (x:Tre) (t:List Tre) (os:List (List Tre)):fillL kl (x::t) os=((x.fill kl os).1++(fillL kl t (x.fill kl os).2).1,(fillL kl t (x.fill kl os).2).2):=rfl
def drawU (kl:List Tre→List Tre) (P:List Comp) (S:List Cell):Nat→Cal→List Tre
 |0,_=>[]
 |n+1,c=>(fillL kl (draftOf P S c).trees ((draftOf P S c).calls.map (drawU kl P S n))).1
def keyl:List Int→List Tre→List Tre
 |_,[]=>[]
 |seen, .mk tg ky tx ps ks::t=> .mk tg (if ky≠ -1∧ky∈seen then -1 else ky) tx ps ks::keyl (seen++[ky]) t
def Tre.deep:Tre→Tre
 | .mk tg ky tx ps ks=> .mk tg ky tx ps (keyl [] (ks.map Tre.deep))
theorem deep_mk {tg ky:Int} {tx:List UInt8} {ps:List Prp} {ks:List Tre}:(Tre.mk tg ky tx ps ks).deep= .mk tg ky tx ps (keyl [] (ks.map Tre.deep)):=by rw[Tre.deep]
theorem keyl_facts:∀(l:List Tre) (seen:List Int),cntL (keyl seen l)=cntL l∧(keyl seen l).length=l.length∧((∀x∈l,x.nice)→∀x∈keyl seen l,x.nice)
 | [],seen=>⟨rfl,rfl,fun h=>h⟩
 | .mk tg ky tx ps ks::t,seen=>by
  obtain ⟨a,b,c⟩:=keyl_facts t (seen++[ky])
  rw[keyl]
  refine ⟨by simp[cnt_mk,a],by simp[b],fun h x hx=> ?_⟩
  rcases List.mem_cons.1 hx with rfl|hx
  ·exact Tre.nice_mk.2 (Tre.nice_mk.1 (h (.mk tg ky tx ps ks) (by simp)))
  ·exact c (fun y hy=>h y (by simp[hy])) x hx
structure KlOk (kl:List Tre→List Tre):Prop where
 cnt:∀l,cntL (kl l)=cntL l
 nice:∀l,(∀x∈l,x.nice)→∀x∈kl l,x.nice
theorem klok_id:KlOk id:=⟨fun _=>rfl,fun _ h=>h⟩
theorem klok_key:KlOk (keyl []):=⟨fun l=>(keyl_facts l []).1,fun l=>(keyl_facts l []).2.2⟩
structure Filled (os:List (List Tre)) (h c:Nat) (r:List Tre×List (List Tre)):Prop where
 rest:r.2=os.drop h
 cnt:cntL r.1≤c+((os.take h).map cntL).sum
theorem sum_take_drop (os:List (List Tre)) (a b:Nat):((os.take (a+b)).map cntL).sum=((os.take a).map cntL).sum+(((os.drop a).take b).map cntL).sum:=by
 rw[List.take_add,List.map_append,List.sum_append]
theorem filled {kl:List Tre→List Tre} (hk:KlOk kl):∀(x:Tre) (os:List (List Tre)),x.holes≤os.length→Filled os x.holes x.cnt (x.fill kl os):=by
 refine Tre.ind fun tg ky tx ps ks ih os ho=> ?_
 have all:∀(l:List Tre),(∀x∈l,x∈ks)→∀os,holesL l≤os.length→Filled os (holesL l) (cntL l) (fillL kl l os):=by
  intro l
  induction l with
  |nil=>intro _ os _;exact ⟨by simp[fillL_nil],by simp[fillL_nil]⟩
  |cons x t ih2=>
   intro hm os ho
   rw[holesL_cons] at ho
   obtain ⟨a1,a2⟩:=ih x (hm x (by simp)) os (by omega)
   obtain ⟨b1,b2⟩:=ih2 (fun y hy=>hm y (by simp[hy])) (os.drop x.holes) (by simp;omega)
   rw[fillL_cons,a1]
   refine ⟨?_,?_⟩
   ·simp only[b1,holesL_cons,List.drop_drop]
   ·simp only[cntL_app,holesL_cons,cntL_cons,sum_take_drop]
    omega
 rw[Tre.fill_mk]
 rw[holes_mk] at ho ⊢
 rw[cnt_mk]
 by_cases h:tg= -2
 ·rw[if_pos h] at ho ⊢
  rw[if_pos h]
  match os,ho with
  |o::r,_=>
   refine ⟨rfl,?_⟩
   have:=(setKey_facts ky o).1
   simp[fillH]
   omega
 ·rw[if_neg h] at ho ⊢
  rw[if_neg h]
  obtain ⟨a1,a2⟩:=all ks (fun _ hx=>hx) os ho
  refine ⟨a1,?_⟩
  simp only[cntL_cons,cnt_mk,cntL_nil,hk.cnt]
  omega
theorem filledL {kl:List Tre→List Tre} (hk:KlOk kl):∀(l:List Tre) (os:List (List Tre)),holesL l≤os.length→Filled os (holesL l) (cntL l) (fillL kl l os)
 | [],os,_=>⟨by simp[fillL_nil],by simp[fillL_nil]⟩
 |x::t,os,ho=>by
  rw[holesL_cons] at ho
  obtain ⟨a1,a2⟩:=filled hk x os (by omega)
  obtain ⟨b1,b2⟩:=filledL hk t (os.drop x.holes) (by simp;omega)
  rw[fillL_cons,a1]
  refine ⟨?_,?_⟩
  ·simp only[b1,holesL_cons,List.drop_drop]
  ·simp only[cntL_app,holesL_cons,cntL_cons,sum_take_drop]
   omega
theorem fill_nice {kl:List Tre→List Tre} (hk:KlOk kl):∀(x:Tre) (os:List (List Tre)),x.nice→(∀o∈os,∀y∈o,y.nice)→(∀y∈(x.fill kl os).1,y.nice)∧∀o∈(x.fill kl os).2,∀y∈o,y.nice:=by
 refine Tre.ind fun tg ky tx ps ks ih os hx ho=> ?_
 obtain ⟨hp,hks⟩:=Tre.nice_mk.1 hx
 have all:∀(l:List Tre),(∀x∈l,x∈ks)→∀os,(∀o∈os,∀y∈o,y.nice)→(∀y∈(fillL kl l os).1,y.nice)∧∀o∈(fillL kl l os).2,∀y∈o,y.nice:=by
  intro l
  induction l with
  |nil=>intro _ os ho;exact ⟨by simp[fillL_nil],ho⟩
  |cons x t ih2=>
   intro hm os ho
   obtain ⟨a1,a2⟩:=ih x (hm x (by simp)) os (hks x (hm x (by simp))) ho
   obtain ⟨b1,b2⟩:=ih2 (fun y hy=>hm y (by simp[hy])) _ a2
   rw[fillL_cons]
   refine ⟨fun y hy=> ?_,b2⟩
   rcases zT.1 hy with h|h
   ·exact a1 y h
   ·exact b1 y h
 rw[Tre.fill_mk]
 by_cases h:tg= -2
 ·rw[if_pos h]
  cases os with
  |nil=>exact ⟨by simp[fillH],by simp[fillH]⟩
  |cons o r=>exact ⟨(setKey_facts ky o).2.2 (ho o (by simp)),fun q hq=>ho q (by simp[fillH] at hq;simp[hq])⟩
 ·rw[if_neg h]
  obtain ⟨a1,a2⟩:=all ks (fun _ hx=>hx) os ho
  refine ⟨fun y hy=> ?_,a2⟩
  rw[List.mem_singleton.1 hy]
  exact Tre.nice_mk.2 ⟨hp,hk.nice _ a1⟩
theorem fillL_nice {kl:List Tre→List Tre} (hk:KlOk kl):∀(l:List Tre) (os:List (List Tre)),(∀x∈l,x.nice)→(∀o∈os,∀y∈o,y.nice)→(∀y∈(fillL kl l os).1,y.nice)∧∀o∈(fillL kl l os).2,∀y∈o,y.nice
 | [],os,_,ho=>⟨by simp[fillL_nil],ho⟩
 |x::t,os,hx,ho=>by
  obtain ⟨a1,a2⟩:=fill_nice hk x os (hx x (by simp)) ho
  obtain ⟨b1,b2⟩:=fillL_nice hk t _ (fun y hy=>hx y (by simp[hy])) a2
  rw[fillL_cons]
  refine ⟨fun y hy=> ?_,b2⟩
  rcases zT.1 hy with h|h
  ·exact a1 y h
  ·exact b1 y h
theorem setKey_deep (k:Int) (l:List Tre):(setKey k l).map Tre.deep=setKey k (l.map Tre.deep):=by
 cases l with
 |nil=>rfl
 |cons x t=>
  obtain ⟨tg,ky,tx,ps,ks⟩:=x
  rw[List.map_cons,deep_mk,setKey,setKey]
  split
  ·rw[List.map_cons,deep_mk]
  ·rw[List.map_cons,deep_mk]
theorem fill_deep:∀(x:Tre) (os:List (List Tre)),(x.fill id os).1.map Tre.deep=(x.fill (keyl []) (os.map (List.map Tre.deep))).1∧(x.fill id os).2.map (List.map Tre.deep)=(x.fill (keyl []) (os.map (List.map Tre.deep))).2:=by
 refine Tre.ind fun tg ky tx ps ks ih os=> ?_
 have all:∀(l:List Tre),(∀x∈l,x∈ks)→∀os,(fillL id l os).1.map Tre.deep=(fillL (keyl []) l (os.map (List.map Tre.deep))).1∧(fillL id l os).2.map (List.map Tre.deep)=(fillL (keyl []) l (os.map (List.map Tre.deep))).2:=by
  intro l
  induction l with
  |nil=>intro _ os;exact ⟨rfl,rfl⟩
  |cons x t ih2=>
   intro hm os
   obtain ⟨a1,a2⟩:=ih x (hm x (by simp)) os
   obtain ⟨b1,b2⟩:=ih2 (fun y hy=>hm y (by simp[hy])) (x.fill id os).2
   rw[fillL_cons,fillL_cons]
   rw[a2] at b1 b2
   exact ⟨by simp only[List.map_append,a1,b1],b2⟩
 rw[Tre.fill_mk,Tre.fill_mk]
 by_cases h:tg= -2
 ·rw[if_pos h,if_pos h]
  cases os with
  |nil=>exact ⟨rfl,rfl⟩
  |cons o r=>exact ⟨setKey_deep ky o,rfl⟩
 ·rw[if_neg h,if_neg h]
  obtain ⟨a1,a2⟩:=all ks (fun _ hx=>hx) os
  refine ⟨?_,a2⟩
  simp only[List.map_cons,List.map_nil,deep_mk,id,a1]
theorem fillL_deep:∀(l:List Tre) (os:List (List Tre)),(fillL id l os).1.map Tre.deep=(fillL (keyl []) l (os.map (List.map Tre.deep))).1∧(fillL id l os).2.map (List.map Tre.deep)=(fillL (keyl []) l (os.map (List.map Tre.deep))).2
 | [],os=>⟨rfl,rfl⟩
 |x::t,os=>by
  obtain ⟨a1,a2⟩:=fill_deep x os
  obtain ⟨b1,b2⟩:=fillL_deep t (x.fill id os).2
  rw[fillL_cons,fillL_cons]
  rw[a2] at b1 b2
  exact ⟨by simp only[List.map_append,a1,b1],b2⟩
theorem draw_deep (P:List Comp) (S:List Cell):∀(n:Nat) (c:Cal),(drawU id P S n c).map Tre.deep=drawU (keyl []) P S n c
 |0,_=>rfl
 |n+1,c=>by
  rw[drawU,drawU,(fillL_deep _ _).1,List.map_map]
  rw[show (List.map Tre.deep ∘ drawU id P S n)=drawU (keyl []) P S n from funext fun c=>draw_deep P S n c]
set_option maxRecDepth 100000
theorem good_leads {P:List Comp} {S:List Cell} {σ:Nat→Nat} (h:Sound P S σ) {i:Nat} {c:Cal} (g:c.Good P i):∃(j:Nat) (k:Comp),i<j∧Leads P S σ j k c:=by
 obtain ⟨j,k,a,b,e,f,d⟩:=g.comp
 obtain ⟨j',k',L⟩:=leads h ⟨j,k,a,e,f,d⟩ g.vp g.y g.vy
 have:j'=j:=by have:=L.comp;omega
 exact ⟨j',k',by omega,L⟩
structure Has (P:List Comp) (S:List Cell) (σ:Nat→Nat) (j:Nat) (d:Dft):Prop where
 holes:holesL d.trees=d.calls.length
 cnt:cntL d.trees+(d.calls.map fun c=>σ c.comp.toNat).sum≤σ j
 good:∀c∈d.calls,c.Good P j
 nice:∀x∈d.trees,x.nice
theorem leads_has {P:List Comp} {S:List Cell} {σ:Nat→Nat} {j:Nat} {k:Comp} {c:Cal} (h:Leads P S σ j k c):Has P S σ j (draftOf P S c):=by
 obtain ⟨cs,hs,a1,a2,a3,a4,a5,a6⟩:=h.drew.ex
 have hca:compAt P c.comp=k:=by rw[h.comp];exact compAt_eq h.get
 simp only[List.nil_append] at a1
 unfold draftOf
 rw[hca]
 exact ⟨by simp only[a1,a3],by simp only[a1];exact a4,by simp only[a1];exact a5,a6⟩
theorem holes_le_cnt:∀x:Tre,x.holes≤x.cnt:=by
 refine Tre.ind fun tg ky tx ps ks ih=> ?_
 rw[holes_mk,cnt_mk]
 have all:∀(l:List Tre),(∀x∈l,x∈ks)→holesL l≤cntL l:=by
  intro l
  induction l with
  |nil=>intro _;simp
  |cons x t ih2=>
   intro hm
   have:=ih x (hm x (by simp))
   have:=ih2 fun y hy=>hm y (by simp[hy])
   simp only[holesL_cons,cntL_cons]
   omega
 have:=all ks fun _ h=>h
 split<;>omega
theorem holesL_le (l:List Tre):holesL l≤cntL l:=by
 induction l with
 |nil=>simp
 |cons x t ih=>have:=holes_le_cnt x;simp only[holesL_cons,cntL_cons];omega
theorem sz_pos {P:List Comp} {S:List Cell} {σ:Nat→Nat} (h:Sound P S σ) {j:Nat} {k:Comp} (hk:P[j]? =some k):1≤σ j:=by
 rw[(h.sz j k hk).1,Tmpl.size_eq]
 omega
theorem sum_le_sum {α:Type} {f g:α→Nat}:∀{l:List α},(∀x∈l,f x≤g x)→(l.map f).sum≤(l.map g).sum
 | [],_=>Nat.le_refl _
 |x::t,h=>by
  have:=h x (by simp)
  have:=sum_le_sum (l:=t) fun y hy=>h y (by simp[hy])
  simp
  omega
theorem dAll_len {P:List Comp} {S:List Cell} {σ:Nat→Nat} (h:Sound P S σ):∀(n:Nat) (c:Cal) (j:Nat) (k:Comp),Leads P S σ j k c→(dAll P S n c).length≤σ j
 |0,_,_,_,_=>by simp[dAll]
 |n+1,c,j,k,L=>by
  have H:=leads_has L
  have hp:=sz_pos h L.get
  rw[dAll,List.length_cons,List.length_flatMap]
  have h1:((draftOf P S c).calls.map fun c=>(dAll P S n c).length).sum≤((draftOf P S c).calls.map fun c=>σ c.comp.toNat).sum:=sum_le_sum fun c' hc'=>by
   obtain ⟨j',k',_,L'⟩:=good_leads h (H.good c' hc')
   have:=dAll_len h n c' j' k' L'
   rw[L'.comp]
   simpa using this
  have h2:=H.cnt
  have h3:=H.holes
  have h4:=holesL_le (draftOf P S c).trees
  cases hcs:(draftOf P S c).calls with
  |nil=>simp;omega
  |cons x t=>
   rw[hcs] at h1 h2 h3
   simp only[List.length_cons] at h3
   omega
theorem drawU_cnt {P:List Comp} {S:List Cell} {σ:Nat→Nat} (h:Sound P S σ) {kl:List Tre→List Tre} (hk:KlOk kl):∀(n:Nat) (c:Cal) (j:Nat) (k:Comp),Leads P S σ j k c→cntL (drawU kl P S n c)≤σ j∧∀x∈drawU kl P S n c,x.nice
 |0,_,_,_,_=>by simp[drawU]
 |n+1,c,j,k,L=>by
  have H:=leads_has L
  rw[drawU]
  have h1:((draftOf P S c).calls.map fun c=>cntL (drawU kl P S n c)).sum≤((draftOf P S c).calls.map fun c=>σ c.comp.toNat).sum:=sum_le_sum fun c' hc'=>by
   obtain ⟨j',k',_,L'⟩:=good_leads h (H.good c' hc')
   have:=(drawU_cnt h hk n c' j' k' L').1
   rw[L'.comp]
   simpa using this
  have F:=filledL hk (draftOf P S c).trees ((draftOf P S c).calls.map (drawU kl P S n)) (by rw[List.length_map,H.holes];exact Nat.le_refl _)
  have N:=fillL_nice hk (draftOf P S c).trees ((draftOf P S c).calls.map (drawU kl P S n)) H.nice (fun o ho y hy=>by
   obtain ⟨c',hc',rfl⟩:=List.mem_map.1 ho
   obtain ⟨j',k',_,L'⟩:=good_leads h (H.good c' hc')
   exact (drawU_cnt h hk n c' j' k' L').2 y hy)
  refine ⟨?_,N.1⟩
  have h2:=F.cnt
  rw[H.holes,List.take_of_length_le (by simp),List.map_map] at h2
  have h3:=H.cnt
  have:(List.map (cntL ∘ drawU kl P S n) (draftOf P S c).calls).sum=((draftOf P S c).calls.map fun c=>cntL (drawU kl P S n c)).sum:=rfl
  omega
theorem sz_small {P:List Comp} {S:List Cell} {σ:Nat→Nat} (h:Sound P S σ) {j:Nat} {k:Comp} (hk:P[j]? =some k):σ j≤5000000000:=by
 rw[(h.sz j k hk).1]
 exact size_small h.fine.le h.sz (Int.le_refl 1) (h.fine.bodies j k hk)
set_option maxRecDepth 100000
def Tre.setk (x:Tre) (k:Int):Tre:= .mk x.tag k x.text x.props x.kids
@[simp] theorem setk_key (x:Tre) (k:Int):(x.setk k).key=k:=by unfold Tre.setk;simp
theorem put_keyat {l:List Tre} {n:Nat} {x:Tre} {k:Int} (h:l[n]? =some x):putpD 1 5 true n [.int .i64 k] (.sl 5 (l.map Tre.enc))=some (.sl 5 ((l.set n (x.setk k)).map Tre.enc)):=by
 show ((l.map Tre.enc)[n]?.bind fun row=>_)=_
 rw[zK,h]
 have hx:=Tre.enc_eq x
 have hy:=Tre.enc_eq (x.setk k)
 unfold Tre.setk at hy
 simp only[Tre.tag_mk,Tre.key_mk,Tre.text_mk,Tre.props_mk,Tre.kids_mk] at hy
 simp[setCells,List.map_set,hx,Tre.setk,hy]
theorem inner0 {l:List Tre} {i:Nat} {x:Tre} (hx:l[i]? =some x) (hk:x.key= -1) (hl:l.length≤most) {r:List (List D)} (h:q97.go 0 [.sl 5 (l.map Tre.enc), .int .i64 ((i:Int)+1)]=some r):∀(m k:Nat),k+m=i→q97.go 1 [.sl 5 (l.map Tre.enc), .int .i64 i, .int .i64 k]=some r:=by
 obtain ⟨hi,hg⟩:=get_of hx
 have hxe:=Tre.enc_eq x
 have hwi:=most_wrap (n:=i) (by omega) (by omega)
 intro m
 induction m with
 |zero=>
  intro k hk'
  obtain rfl:k=i:=by omega
  refine q97.g 1 rfl rfl rfl ?_
  simp[t97_2,hwi,h]
 |succ m ih=>
  intro k hk'
  have hlt:k<i:=by omega
  have hw:=most_wrap (n:=k) (by omega) (by omega)
  have ih:=ih (k+1) (by omega)
  refine q97.g 1 rfl rfl rfl ?_
  simp at ih
  simp[t97_2,hlt,hi,hg,hxe,hk,hw,ih]
def Tre.keyIn (x:Tre) (l:List Int):Tre:=if x.key≠ -1∧x.key∈l then x.setk (-1) else x
theorem inner1 {pre post:List Tre} {x:Tre} (hl:(pre++x::post).length≤most) {r:List (List D)}:∀(suf:List Tre) (k:Nat),k≤pre.length→pre.drop k=suf→q97.go 0 [.sl 5 ((pre++x.keyIn (suf.map Tre.key)::post).map Tre.enc), .int .i64 ((pre.length:Int)+1)]=some r→
  q97.go 1 [.sl 5 ((pre++x::post).map Tre.enc), .int .i64 pre.length, .int .i64 k]=some r:=by
 intro suf
 induction suf with
 |nil=>
  intro k hk hd h
  have:=drop_nil hd hk
  subst this
  have he:x.keyIn (([]:List Tre).map Tre.key)=x:=by unfold Tre.keyIn;rw[if_neg (by simp)]
  rw[he] at h
  have hwi:=most_wrap (n:=pre.length) (by omega) (by simp at hl;omega)
  refine q97.g 1 rfl rfl rfl ?_
  simp at h
  simp[t97_2,hwi,h]
 |cons y t ih=>
  intro k hk hd h
  obtain ⟨hy,hlt,hd'⟩:=drop_cons hd
  have hxl:(pre++x::post)[pre.length]? =some x:=raw_get pre post x
  have hyl:(pre++x::post)[k]? =some y:=by rw[zI hlt];exact hy
  have hset:=raw_set pre post x (x.setk (-1))
  have hpk:=put_keyat (k:= -1) hxl
  rw[hset] at hpk
  have hw:=most_wrap (n:=k) (by omega) (by simp at hl;omega)
  have h0:=fun h'=>inner0 (l:=pre++x.setk (-1)::post) (i:=pre.length) (x:=x.setk (-1)) (raw_get _ _ _) (by simp) (by simpa using hl) (r:=r) h' (pre.length-(k+1)) (k+1) (by omega)
  have h00:=fun (hk:x.key= -1) h'=>inner0 (l:=pre++x::post) (i:=pre.length) (x:=x) (raw_get _ _ _) hk hl (r:=r) h' (pre.length-k) k (by omega)
  by_cases hk1:x.key= -1
  ·have he:x.keyIn ((y::t).map Tre.key)=x:=by unfold Tre.keyIn;rw[if_neg (fun h=>h.1 hk1)]
   rw[he] at h
   exact h00 hk1 h
  ·have hll:pre.length<(pre++x::post).length:=by simp
   have hlk:k<(pre++x::post).length:=by simp;omega
   obtain ⟨_,hgx⟩:=get_of hxl
   obtain ⟨_,hgy⟩:=get_of hyl
   have hxe:=Tre.enc_eq x
   have hye:=Tre.enc_eq y
   by_cases hyk:x.key=y.key
   ·have he:x.keyIn ((y::t).map Tre.key)=x.setk (-1):=by unfold Tre.keyIn;rw[if_pos ⟨hk1,by simp[hyk]⟩]
    rw[he] at h
    have h0:=h0 h
    generalize pre++x.setk (-1)::post=l2 at*
    generalize pre++x::post=l at*
    refine q97.g 1 rfl rfl rfl ?_
    simp at h0
    simp[t97_2,hlt,hll,hlk,hgx,hgy,hxe,hye,hk1,← hyk,hpk,hw,h0]
   ·have he:x.keyIn ((y::t).map Tre.key)=x.keyIn (t.map Tre.key):=by unfold Tre.keyIn;simp[hyk]
    rw[he] at h
    have ih:=ih (k+1) hlt hd' h
    generalize pre++x::post=l at*
    refine q97.g 1 rfl rfl rfl ?_
    simp at ih
    simp[t97_2,hlt,hll,hlk,hgx,hgy,hxe,hye,hk1,hyk,hw,ih]
theorem keyl_cons (seen:List Int) (x:Tre) (t:List Tre):keyl seen (x::t)=x.keyIn seen::keyl (seen++[x.key]) t:=by
 obtain ⟨tg,ky,tx,ps,ks⟩:=x
 rw[keyl]
 unfold Tre.keyIn Tre.setk
 simp only[Tre.tag_mk,Tre.key_mk,Tre.text_mk,Tre.props_mk,Tre.kids_mk]
 split<;>rfl
theorem R97 (l:List Tre) (hl:l.length≤most):R 97 [[.sl 5 (l.map Tre.enc)]]=some [[.sl 5 ((keyl [] l).map Tre.enc)]]:=by
 have loop:∀(suf pre:List Tre) (seen:List Int),(pre++suf).length≤most→(∀k:Int,k≠ -1→(k∈pre.map Tre.key↔k∈seen))→q97.go 0 [.sl 5 ((pre++suf).map Tre.enc), .int .i64 pre.length]=some [[.sl 5 ((pre++keyl seen suf).map Tre.enc)]]:=by
  intro suf
  induction suf with
  |nil=>
   intro pre seen hl hs
   refine q97.g 0 rfl rfl rfl ?_
   simp[t97_1,keyl]
  |cons x t ih=>
   intro pre seen hl hs
   have he:x.keyIn seen=x.keyIn (pre.map Tre.key):=by
    unfold Tre.keyIn
    by_cases hk:x.key= -1
    ·simp[hk]
    ·simp only[hs x.key hk]
   have ih:=ih (pre++[x.keyIn seen]) (seen++[x.key]) (by simpa using hl) (fun k hk=>by
    have:=hs k hk
    unfold Tre.keyIn
    split
    ·rename_i h
     simp only[List.map_append,List.map_cons,List.map_nil,zT,List.mem_singleton,setk_key,this]
     constructor
     ·rintro (h'|h')
      ·exact .inl h'
      ·exact absurd h' hk
     ·rintro (h'|h')
      ·exact .inl h'
      ·rw[h'];exact .inl h.2
    ·simp only[List.map_append,List.map_cons,List.map_nil,zT,List.mem_singleton,this])
   rw[keyl_cons]
   have h1:=inner1 (pre:=pre) (x:=x) (post:=t) hl pre 0 (by omega) rfl (r:=[[.sl 5 ((pre++x.keyIn seen::keyl (seen++[x.key]) t).map Tre.enc)]]) (by rw[← he];simpa using ih)
   refine q97.g 0 rfl rfl rfl ?_
   have hlt:(pre.length:Int)<(pre++x::t).length:=by simp
   generalize pre++x::t=l at*
   simp at h1
   simp[t97_1,hlt,h1]
 have h:=loop l [] [] hl (fun k _=>by simp)
 refine q97.f rfl ?_
 simp at h
 simp[t97_0,h]
set_option maxRecDepth 100000
def encO (o:List Tre):List D:=[.sl 5 (o.map Tre.enc)]
def BIG:Nat:=100000000
theorem sum_split (os:List (List Tre)) (h:Nat):(os.map cntL).sum=((os.take h).map cntL).sum+((os.drop h).map cntL).sum:=by
 rw[← List.sum_append,← List.map_append,List.take_append_drop]
@[simp] theorem op_at00 {o o' sz:Nat} {pre post:List (List D)} {x:List D} {n:Int} (h:0≤n):Op1.ev (.at [o,o']) [.sl sz (pre++x::post), .int .i64 pre.length, .int .i64 n]=((x[o]?).bind fun d=>d.at [(n.toNat,o')]).map ([·]):=by
 simp only[Op1.ev,mkWay,if_pos (Int.natCast_nonneg _),if_pos h,Int.toNat_natCast,Option.map_some,Option.bind_some,D.at,cellAt,raw_get]
 cases x[o]? <;>rfl
@[simp] theorem op_putpm {o off sz sz1:Nat} {fl:Bool} {pre post:List (List D)} {x:List D} {n:Int} {cs:List D} (h:0≤n):Op1.ev (.putp [o] off sz fl) (.sl sz1 (pre++x::post):: .int .i64 n:: .int .i64 pre.length::cs)=(x[o]?).bind fun d=>(putpD off sz fl n.toNat cs d).map fun d'=>[.sl sz1 (pre++x.set o d'::post)]:=by
 simp only[Op1.ev,List.take,List.drop,List.length,mkWay,if_pos (Int.natCast_nonneg _),if_pos h,Int.toNat_natCast,Option.map_some,Option.bind_some,D.setAt,raw_get,raw_set]
 cases x[o]? with
 |none=>rfl
 |some d=>simp only[Option.bind_some];cases putpD off sz fl n.toNat cs d<;>rfl
def FillT (ts:List Tre):Prop:=∀(pre:List (List D)) (os:List (List Tre)),holesL ts≤os.length→pre.length+os.length≤BIG→cntL ts+(os.map cntL).sum≤BIG→
 ∃pre':List (List D),pre'.length=pre.length+holesL ts∧R 96 [[.sl 1 (pre++os.map encO), .int .i64 pre.length],[.sl 5 (ts.map Tre.enc)]]=some [[.sl 5 ((fillL (keyl []) ts os).1.map Tre.enc)],[.sl 1 (pre'++(fillL (keyl []) ts os).2.map encO), .int .i64 pre'.length]]
theorem J96 (pre:List (List D)) (os:List (List Tre)) (o:List Tre) (ts acc:List Tre) (n:Nat) (hn:n<most) (hb:acc.length+o.length≤most) {r:List (List D)}
  (h:q96.go 0 [.sl 1 ((pre++[[.dead]])++os.map encO), .int .i64 ((pre++[[D.dead]]).length), .sl 5 (ts.map Tre.enc), .sl 5 ((acc++o).map Tre.enc), .int .i64 ((n:Int)+1)]=some r):
  q96.go 1 [.sl 1 (pre++(encO o)::os.map encO), .int .i64 ((pre.length:Int)+1), .sl 5 (ts.map Tre.enc), .sl 5 (acc.map Tre.enc), .int .i64 n, .dead, .int .i64 pre.length]=some r:=by
 have hap:=op_app_f (sz:=5) (xs:=acc.map Tre.enc) (ys:=o.map Tre.enc) (by simpa using hb)
 have hw:=most_wrap (n:=n) (by omega) (by omega)
 refine q96.g 1 rfl rfl rfl ?_
 simp at h
 simp[t96_2,encO,hap,hw,h]
theorem fillT_of (ts:List Tre) (hk:∀x∈ts,FillT x.kids):FillT ts:=by
 intro pre os ho hp hc
 have hnl:ts.length≤BIG:=by have:=len_cntL ts;omega
 have hBm:BIG<most:=by decide
 have loop:∀(suf:List Tre) (n:Nat) (pre:List (List D)) (os:List (List Tre)) (acc:List Tre),n≤ts.length→ts.drop n=suf→holesL suf≤os.length→pre.length+os.length≤BIG→acc.length+cntL suf+(os.map cntL).sum≤BIG→
   ∃pre':List (List D),pre'.length=pre.length+holesL suf∧q96.go 0 [.sl 1 (pre++os.map encO), .int .i64 pre.length, .sl 5 (ts.map Tre.enc), .sl 5 (acc.map Tre.enc), .int .i64 n]=some [[.sl 5 ((acc++(fillL (keyl []) suf os).1).map Tre.enc)],[.sl 1 (pre'++(fillL (keyl []) suf os).2.map encO), .int .i64 pre'.length]]:=by
  intro suf
  induction suf with
  |nil=>
   intro n pre os acc hn hd ho hp hc
   have:=drop_nil hd hn
   subst this
   refine ⟨pre,by simp,q96.g 0 rfl rfl rfl ?_⟩
   simp[t96_1,fillL_nil]
  |cons x t ih=>
   intro n pre os acc hn hd ho hp hc
   obtain ⟨hx,hlt,hd'⟩:=drop_cons hd
   obtain ⟨_,hg⟩:=get_of hx
   have hkx:=hk x (zF hx)
   rw[holesL_cons] at ho
   rw[cntL_cons] at hc
   have F:=filled klok_key x os (by omega)
   have hss:=sum_split os x.holes
   have hcl:=len_cntL (x.fill (keyl []) os).1
   have hFc:=F.cnt
   have hw:=most_wrap (n:=n) (by omega) (by omega)
   rw[fillL_cons,F.rest]
   have hIH:=fun (pre1:List (List D)) (hp1:pre1.length=pre.length+x.holes)=>ih (n+1) pre1 (os.drop x.holes) (acc++(x.fill (keyl []) os).1) hlt hd' (by rw[List.length_drop];omega) (by rw[List.length_drop];omega) (by rw[List.length_append];omega)
   have hxe:=Tre.enc_eq x
   obtain ⟨tg,ky,tx,ps,ks⟩:=x
   simp only[Tre.tag_mk,Tre.key_mk,Tre.text_mk,Tre.props_mk,Tre.kids_mk] at hxe hkx
   rw[Tre.fill_mk] at hIH hcl hFc ⊢
   rw[cnt_mk] at hc hFc
   rw[holes_mk] at hIH ho hss hFc ⊢
   rw[holesL_cons,holes_mk]
   by_cases h2:tg= -2
   ·rw[if_pos h2] at hIH ho hss hFc hcl ⊢
    rw[if_pos h2]
    rw[if_pos h2] at hIH hFc
    cases os with
    |nil=>simp only[List.length_nil] at ho;omega
    |cons o r=>
     simp only[fillH,List.drop_succ_cons,List.drop_zero] at hIH hcl hFc ⊢
     obtain ⟨pre',hp',hgo⟩:=hIH (pre++[[.dead]]) (by simp)
     refine ⟨pre',by rw[hp'];simp;omega,?_⟩
     rw[List.append_assoc] at hgo
     have hsk:=(setKey_facts ky o).1
     have hlo:=len_cntL o
     have hlk:=setKey_len ky o
     simp only[List.map_cons,List.sum_cons] at hc hss
     simp only[List.length_cons] at hp
     have hJ:=fun r' h=>J96 pre r (setKey ky o) ts acc n (by omega) (by omega) (r:=r') h
     rw[← List.append_assoc] at hgo
     have hj:=hJ _ hgo
     have hwp:=most_wrap (n:=pre.length) (by omega) (by omega)
     subst h2
     rw[← List.append_assoc]
     generalize (acc++setKey ky o)++_=out at*
     generalize fillL (keyl []) t r=q at*
     refine q96.g 0 rfl rfl rfl ?_
     cases o with
     |nil=>
      simp[setKey,encO] at hj
      simp[t96_1,hlt,hg,hxe,encO,hwp,hj]
     |cons y u=>
      obtain ⟨tg2,ky2,tx2,ps2,ks2⟩:=y
      have hye:=Tre.enc_eq (.mk tg2 ky2 tx2 ps2 ks2)
      simp only[Tre.tag_mk,Tre.key_mk,Tre.text_mk,Tre.props_mk,Tre.kids_mk] at hye
      by_cases c1:tg2= -1
      ·subst c1
       simp[setKey,encO,hye] at hj
       simp[t96_1,hlt,hg,hxe,hye,encO,hwp,D.at,cellAt,hj]
      ·by_cases c2:ky= -1
       ·subst c2
        simp[setKey,encO,hye] at hj
        simp[t96_1,hlt,hg,hxe,hye,encO,hwp,D.at,cellAt,c1,hj]
       ·have hp:=put_key (l:=Tre.mk tg2 ky2 tx2 ps2 ks2::u) (k:=ky) rfl
        have hye2:=Tre.enc_eq (.mk tg2 ky tx2 ps2 ks2)
        simp only[Tre.tag_mk,Tre.key_mk,Tre.text_mk,Tre.props_mk,Tre.kids_mk] at hye2
        simp[setKey,encO,hye,hye2,c1,c2] at hj hp
        simp[t96_1,hlt,hg,hxe,hye,encO,hwp,D.at,cellAt,c1,c2,hp,hj]
   ·rw[if_neg h2] at hIH ho hss hFc hcl ⊢
    rw[if_neg h2]
    rw[if_neg h2] at hIH hFc
    obtain ⟨pre1,hp1,hR⟩:=hkx pre os (by omega) hp (by omega)
    obtain ⟨pre',hp',hgo⟩:=hIH pre1 hp1
    refine ⟨pre',by rw[hp',hp1];omega,?_⟩
    have Fk:=filledL klok_key ks os (by omega)
    have hlk:=len_cntL (fillL (keyl []) ks os).1
    have hFk:=Fk.cnt
    rw[Fk.rest] at hR
    have hkl:=R97 (fillL (keyl []) ks os).1 (by omega)
    generalize (fillL (keyl []) ks os).1=kk at*
    have hap:=op_app_f (sz:=5) (xs:=acc.map Tre.enc) (ys:=[(Tre.mk tg ky tx ps (keyl [] kk)).enc]) (by simp;omega)
    have hye2:=Tre.enc_eq (.mk tg ky tx ps (keyl [] kk))
    simp only[Tre.tag_mk,Tre.key_mk,Tre.text_mk,Tre.props_mk,Tre.kids_mk] at hye2
    rw[← List.append_assoc]
    simp only at hgo ⊢
    generalize (acc++[Tre.mk tg ky tx ps (keyl [] kk)])++_=out at*
    generalize fillL (keyl []) t (os.drop (holesL ks))=q at*
    refine q96.g 0 rfl rfl rfl ?_
    simp[hye2] at hgo hap
    simp[t96_1,hlt,hg,hxe,h2,hR,hkl,hap,hw,hgo]
 obtain ⟨pre',h1,h2⟩:=loop ts 0 pre os [] (by omega) rfl ho hp (by simpa using hc)
 refine ⟨pre',h1,q96.f rfl ?_⟩
 simp at h2
 simp[t96_0,h2]
theorem fillT (ts:List Tre):FillT ts:=fillT_of ts fun x _=>(Tre.ind (p:=fun x=>FillT x.kids) (fun tg ky tx ps ks ih=>fillT_of ks ih) x)
set_option maxRecDepth 100000
theorem Dft.enc_eq (d:Dft):d.enc=[.sl 2 (d.call.place.map Slt.enc), .int .i64 d.call.comp, .sl 3 (d.call.props.map Val.enc), .sl 3 (d.call.pay.map Val.enc), .sl 3 (d.states.map Val.enc), .sl 5 (d.trees.map Tre.enc), .sl 4 (d.calls.map Cal.enc), .sl 2 (d.heard.map Hrd.enc)]:=rfl
@[simp] theorem op_lit8 {a b c d e f g h:D}:Op1.ev (.lit 8 [8]) [a,b,c,d,e,f,g,h]=some [.sl 8 [[a,b,c,d,e,f,g,h]]]:=Eq.trans rfl rfl
theorem take_flat {α β:Type} (l:List α) (f:α→List β) (m:Nat):((l.take m).flatMap f).length≤(l.flatMap f).length:=by
 have h:(l.flatMap f)=(l.take m).flatMap f++(l.drop m).flatMap f:=by rw[← List.flatMap_append,List.take_append_drop]
 rw[h,List.length_append]
 omega
theorem take_more {α:Type} {l:List α} {m:Nat} {x:α} (h:l[m]? =some x):l.take (m+1)=l.take m++[x]:=by
 rw[List.take_add_one,h]
 rfl
theorem mem_sum {α:Type} {f:α→Nat} {l:List α} {x:α} (h:x∈l):f x≤(l.map f).sum:=by
 induction l with
 |nil=>cases h
 |cons y t ih=>
  rw[List.map_cons,List.sum_cons]
  rcases List.mem_cons.1 h with rfl|h
  ·omega
  ·have:=ih h;omega
theorem kid_sz {P:List Comp} {S:List Cell} {σ:Nat→Nat} {j j':Nat} {k':Comp} {d:Dft} (H:Has P S σ j d) {c':Cal} (hc:c'∈d.calls) (L:Leads P S σ j' k' c'):σ j'≤σ j:=by
 have:=mem_sum (f:=fun c:Cal=>σ c.comp.toNat) hc
 have:=H.cnt
 rw[L.comp] at*
 simp only[Int.toNat_natCast] at*
 omega
theorem R56 {P:List Comp} {S:List Cell} {σ:Nat→Nat} (h:Sound P S σ):∀(n:Nat) (c:Cal) (j:Nat) (k:Comp),Leads P S σ j k c→P.length≤n+j→σ j≤1000→
  R 56 [[.sl 10 (P.map Comp.enc)],[.sl 2 (S.map Cell.enc)],c.enc]=some [[.sl 5 ((drawU (keyl []) P S n c).map Tre.enc), .sl 8 ((dAll P S n c).map Dft.enc)]]:=by
 intro n
 induction n with
 |zero=>
  intro c j k L hn _
  obtain ⟨hlt,_⟩:=get_of L.get
  omega
 |succ n ih=>
  intro c j k L hn hsz
  have H:=leads_has L
  have hst:=R95 S h.bS h.okS c.place k L.st
  have hdr:=R94 L
  have hall:=dAll_len h (n+1) c j k L
  rw[dAll] at hall ⊢
  rw[drawU]
  have hcc:=H.holes
  have hcn:=H.cnt
  have hhl:=holesL_le (draftOf P S c).trees
  have hfill:=fillT (draftOf P S c).trees [] ((draftOf P S c).calls.map (drawU (keyl []) P S n)) (by rw[List.length_map,hcc];exact Nat.le_refl _) (by rw[List.length_map];unfold BIG;simp;omega) (by
   have h1:((draftOf P S c).calls.map fun c=>cntL (drawU (keyl []) P S n c)).sum≤((draftOf P S c).calls.map fun c=>σ c.comp.toNat).sum:=sum_le_sum fun c' hc'=>by
    obtain ⟨j',k',_,L'⟩:=good_leads h (H.good c' hc')
    have:=(drawU_cnt h klok_key n c' j' k' L').1
    rw[L'.comp]
    simpa using this
   rw[List.map_map]
   unfold BIG
   have:(List.map (cntL ∘ drawU (keyl []) P S n) (draftOf P S c).calls).sum=((draftOf P S c).calls.map fun c=>cntL (drawU (keyl []) P S n c)).sum:=rfl
   omega)
  obtain ⟨pre',_,hfill⟩:=hfill
  have hkid:∀c'∈(draftOf P S c).calls,R 56 [[.sl 10 (P.map Comp.enc)],[.sl 2 (S.map Cell.enc)],c'.enc]=some [[.sl 5 ((drawU (keyl []) P S n c').map Tre.enc), .sl 8 ((dAll P S n c').map Dft.enc)]]:=fun c' hc'=>by
   obtain ⟨j',k',hj,L'⟩:=good_leads h (H.good c' hc')
   have:=kid_sz H hc' L'
   exact ih c' j' k' L' (by omega) (by omega)
  generalize draftOf P S c=d at*
  generalize fillL (keyl []) d.trees (d.calls.map (drawU (keyl []) P S n))=z at*
  have hall2:(d.calls.flatMap (dAll P S n)).length+1≤σ j:=by simpa using hall
  have hcl:d.calls.length≤1000:=by omega
  have hbm:(1000000:Nat)<most:=by decide
  have loop:∀(suf:List Cal) (m:Nat),m≤d.calls.length→d.calls.drop m=suf→
    q56.go 0 (.sl 10 (P.map Comp.enc):: .sl 2 (S.map Cell.enc)::(d.enc++[.sl 8 ((d::(d.calls.take m).flatMap (dAll P S n)).map Dft.enc), .bool true, .int .i64 m, .sl 1 (((d.calls.take m).map (drawU (keyl []) P S n)).map encO), .int .i64 0]))=
     some [[.sl 5 (z.1.map Tre.enc), .sl 8 ((d::d.calls.flatMap (dAll P S n)).map Dft.enc)]]:=by
   intro suf
   induction suf with
   |nil=>
    intro m hm hd
    have:=drop_nil hd hm
    subst this
    rw[List.take_length]
    generalize d::d.calls.flatMap (dAll P S n)=al at*
    generalize (d.calls.map (drawU (keyl []) P S n)).map encO=ol at*
    rw[Dft.enc_eq]
    refine q56.g 0 rfl rfl rfl ?_
    simp at hfill
    simp[t56_1,hfill]
   |cons x q ih2=>
    intro m hm hd
    obtain ⟨hx,hlt,hd'⟩:=drop_cons hd
    obtain ⟨_,hg⟩:=get_of hx
    have hw:=most_wrap (n:=m) (by omega) (by omega)
    have hkx:=hkid x (zF hx)
    have hih:=ih2 (m+1) hlt hd'
    have htf:=take_flat d.calls (dAll P S n) (m+1)
    generalize d::d.calls.flatMap (dAll P S n)=al at*
    rw[take_more hx,List.flatMap_append,List.map_append] at hih
    rw[take_more hx,List.flatMap_append] at htf
    simp only[List.flatMap_cons,List.flatMap_nil,List.append_nil,List.map_cons,List.map_nil,List.length_append] at hih htf
    have hta:((d.calls.take m).map (drawU (keyl []) P S n)).length≤1000:=by simp;omega
    generalize (d.calls.take m).flatMap (dAll P S n)=tf at*
    generalize (d.calls.take m).map (drawU (keyl []) P S n)=to at*
    generalize dAll P S n x=fx at*
    generalize drawU (keyl []) P S n x=ux at*
    have a1:=op_app_f (sz:=1) (xs:=to.map encO) (ys:=[encO ux]) (by simp;omega)
    have a2:=op_app_f (sz:=8) (xs:=(d::tf).map Dft.enc) (ys:=fx.map Dft.enc) (by rw[List.length_map,List.length_map,List.length_cons];omega)
    have hxe:=Cal.enc_eq x
    rw[hxe] at hkx
    have hde:=Dft.enc_eq d
    rw[hde] at hih ⊢
    refine q56.g 0 rfl rfl rfl ?_
    simp[encO,hde] at hih a1 a2
    simp[t56_1,hlt,hg,hxe,hkx,a1,a2,hw,hde,hih]
  have hl:=loop d.calls 0 (by omega) rfl
  have hce:=Cal.enc_eq c
  obtain ⟨hlt,hg⟩:=get_of L.get
  have hke:=Comp.enc_eq k
  have hcm:=L.comp
  rw[List.take_zero,List.flatMap_nil] at hl
  rw[hce] at hdr ⊢
  rw[hke] at hst
  generalize d::d.calls.flatMap (dAll P S n)=al at*
  have hde:=Dft.enc_eq d
  rw[hde] at hl hdr
  refine q56.f rfl ?_
  simp[hde] at hl
  simp[t56_0,hcm,hlt,hg,hke,hst]
  rw[hcm] at hdr
  simp[hdr,hl]
set_option maxRecDepth 100000
theorem R27 {P:List Comp} {S:List Cell} {σ:Nat→Nat} (h:Sound P S σ):∀(n:Nat) (c:Cal) (j:Nat) (k:Comp),Leads P S σ j k c→P.length≤n+j→σ j≤1000→
  R 27 [[.sl 10 (P.map Comp.enc)],[.sl 2 (S.map Cell.enc)],c.enc]=some [[.sl 8 ((dAll P S n c).map Dft.enc)]]:=by
 intro n
 induction n with
 |zero=>
  intro c j k L hn _
  obtain ⟨hlt,_⟩:=get_of L.get
  omega
 |succ n ih=>
  intro c j k L hn hsz
  have H:=leads_has L
  have hdr:=R72 h L
  have hall:=dAll_len h (n+1) c j k L
  rw[dAll] at hall ⊢
  have hcc:=H.holes
  have hcn:=H.cnt
  have hhl:=holesL_le (draftOf P S c).trees
  have hkid:∀c'∈(draftOf P S c).calls,R 27 [[.sl 10 (P.map Comp.enc)],[.sl 2 (S.map Cell.enc)],c'.enc]=some [[.sl 8 ((dAll P S n c').map Dft.enc)]]:=fun c' hc'=>by
   obtain ⟨j',k',hj,L'⟩:=good_leads h (H.good c' hc')
   have:=kid_sz H hc' L'
   exact ih c' j' k' L' (by omega) (by omega)
  generalize draftOf P S c=d at*
  have hall2:(d.calls.flatMap (dAll P S n)).length+1≤σ j:=by simpa using hall
  have hcl:d.calls.length≤1000:=by omega
  have hbm:(1000000:Nat)<most:=by decide
  have loop:∀(suf:List Cal) (m:Nat),m≤d.calls.length→d.calls.drop m=suf→
    q27.go 0 [.sl 10 (P.map Comp.enc), .sl 2 (S.map Cell.enc), .sl 8 ((d::(d.calls.take m).flatMap (dAll P S n)).map Dft.enc), .sl 4 (d.calls.map Cal.enc), .int .i64 d.calls.length, .int .i64 m]=
     some [[.sl 8 ((d::d.calls.flatMap (dAll P S n)).map Dft.enc)]]:=by
   intro suf
   induction suf with
   |nil=>
    intro m hm hd
    have:=drop_nil hd hm
    subst this
    rw[List.take_length]
    generalize d::d.calls.flatMap (dAll P S n)=al at*
    refine q27.g 0 rfl rfl rfl ?_
    simp[t27_1]
   |cons x q ih2=>
    intro m hm hd
    obtain ⟨hx,hlt,hd'⟩:=drop_cons hd
    obtain ⟨_,hg⟩:=get_of hx
    have hw:=most_wrap (n:=m) (by omega) (by omega)
    have hkx:=hkid x (zF hx)
    have hih:=ih2 (m+1) hlt hd'
    have htf:=take_flat d.calls (dAll P S n) (m+1)
    generalize d::d.calls.flatMap (dAll P S n)=al at*
    rw[take_more hx,List.flatMap_append] at hih
    rw[take_more hx,List.flatMap_append] at htf
    simp only[List.flatMap_cons,List.flatMap_nil,List.append_nil,List.map_cons,List.map_nil,List.length_append] at hih htf
    generalize (d.calls.take m).flatMap (dAll P S n)=tf at*
    generalize dAll P S n x=fx at*
    have a2:=op_app_f (sz:=8) (xs:=(d::tf).map Dft.enc) (ys:=fx.map Dft.enc) (by rw[List.length_map,List.length_map,List.length_cons];omega)
    have hxe:=Cal.enc_eq x
    rw[hxe] at hkx
    refine q27.g 0 rfl rfl rfl ?_
    simp at hih a2
    simp[t27_1,hlt,hg,hxe,hkx,a2,hw,hih]
  have hl:=loop d.calls 0 (by omega) rfl
  have hce:=Cal.enc_eq c
  rw[List.take_zero,List.flatMap_nil] at hl
  rw[hce] at hdr ⊢
  generalize d::d.calls.flatMap (dAll P S n)=al at*
  have hde:=Dft.enc_eq d
  rw[hde] at hdr
  refine q27.f rfl ?_
  simp[hde] at hl
  simp[t27_0,hdr,hl]
set_option maxRecDepth 100000
theorem fill_app {kl:List Tre→List Tre} (hkl:KlOk kl):∀(x:Tre) (os1 os2:List (List Tre)),x.holes≤os1.length→x.fill kl (os1++os2)=((x.fill kl os1).1,(x.fill kl os1).2++os2):=by
 refine Tre.ind fun tg ky tx ps ks ih os1 os2 ho=> ?_
 have all:∀(l:List Tre),(∀x∈l,x∈ks)→∀os1,holesL l≤os1.length→fillL kl l (os1++os2)=((fillL kl l os1).1,(fillL kl l os1).2++os2):=by
  intro l
  induction l with
  |nil=>intro _ os1 _;rfl
  |cons x t ih2=>
   intro hm os1 ho
   rw[holesL_cons] at ho
   have hx:=ih x (hm x (by simp)) os1 os2 (by omega)
   have hr:(x.fill kl os1).2.length=os1.length-x.holes:=by rw[(filled hkl x os1 (by omega)).rest,List.length_drop]
   rw[fillL_cons,fillL_cons,hx]
   rw[ih2 (fun y hy=>hm y (by simp[hy])) (x.fill kl os1).2 (by omega)]
 rw[Tre.fill_mk,Tre.fill_mk]
 rw[holes_mk] at ho
 by_cases h:tg= -2
 ·rw[if_pos h] at ho ⊢
  rw[if_pos h]
  cases os1 with
  |nil=>simp only[List.length_nil] at ho;omega
  |cons o r=>rfl
 ·rw[if_neg h] at ho ⊢
  rw[if_neg h,all ks (fun _ hx=>hx) os1 ho]
theorem fillL_app {kl:List Tre→List Tre} (hkl:KlOk kl):∀(l:List Tre) (os1 os2:List (List Tre)),holesL l≤os1.length→fillL kl l (os1++os2)=((fillL kl l os1).1,(fillL kl l os1).2++os2)
 | [],_,_,_=>rfl
 |x::t,os1,os2,ho=>by
  rw[holesL_cons] at ho
  have hx:=fill_app hkl x os1 os2 (by omega)
  have hr:(x.fill kl os1).2.length=os1.length-x.holes:=by rw[(filled hkl x os1 (by omega)).rest,List.length_drop]
  rw[fillL_cons,fillL_cons,hx]
  rw[fillL_app hkl t (x.fill kl os1).2 os2 (by omega)]
def FillA (P:List Comp) (S:List Cell) (σ:Nat→Nat) (L:List Dft) (n:Nat) (ts:List Tre):Prop:=
 ∀(cs:List Cal) (a:Nat) (rest:List Dft),holesL ts=cs.length→L.drop a=cs.flatMap (dAll P S n)++rest→(∀c∈cs,∃(j:Nat) (k:Comp),Leads P S σ j k c∧P.length≤n+j)→(∀x∈ts,x.nice)→cntL ts+(cs.map fun c=>σ c.comp.toNat).sum≤1000→
  R 71 [[.sl 8 (L.map Dft.enc), .int .i64 a],[.sl 5 (ts.map Tre.enc)]]=some [[.sl 5 ((fillL id ts (cs.map (drawU id P S n))).1.map Tre.enc)],[.sl 8 (L.map Dft.enc), .int .i64 ((a+(cs.flatMap (dAll P S n)).length:Nat):Int)]]
theorem drop_app {α:Type} {L r:List α} {l:List α} {a:Nat} (h:L.drop a=l++r):L.drop (a+l.length)=r:=by
 rw[← List.drop_drop,h,List.drop_left]
theorem fillA_of {P:List Comp} {S:List Cell} {σ:Nat→Nat} (h:Sound P S σ) {L:List Dft} (hL:L.length≤BIG) (n:Nat) (hprev:∀m,n=m+1→∀ts,FillA P S σ L m ts) (ts:List Tre) (hk:∀x∈ts,FillA P S σ L n x.kids):FillA P S σ L n ts:=by
 intro cs a rest ho hd hc hnc hb
 have hnl:ts.length≤1000:=by have:=len_cntL ts;omega
 have hBm:BIG+1000<most:=by decide
 have loop:∀(suf:List Tre) (m:Nat) (cs:List Cal) (a:Nat) (acc:List Tre),m≤ts.length→ts.drop m=suf→holesL suf=cs.length→L.drop a=cs.flatMap (dAll P S n)++rest→(∀c∈cs,∃(j:Nat) (k:Comp),Leads P S σ j k c∧P.length≤n+j)→acc.length+cntL suf+(cs.map fun c=>σ c.comp.toNat).sum≤1000→
   q71.go 0 [.sl 8 (L.map Dft.enc), .int .i64 a, .sl 5 (acc.map Tre.enc), .sl 5 (ts.map Tre.enc), .int .i64 ts.length, .int .i64 m]=some [[.sl 5 ((acc++(fillL id suf (cs.map (drawU id P S n))).1).map Tre.enc)],[.sl 8 (L.map Dft.enc), .int .i64 ((a+(cs.flatMap (dAll P S n)).length:Nat):Int)]]:=by
  intro suf
  induction suf with
  |nil=>
   intro m cs a acc hm hdm ho hd hc hb
   have:=drop_nil hdm hm
   subst this
   cases cs with
   |cons _ _=>simp at ho
   |nil=>
    refine q71.g 0 rfl rfl rfl ?_
    simp[t71_1,fillL_nil]
  |cons x t ih=>
   intro m cs a acc hm hdm ho hd hc hb
   obtain ⟨hx,hlt,hd'⟩:=drop_cons hdm
   obtain ⟨_,hg⟩:=get_of hx
   have hxm:=zF hx
   have hkx:=hk x hxm
   have hnx:=hnc x hxm
   have hw:=most_wrap (n:=m) (by omega) (by omega)
   rw[holesL_cons] at ho
   rw[cntL_cons] at hb
   rw[fillL_cons]
   have hxe:=Tre.enc_eq x
   obtain ⟨tg,ky,tx,ps,ks⟩:=x
   simp only[Tre.tag_mk,Tre.key_mk,Tre.text_mk,Tre.props_mk,Tre.kids_mk] at hxe hkx
   obtain ⟨hps,hnk⟩:=Tre.nice_mk.1 hnx
   rw[Tre.fill_mk]
   rw[cnt_mk] at hb
   rw[holes_mk] at ho
   by_cases h2:tg= -2
   ·rw[if_pos h2] at ho ⊢
    cases cs with
    |nil=>simp only[List.length_nil] at ho;omega
    |cons c r=>
     obtain ⟨j,k,Lc,hn⟩:=hc c (by simp)
     obtain ⟨hltP,_⟩:=get_of Lc.get
     cases n with
     |zero=>omega
     |succ n'=>
      have H:=leads_has Lc
      have hcmp:=Lc.comp
      simp only[List.map_cons,List.sum_cons] at hb
      rw[hcmp,Int.toNat_natCast] at hb
      simp only[List.length_cons] at ho
      have hou:=drawU_cnt h klok_id (n'+1) c j k Lc
      rw[List.flatMap_cons,List.append_assoc] at hd
      have hda:=drop_app hd
      have hih:=ih (m+1) r (a+(dAll P S (n'+1) c).length) (acc++setKey ky (drawU id P S (n'+1) c)) hlt hd' (by omega) hda (fun c' hc'=>hc c' (by simp[hc'])) (by
       have h1:=hou.1
       have h2:=len_cntL (drawU id P S (n'+1) c)
       rw[List.length_append,setKey_len]
       omega)
      rw[List.map_cons,List.flatMap_cons,List.length_append]
      simp only[fillH]
      have hou1:=hou.1
      have hol:=len_cntL (drawU id P S (n'+1) c)
      rw[dAll,List.cons_append] at hd
      obtain ⟨hLa,haL,hda'⟩:=drop_cons hd
      obtain ⟨_,hLg⟩:=get_of hLa
      have hsub:=hprev n' rfl (draftOf P S c).trees (draftOf P S c).calls (a+1) (r.flatMap (dAll P S (n'+1))++rest) H.holes hda' (fun c' hc'=>by
       obtain ⟨j',k',hj,L'⟩:=good_leads h (H.good c' hc')
       exact ⟨j',k',L',by omega⟩) H.nice (by have:=H.cnt;omega)
      rw[drawU] at hih hou1 hol ⊢
      rw[dAll,List.length_cons] at hih ⊢
      generalize draftOf P S c=d at*
      generalize (fillL id d.trees (d.calls.map (drawU id P S n'))).1=o at*
      have hdl:((d.calls.flatMap (dAll P S n')).length:Nat)≤BIG:=by
       have:(d.calls.flatMap (dAll P S n')++(r.flatMap (dAll P S (n'+1))++rest)).length≤L.length:=by rw[← hda',List.length_drop];omega
       rw[List.length_append] at this
       omega
      generalize d.calls.flatMap (dAll P S n')=fl at*
      have hwa:=most_wrap (n:=a) (by omega) (by omega)
      have he1:a+1+fl.length=a+(fl.length+1):=by omega
      have he2:a+(fl.length+1)+(r.flatMap (dAll P S (n'+1))).length=a+(fl.length+1+(r.flatMap (dAll P S (n'+1))).length):=by omega
      rw[he1] at hsub
      rw[he2] at hih
      rw[← List.append_assoc]
      have hap:=fun (ys:List Tre) (hy:ys.length=o.length)=>op_app_f (sz:=5) (xs:=acc.map Tre.enc) (ys:=ys.map Tre.enc) (by simp[hy];omega)
      generalize (acc++setKey ky o)++_=out at*
      generalize a+(fl.length+1+(r.flatMap (dAll P S (n'+1))).length)=aend at*
      generalize hac:a+(fl.length+1)=a2 at*
      have hde:=Dft.enc_eq d
      subst h2
      refine q71.g 0 rfl rfl rfl ?_
      cases o with
      |nil=>
       have hap:=hap [] rfl
       simp[setKey] at hih hsub hap
       by_cases c2:ky= -1
       ·subst c2
        simp[t71_1,hlt,hg,hxe,haL,hLg,hde,hwa,hw,hsub,hap,hih]
       ·simp[t71_1,hlt,hg,hxe,haL,hLg,hde,hwa,hw,hsub,c2,hap,hih]
      |cons y u=>
       obtain ⟨tg2,ky2,tx2,ps2,ks2⟩:=y
       have hye:=Tre.enc_eq (.mk tg2 ky2 tx2 ps2 ks2)
       simp only[Tre.tag_mk,Tre.key_mk,Tre.text_mk,Tre.props_mk,Tre.kids_mk] at hye
       by_cases c2:ky= -1
       ·subst c2
        have hap:=hap (Tre.mk tg2 ky2 tx2 ps2 ks2::u) rfl
        simp[setKey,hye] at hih hsub hap
        simp[t71_1,hlt,hg,hxe,haL,hLg,hde,hwa,hw,hsub,hye,hap,hih]
       ·by_cases c1:tg2= -1
        ·subst c1
         have hap:=hap (Tre.mk (-1) ky2 tx2 ps2 ks2::u) rfl
         simp[setKey,hye] at hih hsub hap
         simp[t71_1,hlt,hg,hxe,haL,hLg,hde,hwa,hw,hsub,hye,c2,hap,hih]
        ·have hap:=hap (Tre.mk tg2 ky tx2 ps2 ks2::u) rfl
         have hp:=put_key (l:=Tre.mk tg2 ky2 tx2 ps2 ks2::u) (k:=ky) rfl
         have hye2:=Tre.enc_eq (.mk tg2 ky tx2 ps2 ks2)
         simp only[Tre.tag_mk,Tre.key_mk,Tre.text_mk,Tre.props_mk,Tre.kids_mk] at hye2
         simp[setKey,hye,hye2,c1,c2] at hih hsub hap hp
         simp[t71_1,hlt,hg,hxe,haL,hLg,hde,hwa,hw,hsub,hye,c1,c2,hp,hap,hih]
   ·rw[if_neg h2] at ho ⊢
    obtain ⟨c1,c2,rfl,h1l⟩:∃c1 c2,cs=c1++c2∧holesL ks=c1.length:=⟨cs.take (holesL ks),cs.drop (holesL ks),(List.take_append_drop _ _).symm,by rw[List.length_take];omega⟩
    rw[List.length_append] at ho
    rw[List.map_append,List.sum_append] at hb
    rw[List.flatMap_append,List.append_assoc] at hd
    have hda:=drop_app hd
    have hR:=hkx c1 a (c2.flatMap (dAll P S n)++rest) h1l hd (fun c hc'=>hc c (by simp[hc'])) hnk (by omega)
    have Fk:=filledL klok_id ks (c1.map (drawU id P S n)) (by rw[List.length_map];omega)
    have hfa:=fillL_app klok_id ks (c1.map (drawU id P S n)) (c2.map (drawU id P S n)) (by rw[List.length_map];omega)
    rw[Fk.rest,List.drop_eq_nil_of_le (by rw[List.length_map];omega),List.nil_append] at hfa
    rw[List.map_append (f:=drawU id P S n),hfa]
    have hFc:=Fk.cnt
    have hlk:=len_cntL (fillL id ks (c1.map (drawU id P S n))).1
    have hcl:(((c1.map (drawU id P S n)).take (holesL ks)).map cntL).sum≤(c1.map fun c=>σ c.comp.toNat).sum:=by
     rw[List.take_of_length_le (by rw[List.length_map];omega),List.map_map]
     refine sum_le_sum fun c hc'=> ?_
     obtain ⟨j,k,Lc,_⟩:=hc c (by simp[hc'])
     have:=(drawU_cnt h klok_id n c j k Lc).1
     rw[Lc.comp]
     simpa using this
    have hih:=ih (m+1) c2 (a+(c1.flatMap (dAll P S n)).length) (acc++[.mk tg ky tx ps (id (fillL id ks (c1.map (drawU id P S n))).1)]) hlt hd' (by omega) hda (fun c' hc'=>hc c' (by simp[hc'])) (by rw[List.length_append,List.length_singleton];omega)
    rw[List.flatMap_append,List.length_append]
    rw[Nat.add_assoc] at hih
    simp only[id] at hih hR hlk hFc ⊢
    rw[← List.append_assoc]
    generalize (fillL id ks (c1.map (drawU id P S n))).1=kk at*
    generalize a+((c1.flatMap (dAll P S n)).length+(c2.flatMap (dAll P S n)).length)=aend at*
    generalize a+(c1.flatMap (dAll P S n)).length=a2 at*
    have hap:=op_app_f (sz:=5) (xs:=acc.map Tre.enc) (ys:=[(Tre.mk tg ky tx ps kk).enc]) (by simp;omega)
    have hpp:=op_app_t (sz:=4) (xs:=[]) (ys:=ps.map Prp.enc) (by simp;omega) rfl (flat_prps ps)
    rw[List.nil_append] at hpp
    have hye2:=Tre.enc_eq (.mk tg ky tx ps kk)
    simp only[Tre.tag_mk,Tre.key_mk,Tre.text_mk,Tre.props_mk,Tre.kids_mk] at hye2
    generalize (acc++[Tre.mk tg ky tx ps kk])++_=out at*
    refine q71.g 0 rfl rfl rfl ?_
    simp[hye2] at hih hap
    simp[t71_1,hlt,hg,hxe,h2,hR,hpp,hap,hw,hih]
 have hl:=loop ts 0 cs a [] (by omega) rfl ho hd hc (by simpa using hb)
 rw[List.nil_append] at hl
 generalize a+(cs.flatMap (dAll P S n)).length=aend at*
 refine q71.f rfl ?_
 simp at hl
 simp[t71_0,hl]
theorem fillA {P:List Comp} {S:List Cell} {σ:Nat→Nat} (h:Sound P S σ) {L:List Dft} (hL:L.length≤BIG):∀(n:Nat) (ts:List Tre),FillA P S σ L n ts
 |0,ts=>fillA_of h hL 0 (fun m hm=>by omega) ts fun x _=>(Tre.ind (p:=fun x=>FillA P S σ L 0 x.kids) (fun tg ky tx ps ks ih=>fillA_of h hL 0 (fun m hm=>by omega) ks ih) x)
 |n+1,ts=>fillA_of h hL (n+1) (fun m hm ts=>by cases hm;exact fillA h hL n ts) ts fun x _=>(Tre.ind (p:=fun x=>FillA P S σ L (n+1) x.kids) (fun tg ky tx ps ks ih=>fillA_of h hL (n+1) (fun m hm ts=>by cases hm;exact fillA h hL n ts) ks ih) x)
set_option maxRecDepth 100000
theorem deep_parts (x:Tre):x.deep= .mk x.tag x.key x.text x.props (keyl [] (x.kids.map Tre.deep)):=by
 cases x
 rw[deep_mk]
 rfl
def DedA (ks:List Tre):Prop:=∀(tg ky:Int) (tx:List UInt8) (ps:List (List D)),R 70 [[.int .i64 tg, .int .i64 ky, .str tx, .sl 4 ps, .sl 5 (ks.map Tre.enc)]]=some [[.int .i64 tg, .int .i64 ky, .str tx, .sl 4 ps, .sl 5 ((keyl [] (ks.map Tre.deep)).map Tre.enc)]]
theorem dedA_of (ks:List Tre) (hlen:ks.length<most) (hk:∀x∈ks,DedA x.kids):DedA ks:=by
 intro tg ky tx ps
 have loop:∀(suf:List Tre) (pre:List (List D)) (m:List (Int×Bool)) (seen:List Int) (len:Nat),(∀x∈suf,DedA x.kids)→pre.length+suf.length=len→len<most→(∀k,mapGet m k=decide (k∈seen))→
   q70.go 0 [.int .i64 tg, .int .i64 ky, .str tx, .sl 4 ps, .sl 5 (pre++suf.map Tre.enc), .int .i64 0, .int .i64 0, .str [], .sl 4 [], .sl 5 [], .bool true, .mp m, .int .i64 len, .int .i64 pre.length]=
    some [[.int .i64 tg, .int .i64 ky, .str tx, .sl 4 ps, .sl 5 (pre++(keyl seen (suf.map Tre.deep)).map Tre.enc)]]:=by
  intro suf
  induction suf with
  |nil=>
   intro pre m seen len _ hl _ hs
   have hnl:¬ (pre.length:Int)<len:=by simp at hl;omega
   refine q70.g 0 rfl rfl rfl ?_
   simp[t70_1,hnl,keyl]
  |cons x t ih=>
   intro pre m seen len hk hl hlm hs
   have hlt:(pre.length:Int)<len:=by simp at hl;omega
   have hw:=most_wrap (n:=pre.length) (by omega) (by omega)
   have hD:=hk x (by simp)
   have hxe:=Tre.enc_eq x
   have hdp:=deep_parts x
   have hms:∀k,mapGet (mapPut m x.key true) k=decide (k∈seen++[x.key]):=fun k=>by
    rw[mapGet_put,hs k]
    by_cases hkq:k=x.key<;>simp[hkq]
   have hmx:=hs x.key
   rw[List.map_cons,List.map_cons,keyl_cons]
   have hdk:x.deep.key=x.key:=by rw[hdp];simp
   rw[hdk]
   have hstep:∀(k':Int),x.deep.keyIn seen=x.deep.setk k'→q70.go 1 [.int .i64 tg, .int .i64 ky, .str tx, .sl 4 ps, .sl 5 (pre++[.int .i64 x.tag, .int .i64 k', .str x.text, .sl 4 (x.props.map Prp.enc), .sl 5 (x.kids.map Tre.enc)]::t.map Tre.enc), .int .i64 0, .int .i64 0, .str [], .sl 4 [], .sl 5 [], .bool true, .int .i64 pre.length, .int .i64 x.key, .mp m, .int .i64 len, .int .i64 pre.length]=
     some [[.int .i64 tg, .int .i64 ky, .str tx, .sl 4 ps, .sl 5 (pre++(x.deep.keyIn seen::keyl (seen++[x.key]) (t.map Tre.deep)).map Tre.enc)]]:=by
    intro k' hk'
    rw[hk']
    have hD:=hD x.tag k' x.text (x.props.map Prp.enc)
    have hse:=Tre.enc_eq (x.deep.setk k')
    unfold Tre.setk at hse
    simp only[Tre.tag_mk,Tre.key_mk,Tre.text_mk,Tre.props_mk,Tre.kids_mk] at hse
    rw[hdp] at hse
    simp only[Tre.tag_mk,Tre.key_mk,Tre.text_mk,Tre.props_mk,Tre.kids_mk] at hse
    have hse2:(x.deep.setk k').enc=[.int .i64 x.tag, .int .i64 k', .str x.text, .sl 4 (x.props.map Prp.enc), .sl 5 ((keyl [] (x.kids.map Tre.deep)).map Tre.enc)]:=by
     unfold Tre.setk
     rw[hdp]
     simp only[Tre.tag_mk,Tre.key_mk,Tre.text_mk,Tre.props_mk,Tre.kids_mk]
     exact hse
    have hih:=ih (pre++[(x.deep.setk k').enc]) (mapPut m x.key true) (seen++[x.key]) len (fun y hy=>hk y (by simp[hy])) (by simp at hl ⊢;omega) hlm hms
    rw[List.map_cons,hse2]
    rw[hse2] at hih
    generalize (keyl [] (x.kids.map Tre.deep)).map Tre.enc=kk at*
    generalize x.kids.map Tre.enc=kk0 at*
    refine q70.g 1 rfl rfl rfl ?_
    simp at hih
    simp[t70_2,hD,setCells,hw,hih]
   refine q70.g 0 rfl rfl rfl ?_
   by_cases h1:x.key= -1
   ·have hs1:=hstep x.key (by unfold Tre.keyIn;rw[hdk,if_neg (fun h=>h.1 h1),hdp];unfold Tre.setk;simp)
    generalize x.deep.keyIn seen::keyl (seen++[x.key]) (t.map Tre.deep)=kl at*
    rw[h1] at hs1 hxe
    simp[t70_1,hlt,hxe,hs1]
   ·by_cases h2:x.key∈seen
    ·have hs1:=hstep (-1) (by unfold Tre.keyIn;rw[hdk,if_pos ⟨h1,h2⟩])
     generalize x.deep.keyIn seen::keyl (seen++[x.key]) (t.map Tre.deep)=kl at*
     simp[t70_1,hlt,hxe,h1,hmx,h2,setCells,hs1]
    ·have hs1:=hstep x.key (by unfold Tre.keyIn;rw[hdk,if_neg (fun h=>h2 h.2),hdp];unfold Tre.setk;simp)
     generalize x.deep.keyIn seen::keyl (seen++[x.key]) (t.map Tre.deep)=kl at*
     simp[t70_1,hlt,hxe,h1,hmx,h2,hs1]
 have hl:=loop ks [] [] [] ks.length hk (by simp) hlen (fun k=>by simp[mapGet])
 refine q70.f rfl ?_
 simp at hl
 simp[t70_0,hl]
theorem dedA:∀(ks:List Tre),cntL ks<most→DedA ks:=by
 have h:∀x:Tre,x.cnt<most→DedA x.kids:=by
  refine Tre.ind fun tg ky tx ps ks ih hc=> ?_
  rw[cnt_mk] at hc
  have hl:=len_cntL ks
  refine dedA_of ks (by omega) fun x hx=>ih x hx ?_
  have:x.cnt≤cntL ks:=mem_sum hx
  omega
 intro ks hc
 have hl:=len_cntL ks
 refine dedA_of ks (by omega) fun x hx=>h x ?_
 have:x.cnt≤cntL ks:=mem_sum hx
 omega
set_option maxRecDepth 100000
def rootCal:Cal:=⟨[],0,[],[.zero, .zero]⟩
theorem root_leads {P:List Comp} {S:List Cell} {σ:Nat→Nat} (h:Sound P S σ):∃k,Leads P S σ 0 k rootCal:=by
 have hp:=h.fine.pos
 have hk:P[0]? =some P[0]:=zB hp
 have hr:=h.fine.root _ hk
 obtain ⟨j,k,L⟩:=leads h (c:=rootCal) ⟨0,P[0],rfl,hk,by unfold rootCal;simp[hr],by unfold rootCal;simp⟩ (by unfold rootCal;simp) (by unfold rootCal;simp) (by unfold rootCal;intro v hv;simp at hv;rw[hv];decide)
 have:j=0:=by have:=L.comp;unfold rootCal at this;simp at this;omega
 subst this
 exact ⟨k,L⟩
theorem root_enc:rootCal.enc=[.sl 2 [], .int .i64 0, .sl 3 [], .sl 3 [[.int .i64 0, .int .i64 0, .str []],[.int .i64 0, .int .i64 0, .str []]]]:=rfl
theorem R57:R 57 []=some [rootCal.enc]:=by
 rw[root_enc]
 refine q57.f rfl ?_
 have hm:(2:Int)≤most:=by decide
 simp[t57_0,hm]
theorem R28:R 28 []=some [rootCal.enc]:=by
 rw[root_enc]
 refine q28.f rfl ?_
 have hm:(2:Int)≤most:=by decide
 simp[t28_0,hm]
theorem nice_bulk:∀x:Tre,x.nice→x.bulk+1≤5*x.cnt:=by
 refine Tre.ind fun tg ky tx ps ks ih hn=> ?_
 obtain ⟨hp,hk⟩:=Tre.nice_mk.1 hn
 rw[Tre.bulk_eq,cnt_mk]
 simp only[Tre.props_mk,Tre.kids_mk]
 have all:∀(l:List Tre),(∀x∈l,x∈ks)→sumL Tre.bulk l≤5*cntL l:=by
  intro l
  induction l with
  |nil=>intro _;simp[sumL]
  |cons x t ih2=>
   intro hm
   have h1:=ih x (hm x (by simp)) (hk x (hm x (by simp)))
   have h2:=ih2 fun y hy=>hm y (by simp[hy])
   unfold sumL at h2 ⊢
   simp only[List.length_cons,List.map_cons,List.sum_cons,cntL_cons]
   omega
 have:=all ks fun _ h=>h
 omega
def drawnT (P:List Comp) (S:List Cell):Tre:= .mk 0 (-1) [] [] (keyl [] (drawU (keyl []) P S 4 rootCal))
theorem drawn_bulk {P:List Comp} {S:List Cell} {σ:Nat→Nat} (h:Sound P S σ):(drawnT P S).bulk≤100000000:=by
 obtain ⟨k,L⟩:=root_leads h
 obtain ⟨h1,h2⟩:=drawU_cnt h klok_key 4 rootCal 0 k L
 have:=h.small
 have:=nice_bulk (drawnT P S) (Tre.nice_mk.2 ⟨by simp,klok_key.nice _ h2⟩)
 have hc:(drawnT P S).cnt=1+cntL (drawU (keyl []) P S 4 rootCal):=by unfold drawnT;rw[cnt_mk,klok_key.cnt]
 omega
theorem R21 {P:List Comp} {S:List Cell} {σ:Nat→Nat} (h:Sound P S σ):R 21 [[.sl 10 (P.map Comp.enc)],[.sl 2 (S.map Cell.enc)]]=some [(drawnT P S).enc++[.sl 8 ((dAll P S 4 rootCal).map Dft.enc)]]:=by
 obtain ⟨k,L⟩:=root_leads h
 have hs:=h.small
 have h1:=R56 h 4 rootCal 0 k L (by have:=h.fine.le;omega) (by omega)
 have hc:=(drawU_cnt h klok_key 4 rootCal 0 k L).1
 have hl:=len_cntL (drawU (keyl []) P S 4 rootCal)
 have h2:=R97 (drawU (keyl []) P S 4 rootCal) (by unfold most;omega)
 have h0:=R57
 have hte:(drawnT P S).enc=[.int .i64 0, .int .i64 (-1), .str [], .sl 4 [], .sl 5 ((keyl [] (drawU (keyl []) P S 4 rootCal)).map Tre.enc)]:=Tre.enc_eq _
 rw[hte]
 generalize keyl [] (drawU (keyl []) P S 4 rootCal)=z at*
 generalize drawU (keyl []) P S 4 rootCal=y at*
 have h3:R 58 [[.sl 5 (y.map Tre.enc)]]=some [[.int .i64 0, .int .i64 (-1), .str [], .sl 4 [], .sl 5 (z.map Tre.enc)]]:=by
  refine q58.f rfl ?_
  simp[t58_0,h2]
 rw[root_enc] at h0 h1
 refine q21.f rfl ?_
 simp[t21_0,h0,h1,h3]
theorem R26 {P:List Comp} {S:List Cell} {σ:Nat→Nat} (h:Sound P S σ):R 26 [[.sl 8 ((dAll P S 4 rootCal).map Dft.enc)]]=some [(drawnT P S).enc]:=by
 obtain ⟨k,L⟩:=root_leads h
 have hs:=h.small
 have hal:=dAll_len h 4 rootCal 0 k L
 have H:=leads_has L
 have hf:=fillA h (L:=dAll P S 4 rootCal) (by unfold BIG;omega) 3 (draftOf P S rootCal).trees (draftOf P S rootCal).calls 1 [] H.holes (by rw[dAll,List.drop_one,List.tail_cons,List.append_nil]) (fun c hc=>by
  obtain ⟨j',k',hj,L'⟩:=good_leads h (H.good c hc)
  exact ⟨j',k',L',by have:=h.fine.le;omega⟩) H.nice (by have:=H.cnt;omega)
 have hc:=(drawU_cnt h klok_id 4 rootCal 0 k L).1
 have hdd:=draw_deep P S 4 rootCal
 have hte:(drawnT P S).enc=[.int .i64 0, .int .i64 (-1), .str [], .sl 4 [], .sl 5 ((keyl [] (drawU (keyl []) P S 4 rootCal)).map Tre.enc)]:=Tre.enc_eq _
 rw[hte]
 rw[← hdd]
 have hd:=dedA (drawU id P S 4 rootCal) (by unfold most;omega) 0 (-1) [] []
 rw[drawU] at hd ⊢
 have h0:(dAll P S 4 rootCal)[0]? =some (draftOf P S rootCal):=rfl
 obtain ⟨hlt,hg⟩:=get_of h0
 generalize 1+((draftOf P S rootCal).calls.flatMap (dAll P S 3)).length=aend at*
 generalize (fillL id (draftOf P S rootCal).trees ((draftOf P S rootCal).calls.map (drawU id P S 3))).1=y at*
 generalize dAll P S 4 rootCal=al at*
 generalize draftOf P S rootCal=d at*
 have hde:=Dft.enc_eq d
 refine q26.f rfl ?_
 simp at hf hd
 simp[t26_0,hlt,hg,hde,hf,hd]
theorem same_tree (P:List Comp) (S:List Cell) (hP:sumL Comp.bulk P≤BULK) (hS:sumL Cell.bulk S≤BULK):∃t:Tre,t.bulk≤100000000∧R 6 [[.sl 10 (P.map Comp.enc)],[.sl 2 (S.map Cell.enc)]]=some [t.enc]∧R 9 [[.sl 10 (P.map Comp.enc)],[.sl 2 (S.map Cell.enc)]]=some [t.enc]:=by
 obtain ⟨v,p1,p2,hv⟩:=prog_same P hP
 have s1:=R20 S hS
 have s2:=R25 S hS
 have hz:(Tre.mk 0 0 [] [] []).enc=[.int .i64 0, .int .i64 0, .str [], .sl 4 [], .sl 5 []]:=Tre.enc_eq _
 cases v
 ·refine ⟨.mk 0 0 [] [] [],by rw[Tre.bulk_eq];simp[sumL],?_,?_⟩
  ·rw[hz]
   refine q6.f rfl ?_
   simp[t6_0,p1]
  ·rw[hz]
   refine q9.f rfl ?_
   simp[t9_0,p2]
 ·cases hs:storeOk S
  ·rw[hs] at s1 s2
   refine ⟨.mk 0 0 [] [] [],by rw[Tre.bulk_eq];simp[sumL],?_,?_⟩
   ·rw[hz]
    refine q6.f rfl ?_
    simp[t6_0,p1,s1]
   ·rw[hz]
    refine q9.f rfl ?_
    simp[t9_0,p2,s2]
  ·rw[hs] at s1 s2
   have F:=hv rfl
   obtain ⟨σ,hsz,hsm⟩:=F.small
   have W:Sound P S σ:=⟨F,hP,hS,hs,hsz,hsm⟩
   obtain ⟨k,L⟩:=root_leads W
   have hd1:=R21 W
   have hd2:=R27 W 4 rootCal 0 k L (by have:=F.le;omega) (by omega)
   have hd3:=R26 W
   have h0:=R28
   refine ⟨drawnT P S,drawn_bulk W,?_,?_⟩
   ·have hte:=Tre.enc_eq (drawnT P S)
    generalize drawnT P S=z at*
    rw[hte] at hd1 ⊢
    refine q6.f rfl ?_
    simp[t6_0,p1,s1,hd1]
   ·have hte:=Tre.enc_eq (drawnT P S)
    generalize drawnT P S=z at*
    rw[hte] at hd3 ⊢
    rw[root_enc] at h0 hd2
    refine q9.f rfl ?_
    simp[t9_0,p2,s2,h0,hd2,hd3]
theorem law_holds (P:List Comp) (S:List Cell) (hP:lmem Comp.mem P) (hS:lmem Cell.mem S):R 3 [[.sl 10 (P.map Comp.enc)],[.sl 2 (S.map Cell.enc)]]=some [[.bool true]]:=
 R3 P S hP hS fun h1 h2=>same_tree P S h1 h2
end Go.Own
set_option maxRecDepth 100000
namespace Go.Own
open Go Go.Proofs
section
variable {H:Type} {en:TypeId×Value→H} {w:World} {held:Bool}
abbrev Rd (en:TypeId×Value→H) (w:World) (held:Bool) (f:Nat) (t:TypeId) {α:Type} (e:α→List D) (q:α→Prop):Prop:=Reads en Tryz.prog w held f t e q
theorem rdInt (f:Nat):Rd en w held f 3 (fun n=>[D.int .i64 n]) (fun n=>(Lit.int .i64 n).wf=true):=reads_int Tryz.underlying3 f
theorem rdStr (f:Nat):Rd en w held f 9 (fun s=>[D.str s]) (fun s=>s.length<MEM):=reads_str Tryz.underlying9 f
theorem rdVal (f:Nat):Rd en w held f 146 Val.enc Val.mem:=fun cs x hx hw=>by
 obtain ⟨n,rfl,hp⟩:=trod_parts Tryz.underlying146 (by kernel_rfl) hx hw
 have q0:Parts en Tryz.prog w held n [3,3,9] cs:=hp
 obtain ⟨v1,c1,_,h1,r1,rfl,q1⟩:=q0.one (rdInt n)
 obtain ⟨v2,c2,_,h2,r2,rfl,q2⟩:=q1.one (rdInt n)
 obtain ⟨v3,c3,_,h3,r3,rfl,q3⟩:=q2.one (rdStr n)
 obtain rfl:=q3.none
 exact ⟨⟨v1,v2,v3⟩,h3,r1.app (r2.app (r3.app .nil))⟩
theorem rdStp (f:Nat):Rd en w held f 202 Stp.enc Stp.mem:=fun cs x hx hw=>by
 obtain ⟨n,rfl,hp⟩:=trod_parts Tryz.underlying202 (by kernel_rfl) hx hw
 have q0:Parts en Tryz.prog w held n [3,3,146] cs:=hp
 obtain ⟨v1,c1,_,h1,r1,rfl,q1⟩:=q0.one (rdInt n)
 obtain ⟨v2,c2,_,h2,r2,rfl,q2⟩:=q1.one (rdInt n)
 obtain ⟨v3,c3,_,h3,r3,rfl,q3⟩:=q2.one (rdVal n)
 obtain rfl:=q3.none
 exact ⟨⟨v1,v2,v3⟩,h3,r1.app (r2.app (r3.app .nil))⟩
theorem rdOn (f:Nat):Rd en w held f 217 On.enc (fun _=>True):=fun cs x hx hw=>by
 obtain ⟨n,rfl,hp⟩:=trod_parts Tryz.underlying217 (by kernel_rfl) hx hw
 have q0:Parts en Tryz.prog w held n [3,3] cs:=hp
 obtain ⟨v1,c1,_,h1,r1,rfl,q1⟩:=q0.one (rdInt n)
 obtain ⟨v2,c2,_,h2,r2,rfl,q2⟩:=q1.one (rdInt n)
 obtain rfl:=q2.none
 exact ⟨⟨v1,v2⟩,trivial,r1.app (r2.app .nil)⟩
theorem rdSlt (f:Nat):Rd en w held f 177 Slt.enc (fun _=>True):=fun cs x hx hw=>by
 obtain ⟨n,rfl,hp⟩:=trod_parts Tryz.underlying177 (by kernel_rfl) hx hw
 have q0:Parts en Tryz.prog w held n [3,3] cs:=hp
 obtain ⟨v1,c1,_,h1,r1,rfl,q1⟩:=q0.one (rdInt n)
 obtain ⟨v2,c2,_,h2,r2,rfl,q2⟩:=q1.one (rdInt n)
 obtain rfl:=q2.none
 exact ⟨⟨v1,v2⟩,trivial,r1.app (r2.app .nil)⟩
theorem rdVals (f:Nat):Rd en w held f 43 (fun l:List Val=>[D.sl 3 (l.map Val.enc)]) (lmem Val.mem):=reads_sl Tryz.underlying43 (by kernel_rfl) (by kernel_rfl) fun f _=>rdVal f
theorem rdForm (f:Nat):Rd en w held f 47 (fun l:List Stp=>[D.sl 5 (l.map Stp.enc)]) (lmem Stp.mem):=reads_sl Tryz.underlying47 (by kernel_rfl) (by kernel_rfl) fun f _=>rdStp f
theorem rdForms (f:Nat):Rd en w held f 46 (fun l:List (List Stp)=>[D.sl 1 (l.map encF)]) (lmem (lmem Stp.mem)):=reads_sl Tryz.underlying46 (by kernel_rfl) (by kernel_rfl) fun f _=>rdForm f
theorem rdInts (f:Nat):Rd en w held f 45 (fun l:List Int=>[D.sl 1 (l.map encI)]) (fun l=>l.length<MEM∧∀n∈l,(Lit.int .i64 n).wf=true):=reads_sl Tryz.underlying45 (by kernel_rfl) (by kernel_rfl) fun f _=>rdInt f
theorem rdOns (f:Nat):Rd en w held f 48 (fun l:List On=>[D.sl 2 (l.map On.enc)]) (lmem fun _=>True):=reads_sl Tryz.underlying48 (by kernel_rfl) (by kernel_rfl) fun f _=>rdOn f
theorem rdSlts (f:Nat):Rd en w held f 55 (fun l:List Slt=>[D.sl 2 (l.map Slt.enc)]) (lmem fun _=>True):=reads_sl Tryz.underlying55 (by kernel_rfl) (by kernel_rfl) fun f _=>rdSlt f
theorem rdSet (f:Nat):Rd en w held f 199 Sett.enc Sett.mem:=fun cs x hx hw=>by
 obtain ⟨n,rfl,hp⟩:=trod_parts Tryz.underlying199 (by kernel_rfl) hx hw
 have q0:Parts en Tryz.prog w held n [3,47] cs:=hp
 obtain ⟨v1,c1,_,h1,r1,rfl,q1⟩:=q0.one (rdInt n)
 obtain ⟨v2,c2,_,h2,r2,rfl,q2⟩:=q1.one (rdForm n)
 obtain rfl:=q2.none
 exact ⟨⟨v1,v2⟩,h2,r1.app (r2.app .nil)⟩
theorem rdSets (f:Nat):Rd en w held f 148 (fun l:List Sett=>[D.sl 2 (l.map Sett.enc)]) (lmem Sett.mem):=reads_sl Tryz.underlying148 (by kernel_rfl) (by kernel_rfl) fun f _=>rdSet f
theorem rdActs (f:Nat):Rd en w held f 44 (fun l:List (List Sett)=>[D.sl 1 (l.map encA)]) (lmem (lmem Sett.mem)):=reads_sl Tryz.underlying44 (by kernel_rfl) (by kernel_rfl) fun f _=>rdSets f
theorem rdTmpl (f:Nat):Rd en w held f 51 Tmpl.enc Tmpl.mem:=by
 induction f using Nat.strongRecOn with
 |_ f ih=>
  intro cs x hx hw
  obtain ⟨n,rfl,hp⟩:=trod_parts Tryz.underlying51 (by kernel_rfl) hx hw
  have q0:Parts en Tryz.prog w held n [3,3,45,46,47,48,49] cs:=hp
  obtain ⟨v1,c1,_,h1,r1,rfl,q1⟩:=q0.one (rdInt n)
  obtain ⟨v2,c2,_,h2,r2,rfl,q2⟩:=q1.one (rdInt n)
  obtain ⟨v3,c3,_,h3,r3,rfl,q3⟩:=q2.one (rdInts n)
  obtain ⟨v4,c4,_,h4,r4,rfl,q4⟩:=q3.one (rdForms n)
  obtain ⟨v5,c5,_,h5,r5,rfl,q5⟩:=q4.one (rdForm n)
  obtain ⟨v6,c6,_,h6,r6,rfl,q6⟩:=q5.one (rdOns n)
  obtain ⟨v7,c7,_,h7,r7,rfl,q7⟩:=q6.one (reads_sl (e:=Tmpl.enc) (q:=Tmpl.mem) (sz:=7) Tryz.underlying49 (by kernel_rfl) (by kernel_rfl) fun g hg=>ih g (by omega))
  obtain rfl:=q7.none
  refine ⟨.mk v1 v2 v3 v4 v5 v6 v7, .mk h3.1 h4 h5 h6.1 h7.1 h7.2,?_⟩
  have he:=Tmpl.enc_eq (.mk v1 v2 v3 v4 v5 v6 v7)
  simp only[Tmpl.kind_mk,Tmpl.tag_mk,Tmpl.names_mk,Tmpl.args_mk,Tmpl.key_mk,Tmpl.ons_mk,Tmpl.kids_mk] at he
  rw[he]
  exact r1.app (r2.app (r3.app (r4.app (r5.app (r6.app (r7.app .nil))))))
theorem rdComp (f:Nat):Rd en w held f 53 Comp.enc Comp.mem:=fun cs x hx hw=>by
 obtain ⟨n,rfl,hp⟩:=trod_parts Tryz.underlying53 (by kernel_rfl) hx hw
 have q0:Parts en Tryz.prog w held n [3,43,44,51] cs:=hp
 obtain ⟨v1,c1,_,h1,r1,rfl,q1⟩:=q0.one (rdInt n)
 obtain ⟨v2,c2,_,h2,r2,rfl,q2⟩:=q1.one (rdVals n)
 obtain ⟨v3,c3,_,h3,r3,rfl,q3⟩:=q2.one (rdActs n)
 obtain ⟨v4,c4,_,h4,r4,rfl,q4⟩:=q3.one (rdTmpl n)
 obtain rfl:=q4.none
 rw[Tmpl.enc_eq] at r4
 exact ⟨⟨v1,v2,v3,v4⟩,⟨h2,h3,h4⟩,r1.app (r2.app (r3.app (r4.app .nil)))⟩
theorem rdCell (f:Nat):Rd en w held f 57 Cell.enc Cell.mem:=fun cs x hx hw=>by
 obtain ⟨n,rfl,hp⟩:=trod_parts Tryz.underlying57 (by kernel_rfl) hx hw
 have q0:Parts en Tryz.prog w held n [55,43] cs:=hp
 obtain ⟨v1,c1,_,h1,r1,rfl,q1⟩:=q0.one (rdSlts n)
 obtain ⟨v2,c2,_,h2,r2,rfl,q2⟩:=q1.one (rdVals n)
 obtain rfl:=q2.none
 exact ⟨⟨v1,v2⟩,⟨h1.1,h2⟩,r1.app (r2.app .nil)⟩
theorem rdComps (f:Nat):Rd en w held f 22 (fun l:List Comp=>[D.sl 10 (l.map Comp.enc)]) (lmem Comp.mem):=reads_sl Tryz.underlying22 (by kernel_rfl) (by kernel_rfl) fun f _=>rdComp f
theorem rdCells (f:Nat):Rd en w held f 23 (fun l:List Cell=>[D.sl 2 (l.map Cell.enc)]) (lmem Cell.mem):=reads_sl Tryz.underlying23 (by kernel_rfl) (by kernel_rfl) fun f _=>rdCell f
end
end Go.Own
set_option maxRecDepth 100000
namespace Go.Own
open Go Go.Proofs
theorem ext_itoa:ext 155=itoaF:=by
 funext ins
 unfold ext
 rw[if_pos rfl]
theorem gdItoa:GoodF Tryz.prog sigs tab ext 155 itoaS:=by
 refine ⟨⟨_,laysItoa.f171,by kernel_rfl,by kernel_rfl⟩, .inr ⟨rfl,?_⟩⟩
 rw[ext_itoa]
 exact itoa_meets laysItoa
theorem good:∀f sig,sigs f=some sig→GoodF Tryz.prog sigs tab ext f sig:=by
 have h:AllSig (fun i s=>GoodF Tryz.prog sigs tab ext i s) 0 sigL:=⟨good_at m3 Tryz.func3 (by kernel_rfl) rfl,good_at m4 Tryz.func4 (by kernel_rfl) rfl,good_at m5 Tryz.func5 (by kernel_rfl) rfl,good_at m6 Tryz.func6 (by kernel_rfl) rfl,good_at m7 Tryz.func7 (by kernel_rfl) rfl,good_at m8 Tryz.func8 (by kernel_rfl) rfl,good_at m9 Tryz.func9 (by kernel_rfl) rfl,good_at m10 Tryz.func10 (by kernel_rfl) rfl,good_at m11 Tryz.func11 (by kernel_rfl) rfl,good_at m12 Tryz.func12 (by kernel_rfl) rfl,good_at m13 Tryz.func13 (by kernel_rfl) rfl,good_at m14 Tryz.func14 (by kernel_rfl) rfl,good_at m15 Tryz.func15 (by kernel_rfl) rfl,good_at m16 Tryz.func16 (by kernel_rfl) rfl,good_at m17 Tryz.func17 (by kernel_rfl) rfl,good_at m18 Tryz.func18 (by kernel_rfl) rfl,good_at m19 Tryz.func19 (by kernel_rfl) rfl,good_at m20 Tryz.func20 (by kernel_rfl) rfl,good_at m21 Tryz.func21 (by kernel_rfl) rfl,good_at m22 Tryz.func22 (by kernel_rfl) rfl,good_at m23 Tryz.func23 (by kernel_rfl) rfl,good_at m24 Tryz.func24 (by kernel_rfl) rfl,good_at m25 Tryz.func25 (by kernel_rfl) rfl,good_at m26 Tryz.func26 (by kernel_rfl) rfl,good_at m27 Tryz.func27 (by kernel_rfl) rfl,good_at m28 Tryz.func28 (by kernel_rfl) rfl,good_at m29 Tryz.func29 (by kernel_rfl) rfl,good_at m30 Tryz.func30 (by kernel_rfl) rfl,good_at m31 Tryz.func31 (by kernel_rfl) rfl,good_at m32 Tryz.func32 (by kernel_rfl) rfl,good_at m33 Tryz.func33 (by kernel_rfl) rfl,good_at m34 Tryz.func34 (by kernel_rfl) rfl,good_at m35 Tryz.func35 (by kernel_rfl) rfl,good_at m36 Tryz.func36 (by kernel_rfl) rfl,good_at m37 Tryz.func37 (by kernel_rfl) rfl,good_at m38 Tryz.func38 (by kernel_rfl) rfl,good_at m39 Tryz.func39 (by kernel_rfl) rfl,good_at m40 Tryz.func40 (by kernel_rfl) rfl,good_at m41 Tryz.func41 (by kernel_rfl) rfl,good_at m42 Tryz.func42 (by kernel_rfl) rfl,good_at m43 Tryz.func43 (by kernel_rfl) rfl,good_at m44 Tryz.func44 (by kernel_rfl) rfl,good_at m45 Tryz.func45 (by kernel_rfl) rfl,good_at m46 Tryz.func46 (by kernel_rfl) rfl,good_at m47 Tryz.func47 (by kernel_rfl) rfl,good_at m48 Tryz.func48 (by kernel_rfl) rfl,good_at m49 Tryz.func49 (by kernel_rfl) rfl,good_at m50 Tryz.func50 (by kernel_rfl) rfl,good_at m51 Tryz.func51 (by kernel_rfl) rfl,good_at m52 Tryz.func52 (by kernel_rfl) rfl,good_at m53 Tryz.func53 (by kernel_rfl) rfl,good_at m54 Tryz.func54 (by kernel_rfl) rfl,good_at m55 Tryz.func55 (by kernel_rfl) rfl,good_at m56 Tryz.func56 (by kernel_rfl) rfl,good_at m57 Tryz.func57 (by kernel_rfl) rfl,good_at m58 Tryz.func58 (by kernel_rfl) rfl,good_at m59 Tryz.func59 (by kernel_rfl) rfl,good_at m60 Tryz.func60 (by kernel_rfl) rfl,good_at m61 Tryz.func61 (by kernel_rfl) rfl,good_at m62 Tryz.func62 (by kernel_rfl) rfl,good_at m63 Tryz.func63 (by kernel_rfl) rfl,good_at m64 Tryz.func64 (by kernel_rfl) rfl,good_at m65 Tryz.func65 (by kernel_rfl) rfl,good_at m66 Tryz.func66 (by kernel_rfl) rfl,good_at m67 Tryz.func67 (by kernel_rfl) rfl,good_at m68 Tryz.func68 (by kernel_rfl) rfl,good_at m69 Tryz.func69 (by kernel_rfl) rfl,good_at m70 Tryz.func70 (by kernel_rfl) rfl,good_at m71 Tryz.func71 (by kernel_rfl) rfl,good_at m72 Tryz.func72 (by kernel_rfl) rfl,good_at m73 Tryz.func73 (by kernel_rfl) rfl,good_at m74 Tryz.func74 (by kernel_rfl) rfl,good_at m75 Tryz.func75 (by kernel_rfl) rfl,good_at m76 Tryz.func76 (by kernel_rfl) rfl,good_at m77 Tryz.func77 (by kernel_rfl) rfl,good_at m78 Tryz.func78 (by kernel_rfl) rfl,good_at m79 Tryz.func79 (by kernel_rfl) rfl,good_at m80 Tryz.func80 (by kernel_rfl) rfl,good_at m81 Tryz.func81 (by kernel_rfl) rfl,good_at m82 Tryz.func82 (by kernel_rfl) rfl,good_at m83 Tryz.func83 (by kernel_rfl) rfl,good_at m84 Tryz.func84 (by kernel_rfl) rfl,good_at m85 Tryz.func85 (by kernel_rfl) rfl,good_at m86 Tryz.func86 (by kernel_rfl) rfl,good_at m87 Tryz.func87 (by kernel_rfl) rfl,good_at m88 Tryz.func88 (by kernel_rfl) rfl,good_at m89 Tryz.func89 (by kernel_rfl) rfl,good_at m90 Tryz.func90 (by kernel_rfl) rfl,good_at m91 Tryz.func91 (by kernel_rfl) rfl,good_at m92 Tryz.func92 (by kernel_rfl) rfl,good_at m93 Tryz.func93 (by kernel_rfl) rfl,good_at m94 Tryz.func94 (by kernel_rfl) rfl,good_at m95 Tryz.func95 (by kernel_rfl) rfl,good_at m96 Tryz.func96 (by kernel_rfl) rfl,good_at m97 Tryz.func97 (by kernel_rfl) rfl,good_at m98 Tryz.func98 (by kernel_rfl) rfl,good_at m99 Tryz.func99 (by kernel_rfl) rfl,good_at m100 Tryz.func100 (by kernel_rfl) rfl,good_at m101 Tryz.func101 (by kernel_rfl) rfl,good_at m102 Tryz.func102 (by kernel_rfl) rfl,good_at m103 Tryz.func103 (by kernel_rfl) rfl,good_at m104 Tryz.func104 (by kernel_rfl) rfl,good_at m105 Tryz.func105 (by kernel_rfl) rfl,good_at m106 Tryz.func106 (by kernel_rfl) rfl,good_at m107 Tryz.func107 (by kernel_rfl) rfl,good_at m108 Tryz.func108 (by kernel_rfl) rfl,good_at m109 Tryz.func109 (by kernel_rfl) rfl,good_at m110 Tryz.func110 (by kernel_rfl) rfl,good_at m111 Tryz.func111 (by kernel_rfl) rfl,good_at m112 Tryz.func112 (by kernel_rfl) rfl,good_at m113 Tryz.func113 (by kernel_rfl) rfl,good_at m114 Tryz.func114 (by kernel_rfl) rfl,good_at m115 Tryz.func115 (by kernel_rfl) rfl,good_at m116 Tryz.func116 (by kernel_rfl) rfl,good_at m117 Tryz.func117 (by kernel_rfl) rfl,good_at m118 Tryz.func118 (by kernel_rfl) rfl,good_at m119 Tryz.func119 (by kernel_rfl) rfl,good_at m120 Tryz.func120 (by kernel_rfl) rfl,good_at m121 Tryz.func121 (by kernel_rfl) rfl,good_at m122 Tryz.func122 (by kernel_rfl) rfl,good_at m123 Tryz.func123 (by kernel_rfl) rfl,good_at m124 Tryz.func124 (by kernel_rfl) rfl,good_at m125 Tryz.func125 (by kernel_rfl) rfl,good_at m126 Tryz.func126 (by kernel_rfl) rfl,good_at m127 Tryz.func127 (by kernel_rfl) rfl,good_at m128 Tryz.func128 (by kernel_rfl) rfl,good_at m129 Tryz.func129 (by kernel_rfl) rfl,good_at m130 Tryz.func130 (by kernel_rfl) rfl,good_at m131 Tryz.func131 (by kernel_rfl) rfl,good_at m132 Tryz.func132 (by kernel_rfl) rfl,good_at m133 Tryz.func133 (by kernel_rfl) rfl,good_at m134 Tryz.func134 (by kernel_rfl) rfl,good_at m135 Tryz.func135 (by kernel_rfl) rfl,good_at m136 Tryz.func136 (by kernel_rfl) rfl,good_at m137 Tryz.func137 (by kernel_rfl) rfl,good_at m138 Tryz.func138 (by kernel_rfl) rfl,good_at m139 Tryz.func139 (by kernel_rfl) rfl,good_at m140 Tryz.func140 (by kernel_rfl) rfl,good_at m141 Tryz.func141 (by kernel_rfl) rfl,good_at m142 Tryz.func142 (by kernel_rfl) rfl,good_at m143 Tryz.func143 (by kernel_rfl) rfl,good_at m144 Tryz.func144 (by kernel_rfl) rfl,good_at m145 Tryz.func145 (by kernel_rfl) rfl,good_at m146 Tryz.func146 (by kernel_rfl) rfl,good_at m147 Tryz.func147 (by kernel_rfl) rfl,good_at m148 Tryz.func148 (by kernel_rfl) rfl,good_at m149 Tryz.func149 (by kernel_rfl) rfl,good_at m150 Tryz.func150 (by kernel_rfl) rfl,good_at m151 Tryz.func151 (by kernel_rfl) rfl,good_at m152 Tryz.func152 (by kernel_rfl) rfl,good_at m153 Tryz.func153 (by kernel_rfl) rfl,good_at m154 Tryz.func154 (by kernel_rfl) rfl,gdItoa,good_at m156 Tryz.func156 (by kernel_rfl) rfl,good_at m157 Tryz.func157 (by kernel_rfl) rfl,good_at m158 Tryz.func158 (by kernel_rfl) rfl,good_at m159 Tryz.func159 (by kernel_rfl) rfl,good_at m160 Tryz.func160 (by kernel_rfl) rfl,good_at m161 Tryz.func161 (by kernel_rfl) rfl,good_at m162 Tryz.func162 (by kernel_rfl) rfl,good_at m164 Tryz.func164 (by kernel_rfl) rfl,good_at m165 Tryz.func165 (by kernel_rfl) rfl,trivial⟩
 intro f sig hs
 unfold sigs at hs
 cases hf:sigL[f]? with
 |none=>rw[hf] at hs;cases hs
 |some o=>
  rw[hf] at hs
  have hs':o=some sig:=hs
  subst hs'
  have:=h.get hf
  rwa [Nat.zero_add] at this
end Go.Own
