/- The law FnExactDrawTree returns true for every input, and each argument reads afterwards as it read before (the tied card): no condition beyond the row's own. -/
import Derived.Test.YthdgipjkbmmaoaaGreatDoorTaq
import Derived.Test.YthdgipjkbmmaoaaGreatDoorRows
import Derived.ChangeSame
import Derived.ChangeVars
import Derived.JoinedOf
import Derived.RowKit
import Derived.RowKitTokens
import Derived.LaidLaws
import Derived.LaidHandle
import Derived.Carry
import Derived.Handed
import Derived.Test.YthdgipjkbmmaoaaGreatDoorTie
import Derived.Test.YthdgipjkbmmaoaaGreatDoorCards
import Derived.SevenTiedAt
namespace Go.Proofs.YthdgipjkbmmaoaaGreatDoor
open Go.ChangeShapes Go.WideShapes Go.RowKit Go.Own
theorem own:ownKnob Tryz.prog.godebug=none:=by kernel_rfl
theorem laidOut:laidOutB Tryz.prog=true:=by kernel_rfl
def u8s (l:List Int):Array Value:=(l.map fun n=>Value.int .u8 n).toArray
noncomputable def lay (g:Nat) (cs:Array Value) (h:Array Obj):Array Obj:=h.modify g fun
 | .cells _ t fr=> .cells cs t fr
 |o=>o
noncomputable def laidWorld (os:Os):World:=
 let w0:=World.holding Tryz.prog os ⟨#[], #[],[]⟩
 {w0 with heap:=lay 0 ((Lib.pow10Tab.map fun z=>Value.int .u64 z).toArray) (lay 1 (u8s [0,1,28,2,29,14,24,3,30,22,20,15,25,17,4,8,31,27,13,23,21,19,16,7,26,12,18,6,11,5,10,9])
  (lay 2 (u8s [0,1,56,2,57,49,28,3,61,58,42,50,38,29,17,4,62,47,59,36,45,43,51,22,53,39,33,30,24,18,12,5,63,55,48,27,60,41,37,16,46,35,44,21,52,32,23,11,54,26,40,15,34,20,31,10,25,14,19,9,13,8,7,6]) w0.heap))}
theorem laidWorld_met (os:Os) (args:Array Value):laidMetH Tryz.prog Rows.fnExactDrawTreeRow.laid ((laidWorld os).forCall (fun _ _=>0) ⟨#[],args,[]⟩).memory:=
 laidMet_of_run' 8 (by kernel_rfl) (by kernel_rfl)
theorem tabs {W:World} (h:laidMetH Tryz.prog Rows.fnExactDrawTreeRow.laid W):FxOk (lawK Tryz.prog W.heap):=by
 have h':laidMet Tryz.prog Rows.fnExactDrawTreeRow.laid W:=h
 obtain ⟨ps,hl,_⟩:=h'
 exact fx_of (g:=0) (by kernel_rfl) (laid_tab (name:= "internal/strconv.uint64pow10") (k:= .u64) (zs:=Lib.pow10Tab) (t:=247) (e:=240) (n:=20) (by kernel_rfl) (by kernel_rfl) Tryz.underlying247 Tryz.underlying240 (by kernel_rfl) (by kernel_rfl) hl
  (List.mem_cons.2 (.inr (List.mem_cons.2 (.inr (List.mem_cons.2 (.inl (by kernel_rfl))))))))
set_option maxRecDepth 100000 in
theorem lifted (os:Os) (started:os.Started) (H:Type) (enc:TypeId×Value→H):
  ReturnsInHanded {} Tryz.checked os 3 .any (fun w args=>(Rows.fnExactDrawTreeSpec.pre enc Tryz.prog Tryz.f3 [] false w args∧laidMetH Tryz.prog Rows.fnExactDrawTreeRow.laid w)∧sizedMet enc Tryz.prog Tryz.f3 (OpenSpec.ofChange Rows.fnExactDrawTreeSpec) false w args)
   (Rows.fnExactDrawTreeSpec.post enc Tryz.prog Tryz.f3 false true false false):=by
 refine returnsInHanded_of_change_and (C:=Tryz.checked) (X:=fun w _=>laidMetH Tryz.prog Rows.fnExactDrawTreeRow.laid w) (fun _ _ _ hh h=>h.of_heap hh) own started (by kernel_rfl) Tryz.func3
  (ChangeSpec.witness_at (enc:=enc) (C:=Tryz.checked) (os:=os) (X:=fun w _=>laidMetH Tryz.prog Rows.fnExactDrawTreeRow.laid w) false (laidWorld os) #[.slice none 0 0, .slice none 0 0] 8 rfl (by kernel_rfl) (by kernel_rfl) (by kernel_rfl) (by kernel_rfl) (by kernel_rfl) (laidWorld_met os _)) ?_
 intro W base args ds gs before hval0 hW _ hsz0 hL _
 have hsz:(DataW.weightsEach Tryz.prog (Tryz.f3.params.toList++Rows.fnExactDrawTreeSpec.plain.varTypes Tryz.prog) (ds++gs)).all (·≤reachBytes)=true:=hsz0
 have hval:∀(j:Nat) t v,Tryz.f3.params[j]? =some t→args[j]? =some v→Value.okWide Tryz.prog W .any base t v:=hval0
 have hW':=hW
 obtain ⟨p,q,hA0,hV,rfl,_,_⟩:=hW
 have hA:DataW.TrodAll enc Tryz.prog W 0 (fun _=>true) true Tryz.f3.params.toList args.toList ds p:=hA0
 rw[Tryz.params3] at hA hval hsz
 obtain ⟨v0,v1,d0,d1,p0,p1,rfl,rfl,rfl,h0,h1⟩:=trodAll_two hA
 obtain ⟨rfl,rfl⟩:=trodVars_none hV
 obtain ⟨a0,l0,c0,rfl⟩:=okWide_slice Tryz.underlying22 (hval 0 22 v0 rfl rfl)
 obtain ⟨a1,l1,c1,rfl⟩:=okWide_slice Tryz.underlying23 (hval 1 23 v1 rfl rfl)
 have k0:=h0
 have k1:=h1
 have lt0:∀x∈p0,x.block<W.heap.size:=by obtain ⟨m,hm⟩:=k0;exact DataW.trod_lt m _ _ _ hm
 have lt1:∀x∈p1,x.block<W.heap.size:=by obtain ⟨m,hm⟩:=k1;exact DataW.trod_lt m _ _ _ hm
 have w0:wOk Tryz.prog 22 d0:=fun n hn=>of_decide_eq_true (List.all_eq_true.1 hsz n (List.mem_append.2 (.inl hn)))
 have w1:wOk Tryz.prog 23 d1:=fun n hn=>of_decide_eq_true (List.all_eq_true.1 hsz n (List.mem_append.2 (.inr (List.mem_append.2 (.inl hn)))))
 obtain ⟨f0,h0⟩:=h0
 obtain ⟨f1,h1⟩:=h1
 obtain ⟨P,hP,r0⟩:=rdComps f0 _ _ h0 w0
 obtain ⟨S,hS,r1⟩:=rdCells f1 _ _ h1 w1
 obtain ⟨F,hM,hF⟩:=table_run (by kernel_rfl) good (f:=3) (sig:=sg 3) (by kernel_rfl) (law_holds P S hP hS)
 have hargs:LawArgs Tryz.prog W.heap Tryz.f3.params.toList (sg 3).params [.slice a0 l0 c0, .slice a1 l1 c1] [[.sl 10 (P.map Comp.enc)],[.sl 2 (S.map Cell.enc)]]:=by
  rw[Tryz.params3]
  exact .cons (law_arg (by kernel_rfl) r0 rfl) (.cons (law_arg (by kernel_rfl) r1 rfl) .nil)
 refine (law_calls hM Tryz.func3 rfl (tabs hL) hargs hF).mono fun e W' ⟨he,bel⟩=> ?_
 subst he
 exact ⟨_,rfl,_,_,_,[],_,[],hW',trodAll_mk1 (shut_bool Tryz.underlying4 _),trodAll_mk2 (Below.trod laidOut (by kernel_rfl) (of_decide_eq_true (by kernel_rfl)) k0 bel lt0) (Below.trod laidOut (by kernel_rfl) (of_decide_eq_true (by kernel_rfl)) k1 bel lt1),rfl,bel.frame _,fun h=>by cases h⟩
theorem said:Rows.FnExactDrawTreeSaid:=
 OpenClaim.holds_of_wide 3 Tryz.f3 rfl rfl rfl rfl rfl rfl rfl ⟨rfl,rfl,rfl,rfl,rfl⟩ rfl rfl rfl rfl rfl (by kernel_rfl) Tryz.func3 (by kernel_rfl)
  (of_decide_eq_true (by kernel_rfl)) (by unfold Func.isWrapper;first|(rw[if_pos (by decide+kernel)];kernel_rfl)|(rw[if_neg (by decide+kernel)];exact ⟨rfl,rfl⟩))
  (fun os started H enc _=>lifted os started H enc)
end Go.Proofs.YthdgipjkbmmaoaaGreatDoor
namespace Go.Proofs.YthdgipjkbmmaoaaGreatDoor
open Go
theorem drawTree_holds:Rows.FnExactDrawTreeCardSaid:=
 Claim7.holds_tied_plain_at .later [] [.data, .data, .data] true (true, "6087a2dc4002ff3b828afac84e63334ca8f9f3c2bb8cf5fb016d99dfd51afbcd") false
  said (fun _ h=>by cases h) (by kernel_rfl) (fun _ h=>by cases h) fnExactDrawTree_row_tie rfl ⟨rfl,rfl⟩ (by kernel_rfl) rfl
  (fun f fn hf hfn=>by
   obtain rfl:f=3:=Option.some.inj ((show Tryz.prog.funcNamed "loop.example/drawnanew/laws.FnExactDrawTree" =some 3 by kernel_rfl).symm.trans hf)|>.symm
   obtain rfl:fn=Tryz.f3:=(Option.some.inj (Tryz.func3.symm.trans hfn)).symm
   exact ⟨by kernel_rfl,fun j t ht=>by
    rw[Tryz.params3] at ht
    have h3:t=22∨t=23:=by
     rcases j with _|_|j
     ·left;simpa using ht.symm
     ·right;simpa using ht.symm
     ·simp at ht
    rcases h3 with rfl|rfl
    ·exact (show Tryz.prog.wantsStandIn 22=false by kernel_rfl)
    ·exact (show Tryz.prog.wantsStandIn 23=false by kernel_rfl)⟩)
  (by kernel_rfl)
end Go.Proofs.YthdgipjkbmmaoaaGreatDoor
