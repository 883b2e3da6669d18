/- The law FnExactEditRope holds, out of its plain law and the printed walks. (printed by this session's own programs; Lean checks it.) -/
import Derived.Test.YtmfnipkfpjpjeaaDoorQE0
import Derived.Test.YtmfnipkfpjpjeaaDoorQE1
import Derived.Test.YtmfnipkfpjpjeaaDoorQE2
import Derived.Test.YtmfnipkfpjpjeaaDoorQE3
import Derived.Test.YtmfnipkfpjpjeaaDoorQE4
import Derived.Test.YtmfnipkfpjpjeaaDoorQE5
import Derived.Test.YtmfnipkfpjpjeaaDoorQE6
import Derived.Test.YtmfnipkfpjpjeaaDoorQE7
import Derived.Test.YtmfnipkfpjpjeaaDoorQE8
import Derived.Test.YtmfnipkfpjpjeaaDoorQE9
import Derived.Test.YtmfnipkfpjpjeaaDoorRows
import Derived.Test.YtmfnipkfpjpjeaaDoorCards
import Derived.Test.YtmfnipkfpjpjeaaDoorTie
import Derived.WalkKit
import Derived.ProofKit
import Derived.OpenShut
import Derived.ShutString
import Derived.ChangeOld
import Derived.Below
import Derived.SizedLaws
import Derived.Carry
import Derived.Lib.SmallJoins
import Derived.Lay
import Derived.LaidOnce
import Derived.LaidMore
import Derived.PinnedBridge
import Derived.SevenTiedAt
import Derived.Lib.LaidU8
section
namespace Go.Proofs.YtmfnipkfpjpjeaaDoor.fnExactEditRope
open Go.ChangeShapes Go.WideShapes Go.ChangeAt Go.RowKit Go.Joins Go.Proofs.YtmfnipkfpjpjeaaDoor.PE Go.Proofs.YtmfnipkfpjpjeaaDoorW.PrintWords
open Go.ChangeMaps (open_string shut_string)
set_option linter.unusedVariables false
set_option linter.unusedSimpArgs false
theorem own:ownKnob Tryd.prog.godebug=none:=by kernel_rfl
theorem laidOut:laidOutB Tryd.prog=true:=by kernel_rfl
def LAID:List (String × DataW Unit):=Rows.fnExactEditRopeRow.laid
theorem accept_eq:(Rows.laid_unicode_utf8_acceptRanges:DataW Unit)=Lib.acceptData:=by kernel_rfl
theorem tabs_of {W:World} (h:laidMetH Tryd.prog LAID W):Tabs W:=by
 rw [MakeChecks.laidMetH_plain _ _ _ (by kernel_rfl)] at h
 have h3:=Lib.laidMet.reads (n := "unicode/utf8.first") (d:=Rows.laid_unicode_utf8_first) h (by exact .tail _ (.head _))
 have h4:=Lib.laidMet.reads (n := "unicode/utf8.acceptRanges") (d:=Rows.laid_unicode_utf8_acceptRanges) h (by exact .head _)
 rw [accept_eq] at h4
 have h5:Lib.VarReads Tryd.prog W "unicode/utf8.first" Lib.firstData:=Pinned.utf8First_eq ▸ h3
 exact utf8Tabs_of_reads Tryd.lays260 ⟨by kernel_rfl,by kernel_rfl,by kernel_rfl,by kernel_rfl,by kernel_rfl,by kernel_rfl,by kernel_rfl⟩ h5 h4
set_option maxRecDepth 100000 in
theorem lifted (os:Os) (started:os.Started) (H:Type) (enc:TypeId × Value→H) :
  ReturnsInHanded {} Tryd.checked os 10 .any (fun w args=>(Rows.fnExactEditRopeSpec.pre enc Tryd.prog Tryd.f10 [] false w args∧laidMetH Tryd.prog LAID w)∧sizedMet enc Tryd.prog Tryd.f10 (OpenSpec.ofChange Rows.fnExactEditRopeSpec) false w args)
   (Rows.fnExactEditRopeSpec.post enc Tryd.prog Tryd.f10 false true false false):=by
 refine returnsInHanded_of_change_and (C:=Tryd.checked) (X:=fun w _=>laidMetH Tryd.prog LAID w) (fun _ _ _ hh h=>h.of_heap hh) own started (by kernel_rfl) Tryd.func10
  (ChangeSpec.witness_shaped (enc:=enc) (C:=Tryd.checked) (os:=os) (X:=fun w _=>laidMetH Tryd.prog LAID w) false (World.laidAll Tryd.prog os LAID) #[.agg #[.slice none 0 0,.slice none 0 0],.slice none 0 0] 8 (World.laidAll_os _ _ _)
   (World.shaped_of_ZipB (by kernel_rfl) (by kernel_rfl)) (by kernel_rfl) (by kernel_rfl) (by kernel_rfl)
   (by rw [MakeChecks.laidMetH_plain _ _ _ (by kernel_rfl)];exact laidMet_laidAll _ (by kernel_rfl) (by kernel_rfl))) ?_
 intro W base args ds gs before hval0 hW _ _ hL _
 have hval:∀ (j:Nat) t v,Tryd.f10.params[j]? = some t→args[j]? = some v→Value.okWide Tryd.prog W .any base t v:=hval0
 have hW':=hW
 obtain ⟨p,q,hA0,hV,rfl,_,_⟩:=hW
 have hA:DataW.TrodAll enc Tryd.prog W 0 (fun _=>true) true Tryd.f10.params.toList args.toList ds p:=hA0
 rw [Tryd.params10] at hA hval
 obtain ⟨v0,vs0,d0,ds0,p0,q0,hargs,rfl,rfl,h0,r0⟩:=trodAll_cons hA
 obtain ⟨v1,vs1,d1,ds1,p1,q1,rfl,rfl,rfl,h1,r1⟩:=trodAll_cons r0
 obtain ⟨rfl,rfl,rfl⟩:=trodAll_nil r1
 obtain rfl:args = #[v0,v1]:=by cases args;simp_all
 obtain ⟨rfl,rfl⟩:=trodVars_none hV
 have k0:=h0
 have lt0:∀ x ∈ p0,x.block<W.heap.size:=by obtain ⟨m,hm⟩:=k0;exact DataW.trod_lt m _ _ _ hm
 obtain ⟨x0_0,x0_1,y0_0,y0_1,fu0,rfl,_,_,hf0_0,hf0_1⟩:=open_agg2 Tryd.underlying40 (by kernel_rfl) (by kernel_rfl) (hval 0 40 v0 rfl rfl) h0
 obtain ⟨A0_0,c0_0,l0_0,hv0_0,hc0_0,hm0_0,hC0_0,hg0_0⟩:=read_slice k122 z122 37 122 Tryd.underlying37 (by kernel_rfl) good122 (fun n cs x h=>elem122 n cs x h) (show DataW.trod enc Tryd.prog W 0 _ true fu0 37 [x0_0]=some _ from hf0_0)
 simp only [List.cons.injEq,and_true] at hv0_0
 subst hv0_0
 obtain ⟨A0_1,c0_1,l0_1,hv0_1,hc0_1,hm0_1,hC0_1,hg0_1⟩:=read_slice k124 z124 38 124 Tryd.underlying38 (by kernel_rfl) good124 (fun n cs x h=>elem124 n cs x h) (show DataW.trod enc Tryd.prog W 0 _ true fu0 38 [x0_1]=some _ from hf0_1)
 simp only [List.cons.injEq,and_true] at hv0_1
 subst hv0_1
 have k1:=h1
 have lt1:∀ x ∈ p1,x.block<W.heap.size:=by obtain ⟨m,hm⟩:=k1;exact DataW.trod_lt m _ _ _ hm
 obtain ⟨fu1,hf1⟩:=h1
 obtain ⟨A1,c1,l1,hv1,hc1,hm1,hC1,hg1⟩:=read_slice k93 z93 58 93 Tryd.underlying58 (by kernel_rfl) good93 (fun n cs x h=>elem93 n cs x h) (show DataW.trod enc Tryd.prog W 0 _ true fu1 58 _=some _ from hf1)
 obtain ⟨av1,lv1,cv1,rfl⟩:=okWide_slice Tryd.underlying58 (hval 1 58 v1 rfl rfl)
 simp only [Value.cells,List.cons.injEq,and_true] at hv1
 injection hv1 with ha1 hb1 hd1
 subst ha1 hb1 hd1
 obtain ⟨k,hk⟩:=Pure.FnExactEditRope l0_0 (Nat.le_trans hc0_0 hm0_0) hg0_0 l0_1 (Nat.le_trans hc0_1 hm0_1) hg0_1 l1 (Nat.le_trans hc1 hm1) hg1
 refine (laws_FnExactEditRope.calls k _ _ l0_0 _ _ l0_1 _ _ l1 true W hC0_0 hc0_0 hC0_1 hc0_1 hC1 hc1 (tabs_of hL) rfl hk).mono fun e W' ⟨he,bel0⟩=>?_
 have bel:Below W.heap.size W W':=bel0
 subst he
 exact ⟨_,rfl,_,_,_,[],_,[],hW',trodAll_mk1 (shut_bool Tryd.underlying4 _),(trodAll_cons_mk (Below.trod laidOut (by kernel_rfl) (of_decide_eq_true (by kernel_rfl)) k0 bel lt0) (trodAll_cons_mk (Below.trod laidOut (by kernel_rfl) (of_decide_eq_true (by kernel_rfl)) k1 bel lt1) trodAll_mk0)),rfl,bel.frame _,fun h=>by cases h⟩
theorem over:Rows.fnExactEditRopeRow.holds Tryd.pinned (OpenSpec.ofChange Rows.fnExactEditRopeSpec) :=
 OpenClaim.holds_of_wide 10 Tryd.f10 rfl rfl rfl rfl rfl rfl rfl ⟨rfl,rfl,rfl,rfl,rfl⟩ rfl rfl rfl rfl rfl (by kernel_rfl) Tryd.func10 (by kernel_rfl)
  (of_decide_eq_true (by kernel_rfl)) (by unfold Func.isWrapper;first|(rw [if_pos (by decide +kernel)];kernel_rfl)|(rw [if_neg (by decide +kernel)];exact ⟨rfl,rfl⟩))
  (fun os started H enc _=>lifted os started H enc)
theorem proved:Rows.FnExactEditRopeCardSaid :=
 Claim7.holds_tied_plain_at .later [] [.data,.pinned] true (true, "dbddddc38b30bbd0ef4e0fc969e38eed7ee3f417e656b415524e3ba1573cbebc") false over (fun _ h=>by cases h) (by kernel_rfl) (fun _ h=>by cases h) fnExactEditRope_row_tie rfl ⟨rfl,rfl⟩ (by kernel_rfl) rfl
  (fun f fn hf hfn=>by
   obtain rfl:f=10:=Option.some.inj ((show Tryd.prog.funcNamed "loop.example/g00044/laws.FnExactEditRope" = some 10 by kernel_rfl).symm.trans hf) |>.symm
   obtain rfl:fn=Tryd.f10:=(Option.some.inj (Tryd.func10.symm.trans hfn)).symm
   exact ⟨by kernel_rfl,fun j t ht=>by
    rw [Tryd.params10] at ht
    have hm:t ∈ [40,58]:=by simpa using Array.mem_of_getElem? ht
    have hall:([40,58].all fun u=>!Tryd.prog.wantsStandIn u)=true:=by kernel_rfl
    exact (show Tryd.prog.wantsStandIn t=false by simpa using List.all_eq_true.1 hall t hm)⟩)
  (by kernel_rfl)
#print axioms proved
end Go.Proofs.YtmfnipkfpjpjeaaDoor.fnExactEditRope
namespace Go.Proofs.YtmfnipkfpjpjeaaDoor
theorem fnExactEditRope_holds:Rows.FnExactEditRopeCardSaid:=fnExactEditRope.proved
end Go.Proofs.YtmfnipkfpjpjeaaDoor
end
