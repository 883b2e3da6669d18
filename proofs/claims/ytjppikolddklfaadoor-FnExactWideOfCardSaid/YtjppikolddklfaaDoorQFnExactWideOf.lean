/- The law FnExactWideOf holds, out of its plain law and the printed walks. (printed by this session's own programs; Lean checks it.) -/
import Derived.Test.YtjppikolddklfaaDoorQW0
import Derived.Test.YtjppikolddklfaaDoorQW1
import Derived.Test.YtjppikolddklfaaDoorQW2
import Derived.Test.YtjppikolddklfaaDoorQW3
import Derived.Test.YtjppikolddklfaaDoorQW4
import Derived.Test.YtjppikolddklfaaDoorQW5
import Derived.Test.YtjppikolddklfaaDoorRows
import Derived.Test.YtjppikolddklfaaDoorCards
import Derived.Test.YtjppikolddklfaaDoorTie
import Derived.WalkKit
import Derived.ProofKit
import Derived.OpenShut
import Derived.ShutString
import Derived.ChangeOld
import Derived.Below
import Derived.SizedLaws
import Derived.Carry
import Derived.Lib.SmallJoins
import Derived.Lay
import Derived.LaidOnce
import Derived.LaidMore
import Derived.PinnedBridge
import Derived.SevenTiedAt
import Derived.Lib.LaidU8
section
namespace Go.Proofs.YtjppikolddklfaaDoor.fnExactWideOf
open Go.ChangeShapes Go.WideShapes Go.ChangeAt Go.RowKit Go.Joins Go.Proofs.YtjppikolddklfaaDoor.PW Go.Proofs.YtjppikolddklfaaDoorW.PrintWords
open Go.ChangeMaps (open_string shut_string)
set_option linter.unusedVariables false
set_option linter.unusedSimpArgs false
theorem own:ownKnob Tryd.prog.godebug=none:=by kernel_rfl
def LAID:List (String × DataW Unit):=Rows.fnExactWideOfRow.laid
theorem accept_eq:(Rows.laid_unicode_utf8_acceptRanges:DataW Unit)=Lib.acceptData:=by kernel_rfl
theorem tabs_of {W:World} (h:laidMetH Tryd.prog LAID W):Tabs W:=by
 rw [MakeChecks.laidMetH_plain _ _ _ (by kernel_rfl)] at h
 have h3:=Lib.laidMet.reads (n := "unicode/utf8.first") (d:=Rows.laid_unicode_utf8_first) h (by exact .tail _ (.head _))
 have h4:=Lib.laidMet.reads (n := "unicode/utf8.acceptRanges") (d:=Rows.laid_unicode_utf8_acceptRanges) h (by exact .head _)
 rw [accept_eq] at h4
 have h5:Lib.VarReads Tryd.prog W "unicode/utf8.first" Lib.firstData:=Pinned.utf8First_eq ▸ h3
 exact utf8Tabs_of_reads Tryd.lays260 ⟨by kernel_rfl,by kernel_rfl,by kernel_rfl,by kernel_rfl,by kernel_rfl,by kernel_rfl,by kernel_rfl⟩ h5 h4
set_option maxRecDepth 100000 in
theorem lifted (os:Os) (started:os.Started) (H:Type) (enc:TypeId × Value→H) :
  ReturnsInHanded {} Tryd.checked os 3 .any (fun w args=>(Rows.fnExactWideOfSpec.pre enc Tryd.prog Tryd.f3 [] false w args∧laidMetH Tryd.prog LAID w)∧sizedMet enc Tryd.prog Tryd.f3 (OpenSpec.ofChange Rows.fnExactWideOfSpec) false w args)
   (Rows.fnExactWideOfSpec.post enc Tryd.prog Tryd.f3 false true false false):=by
 refine returnsInHanded_of_change_and (C:=Tryd.checked) (X:=fun w _=>laidMetH Tryd.prog LAID w) (fun _ _ _ hh h=>h.of_heap hh) own started (by kernel_rfl) Tryd.func3
  (ChangeSpec.witness_shaped (enc:=enc) (C:=Tryd.checked) (os:=os) (X:=fun w _=>laidMetH Tryd.prog LAID w) false (World.laidAll Tryd.prog os LAID) #[.string ByteArray.empty] 8 (World.laidAll_os _ _ _)
   (World.shaped_of_ZipB (by kernel_rfl) (by kernel_rfl)) (by kernel_rfl) (by kernel_rfl) (by kernel_rfl)
   (by rw [MakeChecks.laidMetH_plain _ _ _ (by kernel_rfl)];exact laidMet_laidAll _ (by kernel_rfl) (by kernel_rfl))) ?_
 intro W base args ds gs before hval0 hW _ _ hL _
 have hval:∀ (j:Nat) t v,Tryd.f3.params[j]? = some t→args[j]? = some v→Value.okWide Tryd.prog W .any base t v:=hval0
 have hW':=hW
 obtain ⟨p,q,hA0,hV,rfl,_,_⟩:=hW
 have hA:DataW.TrodAll enc Tryd.prog W 0 (fun _=>true) true Tryd.f3.params.toList args.toList ds p:=hA0
 rw [Tryd.params3] at hA hval
 obtain ⟨v0,vs0,d0,ds0,p0,q0,hargs,rfl,rfl,h0,r0⟩:=trodAll_cons hA
 obtain ⟨rfl,rfl,rfl⟩:=trodAll_nil r0
 obtain rfl:args = #[v0]:=by cases args;simp_all
 obtain ⟨rfl,rfl⟩:=trodVars_none hV
 obtain ⟨a0,rfl,rfl,rfl,w0⟩:=open_string Tryd.underlying9 (hval 0 9 v0 rfl rfl) h0
 obtain ⟨k,hk⟩:=Pure.FnExactWideOf a0 w0
 refine (laws_FnExactWideOf.calls k a0 true W  (tabs_of hL) hk).mono fun e W' ⟨he,bel0⟩=>?_
 have bel:Below W.heap.size W W':=bel0
 subst he
 exact ⟨_,rfl,_,_,_,[],_,[],hW',trodAll_mk1 (shut_bool Tryd.underlying4 _),(trodAll_cons_mk (shut_string Tryd.underlying9 w0) trodAll_mk0),rfl,bel.frame _,fun h=>by cases h⟩
theorem over:Rows.fnExactWideOfRow.holds Tryd.pinned (OpenSpec.ofChange Rows.fnExactWideOfSpec) :=
 OpenClaim.holds_of_wide 3 Tryd.f3 rfl rfl rfl rfl rfl rfl rfl ⟨rfl,rfl,rfl,rfl,rfl⟩ rfl rfl rfl rfl rfl (by kernel_rfl) Tryd.func3 (by kernel_rfl)
  (of_decide_eq_true (by kernel_rfl)) (by unfold Func.isWrapper;first|(rw [if_pos (by decide +kernel)];kernel_rfl)|(rw [if_neg (by decide +kernel)];exact ⟨rfl,rfl⟩))
  (fun os started H enc _=>lifted os started H enc)
theorem proved:Rows.FnExactWideOfCardSaid :=
 Claim7.holds_tied_plain_at .later [] [.data,.pinned] true (true, "ea7e8d59a1f6bf7207fdb23a045396cc2a87f05f11288b42b815bc092ceadfe6") false over (fun _ h=>by cases h) (by kernel_rfl) (fun _ h=>by cases h) fnExactWideOf_row_tie rfl ⟨rfl,rfl⟩ (by kernel_rfl) rfl
  (fun f fn hf hfn=>by
   obtain rfl:f=3:=Option.some.inj ((show Tryd.prog.funcNamed "loop.example/g00044/laws.FnExactWideOf" = some 3 by kernel_rfl).symm.trans hf) |>.symm
   obtain rfl:fn=Tryd.f3:=(Option.some.inj (Tryd.func3.symm.trans hfn)).symm
   exact ⟨by kernel_rfl,fun j t ht=>by
    rw [Tryd.params3] at ht
    have hm:t ∈ [9]:=by simpa using Array.mem_of_getElem? ht
    have hall:([9].all fun u=>!Tryd.prog.wantsStandIn u)=true:=by kernel_rfl
    exact (show Tryd.prog.wantsStandIn t=false by simpa using List.all_eq_true.1 hall t hm)⟩)
  (by kernel_rfl)
#print axioms proved
end Go.Proofs.YtjppikolddklfaaDoor.fnExactWideOf
namespace Go.Proofs.YtjppikolddklfaaDoor
theorem fnExactWideOf_holds:Rows.FnExactWideOfCardSaid:=fnExactWideOf.proved
end Go.Proofs.YtjppikolddklfaaDoor
end
