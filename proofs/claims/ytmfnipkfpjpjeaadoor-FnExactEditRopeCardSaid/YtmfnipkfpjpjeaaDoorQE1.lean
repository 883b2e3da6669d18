/- Part 1: words, walks of functions, and plain laws of what these compute. (printed by this session's own programs; Lean checks it.) -/
import Derived.Test.YtmfnipkfpjpjeaaDoorQE0
import Derived.Shelf.Strings.Builder1
import Derived.Shelf.Strings.BuilderF
import Derived.Shelf.Strings.Search1
import Derived.Shelf.Strings.Search2
import Derived.Shelf.Strings.Search3
import Derived.Shelf.Strings.Count
import Derived.Shelf.LaysM
import Derived.Shelf.Strings.Shaped
import Derived.Shelf.Unicode.DecodeSlow
import Derived.Shelf.Unicode.DecodeAny
import Derived.Test.YtmfnipkfpjpjeaaDoorProg
import Derived.WalkKit
import Derived.Laws.Externs
import Derived.Laws.IdiomCopy
import Derived.Below
import Derived.Deep.Draws
import Derived.Deep.AppendLies
import Derived.Maps.AppendAt
import Derived.OwnWalk
import Derived.Laws.BytesArg
import Derived.Laws.MakeOwn
import Derived.Laws.OwnMore
import Derived.Deep.OwnRows
import Derived.Tactics
import Derived.Lib.ConvBytes
import Derived.Laws.Slices
import Derived.KernelRfl
import Derived.RowKit3
import Derived.Deep.LoopGhost
import Derived.Deep.QuietTactic
import Derived.BigQuiet
import Derived.WideLaws
import Derived.Deep.DeepCutAuto
import Derived.Deep.CutBlock
import Derived.Deep.RegionHeld3
import Derived.Laws.Rows
import Derived.Lib.AppendStr
import Derived.ArgAppend
import Derived.OrdersHeld
import Derived.Laws.BitsLemmas
import Derived.RowKit
import Derived.Lib.SliceRun
import Derived.RegionTactic
import Derived.ChangeAlike
import Derived.WalkLawsBesides
section
namespace Go.Proofs
open Go.Shelf
def Tryd.lays169_ren:Go.Shelf.Ren:=⟨fun|169=>87|n=>n,fun|70=>113|9=>9|0=>0|72=>115|37=>22|127=>140|3=>3|5=>5|n=>n,fun|n=>n⟩
theorem Tryd.lays169:Go.Proofs.Lays.n169 Tryd.prog Tryd.lays169_ren:={
 mixed:=by kernel_rfl
 f169:=Tryd.func87.trans (congrArg some (by kernel_rfl))
 t0:=Tryd.underlying0
 a0:=Tryd.isAgg0
 z0:=Tryd.sizeOf0
 v0:=Tryd.zeroValue0
 t3:=Tryd.underlying3
 a3:=Tryd.isAgg3
 z3:=Tryd.sizeOf3
 v3:=Tryd.zeroValue3
 t9:=Tryd.underlying9
 a9:=Tryd.isAgg9
 z9:=Tryd.sizeOf9
 v9:=Tryd.zeroValue9
 t37:=Tryd.underlying22
 a37:=Tryd.isAgg22
 z37:=Tryd.sizeOf22
 v37:=Tryd.zeroValue22
 t70:=Tryd.underlying113
 a70:=Tryd.isAgg113
 z70:=Tryd.sizeOf113
 v70:=Tryd.zeroValue113
 t72:=Tryd.underlying115
 a72:=Tryd.isAgg115
 z72:=Tryd.sizeOf115
 v72:=Tryd.zeroValue115
 t127:=Tryd.underlying140
 a127:=Tryd.isAgg140
 z127:=Tryd.sizeOf140
 v127:=Tryd.zeroValue140 }
theorem Tryd.Builder_Extra_169:Builder.Extra Tryd.prog Tryd.lays169_ren:={
 sizeBuilder:=by kernel_rfl
 liesBuilder:=by kernel_rfl
 t5:=Tryd.underlying5
 a5:=Tryd.isAgg5
 z5:=Tryd.sizeOf5
 v5:=Tryd.zeroValue5
 infoByte:=by kernel_rfl
 cellsByte:=by kernel_rfl
 sizeByte:=by kernel_rfl
 neB5:=by decide }
open Go.RowKit in
theorem Tryd.Builder_String_any (B b:Nat) (l:List UInt8) (w:World) (h:Lib.IsBuilder 115 5 B b (Lib.byteCells l) w) (hBw:B≤w.heap.size) :
  Calls Tryd.prog 87 #[.pointer (some ⟨b,0,none⟩)] w fun e w'=>e = .returned (.string ⟨l.toArray⟩)∧Below B w w':=Any.Builder_String_any Tryd.lays169 Tryd.Builder_Extra_169 B b l w h hBw
def Tryd.lays138_ren:Go.Shelf.Ren:=⟨fun|138=>51|195=>88|218=>89|143=>90|219=>110|217=>116|225=>117|224=>118|267=>119|266=>123|314=>124|n=>n,fun|9=>9|3=>3|4=>4|5=>5|0=>0|46=>133|146=>149|51=>148|n=>n,fun|1=>0|n=>n⟩
theorem Tryd.lays138:Go.Proofs.Lays.n138 Tryd.prog Tryd.lays138_ren:={
 mixed:=by kernel_rfl
 f138:=Tryd.func51.trans (congrArg some (by kernel_rfl))
 f143:=Tryd.func90.trans (congrArg some (by kernel_rfl))
 f195:=Tryd.func88.trans (congrArg some (by kernel_rfl))
 f217:=Tryd.func116.trans (congrArg some (by kernel_rfl))
 f218:=Tryd.func89.trans (congrArg some (by kernel_rfl))
 f219:=Tryd.func110.trans (congrArg some (by kernel_rfl))
 f224:=Tryd.func118.trans (congrArg some (by kernel_rfl))
 f225:=Tryd.func117.trans (congrArg some (by kernel_rfl))
 f266:=Tryd.func123.trans (congrArg some (by kernel_rfl))
 f267:=Tryd.func119.trans (congrArg some (by kernel_rfl))
 f314:=Tryd.func124.trans (congrArg some (by kernel_rfl))
 t0:=Tryd.underlying0
 a0:=Tryd.isAgg0
 z0:=Tryd.sizeOf0
 v0:=Tryd.zeroValue0
 t3:=Tryd.underlying3
 a3:=Tryd.isAgg3
 z3:=Tryd.sizeOf3
 v3:=Tryd.zeroValue3
 t4:=Tryd.underlying4
 a4:=Tryd.isAgg4
 z4:=Tryd.sizeOf4
 v4:=Tryd.zeroValue4
 t5:=Tryd.underlying5
 a5:=Tryd.isAgg5
 z5:=Tryd.sizeOf5
 v5:=Tryd.zeroValue5
 t9:=Tryd.underlying9
 a9:=Tryd.isAgg9
 z9:=Tryd.sizeOf9
 v9:=Tryd.zeroValue9
 t46:=Tryd.underlying133
 a46:=Tryd.isAgg133
 z46:=Tryd.sizeOf133
 v46:=Tryd.zeroValue133
 t51:=Tryd.underlying148
 a51:=Tryd.isAgg148
 z51:=Tryd.sizeOf148
 v51:=Tryd.zeroValue148
 t146:=Tryd.underlying149
 a146:=Tryd.isAgg149
 z146:=Tryd.sizeOf149
 v146:=Tryd.zeroValue149
 g1:=by kernel_rfl }
open Go.RowKit Go.Lib in
theorem Tryd.strings_Count_one (s:ByteArray) (c:UInt8) (w:World) :
  Calls Tryd.prog 51 #[.string s,.string ⟨#[c]⟩] w fun e w'=>e = .returned (.int .i64 (Lib.countByte s.data.toList c))∧w' = w:=Any.strings_Count_one Tryd.lays138 s c w
def Tryd.lays260_ren:Go.Shelf.Ren:=⟨fun|260=>122|n=>n,fun|9=>9|21=>21|3=>3|4=>4|5=>5|119=>151|0=>0|46=>133|139=>154|138=>153|n=>n,fun|3=>1|4=>2|n=>n⟩
theorem Tryd.lays260:Go.Proofs.Lays.n260 Tryd.prog Tryd.lays260_ren:={
 mixed:=by kernel_rfl
 f260:=Tryd.func122.trans (congrArg some (by kernel_rfl))
 t0:=Tryd.underlying0
 a0:=Tryd.isAgg0
 z0:=Tryd.sizeOf0
 v0:=Tryd.zeroValue0
 t3:=Tryd.underlying3
 a3:=Tryd.isAgg3
 z3:=Tryd.sizeOf3
 v3:=Tryd.zeroValue3
 t4:=Tryd.underlying4
 a4:=Tryd.isAgg4
 z4:=Tryd.sizeOf4
 v4:=Tryd.zeroValue4
 t5:=Tryd.underlying5
 a5:=Tryd.isAgg5
 z5:=Tryd.sizeOf5
 v5:=Tryd.zeroValue5
 t9:=Tryd.underlying9
 a9:=Tryd.isAgg9
 z9:=Tryd.sizeOf9
 v9:=Tryd.zeroValue9
 t21:=Tryd.underlying21
 a21:=Tryd.isAgg21
 z21:=Tryd.sizeOf21
 v21:=Tryd.zeroValue21
 t46:=Tryd.underlying133
 a46:=Tryd.isAgg133
 z46:=Tryd.sizeOf133
 v46:=Tryd.zeroValue133
 t119:=Tryd.underlying151
 a119:=Tryd.isAgg151
 z119:=Tryd.sizeOf151
 t138:=Tryd.underlying153
 a138:=Tryd.isAgg153
 z138:=Tryd.sizeOf153
 v138:=Tryd.zeroValue153
 t139:=Tryd.underlying154
 a139:=Tryd.isAgg154
 z139:=Tryd.sizeOf154
 v139:=Tryd.zeroValue154
 g3:=by kernel_rfl
 g4:=by kernel_rfl }
def Tryd.lays197_ren:Go.Shelf.Ren:=⟨fun|197=>114|260=>122|n=>n,fun|9=>9|21=>21|3=>3|4=>4|5=>5|105=>143|119=>151|0=>0|46=>133|139=>154|138=>153|n=>n,fun|3=>1|4=>2|n=>n⟩
theorem Tryd.lays197:Go.Proofs.Lays.n197 Tryd.prog Tryd.lays197_ren:={
 mixed:=by kernel_rfl
 f197:=Tryd.func114.trans (congrArg some (by kernel_rfl))
 f260:=Tryd.func122.trans (congrArg some (by kernel_rfl))
 t0:=Tryd.underlying0
 a0:=Tryd.isAgg0
 z0:=Tryd.sizeOf0
 v0:=Tryd.zeroValue0
 t3:=Tryd.underlying3
 a3:=Tryd.isAgg3
 z3:=Tryd.sizeOf3
 v3:=Tryd.zeroValue3
 t4:=Tryd.underlying4
 a4:=Tryd.isAgg4
 z4:=Tryd.sizeOf4
 v4:=Tryd.zeroValue4
 t5:=Tryd.underlying5
 a5:=Tryd.isAgg5
 z5:=Tryd.sizeOf5
 v5:=Tryd.zeroValue5
 t9:=Tryd.underlying9
 a9:=Tryd.isAgg9
 z9:=Tryd.sizeOf9
 v9:=Tryd.zeroValue9
 t21:=Tryd.underlying21
 a21:=Tryd.isAgg21
 z21:=Tryd.sizeOf21
 v21:=Tryd.zeroValue21
 t46:=Tryd.underlying133
 a46:=Tryd.isAgg133
 z46:=Tryd.sizeOf133
 v46:=Tryd.zeroValue133
 t105:=Tryd.underlying143
 a105:=Tryd.isAgg143
 z105:=Tryd.sizeOf143
 v105:=Tryd.zeroValue143
 t119:=Tryd.underlying151
 a119:=Tryd.isAgg151
 z119:=Tryd.sizeOf151
 t138:=Tryd.underlying153
 a138:=Tryd.isAgg153
 z138:=Tryd.sizeOf153
 v138:=Tryd.zeroValue153
 t139:=Tryd.underlying154
 a139:=Tryd.isAgg154
 z139:=Tryd.sizeOf154
 v139:=Tryd.zeroValue154
 g3:=by kernel_rfl
 g4:=by kernel_rfl }
open Go.RowKit Go.Lib in
theorem Tryd.utf8_DecodeRuneInString (s:ByteArray) (w:World) (hT:Lib.Utf8Tabs 1 2 w) :
  Calls Tryd.prog 114 #[.string s] w fun e w'=>e = .returned (.tuple #[.int .i32 (Lib.decodeGo s).1,.int .i64 (Lib.decodeGo s).2])∧Below w.heap.size w w':=Any.utf8_DecodeRuneInString Tryd.lays197 s w hT
end Go.Proofs
end
section
namespace Go.Proofs.YtmfnipkfpjpjeaaDoor
open Go.RowKit
def Tabs (w:World):Prop:=Lib.Utf8Tabs 1 2 w
theorem Tabs_below {w w' : World} (h:Tabs w) (hb:Below w.heap.size w w'):Tabs w':=Utf8Tabs_below h hb
abbrev TB:TypeId:=115
theorem info_byte:(Tryd.prog.info? 5).map (fun i=>(i.zero,i.size,i.bytes))=some (some (.int .u8 0),1,1):=by kernel_rfl
theorem sizeBuilder:(Tryd.prog.info? TB).map (·.size)=some 2:=by kernel_rfl
theorem liesBuilder:liesAt Tryd.prog Tryd.prog.depth TB (2 / Tryd.prog.cellsOf TB) 0 TB 1=true:=by kernel_rfl
set_option maxHeartbeats 1000000 in
set_option maxRecDepth 100000 in
theorem copyCheck_used (b:Nat) (w:World) (h0:w.cell? ⟨b,0,none⟩=some (.pointer (some ⟨b,0,none⟩))) :
  Calls Tryd.prog 109 #[.pointer (some ⟨b,0,none⟩)] w fun e w'=>e = .returned (.tuple #[])∧w' = w:=by
 obtain ⟨j,hj,_⟩:=Option.map_eq_some_iff.1 sizeBuilder
 go_enter Tryd.func109,Tryd.ntmps109
 go_wp2
 rw [Lib.run_neq_ptr_same w _ Tryd.underlying113 hj]
 go_wp2
 go_end0
 exact ⟨rfl,rfl⟩
set_option maxHeartbeats 1000000 in
set_option maxRecDepth 100000 in
theorem copyCheck_fresh (b:Nat) (w:World) (h0:w.cell? ⟨b,0,none⟩=some (.pointer none)) (hsh:w.shape? b=some (TB,2)) (hfz:w.frozen? ⟨b,0,none⟩=false) :
  Calls Tryd.prog 109 #[.pointer (some ⟨b,0,none⟩)] w fun e w'=>e = .returned (.tuple #[])∧w' = w.setCell ⟨b,0,none⟩ (.pointer (some ⟨b,0,none⟩)):=by
 obtain ⟨j,hj,hjs⟩:=Option.map_eq_some_iff.1 sizeBuilder
 go_enter Tryd.func109,Tryd.ntmps109
 go_wp2
 rw [Lib.run_to_unsafe w ⟨b,0,none⟩ Tryd.underlying113 Tryd.underlying145 hj (by rw [hjs];decide) hsh (Nat.zero_lt_succ 1)]
 simp only [Result.andThen]
 rw [Oper.upon_value]
 go_wp2
 rw [run_callFunc_extern Tryd.func115 (by kernel_rfl) (by kernel_rfl) (by kernel_rfl) (e:=Extern.AbiNoEscape.same) (by kernel_rfl)]
 rw [Lib.run_noEscape]
 simp only [Result.andThen]
 rw [Oper.upon_value]
 go_wp2
 rw [Lib.run_from_unsafe w ⟨b,0,none⟩ Tryd.underlying145 Tryd.underlying113 hj hsh liesBuilder]
 simp only [Result.andThen]
 rw [Oper.upon_value]
 go_wp2
 go_end0
 exact ⟨rfl,rfl⟩
theorem copyCheck (B b:Nat) (bs:List Value) (w:World) (h:Lib.IsBuilder TB 5 B b bs w) :
  Calls Tryd.prog 109 #[.pointer (some ⟨b,0,none⟩)] w fun e w'=>e = .returned (.tuple #[])∧(Lib.BuilderAt TB 5 B b (.pointer (some ⟨b,0,none⟩)) bs w' ∧ Below B w w'):=by
 rcases h with h|h
 ·
  refine (copyCheck_fresh b w h.cell0 h.shape h.frozen0).mono ?_
  rintro e w' ⟨rfl,rfl⟩
  exact ⟨rfl,h.used _,(Below.refl B w).setCell (p:=⟨b,0,none⟩) h.1 _⟩
 ·
  refine (copyCheck_used b w h.cell0).mono ?_
  rintro e w' ⟨rfl,rfl⟩
  exact ⟨rfl,h,Below.refl B _⟩
set_option maxHeartbeats 2000000 in
set_option maxRecDepth 100000 in
theorem writeString (B b:Nat) (bs:List Value) (s:ByteArray) (w:World) (h:Lib.IsBuilder TB 5 B b bs w) (hlen:bs.length+s.size≤140737488355328) (hBw:B≤w.heap.size) :
  Calls Tryd.prog 86 #[.pointer (some ⟨b,0,none⟩),.string s] w fun e w'=>e = .returned (.tuple #[.int .i64 s.size,.nilIface])∧(Lib.BuilderAt TB 5 B b (.pointer (some ⟨b,0,none⟩)) (bs ++ Lib.strCells s) w' ∧ Below B w w'):=by
 obtain ⟨i0,hi,hz0,hz1,hz2⟩:=info_parts info_byte
 go_enter Tryd.func86,Tryd.ntmps86
 go_wp2_with (go_at_call 109;refine (copyCheck B b bs _ h).mono ?_)
 rintro e w1 ⟨rfl,h1,hb1⟩
 obtain ⟨hB,v,hbk,hown,hne⟩:=h1
 have c0:w1.cell? ⟨b,0,none⟩=some (.pointer (some ⟨b,0,none⟩)):=by rw [Lib.cell_of_heap hbk];rfl
 have c1:w1.cell? ⟨b,1,none⟩=some v:=by rw [Lib.cell_of_heap hbk];rfl
 go_wp2_with (at_builtin;refine Lib.wpList_append_own_string _ rfl _ _ 22 9 rfl B 5 i0 Tryd.underlying22 Tryd.underlying9 hi hz0 hz1 hz2 _ _ _ rfl hown s rfl ?c3 ?c4 ?c5 ?_)
 case c3=>unfold maxLen;omega
 case c4=>omega
 case c5=>have:=hb1.size;omega
 intro v' w2 hown' hgrow _
 have hlt:b<w1.heap.size:=by
  rcases Nat.lt_or_ge b w1.heap.size with h'|h'
  ·
   exact h'
  ·
   simp [Array.getElem?_eq_none h'] at hbk
 have hb2:w2.heap[b]? = some (.cells #[.pointer (some ⟨b,0,none⟩),v] TB (0,0)):=by
  rw [hgrow.block b hlt (fun e=>hne e.symm)]
  exact hbk
 have d0:w2.cell? ⟨b,0,none⟩=some (.pointer (some ⟨b,0,none⟩)):=by rw [Lib.cell_of_heap hb2];rfl
 have d1:w2.cell? ⟨b,1,none⟩=some v:=by rw [Lib.cell_of_heap hb2];rfl
 have f1:w2.frozen? ⟨b,1,none⟩=false:=Lib.frozen_of_heap hb2 1
 obtain ⟨ao,n',cap,rfl⟩:∃ ao n' cap,v' = .slice ao n' cap:=by
  rcases hown'.2 with ⟨hv,_⟩|⟨g,cap,cur,hv,_⟩
  ·
   exact ⟨_,_,_,hv⟩
  ·
   exact ⟨_,_,_,hv⟩
 go_wp2
 go_ret2
 refine ⟨rfl,?_,?_⟩
 ·
  exact Lib.BuilderAt.put (T:=TB) (e:=5) hB hb2 (bs':=bs ++ Lib.strCells s) (by simpa [Lib.strCells_length] using hown') (by decide)
 ·
  exact (hb1.grown hgrow (by have:=hb1.size;omega) (fun k hk=>(hown.lt k hk).1)).setCell (p:=⟨b,1,none⟩) hB _
theorem builderAt_below {B b:Nat} {p:Value} {bs:List Value} {W W' : World} (h:Lib.BuilderAt TB 5 B b p bs W) (hb:Below W.heap.size W W'):Lib.BuilderAt TB 5 B b p bs W':=by
 have hlt:=h.lt
 obtain ⟨hB,v,hbk,hown,hne⟩:=h
 exact ⟨hB,v,(hb.block b hlt).trans hbk,hown.kept (row:=none) ⟨hb.os,hb.tape,hb.output,hb.size,fun i hi _=>hb.block i hi⟩ (by cases v.ownBlock <;> simp),hne⟩
theorem builder_below {B b:Nat} {bs:List Value} {W W' : World} (h:Lib.IsBuilder TB 5 B b bs W) (hb:Below W.heap.size W W'):Lib.IsBuilder TB 5 B b bs W' :=
 h.imp (fun h=>builderAt_below h hb) (fun h=>builderAt_below h hb)
theorem builder_new (B:Nat) (w:World) (hB:B≤w.heap.size):Lib.IsBuilder TB 5 B w.heap.size [] (w.alloc (.cells #[.pointer none,.slice none 0 0] TB)) :=
 Or.inl ⟨hB,.slice none 0 0,heap_alloc_new w _,World.ownsRow_nil _ _ _ _,by simp [Value.ownBlock]⟩
end Go.Proofs.YtmfnipkfpjpjeaaDoor
end
section
namespace Go.Proofs.YtmfnipkfpjpjeaaDoor.PE
open Go.RowKit Go.Proofs.YtmfnipkfpjpjeaaDoorW.PrintWords Go.Proofs.YtmfnipkfpjpjeaaDoorW.PrintLast Go.Proofs.YtmfnipkfpjpjeaaDoorW.PrintMore
attribute [local go_sem] max2_int min2_int max_two min_two max_three min_three max_four min_four   
set_option linter.unusedVariables false
set_option linter.unusedSimpArgs false
theorem info5:(Tryd.prog.info? 5).map (fun i=>(i.zero,i.size,i.bytes))=some (some (.int .u8 0),1,1):=by kernel_rfl
theorem info30:(Tryd.prog.info? 30).map (fun i=>(i.zero,i.size,i.bytes))=some (some (.agg #[(.string ⟨#[]⟩),(.int .i64 0),(.int .i64 0),(.int .i64 0),(.int .i64 0)]),5,48):=by kernel_rfl
theorem info54:(Tryd.prog.info? 54).map (fun i=>(i.zero,i.size,i.bytes))=some (some (.agg #[(.int .i64 0),(.int .i64 0),(.string ⟨#[]⟩)]),3,32):=by kernel_rfl
theorem info56:(Tryd.prog.info? 56).map (fun i=>(i.zero,i.size,i.bytes))=some (some (.agg #[(.string ⟨#[]⟩),(.int .i64 0),(.bool false)]),3,32):=by kernel_rfl
theorem info135:(Tryd.prog.info? 135).map (fun i=>(i.zero,i.size,i.bytes))=some (some (.agg #[(.int .i64 0),(.int .i64 0),(.int .i64 0),(.bool false)]),4,32):=by kernel_rfl
structure S122 where
 f0:ByteArray
 f1:Int
 f2:Int
 f3:Int
 f4:Int
def z122:S122:=⟨(⟨#[]⟩:ByteArray),(0:Int),(0:Int),(0:Int),(0:Int)⟩
def k122:Kd S122:=Kd.iso (Kd.pair Kd.string (Kd.pair (Kd.int .i64) (Kd.pair (Kd.int .i64) (Kd.pair (Kd.int .i64) (Kd.int .i64))))) (fun x:S122=>(x.f0,x.f1,x.f2,x.f3,x.f4))
theorem k122_open {w:World} {x:S122} {cs:List Value} (h:k122.K w x cs):cs=[.string x.f0,.int .i64 x.f1,.int .i64 x.f2,.int .i64 x.f3,.int .i64 x.f4]:=by
 obtain ⟨_,_,rfl,rfl,⟨_,_,rfl,rfl,⟨_,_,rfl,rfl,⟨_,_,rfl,rfl,rfl⟩⟩⟩⟩:=h
 exact rfl
theorem k122_mk (w:World) (x:S122)  : k122.K w x [.string x.f0,.int .i64 x.f1,.int .i64 x.f2,.int .i64 x.f3,.int .i64 x.f4]:=⟨[.string x.f0],[.int .i64 x.f1,.int .i64 x.f2,.int .i64 x.f3,.int .i64 x.f4],rfl,rfl,⟨[.int .i64 x.f1],[.int .i64 x.f2,.int .i64 x.f3,.int .i64 x.f4],rfl,rfl,⟨[.int .i64 x.f2],[.int .i64 x.f3,.int .i64 x.f4],rfl,rfl,⟨[.int .i64 x.f3],[.int .i64 x.f4],rfl,rfl,rfl⟩⟩⟩⟩
def rd_T122 (xs:List S122) (i:Int):S122:=xs.getD i.toNat z122
theorem at_T122 {w:World} {A:Option Addr} {n:Nat} {xs:List S122} (h:Kd.C k122 w A n xs) (i:Int) (h0:0≤i) (h1:i<n):∃ ad ,A=some ad∧w.cell? (ad.add (i.toNat*5))=some (.string (rd_T122 xs i).f0)∧w.cell? ⟨(ad.add (i.toNat*5)).block,(ad.add (i.toNat*5)).off+1,none⟩=some (.int .i64 (rd_T122 xs i).f1)∧w.cell? ⟨(ad.add (i.toNat*5)).block,(ad.add (i.toNat*5)).off+2,none⟩=some (.int .i64 (rd_T122 xs i).f2)∧w.cell? ⟨(ad.add (i.toNat*5)).block,(ad.add (i.toNat*5)).off+3,none⟩=some (.int .i64 (rd_T122 xs i).f3)∧w.cell? ⟨(ad.add (i.toNat*5)).block,(ad.add (i.toNat*5)).off+4,none⟩=some (.int .i64 (rd_T122 xs i).f4):=by
 obtain ⟨ad,c,e,_,hK,hc0⟩:=Kd.C_get h z122 i h0 h1
 have hc:∀ j u,c[j]? = some u→w.cell? (ad.add (i.toNat*5+j))=some u:=hc0
 obtain rfl:=k122_open hK
 exact ⟨ad,e,hc 0 _ rfl,by rw [← add_field _ _ 1 (by omega)];exact hc 1 _ rfl,by rw [← add_field _ _ 2 (by omega)];exact hc 2 _ rfl,by rw [← add_field _ _ 3 (by omega)];exact hc 3 _ rfl,by rw [← add_field _ _ 4 (by omega)];exact hc 4 _ rfl⟩
structure S124 where
 f0:ByteArray
 f1:Int
 f2:Bool
def z124:S124:=⟨(⟨#[]⟩:ByteArray),(0:Int),false⟩
def k124:Kd S124:=Kd.iso (Kd.pair Kd.string (Kd.pair (Kd.int .i64) Kd.bool)) (fun x:S124=>(x.f0,x.f1,x.f2))
theorem k124_open {w:World} {x:S124} {cs:List Value} (h:k124.K w x cs):cs=[.string x.f0,.int .i64 x.f1,.bool x.f2]:=by
 obtain ⟨_,_,rfl,rfl,⟨_,_,rfl,rfl,rfl⟩⟩:=h
 exact rfl
theorem k124_mk (w:World) (x:S124)  : k124.K w x [.string x.f0,.int .i64 x.f1,.bool x.f2]:=⟨[.string x.f0],[.int .i64 x.f1,.bool x.f2],rfl,rfl,⟨[.int .i64 x.f1],[.bool x.f2],rfl,rfl,rfl⟩⟩
def rd_T124 (xs:List S124) (i:Int):S124:=xs.getD i.toNat z124
theorem at_T124 {w:World} {A:Option Addr} {n:Nat} {xs:List S124} (h:Kd.C k124 w A n xs) (i:Int) (h0:0≤i) (h1:i<n):∃ ad ,A=some ad∧w.cell? (ad.add (i.toNat*3))=some (.string (rd_T124 xs i).f0)∧w.cell? ⟨(ad.add (i.toNat*3)).block,(ad.add (i.toNat*3)).off+1,none⟩=some (.int .i64 (rd_T124 xs i).f1)∧w.cell? ⟨(ad.add (i.toNat*3)).block,(ad.add (i.toNat*3)).off+2,none⟩=some (.bool (rd_T124 xs i).f2):=by
 obtain ⟨ad,c,e,_,hK,hc0⟩:=Kd.C_get h z124 i h0 h1
 have hc:∀ j u,c[j]? = some u→w.cell? (ad.add (i.toNat*3+j))=some u:=hc0
 obtain rfl:=k124_open hK
 exact ⟨ad,e,hc 0 _ rfl,by rw [← add_field _ _ 1 (by omega)];exact hc 1 _ rfl,by rw [← add_field _ _ 2 (by omega)];exact hc 2 _ rfl⟩
structure S30 where
 f0:ByteArray
 f1:Int
 f2:Int
 f3:Int
 f4:Int
def z30:S30:=⟨(⟨#[]⟩:ByteArray),(0:Int),(0:Int),(0:Int),(0:Int)⟩
def k30:Kd S30:=Kd.iso (Kd.pair Kd.string (Kd.pair (Kd.int .i64) (Kd.pair (Kd.int .i64) (Kd.pair (Kd.int .i64) (Kd.int .i64))))) (fun x:S30=>(x.f0,x.f1,x.f2,x.f3,x.f4))
theorem k30_open {w:World} {x:S30} {cs:List Value} (h:k30.K w x cs):cs=[.string x.f0,.int .i64 x.f1,.int .i64 x.f2,.int .i64 x.f3,.int .i64 x.f4]:=by
 obtain ⟨_,_,rfl,rfl,⟨_,_,rfl,rfl,⟨_,_,rfl,rfl,⟨_,_,rfl,rfl,rfl⟩⟩⟩⟩:=h
 exact rfl
theorem k30_openM {w:World} {base:Nat} {ok:Nat→Prop} {x:S30} {cs:List Value} (h:k30.M w base ok x cs):cs=[.string x.f0,.int .i64 x.f1,.int .i64 x.f2,.int .i64 x.f3,.int .i64 x.f4]:=by
 obtain ⟨_,_,rfl,rfl,⟨_,_,rfl,rfl,⟨_,_,rfl,rfl,⟨_,_,rfl,rfl,rfl⟩⟩⟩⟩:=h
 exact rfl
theorem k30_mkM (w:World) (base:Nat) (ok:Nat→Prop) (x:S30)  : k30.M w base ok x [.string x.f0,.int .i64 x.f1,.int .i64 x.f2,.int .i64 x.f3,.int .i64 x.f4]:=⟨[.string x.f0],[.int .i64 x.f1,.int .i64 x.f2,.int .i64 x.f3,.int .i64 x.f4],rfl,rfl,⟨[.int .i64 x.f1],[.int .i64 x.f2,.int .i64 x.f3,.int .i64 x.f4],rfl,rfl,⟨[.int .i64 x.f2],[.int .i64 x.f3,.int .i64 x.f4],rfl,rfl,⟨[.int .i64 x.f3],[.int .i64 x.f4],rfl,rfl,rfl⟩⟩⟩⟩
def rd_T30 (xs:List S30) (i:Int):S30:=xs.getD i.toNat z30
theorem at_T30 {w:World} {A:Option Addr} {n:Nat} {xs:List S30} (h:Kd.C k30 w A n xs) (i:Int) (h0:0≤i) (h1:i<n):∃ ad ,A=some ad∧w.cell? (ad.add (i.toNat*5))=some (.string (rd_T30 xs i).f0)∧w.cell? ⟨(ad.add (i.toNat*5)).block,(ad.add (i.toNat*5)).off+1,none⟩=some (.int .i64 (rd_T30 xs i).f1)∧w.cell? ⟨(ad.add (i.toNat*5)).block,(ad.add (i.toNat*5)).off+2,none⟩=some (.int .i64 (rd_T30 xs i).f2)∧w.cell? ⟨(ad.add (i.toNat*5)).block,(ad.add (i.toNat*5)).off+3,none⟩=some (.int .i64 (rd_T30 xs i).f3)∧w.cell? ⟨(ad.add (i.toNat*5)).block,(ad.add (i.toNat*5)).off+4,none⟩=some (.int .i64 (rd_T30 xs i).f4):=by
 obtain ⟨ad,c,e,_,hK,hc0⟩:=Kd.C_get h z30 i h0 h1
 have hc:∀ j u,c[j]? = some u→w.cell? (ad.add (i.toNat*5+j))=some u:=hc0
 obtain rfl:=k30_open hK
 exact ⟨ad,e,hc 0 _ rfl,by rw [← add_field _ _ 1 (by omega)];exact hc 1 _ rfl,by rw [← add_field _ _ 2 (by omega)];exact hc 2 _ rfl,by rw [← add_field _ _ 3 (by omega)];exact hc 3 _ rfl,by rw [← add_field _ _ 4 (by omega)];exact hc 4 _ rfl⟩
structure S56 where
 f0:ByteArray
 f1:Int
 f2:Bool
def z56:S56:=⟨(⟨#[]⟩:ByteArray),(0:Int),false⟩
def k56:Kd S56:=Kd.iso (Kd.pair Kd.string (Kd.pair (Kd.int .i64) Kd.bool)) (fun x:S56=>(x.f0,x.f1,x.f2))
theorem k56_open {w:World} {x:S56} {cs:List Value} (h:k56.K w x cs):cs=[.string x.f0,.int .i64 x.f1,.bool x.f2]:=by
 obtain ⟨_,_,rfl,rfl,⟨_,_,rfl,rfl,rfl⟩⟩:=h
 exact rfl
theorem k56_openM {w:World} {base:Nat} {ok:Nat→Prop} {x:S56} {cs:List Value} (h:k56.M w base ok x cs):cs=[.string x.f0,.int .i64 x.f1,.bool x.f2]:=by
 obtain ⟨_,_,rfl,rfl,⟨_,_,rfl,rfl,rfl⟩⟩:=h
 exact rfl
theorem k56_mkM (w:World) (base:Nat) (ok:Nat→Prop) (x:S56)  : k56.M w base ok x [.string x.f0,.int .i64 x.f1,.bool x.f2]:=⟨[.string x.f0],[.int .i64 x.f1,.bool x.f2],rfl,rfl,⟨[.int .i64 x.f1],[.bool x.f2],rfl,rfl,rfl⟩⟩
def rd_T56 (xs:List S56) (i:Int):S56:=xs.getD i.toNat z56
theorem at_T56 {w:World} {A:Option Addr} {n:Nat} {xs:List S56} (h:Kd.C k56 w A n xs) (i:Int) (h0:0≤i) (h1:i<n):∃ ad ,A=some ad∧w.cell? (ad.add (i.toNat*3))=some (.string (rd_T56 xs i).f0)∧w.cell? ⟨(ad.add (i.toNat*3)).block,(ad.add (i.toNat*3)).off+1,none⟩=some (.int .i64 (rd_T56 xs i).f1)∧w.cell? ⟨(ad.add (i.toNat*3)).block,(ad.add (i.toNat*3)).off+2,none⟩=some (.bool (rd_T56 xs i).f2):=by
 obtain ⟨ad,c,e,_,hK,hc0⟩:=Kd.C_get h z56 i h0 h1
 have hc:∀ j u,c[j]? = some u→w.cell? (ad.add (i.toNat*3+j))=some u:=hc0
 obtain rfl:=k56_open hK
 exact ⟨ad,e,hc 0 _ rfl,by rw [← add_field _ _ 1 (by omega)];exact hc 1 _ rfl,by rw [← add_field _ _ 2 (by omega)];exact hc 2 _ rfl⟩
structure S54 where
 f0:Int
 f1:Int
 f2:ByteArray
def z54:S54:=⟨(0:Int),(0:Int),(⟨#[]⟩:ByteArray)⟩
def k54:Kd S54:=Kd.iso (Kd.pair (Kd.int .i64) (Kd.pair (Kd.int .i64) Kd.string)) (fun x:S54=>(x.f0,x.f1,x.f2))
theorem k54_open {w:World} {x:S54} {cs:List Value} (h:k54.K w x cs):cs=[.int .i64 x.f0,.int .i64 x.f1,.string x.f2]:=by
 obtain ⟨_,_,rfl,rfl,⟨_,_,rfl,rfl,rfl⟩⟩:=h
 exact rfl
theorem k54_openM {w:World} {base:Nat} {ok:Nat→Prop} {x:S54} {cs:List Value} (h:k54.M w base ok x cs):cs=[.int .i64 x.f0,.int .i64 x.f1,.string x.f2]:=by
 obtain ⟨_,_,rfl,rfl,⟨_,_,rfl,rfl,rfl⟩⟩:=h
 exact rfl
theorem k54_mkM (w:World) (base:Nat) (ok:Nat→Prop) (x:S54)  : k54.M w base ok x [.int .i64 x.f0,.int .i64 x.f1,.string x.f2]:=⟨[.int .i64 x.f0],[.int .i64 x.f1,.string x.f2],rfl,rfl,⟨[.int .i64 x.f1],[.string x.f2],rfl,rfl,rfl⟩⟩
def rd_T54 (xs:List S54) (i:Int):S54:=xs.getD i.toNat z54
theorem at_T54 {w:World} {A:Option Addr} {n:Nat} {xs:List S54} (h:Kd.C k54 w A n xs) (i:Int) (h0:0≤i) (h1:i<n):∃ ad ,A=some ad∧w.cell? (ad.add (i.toNat*3))=some (.int .i64 (rd_T54 xs i).f0)∧w.cell? ⟨(ad.add (i.toNat*3)).block,(ad.add (i.toNat*3)).off+1,none⟩=some (.int .i64 (rd_T54 xs i).f1)∧w.cell? ⟨(ad.add (i.toNat*3)).block,(ad.add (i.toNat*3)).off+2,none⟩=some (.string (rd_T54 xs i).f2):=by
 obtain ⟨ad,c,e,_,hK,hc0⟩:=Kd.C_get h z54 i h0 h1
 have hc:∀ j u,c[j]? = some u→w.cell? (ad.add (i.toNat*3+j))=some u:=hc0
 obtain rfl:=k54_open hK
 exact ⟨ad,e,hc 0 _ rfl,by rw [← add_field _ _ 1 (by omega)];exact hc 1 _ rfl,by rw [← add_field _ _ 2 (by omega)];exact hc 2 _ rfl⟩
structure S135 where
 f0:Int
 f1:Int
 f2:Int
 f3:Bool
def z135:S135:=⟨(0:Int),(0:Int),(0:Int),false⟩
def k135:Kd S135:=Kd.iso (Kd.pair (Kd.int .i64) (Kd.pair (Kd.int .i64) (Kd.pair (Kd.int .i64) Kd.bool))) (fun x:S135=>(x.f0,x.f1,x.f2,x.f3))
theorem k135_open {w:World} {x:S135} {cs:List Value} (h:k135.K w x cs):cs=[.int .i64 x.f0,.int .i64 x.f1,.int .i64 x.f2,.bool x.f3]:=by
 obtain ⟨_,_,rfl,rfl,⟨_,_,rfl,rfl,⟨_,_,rfl,rfl,rfl⟩⟩⟩:=h
 exact rfl
theorem k135_mkM (w:World) (base:Nat) (ok:Nat→Prop) (x:S135)  : k135.M w base ok x [.int .i64 x.f0,.int .i64 x.f1,.int .i64 x.f2,.bool x.f3]:=⟨[.int .i64 x.f0],[.int .i64 x.f1,.int .i64 x.f2,.bool x.f3],rfl,rfl,⟨[.int .i64 x.f1],[.int .i64 x.f2,.bool x.f3],rfl,rfl,⟨[.int .i64 x.f2],[.bool x.f3],rfl,rfl,rfl⟩⟩⟩
def rd_T135 (xs:List S135) (i:Int):S135:=xs.getD i.toNat z135
theorem at_T135 {w:World} {A:Option Addr} {n:Nat} {xs:List S135} (h:Kd.C k135 w A n xs) (i:Int) (h0:0≤i) (h1:i<n):∃ ad ,A=some ad∧w.cell? (ad.add (i.toNat*4))=some (.int .i64 (rd_T135 xs i).f0)∧w.cell? ⟨(ad.add (i.toNat*4)).block,(ad.add (i.toNat*4)).off+1,none⟩=some (.int .i64 (rd_T135 xs i).f1)∧w.cell? ⟨(ad.add (i.toNat*4)).block,(ad.add (i.toNat*4)).off+2,none⟩=some (.int .i64 (rd_T135 xs i).f2)∧w.cell? ⟨(ad.add (i.toNat*4)).block,(ad.add (i.toNat*4)).off+3,none⟩=some (.bool (rd_T135 xs i).f3):=by
 obtain ⟨ad,c,e,_,hK,hc0⟩:=Kd.C_get h z135 i h0 h1
 have hc:∀ j u,c[j]? = some u→w.cell? (ad.add (i.toNat*4+j))=some u:=hc0
 obtain rfl:=k135_open hK
 exact ⟨ad,e,hc 0 _ rfl,by rw [← add_field _ _ 1 (by omega)];exact hc 1 _ rfl,by rw [← add_field _ _ 2 (by omega)];exact hc 2 _ rfl,by rw [← add_field _ _ 3 (by omega)];exact hc 3 _ rfl⟩
structure S93 where
 f0:Int
 f1:Int
 f2:ByteArray
def z93:S93:=⟨(0:Int),(0:Int),(⟨#[]⟩:ByteArray)⟩
def k93:Kd S93:=Kd.iso (Kd.pair (Kd.int .i64) (Kd.pair (Kd.int .i64) Kd.string)) (fun x:S93=>(x.f0,x.f1,x.f2))
theorem k93_open {w:World} {x:S93} {cs:List Value} (h:k93.K w x cs):cs=[.int .i64 x.f0,.int .i64 x.f1,.string x.f2]:=by
 obtain ⟨_,_,rfl,rfl,⟨_,_,rfl,rfl,rfl⟩⟩:=h
 exact rfl
theorem k93_mk (w:World) (x:S93)  : k93.K w x [.int .i64 x.f0,.int .i64 x.f1,.string x.f2]:=⟨[.int .i64 x.f0],[.int .i64 x.f1,.string x.f2],rfl,rfl,⟨[.int .i64 x.f1],[.string x.f2],rfl,rfl,rfl⟩⟩
def rd_T93 (xs:List S93) (i:Int):S93:=xs.getD i.toNat z93
theorem at_T93 {w:World} {A:Option Addr} {n:Nat} {xs:List S93} (h:Kd.C k93 w A n xs) (i:Int) (h0:0≤i) (h1:i<n):∃ ad ,A=some ad∧w.cell? (ad.add (i.toNat*3))=some (.int .i64 (rd_T93 xs i).f0)∧w.cell? ⟨(ad.add (i.toNat*3)).block,(ad.add (i.toNat*3)).off+1,none⟩=some (.int .i64 (rd_T93 xs i).f1)∧w.cell? ⟨(ad.add (i.toNat*3)).block,(ad.add (i.toNat*3)).off+2,none⟩=some (.string (rd_T93 xs i).f2):=by
 obtain ⟨ad,c,e,_,hK,hc0⟩:=Kd.C_get h z93 i h0 h1
 have hc:∀ j u,c[j]? = some u→w.cell? (ad.add (i.toNat*3+j))=some u:=hc0
 obtain rfl:=k93_open hK
 exact ⟨ad,e,hc 0 _ rfl,by rw [← add_field _ _ 1 (by omega)];exact hc 1 _ rfl,by rw [← add_field _ _ 2 (by omega)];exact hc 2 _ rfl⟩
end Go.Proofs.YtmfnipkfpjpjeaaDoor.PE
end
section
namespace Go.Proofs.YtmfnipkfpjpjeaaDoorW.PrintMore
open Go.RowKit Go.Proofs.YtmfnipkfpjpjeaaDoorW.PrintWords
set_option linter.unusedVariables false
class St (W W' : World):Prop where
 b:Below W.heap.size W W'
instance stR (W:World):St W W:=⟨Below.refl _ _⟩
instance stA (W W' : World) (o:Obj) [h:St W W']:St W (W'.alloc o):=⟨below_alloc h.b o⟩
instance stN (W W' : World) (n:Nat) [h:St W W']:St W (W'.drewN n):=⟨pw_below_drewN h.b n⟩
instance stD (W W' : World) [h:St W W']:St W W'.drew:=⟨below_drew1 h.b⟩
theorem bz {w W W' : World} (h:Aside0 (Below w.heap.size w W)) [s:St W W']:Below w.heap.size w W':=below_step h.out s.b
theorem bB {w W W' W2:World} (h:Aside0 (Below w.heap.size w W)) [s:St W W'] (hb:Below W'.heap.size W' W2):Aside0 (Below w.heap.size w W2):=⟨below_step (below_step h.out s.b) hb⟩
theorem kB {W W' W2:World} {g:Nat} {o:Obj} (h:Aside0 (W.heap[g]? = some o)) [s:St W W'] (hb:Below W'.heap.size W' W2):Aside0 (W2.heap[g]? = some o):=⟨blk_below (blk_below h.out s.b) hb⟩
section
variable {α:Type} {d:Kd α} {e:TypeId} {W W' W2:World} {base:Nat} {ok:Nat→Prop} {v:Value} {xs:List α}
theorem rB (h:Aside0 (d.R e W base ok v xs)) [s:St W W'] (hb:Below W'.heap.size W' W2):Aside0 (d.R e W2 base ok v xs):=⟨Kd.R_below (Kd.R_below h.out s.b) hb⟩
theorem cR {A:Option Addr} {n c:Nat} (h:Aside0 (d.R e W base ok (.slice A n c) xs)) [s:St W W']:d.C W' A xs.length xs:=Kd.C_below (Kd.R_reads' h.out).2.2 s.b
theorem lR {A:Option Addr} {n c:Nat} (h:Aside0 (d.R e W base ok (.slice A n c) xs)):n≤c:=(Kd.R_reads' h.out).2.1
theorem cC {A:Option Addr} {n:Nat} (h:Aside0 (d.C W A n xs)) [s:St W W']:d.C W' A n xs:=Kd.C_below h.out s.b
end
theorem kN {w:World} {g:Nat} {o:Obj} {n:Nat} (h:w.heap[g]? = some o):(w.drewN n).heap[g]? = some o:=h
theorem cZ {α:Type} {d:Kd α} {w W W' : World} {A:Option Addr} {n:Nat} {xs:List α} (h:Aside0 (d.C w A n xs)) (hb:Aside0 (Below w.heap.size w W)) [s:St W W']:d.C W' A n xs:=Kd.C_below (Kd.C_below h.out hb.out) s.b
def mk_ (n b:Nat):Array Bool:=((List.range n).map fun i=>b.testBit i).toArray
theorem sA_ {α:Type} {l:List α} {i:Nat} {v:α}:l.toArray.setIfInBounds i v=(l.set i v).toArray:=List.setIfInBounds_toArray ..
theorem sB_ {α:Type} {a x:α} {l:List α}:(a :: l).set 0 x=x :: l:=rfl
theorem sC_ {α:Type} {a x:α} {l:List α} {n:Nat}:(a :: l).set (n+1) x=a :: l.set n x:=rfl
end Go.Proofs.YtmfnipkfpjpjeaaDoorW.PrintMore
end
section
namespace Go.Proofs.YtmfnipkfpjpjeaaDoor.PE
open Go.RowKit Go.Proofs.YtmfnipkfpjpjeaaDoorW.PrintWords Go.Proofs.YtmfnipkfpjpjeaaDoorW.PrintLast Go.Proofs.YtmfnipkfpjpjeaaDoorW.PrintMore
attribute [local go_sem] max2_int min2_int max_two min_two max_three min_three max_four min_four   
set_option linter.unusedVariables false
set_option linter.unusedSimpArgs false
def laws_szRopeNode.f (a0_0:ByteArray) (a0_1:Int) (a0_2:Int) (a0_3:Int) (a0_4:Int) (a1:Int):Option (Int):=if (wrap64 (a1-(a0_0.size:Int)))<0 then (some (-1)) else (some (wrap64 (a1-(a0_0.size:Int))))
set_option maxHeartbeats 8000000 in
set_option maxRecDepth 100000 in
theorem laws_szRopeNode.calls (a0_0:ByteArray) (a0_1:Int) (a0_2:Int) (a0_3:Int) (a0_4:Int) (a1:Int) (r:Int) (w:World) (h:laws_szRopeNode.f a0_0 a0_1 a0_2 a0_3 a0_4 a1=some r) :
  Calls Tryd.prog 92 #[.agg #[.string a0_0,.int .i64 a0_1,.int .i64 a0_2,.int .i64 a0_3,.int .i64 a0_4],.int .i64 a1] w fun e w'=>e = .returned (.int .i64 r)∧Below w.heap.size w w':=by
 (have hu122:=Tryd.underlying122);(have HB:=Aside0.mk (Below.refl w.heap.size w));(have H:(if (wrap64 (a1-(a0_0.size:Int)))<0 then (some (-1)) else (some (wrap64 (a1-(a0_0.size:Int)))))=some r:=h);clear h;(by_cases c3:(wrap64 (a1-(a0_0.size:Int)))<0)
 ·
  (rw [if_pos c3] at H);(have c3b0:decide ((wrap64 (a1-(a0_0.size:Int)))<0)=true:=decide_eq_true c3);clear c3;(obtain rfl:=Option.some.inj H);(go_enter Tryd.func92,Tryd.ntmps92);(go_wp2_with (first|((with_reducible refine gate_dst (N:=2) rfl ?_);refine box_event ?hg (N:=2) ?hd (cs:=#[.string a0_0,.int .i64 a0_1,.int .i64 a0_2,.int .i64 a0_3,.int .i64 a0_4]) (t:=122) ?hr ?_;(case hd=>rfl);(case hg=>rfl);(case hr=>first|(go_simp;done)|(go_simp;rfl));intro gb101 hg w4 hbox hb;have n0_:=bB HB hb;have n1_:=Aside0.mk (hbox);have n2_:=Aside0.mk ((by rw [hg];exact (below_size (bz HB)):w.heap.size≤gb101));have n3_:=Aside0.mk ((by rw [hg];exact (below_size (bz HB)):w.heap.size≤gb101));clear HB;have HB:=n0_;have BK101:=n1_;have GW101:=n2_;have GE101:=n3_;clear n0_ n1_ n2_ n3_;clear hb hbox hg;have hcz5_0:w4.cell? ⟨gb101,0,none⟩=some (.string a0_0):=(blk_cell BK101.out 0).trans rfl;have hcz5_1:w4.cell? ⟨gb101,1,none⟩=some (.int .i64 a0_1):=(blk_cell BK101.out 1).trans rfl;have hcz5_2:w4.cell? ⟨gb101,2,none⟩=some (.int .i64 a0_2):=(blk_cell BK101.out 2).trans rfl;have hcz5_3:w4.cell? ⟨gb101,3,none⟩=some (.int .i64 a0_3):=(blk_cell BK101.out 3).trans rfl;have hcz5_4:w4.cell? ⟨gb101,4,none⟩=some (.int .i64 a0_4):=(blk_cell BK101.out 4).trans rfl;have hfz5_0:=blk_frozen BK101.out 0;have hfz5_1:=blk_frozen BK101.out 1;have hfz5_2:=blk_frozen BK101.out 2;have hfz5_3:=blk_frozen BK101.out 3;have hfz5_4:=blk_frozen BK101.out 4)));go_ret;(exact ⟨by first|rfl|(simp [errW_none,errW_some] <;> rfl)|(simp [*,errW_none,errW_some] <;> rfl),by repeat (first|(with_reducible first|exact HB.out|apply below_alloc|apply pw_below_drewN|apply below_drew1|refine below_set ?_ GE101.out)|exact HB.out)⟩)
 ·
  (rw [if_neg c3] at H);(have c3b0:decide ((wrap64 (a1-(a0_0.size:Int)))<0)=false:=decide_eq_false c3);clear c3;(obtain rfl:=Option.some.inj H);(go_enter Tryd.func92,Tryd.ntmps92);(go_wp2_with (first|((with_reducible refine gate_dst (N:=2) rfl ?_);refine box_event ?hg (N:=2) ?hd (cs:=#[.string a0_0,.int .i64 a0_1,.int .i64 a0_2,.int .i64 a0_3,.int .i64 a0_4]) (t:=122) ?hr ?_;(case hd=>rfl);(case hg=>rfl);(case hr=>first|(go_simp;done)|(go_simp;rfl));intro gb101 hg w6 hbox hb;have n0_:=bB HB hb;have n1_:=Aside0.mk (hbox);have n2_:=Aside0.mk ((by rw [hg];exact (below_size (bz HB)):w.heap.size≤gb101));have n3_:=Aside0.mk ((by rw [hg];exact (below_size (bz HB)):w.heap.size≤gb101));clear HB;have HB:=n0_;have BK101:=n1_;have GW101:=n2_;have GE101:=n3_;clear n0_ n1_ n2_ n3_;clear hb hbox hg;have hcz7_0:w6.cell? ⟨gb101,0,none⟩=some (.string a0_0):=(blk_cell BK101.out 0).trans rfl;have hcz7_1:w6.cell? ⟨gb101,1,none⟩=some (.int .i64 a0_1):=(blk_cell BK101.out 1).trans rfl;have hcz7_2:w6.cell? ⟨gb101,2,none⟩=some (.int .i64 a0_2):=(blk_cell BK101.out 2).trans rfl;have hcz7_3:w6.cell? ⟨gb101,3,none⟩=some (.int .i64 a0_3):=(blk_cell BK101.out 3).trans rfl;have hcz7_4:w6.cell? ⟨gb101,4,none⟩=some (.int .i64 a0_4):=(blk_cell BK101.out 4).trans rfl;have hfz7_0:=blk_frozen BK101.out 0;have hfz7_1:=blk_frozen BK101.out 1;have hfz7_2:=blk_frozen BK101.out 2;have hfz7_3:=blk_frozen BK101.out 3;have hfz7_4:=blk_frozen BK101.out 4)));go_ret;(exact ⟨by first|rfl|(simp [errW_none,errW_some] <;> rfl)|(simp [*,errW_none,errW_some] <;> rfl),by repeat (first|(with_reducible first|exact HB.out|apply below_alloc|apply pw_below_drewN|apply below_drew1|refine below_set ?_ GE101.out)|exact HB.out)⟩)
def laws_szRopeNodeS.l0:Nat→List (S122)→Int→Int→Option (Int)
 | 0,_,_,_=>none
 | k+1,x0,x1,x5=>if x5<(x0.length:Int) then (if 0≤x5 then ((laws_szRopeNode.f ((rd_T122 x0 x5).f0) ((rd_T122 x0 x5).f1) ((rd_T122 x0 x5).f2) ((rd_T122 x0 x5).f3) ((rd_T122 x0 x5).f4) x1).bind fun t103=>(if t103<0 then (some (-1)) else (laws_szRopeNodeS.l0 k x0 t103 (wrap64 (x5+1))))) else (none)) else (some x1)
def laws_szRopeNodeS.f (k:Nat) (l0:List (S122)) (a1:Int):Option (Int):=if (wrap64 (a1-(l0.length:Int)))<0 then (some (-1)) else (laws_szRopeNodeS.l0 k l0 (wrap64 (a1-(l0.length:Int))) 0)
set_option maxHeartbeats 8000000 in
set_option maxRecDepth 100000 in
theorem laws_szRopeNodeS.calls (k:Nat) (A0:Option Addr) (c0:Nat) (l0:List (S122)) (a1:Int) (r:Int) (w:World) (hr0:Kd.C k122 w A0 l0.length l0) (hc0:l0.length≤c0) (h:laws_szRopeNodeS.f k l0 a1=some r) :
  Calls Tryd.prog 54 #[.slice A0 l0.length c0,.int .i64 a1] w fun e w'=>e = .returned (.int .i64 r)∧Below w.heap.size w w':=by
 (have hu122:=Tryd.underlying122);(have HR0:=Aside0.mk hr0);(have HC0:=Aside0.mk hc0);clear hr0 hc0;(have HB:=Aside0.mk (Below.refl w.heap.size w));(have H:(if (wrap64 (a1-(l0.length:Int)))<0 then (some (-1)) else (laws_szRopeNodeS.l0 k l0 (wrap64 (a1-(l0.length:Int))) 0))=some r:=h);clear h;(by_cases c3:(wrap64 (a1-(l0.length:Int)))<0);(· (rw [if_pos c3] at H);(have c3b0:decide ((wrap64 (a1-(l0.length:Int)))<0)=true:=decide_eq_true c3);(clear c3);(obtain rfl:=Option.some.inj H);(go_enter Tryd.func54,Tryd.ntmps54);(go_wp2);(go_ret);(exact ⟨by first|rfl|(simp [errW_none,errW_some] <;> rfl)|(simp [*,errW_none,errW_some] <;> rfl),bz HB⟩))
 ·
  (rw [if_neg c3] at H);(have c3b0:decide ((wrap64 (a1-(l0.length:Int)))<0)=false:=decide_eq_false c3);clear c3;(have H':=Aside0.mk H);clear H;(go_enter Tryd.func54,Tryd.ntmps54);go_wp2;(go_loopg [1,5] k (fun kq v1 v5 w'=>∃ (x1_1:Int) (x5_1:Int),v1 = .int .i64 x1_1∧v5 = .int .i64 x5_1∧Aside0 (laws_szRopeNodeS.l0 kq l0 x1_1 x5_1=some r)∧Aside0 (kq≤k)∧Aside0 (Below w.heap.size w w')));(case atStart=>exact ⟨(wrap64 (a1-(l0.length:Int))),(0),(by first|rfl|(simp;done)|(simp [*];done)),(by first|rfl|(simp;done)|(simp [*];done)),H',⟨Nat.le_refl _⟩,⟨by repeat (first|(with_reducible first|exact HB.out|apply below_alloc|apply pw_below_drewN|apply below_drew1)|exact HB.out)⟩⟩)
  case round =>
   (clear H');(try clear p2);(try clear c3);(try clear c3b0);(obtain ⟨x1_1,x5_1,rfl,rfl,HA,HK1,HB⟩:=hrel)
   cases gk with
   | zero=>exact absurd HA.out (by simp [laws_szRopeNodeS.l0])
   | succ k1 =>
    (have H:=HA.out);clear HA;(simp only [laws_szRopeNodeS.l0] at H);(by_cases c4:x5_1<(l0.length:Int))
    ·
     (rw [if_pos c4] at H);(have c4b0:decide (x5_1<(l0.length:Int))=true:=decide_eq_true c4);clear c4;(by_cases c5:0≤x5_1)
     ·
      (rw [if_pos c5] at H);(have c5b0:decide (0≤x5_1)=true:=decide_eq_true c5);clear c5;(replace H:=Option.bind_eq_some_iff.mp H);(obtain ⟨t103,A60,H⟩:=H);(try dsimp only at H);(have A6:=Aside0.mk A60);clear A60;(by_cases c7:t103<0)
      ·
       (rw [if_pos c7] at H);(have c7b0:decide (t103<0)=true:=decide_eq_true c7);clear c7;(obtain rfl:=Option.some.inj H);(have p102:0≤(x5_1:Int):=of_decide_eq_true (by first|(with_reducible assumption)|assumption));(have q102:x5_1<(l0.length:Int):=of_decide_eq_true (by first|(with_reducible assumption)|assumption));(obtain ⟨ad102,e102,hx102_0,hx102_1,hx102_2,hx102_3,hx102_4⟩:=at_T122 HR0.out x5_1 p102 q102);(cases e102);(replace hx102_0:=(HB.out.cell (World.block_lt_of_cell? _ _ hx102_0)).trans hx102_0);(replace hx102_1:=(HB.out.cell (World.block_lt_of_cell? _ _ hx102_1)).trans hx102_1);(replace hx102_2:=(HB.out.cell (World.block_lt_of_cell? _ _ hx102_2)).trans hx102_2);(replace hx102_3:=(HB.out.cell (World.block_lt_of_cell? _ _ hx102_3)).trans hx102_3);(replace hx102_4:=(HB.out.cell (World.block_lt_of_cell? _ _ hx102_4)).trans hx102_4);(replace p102:=eq_true p102);(replace q102:=eq_true q102);(go_wp2_with (first|((with_reducible refine gate_callee (f:=92) rfl ?_);refine goesL_ (some 23) rfl rfl Tryd.func92 (by kernel_rfl) rfl #[.agg #[.string ((rd_T122 l0 x5_1).f0),.int .i64 ((rd_T122 l0 x5_1).f1),.int .i64 ((rd_T122 l0 x5_1).f2),.int .i64 ((rd_T122 l0 x5_1).f3),.int .i64 ((rd_T122 l0 x5_1).f4)],.int .i64 x1_1] rfl (by (try simp only [List.map_toArray,List.map_cons,List.map_nil]);first|done|rfl|(simp only [List.length_drop,List.length_take];rfl)) ?_;(with_reducible refine (laws_szRopeNode.calls ((rd_T122 l0 x5_1).f0) ((rd_T122 l0 x5_1).f1) ((rd_T122 l0 x5_1).f2) ((rd_T122 l0 x5_1).f3) ((rd_T122 l0 x5_1).f4) x1_1 t103 _ A6.out).mono ?_);rintro e w8 ⟨rfl,hb⟩;refine ⟨_,rfl,?_⟩;replace HB:=bB HB hb;  clear hb)));go_ret;(exact ⟨by first|rfl|(simp [errW_none,errW_some] <;> rfl)|(simp [*,errW_none,errW_some] <;> rfl),bz HB⟩)
      ·
       (rw [if_neg c7] at H);(have c7b0:decide (t103<0)=false:=decide_eq_false c7);clear c7;(have H':=Aside0.mk H);clear H;(have p102:0≤(x5_1:Int):=of_decide_eq_true (by first|(with_reducible assumption)|assumption));(have q102:x5_1<(l0.length:Int):=of_decide_eq_true (by first|(with_reducible assumption)|assumption));(obtain ⟨ad102,e102,hx102_0,hx102_1,hx102_2,hx102_3,hx102_4⟩:=at_T122 HR0.out x5_1 p102 q102);(cases e102);(replace hx102_0:=(HB.out.cell (World.block_lt_of_cell? _ _ hx102_0)).trans hx102_0);(replace hx102_1:=(HB.out.cell (World.block_lt_of_cell? _ _ hx102_1)).trans hx102_1);(replace hx102_2:=(HB.out.cell (World.block_lt_of_cell? _ _ hx102_2)).trans hx102_2);(replace hx102_3:=(HB.out.cell (World.block_lt_of_cell? _ _ hx102_3)).trans hx102_3);(replace hx102_4:=(HB.out.cell (World.block_lt_of_cell? _ _ hx102_4)).trans hx102_4);(replace p102:=eq_true p102);(replace q102:=eq_true q102);(go_wp2_with (first|((with_reducible refine gate_callee (f:=92) rfl ?_);refine goesL_ (some 23) rfl rfl Tryd.func92 (by kernel_rfl) rfl #[.agg #[.string ((rd_T122 l0 x5_1).f0),.int .i64 ((rd_T122 l0 x5_1).f1),.int .i64 ((rd_T122 l0 x5_1).f2),.int .i64 ((rd_T122 l0 x5_1).f3),.int .i64 ((rd_T122 l0 x5_1).f4)],.int .i64 x1_1] rfl (by (try simp only [List.map_toArray,List.map_cons,List.map_nil]);first|done|rfl|(simp only [List.length_drop,List.length_take];rfl)) ?_;(with_reducible refine (laws_szRopeNode.calls ((rd_T122 l0 x5_1).f0) ((rd_T122 l0 x5_1).f1) ((rd_T122 l0 x5_1).f2) ((rd_T122 l0 x5_1).f3) ((rd_T122 l0 x5_1).f4) x1_1 t103 _ A6.out).mono ?_);rintro e w9 ⟨rfl,hb⟩;refine ⟨_,rfl,?_⟩;replace HB:=bB HB hb;  clear hb)));(go_roundg k1);(case measure=>have:=HK1.out;omega);(case rel=>exact ⟨(t103),(wrap64 (x5_1+1)),(by first|rfl|(simp;done)|(simp [*];done)),(by first|rfl|(simp;done)|(simp [*];done)),H',⟨by have:=HK1.out;omega⟩,⟨by repeat (first|(with_reducible first|exact HB.out|apply below_alloc|apply pw_below_drewN|apply below_drew1)|exact HB.out)⟩⟩)
     (· (rw [if_neg c5] at H);(exact absurd H (by simp)))
    (· (rw [if_neg c4] at H);(have c4b0:decide (x5_1<(l0.length:Int))=false:=decide_eq_false c4);(clear c4);(obtain rfl:=Option.some.inj H);(go_wp2);(go_ret);(exact ⟨by first|rfl|(simp [errW_none,errW_some] <;> rfl)|(simp [*,errW_none,errW_some] <;> rfl),bz HB⟩))
def laws_szMark.f (a0_0:ByteArray) (a0_1:Int) (a0_2:Bool) (a1:Int):Option (Int):=if (wrap64 (a1-(a0_0.size:Int)))<0 then (some (-1)) else (some (wrap64 (a1-(a0_0.size:Int))))
set_option maxHeartbeats 8000000 in
set_option maxRecDepth 100000 in
theorem laws_szMark.calls (a0_0:ByteArray) (a0_1:Int) (a0_2:Bool) (a1:Int) (r:Int) (w:World) (h:laws_szMark.f a0_0 a0_1 a0_2 a1=some r) :
  Calls Tryd.prog 93 #[.agg #[.string a0_0,.int .i64 a0_1,.bool a0_2],.int .i64 a1] w fun e w'=>e = .returned (.int .i64 r)∧Below w.heap.size w w':=by
 (have hu124:=Tryd.underlying124);(have HB:=Aside0.mk (Below.refl w.heap.size w));(have H:(if (wrap64 (a1-(a0_0.size:Int)))<0 then (some (-1)) else (some (wrap64 (a1-(a0_0.size:Int)))))=some r:=h);clear h;(by_cases c3:(wrap64 (a1-(a0_0.size:Int)))<0)
 ·
  (rw [if_pos c3] at H);(have c3b0:decide ((wrap64 (a1-(a0_0.size:Int)))<0)=true:=decide_eq_true c3);clear c3;(obtain rfl:=Option.some.inj H);(go_enter Tryd.func93,Tryd.ntmps93);(go_wp2_with (first|((with_reducible refine gate_dst (N:=2) rfl ?_);refine box_event ?hg (N:=2) ?hd (cs:=#[.string a0_0,.int .i64 a0_1,.bool a0_2]) (t:=124) ?hr ?_;(case hd=>rfl);(case hg=>rfl);(case hr=>first|(go_simp;done)|(go_simp;rfl));intro gb104 hg w4 hbox hb;have n0_:=bB HB hb;have n1_:=Aside0.mk (hbox);have n2_:=Aside0.mk ((by rw [hg];exact (below_size (bz HB)):w.heap.size≤gb104));have n3_:=Aside0.mk ((by rw [hg];exact (below_size (bz HB)):w.heap.size≤gb104));clear HB;have HB:=n0_;have BK104:=n1_;have GW104:=n2_;have GE104:=n3_;clear n0_ n1_ n2_ n3_;clear hb hbox hg;have hcz5_0:w4.cell? ⟨gb104,0,none⟩=some (.string a0_0):=(blk_cell BK104.out 0).trans rfl;have hcz5_1:w4.cell? ⟨gb104,1,none⟩=some (.int .i64 a0_1):=(blk_cell BK104.out 1).trans rfl;have hcz5_2:w4.cell? ⟨gb104,2,none⟩=some (.bool a0_2):=(blk_cell BK104.out 2).trans rfl;have hfz5_0:=blk_frozen BK104.out 0;have hfz5_1:=blk_frozen BK104.out 1;have hfz5_2:=blk_frozen BK104.out 2)));go_ret;(exact ⟨by first|rfl|(simp [errW_none,errW_some] <;> rfl)|(simp [*,errW_none,errW_some] <;> rfl),by repeat (first|(with_reducible first|exact HB.out|apply below_alloc|apply pw_below_drewN|apply below_drew1|refine below_set ?_ GE104.out)|exact HB.out)⟩)
 ·
  (rw [if_neg c3] at H);(have c3b0:decide ((wrap64 (a1-(a0_0.size:Int)))<0)=false:=decide_eq_false c3);clear c3;(obtain rfl:=Option.some.inj H);(go_enter Tryd.func93,Tryd.ntmps93);(go_wp2_with (first|((with_reducible refine gate_dst (N:=2) rfl ?_);refine box_event ?hg (N:=2) ?hd (cs:=#[.string a0_0,.int .i64 a0_1,.bool a0_2]) (t:=124) ?hr ?_;(case hd=>rfl);(case hg=>rfl);(case hr=>first|(go_simp;done)|(go_simp;rfl));intro gb104 hg w6 hbox hb;have n0_:=bB HB hb;have n1_:=Aside0.mk (hbox);have n2_:=Aside0.mk ((by rw [hg];exact (below_size (bz HB)):w.heap.size≤gb104));have n3_:=Aside0.mk ((by rw [hg];exact (below_size (bz HB)):w.heap.size≤gb104));clear HB;have HB:=n0_;have BK104:=n1_;have GW104:=n2_;have GE104:=n3_;clear n0_ n1_ n2_ n3_;clear hb hbox hg;have hcz7_0:w6.cell? ⟨gb104,0,none⟩=some (.string a0_0):=(blk_cell BK104.out 0).trans rfl;have hcz7_1:w6.cell? ⟨gb104,1,none⟩=some (.int .i64 a0_1):=(blk_cell BK104.out 1).trans rfl;have hcz7_2:w6.cell? ⟨gb104,2,none⟩=some (.bool a0_2):=(blk_cell BK104.out 2).trans rfl;have hfz7_0:=blk_frozen BK104.out 0;have hfz7_1:=blk_frozen BK104.out 1;have hfz7_2:=blk_frozen BK104.out 2)));go_ret;(exact ⟨by first|rfl|(simp [errW_none,errW_some] <;> rfl)|(simp [*,errW_none,errW_some] <;> rfl),by repeat (first|(with_reducible first|exact HB.out|apply below_alloc|apply pw_below_drewN|apply below_drew1|refine below_set ?_ GE104.out)|exact HB.out)⟩)
def laws_szMarkS.l0:Nat→List (S124)→Int→Int→Option (Int)
 | 0,_,_,_=>none
 | k+1,x0,x1,x5=>if x5<(x0.length:Int) then (if 0≤x5 then ((laws_szMark.f ((rd_T124 x0 x5).f0) ((rd_T124 x0 x5).f1) ((rd_T124 x0 x5).f2) x1).bind fun t106=>(if t106<0 then (some (-1)) else (laws_szMarkS.l0 k x0 t106 (wrap64 (x5+1))))) else (none)) else (some x1)
def laws_szMarkS.f (k:Nat) (l0:List (S124)) (a1:Int):Option (Int):=if (wrap64 (a1-(l0.length:Int)))<0 then (some (-1)) else (laws_szMarkS.l0 k l0 (wrap64 (a1-(l0.length:Int))) 0)
set_option maxHeartbeats 8000000 in
set_option maxRecDepth 100000 in
theorem laws_szMarkS.calls (k:Nat) (A0:Option Addr) (c0:Nat) (l0:List (S124)) (a1:Int) (r:Int) (w:World) (hr0:Kd.C k124 w A0 l0.length l0) (hc0:l0.length≤c0) (h:laws_szMarkS.f k l0 a1=some r) :
  Calls Tryd.prog 55 #[.slice A0 l0.length c0,.int .i64 a1] w fun e w'=>e = .returned (.int .i64 r)∧Below w.heap.size w w':=by
 (have hu124:=Tryd.underlying124);(have HR0:=Aside0.mk hr0);(have HC0:=Aside0.mk hc0);clear hr0 hc0;(have HB:=Aside0.mk (Below.refl w.heap.size w));(have H:(if (wrap64 (a1-(l0.length:Int)))<0 then (some (-1)) else (laws_szMarkS.l0 k l0 (wrap64 (a1-(l0.length:Int))) 0))=some r:=h);clear h;(by_cases c3:(wrap64 (a1-(l0.length:Int)))<0);(· (rw [if_pos c3] at H);(have c3b0:decide ((wrap64 (a1-(l0.length:Int)))<0)=true:=decide_eq_true c3);(clear c3);(obtain rfl:=Option.some.inj H);(go_enter Tryd.func55,Tryd.ntmps55);(go_wp2);(go_ret);(exact ⟨by first|rfl|(simp [errW_none,errW_some] <;> rfl)|(simp [*,errW_none,errW_some] <;> rfl),bz HB⟩))
 ·
  (rw [if_neg c3] at H);(have c3b0:decide ((wrap64 (a1-(l0.length:Int)))<0)=false:=decide_eq_false c3);clear c3;(have H':=Aside0.mk H);clear H;(go_enter Tryd.func55,Tryd.ntmps55);go_wp2;(go_loopg [1,5] k (fun kq v1 v5 w'=>∃ (x1_1:Int) (x5_1:Int),v1 = .int .i64 x1_1∧v5 = .int .i64 x5_1∧Aside0 (laws_szMarkS.l0 kq l0 x1_1 x5_1=some r)∧Aside0 (kq≤k)∧Aside0 (Below w.heap.size w w')));(case atStart=>exact ⟨(wrap64 (a1-(l0.length:Int))),(0),(by first|rfl|(simp;done)|(simp [*];done)),(by first|rfl|(simp;done)|(simp [*];done)),H',⟨Nat.le_refl _⟩,⟨by repeat (first|(with_reducible first|exact HB.out|apply below_alloc|apply pw_below_drewN|apply below_drew1)|exact HB.out)⟩⟩)
  case round =>
   (clear H');(try clear p2);(try clear c3);(try clear c3b0);(obtain ⟨x1_1,x5_1,rfl,rfl,HA,HK1,HB⟩:=hrel)
   cases gk with
   | zero=>exact absurd HA.out (by simp [laws_szMarkS.l0])
   | succ k1 =>
    (have H:=HA.out);clear HA;(simp only [laws_szMarkS.l0] at H);(by_cases c4:x5_1<(l0.length:Int))
    ·
     (rw [if_pos c4] at H);(have c4b0:decide (x5_1<(l0.length:Int))=true:=decide_eq_true c4);clear c4;(by_cases c5:0≤x5_1)
     ·
      (rw [if_pos c5] at H);(have c5b0:decide (0≤x5_1)=true:=decide_eq_true c5);clear c5;(replace H:=Option.bind_eq_some_iff.mp H);(obtain ⟨t106,A60,H⟩:=H);(try dsimp only at H);(have A6:=Aside0.mk A60);clear A60;(by_cases c7:t106<0)
      ·
       (rw [if_pos c7] at H);(have c7b0:decide (t106<0)=true:=decide_eq_true c7);clear c7;(obtain rfl:=Option.some.inj H);(have p105:0≤(x5_1:Int):=of_decide_eq_true (by first|(with_reducible assumption)|assumption));(have q105:x5_1<(l0.length:Int):=of_decide_eq_true (by first|(with_reducible assumption)|assumption));(obtain ⟨ad105,e105,hx105_0,hx105_1,hx105_2⟩:=at_T124 HR0.out x5_1 p105 q105);(cases e105);(replace hx105_0:=(HB.out.cell (World.block_lt_of_cell? _ _ hx105_0)).trans hx105_0);(replace hx105_1:=(HB.out.cell (World.block_lt_of_cell? _ _ hx105_1)).trans hx105_1);(replace hx105_2:=(HB.out.cell (World.block_lt_of_cell? _ _ hx105_2)).trans hx105_2);(replace p105:=eq_true p105);(replace q105:=eq_true q105);(go_wp2_with (first|((with_reducible refine gate_callee (f:=93) rfl ?_);refine goesL_ (some 23) rfl rfl Tryd.func93 (by kernel_rfl) rfl #[.agg #[.string ((rd_T124 l0 x5_1).f0),.int .i64 ((rd_T124 l0 x5_1).f1),.bool ((rd_T124 l0 x5_1).f2)],.int .i64 x1_1] rfl (by (try simp only [List.map_toArray,List.map_cons,List.map_nil]);first|done|rfl|(simp only [List.length_drop,List.length_take];rfl)) ?_;(with_reducible refine (laws_szMark.calls ((rd_T124 l0 x5_1).f0) ((rd_T124 l0 x5_1).f1) ((rd_T124 l0 x5_1).f2) x1_1 t106 _ A6.out).mono ?_);rintro e w8 ⟨rfl,hb⟩;refine ⟨_,rfl,?_⟩;replace HB:=bB HB hb;  clear hb)));go_ret;(exact ⟨by first|rfl|(simp [errW_none,errW_some] <;> rfl)|(simp [*,errW_none,errW_some] <;> rfl),bz HB⟩)
      ·
       (rw [if_neg c7] at H);(have c7b0:decide (t106<0)=false:=decide_eq_false c7);clear c7;(have H':=Aside0.mk H);clear H;(have p105:0≤(x5_1:Int):=of_decide_eq_true (by first|(with_reducible assumption)|assumption));(have q105:x5_1<(l0.length:Int):=of_decide_eq_true (by first|(with_reducible assumption)|assumption));(obtain ⟨ad105,e105,hx105_0,hx105_1,hx105_2⟩:=at_T124 HR0.out x5_1 p105 q105);(cases e105);(replace hx105_0:=(HB.out.cell (World.block_lt_of_cell? _ _ hx105_0)).trans hx105_0);(replace hx105_1:=(HB.out.cell (World.block_lt_of_cell? _ _ hx105_1)).trans hx105_1);(replace hx105_2:=(HB.out.cell (World.block_lt_of_cell? _ _ hx105_2)).trans hx105_2);(replace p105:=eq_true p105);(replace q105:=eq_true q105);(go_wp2_with (first|((with_reducible refine gate_callee (f:=93) rfl ?_);refine goesL_ (some 23) rfl rfl Tryd.func93 (by kernel_rfl) rfl #[.agg #[.string ((rd_T124 l0 x5_1).f0),.int .i64 ((rd_T124 l0 x5_1).f1),.bool ((rd_T124 l0 x5_1).f2)],.int .i64 x1_1] rfl (by (try simp only [List.map_toArray,List.map_cons,List.map_nil]);first|done|rfl|(simp only [List.length_drop,List.length_take];rfl)) ?_;(with_reducible refine (laws_szMark.calls ((rd_T124 l0 x5_1).f0) ((rd_T124 l0 x5_1).f1) ((rd_T124 l0 x5_1).f2) x1_1 t106 _ A6.out).mono ?_);rintro e w9 ⟨rfl,hb⟩;refine ⟨_,rfl,?_⟩;replace HB:=bB HB hb;  clear hb)));(go_roundg k1);(case measure=>have:=HK1.out;omega);(case rel=>exact ⟨(t106),(wrap64 (x5_1+1)),(by first|rfl|(simp;done)|(simp [*];done)),(by first|rfl|(simp;done)|(simp [*];done)),H',⟨by have:=HK1.out;omega⟩,⟨by repeat (first|(with_reducible first|exact HB.out|apply below_alloc|apply pw_below_drewN|apply below_drew1)|exact HB.out)⟩⟩)
     (· (rw [if_neg c5] at H);(exact absurd H (by simp)))
    (· (rw [if_neg c4] at H);(have c4b0:decide (x5_1<(l0.length:Int))=false:=decide_eq_false c4);(clear c4);(obtain rfl:=Option.some.inj H);(go_wp2);(go_ret);(exact ⟨by first|rfl|(simp [errW_none,errW_some] <;> rfl)|(simp [*,errW_none,errW_some] <;> rfl),bz HB⟩))
def laws_szRope.f (k:Nat) (l0_0:List (S122)) (l0_1:List (S124)) (a1:Int):Option (Int):=(laws_szRopeNodeS.f k l0_0 a1).bind fun t108=>(if t108<0 then (some (-1)) else ((laws_szMarkS.f k l0_1 t108).bind fun t109=>(if t109<0 then (some (-1)) else (some t109))))
set_option maxHeartbeats 8000000 in
set_option maxRecDepth 100000 in
theorem laws_szRope.calls (k:Nat) (A0_0:Option Addr) (c0_0:Nat) (l0_0:List (S122)) (A0_1:Option Addr) (c0_1:Nat) (l0_1:List (S124)) (a1:Int) (r:Int) (w:World) (hr0_0:Kd.C k122 w A0_0 l0_0.length l0_0) (hc0_0:l0_0.length≤c0_0) (hr0_1:Kd.C k124 w A0_1 l0_1.length l0_1) (hc0_1:l0_1.length≤c0_1) (h:laws_szRope.f k l0_0 l0_1 a1=some r) :
  Calls Tryd.prog 21 #[.agg #[.slice A0_0 l0_0.length c0_0,.slice A0_1 l0_1.length c0_1],.int .i64 a1] w fun e w'=>e = .returned (.int .i64 r)∧Below w.heap.size w w':=by
 (have hu40:=Tryd.underlying40);(have HR0_0:=Aside0.mk hr0_0);(have HC0_0:=Aside0.mk hc0_0);clear hr0_0 hc0_0;(have HR0_1:=Aside0.mk hr0_1);(have HC0_1:=Aside0.mk hc0_1);clear hr0_1 hc0_1;(have HB:=Aside0.mk (Below.refl w.heap.size w));(have H:((laws_szRopeNodeS.f k l0_0 a1).bind fun t108=>(if t108<0 then (some (-1)) else ((laws_szMarkS.f k l0_1 t108).bind fun t109=>(if t109<0 then (some (-1)) else (some t109)))))=some r:=h);clear h;(replace H:=Option.bind_eq_some_iff.mp H);(obtain ⟨t108,A30,H⟩:=H);(try dsimp only at H);(have A3:=Aside0.mk A30);clear A30;(by_cases c4:t108<0)
 ·
  (rw [if_pos c4] at H);(have c4b0:decide (t108<0)=true:=decide_eq_true c4);clear c4;(obtain rfl:=Option.some.inj H);(go_enter Tryd.func21,Tryd.ntmps21);(go_wp2_with (first|((with_reducible refine gate_dst (N:=2) rfl ?_);refine box_event ?hg (N:=2) ?hd (cs:=#[.slice A0_0 l0_0.length c0_0,.slice A0_1 l0_1.length c0_1]) (t:=40) ?hr ?_;(case hd=>rfl);(case hg=>rfl);(case hr=>first|(go_simp;done)|(go_simp;rfl));intro gb107 hg w5 hbox hb;have n0_:=bB HB hb;have n1_:=Aside0.mk (hbox);have n2_:=Aside0.mk ((by rw [hg];exact (below_size (bz HB)):w.heap.size≤gb107));have n3_:=Aside0.mk ((by rw [hg];exact (below_size (bz HB)):w.heap.size≤gb107));clear HB;have HB:=n0_;have BK107:=n1_;have GW107:=n2_;have GE107:=n3_;clear n0_ n1_ n2_ n3_;clear hb hbox hg;have hcz6_0:w5.cell? ⟨gb107,0,none⟩=some (.slice A0_0 l0_0.length c0_0):=(blk_cell BK107.out 0).trans rfl;have hcz6_1:w5.cell? ⟨gb107,1,none⟩=some (.slice A0_1 l0_1.length c0_1):=(blk_cell BK107.out 1).trans rfl;have hfz6_0:=blk_frozen BK107.out 0;have hfz6_1:=blk_frozen BK107.out 1)|((with_reducible refine gate_callee (f:=54) rfl ?_);refine goesL_ (some 8) rfl rfl Tryd.func54 (by kernel_rfl) rfl #[.slice A0_0 l0_0.length c0_0,.int .i64 a1] rfl (by (try simp only [List.map_toArray,List.map_cons,List.map_nil]);first|done|rfl|(simp only [List.length_drop,List.length_take];rfl)) ?_;(with_reducible refine (laws_szRopeNodeS.calls k _ _ l0_0 a1 t108 _ ?side1 ?side2 A3.out).mono ?_);(case side1=>exact cZ HR0_0 HB);(case side2=>exact HC0_0.out);rintro e w7 ⟨rfl,hb⟩;refine ⟨_,rfl,?_⟩;replace BK107:=kB BK107 hb;replace HB:=bB HB hb;  clear hb)));go_ret;(exact ⟨by first|rfl|(simp [errW_none,errW_some] <;> rfl)|(simp [*,errW_none,errW_some] <;> rfl),by repeat (first|(with_reducible first|exact HB.out|apply below_alloc|apply pw_below_drewN|apply below_drew1|refine below_set ?_ GE107.out)|exact HB.out)⟩)
 ·
  (rw [if_neg c4] at H);(have c4b0:decide (t108<0)=false:=decide_eq_false c4);clear c4;(replace H:=Option.bind_eq_some_iff.mp H);(obtain ⟨t109,A80,H⟩:=H);(try dsimp only at H);(have A8:=Aside0.mk A80);clear A80;(by_cases c9:t109<0)
  ·
   (rw [if_pos c9] at H);(have c9b0:decide (t109<0)=true:=decide_eq_true c9);clear c9;(obtain rfl:=Option.some.inj H);(go_enter Tryd.func21,Tryd.ntmps21);(go_wp2_with (first|((with_reducible refine gate_dst (N:=2) rfl ?_);refine box_event ?hg (N:=2) ?hd (cs:=#[.slice A0_0 l0_0.length c0_0,.slice A0_1 l0_1.length c0_1]) (t:=40) ?hr ?_;(case hd=>rfl);(case hg=>rfl);(case hr=>first|(go_simp;done)|(go_simp;rfl));intro gb107 hg w10 hbox hb;have n0_:=bB HB hb;have n1_:=Aside0.mk (hbox);have n2_:=Aside0.mk ((by rw [hg];exact (below_size (bz HB)):w.heap.size≤gb107));have n3_:=Aside0.mk ((by rw [hg];exact (below_size (bz HB)):w.heap.size≤gb107));clear HB;have HB:=n0_;have BK107:=n1_;have GW107:=n2_;have GE107:=n3_;clear n0_ n1_ n2_ n3_;clear hb hbox hg;have hcz11_0:w10.cell? ⟨gb107,0,none⟩=some (.slice A0_0 l0_0.length c0_0):=(blk_cell BK107.out 0).trans rfl;have hcz11_1:w10.cell? ⟨gb107,1,none⟩=some (.slice A0_1 l0_1.length c0_1):=(blk_cell BK107.out 1).trans rfl;have hfz11_0:=blk_frozen BK107.out 0;have hfz11_1:=blk_frozen BK107.out 1)|((with_reducible refine gate_callee (f:=54) rfl ?_);refine goesL_ (some 8) rfl rfl Tryd.func54 (by kernel_rfl) rfl #[.slice A0_0 l0_0.length c0_0,.int .i64 a1] rfl (by (try simp only [List.map_toArray,List.map_cons,List.map_nil]);first|done|rfl|(simp only [List.length_drop,List.length_take];rfl)) ?_;(with_reducible refine (laws_szRopeNodeS.calls k _ _ l0_0 a1 t108 _ ?side1 ?side2 A3.out).mono ?_);(case side1=>exact cZ HR0_0 HB);(case side2=>exact HC0_0.out);rintro e w12 ⟨rfl,hb⟩;refine ⟨_,rfl,?_⟩;replace BK107:=kB BK107 hb;replace HB:=bB HB hb;  clear hb;have hcz13_0:w12.cell? ⟨gb107,0,none⟩=some (.slice A0_0 l0_0.length c0_0):=(blk_cell BK107.out 0).trans rfl;have hcz13_1:w12.cell? ⟨gb107,1,none⟩=some (.slice A0_1 l0_1.length c0_1):=(blk_cell BK107.out 1).trans rfl;have hfz13_0:=blk_frozen BK107.out 0;have hfz13_1:=blk_frozen BK107.out 1)|((with_reducible refine gate_callee (f:=55) rfl ?_);refine goesL_ (some 14) rfl rfl Tryd.func55 (by kernel_rfl) rfl #[.slice A0_1 l0_1.length c0_1,.int .i64 t108] rfl (by (try simp only [List.map_toArray,List.map_cons,List.map_nil]);first|done|rfl|(simp only [List.length_drop,List.length_take];rfl)) ?_;(with_reducible refine (laws_szMarkS.calls k _ _ l0_1 t108 t109 _ ?side1 ?side2 A8.out).mono ?_);(case side1=>exact cZ HR0_1 HB);(case side2=>exact HC0_1.out);rintro e w14 ⟨rfl,hb⟩;refine ⟨_,rfl,?_⟩;replace BK107:=kB BK107 hb;replace HB:=bB HB hb;  clear hb)));go_ret;(exact ⟨by first|rfl|(simp [errW_none,errW_some] <;> rfl)|(simp [*,errW_none,errW_some] <;> rfl),by repeat (first|(with_reducible first|exact HB.out|apply below_alloc|apply pw_below_drewN|apply below_drew1|refine below_set ?_ GE107.out)|exact HB.out)⟩)
  ·
   (rw [if_neg c9] at H);(have c9b0:decide (t109<0)=false:=decide_eq_false c9);clear c9;(obtain rfl:=Option.some.inj H);(go_enter Tryd.func21,Tryd.ntmps21);(go_wp2_with (first|((with_reducible refine gate_dst (N:=2) rfl ?_);refine box_event ?hg (N:=2) ?hd (cs:=#[.slice A0_0 l0_0.length c0_0,.slice A0_1 l0_1.length c0_1]) (t:=40) ?hr ?_;(case hd=>rfl);(case hg=>rfl);(case hr=>first|(go_simp;done)|(go_simp;rfl));intro gb107 hg w15 hbox hb;have n0_:=bB HB hb;have n1_:=Aside0.mk (hbox);have n2_:=Aside0.mk ((by rw [hg];exact (below_size (bz HB)):w.heap.size≤gb107));have n3_:=Aside0.mk ((by rw [hg];exact (below_size (bz HB)):w.heap.size≤gb107));clear HB;have HB:=n0_;have BK107:=n1_;have GW107:=n2_;have GE107:=n3_;clear n0_ n1_ n2_ n3_;clear hb hbox hg;have hcz16_0:w15.cell? ⟨gb107,0,none⟩=some (.slice A0_0 l0_0.length c0_0):=(blk_cell BK107.out 0).trans rfl;have hcz16_1:w15.cell? ⟨gb107,1,none⟩=some (.slice A0_1 l0_1.length c0_1):=(blk_cell BK107.out 1).trans rfl;have hfz16_0:=blk_frozen BK107.out 0;have hfz16_1:=blk_frozen BK107.out 1)|((with_reducible refine gate_callee (f:=54) rfl ?_);refine goesL_ (some 8) rfl rfl Tryd.func54 (by kernel_rfl) rfl #[.slice A0_0 l0_0.length c0_0,.int .i64 a1] rfl (by (try simp only [List.map_toArray,List.map_cons,List.map_nil]);first|done|rfl|(simp only [List.length_drop,List.length_take];rfl)) ?_;(with_reducible refine (laws_szRopeNodeS.calls k _ _ l0_0 a1 t108 _ ?side1 ?side2 A3.out).mono ?_);(case side1=>exact cZ HR0_0 HB);(case side2=>exact HC0_0.out);rintro e w17 ⟨rfl,hb⟩;refine ⟨_,rfl,?_⟩;replace BK107:=kB BK107 hb;replace HB:=bB HB hb;  clear hb;have hcz18_0:w17.cell? ⟨gb107,0,none⟩=some (.slice A0_0 l0_0.length c0_0):=(blk_cell BK107.out 0).trans rfl;have hcz18_1:w17.cell? ⟨gb107,1,none⟩=some (.slice A0_1 l0_1.length c0_1):=(blk_cell BK107.out 1).trans rfl;have hfz18_0:=blk_frozen BK107.out 0;have hfz18_1:=blk_frozen BK107.out 1)|((with_reducible refine gate_callee (f:=55) rfl ?_);refine goesL_ (some 14) rfl rfl Tryd.func55 (by kernel_rfl) rfl #[.slice A0_1 l0_1.length c0_1,.int .i64 t108] rfl (by (try simp only [List.map_toArray,List.map_cons,List.map_nil]);first|done|rfl|(simp only [List.length_drop,List.length_take];rfl)) ?_;(with_reducible refine (laws_szMarkS.calls k _ _ l0_1 t108 t109 _ ?side1 ?side2 A8.out).mono ?_);(case side1=>exact cZ HR0_1 HB);(case side2=>exact HC0_1.out);rintro e w19 ⟨rfl,hb⟩;refine ⟨_,rfl,?_⟩;replace BK107:=kB BK107 hb;replace HB:=bB HB hb;  clear hb)));go_ret;(exact ⟨by first|rfl|(simp [errW_none,errW_some] <;> rfl)|(simp [*,errW_none,errW_some] <;> rfl),by repeat (first|(with_reducible first|exact HB.out|apply below_alloc|apply pw_below_drewN|apply below_drew1|refine below_set ?_ GE107.out)|exact HB.out)⟩)
def laws_toRopeNode.f (a0_0:ByteArray) (a0_1:Int) (a0_2:Int) (a0_3:Int) (a0_4:Int):Option (ByteArray × Int × Int × Int × Int):=some (a0_0,a0_1,a0_2,a0_3,a0_4)
set_option maxHeartbeats 8000000 in
set_option maxRecDepth 100000 in
theorem laws_toRopeNode.calls (a0_0:ByteArray) (a0_1:Int) (a0_2:Int) (a0_3:Int) (a0_4:Int) (r1:ByteArray) (r2:Int) (r3:Int) (r4:Int) (r5:Int) (w:World) (h:laws_toRopeNode.f a0_0 a0_1 a0_2 a0_3 a0_4=some (r1,r2,r3,r4,r5)) :
  Calls Tryd.prog 95 #[.agg #[.string a0_0,.int .i64 a0_1,.int .i64 a0_2,.int .i64 a0_3,.int .i64 a0_4]] w fun e w'=>e = .returned (.agg #[.string r1,.int .i64 r2,.int .i64 r3,.int .i64 r4,.int .i64 r5])∧Below w.heap.size w w':=by
 (have hu122:=Tryd.underlying122);(have hu30:=Tryd.underlying30);(have HB:=Aside0.mk (Below.refl w.heap.size w));(have H:(some (a0_0,a0_1,a0_2,a0_3,a0_4))=some (r1,r2,r3,r4,r5):=h);clear h;(simp only [Option.some.injEq,Prod.mk.injEq] at H);(obtain ⟨rfl,rfl,rfl,rfl,rfl⟩:=H);(go_enter Tryd.func95,Tryd.ntmps95);(go_wp2_with (first|((with_reducible refine gate_dst (N:=1) rfl ?_);refine box_event ?hg (N:=1) ?hd (cs:=#[.string a0_0,.int .i64 a0_1,.int .i64 a0_2,.int .i64 a0_3,.int .i64 a0_4]) (t:=122) ?hr ?_;(case hd=>rfl);(case hg=>rfl);(case hr=>first|(go_simp;done)|(go_simp;rfl));intro gb110 hg w2 hbox hb;have n0_:=bB HB hb;have n1_:=Aside0.mk (hbox);have n2_:=Aside0.mk ((by rw [hg];exact (below_size (bz HB)):w.heap.size≤gb110));have n3_:=Aside0.mk ((by rw [hg];exact (below_size (bz HB)):w.heap.size≤gb110));clear HB;have HB:=n0_;have BK110:=n1_;have GW110:=n2_;have GE110:=n3_;clear n0_ n1_ n2_ n3_;clear hb hbox hg)|((with_reducible refine gate_dst (N:=2) rfl ?_);refine box_event ?hg (N:=2) ?hd (cs:=#[.string (⟨#[]⟩:ByteArray),.int .i64 0,.int .i64 0,.int .i64 0,.int .i64 0]) (t:=30) ?hr ?_;(case hd=>rfl);(case hg=>rfl);(case hr=>first|(go_simp;done)|(go_simp;rfl));intro gb111 hg w3 hbox hb;have n0_:=kB BK110 hb;have n1_:=bB HB hb;have n2_:=Aside0.mk (hbox);have n3_:=Aside0.mk ((by rw [hg];exact (below_size (bz HB)):w.heap.size≤gb111));have n4_:=Aside0.mk ((by rw [hg];exact (below_size (bz HB)):w.heap.size≤gb111));have n5_:=Aside0.mk ((by rw [hg];exact Nat.ne_of_lt (blk_lt (g:=gb110) (o:=.cells #[.string a0_0,.int .i64 a0_1,.int .i64 a0_2,.int .i64 a0_3,.int .i64 a0_4] 122 (0,0)) (by (with_reducible repeat (first|apply kN|apply kD|apply kA));exact BK110.out)):gb110≠gb111));have n6_:=Aside0.mk ((by rw [hg];exact Nat.ne_of_gt (blk_lt (g:=gb110) (o:=.cells #[.string a0_0,.int .i64 a0_1,.int .i64 a0_2,.int .i64 a0_3,.int .i64 a0_4] 122 (0,0)) (by (with_reducible repeat (first|apply kN|apply kD|apply kA));exact BK110.out)):gb111≠gb110));clear BK110;clear HB;have BK110:=n0_;have HB:=n1_;have BK111:=n2_;have GW111:=n3_;have GE111:=n4_;have NB110_111:=n5_;have NB111_110:=n6_;clear n0_ n1_ n2_ n3_ n4_ n5_ n6_;clear hb hbox hg)|((with_reducible refine gate_dst (N:=3) rfl ?_);refine box_event ?hg (N:=3) ?hd (cs:=#[.string (⟨#[]⟩:ByteArray),.int .i64 0,.int .i64 0,.int .i64 0,.int .i64 0]) (t:=30) ?hr ?_;(case hd=>rfl);(case hg=>rfl);(case hr=>first|(go_simp;done)|(go_simp;rfl));intro gb112 hg w4 hbox hb;have n0_:=Aside0.mk (blk_below (g:=gb110) (o:=.cells #[.string a0_0,.int .i64 a0_1,.int .i64 a0_2,.int .i64 a0_3,.int .i64 a0_4] 122 (0,0)) (by (with_reducible repeat (first|apply kN|apply kD|apply kA));exact BK110.out) hb);have n1_:=Aside0.mk (blk_below (g:=gb111) (o:=.cells #[.string (⟨#[]⟩:ByteArray),.int .i64 0,.int .i64 0,.int .i64 0,.int .i64 0] 30 (0,0)) (by (with_reducible repeat (first|apply kN|apply kD|apply kA));exact BK111.out) hb);have n2_:=Aside0.mk (below_step (by repeat (first|(with_reducible first|exact HB.out|apply below_alloc|apply pw_below_drewN|apply below_drew1|refine below_set ?_ GE110.out|refine below_set ?_ GE111.out)|exact HB.out)) hb);have n3_:=Aside0.mk (hbox);have n4_:=Aside0.mk ((by rw [hg];exact (below_size (by repeat (first|(with_reducible first|exact HB.out|apply below_alloc|apply pw_below_drewN|apply below_drew1|refine below_set ?_ GE110.out|refine below_set ?_ GE111.out)|exact HB.out))):w.heap.size≤gb112));have n5_:=Aside0.mk ((by rw [hg];exact (below_size (by repeat (first|(with_reducible first|exact HB.out|apply below_alloc|apply pw_below_drewN|apply below_drew1|refine below_set ?_ GE110.out|refine below_set ?_ GE111.out)|exact HB.out))):w.heap.size≤gb112));have n6_:=Aside0.mk ((by rw [hg];exact Nat.ne_of_lt (blk_lt (g:=gb110) (o:=.cells #[.string a0_0,.int .i64 a0_1,.int .i64 a0_2,.int .i64 a0_3,.int .i64 a0_4] 122 (0,0)) (by (with_reducible repeat (first|apply kN|apply kD|apply kA));exact BK110.out)):gb110≠gb112));have n7_:=Aside0.mk ((by rw [hg];exact Nat.ne_of_gt (blk_lt (g:=gb110) (o:=.cells #[.string a0_0,.int .i64 a0_1,.int .i64 a0_2,.int .i64 a0_3,.int .i64 a0_4] 122 (0,0)) (by (with_reducible repeat (first|apply kN|apply kD|apply kA));exact BK110.out)):gb112≠gb110));have n8_:=Aside0.mk ((by rw [hg];exact Nat.ne_of_lt (blk_lt (g:=gb111) (o:=.cells #[.string (⟨#[]⟩:ByteArray),.int .i64 0,.int .i64 0,.int .i64 0,.int .i64 0] 30 (0,0)) (by (with_reducible repeat (first|apply kN|apply kD|apply kA));exact BK111.out)):gb111≠gb112));have n9_:=Aside0.mk ((by rw [hg];exact Nat.ne_of_gt (blk_lt (g:=gb111) (o:=.cells #[.string (⟨#[]⟩:ByteArray),.int .i64 0,.int .i64 0,.int .i64 0,.int .i64 0] 30 (0,0)) (by (with_reducible repeat (first|apply kN|apply kD|apply kA));exact BK111.out)):gb112≠gb111));clear BK110;clear BK111;clear HB;have BK110:=n0_;have BK111:=n1_;have HB:=n2_;have BK112:=n3_;have GW112:=n4_;have GE112:=n5_;have NB110_112:=n6_;have NB112_110:=n7_;have NB111_112:=n8_;have NB112_111:=n9_;clear n0_ n1_ n2_ n3_ n4_ n5_ n6_ n7_ n8_ n9_;clear hb hbox hg;have hnb5:=NB110_111.out;have hnc5:=NB111_110.out;have hnb6:=NB110_112.out;have hnc6:=NB112_110.out;have hcz7_0:w4.cell? ⟨gb110,0,none⟩=some (.string a0_0):=(blk_cell BK110.out 0).trans rfl;have hcz7_1:w4.cell? ⟨gb110,1,none⟩=some (.int .i64 a0_1):=(blk_cell BK110.out 1).trans rfl;have hcz7_2:w4.cell? ⟨gb110,2,none⟩=some (.int .i64 a0_2):=(blk_cell BK110.out 2).trans rfl;have hcz7_3:w4.cell? ⟨gb110,3,none⟩=some (.int .i64 a0_3):=(blk_cell BK110.out 3).trans rfl;have hcz7_4:w4.cell? ⟨gb110,4,none⟩=some (.int .i64 a0_4):=(blk_cell BK110.out 4).trans rfl;have hfz7_0:=blk_frozen BK110.out 0;have hfz7_1:=blk_frozen BK110.out 1;have hfz7_2:=blk_frozen BK110.out 2;have hfz7_3:=blk_frozen BK110.out 3;have hfz7_4:=blk_frozen BK110.out 4;have hnb8:=NB112_111.out;have hnc8:=NB111_112.out;have hcz9_0:w4.cell? ⟨gb112,0,none⟩=some (.string (⟨#[]⟩:ByteArray)):=(blk_cell BK112.out 0).trans rfl;have hcz9_1:w4.cell? ⟨gb112,1,none⟩=some (.int .i64 0):=(blk_cell BK112.out 1).trans rfl;have hcz9_2:w4.cell? ⟨gb112,2,none⟩=some (.int .i64 0):=(blk_cell BK112.out 2).trans rfl;have hcz9_3:w4.cell? ⟨gb112,3,none⟩=some (.int .i64 0):=(blk_cell BK112.out 3).trans rfl;have hcz9_4:w4.cell? ⟨gb112,4,none⟩=some (.int .i64 0):=(blk_cell BK112.out 4).trans rfl;have hfz9_0:=blk_frozen BK112.out 0;have hfz9_1:=blk_frozen BK112.out 1;have hfz9_2:=blk_frozen BK112.out 2;have hfz9_3:=blk_frozen BK112.out 3;have hfz9_4:=blk_frozen BK112.out 4;have hcz10_0:w4.cell? ⟨gb111,0,none⟩=some (.string (⟨#[]⟩:ByteArray)):=(blk_cell BK111.out 0).trans rfl;have hcz10_1:w4.cell? ⟨gb111,1,none⟩=some (.int .i64 0):=(blk_cell BK111.out 1).trans rfl;have hcz10_2:w4.cell? ⟨gb111,2,none⟩=some (.int .i64 0):=(blk_cell BK111.out 2).trans rfl;have hcz10_3:w4.cell? ⟨gb111,3,none⟩=some (.int .i64 0):=(blk_cell BK111.out 3).trans rfl;have hcz10_4:w4.cell? ⟨gb111,4,none⟩=some (.int .i64 0):=(blk_cell BK111.out 4).trans rfl;have hfz10_0:=blk_frozen BK111.out 0;have hfz10_1:=blk_frozen BK111.out 1;have hfz10_2:=blk_frozen BK111.out 2;have hfz10_3:=blk_frozen BK111.out 3;have hfz10_4:=blk_frozen BK111.out 4)));(refine bodyPost_ret (results_cell_row rfl _ _ gb111 30 #[.string a0_0,.int .i64 a0_1,.int .i64 a0_2,.int .i64 a0_3,.int .i64 a0_4] (0,0) _ rfl (by (with_reducible repeat (first|apply kN|apply kD|apply kA));refine blk_put (cs:=#[.string a0_0,.int .i64 a0_1,.int .i64 a0_2,.int .i64 a0_3,.int .i64 0]) ?_ 4 _ rfl;(with_reducible repeat (first|apply kN|apply kD|apply kA));refine blk_put (cs:=#[.string a0_0,.int .i64 a0_1,.int .i64 a0_2,.int .i64 0,.int .i64 0]) ?_ 3 _ rfl;(with_reducible repeat (first|apply kN|apply kD|apply kA));refine blk_put (cs:=#[.string a0_0,.int .i64 a0_1,.int .i64 0,.int .i64 0,.int .i64 0]) ?_ 2 _ rfl;(with_reducible repeat (first|apply kN|apply kD|apply kA));refine blk_put (cs:=#[.string a0_0,.int .i64 0,.int .i64 0,.int .i64 0,.int .i64 0]) ?_ 1 _ rfl;(with_reducible repeat (first|apply kN|apply kD|apply kA));refine blk_put (cs:=#[.string (⟨#[]⟩:ByteArray),.int .i64 0,.int .i64 0,.int .i64 0,.int .i64 0]) ?_ 0 _ rfl;(with_reducible repeat (first|apply kN|apply kD|apply kA));refine blk_far ?_ NB111_112.out _;(with_reducible repeat (first|apply kN|apply kD|apply kA));refine blk_far ?_ NB111_112.out _;(with_reducible repeat (first|apply kN|apply kD|apply kA));refine blk_far ?_ NB111_112.out _;(with_reducible repeat (first|apply kN|apply kD|apply kA));refine blk_far ?_ NB111_112.out _;(with_reducible repeat (first|apply kN|apply kD|apply kA));refine blk_far ?_ NB111_112.out _;(with_reducible repeat (first|apply kN|apply kD|apply kA));exact BK111.out) Tryd.underlying30 rfl (by kernel_rfl)) rfl ?_);(exact ⟨by first|rfl|(simp [errW_none,errW_some] <;> rfl)|(simp [*,errW_none,errW_some] <;> rfl),by repeat (first|(with_reducible first|exact HB.out|apply below_alloc|apply pw_below_drewN|apply below_drew1|refine below_set ?_ GE110.out|refine below_set ?_ GE111.out|refine below_set ?_ GE112.out)|exact HB.out)⟩)
def laws_toRopeNodeS.l0:Nat→List (S122)→List (S30)→Int→Option ((List (S30)))
 | 0,_,_,_=>none
 | k+1,x0,x3,x4=>if x4<(x0.length:Int) then (if 0≤x4 then ((laws_toRopeNode.f ((rd_T122 x0 x4).f0) ((rd_T122 x0 x4).f1) ((rd_T122 x0 x4).f2) ((rd_T122 x0 x4).f3) ((rd_T122 x0 x4).f4)).bind fun bt117=>(if x4<(x3.length:Int) then (laws_toRopeNodeS.l0 k x0 (x3.set (x4:Int).toNat (⟨bt117.1,bt117.2.1,bt117.2.2.1,bt117.2.2.2.1,bt117.2.2.2.2⟩:S30)) (wrap64 (x4+1))) else (none))) else (none)) else (some x3)
def laws_toRopeNodeS.f (k:Nat) (l0:List (S122)):Option ((List (S30))):=if 0≤(l0.length:Int) then (if ((l0.length:Int):Int).toNat≤5864062014805 then (laws_toRopeNodeS.l0 k l0 (List.replicate ((l0.length:Int):Int).toNat z30) 0) else (none)) else (none)
set_option maxHeartbeats 8000000 in
set_option maxRecDepth 100000 in
theorem laws_toRopeNodeS.calls (k:Nat) (A0:Option Addr) (c0:Nat) (l0:List (S122)) (r:List (S30)) (w:World) (hr0:Kd.C k122 w A0 l0.length l0) (hc0:l0.length≤c0) (h:laws_toRopeNodeS.f k l0=some r) :
  Calls Tryd.prog 58 #[.slice A0 l0.length c0] w fun e w'=>∃ v0_:Value,e = .returned (v0_)∧Kd.R k30 30 w' w.heap.size (fun _=>True) v0_ r∧Below w.heap.size w w':=by
 (have hu122:=Tryd.underlying122);(have hu30:=Tryd.underlying30);(have HR0:=Aside0.mk hr0);(have HC0:=Aside0.mk hc0);clear hr0 hc0;(have HB:=Aside0.mk (Below.refl w.heap.size w));(have H:(if 0≤(l0.length:Int) then (if ((l0.length:Int):Int).toNat≤5864062014805 then (laws_toRopeNodeS.l0 k l0 (List.replicate ((l0.length:Int):Int).toNat z30) 0) else (none)) else (none))=some r:=h);clear h;(by_cases c2:0≤(l0.length:Int))
 ·
  (rw [if_pos c2] at H);(have c2b0:=eq_true c2);(have c2b1:decide (0≤(l0.length:Int))=true:=decide_eq_true c2);clear c2;(by_cases c3:((l0.length:Int):Int).toNat≤5864062014805)
  ·
   (rw [if_pos c3] at H);(have c3b0:=eq_true c3);(have c3b1:decide (((l0.length:Int):Int).toNat≤5864062014805)=true:=decide_eq_true c3);clear c3;(obtain ⟨y113,hy113⟩:∃ y_:List (S30),y_=(List.replicate ((l0.length:Int):Int).toNat z30):=⟨_,rfl⟩);(replace H:(laws_toRopeNodeS.l0 k l0 y113 0)=some r:=by first|(rw [hy113];with_reducible exact H)|(have H2_:=(Option.bind_some _ _).symm.trans H;rw [hy113];with_reducible exact H2_)|(have H2_:=(Option.bind_some _ _).symm.trans H;with_reducible exact H2_)|with_reducible exact H|(rw [hy113];exact H)|exact H);(have Ny113:=Aside0.mk hy113);clear hy113;(have H':=Aside0.mk H);clear H;(go_enter Tryd.func58,Tryd.ntmps58);(go_wp2_with (first|((with_reducible refine gate_dst (N:=7) rfl ?_);refine Kd.R_make k30 _ 30 rfl (N:=7) rfl 24 _ _ rfl (l0.length:Int) rfl rfl Tryd.underlying24 (.agg #[(.string ⟨#[]⟩),(.int .i64 0),(.int .i64 0),(.int .i64 0),(.int .i64 0)]) 48 info30 rfl (by decide) (by omega) z30 (ok:=fun _=>True) (okp:=fun _=>True) (k30_mkM _ _ _ z30 ) (fun _ hk=>hk) trivial (of_decide_eq_true (by first|(with_reducible assumption)|assumption)) (Nat.le_trans (Nat.mul_le_mul_right _ (of_decide_eq_true (by first|(with_reducible assumption)|assumption):(l0.length:Int).toNat≤5864062014805)) (by omega)) (Below.refl _ _) (Nat.le_refl _) ?_;intro v114 w4 ho5 hb hg_ hnew_;clear hg_ hnew_;(first|rw [← Ny113.out] at ho5|(simp only [Int.reduceToNat] at ho5;rw [← Ny113.out] at ho5));have HO115:=Aside0.mk (Kd.R_lower ho5 (below_size (bz HB)));replace HB:=bB HB hb;  clear hb ho5)));(go_loopg [4] k (fun kq v4 w'=>∃ (x3_1:List (S30)) (x4_1:Int),v4 = .int .i64 x4_1∧Aside0 (laws_toRopeNodeS.l0 kq l0 x3_1 x4_1=some r)∧Aside0 (kq≤k)∧Aside0 (Kd.R k30 30 w' w.heap.size (fun _=>True) v114 x3_1)∧Aside0 (Below w.heap.size w w')));(case atStart=>exact ⟨(y113),(0),(by first|rfl|(simp;done)|(simp [*];done)),H',⟨Nat.le_refl _⟩,⟨by (with_reducible repeat (first|apply Kd.R_alloc|apply Kd.R_drewN|apply Kd.R_drew));exact HO115.out⟩,⟨by repeat (first|(with_reducible first|exact HB.out|apply below_alloc|apply pw_below_drewN|apply below_drew1)|exact HB.out)⟩⟩)
   case round =>
    (clear H');(try clear c2);(try clear c2b0);(try clear c2b1);(try clear p2);(try clear c3);(try clear c3b0);(try clear c3b1);(try clear c5);(obtain ⟨x3_1,x4_1,rfl,HA,HK1,HO_3,HB⟩:=hrel)
    cases gk with
    | zero=>exact absurd HA.out (by simp [laws_toRopeNodeS.l0])
    | succ k1 =>
     (have H:=HA.out);clear HA;(simp only [laws_toRopeNodeS.l0] at H);(by_cases c6:x4_1<(l0.length:Int))
     ·
      (rw [if_pos c6] at H);(have c6b0:decide (x4_1<(l0.length:Int))=true:=decide_eq_true c6);clear c6;(by_cases c7:0≤x4_1)
      ·
       (rw [if_pos c7] at H);(have c7b0:decide (0≤x4_1)=true:=decide_eq_true c7);clear c7;(replace H:=Option.bind_eq_some_iff.mp H);(obtain ⟨⟨t117,t118,t119,t120,t121⟩,A80,H⟩:=H);(try dsimp only at H);(have A8:=Aside0.mk A80);clear A80;(by_cases c9:x4_1<(x3_1.length:Int))
       ·
        (rw [if_pos c9] at H);(have c9b0:decide (x4_1<(x3_1.length:Int))=true:=decide_eq_true c9);clear c9;(obtain ⟨y122,hy122⟩:∃ y_:List (S30),y_=(x3_1.set (x4_1:Int).toNat (⟨t117,t118,t119,t120,t121⟩:S30)):=⟨_,rfl⟩);(replace H:(laws_toRopeNodeS.l0 k1 l0 y122 (wrap64 (x4_1+1)))=some r:=by first|(rw [hy122];with_reducible exact H)|(have H2_:=(Option.bind_some _ _).symm.trans H;rw [hy122];with_reducible exact H2_)|(have H2_:=(Option.bind_some _ _).symm.trans H;with_reducible exact H2_)|with_reducible exact H|(rw [hy122];exact H)|exact H);(have Ny122:=Aside0.mk hy122);clear hy122;(have H':=Aside0.mk H);clear H;(have p116:0≤(x4_1:Int):=of_decide_eq_true (by first|(with_reducible assumption)|assumption));(have q116:x4_1<(l0.length:Int):=of_decide_eq_true (by first|(with_reducible assumption)|assumption));(obtain ⟨ad116,e116,hx116_0,hx116_1,hx116_2,hx116_3,hx116_4⟩:=at_T122 HR0.out x4_1 p116 q116);(cases e116);(replace hx116_0:=(HB.out.cell (World.block_lt_of_cell? _ _ hx116_0)).trans hx116_0);(replace hx116_1:=(HB.out.cell (World.block_lt_of_cell? _ _ hx116_1)).trans hx116_1);(replace hx116_2:=(HB.out.cell (World.block_lt_of_cell? _ _ hx116_2)).trans hx116_2);(replace hx116_3:=(HB.out.cell (World.block_lt_of_cell? _ _ hx116_3)).trans hx116_3);(replace hx116_4:=(HB.out.cell (World.block_lt_of_cell? _ _ hx116_4)).trans hx116_4);(replace p116:=eq_true p116);(replace q116:=eq_true q116);(go_wp2_with (first|((with_reducible refine gate_callee (f:=95) rfl ?_);refine goesL_ (some 20) rfl rfl Tryd.func95 (by kernel_rfl) rfl #[.agg #[.string ((rd_T122 l0 x4_1).f0),.int .i64 ((rd_T122 l0 x4_1).f1),.int .i64 ((rd_T122 l0 x4_1).f2),.int .i64 ((rd_T122 l0 x4_1).f3),.int .i64 ((rd_T122 l0 x4_1).f4)]] rfl (by (try simp only [List.map_toArray,List.map_cons,List.map_nil]);first|done|rfl|(simp only [List.length_drop,List.length_take];rfl)) ?_;(with_reducible refine (laws_toRopeNode.calls ((rd_T122 l0 x4_1).f0) ((rd_T122 l0 x4_1).f1) ((rd_T122 l0 x4_1).f2) ((rd_T122 l0 x4_1).f3) ((rd_T122 l0 x4_1).f4) t117 t118 t119 t120 t121 _ A8.out).mono ?_);rintro e w11 ⟨rfl,hb⟩;refine ⟨_,rfl,?_⟩;replace HO_3:=rB HO_3 hb;replace HB:=bB HB hb;  clear hb;have p10:0≤(x4_1:Int):=of_decide_eq_true (by first|(with_reducible assumption)|assumption);have q10:(x4_1:Int)<((x3_1.length:Int):Int):=of_decide_eq_true (by first|(with_reducible assumption)|assumption);obtain ⟨go10,co10,eo10,gb10,gl10,cl10,HG10⟩:=Kd.R_form HO_3.out (by omega);(first|cases eo10|(injection eo10 with ea_ en_ ec_;(first|subst ea_|(injection ea_ with ea_;subst ea_));subst ec_;clear en_));have GB10:=Aside0.mk gb10;have GG10:=Aside0.mk HG10;clear gb10 gl10 HG10;obtain ⟨ce10,hcl10,hM10,hcc10,hfr10⟩:=Kd.R_elem HO_3.out z30 (x4_1:Int) p10 q10;obtain rfl:=k30_openM hM10;have hx10_0:w11.cell? ⟨go10,(x4_1:Int).toNat*5,none⟩=some (.string ((rd_T30 x3_1 x4_1).f0)):=hcc10 0 _ rfl;have hx10_1:w11.cell? ⟨go10,(x4_1:Int).toNat*5+1,none⟩=some (.int .i64 ((rd_T30 x3_1 x4_1).f1)):=hcc10 1 _ rfl;have hx10_2:w11.cell? ⟨go10,(x4_1:Int).toNat*5+2,none⟩=some (.int .i64 ((rd_T30 x3_1 x4_1).f2)):=hcc10 2 _ rfl;have hx10_3:w11.cell? ⟨go10,(x4_1:Int).toNat*5+3,none⟩=some (.int .i64 ((rd_T30 x3_1 x4_1).f3)):=hcc10 3 _ rfl;have hx10_4:w11.cell? ⟨go10,(x4_1:Int).toNat*5+4,none⟩=some (.int .i64 ((rd_T30 x3_1 x4_1).f4)):=hcc10 4 _ rfl;have hf10_0:w11.frozen? ⟨go10,(x4_1:Int).toNat*5,none⟩=false:=hfr10 0;have hf10_1:w11.frozen? ⟨go10,(x4_1:Int).toNat*5+1,none⟩=false:=hfr10 1;have hf10_2:w11.frozen? ⟨go10,(x4_1:Int).toNat*5+2,none⟩=false:=hfr10 2;have hf10_3:w11.frozen? ⟨go10,(x4_1:Int).toNat*5+3,none⟩=false:=hfr10 3;have hf10_4:w11.frozen? ⟨go10,(x4_1:Int).toNat*5+4,none⟩=false:=hfr10 4;clear hcl10 hcc10 hfr10 hM10;replace p10:=eq_true p10;replace q10:=eq_true q10;have HX12:=Aside0.mk (show Kd.R k30 30 w11 w.heap.size (fun _=>True) (.slice (some ⟨go10,0,none⟩) x3_1.length co10) x3_1 from (by (with_reducible repeat (first|apply Kd.R_alloc|apply Kd.R_drewN|apply Kd.R_drew));exact HO_3.out));obtain ⟨ce12,hcl12,hM12,hcc12,hfr12⟩:=Kd.R_elem HX12.out z30 (x4_1:Int) (of_decide_eq_true (by first|(with_reducible assumption)|assumption)) (by have h_:(x4_1:Int)<((x3_1.length:Int):Int):=of_decide_eq_true (by first|(with_reducible assumption)|assumption);first|exact h_|(have e_:=(Kd.R_reads' HO_3.out).1;omega)|simpa using h_);obtain rfl:=k30_openM hM12;have HP12:=Kd.R_seg HX12.out (x4_1:Int) (of_decide_eq_true (by first|(with_reducible assumption)|assumption)) (by have h_:(x4_1:Int)<((x3_1.length:Int):Int):=of_decide_eq_true (by first|(with_reducible assumption)|assumption);first|exact h_|(have e_:=(Kd.R_reads' HO_3.out).1;omega)|simpa using h_) (seg:=[.string t117,.int .i64 t118,.int .i64 t119,.int .i64 t120,.int .i64 t121]) (j:=0) hcl12 hcc12 (show 5≤5 from by decide) (x':=(⟨t117,t118,t119,t120,t121⟩:S30)) (k30_mkM _ _ _ (⟨t117,t118,t119,t120,t121⟩:S30) ) (fun _ hk=>hk);have hx12_0:=hcc12 0 _ rfl;(try simp only [show (k30).sz=5 from rfl,Nat.mul_one,Nat.add_zero] at hx12_0);have hf12_0:=hfr12 0;(try simp only [show (k30).sz=5 from rfl,Nat.mul_one,Nat.add_zero] at hf12_0);have hx12_1:=hcc12 1 _ rfl;(try simp only [show (k30).sz=5 from rfl,Nat.mul_one,Nat.add_zero] at hx12_1);have hf12_1:=hfr12 1;(try simp only [show (k30).sz=5 from rfl,Nat.mul_one,Nat.add_zero] at hf12_1);have hx12_2:=hcc12 2 _ rfl;(try simp only [show (k30).sz=5 from rfl,Nat.mul_one,Nat.add_zero] at hx12_2);have hf12_2:=hfr12 2;(try simp only [show (k30).sz=5 from rfl,Nat.mul_one,Nat.add_zero] at hf12_2);have hx12_3:=hcc12 3 _ rfl;(try simp only [show (k30).sz=5 from rfl,Nat.mul_one,Nat.add_zero] at hx12_3);have hf12_3:=hfr12 3;(try simp only [show (k30).sz=5 from rfl,Nat.mul_one,Nat.add_zero] at hf12_3);have hx12_4:=hcc12 4 _ rfl;(try simp only [show (k30).sz=5 from rfl,Nat.mul_one,Nat.add_zero] at hx12_4);have hf12_4:=hfr12 4;(try simp only [show (k30).sz=5 from rfl,Nat.mul_one,Nat.add_zero] at hf12_4);clear hcl12 hcc12 hfr12 hM12)|((with_reducible refine gate_store (t:=30) (p:=21) rfl ?_);refine store_event (t:=30) (p:=21) (v:=?vo_w13) (w1:=(((((w11.setCell ⟨go10,(x4_1:Int).toNat*5,none⟩ (.string t117)).setCell ⟨go10,(x4_1:Int).toNat*5+1,none⟩ (.int .i64 t118)).setCell ⟨go10,(x4_1:Int).toNat*5+2,none⟩ (.int .i64 t119)).setCell ⟨go10,(x4_1:Int).toNat*5+3,none⟩ (.int .i64 t120)).setCell ⟨go10,(x4_1:Int).toNat*5+4,none⟩ (.int .i64 t121))) ?hg ?ho ?hn ?hr ?_;(case ho=>rfl);(case hg=>rfl);(case hn=>rfl);(case hr=>first|(go_simp;done)|(go_simp;rfl));intro w13 hw;have hg:w11.grownBy w13 (some go10):=(by rw [hw];exact HP12.2);have hp_:Kd.R k30 30 w13 w.heap.size (fun _=>True) (.slice (some ⟨go10,0,none⟩) x3_1.length co10) y122:=(by rw [hw,Ny122.out];exact HP12.1);clear HP12;have n0_:=Aside0.mk (hp_);have n1_:=Aside0.mk ((by rw [hw];exact below_set (below_set (below_set (below_set (below_set (HB.out) GB10.out) GB10.out) GB10.out) GB10.out) GB10.out:Below w.heap.size w w13));clear HO_3;clear HB;have HO_3:=n0_;have HB:=n1_;clear n0_ n1_;clear hg hw hp_)));(go_roundg k1);(case measure=>have:=HK1.out;omega);(case rel=>exact ⟨(y122),(wrap64 (x4_1+1)),(by first|rfl|(simp;done)|(simp [*];done)),H',⟨by have:=HK1.out;omega⟩,⟨by (with_reducible repeat (first|apply Kd.R_alloc|apply Kd.R_drewN|apply Kd.R_drew));exact HO_3.out⟩,⟨by repeat (first|(with_reducible first|exact HB.out|apply below_alloc|apply pw_below_drewN|apply below_drew1)|exact HB.out)⟩⟩)
       (· (rw [if_neg c9] at H);(exact absurd H (by simp)))
      (· (rw [if_neg c7] at H);(exact absurd H (by simp)))
     (· (rw [if_neg c6] at H);(have c6b0:decide (x4_1<(l0.length:Int))=false:=decide_eq_false c6);(clear c6);(obtain rfl:=Option.some.inj H);(go_wp2);(go_ret);(exact ⟨_,by first|rfl|(simp [errW_none,errW_some] <;> rfl)|(simp [*,errW_none,errW_some] <;> rfl),by (with_reducible repeat (first|apply Kd.R_alloc|apply Kd.R_drewN|apply Kd.R_drew));exact HO_3.out,bz HB⟩))
  (· (rw [if_neg c3] at H);(exact absurd H (by simp)))
 (· (rw [if_neg c2] at H);(exact absurd H (by simp)))
def laws_toMark.f (a0_0:ByteArray) (a0_1:Int) (a0_2:Bool):Option (ByteArray × Int × Bool):=some (a0_0,a0_1,a0_2)
set_option maxHeartbeats 8000000 in
set_option maxRecDepth 100000 in
theorem laws_toMark.calls (a0_0:ByteArray) (a0_1:Int) (a0_2:Bool) (r1:ByteArray) (r2:Int) (r3:Bool) (w:World) (h:laws_toMark.f a0_0 a0_1 a0_2=some (r1,r2,r3)) :
  Calls Tryd.prog 96 #[.agg #[.string a0_0,.int .i64 a0_1,.bool a0_2]] w fun e w'=>e = .returned (.agg #[.string r1,.int .i64 r2,.bool r3])∧Below w.heap.size w w':=by
 (have hu124:=Tryd.underlying124);(have hu56:=Tryd.underlying56);(have HB:=Aside0.mk (Below.refl w.heap.size w));(have H:(some (a0_0,a0_1,a0_2))=some (r1,r2,r3):=h);clear h;(simp only [Option.some.injEq,Prod.mk.injEq] at H);(obtain ⟨rfl,rfl,rfl⟩:=H);(go_enter Tryd.func96,Tryd.ntmps96);(go_wp2_with (first|((with_reducible refine gate_dst (N:=1) rfl ?_);refine box_event ?hg (N:=1) ?hd (cs:=#[.string a0_0,.int .i64 a0_1,.bool a0_2]) (t:=124) ?hr ?_;(case hd=>rfl);(case hg=>rfl);(case hr=>first|(go_simp;done)|(go_simp;rfl));intro gb123 hg w2 hbox hb;have n0_:=bB HB hb;have n1_:=Aside0.mk (hbox);have n2_:=Aside0.mk ((by rw [hg];exact (below_size (bz HB)):w.heap.size≤gb123));have n3_:=Aside0.mk ((by rw [hg];exact (below_size (bz HB)):w.heap.size≤gb123));clear HB;have HB:=n0_;have BK123:=n1_;have GW123:=n2_;have GE123:=n3_;clear n0_ n1_ n2_ n3_;clear hb hbox hg)|((with_reducible refine gate_dst (N:=2) rfl ?_);refine box_event ?hg (N:=2) ?hd (cs:=#[.string (⟨#[]⟩:ByteArray),.int .i64 0,.bool false]) (t:=56) ?hr ?_;(case hd=>rfl);(case hg=>rfl);(case hr=>first|(go_simp;done)|(go_simp;rfl));intro gb124 hg w3 hbox hb;have n0_:=kB BK123 hb;have n1_:=bB HB hb;have n2_:=Aside0.mk (hbox);have n3_:=Aside0.mk ((by rw [hg];exact (below_size (bz HB)):w.heap.size≤gb124));have n4_:=Aside0.mk ((by rw [hg];exact (below_size (bz HB)):w.heap.size≤gb124));have n5_:=Aside0.mk ((by rw [hg];exact Nat.ne_of_lt (blk_lt (g:=gb123) (o:=.cells #[.string a0_0,.int .i64 a0_1,.bool a0_2] 124 (0,0)) (by (with_reducible repeat (first|apply kN|apply kD|apply kA));exact BK123.out)):gb123≠gb124));have n6_:=Aside0.mk ((by rw [hg];exact Nat.ne_of_gt (blk_lt (g:=gb123) (o:=.cells #[.string a0_0,.int .i64 a0_1,.bool a0_2] 124 (0,0)) (by (with_reducible repeat (first|apply kN|apply kD|apply kA));exact BK123.out)):gb124≠gb123));clear BK123;clear HB;have BK123:=n0_;have HB:=n1_;have BK124:=n2_;have GW124:=n3_;have GE124:=n4_;have NB123_124:=n5_;have NB124_123:=n6_;clear n0_ n1_ n2_ n3_ n4_ n5_ n6_;clear hb hbox hg)|((with_reducible refine gate_dst (N:=3) rfl ?_);refine box_event ?hg (N:=3) ?hd (cs:=#[.string (⟨#[]⟩:ByteArray),.int .i64 0,.bool false]) (t:=56) ?hr ?_;(case hd=>rfl);(case hg=>rfl);(case hr=>first|(go_simp;done)|(go_simp;rfl));intro gb125 hg w4 hbox hb;have n0_:=Aside0.mk (blk_below (g:=gb123) (o:=.cells #[.string a0_0,.int .i64 a0_1,.bool a0_2] 124 (0,0)) (by (with_reducible repeat (first|apply kN|apply kD|apply kA));exact BK123.out) hb);have n1_:=Aside0.mk (blk_below (g:=gb124) (o:=.cells #[.string (⟨#[]⟩:ByteArray),.int .i64 0,.bool false] 56 (0,0)) (by (with_reducible repeat (first|apply kN|apply kD|apply kA));exact BK124.out) hb);have n2_:=Aside0.mk (below_step (by repeat (first|(with_reducible first|exact HB.out|apply below_alloc|apply pw_below_drewN|apply below_drew1|refine below_set ?_ GE123.out|refine below_set ?_ GE124.out)|exact HB.out)) hb);have n3_:=Aside0.mk (hbox);have n4_:=Aside0.mk ((by rw [hg];exact (below_size (by repeat (first|(with_reducible first|exact HB.out|apply below_alloc|apply pw_below_drewN|apply below_drew1|refine below_set ?_ GE123.out|refine below_set ?_ GE124.out)|exact HB.out))):w.heap.size≤gb125));have n5_:=Aside0.mk ((by rw [hg];exact (below_size (by repeat (first|(with_reducible first|exact HB.out|apply below_alloc|apply pw_below_drewN|apply below_drew1|refine below_set ?_ GE123.out|refine below_set ?_ GE124.out)|exact HB.out))):w.heap.size≤gb125));have n6_:=Aside0.mk ((by rw [hg];exact Nat.ne_of_lt (blk_lt (g:=gb123) (o:=.cells #[.string a0_0,.int .i64 a0_1,.bool a0_2] 124 (0,0)) (by (with_reducible repeat (first|apply kN|apply kD|apply kA));exact BK123.out)):gb123≠gb125));have n7_:=Aside0.mk ((by rw [hg];exact Nat.ne_of_gt (blk_lt (g:=gb123) (o:=.cells #[.string a0_0,.int .i64 a0_1,.bool a0_2] 124 (0,0)) (by (with_reducible repeat (first|apply kN|apply kD|apply kA));exact BK123.out)):gb125≠gb123));have n8_:=Aside0.mk ((by rw [hg];exact Nat.ne_of_lt (blk_lt (g:=gb124) (o:=.cells #[.string (⟨#[]⟩:ByteArray),.int .i64 0,.bool false] 56 (0,0)) (by (with_reducible repeat (first|apply kN|apply kD|apply kA));exact BK124.out)):gb124≠gb125));have n9_:=Aside0.mk ((by rw [hg];exact Nat.ne_of_gt (blk_lt (g:=gb124) (o:=.cells #[.string (⟨#[]⟩:ByteArray),.int .i64 0,.bool false] 56 (0,0)) (by (with_reducible repeat (first|apply kN|apply kD|apply kA));exact BK124.out)):gb125≠gb124));clear BK123;clear BK124;clear HB;have BK123:=n0_;have BK124:=n1_;have HB:=n2_;have BK125:=n3_;have GW125:=n4_;have GE125:=n5_;have NB123_125:=n6_;have NB125_123:=n7_;have NB124_125:=n8_;have NB125_124:=n9_;clear n0_ n1_ n2_ n3_ n4_ n5_ n6_ n7_ n8_ n9_;clear hb hbox hg;have hnb5:=NB123_124.out;have hnc5:=NB124_123.out;have hnb6:=NB123_125.out;have hnc6:=NB125_123.out;have hcz7_0:w4.cell? ⟨gb123,0,none⟩=some (.string a0_0):=(blk_cell BK123.out 0).trans rfl;have hcz7_1:w4.cell? ⟨gb123,1,none⟩=some (.int .i64 a0_1):=(blk_cell BK123.out 1).trans rfl;have hcz7_2:w4.cell? ⟨gb123,2,none⟩=some (.bool a0_2):=(blk_cell BK123.out 2).trans rfl;have hfz7_0:=blk_frozen BK123.out 0;have hfz7_1:=blk_frozen BK123.out 1;have hfz7_2:=blk_frozen BK123.out 2;have hnb8:=NB125_124.out;have hnc8:=NB124_125.out;have hcz9_0:w4.cell? ⟨gb125,0,none⟩=some (.string (⟨#[]⟩:ByteArray)):=(blk_cell BK125.out 0).trans rfl;have hcz9_1:w4.cell? ⟨gb125,1,none⟩=some (.int .i64 0):=(blk_cell BK125.out 1).trans rfl;have hcz9_2:w4.cell? ⟨gb125,2,none⟩=some (.bool false):=(blk_cell BK125.out 2).trans rfl;have hfz9_0:=blk_frozen BK125.out 0;have hfz9_1:=blk_frozen BK125.out 1;have hfz9_2:=blk_frozen BK125.out 2;have hcz10_0:w4.cell? ⟨gb124,0,none⟩=some (.string (⟨#[]⟩:ByteArray)):=(blk_cell BK124.out 0).trans rfl;have hcz10_1:w4.cell? ⟨gb124,1,none⟩=some (.int .i64 0):=(blk_cell BK124.out 1).trans rfl;have hcz10_2:w4.cell? ⟨gb124,2,none⟩=some (.bool false):=(blk_cell BK124.out 2).trans rfl;have hfz10_0:=blk_frozen BK124.out 0;have hfz10_1:=blk_frozen BK124.out 1;have hfz10_2:=blk_frozen BK124.out 2)));(refine bodyPost_ret (results_cell_row rfl _ _ gb124 56 #[.string a0_0,.int .i64 a0_1,.bool a0_2] (0,0) _ rfl (by (with_reducible repeat (first|apply kN|apply kD|apply kA));refine blk_put (cs:=#[.string a0_0,.int .i64 a0_1,.bool false]) ?_ 2 _ rfl;(with_reducible repeat (first|apply kN|apply kD|apply kA));refine blk_put (cs:=#[.string a0_0,.int .i64 0,.bool false]) ?_ 1 _ rfl;(with_reducible repeat (first|apply kN|apply kD|apply kA));refine blk_put (cs:=#[.string (⟨#[]⟩:ByteArray),.int .i64 0,.bool false]) ?_ 0 _ rfl;(with_reducible repeat (first|apply kN|apply kD|apply kA));refine blk_far ?_ NB124_125.out _;(with_reducible repeat (first|apply kN|apply kD|apply kA));refine blk_far ?_ NB124_125.out _;(with_reducible repeat (first|apply kN|apply kD|apply kA));refine blk_far ?_ NB124_125.out _;(with_reducible repeat (first|apply kN|apply kD|apply kA));exact BK124.out) Tryd.underlying56 rfl (by kernel_rfl)) rfl ?_);(exact ⟨by first|rfl|(simp [errW_none,errW_some] <;> rfl)|(simp [*,errW_none,errW_some] <;> rfl),by repeat (first|(with_reducible first|exact HB.out|apply below_alloc|apply pw_below_drewN|apply below_drew1|refine below_set ?_ GE123.out|refine below_set ?_ GE124.out|refine below_set ?_ GE125.out)|exact HB.out)⟩)
def laws_toMarkS.l0:Nat→List (S124)→List (S56)→Int→Option ((List (S56)))
 | 0,_,_,_=>none
 | k+1,x0,x3,x4=>if x4<(x0.length:Int) then (if 0≤x4 then ((laws_toMark.f ((rd_T124 x0 x4).f0) ((rd_T124 x0 x4).f1) ((rd_T124 x0 x4).f2)).bind fun bt130=>(if x4<(x3.length:Int) then (laws_toMarkS.l0 k x0 (x3.set (x4:Int).toNat (⟨bt130.1,bt130.2.1,bt130.2.2⟩:S56)) (wrap64 (x4+1))) else (none))) else (none)) else (some x3)
def laws_toMarkS.f (k:Nat) (l0:List (S124)):Option ((List (S56))):=if 0≤(l0.length:Int) then (if ((l0.length:Int):Int).toNat≤8796093022208 then (laws_toMarkS.l0 k l0 (List.replicate ((l0.length:Int):Int).toNat z56) 0) else (none)) else (none)
set_option maxHeartbeats 8000000 in
set_option maxRecDepth 100000 in
theorem laws_toMarkS.calls (k:Nat) (A0:Option Addr) (c0:Nat) (l0:List (S124)) (r:List (S56)) (w:World) (hr0:Kd.C k124 w A0 l0.length l0) (hc0:l0.length≤c0) (h:laws_toMarkS.f k l0=some r) :
  Calls Tryd.prog 59 #[.slice A0 l0.length c0] w fun e w'=>∃ v0_:Value,e = .returned (v0_)∧Kd.R k56 56 w' w.heap.size (fun _=>True) v0_ r∧Below w.heap.size w w':=by
 (have hu124:=Tryd.underlying124);(have hu56:=Tryd.underlying56);(have HR0:=Aside0.mk hr0);(have HC0:=Aside0.mk hc0);clear hr0 hc0;(have HB:=Aside0.mk (Below.refl w.heap.size w));(have H:(if 0≤(l0.length:Int) then (if ((l0.length:Int):Int).toNat≤8796093022208 then (laws_toMarkS.l0 k l0 (List.replicate ((l0.length:Int):Int).toNat z56) 0) else (none)) else (none))=some r:=h);clear h;(by_cases c2:0≤(l0.length:Int))
 ·
  (rw [if_pos c2] at H);(have c2b0:=eq_true c2);(have c2b1:decide (0≤(l0.length:Int))=true:=decide_eq_true c2);clear c2;(by_cases c3:((l0.length:Int):Int).toNat≤8796093022208)
  ·
   (rw [if_pos c3] at H);(have c3b0:=eq_true c3);(have c3b1:decide (((l0.length:Int):Int).toNat≤8796093022208)=true:=decide_eq_true c3);clear c3;(obtain ⟨y126,hy126⟩:∃ y_:List (S56),y_=(List.replicate ((l0.length:Int):Int).toNat z56):=⟨_,rfl⟩);(replace H:(laws_toMarkS.l0 k l0 y126 0)=some r:=by first|(rw [hy126];with_reducible exact H)|(have H2_:=(Option.bind_some _ _).symm.trans H;rw [hy126];with_reducible exact H2_)|(have H2_:=(Option.bind_some _ _).symm.trans H;with_reducible exact H2_)|with_reducible exact H|(rw [hy126];exact H)|exact H);(have Ny126:=Aside0.mk hy126);clear hy126;(have H':=Aside0.mk H);clear H;(go_enter Tryd.func59,Tryd.ntmps59);(go_wp2_with (first|((with_reducible refine gate_dst (N:=7) rfl ?_);refine Kd.R_make k56 _ 56 rfl (N:=7) rfl 25 _ _ rfl (l0.length:Int) rfl rfl Tryd.underlying25 (.agg #[(.string ⟨#[]⟩),(.int .i64 0),(.bool false)]) 32 info56 rfl (by decide) (by omega) z56 (ok:=fun _=>True) (okp:=fun _=>True) (k56_mkM _ _ _ z56 ) (fun _ hk=>hk) trivial (of_decide_eq_true (by first|(with_reducible assumption)|assumption)) (Nat.le_trans (Nat.mul_le_mul_right _ (of_decide_eq_true (by first|(with_reducible assumption)|assumption):(l0.length:Int).toNat≤8796093022208)) (by omega)) (Below.refl _ _) (Nat.le_refl _) ?_;intro v127 w4 ho5 hb hg_ hnew_;clear hg_ hnew_;(first|rw [← Ny126.out] at ho5|(simp only [Int.reduceToNat] at ho5;rw [← Ny126.out] at ho5));have HO128:=Aside0.mk (Kd.R_lower ho5 (below_size (bz HB)));replace HB:=bB HB hb;  clear hb ho5)));(go_loopg [4] k (fun kq v4 w'=>∃ (x3_1:List (S56)) (x4_1:Int),v4 = .int .i64 x4_1∧Aside0 (laws_toMarkS.l0 kq l0 x3_1 x4_1=some r)∧Aside0 (kq≤k)∧Aside0 (Kd.R k56 56 w' w.heap.size (fun _=>True) v127 x3_1)∧Aside0 (Below w.heap.size w w')));(case atStart=>exact ⟨(y126),(0),(by first|rfl|(simp;done)|(simp [*];done)),H',⟨Nat.le_refl _⟩,⟨by (with_reducible repeat (first|apply Kd.R_alloc|apply Kd.R_drewN|apply Kd.R_drew));exact HO128.out⟩,⟨by repeat (first|(with_reducible first|exact HB.out|apply below_alloc|apply pw_below_drewN|apply below_drew1)|exact HB.out)⟩⟩)
   case round =>
    (clear H');(try clear c2);(try clear c2b0);(try clear c2b1);(try clear p2);(try clear c3);(try clear c3b0);(try clear c3b1);(try clear c5);(obtain ⟨x3_1,x4_1,rfl,HA,HK1,HO_3,HB⟩:=hrel)
    cases gk with
    | zero=>exact absurd HA.out (by simp [laws_toMarkS.l0])
    | succ k1 =>
     (have H:=HA.out);clear HA;(simp only [laws_toMarkS.l0] at H);(by_cases c6:x4_1<(l0.length:Int))
     ·
      (rw [if_pos c6] at H);(have c6b0:decide (x4_1<(l0.length:Int))=true:=decide_eq_true c6);clear c6;(by_cases c7:0≤x4_1)
      ·
       (rw [if_pos c7] at H);(have c7b0:decide (0≤x4_1)=true:=decide_eq_true c7);clear c7;(replace H:=Option.bind_eq_some_iff.mp H);(obtain ⟨⟨t130,t131,t132⟩,A80,H⟩:=H);(try dsimp only at H);(have A8:=Aside0.mk A80);clear A80;(by_cases c9:x4_1<(x3_1.length:Int))
       ·
        (rw [if_pos c9] at H);(have c9b0:decide (x4_1<(x3_1.length:Int))=true:=decide_eq_true c9);clear c9;(obtain ⟨y133,hy133⟩:∃ y_:List (S56),y_=(x3_1.set (x4_1:Int).toNat (⟨t130,t131,t132⟩:S56)):=⟨_,rfl⟩);(replace H:(laws_toMarkS.l0 k1 l0 y133 (wrap64 (x4_1+1)))=some r:=by first|(rw [hy133];with_reducible exact H)|(have H2_:=(Option.bind_some _ _).symm.trans H;rw [hy133];with_reducible exact H2_)|(have H2_:=(Option.bind_some _ _).symm.trans H;with_reducible exact H2_)|with_reducible exact H|(rw [hy133];exact H)|exact H);(have Ny133:=Aside0.mk hy133);clear hy133;(have H':=Aside0.mk H);clear H;(have p129:0≤(x4_1:Int):=of_decide_eq_true (by first|(with_reducible assumption)|assumption));(have q129:x4_1<(l0.length:Int):=of_decide_eq_true (by first|(with_reducible assumption)|assumption));(obtain ⟨ad129,e129,hx129_0,hx129_1,hx129_2⟩:=at_T124 HR0.out x4_1 p129 q129);(cases e129);(replace hx129_0:=(HB.out.cell (World.block_lt_of_cell? _ _ hx129_0)).trans hx129_0);(replace hx129_1:=(HB.out.cell (World.block_lt_of_cell? _ _ hx129_1)).trans hx129_1);(replace hx129_2:=(HB.out.cell (World.block_lt_of_cell? _ _ hx129_2)).trans hx129_2);(replace p129:=eq_true p129);(replace q129:=eq_true q129);(go_wp2_with (first|((with_reducible refine gate_callee (f:=96) rfl ?_);refine goesL_ (some 20) rfl rfl Tryd.func96 (by kernel_rfl) rfl #[.agg #[.string ((rd_T124 l0 x4_1).f0),.int .i64 ((rd_T124 l0 x4_1).f1),.bool ((rd_T124 l0 x4_1).f2)]] rfl (by (try simp only [List.map_toArray,List.map_cons,List.map_nil]);first|done|rfl|(simp only [List.length_drop,List.length_take];rfl)) ?_;(with_reducible refine (laws_toMark.calls ((rd_T124 l0 x4_1).f0) ((rd_T124 l0 x4_1).f1) ((rd_T124 l0 x4_1).f2) t130 t131 t132 _ A8.out).mono ?_);rintro e w11 ⟨rfl,hb⟩;refine ⟨_,rfl,?_⟩;replace HO_3:=rB HO_3 hb;replace HB:=bB HB hb;  clear hb;have p10:0≤(x4_1:Int):=of_decide_eq_true (by first|(with_reducible assumption)|assumption);have q10:(x4_1:Int)<((x3_1.length:Int):Int):=of_decide_eq_true (by first|(with_reducible assumption)|assumption);obtain ⟨go10,co10,eo10,gb10,gl10,cl10,HG10⟩:=Kd.R_form HO_3.out (by omega);(first|cases eo10|(injection eo10 with ea_ en_ ec_;(first|subst ea_|(injection ea_ with ea_;subst ea_));subst ec_;clear en_));have GB10:=Aside0.mk gb10;have GG10:=Aside0.mk HG10;clear gb10 gl10 HG10;obtain ⟨ce10,hcl10,hM10,hcc10,hfr10⟩:=Kd.R_elem HO_3.out z56 (x4_1:Int) p10 q10;obtain rfl:=k56_openM hM10;have hx10_0:w11.cell? ⟨go10,(x4_1:Int).toNat*3,none⟩=some (.string ((rd_T56 x3_1 x4_1).f0)):=hcc10 0 _ rfl;have hx10_1:w11.cell? ⟨go10,(x4_1:Int).toNat*3+1,none⟩=some (.int .i64 ((rd_T56 x3_1 x4_1).f1)):=hcc10 1 _ rfl;have hx10_2:w11.cell? ⟨go10,(x4_1:Int).toNat*3+2,none⟩=some (.bool ((rd_T56 x3_1 x4_1).f2)):=hcc10 2 _ rfl;have hf10_0:w11.frozen? ⟨go10,(x4_1:Int).toNat*3,none⟩=false:=hfr10 0;have hf10_1:w11.frozen? ⟨go10,(x4_1:Int).toNat*3+1,none⟩=false:=hfr10 1;have hf10_2:w11.frozen? ⟨go10,(x4_1:Int).toNat*3+2,none⟩=false:=hfr10 2;clear hcl10 hcc10 hfr10 hM10;replace p10:=eq_true p10;replace q10:=eq_true q10;have HX12:=Aside0.mk (show Kd.R k56 56 w11 w.heap.size (fun _=>True) (.slice (some ⟨go10,0,none⟩) x3_1.length co10) x3_1 from (by (with_reducible repeat (first|apply Kd.R_alloc|apply Kd.R_drewN|apply Kd.R_drew));exact HO_3.out));obtain ⟨ce12,hcl12,hM12,hcc12,hfr12⟩:=Kd.R_elem HX12.out z56 (x4_1:Int) (of_decide_eq_true (by first|(with_reducible assumption)|assumption)) (by have h_:(x4_1:Int)<((x3_1.length:Int):Int):=of_decide_eq_true (by first|(with_reducible assumption)|assumption);first|exact h_|(have e_:=(Kd.R_reads' HO_3.out).1;omega)|simpa using h_);obtain rfl:=k56_openM hM12;have HP12:=Kd.R_seg HX12.out (x4_1:Int) (of_decide_eq_true (by first|(with_reducible assumption)|assumption)) (by have h_:(x4_1:Int)<((x3_1.length:Int):Int):=of_decide_eq_true (by first|(with_reducible assumption)|assumption);first|exact h_|(have e_:=(Kd.R_reads' HO_3.out).1;omega)|simpa using h_) (seg:=[.string t130,.int .i64 t131,.bool t132]) (j:=0) hcl12 hcc12 (show 3≤3 from by decide) (x':=(⟨t130,t131,t132⟩:S56)) (k56_mkM _ _ _ (⟨t130,t131,t132⟩:S56) ) (fun _ hk=>hk);have hx12_0:=hcc12 0 _ rfl;(try simp only [show (k56).sz=3 from rfl,Nat.mul_one,Nat.add_zero] at hx12_0);have hf12_0:=hfr12 0;(try simp only [show (k56).sz=3 from rfl,Nat.mul_one,Nat.add_zero] at hf12_0);have hx12_1:=hcc12 1 _ rfl;(try simp only [show (k56).sz=3 from rfl,Nat.mul_one,Nat.add_zero] at hx12_1);have hf12_1:=hfr12 1;(try simp only [show (k56).sz=3 from rfl,Nat.mul_one,Nat.add_zero] at hf12_1);have hx12_2:=hcc12 2 _ rfl;(try simp only [show (k56).sz=3 from rfl,Nat.mul_one,Nat.add_zero] at hx12_2);have hf12_2:=hfr12 2;(try simp only [show (k56).sz=3 from rfl,Nat.mul_one,Nat.add_zero] at hf12_2);clear hcl12 hcc12 hfr12 hM12)|((with_reducible refine gate_store (t:=56) (p:=21) rfl ?_);refine store_event (t:=56) (p:=21) (v:=?vo_w13) (w1:=(((w11.setCell ⟨go10,(x4_1:Int).toNat*3,none⟩ (.string t130)).setCell ⟨go10,(x4_1:Int).toNat*3+1,none⟩ (.int .i64 t131)).setCell ⟨go10,(x4_1:Int).toNat*3+2,none⟩ (.bool t132))) ?hg ?ho ?hn ?hr ?_;(case ho=>rfl);(case hg=>rfl);(case hn=>rfl);(case hr=>first|(go_simp;done)|(go_simp;rfl));intro w13 hw;have hg:w11.grownBy w13 (some go10):=(by rw [hw];exact HP12.2);have hp_:Kd.R k56 56 w13 w.heap.size (fun _=>True) (.slice (some ⟨go10,0,none⟩) x3_1.length co10) y133:=(by rw [hw,Ny133.out];exact HP12.1);clear HP12;have n0_:=Aside0.mk (hp_);have n1_:=Aside0.mk ((by rw [hw];exact below_set (below_set (below_set (HB.out) GB10.out) GB10.out) GB10.out:Below w.heap.size w w13));clear HO_3;clear HB;have HO_3:=n0_;have HB:=n1_;clear n0_ n1_;clear hg hw hp_)));(go_roundg k1);(case measure=>have:=HK1.out;omega);(case rel=>exact ⟨(y133),(wrap64 (x4_1+1)),(by first|rfl|(simp;done)|(simp [*];done)),H',⟨by have:=HK1.out;omega⟩,⟨by (with_reducible repeat (first|apply Kd.R_alloc|apply Kd.R_drewN|apply Kd.R_drew));exact HO_3.out⟩,⟨by repeat (first|(with_reducible first|exact HB.out|apply below_alloc|apply pw_below_drewN|apply below_drew1)|exact HB.out)⟩⟩)
       (· (rw [if_neg c9] at H);(exact absurd H (by simp)))
      (· (rw [if_neg c7] at H);(exact absurd H (by simp)))
     (· (rw [if_neg c6] at H);(have c6b0:decide (x4_1<(l0.length:Int))=false:=decide_eq_false c6);(clear c6);(obtain rfl:=Option.some.inj H);(go_wp2);(go_ret);(exact ⟨_,by first|rfl|(simp [errW_none,errW_some] <;> rfl)|(simp [*,errW_none,errW_some] <;> rfl),by (with_reducible repeat (first|apply Kd.R_alloc|apply Kd.R_drewN|apply Kd.R_drew));exact HO_3.out,bz HB⟩))
  (· (rw [if_neg c3] at H);(exact absurd H (by simp)))
 (· (rw [if_neg c2] at H);(exact absurd H (by simp)))
def laws_toRope.f (k:Nat) (l0_0:List (S122)) (l0_1:List (S124)):Option ((List (S30)) × (List (S56))):=(laws_toRopeNodeS.f k l0_0).bind fun t137=>((laws_toMarkS.f k l0_1).bind fun t140=>(some (t137,t140)))
set_option maxHeartbeats 8000000 in
set_option maxRecDepth 100000 in
theorem laws_toRope.calls (k:Nat) (A0_0:Option Addr) (c0_0:Nat) (l0_0:List (S122)) (A0_1:Option Addr) (c0_1:Nat) (l0_1:List (S124)) (r1:List (S30)) (r2:List (S56)) (w:World) (hr0_0:Kd.C k122 w A0_0 l0_0.length l0_0) (hc0_0:l0_0.length≤c0_0) (hr0_1:Kd.C k124 w A0_1 l0_1.length l0_1) (hc0_1:l0_1.length≤c0_1) (h:laws_toRope.f k l0_0 l0_1=some (r1,r2)) :
  Calls Tryd.prog 23 #[.agg #[.slice A0_0 l0_0.length c0_0,.slice A0_1 l0_1.length c0_1]] w fun e w'=>∃ v0_ v1_:Value,e = .returned (.agg #[v0_,v1_])∧Kd.R k30 30 w' w.heap.size (fun _=>True) v0_ r1∧Kd.R k56 56 w' w.heap.size (fun _=>True) v1_ r2∧Below w.heap.size w w':=by
 (have hu40:=Tryd.underlying40);(have hu27:=Tryd.underlying27);(have HR0_0:=Aside0.mk hr0_0);(have HC0_0:=Aside0.mk hc0_0);clear hr0_0 hc0_0;(have HR0_1:=Aside0.mk hr0_1);(have HC0_1:=Aside0.mk hc0_1);clear hr0_1 hc0_1;(have HB:=Aside0.mk (Below.refl w.heap.size w));(have H:((laws_toRopeNodeS.f k l0_0).bind fun t137=>((laws_toMarkS.f k l0_1).bind fun t140=>(some (t137,t140))))=some (r1,r2):=h);clear h;(replace H:=Option.bind_eq_some_iff.mp H);(obtain ⟨t137,A20,H⟩:=H);(try dsimp only at H);(have A2:=Aside0.mk A20);clear A20;(replace H:=Option.bind_eq_some_iff.mp H);(obtain ⟨t140,A30,H⟩:=H);(try dsimp only at H);(have A3:=Aside0.mk A30);clear A30;(simp only [Option.some.injEq,Prod.mk.injEq] at H);(obtain ⟨rfl,rfl⟩:=H);(go_enter Tryd.func23,Tryd.ntmps23);(go_wp2_with (first|((with_reducible refine gate_dst (N:=1) rfl ?_);refine box_event ?hg (N:=1) ?hd (cs:=#[.slice A0_0 l0_0.length c0_0,.slice A0_1 l0_1.length c0_1]) (t:=40) ?hr ?_;(case hd=>rfl);(case hg=>rfl);(case hr=>first|(go_simp;done)|(go_simp;rfl));intro gb134 hg w4 hbox hb;have n0_:=bB HB hb;have n1_:=Aside0.mk (hbox);have n2_:=Aside0.mk ((by rw [hg];exact (below_size (bz HB)):w.heap.size≤gb134));have n3_:=Aside0.mk ((by rw [hg];exact (below_size (bz HB)):w.heap.size≤gb134));clear HB;have HB:=n0_;have BK134:=n1_;have GW134:=n2_;have GE134:=n3_;clear n0_ n1_ n2_ n3_;clear hb hbox hg)|((with_reducible refine gate_dst (N:=2) rfl ?_);refine box_event ?hg (N:=2) ?hd (cs:=#[.slice none 0 0,.slice none 0 0]) (t:=27) ?hr ?_;(case hd=>rfl);(case hg=>rfl);(case hr=>first|(go_simp;done)|(go_simp;rfl));intro gb135 hg w5 hbox hb;have n0_:=kB BK134 hb;have n1_:=bB HB hb;have n2_:=Aside0.mk (hbox);have n3_:=Aside0.mk ((by rw [hg];exact (below_size (bz HB)):w.heap.size≤gb135));have n4_:=Aside0.mk ((by rw [hg];exact (below_size (bz HB)):w.heap.size≤gb135));have n5_:=Aside0.mk ((by rw [hg];exact Nat.ne_of_lt (blk_lt (g:=gb134) (o:=.cells #[.slice A0_0 l0_0.length c0_0,.slice A0_1 l0_1.length c0_1] 40 (0,0)) (by (with_reducible repeat (first|apply kN|apply kD|apply kA));exact BK134.out)):gb134≠gb135));have n6_:=Aside0.mk ((by rw [hg];exact Nat.ne_of_gt (blk_lt (g:=gb134) (o:=.cells #[.slice A0_0 l0_0.length c0_0,.slice A0_1 l0_1.length c0_1] 40 (0,0)) (by (with_reducible repeat (first|apply kN|apply kD|apply kA));exact BK134.out)):gb135≠gb134));clear BK134;clear HB;have BK134:=n0_;have HB:=n1_;have BK135:=n2_;have GW135:=n3_;have GE135:=n4_;have NB134_135:=n5_;have NB135_134:=n6_;clear n0_ n1_ n2_ n3_ n4_ n5_ n6_;clear hb hbox hg)|((with_reducible refine gate_dst (N:=3) rfl ?_);refine box_event ?hg (N:=3) ?hd (cs:=#[.slice none 0 0,.slice none 0 0]) (t:=27) ?hr ?_;(case hd=>rfl);(case hg=>rfl);(case hr=>first|(go_simp;done)|(go_simp;rfl));intro gb136 hg w6 hbox hb;have n0_:=kB BK134 hb;have n1_:=kB BK135 hb;have n2_:=bB HB hb;have n3_:=Aside0.mk (hbox);have n4_:=Aside0.mk ((by rw [hg];exact (below_size (bz HB)):w.heap.size≤gb136));have n5_:=Aside0.mk ((by rw [hg];exact (below_size (bz HB)):w.heap.size≤gb136));have n6_:=Aside0.mk ((by rw [hg];exact Nat.ne_of_lt (blk_lt (g:=gb134) (o:=.cells #[.slice A0_0 l0_0.length c0_0,.slice A0_1 l0_1.length c0_1] 40 (0,0)) (by (with_reducible repeat (first|apply kN|apply kD|apply kA));exact BK134.out)):gb134≠gb136));have n7_:=Aside0.mk ((by rw [hg];exact Nat.ne_of_gt (blk_lt (g:=gb134) (o:=.cells #[.slice A0_0 l0_0.length c0_0,.slice A0_1 l0_1.length c0_1] 40 (0,0)) (by (with_reducible repeat (first|apply kN|apply kD|apply kA));exact BK134.out)):gb136≠gb134));have n8_:=Aside0.mk ((by rw [hg];exact Nat.ne_of_lt (blk_lt (g:=gb135) (o:=.cells #[.slice none 0 0,.slice none 0 0] 27 (0,0)) (by (with_reducible repeat (first|apply kN|apply kD|apply kA));exact BK135.out)):gb135≠gb136));have n9_:=Aside0.mk ((by rw [hg];exact Nat.ne_of_gt (blk_lt (g:=gb135) (o:=.cells #[.slice none 0 0,.slice none 0 0] 27 (0,0)) (by (with_reducible repeat (first|apply kN|apply kD|apply kA));exact BK135.out)):gb136≠gb135));clear BK134;clear BK135;clear HB;have BK134:=n0_;have BK135:=n1_;have HB:=n2_;have BK136:=n3_;have GW136:=n4_;have GE136:=n5_;have NB134_136:=n6_;have NB136_134:=n7_;have NB135_136:=n8_;have NB136_135:=n9_;clear n0_ n1_ n2_ n3_ n4_ n5_ n6_ n7_ n8_ n9_;clear hb hbox hg;have hnb7:=NB134_135.out;have hnc7:=NB135_134.out;have hnb8:=NB134_136.out;have hnc8:=NB136_134.out;have hcz9_0:w6.cell? ⟨gb134,0,none⟩=some (.slice A0_0 l0_0.length c0_0):=(blk_cell BK134.out 0).trans rfl;have hcz9_1:w6.cell? ⟨gb134,1,none⟩=some (.slice A0_1 l0_1.length c0_1):=(blk_cell BK134.out 1).trans rfl;have hfz9_0:=blk_frozen BK134.out 0;have hfz9_1:=blk_frozen BK134.out 1)|((with_reducible refine gate_callee (f:=58) rfl ?_);refine goesL_ (some 6) rfl rfl Tryd.func58 (by kernel_rfl) rfl #[.slice A0_0 l0_0.length c0_0] rfl (by (try simp only [List.map_toArray,List.map_cons,List.map_nil]);first|done|rfl|(simp only [List.length_drop,List.length_take];rfl)) ?_;(with_reducible refine (laws_toRopeNodeS.calls k _ _ l0_0 t137 _ ?side1 ?side2 A2.out).mono ?_);(case side1=>exact cZ HR0_0 HB);(case side2=>exact HC0_0.out);rintro e w10 ⟨v138,rfl,ho0,hb⟩;refine ⟨_,rfl,?_⟩;have HO139:=Aside0.mk (Kd.R_lower ho0 (below_size (bz HB)));replace BK134:=kB BK134 hb;replace BK135:=kB BK135 hb;replace BK136:=kB BK136 hb;replace HB:=bB HB hb;  clear hb;(try clear ho0);obtain ⟨Ao11,co11,eo11⟩:=Kd.R_slice HO139.out;subst eo11;have hnb12:=NB136_135.out;have hnc12:=NB135_136.out;have hcz13_0:w10.cell? ⟨gb136,0,none⟩=some (.slice none 0 0):=(blk_cell BK136.out 0).trans rfl;have hcz13_1:w10.cell? ⟨gb136,1,none⟩=some (.slice none 0 0):=(blk_cell BK136.out 1).trans rfl;have hfz13_0:=blk_frozen BK136.out 0;have hfz13_1:=blk_frozen BK136.out 1;have hcz14_0:w10.cell? ⟨gb134,0,none⟩=some (.slice A0_0 l0_0.length c0_0):=(blk_cell BK134.out 0).trans rfl;have hcz14_1:w10.cell? ⟨gb134,1,none⟩=some (.slice A0_1 l0_1.length c0_1):=(blk_cell BK134.out 1).trans rfl;have hfz14_0:=blk_frozen BK134.out 0;have hfz14_1:=blk_frozen BK134.out 1)|((with_reducible refine gate_callee (f:=59) rfl ?_);refine goesL_ (some 10) rfl rfl Tryd.func59 (by kernel_rfl) rfl #[.slice A0_1 l0_1.length c0_1] rfl (by (try simp only [List.map_toArray,List.map_cons,List.map_nil]);first|done|rfl|(simp only [List.length_drop,List.length_take];rfl)) ?_;(with_reducible refine (laws_toMarkS.calls k _ _ l0_1 t140 _ ?side1 ?side2 A3.out).mono ?_);(case side1=>exact Kd.C_below HR0_1.out (by repeat (first|(with_reducible first|exact HB.out|apply below_alloc|apply pw_below_drewN|apply below_drew1|refine below_set ?_ GE134.out|refine below_set ?_ GE135.out|refine below_set ?_ GE136.out)|exact HB.out)));(case side2=>exact HC0_1.out);rintro e w15 ⟨v141,rfl,ho0,hb⟩;refine ⟨_,rfl,?_⟩;have n0_:=Aside0.mk (Kd.R_below (by (with_reducible repeat (first|apply Kd.R_alloc|apply Kd.R_drewN|apply Kd.R_drew));exact (Kd.R_mono (Kd.R_far (p:=⟨gb136,0,none⟩) (Kd.R_types HO139.out BK136.out (by decide)) (fun _ hk=>hk.2) (.slice Ao11 t137.length co11)) (fun _ h_=>h_.1))) hb);have n1_:=Aside0.mk (Kd.R_lower ho0 (below_size (by repeat (first|(with_reducible first|exact HB.out|apply below_alloc|apply pw_below_drewN|apply below_drew1|refine below_set ?_ GE134.out|refine below_set ?_ GE135.out|refine below_set ?_ GE136.out)|exact HB.out))));have n2_:=Aside0.mk (blk_below (g:=gb134) (o:=.cells #[.slice A0_0 l0_0.length c0_0,.slice A0_1 l0_1.length c0_1] 40 (0,0)) (by (with_reducible repeat (first|apply kN|apply kD|apply kA));refine blk_far ?_ NB134_136.out _;(with_reducible repeat (first|apply kN|apply kD|apply kA));exact BK134.out) hb);have n3_:=Aside0.mk (blk_below (g:=gb135) (o:=.cells #[.slice none 0 0,.slice none 0 0] 27 (0,0)) (by (with_reducible repeat (first|apply kN|apply kD|apply kA));refine blk_far ?_ NB135_136.out _;(with_reducible repeat (first|apply kN|apply kD|apply kA));exact BK135.out) hb);have n4_:=Aside0.mk (blk_below (g:=gb136) (o:=.cells #[.slice Ao11 t137.length co11,.slice none 0 0] 27 (0,0)) (by (with_reducible repeat (first|apply kN|apply kD|apply kA));refine blk_put (cs:=#[.slice none 0 0,.slice none 0 0]) ?_ 0 _ rfl;(with_reducible repeat (first|apply kN|apply kD|apply kA));exact BK136.out) hb);have n5_:=Aside0.mk (below_step (by repeat (first|(with_reducible first|exact HB.out|apply below_alloc|apply pw_below_drewN|apply below_drew1|refine below_set ?_ GE134.out|refine below_set ?_ GE135.out|refine below_set ?_ GE136.out)|exact HB.out)) hb);clear HO139;clear BK134;clear BK135;clear BK136;clear HB;have HO139:=n0_;have HO142:=n1_;have BK134:=n2_;have BK135:=n3_;have BK136:=n4_;have HB:=n5_;clear n0_ n1_ n2_ n3_ n4_ n5_;(try clear hb);(try clear hb2);(try clear hk);(try clear hi);(try clear ho0);obtain ⟨Ao16,co16,eo16⟩:=Kd.R_slice HO142.out;subst eo16;have hcz17_0:w15.cell? ⟨gb136,0,none⟩=some (.slice Ao11 t137.length co11):=(blk_cell BK136.out 0).trans rfl;have hcz17_1:w15.cell? ⟨gb136,1,none⟩=some (.slice none 0 0):=(blk_cell BK136.out 1).trans rfl;have hfz17_0:=blk_frozen BK136.out 0;have hfz17_1:=blk_frozen BK136.out 1;have hcz18_0:w15.cell? ⟨gb135,0,none⟩=some (.slice none 0 0):=(blk_cell BK135.out 0).trans rfl;have hcz18_1:w15.cell? ⟨gb135,1,none⟩=some (.slice none 0 0):=(blk_cell BK135.out 1).trans rfl;have hfz18_0:=blk_frozen BK135.out 0;have hfz18_1:=blk_frozen BK135.out 1)));(refine bodyPost_ret (results_cell_row rfl _ _ gb135 27 #[.slice Ao11 t137.length co11,.slice Ao16 t140.length co16] (0,0) _ rfl (by (with_reducible repeat (first|apply kN|apply kD|apply kA));refine blk_put (cs:=#[.slice Ao11 t137.length co11,.slice none 0 0]) ?_ 1 _ rfl;(with_reducible repeat (first|apply kN|apply kD|apply kA));refine blk_put (cs:=#[.slice none 0 0,.slice none 0 0]) ?_ 0 _ rfl;(with_reducible repeat (first|apply kN|apply kD|apply kA));refine blk_far ?_ NB135_136.out _;(with_reducible repeat (first|apply kN|apply kD|apply kA));exact BK135.out) Tryd.underlying27 rfl (by kernel_rfl)) rfl ?_);(exact ⟨_,_,by first|rfl|(simp [errW_none,errW_some] <;> rfl)|(simp [*,errW_none,errW_some] <;> rfl),by (with_reducible repeat (first|apply Kd.R_alloc|apply Kd.R_drewN|apply Kd.R_drew));exact Kd.R_mono (Kd.R_far (p:=⟨gb135,1,none⟩) (Kd.R_far (p:=⟨gb135,0,none⟩) (Kd.R_far (p:=⟨gb136,1,none⟩) (Kd.R_types (Kd.R_types HO139.out BK136.out (by decide)) BK135.out (by decide)) (fun _ hk=>hk.1.2) (.slice Ao16 t140.length co16)) (fun _ hk=>hk.2) (.slice Ao11 t137.length co11)) (fun _ hk=>hk.2) (.slice Ao16 t140.length co16)) (fun _ hk=>trivial),by (with_reducible repeat (first|apply Kd.R_alloc|apply Kd.R_drewN|apply Kd.R_drew));exact Kd.R_mono (Kd.R_far (p:=⟨gb135,1,none⟩) (Kd.R_far (p:=⟨gb135,0,none⟩) (Kd.R_far (p:=⟨gb136,1,none⟩) (Kd.R_types (Kd.R_types HO142.out BK136.out (by decide)) BK135.out (by decide)) (fun _ hk=>hk.1.2) (.slice Ao16 t140.length co16)) (fun _ hk=>hk.2) (.slice Ao11 t137.length co11)) (fun _ hk=>hk.2) (.slice Ao16 t140.length co16)) (fun _ hk=>trivial),by repeat (first|(with_reducible first|exact HB.out|apply below_alloc|apply pw_below_drewN|apply below_drew1|refine below_set ?_ GE134.out|refine below_set ?_ GE135.out|refine below_set ?_ GE136.out)|exact HB.out)⟩)
def laws_eqRopeNode.f (a0_0:ByteArray) (a0_1:Int) (a0_2:Int) (a0_3:Int) (a0_4:Int) (a1_0:ByteArray) (a1_1:Int) (a1_2:Int) (a1_3:Int) (a1_4:Int):Option (Bool):=if a0_0.toList=a1_0.toList then (if a0_1=a1_1 then (if a0_2=a1_2 then (if a0_3=a1_3 then (if a0_4=a1_4 then (some true) else (some false)) else (some false)) else (some false)) else (some false)) else (some false)
set_option maxHeartbeats 8000000 in
set_option maxRecDepth 100000 in
theorem laws_eqRopeNode.calls (a0_0:ByteArray) (a0_1:Int) (a0_2:Int) (a0_3:Int) (a0_4:Int) (a1_0:ByteArray) (a1_1:Int) (a1_2:Int) (a1_3:Int) (a1_4:Int) (r:Bool) (w:World) (h:laws_eqRopeNode.f a0_0 a0_1 a0_2 a0_3 a0_4 a1_0 a1_1 a1_2 a1_3 a1_4=some r) :
  Calls Tryd.prog 97 #[.agg #[.string a0_0,.int .i64 a0_1,.int .i64 a0_2,.int .i64 a0_3,.int .i64 a0_4],.agg #[.string a1_0,.int .i64 a1_1,.int .i64 a1_2,.int .i64 a1_3,.int .i64 a1_4]] w fun e w'=>e = .returned (.bool r)∧Below w.heap.size w w':=by
 (have hu30:=Tryd.underlying30);(have HB:=Aside0.mk (Below.refl w.heap.size w));(have H:(if a0_0.toList=a1_0.toList then (if a0_1=a1_1 then (if a0_2=a1_2 then (if a0_3=a1_3 then (if a0_4=a1_4 then (some true) else (some false)) else (some false)) else (some false)) else (some false)) else (some false))=some r:=h);clear h;(by_cases c3:a0_0.toList=a1_0.toList)
 ·
  (rw [if_pos c3] at H);(have c3b0:(a0_0.toList == a1_0.toList)=true:=beq_iff_eq.mpr c3);(have c3b1:(a0_0.toList != a1_0.toList)=false:=bne_eq_false_iff_eq.mpr c3);clear c3;(by_cases c4:a0_1=a1_1)
  ·
   (rw [if_pos c4] at H);(have c4b0:(a0_1 == a1_1)=true:=beq_iff_eq.mpr c4);(have c4b1:(a0_1 != a1_1)=false:=bne_eq_false_iff_eq.mpr c4);clear c4;(by_cases c5:a0_2=a1_2)
   ·
    (rw [if_pos c5] at H);(have c5b0:(a0_2 == a1_2)=true:=beq_iff_eq.mpr c5);(have c5b1:(a0_2 != a1_2)=false:=bne_eq_false_iff_eq.mpr c5);clear c5;(by_cases c6:a0_3=a1_3)
    ·
     (rw [if_pos c6] at H);(have c6b0:(a0_3 == a1_3)=true:=beq_iff_eq.mpr c6);(have c6b1:(a0_3 != a1_3)=false:=bne_eq_false_iff_eq.mpr c6);clear c6;(by_cases c7:a0_4=a1_4)
     ·
      (rw [if_pos c7] at H);(have c7b0:(a0_4 == a1_4)=true:=beq_iff_eq.mpr c7);(have c7b1:(a0_4 != a1_4)=false:=bne_eq_false_iff_eq.mpr c7);clear c7;(obtain rfl:=Option.some.inj H);(go_enter Tryd.func97,Tryd.ntmps97);(go_wp2_with (first|((with_reducible refine gate_dst (N:=2) rfl ?_);refine box_event ?hg (N:=2) ?hd (cs:=#[.string a0_0,.int .i64 a0_1,.int .i64 a0_2,.int .i64 a0_3,.int .i64 a0_4]) (t:=30) ?hr ?_;(case hd=>rfl);(case hg=>rfl);(case hr=>first|(go_simp;done)|(go_simp;rfl));intro gb143 hg w8 hbox hb;have n0_:=bB HB hb;have n1_:=Aside0.mk (hbox);have n2_:=Aside0.mk ((by rw [hg];exact (below_size (bz HB)):w.heap.size≤gb143));have n3_:=Aside0.mk ((by rw [hg];exact (below_size (bz HB)):w.heap.size≤gb143));clear HB;have HB:=n0_;have BK143:=n1_;have GW143:=n2_;have GE143:=n3_;clear n0_ n1_ n2_ n3_;clear hb hbox hg)|((with_reducible refine gate_dst (N:=3) rfl ?_);refine box_event ?hg (N:=3) ?hd (cs:=#[.string a1_0,.int .i64 a1_1,.int .i64 a1_2,.int .i64 a1_3,.int .i64 a1_4]) (t:=30) ?hr ?_;(case hd=>rfl);(case hg=>rfl);(case hr=>first|(go_simp;done)|(go_simp;rfl));intro gb144 hg w9 hbox hb;have n0_:=kB BK143 hb;have n1_:=bB HB hb;have n2_:=Aside0.mk (hbox);have n3_:=Aside0.mk ((by rw [hg];exact (below_size (bz HB)):w.heap.size≤gb144));have n4_:=Aside0.mk ((by rw [hg];exact (below_size (bz HB)):w.heap.size≤gb144));have n5_:=Aside0.mk ((by rw [hg];exact Nat.ne_of_lt (blk_lt (g:=gb143) (o:=.cells #[.string a0_0,.int .i64 a0_1,.int .i64 a0_2,.int .i64 a0_3,.int .i64 a0_4] 30 (0,0)) (by (with_reducible repeat (first|apply kN|apply kD|apply kA));exact BK143.out)):gb143≠gb144));have n6_:=Aside0.mk ((by rw [hg];exact Nat.ne_of_gt (blk_lt (g:=gb143) (o:=.cells #[.string a0_0,.int .i64 a0_1,.int .i64 a0_2,.int .i64 a0_3,.int .i64 a0_4] 30 (0,0)) (by (with_reducible repeat (first|apply kN|apply kD|apply kA));exact BK143.out)):gb144≠gb143));clear BK143;clear HB;have BK143:=n0_;have HB:=n1_;have BK144:=n2_;have GW144:=n3_;have GE144:=n4_;have NB143_144:=n5_;have NB144_143:=n6_;clear n0_ n1_ n2_ n3_ n4_ n5_ n6_;clear hb hbox hg;have hnb10:=NB143_144.out;have hnc10:=NB144_143.out;have hcz11_0:w9.cell? ⟨gb143,0,none⟩=some (.string a0_0):=(blk_cell BK143.out 0).trans rfl;have hcz11_1:w9.cell? ⟨gb143,1,none⟩=some (.int .i64 a0_1):=(blk_cell BK143.out 1).trans rfl;have hcz11_2:w9.cell? ⟨gb143,2,none⟩=some (.int .i64 a0_2):=(blk_cell BK143.out 2).trans rfl;have hcz11_3:w9.cell? ⟨gb143,3,none⟩=some (.int .i64 a0_3):=(blk_cell BK143.out 3).trans rfl;have hcz11_4:w9.cell? ⟨gb143,4,none⟩=some (.int .i64 a0_4):=(blk_cell BK143.out 4).trans rfl;have hfz11_0:=blk_frozen BK143.out 0;have hfz11_1:=blk_frozen BK143.out 1;have hfz11_2:=blk_frozen BK143.out 2;have hfz11_3:=blk_frozen BK143.out 3;have hfz11_4:=blk_frozen BK143.out 4;have hcz12_0:w9.cell? ⟨gb144,0,none⟩=some (.string a1_0):=(blk_cell BK144.out 0).trans rfl;have hcz12_1:w9.cell? ⟨gb144,1,none⟩=some (.int .i64 a1_1):=(blk_cell BK144.out 1).trans rfl;have hcz12_2:w9.cell? ⟨gb144,2,none⟩=some (.int .i64 a1_2):=(blk_cell BK144.out 2).trans rfl;have hcz12_3:w9.cell? ⟨gb144,3,none⟩=some (.int .i64 a1_3):=(blk_cell BK144.out 3).trans rfl;have hcz12_4:w9.cell? ⟨gb144,4,none⟩=some (.int .i64 a1_4):=(blk_cell BK144.out 4).trans rfl;have hfz12_0:=blk_frozen BK144.out 0;have hfz12_1:=blk_frozen BK144.out 1;have hfz12_2:=blk_frozen BK144.out 2;have hfz12_3:=blk_frozen BK144.out 3;have hfz12_4:=blk_frozen BK144.out 4)));go_ret;(exact ⟨by first|rfl|(simp [errW_none,errW_some] <;> rfl)|(simp [*,errW_none,errW_some] <;> rfl),by repeat (first|(with_reducible first|exact HB.out|apply below_alloc|apply pw_below_drewN|apply below_drew1|refine below_set ?_ GE143.out|refine below_set ?_ GE144.out)|exact HB.out)⟩)
     ·
      (rw [if_neg c7] at H);(have c7b0:(a0_4 == a1_4)=false:=beq_eq_false_iff_ne.mpr c7);(have c7b1:(a0_4 != a1_4)=true:=bne_iff_ne.mpr c7);(obtain rfl:=Option.some.inj H);(go_enter Tryd.func97,Tryd.ntmps97);(go_wp2_with (first|((with_reducible refine gate_dst (N:=2) rfl ?_);refine box_event ?hg (N:=2) ?hd (cs:=#[.string a0_0,.int .i64 a0_1,.int .i64 a0_2,.int .i64 a0_3,.int .i64 a0_4]) (t:=30) ?hr ?_;(case hd=>rfl);(case hg=>rfl);(case hr=>first|(go_simp;done)|(go_simp;rfl));intro gb143 hg w13 hbox hb;have n0_:=bB HB hb;have n1_:=Aside0.mk (hbox);have n2_:=Aside0.mk ((by rw [hg];exact (below_size (bz HB)):w.heap.size≤gb143));have n3_:=Aside0.mk ((by rw [hg];exact (below_size (bz HB)):w.heap.size≤gb143));clear HB;have HB:=n0_;have BK143:=n1_;have GW143:=n2_;have GE143:=n3_;clear n0_ n1_ n2_ n3_;clear hb hbox hg)|((with_reducible refine gate_dst (N:=3) rfl ?_);refine box_event ?hg (N:=3) ?hd (cs:=#[.string a1_0,.int .i64 a1_1,.int .i64 a1_2,.int .i64 a1_3,.int .i64 a1_4]) (t:=30) ?hr ?_;(case hd=>rfl);(case hg=>rfl);(case hr=>first|(go_simp;done)|(go_simp;rfl));intro gb144 hg w14 hbox hb;have n0_:=kB BK143 hb;have n1_:=bB HB hb;have n2_:=Aside0.mk (hbox);have n3_:=Aside0.mk ((by rw [hg];exact (below_size (bz HB)):w.heap.size≤gb144));have n4_:=Aside0.mk ((by rw [hg];exact (below_size (bz HB)):w.heap.size≤gb144));have n5_:=Aside0.mk ((by rw [hg];exact Nat.ne_of_lt (blk_lt (g:=gb143) (o:=.cells #[.string a0_0,.int .i64 a0_1,.int .i64 a0_2,.int .i64 a0_3,.int .i64 a0_4] 30 (0,0)) (by (with_reducible repeat (first|apply kN|apply kD|apply kA));exact BK143.out)):gb143≠gb144));have n6_:=Aside0.mk ((by rw [hg];exact Nat.ne_of_gt (blk_lt (g:=gb143) (o:=.cells #[.string a0_0,.int .i64 a0_1,.int .i64 a0_2,.int .i64 a0_3,.int .i64 a0_4] 30 (0,0)) (by (with_reducible repeat (first|apply kN|apply kD|apply kA));exact BK143.out)):gb144≠gb143));clear BK143;clear HB;have BK143:=n0_;have HB:=n1_;have BK144:=n2_;have GW144:=n3_;have GE144:=n4_;have NB143_144:=n5_;have NB144_143:=n6_;clear n0_ n1_ n2_ n3_ n4_ n5_ n6_;clear hb hbox hg;have hnb15:=NB143_144.out;have hnc15:=NB144_143.out;have hcz16_0:w14.cell? ⟨gb143,0,none⟩=some (.string a0_0):=(blk_cell BK143.out 0).trans rfl;have hcz16_1:w14.cell? ⟨gb143,1,none⟩=some (.int .i64 a0_1):=(blk_cell BK143.out 1).trans rfl;have hcz16_2:w14.cell? ⟨gb143,2,none⟩=some (.int .i64 a0_2):=(blk_cell BK143.out 2).trans rfl;have hcz16_3:w14.cell? ⟨gb143,3,none⟩=some (.int .i64 a0_3):=(blk_cell BK143.out 3).trans rfl;have hcz16_4:w14.cell? ⟨gb143,4,none⟩=some (.int .i64 a0_4):=(blk_cell BK143.out 4).trans rfl;have hfz16_0:=blk_frozen BK143.out 0;have hfz16_1:=blk_frozen BK143.out 1;have hfz16_2:=blk_frozen BK143.out 2;have hfz16_3:=blk_frozen BK143.out 3;have hfz16_4:=blk_frozen BK143.out 4;have hcz17_0:w14.cell? ⟨gb144,0,none⟩=some (.string a1_0):=(blk_cell BK144.out 0).trans rfl;have hcz17_1:w14.cell? ⟨gb144,1,none⟩=some (.int .i64 a1_1):=(blk_cell BK144.out 1).trans rfl;have hcz17_2:w14.cell? ⟨gb144,2,none⟩=some (.int .i64 a1_2):=(blk_cell BK144.out 2).trans rfl;have hcz17_3:w14.cell? ⟨gb144,3,none⟩=some (.int .i64 a1_3):=(blk_cell BK144.out 3).trans rfl;have hcz17_4:w14.cell? ⟨gb144,4,none⟩=some (.int .i64 a1_4):=(blk_cell BK144.out 4).trans rfl;have hfz17_0:=blk_frozen BK144.out 0;have hfz17_1:=blk_frozen BK144.out 1;have hfz17_2:=blk_frozen BK144.out 2;have hfz17_3:=blk_frozen BK144.out 3;have hfz17_4:=blk_frozen BK144.out 4)));go_ret;(exact ⟨by first|rfl|(simp [errW_none,errW_some] <;> rfl)|(simp [*,errW_none,errW_some] <;> rfl),by repeat (first|(with_reducible first|exact HB.out|apply below_alloc|apply pw_below_drewN|apply below_drew1|refine below_set ?_ GE143.out|refine below_set ?_ GE144.out)|exact HB.out)⟩)
    ·
     (rw [if_neg c6] at H);(have c6b0:(a0_3 == a1_3)=false:=beq_eq_false_iff_ne.mpr c6);(have c6b1:(a0_3 != a1_3)=true:=bne_iff_ne.mpr c6);(obtain rfl:=Option.some.inj H);(go_enter Tryd.func97,Tryd.ntmps97);(go_wp2_with (first|((with_reducible refine gate_dst (N:=2) rfl ?_);refine box_event ?hg (N:=2) ?hd (cs:=#[.string a0_0,.int .i64 a0_1,.int .i64 a0_2,.int .i64 a0_3,.int .i64 a0_4]) (t:=30) ?hr ?_;(case hd=>rfl);(case hg=>rfl);(case hr=>first|(go_simp;done)|(go_simp;rfl));intro gb143 hg w18 hbox hb;have n0_:=bB HB hb;have n1_:=Aside0.mk (hbox);have n2_:=Aside0.mk ((by rw [hg];exact (below_size (bz HB)):w.heap.size≤gb143));have n3_:=Aside0.mk ((by rw [hg];exact (below_size (bz HB)):w.heap.size≤gb143));clear HB;have HB:=n0_;have BK143:=n1_;have GW143:=n2_;have GE143:=n3_;clear n0_ n1_ n2_ n3_;clear hb hbox hg)|((with_reducible refine gate_dst (N:=3) rfl ?_);refine box_event ?hg (N:=3) ?hd (cs:=#[.string a1_0,.int .i64 a1_1,.int .i64 a1_2,.int .i64 a1_3,.int .i64 a1_4]) (t:=30) ?hr ?_;(case hd=>rfl);(case hg=>rfl);(case hr=>first|(go_simp;done)|(go_simp;rfl));intro gb144 hg w19 hbox hb;have n0_:=kB BK143 hb;have n1_:=bB HB hb;have n2_:=Aside0.mk (hbox);have n3_:=Aside0.mk ((by rw [hg];exact (below_size (bz HB)):w.heap.size≤gb144));have n4_:=Aside0.mk ((by rw [hg];exact (below_size (bz HB)):w.heap.size≤gb144));have n5_:=Aside0.mk ((by rw [hg];exact Nat.ne_of_lt (blk_lt (g:=gb143) (o:=.cells #[.string a0_0,.int .i64 a0_1,.int .i64 a0_2,.int .i64 a0_3,.int .i64 a0_4] 30 (0,0)) (by (with_reducible repeat (first|apply kN|apply kD|apply kA));exact BK143.out)):gb143≠gb144));have n6_:=Aside0.mk ((by rw [hg];exact Nat.ne_of_gt (blk_lt (g:=gb143) (o:=.cells #[.string a0_0,.int .i64 a0_1,.int .i64 a0_2,.int .i64 a0_3,.int .i64 a0_4] 30 (0,0)) (by (with_reducible repeat (first|apply kN|apply kD|apply kA));exact BK143.out)):gb144≠gb143));clear BK143;clear HB;have BK143:=n0_;have HB:=n1_;have BK144:=n2_;have GW144:=n3_;have GE144:=n4_;have NB143_144:=n5_;have NB144_143:=n6_;clear n0_ n1_ n2_ n3_ n4_ n5_ n6_;clear hb hbox hg;have hnb20:=NB143_144.out;have hnc20:=NB144_143.out;have hcz21_0:w19.cell? ⟨gb143,0,none⟩=some (.string a0_0):=(blk_cell BK143.out 0).trans rfl;have hcz21_1:w19.cell? ⟨gb143,1,none⟩=some (.int .i64 a0_1):=(blk_cell BK143.out 1).trans rfl;have hcz21_2:w19.cell? ⟨gb143,2,none⟩=some (.int .i64 a0_2):=(blk_cell BK143.out 2).trans rfl;have hcz21_3:w19.cell? ⟨gb143,3,none⟩=some (.int .i64 a0_3):=(blk_cell BK143.out 3).trans rfl;have hcz21_4:w19.cell? ⟨gb143,4,none⟩=some (.int .i64 a0_4):=(blk_cell BK143.out 4).trans rfl;have hfz21_0:=blk_frozen BK143.out 0;have hfz21_1:=blk_frozen BK143.out 1;have hfz21_2:=blk_frozen BK143.out 2;have hfz21_3:=blk_frozen BK143.out 3;have hfz21_4:=blk_frozen BK143.out 4;have hcz22_0:w19.cell? ⟨gb144,0,none⟩=some (.string a1_0):=(blk_cell BK144.out 0).trans rfl;have hcz22_1:w19.cell? ⟨gb144,1,none⟩=some (.int .i64 a1_1):=(blk_cell BK144.out 1).trans rfl;have hcz22_2:w19.cell? ⟨gb144,2,none⟩=some (.int .i64 a1_2):=(blk_cell BK144.out 2).trans rfl;have hcz22_3:w19.cell? ⟨gb144,3,none⟩=some (.int .i64 a1_3):=(blk_cell BK144.out 3).trans rfl;have hcz22_4:w19.cell? ⟨gb144,4,none⟩=some (.int .i64 a1_4):=(blk_cell BK144.out 4).trans rfl;have hfz22_0:=blk_frozen BK144.out 0;have hfz22_1:=blk_frozen BK144.out 1;have hfz22_2:=blk_frozen BK144.out 2;have hfz22_3:=blk_frozen BK144.out 3;have hfz22_4:=blk_frozen BK144.out 4)));go_ret;(exact ⟨by first|rfl|(simp [errW_none,errW_some] <;> rfl)|(simp [*,errW_none,errW_some] <;> rfl),by repeat (first|(with_reducible first|exact HB.out|apply below_alloc|apply pw_below_drewN|apply below_drew1|refine below_set ?_ GE143.out|refine below_set ?_ GE144.out)|exact HB.out)⟩)
   ·
    (rw [if_neg c5] at H);(have c5b0:(a0_2 == a1_2)=false:=beq_eq_false_iff_ne.mpr c5);(have c5b1:(a0_2 != a1_2)=true:=bne_iff_ne.mpr c5);(obtain rfl:=Option.some.inj H);(go_enter Tryd.func97,Tryd.ntmps97);(go_wp2_with (first|((with_reducible refine gate_dst (N:=2) rfl ?_);refine box_event ?hg (N:=2) ?hd (cs:=#[.string a0_0,.int .i64 a0_1,.int .i64 a0_2,.int .i64 a0_3,.int .i64 a0_4]) (t:=30) ?hr ?_;(case hd=>rfl);(case hg=>rfl);(case hr=>first|(go_simp;done)|(go_simp;rfl));intro gb143 hg w23 hbox hb;have n0_:=bB HB hb;have n1_:=Aside0.mk (hbox);have n2_:=Aside0.mk ((by rw [hg];exact (below_size (bz HB)):w.heap.size≤gb143));have n3_:=Aside0.mk ((by rw [hg];exact (below_size (bz HB)):w.heap.size≤gb143));clear HB;have HB:=n0_;have BK143:=n1_;have GW143:=n2_;have GE143:=n3_;clear n0_ n1_ n2_ n3_;clear hb hbox hg)|((with_reducible refine gate_dst (N:=3) rfl ?_);refine box_event ?hg (N:=3) ?hd (cs:=#[.string a1_0,.int .i64 a1_1,.int .i64 a1_2,.int .i64 a1_3,.int .i64 a1_4]) (t:=30) ?hr ?_;(case hd=>rfl);(case hg=>rfl);(case hr=>first|(go_simp;done)|(go_simp;rfl));intro gb144 hg w24 hbox hb;have n0_:=kB BK143 hb;have n1_:=bB HB hb;have n2_:=Aside0.mk (hbox);have n3_:=Aside0.mk ((by rw [hg];exact (below_size (bz HB)):w.heap.size≤gb144));have n4_:=Aside0.mk ((by rw [hg];exact (below_size (bz HB)):w.heap.size≤gb144));have n5_:=Aside0.mk ((by rw [hg];exact Nat.ne_of_lt (blk_lt (g:=gb143) (o:=.cells #[.string a0_0,.int .i64 a0_1,.int .i64 a0_2,.int .i64 a0_3,.int .i64 a0_4] 30 (0,0)) (by (with_reducible repeat (first|apply kN|apply kD|apply kA));exact BK143.out)):gb143≠gb144));have n6_:=Aside0.mk ((by rw [hg];exact Nat.ne_of_gt (blk_lt (g:=gb143) (o:=.cells #[.string a0_0,.int .i64 a0_1,.int .i64 a0_2,.int .i64 a0_3,.int .i64 a0_4] 30 (0,0)) (by (with_reducible repeat (first|apply kN|apply kD|apply kA));exact BK143.out)):gb144≠gb143));clear BK143;clear HB;have BK143:=n0_;have HB:=n1_;have BK144:=n2_;have GW144:=n3_;have GE144:=n4_;have NB143_144:=n5_;have NB144_143:=n6_;clear n0_ n1_ n2_ n3_ n4_ n5_ n6_;clear hb hbox hg;have hnb25:=NB143_144.out;have hnc25:=NB144_143.out;have hcz26_0:w24.cell? ⟨gb143,0,none⟩=some (.string a0_0):=(blk_cell BK143.out 0).trans rfl;have hcz26_1:w24.cell? ⟨gb143,1,none⟩=some (.int .i64 a0_1):=(blk_cell BK143.out 1).trans rfl;have hcz26_2:w24.cell? ⟨gb143,2,none⟩=some (.int .i64 a0_2):=(blk_cell BK143.out 2).trans rfl;have hcz26_3:w24.cell? ⟨gb143,3,none⟩=some (.int .i64 a0_3):=(blk_cell BK143.out 3).trans rfl;have hcz26_4:w24.cell? ⟨gb143,4,none⟩=some (.int .i64 a0_4):=(blk_cell BK143.out 4).trans rfl;have hfz26_0:=blk_frozen BK143.out 0;have hfz26_1:=blk_frozen BK143.out 1;have hfz26_2:=blk_frozen BK143.out 2;have hfz26_3:=blk_frozen BK143.out 3;have hfz26_4:=blk_frozen BK143.out 4;have hcz27_0:w24.cell? ⟨gb144,0,none⟩=some (.string a1_0):=(blk_cell BK144.out 0).trans rfl;have hcz27_1:w24.cell? ⟨gb144,1,none⟩=some (.int .i64 a1_1):=(blk_cell BK144.out 1).trans rfl;have hcz27_2:w24.cell? ⟨gb144,2,none⟩=some (.int .i64 a1_2):=(blk_cell BK144.out 2).trans rfl;have hcz27_3:w24.cell? ⟨gb144,3,none⟩=some (.int .i64 a1_3):=(blk_cell BK144.out 3).trans rfl;have hcz27_4:w24.cell? ⟨gb144,4,none⟩=some (.int .i64 a1_4):=(blk_cell BK144.out 4).trans rfl;have hfz27_0:=blk_frozen BK144.out 0;have hfz27_1:=blk_frozen BK144.out 1;have hfz27_2:=blk_frozen BK144.out 2;have hfz27_3:=blk_frozen BK144.out 3;have hfz27_4:=blk_frozen BK144.out 4)));go_ret;(exact ⟨by first|rfl|(simp [errW_none,errW_some] <;> rfl)|(simp [*,errW_none,errW_some] <;> rfl),by repeat (first|(with_reducible first|exact HB.out|apply below_alloc|apply pw_below_drewN|apply below_drew1|refine below_set ?_ GE143.out|refine below_set ?_ GE144.out)|exact HB.out)⟩)
  ·
   (rw [if_neg c4] at H);(have c4b0:(a0_1 == a1_1)=false:=beq_eq_false_iff_ne.mpr c4);(have c4b1:(a0_1 != a1_1)=true:=bne_iff_ne.mpr c4);(obtain rfl:=Option.some.inj H);(go_enter Tryd.func97,Tryd.ntmps97);(go_wp2_with (first|((with_reducible refine gate_dst (N:=2) rfl ?_);refine box_event ?hg (N:=2) ?hd (cs:=#[.string a0_0,.int .i64 a0_1,.int .i64 a0_2,.int .i64 a0_3,.int .i64 a0_4]) (t:=30) ?hr ?_;(case hd=>rfl);(case hg=>rfl);(case hr=>first|(go_simp;done)|(go_simp;rfl));intro gb143 hg w28 hbox hb;have n0_:=bB HB hb;have n1_:=Aside0.mk (hbox);have n2_:=Aside0.mk ((by rw [hg];exact (below_size (bz HB)):w.heap.size≤gb143));have n3_:=Aside0.mk ((by rw [hg];exact (below_size (bz HB)):w.heap.size≤gb143));clear HB;have HB:=n0_;have BK143:=n1_;have GW143:=n2_;have GE143:=n3_;clear n0_ n1_ n2_ n3_;clear hb hbox hg)|((with_reducible refine gate_dst (N:=3) rfl ?_);refine box_event ?hg (N:=3) ?hd (cs:=#[.string a1_0,.int .i64 a1_1,.int .i64 a1_2,.int .i64 a1_3,.int .i64 a1_4]) (t:=30) ?hr ?_;(case hd=>rfl);(case hg=>rfl);(case hr=>first|(go_simp;done)|(go_simp;rfl));intro gb144 hg w29 hbox hb;have n0_:=kB BK143 hb;have n1_:=bB HB hb;have n2_:=Aside0.mk (hbox);have n3_:=Aside0.mk ((by rw [hg];exact (below_size (bz HB)):w.heap.size≤gb144));have n4_:=Aside0.mk ((by rw [hg];exact (below_size (bz HB)):w.heap.size≤gb144));have n5_:=Aside0.mk ((by rw [hg];exact Nat.ne_of_lt (blk_lt (g:=gb143) (o:=.cells #[.string a0_0,.int .i64 a0_1,.int .i64 a0_2,.int .i64 a0_3,.int .i64 a0_4] 30 (0,0)) (by (with_reducible repeat (first|apply kN|apply kD|apply kA));exact BK143.out)):gb143≠gb144));have n6_:=Aside0.mk ((by rw [hg];exact Nat.ne_of_gt (blk_lt (g:=gb143) (o:=.cells #[.string a0_0,.int .i64 a0_1,.int .i64 a0_2,.int .i64 a0_3,.int .i64 a0_4] 30 (0,0)) (by (with_reducible repeat (first|apply kN|apply kD|apply kA));exact BK143.out)):gb144≠gb143));clear BK143;clear HB;have BK143:=n0_;have HB:=n1_;have BK144:=n2_;have GW144:=n3_;have GE144:=n4_;have NB143_144:=n5_;have NB144_143:=n6_;clear n0_ n1_ n2_ n3_ n4_ n5_ n6_;clear hb hbox hg;have hnb30:=NB143_144.out;have hnc30:=NB144_143.out;have hcz31_0:w29.cell? ⟨gb143,0,none⟩=some (.string a0_0):=(blk_cell BK143.out 0).trans rfl;have hcz31_1:w29.cell? ⟨gb143,1,none⟩=some (.int .i64 a0_1):=(blk_cell BK143.out 1).trans rfl;have hcz31_2:w29.cell? ⟨gb143,2,none⟩=some (.int .i64 a0_2):=(blk_cell BK143.out 2).trans rfl;have hcz31_3:w29.cell? ⟨gb143,3,none⟩=some (.int .i64 a0_3):=(blk_cell BK143.out 3).trans rfl;have hcz31_4:w29.cell? ⟨gb143,4,none⟩=some (.int .i64 a0_4):=(blk_cell BK143.out 4).trans rfl;have hfz31_0:=blk_frozen BK143.out 0;have hfz31_1:=blk_frozen BK143.out 1;have hfz31_2:=blk_frozen BK143.out 2;have hfz31_3:=blk_frozen BK143.out 3;have hfz31_4:=blk_frozen BK143.out 4;have hcz32_0:w29.cell? ⟨gb144,0,none⟩=some (.string a1_0):=(blk_cell BK144.out 0).trans rfl;have hcz32_1:w29.cell? ⟨gb144,1,none⟩=some (.int .i64 a1_1):=(blk_cell BK144.out 1).trans rfl;have hcz32_2:w29.cell? ⟨gb144,2,none⟩=some (.int .i64 a1_2):=(blk_cell BK144.out 2).trans rfl;have hcz32_3:w29.cell? ⟨gb144,3,none⟩=some (.int .i64 a1_3):=(blk_cell BK144.out 3).trans rfl;have hcz32_4:w29.cell? ⟨gb144,4,none⟩=some (.int .i64 a1_4):=(blk_cell BK144.out 4).trans rfl;have hfz32_0:=blk_frozen BK144.out 0;have hfz32_1:=blk_frozen BK144.out 1;have hfz32_2:=blk_frozen BK144.out 2;have hfz32_3:=blk_frozen BK144.out 3;have hfz32_4:=blk_frozen BK144.out 4)));go_ret;(exact ⟨by first|rfl|(simp [errW_none,errW_some] <;> rfl)|(simp [*,errW_none,errW_some] <;> rfl),by repeat (first|(with_reducible first|exact HB.out|apply below_alloc|apply pw_below_drewN|apply below_drew1|refine below_set ?_ GE143.out|refine below_set ?_ GE144.out)|exact HB.out)⟩)
 ·
  (rw [if_neg c3] at H);(have c3b0:(a0_0.toList == a1_0.toList)=false:=beq_eq_false_iff_ne.mpr c3);(have c3b1:(a0_0.toList != a1_0.toList)=true:=bne_iff_ne.mpr c3);(obtain rfl:=Option.some.inj H);(go_enter Tryd.func97,Tryd.ntmps97);(go_wp2_with (first|((with_reducible refine gate_dst (N:=2) rfl ?_);refine box_event ?hg (N:=2) ?hd (cs:=#[.string a0_0,.int .i64 a0_1,.int .i64 a0_2,.int .i64 a0_3,.int .i64 a0_4]) (t:=30) ?hr ?_;(case hd=>rfl);(case hg=>rfl);(case hr=>first|(go_simp;done)|(go_simp;rfl));intro gb143 hg w33 hbox hb;have n0_:=bB HB hb;have n1_:=Aside0.mk (hbox);have n2_:=Aside0.mk ((by rw [hg];exact (below_size (bz HB)):w.heap.size≤gb143));have n3_:=Aside0.mk ((by rw [hg];exact (below_size (bz HB)):w.heap.size≤gb143));clear HB;have HB:=n0_;have BK143:=n1_;have GW143:=n2_;have GE143:=n3_;clear n0_ n1_ n2_ n3_;clear hb hbox hg)|((with_reducible refine gate_dst (N:=3) rfl ?_);refine box_event ?hg (N:=3) ?hd (cs:=#[.string a1_0,.int .i64 a1_1,.int .i64 a1_2,.int .i64 a1_3,.int .i64 a1_4]) (t:=30) ?hr ?_;(case hd=>rfl);(case hg=>rfl);(case hr=>first|(go_simp;done)|(go_simp;rfl));intro gb144 hg w34 hbox hb;have n0_:=kB BK143 hb;have n1_:=bB HB hb;have n2_:=Aside0.mk (hbox);have n3_:=Aside0.mk ((by rw [hg];exact (below_size (bz HB)):w.heap.size≤gb144));have n4_:=Aside0.mk ((by rw [hg];exact (below_size (bz HB)):w.heap.size≤gb144));have n5_:=Aside0.mk ((by rw [hg];exact Nat.ne_of_lt (blk_lt (g:=gb143) (o:=.cells #[.string a0_0,.int .i64 a0_1,.int .i64 a0_2,.int .i64 a0_3,.int .i64 a0_4] 30 (0,0)) (by (with_reducible repeat (first|apply kN|apply kD|apply kA));exact BK143.out)):gb143≠gb144));have n6_:=Aside0.mk ((by rw [hg];exact Nat.ne_of_gt (blk_lt (g:=gb143) (o:=.cells #[.string a0_0,.int .i64 a0_1,.int .i64 a0_2,.int .i64 a0_3,.int .i64 a0_4] 30 (0,0)) (by (with_reducible repeat (first|apply kN|apply kD|apply kA));exact BK143.out)):gb144≠gb143));clear BK143;clear HB;have BK143:=n0_;have HB:=n1_;have BK144:=n2_;have GW144:=n3_;have GE144:=n4_;have NB143_144:=n5_;have NB144_143:=n6_;clear n0_ n1_ n2_ n3_ n4_ n5_ n6_;clear hb hbox hg;have hnb35:=NB143_144.out;have hnc35:=NB144_143.out;have hcz36_0:w34.cell? ⟨gb143,0,none⟩=some (.string a0_0):=(blk_cell BK143.out 0).trans rfl;have hcz36_1:w34.cell? ⟨gb143,1,none⟩=some (.int .i64 a0_1):=(blk_cell BK143.out 1).trans rfl;have hcz36_2:w34.cell? ⟨gb143,2,none⟩=some (.int .i64 a0_2):=(blk_cell BK143.out 2).trans rfl;have hcz36_3:w34.cell? ⟨gb143,3,none⟩=some (.int .i64 a0_3):=(blk_cell BK143.out 3).trans rfl;have hcz36_4:w34.cell? ⟨gb143,4,none⟩=some (.int .i64 a0_4):=(blk_cell BK143.out 4).trans rfl;have hfz36_0:=blk_frozen BK143.out 0;have hfz36_1:=blk_frozen BK143.out 1;have hfz36_2:=blk_frozen BK143.out 2;have hfz36_3:=blk_frozen BK143.out 3;have hfz36_4:=blk_frozen BK143.out 4;have hcz37_0:w34.cell? ⟨gb144,0,none⟩=some (.string a1_0):=(blk_cell BK144.out 0).trans rfl;have hcz37_1:w34.cell? ⟨gb144,1,none⟩=some (.int .i64 a1_1):=(blk_cell BK144.out 1).trans rfl;have hcz37_2:w34.cell? ⟨gb144,2,none⟩=some (.int .i64 a1_2):=(blk_cell BK144.out 2).trans rfl;have hcz37_3:w34.cell? ⟨gb144,3,none⟩=some (.int .i64 a1_3):=(blk_cell BK144.out 3).trans rfl;have hcz37_4:w34.cell? ⟨gb144,4,none⟩=some (.int .i64 a1_4):=(blk_cell BK144.out 4).trans rfl;have hfz37_0:=blk_frozen BK144.out 0;have hfz37_1:=blk_frozen BK144.out 1;have hfz37_2:=blk_frozen BK144.out 2;have hfz37_3:=blk_frozen BK144.out 3;have hfz37_4:=blk_frozen BK144.out 4)));go_ret;(exact ⟨by first|rfl|(simp [errW_none,errW_some] <;> rfl)|(simp [*,errW_none,errW_some] <;> rfl),by repeat (first|(with_reducible first|exact HB.out|apply below_alloc|apply pw_below_drewN|apply below_drew1|refine below_set ?_ GE143.out|refine below_set ?_ GE144.out)|exact HB.out)⟩)
end Go.Proofs.YtmfnipkfpjpjeaaDoor.PE
end
